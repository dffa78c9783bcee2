import PyProof.Rows.All
import Wide.Line
import Wide.Tac
import Wide.Loose
import Open.Line
import OpenK.KWalk
import PyProof.TupleKey
import PyProof.DictFindH
import PyProof.Ns1
import PyProof.StrWalks
import PyProof.Rows.TopObj
import PyProof.Rows.PlainObj
import PyProof.Rows.PlainNoArg
import PyProof.Rows.PlainEq
import PyProof.ObjNew
import PyProof.ListStr
import PyProof.InstStoreFacts
import PyProof.DictWalks
import KE.KSortKey
import KE.KMinKey
import KE.KLam
import PySem.Challenge.RW_uf010019_08
set_option Elab.async false
set_option autoImplicit false
set_option genSizeOf false
set_option bootstrap.genMatcherCode false
set_option linter.all false
set_option tactic.hygienic false
set_option genInjectivity false
set_option genCtorIdx false
set_option backward.match.sparseCases false
namespace Mine
set_option tactic.hygienic true
set_option maxRecDepth 100000
open PySem PySem.W PyProof.Rows
noncomputable def view08:Program:={ PySem.Challenge.pw_uf010019_08 with main:={ PySem.Challenge.pw_uf010019_08.main with body:=PySem.Challenge.pw_uf010019_08.main.body.filter fun st=>match st with | .Assign [.Name x _] _ _=>x != Str.ofString "__name__" | _=>true } }
theorem said08:PySem.Challenge.rw_uf010019_08.wellSaid=true:=by kernel_rfl
noncomputable def hook08:Hook:=⟨Bool,fun _=>true,fun _=>true,fun _ _=>True,fun _ _ _=>trivial,fun _ _ _ _ _=>trivial⟩
noncomputable def tabV (vs:Array Value):Option Addr:=match vs[11]? with | some v=>(match v with | .ref P=>some P | _=>none) | none=>none
noncomputable def tabC (o:Option Obj):Option Addr:=match o with | some oc=>(match oc.data with | .fields vs=>tabV vs | _=>none) | none=>none
noncomputable def tabF (h:Heap) (cd:Value):Option Addr:=match cd with | .ref c=>tabC (h.get? c) | _=>none
noncomputable def tabB (h:Heap) (n:Str):Option Addr:=match h.fnAt mainGlobals n with | some x=>tabF h x.2.2.code | none=>none
noncomputable def apB (n m:Str) (s:Shared):Bool:=match tabB s.heap n with | some p=>(match tabB s.heap m with | some q=>!(p == q) | none=>false) | none=>false
noncomputable def TabOf (mg:Str->Option Value) (h:Heap) (n:Str) (P:Addr):Prop:=∃ a o fd c oc vs,mg n=some (.ref a)/\h.get? a=some o/\o.data=.func fd/\fd.code=.ref c/\h.get? c=some oc/\oc.data=.fields vs/\vs[11]? = some (.ref P)
noncomputable def Ap (n m:Str) (mg:Str->Option Value) (h:Heap):Prop:=∃ P Q,TabOf mg h n P/\TabOf mg h m Q/\P≠Q
theorem tabB_of {h:Heap} {n:Str} {P:Addr} (e:tabB h n=some P):TabOf (h.nsMap mainGlobals) h n P:=by
 unfold tabB at e
 cases h1:h.fnAt mainGlobals n with
 | none=>rw [h1] at e; cases e
 | some x =>
  obtain ⟨a,o,fd⟩:=x
  rw [h1] at e
  obtain ⟨e1,e2,e3⟩:=Heap.fnAt_spec h1
  have e:tabF h fd.code=some P:=e
  cases h2:fd.code with
  | ref c =>
   rw [h2] at e
   have e:tabC (h.get? c)=some P:=e
   cases h3:h.get? c with
   | none=>rw [h3] at e; cases e
   | some oc =>
    rw [h3] at e
    have e:(match oc.data with | .fields vs=>tabV vs | _=>none)=some P:=e
    cases h4:oc.data with
    | fields vs =>
     rw [h4] at e
     have e:(match vs[11]? with | some v=>(match v with | .ref P=>some P | _=>none) | none=>none)=some P:=e
     cases h5:vs[11]? with
     | none=>rw [h5] at e; cases e
     | some v =>
      rw [h5] at e
      cases v with
      | ref Q=>cases e; exact ⟨a,o,fd,c,oc,vs,e1,e2,e3,h2,h3,h4,h5⟩
      | _=>cases e
    | _=>rw [h4] at e; cases e
  | _=>rw [h2] at e; cases e
theorem apB_of {n m:Str} {s:Shared} (e:apB n m s=true):Ap n m (s.heap.nsMap mainGlobals) s.heap:=by
 unfold apB at e
 cases h1:tabB s.heap n with
 | none=>rw [h1] at e; cases e
 | some P =>
  rw [h1] at e
  cases h2:tabB s.heap m with
  | none=>rw [h2] at e; cases e
  | some Q =>
   rw [h2] at e
   refine ⟨P,Q,tabB_of h1,tabB_of h2,fun q=>?_⟩
   subst q
   have e:(!(P == P))=true:=e
   rw [beq_self_eq_true] at e; cases e
theorem TabOf.keeps {mg:Str->Option Value} {h h':Heap} {n:Str} {P:Addr} (x:TabOf mg h n P) (hk:∀ b o,h.get? b=some o->h'.get? b=some o):TabOf mg h' n P :=
 let ⟨a,o,fd,c,oc,vs,e1,e2,e3,e4,e5,r⟩:=x; ⟨a,o,fd,c,oc,vs,e1,hk _ _ e2,e3,e4,hk _ _ e5,r⟩
noncomputable def nm1:Str:=Str.ofString "ordered"
noncomputable def nm2:Str:=Str.ofString "_law_model"
noncomputable def XP08 (mg:Str->Option Value) (h:Heap):Prop:=XL view08 [] mg h/\Ap nm1 nm2 mg h
theorem XP08.keeps (mg:Str->Option Value) (h h':Heap) (x:XP08 mg h) (hk:∀ b o,h.get? b=some o->h'.get? b=some o):XP08 mg h' :=
 ⟨XL.keeps mg h h' x.1 hk,let ⟨P,Q,a,b,c⟩:=x.2; ⟨P,Q,a.keeps hk,b.keeps hk,c⟩⟩
noncomputable def xt08 (s:Shared):Bool:=(xlAt view08 [] s&&recOk (RowW.records (OpenRow.toRowW (PySem.Challenge.rw_uf010019_08.row))) s)&&apB nm1 nm2 s
theorem xt08_of (s:Shared) (e:xt08 s=true):XP08 (s.heap.nsMap mainGlobals) s.heap:=⟨xl_of s (Bool.and_eq_true_iff.mp (Bool.and_eq_true_iff.mp e).1).1,apB_of (Bool.and_eq_true_iff.mp e).2⟩
theorem comb {α β1 β2 β3 β4 β5:Type} {o:Option α} {f1:α->β1} {f2:α->β2} {f3:α->β3} {f4:α->β4} {f5:α->β5} {b1:β1} {b2:β2} {b3:β3} {b4:β4} {b5:β5} (h₁:o.map (fun s=>(f1 s,f2 s))=some (b1,b2)) (h2:o.map f3=some b3) (h3:o.map (fun s=>(f4 s,f5 s))=some (b4,b5)):o.map (fun s=>((f1 s,f2 s,f3 s,f4 s),f5 s))=some ((b1,b2,b3,b4),b5):=by
 cases o with
 | none=>cases h2
 | some s =>
  obtain ⟨e₁,e2⟩:=Prod.mk.inj (Option.some.inj h₁)
  obtain ⟨e4,e5⟩:=Prod.mk.inj (Option.some.inj h3)
  have e3:=Option.some.inj h2
  show some ((f1 s,f2 s,f3 s,f4 s),f5 s)=_
  rw [e₁,e2,e3,e4,e5]
theorem left08a:∀ w,(openEnds treeTable PySem.Challenge.rw_uf010019_08.row.toRowW.prog w 5300).map (fun s=>(seen ((recsOf view08).map (·.name)) (ownsOf view08) [] { s with gens:=#[] },s.heap.bltView))=some (expectedOf view08,bltViewBooted):=by
 intro w; kernel_rfl
theorem left08b:∀ w,(openEnds treeTable PySem.Challenge.rw_uf010019_08.row.toRowW.prog w 5300).map (fun s=>(openSeen view08 [] (importedModules PySem.Challenge.rw_uf010019_08.row.toRowW.prog.main.body) xt08 true s).2.2.1)=some true:=by
 intro w; kernel_rfl
theorem left08c:∀ w,(openEnds treeTable PySem.Challenge.rw_uf010019_08.row.toRowW.prog w 5300).map (fun s=>((openSeen view08 [] (importedModules PySem.Challenge.rw_uf010019_08.row.toRowW.prog.main.body) xt08 true s).2.2.2,Hook.obs hook08 s))=some ((openGood view08 []).2.2.2,Hook.val hook08 w):=by
 intro w; kernel_rfl
theorem left08:LeftO PySem.Challenge.rw_uf010019_08.row.toRowW.prog view08 [] xt08 (Hook.obs hook08) (Hook.val hook08) 5300:=fun w=>by
 have h:=comb (left08a w) (left08b w) (left08c w)
 exact h
end Mine
namespace Mine
set_option tactic.hygienic true
set_option backward.match.sparseCases true
set_option genInjectivity true
open PySem
section
variable {prog:Program} {w:World} {A:Around} {E:Value->Shared->Prop} {s:Shared}
theorem eqBool_str_int {a:Str} {b:Int} {t u:Tok} {Q:Bool->Shared->Prop} (h:Q false s):wpAny (model prog w) A (eqBool (.str a t) (.int b u)) Q E s:=by
 unfold eqBool
 refine wpAny_holding ?_
 rw [if_neg (show ¬ ((Value.str a t == Value.int b u)=true) from fun q=>nomatch eq_of_beq q)]
 show wpAny _ _ (compareOp .Eq (.str a t) (.int b u)>>=fun r=>truthOfDropped r) Q E s
 exact wpAny_bind (EqMixed.eq_str_int (wpAny_truthy_bool h))
theorem eqBool_int_str {a:Str} {b:Int} {t u:Tok} {Q:Bool->Shared->Prop} (h:Q false s):wpAny (model prog w) A (eqBool (.int b u) (.str a t)) Q E s:=by
 unfold eqBool
 refine wpAny_holding ?_
 rw [if_neg (show ¬ ((Value.int b u == Value.str a t)=true) from fun q=>nomatch eq_of_beq q)]
 show wpAny _ _ (compareOp .Eq (.int b u) (.str a t)>>=fun r=>truthOfDropped r) Q E s
 exact wpAny_bind (EqMixed.eq_int_str (wpAny_truthy_bool h))
end
noncomputable def BH (prog:Program) (w:World):KeyKind prog w (Str ⊕ Int) where
 is:=fun k v=>match k with | .inl x=>Value.isStrOf x v | .inr i=>Value.isInt i v
 hash:=fun k=>match k with | .inl x=>hashStr w x | .inr i=>hashInt i
 inj:=fun v a b ha hb=>by
  cases a with
  | inl x =>
   obtain ⟨t,rfl⟩:=Value.isStrOf_shape ha
   cases b with
   | inl y=>exact congrArg _ (Value.isStrOf_inj _ _ _ ha hb)
   | inr j=>obtain ⟨t',e⟩:=Value.isInt_shape hb; cases e
  | inr i =>
   obtain ⟨t,rfl⟩:=Value.isInt_shape ha
   cases b with
   | inl y=>obtain ⟨t',e⟩:=Value.isStrOf_shape hb; cases e
   | inr j=>exact congrArg _ (Value.isInt_inj _ _ _ ha hb)
 byValue:=fun k v h=>by
  cases k with
  | inl x=>obtain ⟨t,rfl⟩:=Value.isStrOf_shape h; rfl
  | inr i=>obtain ⟨t,rfl⟩:=Value.isInt_shape h; rfl
 pyHash:=fun {A E s k v Q} hv h=>by
  cases k with
  | inl x=>obtain ⟨t,rfl⟩:=Value.isStrOf_shape hv; exact wpAny_pyHash_str h
  | inr i=>obtain ⟨t,rfl⟩:=Value.isInt_shape hv; exact wpAny_pyHash_int h
 eqBool:=fun {A E s a b u v Q} hu hv h=>by
  cases a with
  | inl x =>
   obtain ⟨t,rfl⟩:=Value.isStrOf_shape hu
   cases b with
   | inl y=>obtain ⟨t',rfl⟩:=Value.isStrOf_shape hv; exact wpAny_eqBool_str (by simpa using h)
   | inr j=>obtain ⟨t',rfl⟩:=Value.isInt_shape hv; exact eqBool_str_int (by simpa using h)
  | inr i =>
   obtain ⟨t,rfl⟩:=Value.isInt_shape hu
   cases b with
   | inl y=>obtain ⟨t',rfl⟩:=Value.isStrOf_shape hv; exact eqBool_int_str (by simpa using h)
   | inr j=>obtain ⟨t',rfl⟩:=Value.isInt_shape hv; rw [show decide ((Sum.inr i:Str ⊕ Int)=Sum.inr j)=decide (i=j) by simp] at h; exact wpAny_eqBool_int h
 «strs»:=fun k x t v h=>by
  cases k with
  | inl y=>exact (strKind prog w).«strs» y x t v h
  | inr i=>obtain ⟨t',e⟩:=Value.isInt_shape h; cases e
end Mine
namespace Mine
open PySem
set_option genCtorIdx true in
inductive V where
 | d (x:PyData)
 | ref (k:Nat)
 | tup (ws:List (PyData ⊕ Nat))
 | ty (t:String)
 | obj (ks:List Nat)
 | pr (x y:V)
set_option genCtorIdx true in
inductive O where
 | list (vs:List V)
 | dictS (kvs:List (Str×PyData))
 | dictP (kvs:List ((Str×Int)×PyData))
noncomputable abbrev Ab:=List O
noncomputable abbrev Af:=List (Option V)
noncomputable def line:Nat:=16777216
section
variable {α β:Type} {a b:α} {l:List α} {P:Prop}
theorem Ac (h:none=some a):P:=nomatch h
theorem some_ne (h:some a=none):P:=nomatch h
theorem ff_ (h:false=true):P:=nomatch h
theorem tt_ (h:true=false):P:=nomatch h
theorem cons_ne (h:a::l=[]):P:=nomatch h
theorem Cf {m n:Nat} (h:m=n) (e:Nat.beq m n=false):P:=by rw [h,Nat.beq_refl] at e; cases e
theorem Aq {o:Option α} (h:o=none) (e:o=some a):P:=Ac (h.symm.trans e)
theorem Av {o:Option α} (h:o=some a) (e:o=some b):a=b:=Option.some.inj (h.symm.trans e)
theorem Aa {o:Option α} {f:α->Option β} {y:β} (h:o.bind f=some y):∃ x,o=some x/\f x=some y:=by
 cases o with
 | none=>exact Ac h
 | some x=>exact ⟨x,rfl,h⟩
theorem AS {c:Prop} [Decidable c] (h:(if c then some a else none)=some b):c/\a=b:=by
 by_cases hc:c
 ·rw [if_pos hc] at h; exact ⟨hc,Option.some.inj h⟩
 ·rw [if_neg hc] at h; exact Ac h
end
structure Top where
 prog:Program
 w:World
 h0:Heap
 fn:Nat->Option Addr
 tabs:List (Addr×Str)
 gens:Array GenState
 os:OsState
 cls:Addr
structure G where
 fz:Addr->Option Obj
 hid:Addr->Option Obj
 mu:List Addr
noncomputable def BP (fz:Addr->Option Obj) (cl:String) (x:Value) (P:List Value->Prop) (n:Nat):Prop :=
 ∀ R_:Value->Prop,(∀ (a:Addr) (o:Obj) (vs:Array Value) (m:Nat),fz a=some o->o.cls=.type cl->o.data=.seq vs m->P vs.toList->n<=line->R_ (.ref a))->R_ x
mutual
noncomputable def A2 (fz:Addr->Option Obj):PyData->Value->Prop
 | .none,x=>x=.none
 | .bool b,x=>x=.bool b
 | .int i,x=>∃ t,x=.int i t
 | .str s,x=>∃ t,x=.str s t/\s.length<=line
 | .list ds,x=>BP fz "list" x (fun vs=>RepDs fz ds vs) ds.length
 | .tuple ds,x=>BP fz "tuple" x (fun vs=>RepDs fz ds vs) ds.length
 | .dict _,_=>False
noncomputable def RepDs (fz:Addr->Option Obj):List PyData->List Value->Prop
 | [],[]=>True
 | d::ds,v::vs=>A2 fz d v/\RepDs fz ds vs
 | _,_=>False
end
noncomputable def Au {α β:Type} (R:α->β->Prop):List α->List β->Prop
 | [],[]=>True
 | a::as,b::bs=>R a b/\Au R as bs
 | _,_=>False
section
variable {α β:Type} {R S:α->β->Prop}
theorem Au.mono (h:∀ a b,R a b->S a b):∀ {as:List α} {bs:List β},Au R as bs->Au S as bs
 | [],[],_=>trivial
 | _::_,_::_,x=>⟨h _ _ x.1,Au.mono h x.2⟩
 | [],_::_,x=>x
 | _::_,[],x=>x
theorem Au.length:∀ {as:List α} {bs:List β},Au R as bs->as.length=bs.length
 | [],[],_=>rfl
 | _::_,_::_,x=>congrArg (· + 1) (Au.length x.2)
 | [],_::_,x=>x.elim
 | _::_,[],x=>x.elim
theorem Au.get:∀ {as:List α} {bs:List β},Au R as bs->∀ {k:Nat} {a:α},as[k]? = some a->∃ b,bs[k]? = some b/\R a b
 | _::_,b::_,x,0,_,e=>⟨b,rfl,Option.some.inj e▸x.1⟩
 | _::_,_::_,x,k+1,a,e=>Au.get x.2 (k:=k) (a:=a) e
 | [],[],_,_,_,e=>Ac e
 | [],_::_,x,_,_,_=>x.elim
 | _::_,[],x,_,_,_=>x.elim
theorem Au.append:∀ {as as':List α} {bs bs':List β},Au R as bs->Au R as' bs'->Au R (as++as') (bs++bs')
 | [],_,[],_,_,y=>y
 | _::_,_,_::_,_,x,y=>⟨x.1,Au.append x.2 y⟩
 | [],_,_::_,_,x,_=>x.elim
 | _::_,_,[],_,x,_=>x.elim
theorem Au.drop:∀ (n:Nat) {as:List α} {bs:List β},Au R as bs->Au R (as.drop n) (bs.drop n)
 | 0,_,_,h=>h
 | _+1,[],[],_=>trivial
 | n+1,_::_,_::_,h=>Au.drop n h.2
 | _+1,[],_::_,h=>h.elim
 | _+1,_::_,[],h=>h.elim
theorem Au.take:∀ (n:Nat) {as:List α} {bs:List β},Au R as bs->Au R (as.take n) (bs.take n)
 | 0,_,_,_=>trivial
 | _+1,[],[],_=>trivial
 | n+1,_::_,_::_,h=>⟨h.1,Au.take n h.2⟩
 | _+1,[],_::_,h=>h.elim
 | _+1,_::_,[],h=>h.elim
theorem Au.set:∀ (j:Nat) {as:List α} {bs:List β} {a:α} {b:β},Au R as bs->R a b->Au R (as.set j a) (bs.set j b)
 | _,[],[],_,_,_,_=>trivial
 | 0,_::_,_::_,_,_,h,r=>⟨r,h.2⟩
 | j+1,_::_,_::_,_,_,h,r=>⟨h.1,Au.set j h.2 r⟩
 | _,[],_::_,_,_,h,_=>h.elim
 | _,_::_,[],_,_,h,_=>h.elim
theorem Au.cons {a:α} {as:List α} {bs:List β} (h:Au R (a::as) bs):∃ b r,bs=b::r/\R a b/\Au R as r:=by
 cases bs with
 | nil=>exact h.elim
 | cons b r=>exact ⟨b,r,rfl,h.1,h.2⟩
theorem Au.nil {bs:List β} (h:Au R [] bs):bs=[]:=by
 cases bs with
 | nil=>rfl
 | cons b r=>exact h.elim
theorem Au.one {a:α} {bs:List β} (h:Au R [a] bs):∃ b,bs=[b]/\R a b:=by
 obtain ⟨b,r,e,h1,h2⟩:=h.cons
 exact ⟨b,by rw [e,h2.nil],h1⟩
theorem Au.two {a a':α} {bs:List β} (h:Au R [a,a'] bs):∃ b b',bs=[b,b']/\R a b/\R a' b':=by
 obtain ⟨b,r,e,h1,h2⟩:=h.cons
 obtain ⟨b',e',h3⟩:=h2.one
 exact ⟨b,b',by rw [e,e'],h1,h3⟩
end
noncomputable def Gf (g:G):PyData ⊕ Nat->Value->Prop
 | .inl x,v=>A2 g.fz x v
 | .inr k,v=>∃ a,g.mu[k]? = some a/\v=.ref a
noncomputable def Cu:List Str:=[Str.ofString "held",Str.ofString "grounds",Str.ofString "heights"]
noncomputable def Ns1F (f:Addr->Option Obj) (a:Addr) (m:Str->Option Value):Prop:=∃ o es ep,f a=some o/\o.data=.dict es ep/\StrKeys es/\UniqKeys es/\∀ name,nsFind es name=m name
noncomputable def ObjIs (T:Top) (g:G) (v:Value) (ks:List Nat):Prop :=
 ∀ R_:Value->Prop,(∀ (a d:Addr) (o:Obj) (mA:Str->Option Value),g.fz a=some o->o.cls=.ref T.cls->(∀ c,o.data≠.cls c)->o.dict=some d->d≠a->Ns1F g.fz d mA->(∀ nm,nm∉Cu->mA nm=none)->Au (fun (k:Nat) (nm:Str)=>∃ a,g.mu[k]? = some a/\mA nm=some (.ref a)) ks Cu->R_ (.ref a))->R_ v
noncomputable def An (T:Top) (g:G):V->Value->Prop
 | .d x,v=>A2 g.fz x v
 | .ref k,v=>∃ a,g.mu[k]? = some a/\v=.ref a
 | .tup ws,v=>BP g.fz "tuple" v (fun xs=>Au (Gf g) ws xs) ws.length
 | .ty t,v=>v=.type t
 | .obj ks,v=>ObjIs T g v ks
 | .pr x y,v=>BP g.fz "tuple" v (fun xs=>∃ a b,xs=[a,b]/\An T g x a/\An T g y b) 2
noncomputable def ListIs (o:Obj) (P:List Value->Prop) (n:Nat):Prop :=
 ∀ R_:Obj->Prop,(∀ (xs:Array Value) (m:Nat),P xs.toList->n<=line->R_ { cls:=.type "list",dict:=none,data:=.seq xs m,slots:=#[] })->R_ o
noncomputable def TabS (T:Top) (fz:Addr->Option Obj) (o:Obj) (kvs:List (Str×PyData)):Prop :=
 ∀ R_:Prop,(∀ (es:Array DictEntry) (ep:Nat) (ws:List (Str×Value)),o.ExactDict->o.data=.dict es ep->KeysOf (strKind T.prog T.w) es->Pairs (strKind T.prog T.w) es.toList ws->(ws.map (·.1)).Nodup->Au (fun (d:Str×PyData) (v:Str×Value)=>d.1=v.1/\A2 fz d.2 v.2) kvs ws->kvs.length<=line->R_)->R_
noncomputable def Fb (k:Str×Int):List (Str ⊕ Int):=[.inl k.1,.inr k.2]
noncomputable def TabP (T:Top) (fz:Addr->Option Obj) (o:Obj) (kvs:List ((Str×Int)×PyData)):Prop :=
 ∀ R_:Prop,(∀ (es:Array DictEntry) (ep:Nat) (ws:List (List (Str ⊕ Int)×Addr×Value)),o.ExactDict->o.data=.dict es ep->es.toList=ws.map (entryOfKey (tupleKind (BH T.prog T.w)))->(ws.map (·.1)).Nodup ->
  Au (fun (d:(Str×Int)×PyData) (v:List (Str ⊕ Int)×Addr×Value)=>Fb d.1=v.1/\A2 fz (.tuple [.str d.1.1,.int d.1.2]) (.ref v.2.1)/\A2 fz d.2 v.2.2) kvs ws->kvs.length<=line->R_)->R_
noncomputable def D0 (T:Top) (g:G):O->Obj->Prop
 | .list vs,o=>ListIs o (fun xs=>Au (An T g) vs xs) vs.length
 | .dictS kvs,o=>TabS T g.fz o kvs
 | .dictP kvs,o=>TabP T g.fz o kvs
noncomputable def FzLe (f f':Addr->Option Obj):Prop:=∀ a o,f a=some o->f' a=some o
structure G.up (g g':G):Prop where
 fz:FzLe g.fz g'.fz
 mu:∀ (k:Nat) (a:Addr),g.mu[k]? = some a->g'.mu[k]? = some a
structure G.le (own:List Addr) (g g':G):Prop extends G.up g g' where
 hid:∀ a,a∉own->g'.hid a=g.hid a
theorem G.up.refl (g:G):G.up g g:=⟨fun _ _ e=>e,fun _ _ e=>e⟩
theorem G.up.trans {g g' g'':G} (x:G.up g g') (y:G.up g' g''):G.up g g'':=⟨fun a o e=>y.fz a o (x.fz a o e),fun k a e=>y.mu k a (x.mu k a e)⟩
theorem G.le.refl (own:List Addr) (g:G):G.le own g g:=⟨.refl g,fun _ _=>rfl⟩
theorem G.le.trans {own:List Addr} {g g' g'':G} (x:G.le own g g') (y:G.le own g' g''):G.le own g g'':=⟨x.toup.trans y.toup,fun a h=>(y.hid a h).trans (x.hid a h)⟩
theorem G.le.toO {own:List Addr} {g g':G} (x:G.le [] g g'):G.le own g g':=⟨x.toup,fun a _=>x.hid a List.not_mem_nil⟩
theorem BP.mono {f f':Addr->Option Obj} {cl:String} {x:Value} {P P':List Value->Prop} {n:Nat} (h:FzLe f f') (hp:∀ vs,P vs->P' vs) (r:BP f cl x P n):BP f' cl x P' n :=
 fun R_ k=>r R_ fun a o vs m hf hc hd hr hl=>k a o vs m (h a o hf) hc hd (hp _ hr) hl
mutual
theorem A2.mono {f f':Addr->Option Obj} (h:FzLe f f'):∀ (d:PyData) (v:Value),A2 f d v->A2 f' d v
 | .none,_,x=>x
 | .bool _,_,x=>x
 | .int _,_,x=>x
 | .str _,_,x=>x
 | .list ds,_,x=>BP.mono h (fun vs=>RepDs.mono h ds vs) x
 | .tuple ds,_,x=>BP.mono h (fun vs=>RepDs.mono h ds vs) x
 | .dict _,_,x=>x
theorem RepDs.mono {f f':Addr->Option Obj} (h:FzLe f f'):∀ (ds:List PyData) (vs:List Value),RepDs f ds vs->RepDs f' ds vs
 | [],[],_=>trivial
 | d::ds,v::vs,x=>⟨A2.mono h d v x.1,RepDs.mono h ds vs x.2⟩
 | [],_::_,x=>x
 | _::_,[],x=>x
end
theorem RepDs.all {f:Addr->Option Obj}:∀ {ds:List PyData} {vs:List Value},RepDs f ds vs->Au (A2 f) ds vs
 | [],[],_=>trivial
 | _::_,_::_,x=>⟨x.1,RepDs.all x.2⟩
 | [],_::_,x=>x.elim
 | _::_,[],x=>x.elim
theorem RepDs.of {f:Addr->Option Obj}:∀ {ds:List PyData} {vs:List Value},Au (A2 f) ds vs->RepDs f ds vs
 | [],[],_=>trivial
 | _::_,_::_,x=>⟨x.1,RepDs.of x.2⟩
 | [],_::_,x=>x.elim
 | _::_,[],x=>x.elim
theorem Ns1F.to {f f':Addr->Option Obj} {a:Addr} {m:Str->Option Value} (x:Ns1F f a m) (h:FzLe f f'):Ns1F f' a m:=x.imp fun o x=>x.imp fun _ x=>x.imp fun _ x=>⟨h a o x.1,x.2⟩
section
variable {T:Top} {g g':G}
theorem Gf.mono (h:G.up g g'):∀ (w:PyData ⊕ Nat) (v:Value),Gf g w v->Gf g' w v
 | .inl x,v,r=>A2.mono h.fz x v r
 | .inr k,v,r=>by obtain ⟨a,e,q⟩:=r; exact ⟨a,h.mu k a e,q⟩
theorem An.mono (h:G.up g g'):∀ (w:V) (v:Value),An T g w v->An T g' w v
 | .d x,v,r=>A2.mono h.fz x v r
 | .ref k,v,r=>by obtain ⟨a,e,q⟩:=r; exact ⟨a,h.mu k a e,q⟩
 | .tup ws,v,r=>BP.mono h.fz (fun vs=>Au.mono (Gf.mono h)) r
 | .ty _,_,r=>r
 | .obj ks,v,r=>fun R_ k=>r R_ fun a d o mA h1 h2 h3 h4 h5 h6 h7 h8=>k a d o mA (h.fz _ _ h1) h2 h3 h4 h5 (h6.to h.fz) h7 (Au.mono (fun _ _=>fun ⟨a,e,q⟩=>⟨a,h.mu _ a e,q⟩) h8)
 | .pr x y,v,r=>BP.mono h.fz (fun vs=>fun ⟨a,b,e,h1,h2⟩=>⟨a,b,e,An.mono h x a h1,An.mono h y b h2⟩) r
noncomputable abbrev Am (T:Top) (g:G):List V->List Value->Prop:=Au (An T g)
theorem Am.mono (h:G.up g g') {ws:List V} {vs:List Value} (r:Am T g ws vs):Am T g' ws vs:=Au.mono (An.mono h) r
theorem An.eta {hd:Addr->Option Obj} {w:V} {v:Value} (r:An T g w v):An T ⟨g.fz,hd,g.mu⟩ w v:=An.mono (g:=g) (g':=⟨g.fz,hd,g.mu⟩) ⟨fun _ _ e=>e,fun _ _ e=>e⟩ w v r
theorem Am.eta {hd:Addr->Option Obj} {ws:List V} {vs:List Value} (r:Am T g ws vs):Am T ⟨g.fz,hd,g.mu⟩ ws vs:=Au.mono (fun _ _=>An.eta) r
theorem D0.mono (h:G.up g g'):∀ (o:O) (x:Obj),D0 T g o x->D0 T g' o x
 | .list vs,_,r=>fun R_ k=>r R_ fun xs m hr hl=>k xs m (Am.mono h hr) hl
 | .dictS kvs,_,r=>fun R_ k=>r R_ fun es ep ws ho hd hk hp hn hr hl=>k es ep ws ho hd hk hp hn (Au.mono (fun d v r=>⟨r.1,A2.mono h.fz _ _ r.2⟩) hr) hl
 | .dictP kvs,_,r=>fun R_ k=>r R_ fun es ep ws ho hd he hn hr hl=>k es ep ws ho hd he hn (Au.mono (fun d v r=>⟨r.1,A2.mono h.fz _ _ r.2.1,A2.mono h.fz _ _ r.2.2⟩) hr) hl
theorem Am.ofD:∀ {ds:List PyData} {vs:List Value},RepDs g.fz ds vs->Am T g (ds.map .d) vs
 | [],[],_=>trivial
 | _::_,_::_,x=>⟨x.1,Am.ofD x.2⟩
 | [],_::_,x=>x.elim
 | _::_,[],x=>x.elim
theorem Am.toD:∀ {ds:List PyData} {vs:List Value},Am T g (ds.map .d) vs->RepDs g.fz ds vs
 | [],[],_=>trivial
 | _::_,_::_,x=>⟨x.1,Am.toD x.2⟩
 | [],_::_,x=>x.elim
 | _::_,[],x=>x.elim
end
noncomputable def TabIs (g:G) (h:Heap) (t:Addr) (q:Str):Prop :=
 ∀ R_:Prop,(∀ ps:Array Value,g.fz t=none->g.hid t=none->t∉g.mu->h.get? t=some { cls:=.none,data:=.fields ps } -> TriplesOk ps.toList ->
  (∀ pos cv,codeAmong pos ps.toList=some cv->∃ c o vs u,cv=.ref c/\g.fz c=some o/\o.data=.fields vs/\vs[1]? = some (.str q u))->R_)->R_
structure Has (T:Top) (g:G) (σ:Ab) (s:Shared):Prop where
 fz:∀ a o,g.fz a=some o->s.heap.get? a=some o
 hd:∀ a o,g.hid a=some o->s.heap.get? a=some o
 len:g.mu.length=σ.length
 nd:g.mu.Nodup
 ap:∀ a,a∈g.mu->g.fz a=none
 ah:∀ a o,g.hid a=some o->g.fz a=none/\a∉g.mu
 ob:∀ (k:Nat) (a:Addr) (o:O),g.mu[k]? = some a->σ[k]? = some o->∀ R_:Prop,(∀ x,s.heap.get? a=some x->D0 T g o x->R_)->R_
 base:∀ a o,T.h0.get? a=some o->g.fz a=some o
 tb:∀ t q,(t,q)∈T.tabs->TabIs g s.heap t q
 gens:s.gens=T.gens
 os:s.os=T.os
noncomputable def BK (T:Top) (own:List Addr) (g:G) (σ':Ab) (R:G->Prop) (s':Shared):Prop:=∀ R_:Prop,(∀ g',G.le own g g'->Has T g' σ' s'->R g'->R_)->R_
theorem BK.mk {T:Top} {own:List Addr} {g:G} {σ':Ab} {R:G->Prop} {s':Shared} (g':G) (le:G.le own g g') (h:Has T g' σ' s') (r:R g'):BK T own g σ' R s':=fun _ k=>k g' le h r
theorem BK.after {T:Top} {own:List Addr} {g g₁:G} {σ':Ab} {R:G->Prop} {s':Shared} (le:G.le own g g₁) (h:BK T own g₁ σ' R s'):BK T own g σ' R s':=fun R_ k=>h R_ fun g' l a r=>k g' (le.trans l) a r
end Mine
namespace Mine
open PySem
theorem Bl (h:Heap):h.get? h.objs.size=none:=Heap.get?_none_of_le (Nat.le_refl _)
theorem AQ:line=sizeLine:=by unfold sizeLine; rfl
structure DD (T:Top) (g:G) (a:Addr):Prop where
 fz:g.fz a=none
 hid:g.hid a=none
 mu:a∉g.mu
 tab:∀ q,(a,q)∉T.tabs
section
variable {T:Top} {own:List Addr} {g g':G} {σ σ':Ab} {s s':Shared} {a:Addr} {o:Obj}
theorem Has.muAlive (H:Has T g σ s) (h:a∈g.mu):∃ o,s.heap.get? a=some o:=by
 obtain ⟨k,hk,e⟩:=List.mem_iff_getElem.mp h
 have hσ:k < σ.length:=H.len▸hk
 exact H.ob k a σ[k] (by rw [List.getElem?_eq_getElem hk,e]) (List.getElem?_eq_getElem hσ) _ fun x hx _=>⟨x,hx⟩
theorem GB {α:Type} {o:Option α} (h:∀ a,o=some a->False):o=none:=by
 cases o with
 | none=>rfl
 | some a=>exact (h a rfl).elim
theorem TabIs.at {h:Heap} {t:Addr} {q:Str} (x:TabIs g h t q):∃ o,h.get? t=some o:=x _ fun _ _ _ _ ho _ _=>⟨_,ho⟩
theorem Has.free (H:Has T g σ s) (h:s.heap.get? a=none):DD T g a :=
 ⟨GB fun o e=>Aq h (H.fz a o e),GB fun o e=>Aq h (H.hd a o e),fun q=>by obtain ⟨o,e⟩:=H.muAlive q; exact Aq h e,fun q m=>by obtain ⟨o,e⟩:=(H.tb _ _ m).at; exact Aq h e⟩
theorem Has.hidTab (H:Has T g σ s) (e:g.hid a=some o) (q:Str):(a,q)∉T.tabs:=fun m=>H.tb _ _ m _ fun _ _ h2 _ _ _ _=>Aq h2 e
theorem Has.re (H:Has T g σ s) (hd:Addr->Option Obj) (hh:∀ a o,hd a=some o->s'.heap.get? a=some o/\g.fz a=none/\a∉g.mu/\∀ q,(a,q)∉T.tabs)
 (kf:∀ b o,g.fz b=some o->s.heap.get? b=some o->s'.heap.get? b=some o) (km:∀ b o,b∈g.mu->s.heap.get? b=some o->s'.heap.get? b=some o) (kt:∀ t q o,(t,q)∈T.tabs->s.heap.get? t=some o->s'.heap.get? t=some o)
 (hg:s'.gens=s.gens) (ho:s'.os=s.os):Has T ⟨g.fz,hd,g.mu⟩ σ s':=by
 have up:G.up g ⟨g.fz,hd,g.mu⟩:=⟨fun _ _ e=>e,fun _ _ e=>e⟩
 refine ⟨fun a o e=>kf a o e (H.fz a o e),fun a o e=>(hh a o e).1,H.len,H.nd,H.ap,fun a o e=>⟨(hh a o e).2.1,(hh a o e).2.2.1⟩,fun k a o e1 e2 R_ r=>H.ob k a o e1 e2 R_ fun x h1 h2=>r x (km a x (List.mem_of_getElem? e1) h1) (D0.mono up _ _ h2),H.base,
  fun t q m R_ r=>H.tb t q m R_ fun ps h1 h2 h3 h4 h5 h6=>r ps h1 (GB fun o e=>(hh _ o e).2.2.2 q m) h3 (kt t q _ m h4) h5 h6,hg.trans H.gens,ho.trans H.os⟩
theorem Has.keep (H:Has T g σ s) (k:∀ b o,s.heap.get? b=some o->s'.heap.get? b=some o) (hg:s'.gens=s.gens:=by rfl) (ho:s'.os=s.os:=by rfl):Has T g σ s' :=
 H.re g.hid (fun a o e=>⟨k _ _ (H.hd a o e),(H.ah a o e).1,(H.ah a o e).2,H.hidTab e⟩) (fun b o _ e=>k b o e) (fun b o _ e=>k b o e) (fun t q o _ e=>k _ o e) hg ho
theorem Has.tok (H:Has T g σ s) (h:s'.heap=s.heap:=by rfl) (hg:s'.gens=s.gens:=by rfl) (ho:s'.os=s.os:=by rfl):Has T g σ s':=H.keep (fun b o e=>h▸e) hg ho
noncomputable def G.hide (g:G) (a:Addr) (o:Obj):G:=⟨g.fz,fun b=>if b=a then some o else g.hid b,g.mu⟩
theorem G.hide_self {g:G}:(g.hide a o).hid a=some o:=if_pos rfl
theorem G.hide_ne {g:G} {b:Addr} (h:b≠a):(g.hide a o).hid b=g.hid b:=if_neg h
theorem G.le.hide (h:a∈own):G.le own g (g.hide a o):=⟨⟨fun _ _ e=>e,fun _ _ e=>e⟩,fun b hb=>G.hide_ne fun q=>hb (q▸h)⟩
theorem Has.hide (H:Has T g σ s) (h1:g.fz a=none) (h2:a∉g.mu) (h3:∀ q,(a,q)∉T.tabs) (k:∀ b x,b≠a->s.heap.get? b=some x->s'.heap.get? b=some x) (h:s'.heap.get? a=some o) (hg:s'.gens=s.gens:=by rfl) (ho:s'.os=s.os:=by rfl):Has T (g.hide a o) σ s':=by
 refine H.re _ (fun b x e=>?_) (fun b x e e'=>k b x (fun q=>Aq h1 (q▸e)) e') (fun b x e e'=>k b x (fun q=>h2 (q▸e)) e') (fun t q x m e=>k _ x (fun e'=>h3 q (e'▸m)) e) hg ho
 by_cases q:b=a
 ·rw [if_pos q] at e; rw [q,<-Option.some.inj e]; exact ⟨h,h1,h2,h3⟩
 ·rw [if_neg q] at e
  exact ⟨k b x q (H.hd b x e),(H.ah b x e).1,(H.ah b x e).2,H.hidTab e⟩
theorem DD.hide (F:DD T g a) (H:Has T g σ s) (h:s.heap.get? a=some o):Has T (g.hide a o) σ s:=H.hide F.fz F.mu F.tab (fun _ _ _ e=>e) h
theorem Has.rehide {o₀:Obj} (H:Has T g σ s) (e:g.hid a=some o₀) (k:∀ b x,b≠a->s.heap.get? b=some x->s'.heap.get? b=some x) (h:s'.heap.get? a=some o) (hg:s'.gens=s.gens:=by rfl) (ho:s'.os=s.os:=by rfl):Has T (g.hide a o) σ s' :=
 H.hide (H.ah a _ e).1 (H.ah a _ e).2 (H.hidTab e) k h hg ho
theorem Has.back {its:List Addr} (H:Has T g' σ s) (le:G.le (its++own) g g') (hn:∀ c,c∈its->g.hid c=none) (k:∀ c o,c∉its->s.heap.get? c=some o->s'.heap.get? c=some o) (hf:∀ c,c∈its->g'.fz c=none/\c∉g'.mu/\∀ q,(c,q)∉T.tabs)
 (hg:s'.gens=s.gens:=by rfl) (ho:s'.os=s.os:=by rfl):∃ hd,Has T ⟨g'.fz,hd,g'.mu⟩ σ s'/\G.le own g ⟨g'.fz,hd,g'.mu⟩/\∀ c,c∉its->hd c=g'.hid c:=by
 refine ⟨fun c=>@ite _ (c∈its) (Classical.propDecidable _) none (g'.hid c),H.re _ (fun a o e=>?_) (fun b o e e'=>k b o (fun q=>Aq (hf b q).1 e) e') (fun b o e e'=>k b o (fun q=>(hf b q).2.1 e) e') (fun t q o m e=>k _ o (fun h=>(hf _ h).2.2 q m) e) hg ho,⟨⟨le.fz,le.mu⟩,fun c hc=>?_⟩,fun c hc=>if_neg hc⟩
 ·by_cases q:a∈its
  ·rw [if_pos q] at e; exact Ac e
  ·rw [if_neg q] at e
   exact ⟨k a o q (H.hd a o e),(H.ah a o e).1,(H.ah a o e).2,H.hidTab e⟩
 ·show @ite _ (c∈its) (Classical.propDecidable _) none (g'.hid c)=_
  by_cases q:c∈its
  ·rw [if_pos q,hn c q]
  ·rw [if_neg q]; exact le.hid c fun h=>(List.mem_append.mp h).elim q hc
noncomputable def G.put (g:G) (a:Addr) (o:Obj):G:=⟨fun b=>if b=a then some o else g.fz b,g.hid,g.mu⟩
theorem G.put_self {g:G}:(g.put a o).fz a=some o:=if_pos rfl
theorem G.le.put (h:g.fz a=none):G.le own g (g.put a o) :=
 ⟨⟨fun b x e=>by show (if b=a then some o else g.fz b)=some x; rw [if_neg (fun q=>by rw [q,h] at e; exact Ac e)]; exact e,fun _ _ e=>e⟩,fun _ _=>rfl⟩
theorem DD.put (F:DD T g a) (H:Has T g σ s) (h:s.heap.get? a=some o):Has T (g.put a o) σ s:=by
 have le:G.le [] g (g.put a o):=.put F.fz
 have ne:∀ {b:Addr},b≠a->(g.put a o).fz b=g.fz b:=fun q=>if_neg q
 refine ⟨fun b x e=>?_,H.hd,H.len,H.nd,fun b hb=>(ne fun q=>F.mu (q▸hb)).trans (H.ap b hb),fun b x e=>⟨(ne fun q=>Aq F.hid (q▸e)).trans (H.ah b x e).1,(H.ah b x e).2⟩,fun k b x e1 e2 R_ r=>H.ob k b x e1 e2 R_ fun y h1 h2=>r y h1 (D0.mono le.toup _ _ h2),fun b x e=>le.fz b x (H.base b x e),fun t q m R_ r=>H.tb t q m R_ fun ps h1 h2 h3 h4 h5 h6=>r ps ((ne fun e=>F.tab q (e▸m)).trans h1) h2 h3 h4 h5 fun pos cv e=>?_,H.gens,H.os⟩
 ·by_cases q:b=a
  ·rw [q] at e ⊢; rw [<-Option.some.inj (G.put_self.symm.trans e)]; exact h
  ·rw [ne q] at e; exact H.fz b x e
 ·obtain ⟨c,o,vs,t,q1,q2,q3⟩:=h6 pos cv e
  exact ⟨c,o,vs,t,q1,le.fz _ _ q2,q3⟩
noncomputable def G.add (g:G) (a:Addr):G:=⟨g.fz,g.hid,g.mu++[a]⟩
theorem G.le.add:G.le own g (g.add a) :=
 ⟨⟨fun _ _ e=>e,fun k b e=>by show (g.mu++[a])[k]? = some b; rw [List.getElem?_append_left (List.getElem?_eq_some_iff.mp e).1]; exact e⟩,fun _ _=>rfl⟩
theorem Has.addAt (H:Has T g σ s):(g.add a).mu[σ.length]? = some a:=by
 show (g.mu++[a])[σ.length]? = some a
 rw [<-H.len,List.getElem?_append_right (Nat.le_refl _),Nat.sub_self]; rfl
theorem EX {α:Type} {l:List α} {a b:α} (h:b∈l++[a]):b∈l\/b=a:=(List.mem_append.mp h).imp id List.mem_singleton.mp
theorem DD.add {ob:O} (F:DD T g a) (H:Has T g σ s) (h:s.heap.get? a=some o) (hr:D0 T (g.add a) ob o):Has T (g.add a) (σ++[ob]) s:=by
 refine ⟨H.fz,H.hd,by show (g.mu++[a]).length=_; rw [List.length_append,List.length_append,H.len]; rfl,?_,fun b hb=>(EX hb).elim (H.ap b) fun q=>q▸F.fz,fun b x e=>⟨(H.ah b x e).1,fun hb=>(EX hb).elim (H.ah b x e).2 fun q=>Aq F.hid (q▸e)⟩,fun k b y e1 e2 R_ r=>?_,H.base,fun t q m R_ r=>H.tb t q m R_ fun ps h1 h2 h3 h4 h5 h6=>r ps h1 h2 (fun h=>(EX h).elim h3 fun e=>F.tab q (e▸m)) h4 h5 h6,H.gens,H.os⟩
 ·show (g.mu++[a]).Nodup
  exact List.nodup_append.mpr ⟨H.nd,List.nodup_cons.mpr ⟨List.not_mem_nil,List.nodup_nil⟩,fun x hx y hy q=>F.mu (List.mem_singleton.mp hy▸q▸hx)⟩
 ·have e1':(g.mu++[a])[k]? = some b:=e1
  by_cases hkl:k < σ.length
  ·rw [List.getElem?_append_left (H.len.symm▸hkl)] at e1'
   rw [List.getElem?_append_left hkl] at e2
   exact H.ob k b y e1' e2 R_ fun z h1 h2=>r z h1 (D0.mono (G.le.add (own:=[])).toup _ _ h2)
  ·have hk':k=σ.length:=by
    have:=(List.getElem?_eq_some_iff.mp e2).1
    rw [List.length_append] at this
    exact Nat.le_antisymm (Nat.le_of_lt_succ this) (Nat.le_of_not_lt hkl)
   rw [hk'] at e1 e2
   have e3:(σ++[ob])[σ.length]? = some ob:=List.getElem?_concat_length
   rw [<-Av H.addAt e1,<-Av e3 e2] at r
   exact r o h hr
theorem Has.turn {k:Nat} {ob:O} (H:Has T g σ s) (hk:g.mu[k]? = some a) (hs:∀ b x,b≠a->s.heap.get? b=some x->s'.heap.get? b=some x) (hx:s'.heap.get? a=some o) (hr:D0 T g ob o) (hg:s'.gens=s.gens:=by rfl) (ho:s'.os=s.os:=by rfl):Has T g (σ.set k ob) s':=by
 have hm:a∈g.mu:=List.mem_of_getElem? hk
 refine ⟨fun b x e=>hs b x (fun q=>Aq (H.ap a hm) (q▸e)) (H.fz b x e),fun b x e=>hs b x (fun q=>(H.ah b x e).2 (q▸hm)) (H.hd b x e),by rw [List.length_set]; exact H.len,H.nd,H.ap,H.ah,fun j b y e1 e2 R_ r=>?_,H.base,fun t q m R_ r=>H.tb t q m R_ fun ps h1 h2 h3 h4 h5 h6=>r ps h1 h2 h3 (hs _ _ (fun q=>h3 (q▸hm)) h4) h5 h6,hg.trans H.gens,ho.trans H.os⟩
 ·by_cases q:j=k
  ·rw [q] at e1 e2
   have hkl:k < σ.length:=H.len▸(List.getElem?_eq_some_iff.mp hk).1
   rw [<-Av hk e1,<-Av (List.getElem?_set_self hkl) e2] at r
   exact r o hx hr
  ·rw [List.getElem?_set_ne (fun h=>q h.symm)] at e2
   refine H.ob j b y e1 e2 R_ fun z h1 h2=>r z (hs b z (fun q'=>q ?_) h1) h2
   obtain ⟨l1,m1⟩:=List.getElem?_eq_some_iff.mp e1
   obtain ⟨l2,m2⟩:=List.getElem?_eq_some_iff.mp hk
   exact (List.getElem_inj H.nd).mp (m1.trans (q'.trans m2.symm))
end
end Mine
namespace Mine
open PySem
set_option genCtorIdx true in
inductive Meth where
 | append | join | index | insert | pop | extend | remove | clear | get
set_option genCtorIdx true in
inductive Bi where
 | len | sorted | min | isinstance | str | all | any | list | max | ord | int | repr
inductive E where
 | cst (x:PyData)
 | var (i:Nat)
 | ty (t:String)
 | glb (x:PyData)
 | bin (op:Operator) (a b:E)
 | neg (a:E)
 | not (a:E)
 | bop (op:BoolOp) (es:E)
 | cmp (op:CmpOp) (a b:E)
 | nil
 | cons (a r:E)
 | tup (es:E)
 | lst (es:E)
 | dct
 | sub (a i:E)
 | slc (a lo hi:E)
 | bi (b:Bi) (es:E)
 | maxd (a z:E)
 | sortr (a:E)
 | sortk (rev:Bool) (a:E) (i:Nat) (key:E)
 | fcall (f:Nat) (es:E)
 | meth (m:Meth) (o es:E)
 | attr (nm:Str) (o:E)
 | mcall (nm:Str) (o es:E)
 | new
 | comp (elt:E) (ts:List Nat) (it ifs:E)
 | range (es:E)
 | zip (a b:E)
 | enum (a:E)
inductive S where
 | any
 | nil
 | cons (s r:S)
 | asg (x:Nat) (e:E)
 | unp (xs:List Nat) (e:E)
 | swp (xs:List Nat) (es:E)
 | set (o i v:E)
 | exp (e:E)
 | ite (c:E) (a b:S)
 | for_ (ts:List Nat) (it:E) (body:S)
 | while_ (c:E) (body:S)
 | ret (e:E)
 | setd (x:Nat) (nm:Str)
 | swl (i j l:Nat) (es:E)
set_option genCtorIdx true in
inductive GV where
 | fn (f:Nat)
 | bi (b:Bi)
 | ty (t:String)
 | cst (x:PyData)
 | cls
structure Kx where
 vars:List Str
 names:List (Str×NameKind)
 wr:List Str
 gl:Str->Option GV
 lam:Option (Addr×Str)
noncomputable def Kx.kd (K:Kx) (n:Str) (k:NameKind):Bool:=decide (K.names.lookup n=some k)
noncomputable def Kx.isVar (K:Kx) (n:Str):Bool:=(K.kd n .local||(K.kd n .cell||K.kd n .free)) && !(n == ("__debug__" : Str)) && !(n == ("__classdict__" : Str))
noncomputable def Kx.isGl (K:Kx) (n:Str):Bool:=K.kd n .globalImplicit && !(n == ("__debug__" : Str))
noncomputable def Kx.canWr (K:Kx) (i:Nat) (n:Str):Bool:=decide (K.vars[i]? = some n)&&K.wr.contains n&&(K.kd n .local||K.kd n .cell)
theorem Kx.kd_eq {K:Kx} {n:Str} {k:NameKind} (h:K.kd n k=true):K.names.lookup n=some k:=of_decide_eq_true h
noncomputable def Kx.isAt (K:Kx) (i:Nat) (n:Str):Bool:=match K.vars[i]? with | some m=>m == n | none=>false
noncomputable def toC (x:PyData):Const:=match x with | .bool b=>.bool b | .int i=>.int i | .str t=>.str t | _=>.none
noncomputable def cOk (x:PyData):Bool:=match x with | .none=>true | .bool _=>true | .int _=>true | .str t=>decide (t.cps.size<=16777216) | _=>false
noncomputable def FW (x y:PyData):Bool :=
 match x with
 | .int a=>(match y with | .int b=>a == b | _=>false)
 | .str a=>(match y with | .str b=>a == b | _=>false)
 | _=>false
noncomputable def gvIs (v w:GV):Bool :=
 match v with
 | .fn f=>(match w with | .fn f'=>f == f' | _=>false)
 | .bi f=>(match w with | .bi f'=>Nat.beq f.ctorIdx f'.ctorIdx | _=>false)
 | .ty f=>(match w with | .ty f'=>f == f' | _=>false)
 | .cst x=>(match w with | .cst y=>FW x y | _=>false)
 | .cls=>(match w with | .cls=>true | _=>false)
noncomputable def G4 (K:Kx) (v:GV) (n:Str):Bool:=K.isGl n&&(match K.gl n with | some w=>gvIs w v | none=>false)
noncomputable def DR:Meth->String
 | .append => "append" | .join => "join" | .index => "index" | .insert => "insert" | .pop => "pop" | .extend => "extend" | .remove => "remove" | .clear => "clear" | .get => "get"
noncomputable def B3 (e:E):Bool:=match e with | .comp _ _ _ _=>true | _=>false
noncomputable def CG (env:List (Str×NameKind)) (names:List (Str×NameKind)):List (Str×NameKind) :=
 names.map fun (n,k)=>if (k == .free&&env.lookup n == some .cell) then (n,.cell) else (n,k)
noncomputable def nameOk (K:Kx) (ts:List Nat) (p:Str×NameKind):Bool :=
 (decide (p.2=.local)&&(p.1 == (".0" : Str)||ts.any fun i=>decide (K.vars[i]? = some p.1)))||((decide (p.2=.free)&&(K.kd p.1 .cell||K.kd p.1 .free))||decide (p.2=.globalImplicit))
noncomputable def G8 (K:Kx) (ts:List Nat) (sc:Scope):Bool :=
 decide (sc.kind=.function)&&sc.names.all (nameOk K ts) &&
 sc.names.all (fun p=>decide (sc.names.lookup p.1=some p.2)) &&
 !K.vars.contains (".0" : Str) &&
 ts.all (fun i=>match K.vars[i]? with | some m=>decide (sc.names.lookup m=some .local) | none=>false)
noncomputable def Kx.sub (K:Kx) (ts:List Nat) (sc:Scope):Kx:={ K with names:=CG K.names sc.names,wr:=ts.filterMap (fun i=>K.vars[i]?),lam:=none }
noncomputable def lnameOk (K:Kx) (nm:Str) (p:Str×NameKind):Bool :=
 (decide (p.2=.local)&&p.1 == nm)||((decide (p.2=.free)&&(K.kd p.1 .cell||K.kd p.1 .free))||decide (p.2=.globalImplicit))
noncomputable def lamOk (K:Kx) (i:Nat) (nm:Str) (sc:Scope):Bool :=
 K.lam.isSome&&(K.isAt i nm&&(decide (sc.kind=.function)&&(!sc.isGenerator&&(!sc.isCoroutine&&(sc.names.all (lnameOk K nm)&&(sc.names.all (fun p=>decide (sc.names.lookup p.1=some p.2))&&decide (sc.names.lookup nm=some .local)))))))
noncomputable def Kx.lsub (K:Kx) (nm:Str) (sc:Scope):Kx:={ K with names:=sc.names,wr:=[nm],lam:=none }
noncomputable def Em (nm:Str) (ap:Pos):Arguments:=⟨[],[⟨nm,none,ap⟩],none,[],[],none,[]⟩
noncomputable def biGV (b:Bi):GV:=match b with | .str=>.ty "str" | .list=>.ty "list" | .int=>.ty "int" | b=>.bi b
noncomputable def IsCst (x:PyData) (x_:Expr):Prop:=∀ R_:Expr->Prop,(∀ (k:Nat) (p:Pos),cOk x=true->R_ (.Constant (toC x) k p))->R_ x_
noncomputable def IsNm (P:Str->Prop) (x_:Expr):Prop:=∀ R_:Expr->Prop,(∀ (n:Str) (p:Pos),P n->R_ (.Name n p))->R_ x_
noncomputable def IsBin (op:Operator) (A B:Expr->Prop) (x_:Expr):Prop:=∀ R_:Expr->Prop,(∀ (l r:Expr) (p:Pos),A l->B r->R_ (.BinOp l op r p))->R_ x_
noncomputable def IsUn (op:UnaryOp) (A:Expr->Prop) (x_:Expr):Prop:=∀ R_:Expr->Prop,(∀ (x:Expr) (p:Pos),A x->R_ (.UnaryOp op x p))->R_ x_
noncomputable def IsBop (op:BoolOp) (A:List Expr->Prop) (x_:Expr):Prop:=∀ R_:Expr->Prop,(∀ (vs:List Expr) (p:Pos),A vs->R_ (.BoolOp op vs p))->R_ x_
noncomputable def IsCmp (op:CmpOp) (A B:Expr->Prop) (x_:Expr):Prop:=∀ R_:Expr->Prop,(∀ (l r:Expr) (p:Pos),A l->B r->R_ (.Compare l [op] [r] p))->R_ x_
noncomputable def IsTup (A:List Expr->Prop) (x_:Expr):Prop:=∀ R_:Expr->Prop,(∀ (vs:List Expr) (k:Nat) (p:Pos),A vs->R_ (.Tuple vs k p))->R_ x_
noncomputable def IsLst (A:List Expr->Prop) (x_:Expr):Prop:=∀ R_:Expr->Prop,(∀ (vs:List Expr) (p:Pos),A vs->R_ (.List vs p))->R_ x_
noncomputable def IsDct (x_:Expr):Prop:=∀ R_:Expr->Prop,(∀ (p:Pos),R_ (.Dict [] [] p))->R_ x_
noncomputable def IsMax (P:Str->Prop) (A Z:Expr->Prop) (x_:Expr):Prop:=∀ R_:Expr->Prop,(∀ (n:Str) (np:Pos) (x y:Expr) (kp p:Pos),P n->A x->Z y->R_ (.Call (.Name n np) [x] [⟨some (Str.ofString "default"),y,kp⟩] p))->R_ x_
noncomputable def IsSortR (P:Str->Prop) (A:Expr->Prop) (x_:Expr):Prop:=∀ R_:Expr->Prop,(∀ (n:Str) (np:Pos) (x:Expr) (k:Nat) (cp kp p:Pos),P n->A x->R_ (.Call (.Name n np) [x] [⟨some (Str.ofString "reverse"),.Constant (.bool true) k cp,kp⟩] p))->R_ x_
noncomputable def IsSort (P:Str->Prop) (A:Expr->Prop) (B:Str->Scope->Expr->Prop) (rev:Bool) (x_:Expr):Prop:=∀ R_:Expr->Prop,(∀ (n:Str) (np:Pos) (x:Expr) (nm:Str) (ap:Pos) (b:Expr) (sc:Scope) (lp kp:Pos) (k:Nat) (cp kp' p:Pos),P n->A x->B nm sc b->R_ (.Call (.Name n np) [x] (⟨some (Str.ofString "key"),.Lambda (Em nm ap) b sc lp,kp⟩::bif rev then [⟨some (Str.ofString "reverse"),.Constant (.bool true) k cp,kp'⟩] else []) p))->R_ x_
noncomputable def IsSub (A B:Expr->Prop) (x_:Expr):Prop:=∀ R_:Expr->Prop,(∀ (v x:Expr) (p:Pos),A v->B x->R_ (.Subscript v x p))->R_ x_
noncomputable def IsSlc (A:Expr->Prop) (B C:Option Expr->Prop) (x_:Expr):Prop:=∀ R_:Expr->Prop,(∀ (v:Expr) (l u:Option Expr) (q p:Pos),A v->B l->C u->R_ (.Subscript v (.Slice l u none q) p))->R_ x_
noncomputable def EE (P:Str->Prop) (A:List Expr->Prop) (x_:Expr):Prop:=∀ R_:Expr->Prop,(∀ (n:Str) (np:Pos) (vs:List Expr) (p:Pos),P n->A vs->R_ (.Call (.Name n np) vs [] p))->R_ x_
noncomputable def IsMeth (m:Str) (A:Expr->Prop) (B:List Expr->Prop) (x_:Expr):Prop:=∀ R_:Expr->Prop,(∀ (x:Expr) (ap:Pos) (vs:List Expr) (p:Pos),A x->B vs->ap.endLine=p.line->vs.length < 20->R_ (.Call (.Attribute x m ap) vs [] p))->R_ x_
noncomputable def IsAttr (m:Str) (A:Expr->Prop) (x_:Expr):Prop:=∀ R_:Expr->Prop,(∀ (x:Expr) (p:Pos),A x->R_ (.Attribute x m p))->R_ x_
noncomputable def IsComp (A:Expr->Prop) (S:Scope->Prop) (P X:Scope->Expr->Prop) (F:Scope->List Expr->Prop) (x_:Expr):Prop:=∀ R_:Expr->Prop,(∀ (x t i:Expr) (cs:List Expr) (sc:Scope) (p:Pos),A i->S sc->P sc t->X sc x->F sc cs->R_ (.ListComp x [⟨t,i,cs,0⟩] sc p))->R_ x_
noncomputable def IsNil {α:Type} (x_:List α):Prop:=x_=[]
noncomputable def IsCons (A:Expr->Prop) (B:List Expr->Prop) (x_:List Expr):Prop:=∀ R_:List Expr->Prop,(∀ (e:Expr) (l:List Expr),A e->B l->R_ (e::l))->R_ x_
noncomputable def IsNone (x_:Option Expr):Prop:=x_=none
noncomputable def IsSome (A:Expr->Prop) (x_:Option Expr):Prop:=∀ R_:Option Expr->Prop,(∀ (e:Expr),A e->R_ (some e))->R_ x_
noncomputable def IsNs (K:Kx):List Nat->List Expr->Prop
 | [],l=>l=[]
 | i::r,l=>∀ R_:List Expr->Prop,(∀ (n:Str) (p:Pos) (t:List Expr),K.canWr i n=true->IsNs K r t->R_ (.Name n p::t))->R_ l
noncomputable def IsT (K:Kx) (ts:List Nat) (x_:Expr):Prop:=∀ R_:List Nat->Expr->Prop,(∀ (i:Nat) (n:Str) (p:Pos),K.canWr i n=true->R_ [i] (.Name n p))->(∀ (es:List Expr) (k:Nat) (p:Pos),ts.length≠1->IsNs K ts es->R_ ts (.Tuple es k p))->R_ ts x_
noncomputable def FX (K:Kx) (ts:List Expr):Bool:=ts.any fun e=>match e with | .Name n _=>!K.kd n .local | _=>false
noncomputable abbrev Kx.to (K:Kx) (v:GV) (n:Str):Prop:=K.isGl n=true/\K.gl n=some v
noncomputable def BI (it:E):Bool:=match it with | .zip _ _=>true | .enum _=>true | _=>false
noncomputable def Gi (ts:List Nat) (it:E):Bool:=if BI it=true then decide (ts.length≠1) else true
noncomputable def B2 (e:E):Bool:=match e with | .nil=>true | _=>false
noncomputable def Is:E->Kx->(Expr->Prop)×(List Expr->Prop)
 | .cst x,_=>(IsCst x,fun _=>False)
 | .var i,K=>(IsNm fun n=>K.isVar n=true/\K.vars[i]? = some n,fun _=>False)
 | .ty t,K=>(IsNm (K.to (.ty t)),fun _=>False)
 | .glb x,K=>(IsNm (K.to (.cst x)),fun _=>False)
 | .bin op a b,K=>(IsBin op (Is a K).1 (Is b K).1,fun _=>False)
 | .neg a,K=>(IsUn .USub (Is a K).1,fun _=>False)
 | .not a,K=>(IsUn .Not (Is a K).1,fun _=>False)
 | .bop op es,K=>(IsBop op (Is es K).2,fun _=>False)
 | .cmp op a b,K=>(IsCmp op (Is a K).1 (Is b K).1,fun _=>False)
 | .nil,_=>(fun _=>False,IsNil)
 | .cons a r,K=>(fun _=>False,IsCons (Is a K).1 (Is r K).2)
 | .tup es,K=>(IsTup (Is es K).2,fun _=>False)
 | .lst es,K=>(IsLst (Is es K).2,fun _=>False)
 | .dct,_=>(IsDct,fun _=>False)
 | .sub a i,K=>(IsSub (Is a K).1 (Is i K).1,fun _=>False)
 | .slc a lo hi,K=>(IsSlc (Is a K).1 (if B2 lo then IsNone else IsSome (Is lo K).1) (if B2 hi then IsNone else IsSome (Is hi K).1),fun _=>False)
 | .bi b es,K=>(EE (K.to (biGV b)) (Is es K).2,fun _=>False)
 | .maxd a z,K=>(IsMax (K.to (.bi .max)) (Is a K).1 (Is z K).1,fun _=>False)
 | .sortr a,K=>(IsSortR (K.to (.bi .sorted)) (Is a K).1,fun _=>False)
 | .sortk rev a i key,K=>(IsSort (K.to (.bi .sorted)) (Is a K).1 (fun nm sc b=>lamOk K i nm sc=true/\(Is key (K.lsub nm sc)).1 b) rev,fun _=>False)
 | .fcall f es,K=>(EE (K.to (.fn f)) (Is es K).2,fun _=>False)
 | .meth m o es,K=>(IsMeth (Str.ofString (DR m)) (Is o K).1 (Is es K).2,fun _=>False)
 | .attr nm o,K=>(IsAttr nm (Is o K).1,fun _=>False)
 | .mcall nm o es,K=>(IsMeth nm (Is o K).1 (Is es K).2,fun _=>False)
 | .new,K=>(EE (K.to .cls) IsNil,fun _=>False)
 | .comp elt ts it ifs,K=>(IsComp (Is it K).1 (fun sc=>G8 K ts sc=true/\Gi ts it=true) (fun sc=>IsT (K.sub ts sc) ts) (fun sc=>(Is elt (K.sub ts sc)).1) (fun sc=>(Is ifs (K.sub ts sc)).2),fun _=>False)
 | .range es,K=>(EE (K.to (.ty "range")) (Is es K).2,fun _=>False)
 | .zip a b,K=>(EE (K.to (.ty "zip")) (IsCons (Is a K).1 (IsCons (Is b K).1 IsNil)),fun _=>False)
 | .enum a,K=>(EE (K.to (.ty "enumerate")) (IsCons (Is a K).1 IsNil),fun _=>False)
noncomputable abbrev IsE (e:E) (K:Kx):Expr->Prop:=(Is e K).1
noncomputable abbrev ED (e:E) (K:Kx):List Expr->Prop:=(Is e K).2
noncomputable def swapC (K:Kx) (n:Str) (p:Pos) (v:Expr):Bool :=
 match v with
 | .ListComp _ _ sc vp=>decide (K.names.lookup n=some .local)&&(decide (p.line=vp.line) && !(sc.names.any fun q=>q.1 == n&&(q.2 == .local||q.2 == .cell)))
 | _=>false
noncomputable def IsAsg (P:Str->Prop) (A:Expr->Prop) (W:Str->Pos->Expr->Bool) (x_:Stmt):Prop:=∀ R_:Stmt->Prop,(∀ (n:Str) (p:Pos) (v:Expr) (p':Pos),P n->A v->W n p v=true->R_ (.Assign [.Name n p] v p'))->R_ x_
noncomputable def IsUnp (P:List Expr->Prop) (A:Expr->Prop) (x_:Stmt):Prop:=∀ R_:Stmt->Prop,(∀ (ts:List Expr) (k:Nat) (p:Pos) (v:Expr) (p':Pos),P ts->A v->R_ (.Assign [.Tuple ts k p] v p'))->R_ x_
noncomputable def IsSwp (P A:List Expr->Prop) (x_:Stmt):Prop:=∀ R_:Stmt->Prop,(∀ (ts:List Expr) (k:Nat) (p:Pos) (vs:List Expr) (k':Nat) (p' pos:Pos),P ts->A vs->R_ (.Assign [.Tuple ts k p] (.Tuple vs k' p') pos))->R_ x_
noncomputable def IsSet (A B C:Expr->Prop) (x_:Stmt):Prop:=∀ R_:Stmt->Prop,(∀ (o i:Expr) (p:Pos) (v:Expr) (p':Pos),A v->B o->C i->R_ (.Assign [.Subscript o i p] v p'))->R_ x_
noncomputable def IsExp (A:Expr->Prop) (x_:Stmt):Prop:=∀ R_:Stmt->Prop,(∀ (v:Expr) (p:Pos),A v->R_ (.Expr v p))->R_ x_
noncomputable def IsIte (A:Expr->Prop) (B C:List Stmt->Prop) (x_:Stmt):Prop:=∀ R_:Stmt->Prop,(∀ (t:Expr) (x y:List Stmt) (p:Pos),A t->B x->C y->R_ (.If t x y p))->R_ x_
noncomputable def IsFor (P A:Expr->Prop) (B:List Stmt->Prop) (x_:Stmt):Prop:=∀ R_:Stmt->Prop,(∀ (t i:Expr) (b:List Stmt) (p:Pos),P t->A i->B b->R_ (.For t i b [] p))->R_ x_
noncomputable def IsWhile (A:Expr->Prop) (B:List Stmt->Prop) (x_:Stmt):Prop:=∀ R_:Stmt->Prop,(∀ (t:Expr) (b:List Stmt) (p:Pos),A t->B b->R_ (.While t b [] p))->R_ x_
noncomputable def IsRet (A:Expr->Prop) (x_:Stmt):Prop:=∀ R_:Stmt->Prop,(∀ (v:Expr) (p:Pos),A v->R_ (.Return (some v) p))->R_ x_
noncomputable def IsSetd (P:Str->Prop) (nm:Str) (x_:Stmt):Prop:=∀ R_:Stmt->Prop,(∀ (n:Str) (p1 p2 p3 p4:Pos),P n->R_ (.Assign [.Attribute (.Name n p1) nm p2] (.Dict [] [] p3) p4))->R_ x_
noncomputable def swlOk (K:Kx) (a b c:Str) (pa pb pc:Pos) (vs:List Expr):Bool :=
 K.kd a .local&&K.kd b .local&&K.kd c .local&&pb.line == pa.line&&pc.line == pa.line&&[a,b,c].eraseDups.length == 3&&vs.length == 3 && !vs.all (foldedForSure 8) && !vs.all (constantsAlone 8)
noncomputable def IsSwl (P:Str->Str->Str->Pos->Pos->Pos->List Expr->Prop) (A:List Expr->Prop) (x_:Stmt):Prop:=∀ R_:Stmt->Prop,(∀ (a b c:Str) (pa pb pc:Pos) (k:Nat) (p:Pos) (vs:List Expr) (k':Nat) (p' pos:Pos),P a b c pa pb pc vs->A vs->R_ (.Assign [.Tuple [.Name a pa,.Name b pb,.Name c pc] k p] (.Tuple vs k' p') pos))->R_ x_
noncomputable def IsSCons (A:Stmt->Prop) (B:List Stmt->Prop) (x_:List Stmt):Prop:=∀ R_:List Stmt->Prop,(∀ (x:Stmt) (t:List Stmt),A x->B t->R_ (x::t))->R_ x_
noncomputable def Iss:S->Kx->(Stmt->Prop)×(List Stmt->Prop)
 | .any,_=>(fun _=>True,fun _=>True)
 | .nil,_=>(fun _=>False,IsNil)
 | .cons s r,K=>(fun _=>False,IsSCons (Iss s K).1 (Iss r K).2)
 | .asg x e,K=>(IsAsg (fun n=>K.canWr x n=true) (IsE e K) (fun n p v=>bif B3 e then swapC K n p v else true),fun _=>False)
 | .unp xs e,K=>(IsUnp (IsNs K xs) (IsE e K),fun _=>False)
 | .swp xs es,K=>(IsSwp (fun ts=>IsNs K xs ts/\(FX K ts=true/\xs.length=3)) (ED es K),fun _=>False)
 | .set o i v,K=>(IsSet (IsE v K) (IsE o K) (IsE i K),fun _=>False)
 | .exp e,K=>(IsExp (IsE e K),fun _=>False)
 | .ite c a b,K=>(IsIte (IsE c K) (Iss a K).2 (Iss b K).2,fun _=>False)
 | .for_ ts it body,K=>(IsFor (fun t=>IsT K ts t/\Gi ts it=true) (IsE it K) (Iss body K).2,fun _=>False)
 | .while_ c body,K=>(IsWhile (IsE c K) (Iss body K).2,fun _=>False)
 | .ret e,K=>(IsRet (IsE e K),fun _=>False)
 | .swl i j l es,K=>(IsSwl (fun a b c pa pb pc vs=>(K.canWr i a=true/\K.canWr j b=true/\K.canWr l c=true)/\swlOk K a b c pa pb pc vs=true) (ED es K),fun _=>False)
 | .setd x nm,K=>(IsSetd (fun n=>K.kd n .local=true/\K.vars[x]? = some n/\(n == ("__debug__" : Str))=false) nm,fun _=>False)
noncomputable abbrev IsS (e:S) (K:Kx):Stmt->Prop:=(Iss e K).1
noncomputable abbrev IsSs (e:S) (K:Kx):List Stmt->Prop:=(Iss e K).2
structure Fn where
 np:Nat
 nv:Nat
 body:S
end Mine
namespace Mine
open PySem
noncomputable def Fis_name:Fn:=⟨1,2,
 (.cons (.ite (.bop .Or (.cons (.cmp .Lt (.bi .len (.cons (.var 0) .nil)) (.cst (.int 1))) (.cons (.cmp .Gt (.bi .len (.cons (.var 0) .nil)) (.glb (.int 12))) .nil)))
  (.cons (.ret (.cst (.bool false)))
   .nil)
  .nil)
  (.cons (.for_ [1] (.var 0)
   (.cons (.ite (.cmp .NotIn (.var 1) (.glb (.str (Str.ofString "abcdefghijklmnopqrstuvwxyz0123456789"))))
    (.cons (.ret (.cst (.bool false)))
     .nil)
    .nil)
    .nil))
  (.cons (.ret (.cst (.bool true)))
  .nil)))⟩
noncomputable def Fis_line:Fn:=⟨1,2,
 (.cons (.ite (.cmp .Gt (.bi .len (.cons (.var 0) .nil)) (.glb (.int 200)))
  (.cons (.ret (.cst (.bool false)))
   .nil)
  .nil)
  (.cons (.for_ [1] (.var 0)
   (.cons (.ite (.bop .Or (.cons (.cmp .Lt (.bi .ord (.cons (.var 1) .nil)) (.cst (.int 32))) (.cons (.cmp .Gt (.bi .ord (.cons (.var 1) .nil)) (.cst (.int 126))) .nil)))
    (.cons (.ret (.cst (.bool false)))
     .nil)
    .nil)
    .nil))
  (.cons (.ret (.cst (.bool true)))
  .nil)))⟩
noncomputable def F6:Fn:=⟨2,5,
 (.cons (.ite (.not (.fcall 2 (.cons (.var 0) .nil)))
  .any
  .nil)
  (.cons (.for_ [2] (.var 1)
   (.cons (.ite (.not (.fcall 2 (.cons (.var 2) .nil)))
    .any
    .nil)
    .nil))
  (.cons (.for_ [3,4] (.zip (.var 1) (.slc (.var 1) (.cst (.int 1)) .nil))
   (.cons (.ite (.cmp .GtE (.var 3) (.var 4))
    .any
    .nil)
    .nil))
  (.cons (.ite (.cmp .In (.var 0) (.var 1))
   .any
   .nil)
  .nil))))⟩
noncomputable def Gv:Fn:=⟨1,1,
 (.cons (.ite (.bop .And (.cons (.cmp .NotEq (.sub (.var 0) (.cst (.int 0))) (.cst (.str (Str.ofString "add")))) (.cons (.cmp .NotEq (.sub (.var 0) (.cst (.int 0))) (.cst (.str (Str.ofString "cut")))) (.cons (.cmp .NotEq (.sub (.var 0) (.cst (.int 0))) (.cst (.str (Str.ofString "set")))) .nil))))
  .any
  .nil)
  (.cons (.ite (.bop .And (.cons (.cmp .NotEq (.sub (.var 0) (.cst (.int 0))) (.cst (.str (Str.ofString "add")))) (.cons (.cmp .Is (.sub (.var 0) (.cst (.int 1))) (.cst .none)) .nil)))
   .any
   .nil)
  (.cons (.ite (.bop .And (.cons (.cmp .NotEq (.sub (.var 0) (.cst (.int 0))) (.cst (.str (Str.ofString "cut")))) (.cons (.not (.fcall 3 (.cons (.sub (.var 0) (.cst (.int 2))) .nil))) .nil)))
   .any
   .nil)
  .nil)))⟩
noncomputable def Fcheck:Fn:=⟨1,5,
 (.cons (.swl 1 2 3 (.cons (.sub (.var 0) (.cst (.int 0))) (.cons (.sub (.var 0) (.cst (.int 1))) (.cons (.sub (.var 0) (.cst (.int 2))) .nil))))
  (.cons (.exp (.fcall 4 (.cons (.var 1) (.cons (.var 2) .nil))))
  (.cons (.ite (.cmp .Gt (.bi .len (.cons (.var 3) .nil)) (.glb (.int 20)))
   .any
   .nil)
  (.cons (.for_ [4] (.var 3)
   (.cons (.exp (.fcall 5 (.cons (.var 4) .nil)))
    .nil))
  (.cons (.for_ [4] (.var 3)
   (.cons (.ite (.bop .And (.cons (.cmp .IsNot (.sub (.var 4) (.cst (.int 1))) (.cst .none)) (.cons (.cmp .NotEq (.sub (.sub (.var 4) (.cst (.int 1))) (.cst (.int 0))) (.var 1)) (.cons (.cmp .NotIn (.sub (.sub (.var 4) (.cst (.int 1))) (.cst (.int 0))) (.var 2)) .nil))))
    .any
    .nil)
    .nil))
  .nil)))))⟩
noncomputable def Fadds_of:Fn:=⟨1,2,
 (.cons (.ret (.comp (.var 1) [1] (.sub (.var 0) (.cst (.int 2))) (.cons (.cmp .Eq (.sub (.var 1) (.cst (.int 0))) (.cst (.str (Str.ofString "add")))) .nil)))
  .nil)⟩
noncomputable def Fordered:Fn:=⟨2,4,
 (.cons (.asg 2 (.sortr (.var 0)))
  (.cons (.ret (.sortk false (.var 2) 3 (.sub (.var 1) (.var 3))))
  .nil))⟩
noncomputable def FWeave_init:Fn:=⟨1,1,
 (.cons (.setd 0 (Str.ofString "held"))
  (.cons (.setd 0 (Str.ofString "grounds"))
  (.cons (.setd 0 (Str.ofString "heights"))
  .nil)))⟩
noncomputable def D5:Fn:=⟨2,6,
 (.cons (.exp (.fcall 6 (.cons (.var 1) .nil)))
  (.cons (.asg 2 (.sub (.var 1) (.cst (.int 0))))
  (.cons (.ite (.cmp .In (.var 2) (.attr (Str.ofString "held") (.var 0)))
   .any
   .nil)
  (.cons (.for_ [3] (.sub (.var 1) (.cst (.int 1)))
   (.cons (.ite (.cmp .NotIn (.var 3) (.attr (Str.ofString "held") (.var 0)))
    .any
    .nil)
    .nil))
  (.cons (.exp (.mcall (Str.ofString "check_marks") (.var 0) (.cons (.var 1) .nil)))
  (.cons (.set (.attr (Str.ofString "held") (.var 0)) (.var 2) (.tup (.cons (.var 2) (.cons (.bi .list (.cons (.sub (.var 1) (.cst (.int 1))) .nil)) (.cons (.bi .list (.cons (.sub (.var 1) (.cst (.int 2))) .nil)) .nil)))))
  (.cons (.asg 4 (.dct))
  (.cons (.for_ [3] (.sub (.var 1) (.cst (.int 1)))
   (.cons (.set (.var 4) (.var 3) (.cst (.bool true)))
    (.cons (.for_ [5] (.sub (.attr (Str.ofString "grounds") (.var 0)) (.var 3))
     (.cons (.set (.var 4) (.var 5) (.cst (.bool true)))
      .nil))
    .nil)))
  (.cons (.set (.attr (Str.ofString "grounds") (.var 0)) (.var 2) (.bi .sorted (.cons (.bi .list (.cons (.var 4) .nil)) .nil)))
  (.cons (.set (.attr (Str.ofString "heights") (.var 0)) (.var 2) (.bin .Add (.cst (.int 1)) (.maxd (.comp (.sub (.attr (Str.ofString "heights") (.var 0)) (.var 3)) [3] (.sub (.var 1) (.cst (.int 1))) .nil) (.neg (.cst (.int 1))))))
  .nil))))))))))⟩
noncomputable def CK:Fn:=⟨2,6,
 (.cons (.asg 2 (.cst (.int 0)))
  (.cons (.for_ [3] (.sub (.var 1) (.cst (.int 2)))
   (.cons (.asg 4 (.sub (.var 3) (.cst (.int 1))))
    (.cons (.ite (.cmp .IsNot (.var 4) (.cst .none))
     (.cons (.asg 5 (.var 2))
      (.cons (.ite (.cmp .NotEq (.sub (.var 4) (.cst (.int 0))) (.sub (.var 1) (.cst (.int 0))))
       (.cons (.asg 5 (.bi .len (.cons (.fcall 7 (.cons (.sub (.attr (Str.ofString "held") (.var 0)) (.sub (.var 4) (.cst (.int 0)))) .nil)) .nil)))
        .nil)
       .nil)
      (.cons (.ite (.bop .Or (.cons (.cmp .Lt (.sub (.var 4) (.cst (.int 1))) (.cst (.int 0))) (.cons (.cmp .GtE (.sub (.var 4) (.cst (.int 1))) (.var 5)) .nil)))
       .any
       .nil)
      .nil)))
     .nil)
    (.cons (.ite (.cmp .Eq (.sub (.var 3) (.cst (.int 0))) (.cst (.str (Str.ofString "add"))))
     (.cons (.asg 2 (.bin .Add (.var 2) (.cst (.int 1))))
      .nil)
     .nil)
    .nil))))
  .nil))⟩
noncomputable def FWeave_need:Fn:=⟨2,2,
 (.cons (.ite (.cmp .NotIn (.var 1) (.attr (Str.ofString "held") (.var 0)))
  .any
  .nil)
  .nil)⟩
noncomputable def F7:Fn:=⟨1,1,
 (.cons (.ret (.bi .sorted (.cons (.bi .list (.cons (.attr (Str.ofString "held") (.var 0)) .nil)) .nil)))
  .nil)⟩
noncomputable def FWeave_change:Fn:=⟨2,3,
 (.cons (.exp (.mcall (Str.ofString "need") (.var 0) (.cons (.var 1) .nil)))
  (.cons (.asg 2 (.sub (.attr (Str.ofString "held") (.var 0)) (.var 1)))
  (.cons (.ret (.tup (.cons (.var 1) (.cons (.bi .list (.cons (.sub (.var 2) (.cst (.int 1))) .nil)) (.cons (.bi .list (.cons (.sub (.var 2) (.cst (.int 2))) .nil)) .nil)))))
  .nil)))⟩
noncomputable def FWeave_height:Fn:=⟨2,2,
 (.cons (.exp (.mcall (Str.ofString "need") (.var 0) (.cons (.var 1) .nil)))
  (.cons (.ret (.sub (.attr (Str.ofString "heights") (.var 0)) (.var 1)))
  .nil))⟩
noncomputable def FWeave_ground:Fn:=⟨2,2,
 (.cons (.exp (.mcall (Str.ofString "need") (.var 0) (.cons (.var 1) .nil)))
  (.cons (.ret (.bi .list (.cons (.sub (.attr (Str.ofString "grounds") (.var 0)) (.var 1)) .nil)))
  .nil))⟩
noncomputable def D4:Fn:=⟨1,9,
 (.cons (.asg 1 (.lst .nil))
  (.cons (.asg 2 (.dct))
  (.cons (.asg 3 (.dct))
  (.cons (.for_ [4] (.fcall 8 (.cons (.bi .list (.cons (.attr (Str.ofString "held") (.var 0)) .nil)) (.cons (.attr (Str.ofString "heights") (.var 0)) .nil)))
   (.cons (.asg 5 (.cst (.int 0)))
    (.cons (.for_ [6] (.sub (.sub (.attr (Str.ofString "held") (.var 0)) (.var 4)) (.cst (.int 2)))
     (.cons (.ite (.cmp .Eq (.sub (.var 6) (.cst (.int 0))) (.cst (.str (Str.ofString "add"))))
      (.cons (.asg 7 (.tup (.cons (.var 4) (.cons (.var 5) .nil))))
       (.cons (.asg 5 (.bin .Add (.var 5) (.cst (.int 1))))
       (.cons (.asg 8 (.cst (.int 0)))
       (.cons (.ite (.cmp .IsNot (.sub (.var 6) (.cst (.int 1))) (.cst .none))
        (.cons (.asg 8 (.bin .Add (.meth .index (.var 1) (.cons (.sub (.var 6) (.cst (.int 1))) .nil)) (.cst (.int 1))))
         .nil)
        .nil)
       (.cons (.exp (.meth .insert (.var 1) (.cons (.var 8) (.cons (.var 7) .nil))))
       (.cons (.set (.var 2) (.var 7) (.sub (.var 6) (.cst (.int 2))))
       .nil))))))
      (.cons (.ite (.cmp .Eq (.sub (.var 6) (.cst (.int 0))) (.cst (.str (Str.ofString "set"))))
       (.cons (.set (.var 2) (.sub (.var 6) (.cst (.int 1))) (.sub (.var 6) (.cst (.int 2))))
        .nil)
       (.cons (.set (.var 3) (.sub (.var 6) (.cst (.int 1))) (.cst (.bool true)))
        .nil))
       .nil))
      .nil))
    .nil)))
  (.cons (.ret (.tup (.cons (.var 1) (.cons (.var 2) (.cons (.var 3) .nil)))))
  .nil)))))⟩
noncomputable def FWeave_row:Fn:=⟨1,1,
 (.cons (.ret (.sub (.mcall (Str.ofString "grown") (.var 0) .nil) (.cst (.int 0))))
  .nil)⟩
noncomputable def Gw:Fn:=⟨1,5,
 (.cons (.unp [1,2,3] (.mcall (Str.ofString "grown") (.var 0) .nil))
  (.cons (.ret (.comp (.tup (.cons (.var 4) (.cons (.sub (.var 2) (.var 4)) .nil))) [4] (.var 1) (.cons (.cmp .NotIn (.var 4) (.var 3)) .nil)))
  .nil))⟩
noncomputable def Gx:Fn:=⟨1,2,
 (.cons (.ret (.comp (.sub (.var 1) (.cst (.int 1))) [1] (.mcall (Str.ofString "told") (.var 0) .nil) .nil))
  .nil)⟩
noncomputable def Ei:Fn:=⟨1,4,
 (.cons (.asg 1 (.dct))
  (.cons (.for_ [2] (.mcall (Str.ofString "names") (.var 0) .nil)
   (.cons (.for_ [3] (.sub (.sub (.attr (Str.ofString "held") (.var 0)) (.var 2)) (.cst (.int 2)))
    (.cons (.ite (.bop .And (.cons (.cmp .Eq (.sub (.var 3) (.cst (.int 0))) (.cst (.str (Str.ofString "set")))) (.cons (.cmp .NotIn (.var 2) (.meth .get (.var 1) (.cons (.sub (.var 3) (.cst (.int 1))) (.cons (.lst .nil) .nil)))) .nil)))
     (.cons (.set (.var 1) (.sub (.var 3) (.cst (.int 1))) (.bin .Add (.meth .get (.var 1) (.cons (.sub (.var 3) (.cst (.int 1))) (.cons (.lst .nil) .nil))) (.lst (.cons (.var 2) .nil))))
      .nil)
     .nil)
     .nil))
    .nil))
  (.cons (.ret (.var 1))
  .nil)))⟩
noncomputable def Dk:Fn:=⟨2,5,
 (.cons (.asg 2 (.lst .nil))
  (.cons (.for_ [3] (.var 1)
   (.cons (.ite (.not (.bi .any (.cons (.comp (.cmp .In (.var 3) (.sub (.attr (Str.ofString "grounds") (.var 0)) (.var 4))) [4] (.var 1) .nil) .nil)))
    (.cons (.exp (.meth .append (.var 2) (.cons (.var 3) .nil)))
     .nil)
    .nil)
    .nil))
  (.cons (.ret (.var 2))
  .nil)))⟩
noncomputable def Dj:Fn:=⟨1,5,
 (.cons (.asg 1 (.lst .nil))
  (.cons (.asg 2 (.mcall (Str.ofString "setters") (.var 0) .nil))
  (.cons (.for_ [3] (.mcall (Str.ofString "told") (.var 0) .nil)
   (.cons (.asg 4 (.mcall (Str.ofString "open_ones") (.var 0) (.cons (.meth .get (.var 2) (.cons (.sub (.var 3) (.cst (.int 0))) (.cons (.lst .nil) .nil))) .nil)))
    (.cons (.ite (.cmp .Gt (.bi .len (.cons (.var 4) .nil)) (.cst (.int 1)))
     (.cons (.exp (.meth .append (.var 1) (.cons (.tup (.cons (.sub (.var 3) (.cst (.int 0))) (.cons (.var 4) .nil))) .nil)))
      .nil)
     .nil)
    .nil)))
  (.cons (.ret (.var 1))
  .nil))))⟩
noncomputable def Fcell:Fn:=⟨2,2,
 (.cons (.ite (.cmp .Lt (.var 1) (.bi .len (.cons (.var 0) .nil)))
  (.cons (.ret (.sub (.var 0) (.var 1)))
   .nil)
  .nil)
  (.cons (.ret (.cst (.int 0)))
  .nil))⟩
noncomputable def Fmixed:Fn:=⟨2,2,
 (.cons (.ret (.bin .Mod (.bin .Mult (.bin .Add (.var 0) (.bin .Mult (.cst (.int 7919)) (.var 1))) (.cst (.int 48271))) (.cst (.int 2147483647))))
  .nil)⟩
noncomputable def Fname:Fn:=⟨2,7,
 (.cons (.asg 2 (.cst (.str (Str.ofString "abcdefghijklmnopqrstuvwxyz0123456789"))))
  (.cons (.asg 3 (.fcall 10 (.cons (.var 0) (.cons (.cst (.int 5)) .nil))))
  (.cons (.asg 4 (.meth .join (.cst (.str (Str.ofString ""))) (.cons (.comp (.sub (.var 2) (.bin .Mod (.fcall 10 (.cons (.var 0) (.cons (.var 5) .nil))) (.cst (.int 36)))) [5] (.range (.cons (.bin .Add (.cst (.int 1)) (.bin .Mod (.var 3) (.cst (.int 12)))) .nil)) .nil) .nil)))
  (.cons (.ite (.cmp .Eq (.bin .Mod (.var 0) (.cst (.int 8))) (.cst (.int 1)))
   (.cons (.asg 4 (.bi .str (.cons (.bin .Mod (.var 3) (.cst (.int 130))) .nil)))
    .nil)
   .nil)
  (.cons (.ite (.bop .And (.cons (.cmp .Eq (.bin .Mod (.var 0) (.cst (.int 8))) (.cst (.int 2))) (.cons (.var 1) .nil)))
   (.cons (.asg 4 (.bin .Add (.slc (.sub (.var 1) (.neg (.cst (.int 1)))) .nil (.cst (.int 11))) (.sub (.var 2) (.bin .Mod (.var 3) (.cst (.int 36))))))
    .nil)
   .nil)
  (.cons (.ite (.bop .And (.cons (.cmp .Gt (.bin .Mod (.var 0) (.cst (.int 8))) (.cst (.int 4))) (.cons (.var 1) .nil)))
   (.cons (.asg 4 (.sub (.var 1) (.bin .Mod (.var 3) (.bi .len (.cons (.var 1) .nil)))))
    (.cons (.asg 6 (.bin .Mod (.bin .FloorDiv (.var 3) (.cst (.int 60))) (.bi .len (.cons (.var 4) .nil))))
    (.cons (.asg 4 (.bin .Add (.bin .Add (.slc (.var 4) .nil (.var 6)) (.sub (.var 2) (.bin .Mod (.bin .FloorDiv (.var 3) (.cst (.int 720))) (.cst (.int 36))))) (.slc (.var 4) (.bin .Add (.var 6) (.cst (.int 1))) .nil)))
    .nil)))
   .nil)
  (.cons (.ite (.cmp .NotIn (.var 4) (.var 1))
   (.cons (.ret (.var 4))
    .nil)
   .nil)
  (.cons (.ret (.sub (.comp (.bi .str (.cons (.var 5) .nil)) [5] (.range (.cons (.bin .Add (.bi .len (.cons (.var 1) .nil)) (.cst (.int 1))) .nil)) (.cons (.cmp .NotIn (.bi .str (.cons (.var 5) .nil)) (.var 1)) .nil)) (.cst (.int 0))))
  .nil))))))))⟩
noncomputable def Fline:Fn:=⟨1,5,
 (.cons (.asg 1 (.cst (.str (Str.ofString " !\"#$&'()*+,-./0123456789:;<=>?\x40ABCDEFGHIJKLMNOPQRSTUVWXYZ[\\]^_`"))))
  (.cons (.asg 1 (.bin .Add (.var 1) (.cst (.str (Str.ofString "abcdefghijklmnopqrstuvwxyz{|}~")))))
  (.cons (.asg 2 (.bin .Mod (.var 0) (.cst (.int 4))))
  (.cons (.ite (.cmp .Eq (.bin .Mod (.bin .FloorDiv (.var 0) (.cst (.int 4))) (.cst (.int 9))) (.cst (.int 1)))
   (.cons (.asg 2 (.bin .Mod (.bin .FloorDiv (.var 0) (.cst (.int 36))) (.cst (.int 201))))
    .nil)
   .nil)
  (.cons (.asg 3 (.meth .join (.cst (.str (Str.ofString ""))) (.cons (.comp (.sub (.var 1) (.bin .Mod (.bin .Add (.bin .FloorDiv (.var 0) (.cst (.int 7))) (.bin .Mult (.var 4) (.bin .Add (.cst (.int 1)) (.bin .Mod (.var 0) (.cst (.int 5)))))) (.cst (.int 94)))) [4] (.range (.cons (.var 2) .nil)) .nil) .nil)))
  (.cons (.ite (.bop .And (.cons (.cmp .Eq (.bin .Mod (.bin .FloorDiv (.var 0) (.cst (.int 3))) (.cst (.int 8))) (.cst (.int 1))) (.cons (.cmp .Lt (.var 2) (.cst (.int 199))) .nil)))
   (.cons (.ret (.bin .Add (.bin .Add (.slc (.var 3) .nil (.cst (.int 1))) (.cst (.str (Str.ofString ": ")))) (.slc (.var 3) (.cst (.int 1)) .nil)))
    .nil)
   .nil)
  (.cons (.ret (.var 3))
  .nil)))))))⟩
noncomputable def Fleans:Fn:=⟨2,7,
 (.cons (.asg 2 (.fcall 10 (.cons (.var 0) (.cons (.cst (.int 1)) .nil))))
  (.cons (.asg 3 (.lst .nil))
  (.cons (.for_ [4,5] (.enum (.var 1))
   (.cons (.asg 6 (.bop .And (.cons (.cmp .Eq (.var 4) (.bin .Sub (.bi .len (.cons (.var 1) .nil)) (.cst (.int 1)))) (.cons (.cmp .Eq (.bin .Mod (.var 0) (.cst (.int 7))) (.cst (.int 3))) .nil))))
    (.cons (.ite (.bop .Or (.cons (.var 6) (.cons (.bop .And (.cons (.cmp .Eq (.bin .Mod (.var 2) (.bin .Add (.cst (.int 2)) (.bin .Mod (.var 0) (.cst (.int 3))))) (.cst (.int 0))) (.cons (.bop .Or (.cons (.cmp .Lt (.bi .len (.cons (.var 1) .nil)) (.cst (.int 20))) (.cons (.cmp .Eq (.bin .Mod (.var 4) (.cst (.int 7))) (.bin .Mod (.bin .FloorDiv (.var 2) (.cst (.int 4))) (.cst (.int 7)))) .nil))) .nil))) .nil)))
     (.cons (.exp (.meth .append (.var 3) (.cons (.sub (.var 5) (.cst (.int 0))) .nil)))
      .nil)
     .nil)
    (.cons (.asg 2 (.bin .FloorDiv (.var 2) (.cst (.int 3))))
    (.cons (.ite (.cmp .Lt (.var 2) (.cst (.int 100)))
     (.cons (.asg 2 (.fcall 10 (.cons (.var 0) (.cons (.bin .Add (.var 4) (.cst (.int 2))) .nil))))
      .nil)
     .nil)
    .nil)))))
  (.cons (.ret (.bi .sorted (.cons (.var 3) .nil)))
  .nil))))⟩
noncomputable def Fmarks:Fn:=⟨1,4,
 (.cons (.asg 1 (.bi .len (.cons (.comp (.var 2) [2] (.sub (.var 0) (.cst (.int 2))) (.cons (.cmp .Eq (.sub (.var 2) (.cst (.int 0))) (.cst (.str (Str.ofString "add")))) .nil)) .nil)))
  (.cons (.ret (.comp (.tup (.cons (.sub (.var 0) (.cst (.int 0))) (.cons (.var 3) .nil))) [3] (.range (.cons (.var 1) .nil)) .nil))
  .nil))⟩
noncomputable def Fdeeds:Fn:=⟨4,13,
 (.cons (.asg 4 (.lst .nil))
  (.cons (.asg 5 (.cst (.int 0)))
  (.cons (.for_ [6] (.range (.cons (.var 2) .nil))
   (.cons (.asg 7 (.bin .Add (.var 3) (.comp (.tup (.cons (.var 0) (.cons (.var 12) .nil))) [12] (.range (.cons (.var 5) .nil)) .nil)))
    (.cons (.asg 8 (.fcall 10 (.cons (.var 1) (.cons (.var 6) .nil))))
    (.cons (.asg 9 (.bin .Mod (.bin .FloorDiv (.var 8) (.cst (.int 5))) (.bin .Add (.bi .len (.cons (.var 7) .nil)) (.cst (.int 1)))))
    (.cons (.asg 10 (.fcall 12 (.cons (.bin .FloorDiv (.var 8) (.cst (.int 365))) .nil)))
    (.cons (.ite (.bop .Or (.cons (.cmp .Lt (.bin .Mod (.var 8) (.cst (.int 5))) (.cst (.int 3))) (.cons (.not (.var 7)) .nil)))
     (.cons (.asg 11 (.cst .none))
      (.cons (.ite (.cmp .Gt (.var 9) (.cst (.int 0)))
       (.cons (.asg 11 (.sub (.var 7) (.bin .Sub (.var 9) (.cst (.int 1)))))
        .nil)
       .nil)
      (.cons (.exp (.meth .append (.var 4) (.cons (.tup (.cons (.cst (.str (Str.ofString "add"))) (.cons (.var 11) (.cons (.var 10) .nil)))) .nil)))
      (.cons (.asg 5 (.bin .Add (.var 5) (.cst (.int 1))))
      .nil))))
     (.cons (.ite (.cmp .Eq (.bin .Mod (.var 8) (.cst (.int 5))) (.cst (.int 3)))
      (.cons (.exp (.meth .append (.var 4) (.cons (.tup (.cons (.cst (.str (Str.ofString "cut"))) (.cons (.sub (.var 7) (.bin .Mod (.var 9) (.bi .len (.cons (.var 7) .nil)))) .nil))) .nil)))
       .nil)
      (.cons (.exp (.meth .append (.var 4) (.cons (.tup (.cons (.cst (.str (Str.ofString "set"))) (.cons (.sub (.var 7) (.bin .Mod (.var 9) (.bi .len (.cons (.var 7) .nil)))) (.cons (.var 10) .nil)))) .nil)))
       .nil))
      .nil))
    .nil))))))
  (.cons (.ret (.var 4))
  .nil))))⟩
noncomputable def Eh:Fn:=⟨2,10,
 (.cons (.asg 2 (.lst .nil))
  (.cons (.asg 3 (.lst (.cons (.cst (.str (Str.ofString "0"))) .nil)))
  (.cons (.for_ [4] (.range (.cons (.bi .min (.cons (.bin .FloorDiv (.bi .len (.cons (.var 0) .nil)) (.cst (.int 4))) (.cons (.var 1) .nil))) .nil))
   (.cons (.asg 5 (.fcall 11 (.cons (.sub (.var 0) (.bin .Mult (.cst (.int 4)) (.var 4))) (.cons (.var 3) .nil))))
    (.cons (.exp (.meth .append (.var 3) (.cons (.var 5) .nil)))
    (.cons (.asg 6 (.fcall 13 (.cons (.sub (.var 0) (.bin .Add (.bin .Mult (.cst (.int 4)) (.var 4)) (.cst (.int 1)))) (.cons (.var 2) .nil))))
    (.cons (.asg 7 (.lst .nil))
    (.cons (.for_ [8] (.var 2)
     (.cons (.ite (.cmp .In (.sub (.var 8) (.cst (.int 0))) (.var 6))
      (.cons (.asg 7 (.bin .Add (.var 7) (.fcall 14 (.cons (.var 8) .nil))))
       .nil)
      .nil)
      .nil))
    (.cons (.asg 9 (.bin .Mod (.sub (.var 0) (.bin .Add (.bin .Mult (.cst (.int 4)) (.var 4)) (.cst (.int 3)))) (.cst (.int 5))))
    (.cons (.ite (.cmp .Eq (.bin .Mod (.bin .FloorDiv (.sub (.var 0) (.bin .Add (.bin .Mult (.cst (.int 4)) (.var 4)) (.cst (.int 3)))) (.cst (.int 5))) (.cst (.int 16))) (.cst (.int 1)))
     (.cons (.asg 9 (.bin .Sub (.cst (.int 20)) (.bin .Mod (.bin .FloorDiv (.sub (.var 0) (.bin .Add (.bin .Mult (.cst (.int 4)) (.var 4)) (.cst (.int 3)))) (.cst (.int 80))) (.cst (.int 16)))))
      .nil)
     .nil)
    (.cons (.exp (.meth .append (.var 2) (.cons (.tup (.cons (.var 5) (.cons (.var 6) (.cons (.fcall 15 (.cons (.var 5) (.cons (.sub (.var 0) (.bin .Add (.bin .Mult (.cst (.int 4)) (.var 4)) (.cst (.int 2)))) (.cons (.var 9) (.cons (.var 7) .nil))))) .nil)))) .nil)))
    .nil)))))))))
  (.cons (.ret (.var 2))
  .nil))))⟩
noncomputable def Fcopy:Fn:=⟨1,1,
 (.cons (.ret (.tup (.cons (.sub (.var 0) (.cst (.int 0))) (.cons (.bi .list (.cons (.sub (.var 0) (.cst (.int 1))) .nil)) (.cons (.bi .list (.cons (.sub (.var 0) (.cst (.int 2))) .nil)) .nil)))))
  .nil)⟩
noncomputable def GH:Fn:=⟨2,8,
 (.cons (.asg 2 (.bi .list (.cons (.var 0) .nil)))
  (.cons (.asg 3 (.lst .nil))
  (.cons (.asg 4 (.lst .nil))
  (.cons (.while_ (.var 2)
   (.cons (.asg 5 (.comp (.var 6) [6] (.var 2) (.cons (.bi .all (.cons (.comp (.cmp .In (.var 7) (.var 3)) [7] (.sub (.var 6) (.cst (.int 1))) .nil) .nil)) .nil)))
    (.cons (.asg 6 (.sub (.var 5) (.bin .Mod (.fcall 10 (.cons (.var 1) (.cons (.bi .len (.cons (.var 2) .nil)) .nil))) (.bi .len (.cons (.var 5) .nil)))))
    (.cons (.exp (.meth .remove (.var 2) (.cons (.var 6) .nil)))
    (.cons (.exp (.meth .append (.var 3) (.cons (.sub (.var 6) (.cst (.int 0))) .nil)))
    (.cons (.exp (.meth .append (.var 4) (.cons (.var 6) .nil)))
    .nil))))))
  (.cons (.ret (.var 4))
  .nil)))))⟩
noncomputable def Fheights:Fn:=⟨1,4,
 (.cons (.asg 1 (.dct))
  (.cons (.for_ [2] (.var 0)
   (.cons (.set (.var 1) (.sub (.var 2) (.cst (.int 0))) (.maxd (.comp (.bin .Add (.sub (.var 1) (.var 3)) (.cst (.int 1))) [3] (.sub (.var 2) (.cst (.int 1))) .nil) (.cst (.int 0))))
    .nil))
  (.cons (.ret (.var 1))
  .nil)))⟩
noncomputable def Fmodel:Fn:=⟨1,12,
 (.cons (.asg 1 (.fcall 19 (.cons (.var 0) .nil)))
  (.cons (.asg 2 (.sortk true (.var 0) 3 (.sub (.var 3) (.cst (.int 0)))))
  (.cons (.swp [4,5,6] (.cons (.lst .nil) (.cons (.dct) (.cons (.dct) .nil))))
  (.cons (.for_ [3] (.sortk false (.var 2) 9 (.sub (.var 1) (.sub (.var 9) (.cst (.int 0)))))
   (.cons (.asg 7 (.cst (.int 0)))
    (.cons (.for_ [8] (.sub (.var 3) (.cst (.int 2)))
     (.cons (.ite (.cmp .Eq (.sub (.var 8) (.cst (.int 0))) (.cst (.str (Str.ofString "add"))))
      (.cons (.asg 10 (.cst (.int 0)))
       (.cons (.ite (.cmp .IsNot (.sub (.var 8) (.cst (.int 1))) (.cst .none))
        (.cons (.asg 10 (.bin .Add (.meth .index (.var 4) (.cons (.sub (.var 8) (.cst (.int 1))) .nil)) (.cst (.int 1))))
         .nil)
        .nil)
       (.cons (.exp (.meth .insert (.var 4) (.cons (.var 10) (.cons (.tup (.cons (.sub (.var 3) (.cst (.int 0))) (.cons (.var 7) .nil))) .nil))))
       (.cons (.set (.var 5) (.tup (.cons (.sub (.var 3) (.cst (.int 0))) (.cons (.var 7) .nil))) (.sub (.var 8) (.cst (.int 2))))
       (.cons (.asg 7 (.bin .Add (.var 7) (.cst (.int 1))))
       .nil)))))
      (.cons (.ite (.cmp .Eq (.sub (.var 8) (.cst (.int 0))) (.cst (.str (Str.ofString "set"))))
       (.cons (.set (.var 5) (.sub (.var 8) (.cst (.int 1))) (.sub (.var 8) (.cst (.int 2))))
        .nil)
       (.cons (.set (.var 6) (.sub (.var 8) (.cst (.int 1))) (.cst (.bool true)))
        .nil))
       .nil))
      .nil))
    .nil)))
  (.cons (.ret (.tup (.cons (.var 4) (.cons (.comp (.tup (.cons (.var 11) (.cons (.sub (.var 5) (.var 11)) .nil))) [11] (.var 4) (.cons (.cmp .NotIn (.var 11) (.var 6)) .nil)) .nil))))
  .nil)))))⟩
noncomputable def Fmark_like:Fn:=⟨2,2,
 (.cons (.ite (.bop .Or (.cons (.not (.bi .isinstance (.cons (.var 0) (.cons (.ty "tuple") .nil)))) (.cons (.cmp .NotEq (.bi .len (.cons (.var 0) .nil)) (.cst (.int 2))) (.cons (.not (.bi .isinstance (.cons (.sub (.var 0) (.cst (.int 0))) (.cons (.ty "str") .nil)))) .nil))))
  (.cons (.ret (.cst (.bool false)))
   .nil)
  .nil)
  (.cons (.ite (.bop .Or (.cons (.not (.bi .isinstance (.cons (.sub (.var 0) (.cst (.int 1))) (.cons (.ty "int") .nil)))) (.cons (.bi .isinstance (.cons (.sub (.var 0) (.cst (.int 1))) (.cons (.ty "bool") .nil))) .nil)))
   (.cons (.ret (.cst (.bool false)))
    .nil)
   .nil)
  (.cons (.ret (.cmp .Eq (.var 0) (.var 1)))
  .nil)))⟩
noncomputable def Frow_like:Fn:=⟨2,4,
 (.cons (.ite (.bop .Or (.cons (.not (.bi .isinstance (.cons (.var 0) (.cons (.ty "list") .nil)))) (.cons (.cmp .NotEq (.bi .len (.cons (.var 0) .nil)) (.bi .len (.cons (.var 1) .nil))) .nil)))
  (.cons (.ret (.cst (.bool false)))
   .nil)
  .nil)
  (.cons (.ret (.bi .all (.cons (.comp (.fcall 21 (.cons (.var 2) (.cons (.var 3) .nil))) [2,3] (.zip (.var 0) (.var 1)) .nil) .nil)))
  .nil))⟩
noncomputable def Ftold_like:Fn:=⟨2,4,
 (.cons (.ite (.bop .Or (.cons (.not (.bi .isinstance (.cons (.var 0) (.cons (.ty "list") .nil)))) (.cons (.cmp .NotEq (.bi .len (.cons (.var 0) .nil)) (.bi .len (.cons (.var 1) .nil))) .nil)))
  (.cons (.ret (.cst (.bool false)))
   .nil)
  .nil)
  (.cons (.for_ [2,3] (.zip (.var 0) (.var 1))
   (.cons (.ite (.bop .Or (.cons (.not (.bi .isinstance (.cons (.var 2) (.cons (.ty "tuple") .nil)))) (.cons (.cmp .NotEq (.bi .len (.cons (.var 2) .nil)) (.cst (.int 2))) (.cons (.not (.bi .isinstance (.cons (.sub (.var 2) (.cst (.int 1))) (.cons (.ty "str") .nil)))) .nil))))
    (.cons (.ret (.cst (.bool false)))
     .nil)
    .nil)
    (.cons (.ite (.bop .Or (.cons (.not (.fcall 21 (.cons (.sub (.var 2) (.cst (.int 0))) (.cons (.sub (.var 3) (.cst (.int 0))) .nil)))) (.cons (.cmp .NotEq (.sub (.var 2) (.cst (.int 1))) (.sub (.var 3) (.cst (.int 1)))) .nil)))
     (.cons (.ret (.cst (.bool false)))
      .nil)
     .nil)
    .nil)))
  (.cons (.ret (.cst (.bool true)))
  .nil)))⟩
noncomputable def Gs:Fn:=⟨2,3,
 (.cons (.ite (.bop .Or (.cons (.not (.bi .isinstance (.cons (.var 0) (.cons (.ty "list") .nil)))) (.cons (.cmp .NotEq (.bi .len (.cons (.var 0) .nil)) (.bi .len (.cons (.var 1) .nil))) .nil)))
  (.cons (.ret (.cst (.bool false)))
   .nil)
  .nil)
  (.cons (.ret (.bop .And (.cons (.bi .all (.cons (.comp (.bi .isinstance (.cons (.var 2) (.cons (.ty "str") .nil))) [2] (.var 0) .nil) .nil)) (.cons (.cmp .Eq (.var 0) (.var 1)) .nil))))
  .nil))⟩
noncomputable def Gu:Fn:=⟨5,8,
 (.cons (.ite (.cmp .Eq (.var 4) (.cst (.int 0)))
  (.cons (.asg 5 (.mcall (Str.ofString "row") (.var 0) .nil))
   (.cons (.asg 6 (.fcall 22 (.cons (.var 5) (.cons (.var 1) .nil))))
   .nil))
  (.cons (.ite (.cmp .Eq (.var 4) (.cst (.int 1)))
   (.cons (.asg 5 (.mcall (Str.ofString "told") (.var 0) .nil))
    (.cons (.asg 6 (.fcall 23 (.cons (.var 5) (.cons (.var 2) .nil))))
    .nil))
   (.cons (.ite (.cmp .Eq (.var 4) (.cst (.int 2)))
    (.cons (.asg 5 (.mcall (Str.ofString "names") (.var 0) .nil))
     (.cons (.asg 6 (.fcall 24 (.cons (.var 5) (.cons (.var 3) .nil))))
     .nil))
    (.cons (.asg 5 (.mcall (Str.ofString "text") (.var 0) .nil))
     (.cons (.asg 6 (.fcall 24 (.cons (.var 5) (.cons (.comp (.sub (.var 7) (.cst (.int 1))) [7] (.var 2) .nil) .nil))))
     .nil)))
    .nil))
   .nil))
  (.cons (.ite (.var 6)
   (.cons (.exp (.meth .clear (.var 5) .nil))
    .nil)
   .nil)
  (.cons (.ret (.var 6))
  .nil)))⟩
noncomputable def Fstands:Fn:=⟨2,8,
 (.cons (.unp [2,3] (.fcall 20 (.cons (.var 1) .nil)))
  (.cons (.asg 4 (.bi .sorted (.cons (.comp (.sub (.var 5) (.cst (.int 0))) [5] (.var 1) .nil) .nil)))
  (.cons (.for_ [6] (.range (.cons (.cst (.int 5)) .nil))
   (.cons (.asg 7 (.bin .Mod (.bin .Add (.bin .Mult (.var 6) (.bin .Add (.cst (.int 1)) (.bin .Mult (.bin .Mod (.bi .len (.cons (.var 2) .nil)) (.cst (.int 2))) (.cst (.int 2))))) (.bi .len (.cons (.var 3) .nil))) (.cst (.int 4))))
    (.cons (.ite (.not (.fcall 25 (.cons (.var 0) (.cons (.var 2) (.cons (.var 3) (.cons (.var 4) (.cons (.var 7) .nil)))))))
     (.cons (.ret (.cst (.bool false)))
      .nil)
     .nil)
    .nil)))
  (.cons (.ret (.cst (.bool true)))
  .nil))))⟩
noncomputable def Fwoven:Fn:=⟨1,3,
 (.cons (.asg 1 (.new))
  (.cons (.for_ [2] (.var 0)
   (.cons (.exp (.mcall (Str.ofString "add") (.var 1) (.cons (.fcall 17 (.cons (.var 2) .nil)) .nil)))
    .nil))
  (.cons (.ret (.var 1))
  .nil)))⟩
noncomputable def Fground:Fn:=⟨2,7,
 (.cons (.asg 2 (.dct))
  (.cons (.for_ [3] (.var 0)
   (.cons (.set (.var 2) (.sub (.var 3) (.cst (.int 0))) (.sub (.var 3) (.cst (.int 1))))
    .nil))
  (.cons (.asg 4 (.lst .nil))
  (.cons (.asg 5 (.bi .list (.cons (.var 1) .nil)))
  (.cons (.while_ (.var 5)
   (.cons (.asg 6 (.meth .pop (.var 5) .nil))
    (.cons (.ite (.cmp .NotIn (.var 6) (.var 4))
     (.cons (.exp (.meth .append (.var 4) (.cons (.var 6) .nil)))
      (.cons (.exp (.meth .extend (.var 5) (.cons (.sub (.var 2) (.var 6)) .nil)))
      .nil))
     .nil)
    .nil)))
  (.cons (.ret (.var 4))
  .nil))))))⟩
noncomputable def Fset_more:Fn:=⟨2,5,
 (.cons (.asg 2 (.bi .list (.cons (.sub (.var 0) (.cst (.int 2))) .nil)))
  (.cons (.for_ [3] (.range (.cons (.bin .Mod (.var 1) (.cst (.int 4))) .nil))
   (.cons (.asg 4 (.fcall 10 (.cons (.var 1) (.cons (.var 3) .nil))))
    (.cons (.ite (.cmp .Lt (.bi .len (.cons (.var 2) .nil)) (.cst (.int 19)))
     (.cons (.exp (.meth .append (.var 2) (.cons (.tup (.cons (.cst (.str (Str.ofString "set"))) (.cons (.tup (.cons (.cst (.str (Str.ofString "0"))) (.cons (.bin .Mod (.var 4) (.cst (.int 3))) .nil))) (.cons (.fcall 12 (.cons (.bin .FloorDiv (.var 4) (.cst (.int 3))) .nil)) .nil)))) .nil)))
      .nil)
     .nil)
    .nil)))
  (.cons (.ite (.bop .And (.cons (.cmp .Eq (.bin .Mod (.bin .FloorDiv (.var 1) (.cst (.int 4))) (.cst (.int 9))) (.cst (.int 1))) (.cons (.cmp .Lt (.bi .len (.cons (.var 2) .nil)) (.cst (.int 20))) .nil)))
   (.cons (.exp (.meth .append (.var 2) (.cons (.tup (.cons (.cst (.str (Str.ofString "cut"))) (.cons (.tup (.cons (.cst (.str (Str.ofString "0"))) (.cons (.bin .Mod (.bin .FloorDiv (.var 1) (.cst (.int 36))) (.cst (.int 3))) .nil))) .nil))) .nil)))
    .nil)
   .nil)
  (.cons (.ret (.tup (.cons (.sub (.var 0) (.cst (.int 0))) (.cons (.bi .sorted (.cons (.bin .Add (.sub (.var 0) (.cst (.int 1))) (.lst (.cons (.cst (.str (Str.ofString "0"))) .nil))) .nil)) (.cons (.var 2) .nil)))))
  .nil))))⟩
noncomputable def Fsetting:Fn:=⟨1,5,
 (.cons (.asg 1 (.tup (.cons (.cst (.str (Str.ofString "0"))) (.cons (.lst .nil) (.cons (.lst (.cons (.tup (.cons (.cst (.str (Str.ofString "add"))) (.cons (.cst .none) (.cons (.cst (.str (Str.ofString "x"))) .nil)))) (.cons (.tup (.cons (.cst (.str (Str.ofString "add"))) (.cons (.tup (.cons (.cst (.str (Str.ofString "0"))) (.cons (.cst (.int 0)) .nil))) (.cons (.cst (.str (Str.ofString ""))) .nil)))) (.cons (.tup (.cons (.cst (.str (Str.ofString "add"))) (.cons (.cst .none) (.cons (.cst (.str (Str.ofString "x"))) .nil)))) .nil)))) .nil)))))
  (.cons (.asg 2 (.lst (.cons (.var 1) .nil)))
  (.cons (.for_ [3,4] (.enum (.fcall 16 (.cons (.fcall 33 (.cons (.slc (.var 0) (.cst (.int 3)) .nil) (.cons (.fcall 9 (.cons (.var 0) (.cons (.cst (.int 2)) .nil))) (.cons (.cst (.int 10)) .nil)))) (.cons (.cst (.int 59)) .nil))))
   (.cons (.exp (.meth .append (.var 2) (.cons (.fcall 29 (.cons (.var 4) (.cons (.fcall 10 (.cons (.bin .Add (.fcall 9 (.cons (.var 0) (.cons (.bin .Add (.bin .Mult (.cst (.int 4)) (.var 3)) (.cst (.int 6))) .nil))) (.var 3)) (.cons (.cst (.int 11)) .nil))) .nil))) .nil)))
    .nil))
  (.cons (.ret (.var 2))
  .nil))))⟩
noncomputable def Funsettled:Fn:=⟨2,8,
 (.cons (.asg 2 (.lst .nil))
  (.cons (.for_ [3] (.var 0)
   (.cons (.ite (.cmp .Gt (.bi .len (.cons (.comp (.var 4) [4] (.sub (.var 3) (.cst (.int 2))) (.cons (.bop .And (.cons (.cmp .Eq (.sub (.var 4) (.cst (.int 0))) (.cst (.str (Str.ofString "set")))) (.cons (.cmp .Eq (.sub (.var 4) (.cst (.int 1))) (.var 1)) .nil))) .nil)) .nil)) (.cst (.int 0)))
    (.cons (.exp (.meth .append (.var 2) (.cons (.sub (.var 3) (.cst (.int 0))) .nil)))
     .nil)
    .nil)
    .nil))
  (.cons (.asg 5 (.lst .nil))
  (.cons (.for_ [6] (.var 2)
   (.cons (.ite (.not (.bi .any (.cons (.comp (.cmp .In (.var 6) (.fcall 28 (.cons (.var 0) (.cons (.lst (.cons (.var 7) .nil)) .nil)))) [7] (.var 2) (.cons (.cmp .NotEq (.var 7) (.var 6)) .nil)) .nil)))
    (.cons (.exp (.meth .append (.var 5) (.cons (.var 6) .nil)))
     .nil)
    .nil)
    .nil))
  (.cons (.ret (.bi .sorted (.cons (.var 5) .nil)))
  .nil)))))⟩
noncomputable def Fasked:Fn:=⟨2,4,
 (.cons (.ite (.bop .Or (.cons (.not (.bi .isinstance (.cons (.var 0) (.cons (.ty "list") .nil)))) (.cons (.cmp .NotEq (.bi .len (.cons (.var 0) .nil)) (.bi .len (.cons (.var 1) .nil))) .nil)))
  (.cons (.ret (.cst (.bool false)))
   .nil)
  .nil)
  (.cons (.for_ [2,3] (.zip (.var 0) (.var 1))
   (.cons (.ite (.bop .Or (.cons (.not (.bi .isinstance (.cons (.var 2) (.cons (.ty "tuple") .nil)))) (.cons (.cmp .NotEq (.bi .len (.cons (.var 2) .nil)) (.cst (.int 2))) (.cons (.not (.fcall 21 (.cons (.sub (.var 2) (.cst (.int 0))) (.cons (.sub (.var 3) (.cst (.int 0))) .nil)))) .nil))))
    (.cons (.ret (.cst (.bool false)))
     .nil)
    .nil)
    (.cons (.ite (.not (.fcall 24 (.cons (.sub (.var 2) (.cst (.int 1))) (.cons (.sub (.var 3) (.cst (.int 1))) .nil))))
     (.cons (.ret (.cst (.bool false)))
      .nil)
     .nil)
    .nil)))
  (.cons (.ret (.cst (.bool true)))
  .nil)))⟩
noncomputable def Fwide:Fn:=⟨3,5,
 (.cons (.ite (.bop .Or (.cons (.cmp .Lt (.bi .len (.cons (.var 0) .nil)) (.cst (.int 4))) (.cons (.cmp .NotEq (.bin .Mod (.var 1) (.cst (.int 12))) (.cst (.int 5))) .nil)))
  (.cons (.ret (.var 0))
   .nil)
  .nil)
  (.cons (.asg 3 (.lst .nil))
  (.cons (.for_ [4] (.range (.cons (.bin .Mult (.cst (.int 4)) (.bin .Add (.var 2) (.bin .Mod (.bin .FloorDiv (.var 1) (.cst (.int 12))) (.bin .Sub (.cst (.int 61)) (.var 2))))) .nil))
   (.cons (.exp (.meth .append (.var 3) (.cons (.fcall 10 (.cons (.sub (.var 0) (.bin .Mod (.var 4) (.bi .len (.cons (.var 0) .nil)))) (.cons (.var 4) .nil))) .nil)))
    (.cons (.ite (.bop .And (.cons (.cmp .Eq (.bin .Mod (.var 4) (.cst (.int 4))) (.cst (.int 1))) (.cons (.cmp .Eq (.bin .Mod (.bin .FloorDiv (.var 1) (.cst (.int 12))) (.cst (.int 2))) (.cst (.int 1))) .nil)))
     (.cons (.set (.var 3) (.var 4) (.bin .Add (.bin .Mult (.bin .FloorDiv (.sub (.var 3) (.var 4)) (.cst (.int 7))) (.cst (.int 7))) (.cst (.int 3))))
      .nil)
     .nil)
    .nil)))
  (.cons (.ret (.var 3))
  .nil))))⟩
noncomputable def Flaw:Fn:=⟨1,10,
 (.cons (.asg 1 (.fcall 30 (.cons (.var 0) .nil)))
  (.cons (.asg 2 (.fcall 27 (.cons (.fcall 18 (.cons (.var 1) (.cons (.fcall 9 (.cons (.var 0) (.cons (.cst (.int 0)) .nil))) .nil))) .nil)))
  (.cons (.ite (.bop .And (.cons (.cmp .Eq (.bin .Mod (.fcall 9 (.cons (.var 0) (.cons (.cst (.int 1)) .nil))) (.cst (.int 2))) (.cst (.int 0))) (.cons (.not (.fcall 26 (.cons (.var 2) (.cons (.var 1) .nil)))) .nil)))
   (.cons (.ret (.cst (.bool false)))
    .nil)
   .nil)
  (.cons (.asg 3 (.lst .nil))
  (.cons (.for_ [4,5] (.sub (.fcall 20 (.cons (.var 1) .nil)) (.cst (.int 1)))
   (.cons (.asg 6 (.fcall 31 (.cons (.var 1) (.cons (.var 4) .nil))))
    (.cons (.ite (.cmp .Gt (.bi .len (.cons (.var 6) .nil)) (.cst (.int 1)))
     (.cons (.exp (.meth .append (.var 3) (.cons (.tup (.cons (.var 4) (.cons (.var 6) .nil))) .nil)))
      .nil)
     .nil)
    .nil)))
  (.cons (.for_ [7] (.range (.cons (.cst (.int 2)) .nil))
   (.cons (.asg 8 (.mcall (Str.ofString "questions") (.var 2) .nil))
    (.cons (.ite (.not (.fcall 32 (.cons (.var 8) (.cons (.var 3) .nil))))
     (.cons (.ret (.cst (.bool false)))
      .nil)
     .nil)
    (.cons (.for_ [9] (.var 8)
     (.cons (.exp (.meth .append (.sub (.var 9) (.cst (.int 1))) (.cons (.cst (.str (Str.ofString "a"))) .nil)))
      .nil))
    (.cons (.exp (.meth .clear (.var 8) .nil))
    .nil)))))
  (.cons (.ret (.fcall 26 (.cons (.var 2) (.cons (.var 1) .nil))))
  .nil)))))))⟩
noncomputable def Dw:List (Nat×Str×Fn×List Str):=[
 (2,Str.ofString "is_name",Fis_name,[Str.ofString "thing",Str.ofString "sign"]),
 (3,Str.ofString "is_line",Fis_line,[Str.ofString "thing",Str.ofString "sign"]),
 (4,Str.ofString "check_leans",F6,[Str.ofString "name",Str.ofString "leans",Str.ofString "lean",Str.ofString "one",Str.ofString "other"]),
 (5,Str.ofString "check_deed",Gv,[Str.ofString "deed"]),
 (6,Str.ofString "check",Fcheck,[Str.ofString "change",Str.ofString "name",Str.ofString "leans",Str.ofString "deeds",Str.ofString "deed"]),
 (7,Str.ofString "adds_of",Fadds_of,[Str.ofString "change",Str.ofString "deed"]),
 (8,Str.ofString "ordered",Fordered,[Str.ofString "names",Str.ofString "heights",Str.ofString "falling",Str.ofString "name"]),
 (9,Str.ofString "_law_cell",Fcell,[Str.ofString "_law_script",Str.ofString "_law_k"]),
 (10,Str.ofString "_law_mixed",Fmixed,[Str.ofString "_law_cell_here",Str.ofString "_law_k"]),
 (11,Str.ofString "_law_name",Fname,[Str.ofString "_law_cell_here",Str.ofString "_law_taken",Str.ofString "_law_signs",Str.ofString "_law_left",Str.ofString "_law_found",Str.ofString "_law_j",Str.ofString "_law_at"]),
 (12,Str.ofString "_law_line",Fline,[Str.ofString "_law_cell_here",Str.ofString "_law_some",Str.ofString "_law_size",Str.ofString "_law_found",Str.ofString "_law_j"]),
 (13,Str.ofString "_law_leans",Fleans,[Str.ofString "_law_cell_here",Str.ofString "_law_ahead",Str.ofString "_law_left",Str.ofString "_law_found",Str.ofString "_law_k",Str.ofString "_law_change",Str.ofString "_law_last"]),
 (14,Str.ofString "_law_marks",Fmarks,[Str.ofString "_law_change",Str.ofString "_law_many",Str.ofString "_law_deed",Str.ofString "_law_j"]),
 (15,Str.ofString "_law_deeds",Fdeeds,[Str.ofString "_law_name_here",Str.ofString "_law_cell_here",Str.ofString "_law_many",Str.ofString "_law_marks_here",Str.ofString "_law_deeds_here",Str.ofString "_law_own",Str.ofString "_law_k",Str.ofString "_law_known",Str.ofString "_law_left",Str.ofString "_law_at",Str.ofString "_law_line_here",Str.ofString "_law_mark",Str.ofString "_law_j"]),
 (16,Str.ofString "_law_changes",Eh,[Str.ofString "_law_cells",Str.ofString "_law_most",Str.ofString "_law_found",Str.ofString "_law_taken",Str.ofString "_law_k",Str.ofString "_law_name_here",Str.ofString "_law_leans_here",Str.ofString "_law_marks_here",Str.ofString "_law_change",Str.ofString "_law_many"]),
 (17,Str.ofString "_law_copy",Fcopy,[Str.ofString "_law_change"]),
 (18,Str.ofString "_law_turned",GH,[Str.ofString "_law_changes_here",Str.ofString "_law_cell_here",Str.ofString "_law_left",Str.ofString "_law_there",Str.ofString "_law_found",Str.ofString "_law_ready",Str.ofString "_law_change",Str.ofString "_law_lean"]),
 (19,Str.ofString "_law_heights",Fheights,[Str.ofString "_law_changes_here",Str.ofString "_law_found",Str.ofString "_law_change",Str.ofString "_law_lean"]),
 (20,Str.ofString "_law_model",Fmodel,[Str.ofString "_law_changes_here",Str.ofString "_law_height",Str.ofString "_law_order",Str.ofString "_law_change",Str.ofString "_law_row",Str.ofString "_law_words",Str.ofString "_law_gone",Str.ofString "_law_own",Str.ofString "_law_deed",Str.ofString "_law_one",Str.ofString "_law_at",Str.ofString "_law_mark"]),
 (21,Str.ofString "_law_mark_like",Fmark_like,[Str.ofString "_law_found",Str.ofString "_law_due"]),
 (22,Str.ofString "_law_row_like",Frow_like,[Str.ofString "_law_found",Str.ofString "_law_due",Str.ofString "_law_one",Str.ofString "_law_other"]),
 (23,Str.ofString "_law_told_like",Ftold_like,[Str.ofString "_law_found",Str.ofString "_law_due",Str.ofString "_law_one",Str.ofString "_law_other"]),
 (24,Str.ofString "_law_texts_like",Gs,[Str.ofString "_law_found",Str.ofString "_law_due",Str.ofString "_law_one"]),
 (25,Str.ofString "_law_one_stands",Gu,[Str.ofString "_law_weave",Str.ofString "_law_row",Str.ofString "_law_told",Str.ofString "_law_names",Str.ofString "_law_at",Str.ofString "_law_found",Str.ofString "_law_good",Str.ofString "_law_pair"]),
 (26,Str.ofString "_law_stands",Fstands,[Str.ofString "_law_weave",Str.ofString "_law_changes_here",Str.ofString "_law_row",Str.ofString "_law_told",Str.ofString "_law_names",Str.ofString "_law_change",Str.ofString "_law_turn",Str.ofString "_law_at"]),
 (27,Str.ofString "_law_woven",Fwoven,[Str.ofString "_law_changes_here",Str.ofString "_law_weave",Str.ofString "_law_change"]),
 (28,Str.ofString "_law_ground",Fground,[Str.ofString "_law_changes_here",Str.ofString "_law_names",Str.ofString "_law_leans_here",Str.ofString "_law_change",Str.ofString "_law_found",Str.ofString "_law_waiting",Str.ofString "_law_name_here"]),
 (29,Str.ofString "_law_set_more",Fset_more,[Str.ofString "_law_change",Str.ofString "_law_cell_here",Str.ofString "_law_deeds_here",Str.ofString "_law_k",Str.ofString "_law_left"]),
 (30,Str.ofString "_law_setting",Fsetting,[Str.ofString "_law_script",Str.ofString "_law_first",Str.ofString "_law_found",Str.ofString "_law_k",Str.ofString "_law_change"]),
 (31,Str.ofString "_law_unsettled",Funsettled,[Str.ofString "_law_changes_here",Str.ofString "_law_mark",Str.ofString "_law_names",Str.ofString "_law_change",Str.ofString "_law_deed",Str.ofString "_law_found",Str.ofString "_law_name_here",Str.ofString "_law_one"]),
 (32,Str.ofString "_law_asked",Fasked,[Str.ofString "_law_found",Str.ofString "_law_due",Str.ofString "_law_one",Str.ofString "_law_other"]),
 (33,Str.ofString "_law_wide",Fwide,[Str.ofString "_law_cells",Str.ofString "_law_flag",Str.ofString "_law_most",Str.ofString "_law_found",Str.ofString "_law_j"]),
 (34,Str.ofString "law",Flaw,[Str.ofString "_law_script",Str.ofString "_law_changes_here",Str.ofString "_law_weave",Str.ofString "_law_due",Str.ofString "_law_mark",Str.ofString "_law_words",Str.ofString "_law_names",Str.ofString "_law_turn",Str.ofString "_law_found",Str.ofString "_law_one"])]
noncomputable def Dd:List (Nat×Str×Fn×List Str):=[
 (35,Str.ofString "__init__",FWeave_init,[Str.ofString "self"]),
 (36,Str.ofString "add",D5,[Str.ofString "self",Str.ofString "change",Str.ofString "name",Str.ofString "lean",Str.ofString "ground",Str.ofString "other"]),
 (37,Str.ofString "check_marks",CK,[Str.ofString "self",Str.ofString "change",Str.ofString "own",Str.ofString "deed",Str.ofString "mark",Str.ofString "many"]),
 (38,Str.ofString "need",FWeave_need,[Str.ofString "self",Str.ofString "name"]),
 (40,Str.ofString "names",F7,[Str.ofString "self"]),
 (41,Str.ofString "change",FWeave_change,[Str.ofString "self",Str.ofString "name",Str.ofString "held"]),
 (42,Str.ofString "height",FWeave_height,[Str.ofString "self",Str.ofString "name"]),
 (43,Str.ofString "ground",FWeave_ground,[Str.ofString "self",Str.ofString "name"]),
 (45,Str.ofString "grown",D4,[Str.ofString "self",Str.ofString "row",Str.ofString "words",Str.ofString "gone",Str.ofString "name",Str.ofString "number",Str.ofString "deed",Str.ofString "mark",Str.ofString "at"]),
 (46,Str.ofString "row",FWeave_row,[Str.ofString "self"]),
 (47,Str.ofString "told",Gw,[Str.ofString "self",Str.ofString "row",Str.ofString "words",Str.ofString "gone",Str.ofString "mark"]),
 (48,Str.ofString "text",Gx,[Str.ofString "self",Str.ofString "pair"]),
 (49,Str.ofString "setters",Ei,[Str.ofString "self",Str.ofString "found",Str.ofString "name",Str.ofString "deed"]),
 (50,Str.ofString "open_ones",Dk,[Str.ofString "self",Str.ofString "names",Str.ofString "found",Str.ofString "name",Str.ofString "other"]),
 (51,Str.ofString "questions",Dj,[Str.ofString "self",Str.ofString "found",Str.ofString "setters",Str.ofString "pair",Str.ofString "names"])]
noncomputable def glsP:List (Str×GV):=[
 (Str.ofString "is_name",.fn 2),
 (Str.ofString "is_line",.fn 3),
 (Str.ofString "check_leans",.fn 4),
 (Str.ofString "check_deed",.fn 5),
 (Str.ofString "check",.fn 6),
 (Str.ofString "adds_of",.fn 7),
 (Str.ofString "ordered",.fn 8),
 (Str.ofString "_law_cell",.fn 9),
 (Str.ofString "_law_mixed",.fn 10),
 (Str.ofString "_law_name",.fn 11),
 (Str.ofString "_law_line",.fn 12),
 (Str.ofString "_law_leans",.fn 13),
 (Str.ofString "_law_marks",.fn 14),
 (Str.ofString "_law_deeds",.fn 15),
 (Str.ofString "_law_changes",.fn 16),
 (Str.ofString "_law_copy",.fn 17),
 (Str.ofString "_law_turned",.fn 18),
 (Str.ofString "_law_heights",.fn 19),
 (Str.ofString "_law_model",.fn 20),
 (Str.ofString "_law_mark_like",.fn 21),
 (Str.ofString "_law_row_like",.fn 22),
 (Str.ofString "_law_told_like",.fn 23),
 (Str.ofString "_law_texts_like",.fn 24),
 (Str.ofString "_law_one_stands",.fn 25),
 (Str.ofString "_law_stands",.fn 26),
 (Str.ofString "_law_woven",.fn 27),
 (Str.ofString "_law_ground",.fn 28),
 (Str.ofString "_law_set_more",.fn 29),
 (Str.ofString "_law_setting",.fn 30),
 (Str.ofString "_law_unsettled",.fn 31),
 (Str.ofString "_law_asked",.fn 32),
 (Str.ofString "_law_wide",.fn 33),
 (Str.ofString "MOST_DEEDS",.cst (.int 20)),
 (Str.ofString "MOST_LINE",.cst (.int 200)),
 (Str.ofString "MOST_NAME",.cst (.int 12)),
 (Str.ofString "NAME_SIGNS",.cst (.str (Str.ofString "abcdefghijklmnopqrstuvwxyz0123456789"))),
 (Str.ofString "Weave",.cls),
 (Str.ofString "all",.bi .all),
 (Str.ofString "any",.bi .any),
 (Str.ofString "bool",.ty "bool"),
 (Str.ofString "enumerate",.ty "enumerate"),
 (Str.ofString "int",.ty "int"),
 (Str.ofString "isinstance",.bi .isinstance),
 (Str.ofString "len",.bi .len),
 (Str.ofString "list",.ty "list"),
 (Str.ofString "max",.bi .max),
 (Str.ofString "min",.bi .min),
 (Str.ofString "ord",.bi .ord),
 (Str.ofString "range",.ty "range"),
 (Str.ofString "sorted",.bi .sorted),
 (Str.ofString "str",.ty "str"),
 (Str.ofString "tuple",.ty "tuple"),
 (Str.ofString "zip",.ty "zip")]
@[irreducible] noncomputable def Pg (f:Nat):Option Fn:=((Dw++Dd).find? fun x=>Nat.beq x.1 f).map (·.2.2.1)
@[irreducible] noncomputable def glP (n:Str):Option GV:=glsP.lookup n
@[irreducible] noncomputable def mtP (n:Str):Option Nat:=(Dd.find? fun x=>x.2.1 == n).map (·.1)
end Mine
namespace Mine
open PySem PySem.Calls
structure TopOk (T:Top):Prop where
 nolimit:T.h0.NoLimit
 seer:T.h0.NoSeer
 tree:T.prog.given.tree=none
 mods:∃ o,T.h0.get? sysModules=some o
 tf:∀ t q q',(t,q)∈T.tabs->(t,q')∈T.tabs->q=q'
noncomputable def AZ:Bi->Value
 | .len=>.builtin "len"
 | .sorted=>.builtin "sorted"
 | .min=>.builtin "min"
 | .isinstance=>.builtin "isinstance"
 | .str=>.type "str"
 | .all=>.builtin "all"
 | .any=>.builtin "any"
 | .max=>.builtin "max"
 | .list=>.type "list"
 | .ord=>.builtin "ord"
 | .int=>.type "int"
 | .repr=>.builtin "repr"
noncomputable def GVal (T:Top):GV->Value->Prop
 | .fn f,x=>∃ a,T.fn f=some a/\x=.ref a
 | .bi b,x=>x=AZ b
 | .ty t,x=>x=.type t
 | .cst d,x=>A2 T.h0.get? d x
 | .cls,x=>x=.ref T.cls
structure Ready (T:Top) (gl:Str->Option GV):Prop where
 ok:TopOk T
 fnob:∀ f a,T.fn f=some a->∃ o fd,T.h0.get? a=some o/\o.data=.func fd
 ns:∃ mg mb,T.h0.Ns mainGlobals mg/\T.h0.Ns builtinsNs mb/\(∀ n v,gl n=some v->∃ x,GVal T v x/\(mg n=some x\/(mg n=none/\mb n=some x))) ∧
  ∃ bm ob,mg "__builtins__" = some (.ref bm)/\bm≠builtinsNs/\T.h0.get? bm=some ob/\ob.cls=.type "module"/\ob.dict=some builtinsNs/\ob.data=.plain
structure FnIs (T:Top) (gl:Str->Option GV) (fn:Fn) (a:Addr) (fd:FuncData) (body:List Stmt) (o:Obj) (vars:List Str) (lam:Option (Addr×Str)):Prop where
 ob:T.h0.get? a=some o
 data:o.data=.func fd
 code:T.h0.CodeRec fd.code fd.qualname
 bd:fd.body=.stmts body
 clo:fd.closure=[]
 glob:fd.globals=mainGlobals
 blt:fd.builtins=builtinsNs
 kind:fd.scope.kind=.function
 gen:fd.scope.isGenerator=false
 cor:fd.scope.isCoroutine=false
 nd:vars.Nodup
 bind:∀ vals:List Value,vals.length=fn.np->bindArgs fd ⟨vals,[]⟩=pure ((vars.take fn.np).zip vals)
 par:∀ n,n∈vars.take fn.np->fd.scope.names.lookup n=some .local\/fd.scope.names.lookup n=some .cell
 nof:∀ p,p∈fd.scope.names->p.2≠.free
 is:IsSs fn.body ⟨vars,fd.scope.names,vars,gl,lam⟩ body
 lam:∀ t q,lam=some (t,q)->(t,q)∈T.tabs/\(fd.qualname++(".<locals>." : Str))++("<lambda>" : Str)=q/\∃ c,fd.code=.ref c/\W.CodeHd T.h0 c t
noncomputable def FnOk (T:Top) (gl:Str->Option GV) (fn:Fn) (a:Addr):Prop:=∀ R_:Prop,(∀ fd body o vars lam,FnIs T gl fn a fd body o vars lam->R_)->R_
structure ClsNs (T:Top) (mN:Str->Option Value):Prop where
 ga:mN "__getattribute__" = none
 ge:mN "__getattr__" = none
 se:mN "__setattr__" = none
 att:∀ nm,nm∈Cu->mN nm=none
 mt:∀ nm f,mtP nm=some f->nm∉Cu/\∃ a o,T.fn f=some a/\mN nm=some (.ref a)/\T.h0.get? a=some o/\o.cls=.type "function"
structure ProgOk (T:Top):Prop extends Ready T glP where
 fns:∀ f fn a,Pg f=some fn->T.fn f=some a->FnOk T glP fn a
 cls:∃ N mN,PyProof.Rows.ClsAt T.h0 T.cls N mN/\ClsNs T mN
structure Ar where
 T:Top
 fe:List Env
 A:Around
noncomputable abbrev Ar.wp {α:Type} (r:Ar) (m:Sem α) (Q:α->Shared->Prop) (s:Shared):Prop:=wpAny (model r.T.prog r.T.w) r.A m Q (fun _ _=>False) s
structure TopFr (e:Env):Prop where
 kind:e.scope.kind≠.module
 gen:e.scope.isGenerator=false
 cor:e.scope.isCoroutine=false
 blt:e.builtins=builtinsNs
 glob:e.globals=mainGlobals
noncomputable def HOk (_:G) (A:Around):Prop:=A.handled=none
structure At (n:Nat) (r:Ar) (g:G) (σ:Ab) (s:Shared):Prop where
 ok:ProgOk r.T
 frames:r.A.frames=some r.fe
 top:∃ e l,r.fe=e::l/\TopFr e
 depth:r.A.depth+n<=600
 units:r.A.units+100 * n<=9000
 hh:HOk g r.A
 has:Has r.T g σ s
theorem HOk.mono {g g':G} {A:Around} (h:HOk g A) (le:G.up g g'):HOk g' A:=h
section
variable {n m:Nat} {r:Ar} {g g':G} {σ σ':Ab} {s s':Shared} {own:List Addr}
theorem At.step (x:At n r g σ s) (le:G.up g g') (h:Has r.T g' σ' s'):At n r g' σ' s':=⟨x.ok,x.frames,x.top,x.depth,x.units,x.hh.mono le,h⟩
theorem At.less (x:At n r g σ s) (h:m<=n):At m r g σ s:=⟨x.ok,x.frames,x.top,Nat.le_trans (Nat.add_le_add_left h _) x.depth,Nat.le_trans (Nat.add_le_add_left (Nat.mul_le_mul_left _ h) _) x.units,x.hh,x.has⟩
theorem At.nolimit (x:At n r g σ s):s.heap.NoLimit:=x.ok.ok.nolimit.keeps fun b o e=>x.has.fz b o (x.has.base b o e)
theorem At.pylong (x:At n r g σ s):PylongRoom (model r.T.prog r.T.w) r.A s:=by
 obtain ⟨e,l,hf,t⟩:=x.top
 exact PylongRoom.of x.nolimit (Nat.lt_of_le_of_lt (Nat.add_le_add_right (Nat.le_trans (Nat.le_add_right _ _) x.depth) 100) (show 600+100 < 1000 by decide)) (SeerAt.of (x.ok.ok.seer.keeps fun b o e=>x.has.fz b o (x.has.base b o e)) x.ok.ok.tree (hf▸x.frames) t.gen t.cor t.blt t.glob)
theorem At.room (x:At n r g σ s):r.A.units+41 < cLine:=Nat.lt_of_le_of_lt (Nat.add_le_add_right (Nat.le_trans (Nat.le_add_right _ _) x.units) 41) (show 9000+41 < 9900 by decide)
end
noncomputable abbrev Ans (r:Ar) (g:G) (v:V) (σ':Ab) (x:Value) (s':Shared):Prop:=BK r.T [] g σ' (fun g'=>An r.T g' v x) s'
noncomputable def Pr1 (m:Value->Sem Value) (x:V) (σ:Ab) (v:V) (σ':Ab):Prop :=
 ∀ (r:Ar) (g:G) (s:Shared) (X:Value),At 0 r g σ s->An r.T g x X->r.wp (m X) (Ans r g v σ') s
noncomputable def Pr2 (m:Value->Value->Sem Value) (x y:V) (σ:Ab) (v:V) (σ':Ab):Prop :=
 ∀ (r:Ar) (g:G) (s:Shared) (X Y:Value),At 0 r g σ s->An r.T g x X->An r.T g y Y->r.wp (m X Y) (Ans r g v σ') s
noncomputable def PrL (m:List Value->Sem Value) (xs:List V) (σ:Ab) (v:V) (σ':Ab):Prop :=
 ∀ (r:Ar) (g:G) (s:Shared) (Xs:List Value),At 0 r g σ s->Am r.T g xs Xs->r.wp (m Xs) (Ans r g v σ') s
noncomputable def FN (n f:Nat) (xs:List V) (σ:Ab) (v:V) (σ':Ab):Prop :=
 ∀ (r:Ar) (g:G) (s:Shared) (a:Addr) (Xs:List Value),r.T.fn f=some a->At n r g σ s->Am r.T g xs Xs->r.wp (call (.ref a) Xs) (Ans r g v σ') s
noncomputable def NsF (f:Addr->Option Obj) (a:Addr) (m:Str->Option Value):Prop:=∃ o es ep,f a=some o/\o.data=.dict es ep/\StrKeys es/\∀ name,nsFind es name=m name
noncomputable def CellF (f:Addr->Option Obj) (c:Addr) (v:Option Value):Prop:=∃ o,f c=some o/\o.data=.cell v
structure Cx extends Ar where
 K:Kx
 env:Env
 own:List Addr
structure CxOk (n:Nat) (c:Cx):Prop where
 rd:Ready c.T c.K.gl
 names:c.env.scope.names=c.K.names
 kind:c.env.scope.kind=.function
 glob:c.env.globals=mainGlobals
 blt:c.env.builtins=builtinsNs
 cinj:∀ m m' a,c.env.cells.lookup m=some a->c.env.cells.lookup m'=some a->m=m'
 nd:c.K.vars.Nodup
 oloc:c.env.locals∈c.own
 ocell:∀ m,m∈c.K.wr->∀ a,c.env.kindOf m=some .cell->c.env.cells.lookup m=some a->a∈c.own
 lamc:∀ t q,c.K.lam=some (t,q)->1<=n/\(t,q)∈c.T.tabs/\c.env.qual++("<lambda>" : Str)=q/\∃ a,c.env.code=.ref a/\W.CodeHd c.T.h0 a t
structure Loc (c:Cx) (ρ:Af) (g:G):Prop where
 ns:∀ R_:Prop,(∀ m,NsF g.hid c.env.locals m->(∀ (i:Nat) (nm:Str) (v:V),c.K.vars[i]? = some nm->ρ[i]? = some (some v)->c.env.kindOf nm=some .local->∃ x,m nm=some x/\An c.T g v x)->R_)->R_
 ce:∀ nm,c.env.kindOf nm=some .cell\/c.env.kindOf nm=some .free->∀ R_:Prop,(∀ a u,c.env.cells.lookup nm=some a->CellF g.hid a u->(∀ (i:Nat) (v:V),c.K.vars[i]? = some nm->ρ[i]? = some (some v)->∃ x,u=some x/\An c.T g v x)->R_)->R_
 ow:∀ a,a∈c.own->g.hid a≠none
structure Inv (n:Nat) (c:Cx) (ρ:Af) (g:G) (σ:Ab) (s:Shared):Prop extends At n c.toAr g σ s where
 cx:CxOk n c
 loc:Loc c ρ g
noncomputable def SE (n:Nat) (e:E) (ρ:Af) (σ:Ab) (v:V) (σ':Ab):Prop :=
 ∀ (c:Cx) (g:G) (s:Shared) (ex:Expr),IsE e c.K ex->Inv n c ρ g σ s->c.wp (eval ex c.env) (Ans c.toAr g v σ') s
noncomputable def ST (n:Nat) (e:E) (ρ:Af) (σ:Ab) (b:Bool) (σ':Ab):Prop :=
 ∀ (c:Cx) (g:G) (s:Shared) (ex:Expr),IsE e c.K ex->Inv n c ρ g σ s->c.wp (isTrue ex c.env (eval ex c.env)) (fun x s'=>BK c.T [] g σ' (fun _=>x=b) s') s
noncomputable def SEs (n:Nat) (e:E) (ρ:Af) (σ:Ab) (vs:List V) (σ':Ab):Prop :=
 ∀ (c:Cx) (g:G) (s:Shared) (xs:List Expr) (pos:Pos),ED e c.K xs->Inv n c ρ g σ s->c.wp (spliced (backTo pos (starEach xs c.env))) (fun xs s'=>BK c.T [] g σ' (fun g'=>Am c.T g' vs xs) s') s
set_option genCtorIdx true in
inductive Fl where
 | next (ρ:Af)
 | ret (v:V)
noncomputable def Bu (n:Nat) (c:Cx) (g:G) (Q:Fl->Ab->Prop) (f:Flow) (s':Shared):Prop :=
 ∀ R_:Flow->Prop,(∀ (ρ:Af) (σ':Ab) (g':G),Q (.next ρ) σ'->G.le c.own g g'->Inv n c ρ g' σ' s'->R_ .next) ->
  (∀ (v:V) (x:Value) (σ':Ab) (g':G),Q (.ret v) σ'->G.le c.own g g'->Has c.T g' σ' s'->(∀ a,a∈c.own->g'.hid a≠none)->An c.T g' v x->R_ (.ret x))->R_ f
noncomputable def SS (n:Nat) (st:S) (ρ:Af) (σ:Ab) (Q:Fl->Ab->Prop):Prop :=
 ∀ (c:Cx) (g:G) (s:Shared) (x:Stmt),IsS st c.K x->Inv n c ρ g σ s->c.wp (exec x c.env) (Bu n c g Q) s
noncomputable def SSs (n:Nat) (st:S) (ρ:Af) (σ:Ab) (Q:Fl->Ab->Prop):Prop :=
 ∀ (c:Cx) (g:G) (s:Shared) (xs:List Stmt),IsSs st c.K xs->Inv n c ρ g σ s->c.wp (execs xs c.env) (Bu n c g Q) s
section
variable {n:Nat} {c:Cx} {ρ ρ':Af} {g g':G} {σ σ':Ab} {s s':Shared}
theorem NsF.to {f f':Addr->Option Obj} {a:Addr} {m:Str->Option Value} (x:NsF f a m) (h:∀ o,f a=some o->f' a=some o):NsF f' a m:=x.imp fun o x=>x.imp fun _ x=>x.imp fun _ x=>⟨h o x.1,x.2⟩
theorem CellF.to {f f':Addr->Option Obj} {a:Addr} {u:Option Value} (x:CellF f a u) (h:∀ o,f a=some o->f' a=some o):CellF f' a u:=x.imp fun o x=>⟨h o x.1,x.2⟩
theorem BE {T:Top} {v:V} {o:Option Value} (up:G.up g g') (h:∃ x,o=some x/\An T g v x):∃ x,o=some x/\An T g' v x:=h.imp fun _ h=>⟨h.1,An.mono up _ _ h.2⟩
theorem Loc.step (x:Loc c ρ g) (up:G.up g g') (hd:∀ a,g'.hid a=g.hid a):Loc c ρ g' :=
 ⟨fun R_ k=>x.ns R_ fun m h1 h2=>k m (h1.to fun o e=>(hd _).trans e) fun i nm v e1 e2 e3=>BE up (h2 i nm v e1 e2 e3),
  fun nm hk R_ k=>x.ce nm hk R_ fun a u h1 h2 h3=>k a u h1 (h2.to fun o e=>(hd _).trans e) fun i v e1 e2=>BE up (h3 i v e1 e2),fun a h=>hd a▸x.ow a h⟩
theorem Inv.step (x:Inv n c ρ g σ s) (le:G.le [] g g') (h:Has c.T g' σ' s'):Inv n c ρ g' σ' s':=⟨x.toAt.step le.toup h,x.cx,x.loc.step le.toup fun a=>le.hid a List.not_mem_nil⟩
theorem Inv.at0 (x:Inv n c ρ g σ s):At 0 c.toAr g σ s:=x.toAt.less (Nat.zero_le _)
theorem BK.refl {T:Top} {own:List Addr} {R:G->Prop} (h:Has T g σ s) (r:R g):BK T own g σ R s:=.mk g (.refl _ _) h r
theorem B0 {α β:Type} {r:Ar} {g:G} {σ₁:Ab} {s:Shared} {R:α->G->Prop} {m:Sem α} {k:α->Sem β} {Q:β->Shared->Prop} (h:r.wp m (fun x s'=>BK r.T [] g σ₁ (R x) s') s)
 (hk:∀ x g₁ s₁,G.le [] g g₁->Has r.T g₁ σ₁ s₁->R x g₁->r.wp (k x) Q s₁):r.wp (m>>=k) Q s :=
 wpAny_bind (wpAny_mono h (fun x s' p=>p _ fun g' le hs hr=>hk x g' s' le hs hr) fun _ _ h=>h)
theorem Bv {α:Type} {r:Ar} {g g₁:G} {σ':Ab} {s:Shared} {R:α->G->Prop} {m:Sem α} (le:G.le [] g g₁) (h:r.wp m (fun x s'=>BK r.T [] g₁ σ' (R x) s') s):r.wp m (fun x s'=>BK r.T [] g σ' (R x) s') s :=
 wpAny_mono h (fun _ _ p=>p.after le) fun _ _ h=>h
theorem ans_tok {r:Ar} {m:Sem Value} {v:V} (a:Has r.T g σ s) (h:∀ Q:Value->Shared->Prop,(∀ x k,An r.T g v x->Q x { s with toks:=k })->wpAny (model r.T.prog r.T.w) r.A m Q (fun _ _=>False) s):r.wp m (Ans r g v σ) s :=
 h _ fun x k rx=>.refl a.tok rx
end
end Mine
namespace Mine
open PySem PySem.Calls
noncomputable abbrev vi (i:Int):V:=.d (.int i)
noncomputable abbrev vb (b:Bool):V:=.d (.bool b)
noncomputable def Tr (σ:Ab) (v:V) (b:Bool):Prop:=∀ (r:Ar) (g:G) (s:Shared) (X:Value),At 0 r g σ s->An r.T g v X->r.wp (truthy X) (fun x s'=>BK r.T [] g σ (fun _=>x=b) s') s
section
variable {n:Nat} {c:Cx} {ρ:Af} {g g':G} {σ σ₁ σ2 σ3:Ab} {s s':Shared} {e a b:E} {x y v:V}
theorem AE {env:Env} {K:Kx} (h:env.scope.names=K.names) (nm:Str):env.kindOf nm=K.names.lookup nm:=by unfold Env.kindOf; rw [h]
theorem isVar_kind {env:Env} {K:Kx} (h:env.scope.names=K.names) {nm:Str} (hv:K.isVar nm=true) :
 (env.kindOf nm=some .local\/env.kindOf nm=some .cell\/env.kindOf nm=some .free)/\(nm == ("__debug__" : Str))=false/\(nm == ("__classdict__" : Str))=false:=by
 rw [AE h]
 unfold Kx.isVar at hv
 simp only [Bool.and_eq_true,Bool.not_eq_true',Bool.or_eq_true] at hv
 exact ⟨hv.1.1.imp Kx.kd_eq (Or.imp Kx.kd_eq Kx.kd_eq),hv.1.2,hv.2⟩
theorem isGl_kind {env:Env} {K:Kx} (h:env.scope.names=K.names) {nm:Str} (hv:K.isGl nm=true):env.kindOf nm=some .globalImplicit/\(nm == ("__debug__" : Str))=false:=by
 rw [AE h]
 unfold Kx.isGl at hv
 simp only [Bool.and_eq_true,Bool.not_eq_true'] at hv
 exact ⟨Kx.kd_eq hv.1,hv.2⟩
theorem Inv.base (I:Inv n c ρ g σ s):∀ b o,c.T.h0.get? b=some o->s.heap.get? b=some o:=fun b o e=>I.has.fz b o (I.has.base b o e)
theorem C9 {p:Pos} {nm:Str} {v:GV} {Q:Value->Shared->Prop} {E:Value->Shared->Prop} (I:Inv n c ρ g σ s) (hv:c.K.to v nm) (h:∀ x,GVal c.T v x->Q x s):wpAny (model c.T.prog c.T.w) c.A (eval (.Name nm p) c.env) Q E s:=by
 obtain ⟨mg,mb,hg,hb,ht,_⟩:=I.cx.rd.ns
 obtain ⟨hk,hd⟩:=isGl_kind I.cx.names hv.1
 have hg':s.heap.Ns c.env.globals mg:=by rw [I.cx.glob]; exact hg.keeps I.base
 obtain ⟨x,hx,h1⟩:=ht nm v hv.2
 refine Name_function_global I.cx.kind hk ?_ hd
 rcases h1 with h1 | ⟨h1,h2⟩
 ·exact loadGlobal_global hg' h1 (h x hx)
 ·exact loadGlobal_builtin hg' h1 (by rw [I.cx.blt]; exact hb.keeps I.base) h2 (h x hx)
theorem cst_is {x:PyData} {r:Ar} {m:Nat} {p:Pos} {env:Env} (a:Has r.T g σ s) (hc:cOk x=true):r.wp (eval (.Constant (toC x) m p) env) (Ans r g (.d x) σ) s:=by
 refine ans_tok a fun Q h=>?_
 cases x with
 | none=>exact wpAny_Constant_none (h _ s.toks rfl)
 | bool b=>exact wpAny_Constant_bool (h _ s.toks rfl)
 | int b=>exact wpAny_Constant_int (h _ _ ⟨s.toks,rfl⟩)
 | str b=>exact wpAny_Constant_str (h _ _ ⟨s.toks,rfl,of_decide_eq_true hc⟩)
 | _=>exact ff_ hc
theorem SE.cst (x:PyData):SE n (.cst x) ρ σ (.d x) σ:=fun c g s ex hc I=>hc (fun ex=>c.wp (eval ex c.env) (Ans c.toAr g (.d x) σ) s) fun m p hc=>cst_is I.has hc
theorem SE.var {i:Nat} (hv:ρ[i]? = some (some v)):SE n (.var i) ρ σ v σ:=by
 refine fun c g s ex hc I=>hc (fun ex=>c.wp (eval ex c.env) (Ans c.toAr g v σ) s) fun nm p h=>?_
 have hq:=isVar_kind I.cx.names h.1
 refine wpAny_Name ?_ hq.2.1
 rcases hq.1 with hk | hk
 ·refine I.loc.ns _ fun m hm hs=>?_
  obtain ⟨x,e,r⟩:=hs i nm v h.2 hv hk
  exact wpAny_loadName_local I.cx.kind hk (hm.to (I.has.hd _)) e (.refl I.has r)
 ·refine I.loc.ce nm hk _ fun a u e hu hs=>?_
  obtain ⟨x,rfl,r⟩:=hs i v h.2 hv
  rcases hk with hk | hk
  ·exact wpAny_loadName_cell I.cx.kind hk e (hu.to (I.has.hd _)) (.refl I.has r)
  ·exact wpAny_loadName_free I.cx.kind hk e (hu.to (I.has.hd _)) (.refl I.has r) hq.2.2
theorem SE.ty {t:String}:SE n (.ty t) ρ σ (.ty t) σ:=fun c g s ex hc I=>hc (fun ex=>c.wp (eval ex c.env) (Ans c.toAr g (.ty t) σ) s) fun nm p hc=>C9 I hc fun x r=>.refl I.has r
theorem SE.glb {x:PyData}:SE n (.glb x) ρ σ (.d x) σ:=fun c g s ex hc I=>hc (fun ex=>c.wp (eval ex c.env) (Ans c.toAr g (.d x) σ) s) fun nm p hc=>C9 I hc fun x r=>.refl I.has (A2.mono I.has.base _ _ r)
theorem AU {α:Type} {r:Ar} {m m':Sem α} {Q:α->Shared->Prop} (e:m=m') (h:r.wp m' Q s):r.wp m Q s:=e▸h
theorem Bw {α:Type} {ex:Expr} {Q:α->Shared->Prop} {k:Value->Sem α} (ha:SE n a ρ σ x σ₁) (h1:IsE a c.K ex) (I:Inv n c ρ g σ s) (hk:∀ X g₁ s₁,G.le [] g g₁->Inv n c ρ g₁ σ₁ s₁->An c.T g₁ x X->c.wp (k X) Q s₁):c.wp (eval ex c.env>>=k) Q s :=
 B0 (ha c g s ex h1 I) fun X g₁ s₁ le a r=>hk X g₁ s₁ le (I.step le a) r
theorem DE {α:Type} {l r:Expr} {Q:α->Shared->Prop} {k:Value->Value->Sem α} (ha:SE n a ρ σ x σ₁) (hb:SE n b ρ σ₁ y σ2) (h1:IsE a c.K l) (h2:IsE b c.K r) (I:Inv n c ρ g σ s)
 (hk:∀ X Y g₁ s₁,G.le [] g g₁->Inv n c ρ g₁ σ2 s₁->An c.T g₁ x X->An c.T g₁ y Y->c.wp (k X Y) Q s₁):c.wp (eval l c.env>>=fun X=>holding [X] (eval r c.env)>>=fun Y=>k X Y) Q s :=
 Bw ha h1 I fun X g₁ s₁ le1 I1 r1=>B0 (wpAny_holding (hb c g₁ s₁ r h2 I1)) fun Y g2 s2 le2 a₂ r2=>hk X Y g2 s2 (le1.trans le2) (I1.step le2 a₂) (An.mono le2.toup _ _ r1) r2
theorem SE.bin {op:Operator} (ha:SE n a ρ σ x σ₁) (hb:SE n b ρ σ₁ y σ2) (h:Pr2 (binaryOp op) x y σ2 v σ3):SE n (.bin op a b) ρ σ v σ3:=by
 refine fun c g s ex hc I=>hc (fun ex=>c.wp (eval ex c.env) (Ans c.toAr g v σ3) s) fun l r p h1 h2=>?_
 exact AU (arm_eval_BinOp ..) (DE ha hb h1 h2 I fun X Y g2 s2 le I2 r1 r2=>wpAny_bind (wpAny_standAt (wpAny_operating (Bv le (h c.toAr g2 s2 X Y I2.at0 r1 r2)))))
theorem SE.neg {i:Int} (ha:SE n a ρ σ (vi i) σ₁):SE n (.neg a) ρ σ (vi (-i)) σ₁:=by
 refine fun c g s ex hc I=>hc (fun ex=>c.wp (eval ex c.env) (Ans c.toAr g (vi (-i)) σ₁) s) fun z p hc=>?_
 refine AU (arm_eval_UnaryOp ..) (Bw ha hc I fun X g₁ s₁ le I1 r1=>wpAny_bind (wpAny_standAt (wpAny_holding ?_)))
 obtain ⟨t,rfl⟩:=r1
 exact Bv le (ans_tok (r:=c.toAr) I1.has fun Q h=>P.neg_int (h _ _ ⟨_,rfl⟩))
theorem not_is {X:Value}:unaryOp .Not X=holding [X] (truthy X>>=fun b=>pure (Value.bool (!b))):=by unfold unaryOp; rfl
theorem SE.not {t:Bool} (ha:SE n a ρ σ x σ₁) (ht:Tr σ₁ x t):SE n (.not a) ρ σ (vb !t) σ₁:=by
 refine fun c g s ex hc I=>hc (fun ex=>c.wp (eval ex c.env) (Ans c.toAr g (vb !t) σ₁) s) fun z p hc=>?_
 exact AU (arm_eval_UnaryOp ..) (Bw ha hc I fun X g₁ s₁ le1 I1 r1=>wpAny_bind (wpAny_standAt (wpAny_holding (AU not_is (wpAny_holding (B0 (ht c.toAr g₁ s₁ X I1.at0 r1) fun b g2 s2 le2 a₂ r2=>wpAny_pure (.mk g2 (le1.trans le2) a₂ (congrArg (fun b=>Value.bool (!b)) r2))))))))
theorem ST.not {t:Bool} (ha:ST n a ρ σ t σ₁):ST n (.not a) ρ σ (!t) σ₁:=by
 exact fun c g s ex hc I=>hc (fun ex=>c.wp (isTrue ex c.env (eval ex c.env)) (fun x s'=>BK c.T [] g σ₁ (fun _=>x = !t) s') s) fun z p hc =>
  AU (arm_isTrue_UnaryOp ..) (B0 (ha c g s z hc I) fun b g₁ s₁ le1 a₁ r1=>wpAny_pure (.mk g₁ le1 a₁ (congrArg Bool.not r1)))
structure Plain (x:Expr):Prop where
 star:∀ env r,starEach (x::r) env=(false,eval x env)::starEach r env
 marks:∀ op t,markedBehindIn op x t=t
 fold:∀ env y,foldedSetIterable x env y=pure y
theorem B8 (e:E) {K:Kx} {ex:Expr} (h:IsE e K ex):Plain ex:=by
 cases e with
 | nil=>exact h.elim
 | cons _ _=>exact h.elim
 | _=>exact h Plain (by intros; exact ⟨fun _ _=>rfl,fun _ _=>rfl,fun _ _=>rfl⟩)
theorem EK (e:E) {K:Kx} {ex:Expr} (hp:B3 e=false) (h:IsE e K ex) (t:Option Expr) (l:Nat) (env:Env):swapsWith ex t l env=pure false:=by
 cases e with
 | nil=>exact h.elim
 | cons _ _=>exact h.elim
 | comp _ _ _ _=>exact tt_ hp
 | _=>exact h (fun ex=>swapsWith ex t l env=pure false) (by intros; rfl)
theorem tr_bool {t:Bool}:Tr σ (vb t) t:=fun r g s X A h=>by
 obtain rfl:X=.bool t:=h
 exact wpAny_truthy_bool (.refl A.has rfl)
theorem cmp_arm {l r:Expr} {op:CmpOp} {p:Pos} {env:Env} (h:Plain r):eval (.Compare l [op] [r] p) env=(eval l env>>=fun X=>holding [X] (eval r env)>>=fun Y=>standAt p>>=fun _=>operate [X,Y] (compareOp op X Y)):=by
 rw [arm_eval_Compare]
 show (eval l env>>=fun X=>holding [X] (markedBehindIn op r (eval r env))>>=_)=_
 rw [h.marks]
theorem cmpT_arm {l r:Expr} {op:CmpOp} {p:Pos} {env:Env} {w:Sem Value} (h:Plain r):isTrue (.Compare l [op] [r] p) env w=(eval l env>>=fun X=>holding [X] (eval r env)>>=fun Y=>standAt p>>=fun _=>operate [X,Y] (compareOp op X Y)>>=fun z=>holding [z] (truthy z)):=by
 rw [arm_isTrue_Compare]
 show (eval l env>>=fun X=>holding [X] (markedBehindIn op r (eval r env))>>=_)=_
 rw [h.marks]
theorem SE.cmp {op:CmpOp} (ha:SE n a ρ σ x σ₁) (hb:SE n b ρ σ₁ y σ2) (h:Pr2 (compareOp op) x y σ2 v σ3):SE n (.cmp op a b) ρ σ v σ3:=by
 refine fun c g s ex hc I=>hc (fun ex=>c.wp (eval ex c.env) (Ans c.toAr g v σ3) s) fun l r p h1 h2=>?_
 exact AU (cmp_arm (B8 b h2)) (DE ha hb h1 h2 I fun X Y g2 s2 le I2 r1 r2=>wpAny_bind (wpAny_standAt (wpAny_operating (Bv le (h c.toAr g2 s2 X Y I2.at0 r1 r2)))))
theorem ST.cmp {op:CmpOp} {t:Bool} (ha:SE n a ρ σ x σ₁) (hb:SE n b ρ σ₁ y σ2) (h:Pr2 (compareOp op) x y σ2 (vb t) σ3):ST n (.cmp op a b) ρ σ t σ3:=by
 refine fun c g s ex hc I=>hc (fun ex=>c.wp (isTrue ex c.env (eval ex c.env)) (fun x s'=>BK c.T [] g σ3 (fun _=>x=t) s') s) fun l r p h1 h2=>?_
 exact AU (cmpT_arm (B8 b h2)) (DE ha hb h1 h2 I fun X Y g2 s2 le2 I2 r1 r2=>wpAny_bind (wpAny_standAt (B0 (r:=c.toAr) (wpAny_operating (h c.toAr g2 s2 X Y I2.at0 r1 r2)) fun z g3 s3 le3 a3 r3=>wpAny_holding
  (Bv (le2.trans le3) (tr_bool c.toAr g3 s3 z (I2.step le3 a3).at0 r3)))))
theorem ST.plain {t:Bool} (hp:∀ {K:Kx} {ex:Expr},IsE e K ex->∀ env w,isTrue ex env w=(w>>=fun v=>standAt ex.pos>>=fun _=>holding [v] (truthy v))) (h:SE n e ρ σ x σ₁) (ht:Tr σ₁ x t):ST n e ρ σ t σ₁:=by
 intro c g s ex hc I
 exact AU (hp hc c.env _) (Bw h hc I fun X g₁ s₁ le I1 r1=>wpAny_bind (wpAny_standAt (wpAny_holding (Bv le (ht c.toAr g₁ s₁ X I1.at0 r1)))))
theorem SEs.nil:SEs n .nil ρ σ [] σ:=by
 intro c g s xs pos hc I
 obtain rfl:xs=[]:=hc
 exact spliced_nil (.refl I.has trivial)
theorem SEs.cons {xs:List V} (h1:SE n a ρ σ x σ₁) (h2:SEs n b ρ σ₁ xs σ2):SEs n (.cons a b) ρ σ (x::xs) σ2:=by
 refine fun c g s l pos hc I=>hc (fun l=>c.wp (spliced (backTo pos (starEach l c.env))) (fun Xs s'=>BK c.T [] g σ2 (fun g'=>Am c.T g' (x::xs) Xs) s') s) fun z l c1 c3=>?_
 rw [(B8 a c1).star]
 refine spliced_cons (wpAny_mono (h1 c g s z c1 I) (fun X s₁ p=>p _ fun g₁ le1 a₁ r1=>?_) fun _ _ h=>h)
 exact wpAny_mono (h2 c g₁ s₁ l pos c3 (I.step le1 a₁)) (fun Xs s2 p=>p _ fun g2 le2 a₂ r2=>.mk g2 (le1.trans le2) a₂ ⟨An.mono le2.toup _ _ r1,r2⟩) fun _ _ h=>h
noncomputable def SB (n:Nat) (op:BoolOp) (e:E) (ρ:Af) (σ:Ab) (v:V) (σ':Ab):Prop :=
 ∀ (c:Cx) (g:G) (s:Shared) (xs:List Expr) (pos:Pos),ED e c.K xs->Inv n c ρ g σ s->c.wp (boolOp pos op (evalEach xs c.env)) (Ans c.toAr g v σ') s
noncomputable def SBt (n:Nat) (op:BoolOp) (e:E) (ρ:Af) (σ:Ab) (b:Bool) (σ':Ab):Prop :=
 ∀ (c:Cx) (g:G) (s:Shared) (xs:List Expr),ED e c.K xs->Inv n c ρ g σ s->c.wp (allTrue op xs c.env) (fun x s'=>BK c.T [] g σ' (fun _=>x=b) s') s
noncomputable def Cp (op:BoolOp):Bool:=match op with | .And=>false | .Or=>true
variable {op:BoolOp} {r:E}
theorem SB.one (h:SE n a ρ σ x σ₁):SB n op (.cons a .nil) ρ σ x σ₁ :=
 fun c g s xs pos hc I=>hc (fun xs=>c.wp (boolOp pos op (evalEach xs c.env)) (Ans c.toAr g x σ₁) s) fun z l c1 c3=>by
  obtain rfl:l=[]:=c3
  exact h c g s z c1 I
set_option backward.match.sparseCases true in
theorem boolOp_cons (pos:Pos) (op:BoolOp) (x y:Sem Value) (r:List (Sem Value)):boolOp pos op (x::y::r)=(x>>=fun v=>standAt pos>>=fun _=>holding [v] (truthy v)>>=fun t=>if t=Cp op then pure v else boolOp pos op (y::r)):=by
 rw [boolOp]
 ·congr 1; funext v; congr 1; funext _; congr 1; funext t
  cases op <;> cases t <;> rfl
 ·intro q; exact cons_ne q
theorem row_cons (r:E) {K:Kx} {l:List Expr} (hn:B2 r=false) (h:ED r K l):∃ y l',l=y::l':=by
 cases r with
 | nil=>exact tt_ hn
 | cons a b=>exact h (fun l=>∃ y l',l=y::l') fun y l _ _=>⟨y,l,rfl⟩
 | _=>exact h.elim
theorem SB.more {t:Bool} (hr:B2 r=false) (h:SE n a ρ σ x σ₁) (ht:Tr σ₁ x t) (hs:t=Cp op->v=x/\σ2=σ₁) (hg:t≠Cp op->SB n op r ρ σ₁ v σ2):SB n op (.cons a r) ρ σ v σ2:=by
 refine fun c g s xs pos hc I=>hc (fun xs=>c.wp (boolOp pos op (evalEach xs c.env)) (Ans c.toAr g v σ2) s) fun z l c1 hl=>?_
 have k:c.wp (eval z c.env>>=fun v=>standAt pos>>=fun _=>holding [v] (truthy v)>>=fun t=>if t=Cp op then pure v else boolOp pos op (evalEach l c.env)) (Ans c.toAr g v σ2) s:=by
  refine Bw h c1 I fun X g₁ s₁ le1 I1 r1=>wpAny_bind (wpAny_standAt (B0 (wpAny_holding (ht c.toAr g₁ s₁ X I1.at0 r1)) fun b' g2 s2 le2 a₂ r2=>?_))
  obtain rfl:b'=t:=r2
  by_cases q:b'=Cp op
  ·exact AU (if_pos q) (wpAny_pure (.mk g2 (le1.trans le2) ((hs q).2▸a₂) ((hs q).1▸An.mono le2.toup _ _ r1)))
  ·exact AU (if_neg q) (Bv (le1.trans le2) (hg q c g2 s2 _ pos hl (I1.step le2 a₂)))
 obtain ⟨y,l',rfl⟩:=row_cons r hr hl
 exact AU (boolOp_cons ..) k
theorem SE.bop (h:SB n op e ρ σ v σ₁):SE n (.bop op e) ρ σ v σ₁:=fun c g s ex hc I=>hc (fun ex=>c.wp (eval ex c.env) (Ans c.toAr g v σ₁) s) fun vs p h1=>AU (arm_eval_BoolOp ..) (h c g s vs p h1 I)
theorem allTrue_arm {op:BoolOp} {z:Expr} {l:List Expr} {env:Env}:allTrue op (z::l) env=(isTrue z env (eval z env)>>=fun t=>if t=Cp op then pure t else allTrue op l env):=by
 rw [arm_allTrue_cons]
 congr 1; funext t
 cases op <;> cases t <;> rfl
theorem SBt.nil:SBt n op .nil ρ σ (!Cp op) σ:=by
 intro c g s xs hc I
 obtain rfl:xs=[]:=hc
 exact AU (by cases op <;> rfl) (wpAny_pure (.refl I.has rfl))
theorem SBt.cons {t q:Bool} (h:ST n a ρ σ t σ₁) (hs:t=Cp op->q=t/\σ2=σ₁) (hg:t≠Cp op->SBt n op r ρ σ₁ q σ2):SBt n op (.cons a r) ρ σ q σ2:=by
 refine fun c g s xs hc I=>hc (fun xs=>c.wp (allTrue op xs c.env) (fun x s'=>BK c.T [] g σ2 (fun _=>x=q) s') s) fun z l c1 hl=>?_
 refine AU allTrue_arm (B0 (h c g s z c1 I) fun b' g₁ s₁ le1 a₁ r1=>?_)
 obtain rfl:b'=t:=r1
 by_cases e:b'=Cp op
 ·exact AU (if_pos e) (wpAny_pure (.mk g₁ le1 ((hs e).2▸a₁) (hs e).1.symm))
 ·exact AU (if_neg e) (Bv le1 (hg e c g₁ s₁ l hl (I.step le1 a₁)))
theorem ST.bop {t:Bool} (h:SBt n op e ρ σ t σ₁):ST n (.bop op e) ρ σ t σ₁ :=
 fun c g s ex hc I=>hc (fun ex=>c.wp (isTrue ex c.env (eval ex c.env)) (fun x s'=>BK c.T [] g σ₁ (fun _=>x=t) s') s) fun vs p h1=>AU (arm_isTrue_BoolOp ..) (h c g s vs h1 I)
end
end Mine
namespace Mine
open PySem PySem.Calls PySem.SeqAt
theorem DU {n:Nat} (h:n<=line):n < 9223372036854775808:=Nat.lt_of_le_of_lt h (by decide)
noncomputable def eqLeaf (a b:PyData):Option Bool :=
 match a with
 | .none=>(match b with | .none=>some true | .str _=>some false | .tuple _=>some false | _=>none)
 | .bool x=>(match b with | .bool y=>some (x == y) | _=>none)
 | .int x=>(match b with | .int y=>some (x == y) | _=>none)
 | .str x=>(match b with | .str y=>some (x == y) | .none=>some false | _=>none)
 | .tuple _=>(match b with | .none=>some false | _=>none)
 | _=>none
noncomputable def Ea (f:PyData->PyData->Option Bool):List PyData->List PyData->Option Bool
 | [],ys=>(match ys with | []=>some true | _::_=>some false)
 | x::xs,ys=>(match ys with
  | []=>some false
  | y::ys=>(f x y).bind fun a=>(Ea f xs ys).bind fun b=>some (a&&b))
noncomputable def eqSeq (f:PyData->PyData->Option Bool) (a b:PyData):Option Bool :=
 match a with
 | .list xs=>(match b with | .list ys=>if xs.length=ys.length then Ea f xs ys else some false | _=>none)
 | .tuple xs=>(match b with | .tuple ys=>Ea f xs ys | _=>eqLeaf a b)
 | _=>eqLeaf a b
noncomputable def eqN:Nat->PyData->PyData->Option Bool
 | 0,a,b=>eqLeaf a b
 | n+1,a,b=>eqSeq (eqN n) a b
noncomputable def AC:Nat:=40
noncomputable def tagD:PyData->Nat
 | .none=>0 | .bool _=>1 | .int _=>2 | .str _=>3 | .list _=>4 | .tuple _=>5 | .dict _=>6
noncomputable def tagV (f:Addr->Option Obj):Value->Nat
 | .none=>0 | .bool _=>1 | .int _ _=>2 | .str _ _=>3
 | .ref a=>(match f a with | some o=>if o.cls == .type "list" then 4 else 5 | none=>7)
 | _=>7
theorem DH {f:Addr->Option Obj} {d:PyData} {x:Value} (h:A2 f d x):tagV f x=tagD d:=by
 cases d with
 | none=>exact congrArg (tagV f) h
 | bool b=>exact congrArg (tagV f) h
 | int i=>exact h.elim fun t h=>congrArg (tagV f) h
 | str s=>exact h.elim fun t h=>congrArg (tagV f) h.1
 | list xs=>exact h (fun x=>tagV f x=4) fun a o vs m hf hc _ _ _=>by show (match f a with | some o=>_ | none=>_)=_; rw [hf]; exact if_pos (by rw [hc]; rfl)
 | tuple xs=>exact h (fun x=>tagV f x=5) fun a o vs m hf hc _ _ _=>by show (match f a with | some o=>_ | none=>_)=_; rw [hf]; exact if_neg (by rw [hc]; decide)
 | dict es=>exact h.elim
theorem seqIs_inj {f:Addr->Option Obj} {cl:String} {x:Value} {P Q:List Value->Prop} {n m:Nat} {α:Prop} (k:∀ vs,P vs->Q vs->α) (h:BP f cl x P n) (h':BP f cl x Q m):α:=by
 refine h (fun x=>BP f cl x Q m->α) (fun a o vs n e2 _ e4 e5 _ h'=>?_) h'
 refine h' (fun y=>y=.ref a->α) (fun a' o' vs' n' e2' _ e4' e5' _ e=>?_) rfl
 obtain rfl:=Av e2 (show f a=some o' from (PySem.Value.ref.inj e)▸e2')
 rw [e4] at e4'; cases e4'
 exact k _ e5 e5'
mutual
theorem A2.inj {f:Addr->Option Obj}:∀ (d d':PyData) (x:Value),tagD d'=tagD d->A2 f d x->A2 f d' x->d=d'
 | .none,d',x,t,h,h'=>by cases d' <;> first | rfl | exact Cf t rfl
 | .bool a,d',x,t,h,h'=>by
  cases d' <;> first | exact Cf t rfl | (cases (show Value.bool a=.bool _ from Eq.trans (Eq.symm h) h'); rfl)
 | .int a,d',x,t,h,h'=>by
  cases d' <;> first | exact Cf t rfl | (obtain ⟨_,h⟩:=h; obtain ⟨_,h'⟩:=h'; cases h.symm.trans h'; rfl)
 | .str a,d',x,t,h,h'=>by
  cases d' <;> first | exact Cf t rfl | (obtain ⟨_,h,_⟩:=h; obtain ⟨_,h',_⟩:=h'; cases h.symm.trans h'; rfl)
 | .list xs,d',x,t,h,h'=>by
  cases d' <;> first | exact Cf t rfl | exact congrArg _ (seqIs_inj (RepDs.inj xs _) h h')
 | .tuple xs,d',x,t,h,h'=>by
  cases d' <;> first | exact Cf t rfl | exact congrArg _ (seqIs_inj (RepDs.inj xs _) h h')
 | .dict _,_,_,_,h,_=>h.elim
theorem RepDs.inj {f:Addr->Option Obj}:∀ (ds ds':List PyData) (xs:List Value),RepDs f ds xs->RepDs f ds' xs->ds=ds'
 | [],[],_,_,_=>rfl
 | d::ds,d'::ds',x::xs,h,h'=>by rw [A2.inj d d' x ((DH h'.1).symm.trans (DH h.1)) h.1 h'.1,RepDs.inj ds ds' xs h.2 h'.2]
 | [],_::_,[],_,h=>h.elim
 | [],_::_,_::_,h,_=>h.elim
 | _::_,[],[],h,_=>h.elim
 | _::_,[],_::_,_,h=>h.elim
 | _::_,_::_,[],h,_=>h.elim
end
theorem eqNsW_self {f:PyData->PyData->Option Bool} (hf:∀ d b,f d d=some b->b=true) (l:List PyData):∀ (b:Bool),Ea f l l=some b->b=true:=by
 induction l with
 | nil=>exact fun b h=>(Option.some.inj h).symm
 | cons x xs ih =>
  intro b h
  obtain ⟨c,e,h⟩:=Aa h
  obtain ⟨c',e',h⟩:=Aa h
  rw [<-Option.some.inj h,hf x c e,ih c' e']; rfl
theorem Gn (d:PyData) (b:Bool) (h:eqLeaf d d=some b):b=true:=by
 cases d with
 | none=>exact (Option.some.inj h).symm
 | bool x=>rw [<-Option.some.inj h]; exact beq_self_eq_true x
 | int x=>rw [<-Option.some.inj h]; exact beq_self_eq_true x
 | str x=>rw [<-Option.some.inj h]; exact beq_self_eq_true x
 | _=>exact Ac h
theorem eqN_self (n:Nat):∀ (d:PyData) (b:Bool),eqN n d d=some b->b=true:=by
 induction n with
 | zero=>exact Gn
 | succ n ih =>
  intro d b h
  have hl:=Gn d b
  cases d with
  | list xs =>
   have h:(if xs.length=xs.length then Ea (eqN n) xs xs else some false)=some b:=h
   rw [if_pos rfl] at h
   exact eqNsW_self ih xs b h
  | tuple xs=>exact eqNsW_self ih xs b h
  | _=>exact hl h
section
variable {A:Around} {s:Shared}
structure Gh (A:Around) (s:Shared) (x y:Value) (b:Bool):Prop where
 eq:EqAt A s x y b
 rc:RcAt A s x y b
 ne:RcNeAt A s x y (!b)
theorem eqNs_items {n:Nat} {A:Around} (ih:∀ (d d':PyData) (x x':Value) (b:Bool),A2 s.heap.get? d x->A2 s.heap.get? d' x'->eqN n d d'=some b->Gh A s x x' b) (ds:List PyData) :
 ∀ (ds':List PyData) (xs xs':List Value) (b:Bool),Au (A2 s.heap.get?) ds xs->Au (A2 s.heap.get?) ds' xs'->Ea (eqN n) ds ds'=some b ->
  ∃ e:Nat->Bool,(∀ j x x',xs[j]? = some x->xs'[j]? = some x'->EqAt A s x x' (e j))/\b=((List.range (min xs.length xs'.length)).all e&&xs.length == xs'.length):=by
 induction ds with
 | nil =>
  intro ds' xs xs' b r r' h
  rw [r.nil]
  refine ⟨fun _=>true,fun j x x' h=>Ac h,?_⟩
  rw [<-r'.length]
  cases ds' <;> exact (Option.some.inj h).symm
 | cons d ds ihl =>
  intro ds' xs xs' b r r' h
  obtain ⟨x,xs,rfl,r1,r2⟩:=r.cons
  cases ds' with
  | nil =>
   rw [r'.nil]
   exact ⟨fun _=>true,fun j x x' _ h=>Ac h,(Option.some.inj h).symm⟩
  | cons d' ds' =>
   obtain ⟨x',xs',rfl,r1',r2'⟩:=r'.cons
   obtain ⟨c,e,h⟩:=Aa h
   obtain ⟨c',e',h⟩:=Aa h
   obtain ⟨f,h1,h2⟩:=ihl ds' xs xs' c' r2 r2' e'
   refine ⟨fun j=>if j=0 then c else f (j-1),fun j y y' hy hy'=>?_,?_⟩
   ·cases j with
    | zero=>rw [<-Option.some.inj hy,<-Option.some.inj hy']; exact (ih d d' x x' c r1 r1' e).eq
    | succ j=>exact h1 j y y' hy hy'
   ·rw [<-Option.some.inj h,h2,List.length_cons,List.length_cons,Nat.add_min_add_right,List.range_succ_eq_map,List.all_cons,List.all_map]
    simp [Function.comp_def,Bool.and_assoc]
theorem FT {d d':PyData} {x x':Value} {b:Bool} (hu:A.units < cLine) (r:A2 s.heap.get? d x) (r':A2 s.heap.get? d' x') (h:eqLeaf d d'=some b):Gh A s x x' b:=by
 have tn:∀ ds x,A2 s.heap.get? (.tuple ds) x->Gh A s .none x false/\Gh A s x .none false:=fun ds x r=>r (fun x=>Gh A s .none x false/\Gh A s x .none false) fun a o vs k q1 q2 q3 q4 _ =>
  ⟨⟨EqAt.none_tuple ⟨_,q1,q2,_,q3⟩ hu,RcAt.none_tuple ⟨_,q1,q2,_,q3⟩ hu,RcNeAt.none_tuple ⟨_,q1,q2,_,q3⟩ hu⟩,EqAt.tuple_none ⟨_,q1,q2,_,q3⟩ hu,RcAt.tuple_none ⟨_,q1,q2,_,q3⟩ hu,RcNeAt.tuple_none ⟨_,q1,q2,_,q3⟩ hu⟩
 cases d with
 | none =>
  obtain rfl:x=.none:=r
  cases d' with
  | none=>obtain rfl:x'=.none:=r'; rw [<-Option.some.inj h]; exact ⟨EqAt.same _,RcAt.none_none,RcNeAt.none_none⟩
  | str _=>obtain ⟨t,rfl,_⟩:=r'; rw [<-Option.some.inj h]; exact ⟨EqAt.none_str _ _,RcAt.none_str _ _,RcNeAt.none_str _ _⟩
  | tuple _=>rw [<-Option.some.inj h]; exact (tn _ _ r').1
  | _=>exact Ac h
 | bool a=>cases d' with
  | bool c=>obtain rfl:x=.bool a:=r; obtain rfl:x'=.bool c:=r'; rw [<-Option.some.inj h]; exact ⟨EqAt.bool_bool _ _,RcAt.bool_bool _ _,RcNeAt.bool_bool _ _⟩
  | _=>exact Ac h
 | int a=>cases d' with
  | int c=>obtain ⟨t,rfl⟩:=r; obtain ⟨t',rfl⟩:=r'; rw [<-Option.some.inj h]; exact ⟨EqAt.int_int _ _ _ _,RcAt.int_int _ _ _ _,RcNeAt.int_int _ _ _ _⟩
  | _=>exact Ac h
 | str a=>obtain ⟨t,rfl,_⟩:=r; cases d' with
  | none=>obtain rfl:x'=.none:=r'; rw [<-Option.some.inj h]; exact ⟨EqAt.str_none _ _,RcAt.str_none _ _,RcNeAt.str_none _ _⟩
  | str c=>obtain ⟨t',rfl,_⟩:=r'; rw [<-Option.some.inj h]; exact ⟨EqAt.str_str _ _ _ _,RcAt.str_str _ _ _ _,RcNeAt.str_str _ _ _ _⟩
  | _=>exact Ac h
 | tuple _=>cases d' with
  | none=>obtain rfl:x'=.none:=r'; rw [<-Option.some.inj h]; exact (tn _ _ r).2
  | _=>exact Ac h
 | _=>exact Ac h
theorem eq_refs {n:Nat} {d d':PyData} {a a':Addr} {b:Bool} (rr:A2 s.heap.get? d (.ref a)) (rr':A2 s.heap.get? d' (.ref a')) (h:eqN n d d'=some b) (rc:RcAt A s (.ref a) (.ref a') b/\RcNeAt A s (.ref a) (.ref a') (!b)):Gh A s (.ref a) (.ref a') b:=by
 refine ⟨?_,rc.1,rc.2⟩
 by_cases ha:a=a'
 ·subst ha
  rw [<-A2.inj _ _ _ ((DH rr').symm.trans (DH rr)) rr rr'] at h
  rw [eqN_self n d b h]
  exact EqAt.same _
 ·exact EqAt.of_refs ha rc.1
theorem eqN_ok (n:Nat):∀ (A:Around),A.units+n < cLine->∀ (d d':PyData) (x x':Value) (b:Bool),A2 s.heap.get? d x->A2 s.heap.get? d' x'->eqN n d d'=some b->Gh A s x x' b:=by
 induction n with
 | zero=>exact fun A hu d d' x x' b r r' h=>FT hu r r' h
 | succ n ih =>
  intro A hu d d' x x' b r r' h
  have hu':A.units < cLine:=Nat.lt_of_le_of_lt (Nat.le_add_right _ _) hu
  have hu1:A.in1.units+n < cLine:=by show A.units+1+n < cLine; rw [Nat.add_assoc,Nat.add_comm 1]; exact hu
  have it:=eqNs_items (s:=s) (ih A.in1 hu1)
  have hL:eqSeq (eqN n) d d'=some b:=h
  cases d with
  | list ds=>cases d' with
   | list ds' =>
    refine r (fun x=>A2 s.heap.get? (.list ds) x->Gh A s x x' b) (fun a o vs k q1 q2 q3 q4 _ rr=>r' (fun x'=>A2 s.heap.get? (.list ds') x'->Gh A s (.ref a) x' b) (fun a' o' vs' k' p1 p2 p3 p4 _ rr'=>eq_refs rr rr' h ?_) r') r
    have hl:s.heap.IsList a vs:=⟨_,q1,q2,_,q3⟩
    have hl':s.heap.IsList a' vs':=⟨_,p1,p2,_,p3⟩
    have l1:ds.length=vs.size:=q4.all.length
    have l2:ds'.length=vs'.size:=p4.all.length
    have hL:(if ds.length=ds'.length then Ea (eqN n) ds ds' else some false)=some b:=hL
    by_cases hsz:ds.length=ds'.length
    ·rw [if_pos hsz] at hL
     obtain ⟨e,h1,h2⟩:=it ds ds' vs.toList vs'.toList b q4.all p4.all hL
     have hsz':vs.size=vs'.size:=l1.symm.trans (hsz.trans l2)
     have hb:b=(List.range vs.size).all e:=by rw [h2]; simp [hsz']
     rw [hb]
     exact ⟨RcAt.lists hl hl' hsz' hu' fun j j1 j2=>h1 j _ _ (by simp [j1]) (by simp [j2]),RcNeAt.lists hl hl' hsz' hu' fun j j1 j2=>h1 j _ _ (by simp [j1]) (by simp [j2])⟩
    ·rw [if_neg hsz] at hL
     rw [<-Option.some.inj hL]
     have hsz':(vs.size != vs'.size)=true:=bne_iff_ne.mpr fun q=>hsz (l1.trans (q.trans l2.symm))
     exact ⟨RcAt.lists_lengths hl hl' hsz' hu',RcNeAt.lists_lengths hl hl' hsz' hu'⟩
   | _=>exact Ac hL
  | tuple ds=>cases d' with
   | tuple ds' =>
    refine r (fun x=>A2 s.heap.get? (.tuple ds) x->Gh A s x x' b) (fun a o vs k q1 q2 q3 q4 _ rr=>r' (fun x'=>A2 s.heap.get? (.tuple ds') x'->Gh A s (.ref a) x' b) (fun a' o' vs' k' p1 p2 p3 p4 _ rr'=>eq_refs rr rr' h ?_) r') r
    have hl:s.heap.IsTuple a vs:=⟨_,q1,q2,_,q3⟩
    have hl':s.heap.IsTuple a' vs':=⟨_,p1,p2,_,p3⟩
    obtain ⟨e,h1,h2⟩:=it ds ds' vs.toList vs'.toList b q4.all p4.all hL
    have hb:b=((List.range (min vs.size vs'.size)).all e&&vs.size == vs'.size):=h2
    rw [hb]
    exact ⟨RcAt.tuples hl hl' hu' fun j j1 j2=>h1 j _ _ (by simp [j1]) (by simp [j2]),RcNeAt.tuples hl hl' hu' fun j j1 j2=>h1 j _ _ (by simp [j1]) (by simp [j2])⟩
   | _=>exact FT hu' r r' hL
  | _=>exact FT hu' r r' hL
end
end Mine
namespace Mine
open PySem PySem.Calls PySem.SeqAt
noncomputable def wv:PyData ⊕ Nat->V:=Sum.elim .d .ref
noncomputable def Cr (o:Option O):Option (List V):=match o with | some o=>(match o with | .list vs=>some vs | _=>none) | none=>none
noncomputable def Ax (σ:Ab) (v:V):Option (List V) :=
 match v with
 | .d x=>(match x with | .list xs=>some (xs.map .d) | _=>none)
 | .ref k=>Cr σ[k]?
 | _=>none
noncomputable def BL (v:V):Option (List V) :=
 match v with
 | .d x=>(match x with | .tuple xs=>some (xs.map .d) | _=>none)
 | .tup ws=>some (ws.map wv)
 | .pr x y=>some [x,y]
 | _=>none
noncomputable def isDV (v:V):Option PyData:=match v with | .d x=>some x | _=>none
noncomputable def Di:List V->Option (List PyData)
 | []=>some []
 | v::r=>(isDV v).bind fun x=>(Di r).bind fun xs=>some (x::xs)
noncomputable def lstD (o:Option (List V)):Option PyData:=o.bind fun vs=>(Di vs).bind fun xs=>some (.list xs)
noncomputable def snapW (σ:Ab):List (PyData ⊕ Nat)->Option (List PyData)
 | []=>some []
 | w::r=>(match w with | .inl x=>some x | .inr k=>lstD (Cr σ[k]?)).bind fun x=>(snapW σ r).bind fun xs=>some (x::xs)
noncomputable def snap (σ:Ab) (v:V):Option PyData :=
 match v with
 | .d x=>some x
 | .ref k=>lstD (Cr σ[k]?)
 | .tup ws=>(snapW σ ws).bind fun xs=>some (.tuple xs)
 | _=>none
theorem F0 {vs:List V}:∀ {xs:List PyData},Di vs=some xs->vs=xs.map .d:=by
 induction vs with
 | nil=>exact fun h=>by rw [<-Option.some.inj h]; rfl
 | cons v vs ih =>
  intro xs h
  obtain ⟨x,e,h'⟩:=Aa h
  obtain ⟨ys,e',h''⟩:=Aa h'
  cases v with
  | d y=>rw [<-Option.some.inj h'',ih e',Option.some.inj e]; rfl
  | _=>exact Ac e
theorem Cg {o:Option O} {vs:List V} (h:Cr o=some vs):o=some (.list vs):=by
 cases o with
 | none=>exact Ac h
 | some o=>cases o with
  | list ws=>rw [Option.some.inj h]
  | _=>exact Ac h
section
variable {T:Top} {r:Ar} {g:G} {σ:Ab} {s:Shared} {v:V} {X:Value} {ws:List V}
theorem AI (H:Has T g σ s) (rx:An T g v X) (e:Ax σ v=some ws) {R_:Value->Prop} (k:∀ a xs,s.heap.IsList a xs->Am T g ws xs.toList->ws.length=xs.size->xs.size<=line->R_ (.ref a)):R_ X:=by
 cases v with
 | d y=>cases y with
  | list ds =>
   obtain rfl:ds.map .d=ws:=Option.some.inj e
   exact rx R_ fun a o vs n h1 h2 h3 h4 h5=>k a vs ⟨o,H.fz _ _ h1,h2,n,h3⟩ (.ofD h4) (Am.ofD (T:=T) h4).length (by rw [<-Array.length_toList,<-h4.all.length]; exact h5)
  | _=>exact Ac e
 | ref j =>
  obtain ⟨a,e1,rfl⟩:=rx
  exact H.ob j a _ e1 (Cg e) _ fun o ho ro=>ro (fun o=>s.heap.get? a=some o->R_ (.ref a)) (fun xs m hr hl ho=>k a xs ⟨_,ho,rfl,m,rfl⟩ hr hr.length (by rw [<-Array.length_toList,<-hr.length]; exact hl)) ho
 | _=>exact Ac e
theorem Gf.wv {xs:List Value} {ws:List (PyData ⊕ Nat)} (h:Au (Gf g) ws xs):Am T g (ws.map wv) xs:=by
 induction ws generalizing xs with
 | nil=>rw [h.nil]; exact trivial
 | cons w ws ih =>
  obtain ⟨x,xs,rfl,h1,h2⟩:=h.cons
  exact ⟨by cases w <;> exact h1,ih h2⟩
theorem Ce (H:Has T g σ s) (rx:An T g v X) (e:BL v=some ws) {R_:Value->Prop} (k:∀ a xs,s.heap.IsTuple a xs->Am T g ws xs.toList->ws.length=xs.size->xs.size<=line->R_ (.ref a)):R_ X:=by
 cases v with
 | d y=>cases y with
  | tuple ds =>
   obtain rfl:ds.map .d=ws:=Option.some.inj e
   exact rx R_ fun a o vs n h1 h2 h3 h4 h5=>k a vs ⟨o,H.fz _ _ h1,h2,n,h3⟩ (.ofD h4) (Am.ofD (T:=T) h4).length (by rw [<-Array.length_toList,<-h4.all.length]; exact h5)
  | _=>exact Ac e
 | tup us =>
  obtain rfl:us.map wv=ws:=Option.some.inj e
  exact rx R_ fun a o vs n h1 h2 h3 h4 h5=>k a vs ⟨o,H.fz _ _ h1,h2,n,h3⟩ (Gf.wv h4) (Gf.wv (T:=T) h4).length (by rw [<-Array.length_toList,<-h4.length]; exact h5)
 | pr x y =>
  obtain rfl:[x,y]=ws:=Option.some.inj e
  exact rx R_ fun a o vs n h1 h2 h3 h4 h5=>by
   obtain ⟨a',b',e4,r1,r2⟩:=h4
   exact k a vs ⟨o,H.fz _ _ h1,h2,n,h3⟩ (e4▸⟨r1,r2,trivial⟩) (by rw [<-Array.length_toList,e4]; rfl) (by rw [<-Array.length_toList,e4]; exact h5)
 | _=>exact Ac e
theorem lstD_rep (H:Has T g σ s) {k:Nat} {d:PyData} (rx:An T g (.ref k) X) (e:lstD (Cr σ[k]?)=some d):A2 s.heap.get? d X:=by
 obtain ⟨ws,e1,e⟩:=Aa e
 obtain ⟨xs,e2,e⟩:=Aa e
 rw [<-Option.some.inj e]
 rw [F0 e2] at e1
 refine AI (v:=.ref k) H rx e1 fun a vs hL hr hl hs=>?_
 obtain ⟨o,ho,hc,n,hd⟩:=hL
 exact fun R_ kk=>kk a o vs n ho hc hd (RepDs.mono H.fz _ _ (Am.toD hr)) (by rw [<-List.length_map (f:=V.d),hl]; exact hs)
theorem DL (H:Has T g σ s) {d:PyData} (rx:An T g v X) (e:snap σ v=some d):A2 s.heap.get? d X:=by
 cases v with
 | d y=>rw [<-Option.some.inj e]; exact A2.mono H.fz _ _ rx
 | ref k=>exact lstD_rep H rx e
 | tup ws =>
  obtain ⟨xs,e,e'⟩:=Aa e
  rw [<-Option.some.inj e']
  have key:∀ {ws:List (PyData ⊕ Nat)} {xs:List PyData} {vs:List Value},Au (Gf g) ws vs->snapW σ ws=some xs->Au (A2 s.heap.get?) xs vs:=by
   intro ws
   induction ws with
   | nil=>intro xs vs h e; rw [h.nil,<-Option.some.inj e]; exact trivial
   | cons w ws ih =>
    intro xs vs h e
    obtain ⟨v,vs,rfl,h1,h2⟩:=h.cons
    obtain ⟨x,e1,e⟩:=Aa e
    obtain ⟨ys,e2,e⟩:=Aa e
    rw [<-Option.some.inj e]
    refine ⟨?_,ih h2 e2⟩
    cases w with
    | inl y=>rw [<-Option.some.inj e1]; exact A2.mono H.fz _ _ h1
    | inr k=>exact lstD_rep (T:=T) (k:=k) H h1 e1
  exact rx _ fun a o vs n h1 h2 h3 h4 h5 R_ kk=>kk a o vs n (H.fz _ _ h1) h2 h3 (.of (key h4 e)) (by rw [(key h4 e).length,<-h4.length]; exact h5)
 | _=>exact Ac e
end
section
variable {σ:Ab} {x y v:V} {i j:Int} {d d':PyData} {b:Bool}
theorem tr_none:Tr σ (.d .none) false:=fun r g s X A h=>by
 obtain rfl:X=.none:=h
 exact PyProof.Rows.truthy_none (.refl A.has rfl)
theorem tr_int:Tr σ (vi i) (i != 0):=fun r g s X A h=>by
 obtain ⟨t,rfl⟩:=h
 exact P.truthy_int (.refl A.has rfl)
theorem tr_str {t:Str}:Tr σ (.d (.str t)) (t.cps.size != 0):=fun r g s X A h=>by
 obtain ⟨k,rfl,hl⟩:=h
 refine P.truthy_str (Int.not_le.mpr (Int.ofNat_lt.mpr (DU hl))) (.refl A.has.tok ?_)
 show ((t.cps.size:Int) != 0)=(t.cps.size != 0)
 cases t.cps.size <;> rfl
theorem arr_empty {α:Type} {ws:List V} {xs:Array α} (h:ws.length=xs.size):(!xs.isEmpty) = !ws.isEmpty:=by
 cases ws with
 | nil=>rw [Array.size_eq_zero_iff.mp h.symm]; rfl
 | cons w ws =>
  have:xs≠#[]:=fun q=>by rw [q] at h; exact Cf h rfl
  rw [show xs.isEmpty=false by simpa using this]; rfl
theorem tr_list {ws:List V} (e:Ax σ v=some ws):Tr σ v (!ws.isEmpty):=fun r g s X A h =>
 AI A.has h e (R_:=fun X=>r.wp (truthy X) (fun x s'=>BK r.T [] g σ (fun _=>x = !ws.isEmpty) s') s) fun a xs hL hr hl hs=>wpAny_truthy_list hL (Int.ofNat_lt.mpr (DU hs)) (.refl A.has.tok (arr_empty hl))
theorem tr_tup {ws:List V} (e:BL v=some ws):Tr σ v (!ws.isEmpty):=fun r g s X A h =>
 Ce A.has h e (R_:=fun X=>r.wp (truthy X) (fun x s'=>BK r.T [] g σ (fun _=>x = !ws.isEmpty) s') s) fun a xs hL hr hl hs=>PyProof.Rows.truthy_tuple hL (Int.ofNat_lt.mpr (DU hs)) (.refl A.has.tok (arr_empty hl))
noncomputable def small (i:Int):Bool:=decide (-9223372036854775808 < i)&&decide (i < 9223372036854775808)
theorem DF {m:Value->Value->Sem Value} {f:Int->Int->Int} (h:∀ (r:Ar) (g:G) (s:Shared) (t u:Tok),At 0 r g σ s->∀ Q:Value->Shared->Prop,(∀ t k,Q (.int (f i j) t) { s with toks:=k })->wpAny (model r.T.prog r.T.w) r.A (m (.int i t) (.int j u)) Q (fun _ _=>False) s):Pr2 m (vi i) (vi j) σ (vi (f i j)) σ:=fun r g s X Y A hx hy=>by
 obtain ⟨t,rfl⟩:=hx
 obtain ⟨u,rfl⟩:=hy
 exact h r g s t u A _ fun t k=>.refl A.has.tok ⟨t,rfl⟩
theorem p_add:Pr2 (binaryOp .Add) (vi i) (vi j) σ (vi (i+j)) σ:=DF fun r g s t u A Q h=>P.add_int (h _ _)
theorem p_sub:Pr2 (binaryOp .Sub) (vi i) (vi j) σ (vi (i-j)) σ:=DF fun r g s t u A Q h=>P.sub_int (h _ _)
theorem p_div (hj:j≠0):Pr2 (binaryOp .FloorDiv) (vi i) (vi j) σ (vi (i.fdiv j)) σ:=DF fun r g s t u A Q h=>PyProof.Rows.floordiv_int hj (h _ _) (Or.inr A.pylong)
theorem p_mod (hj:j≠0):Pr2 (binaryOp .Mod) (vi i) (vi j) σ (vi (i.fmod j)) σ:=DF fun r g s t u A Q h=>PyProof.Rows.mod_int' hj (h _ _)
theorem GS {i:Int} (h:small i=true):Builtin.Int.intBits i<=64:=by
 have h:=Bool.and_eq_true_iff.mp h
 exact intBits_le_64 (by have:=of_decide_eq_true h.1; lia) (by have:=of_decide_eq_true h.2; lia)
theorem p_mul (hs:(small i||small j)=true):Pr2 (binaryOp .Mult) (vi i) (vi j) σ (vi (i * j)) σ:=DF fun r g s t u A Q h=>P.mul_int (h _ _) ((Bool.or_eq_true_iff.mp hs).elim (fun h=>IntMulOk.of_left (GS h)) fun h=>IntMulOk.of_right (GS h))
theorem p_cat {a b:Str} (hl:a.length+b.length<=line):Pr2 (binaryOp .Add) (.d (.str a)) (.d (.str b)) σ (.d (.str (a++b))) σ:=fun r g s X Y A hx hy=>by
 obtain ⟨t,rfl,_⟩:=hx
 obtain ⟨u,rfl,_⟩:=hy
 exact SB.add (fun t' k=>.refl A.has.tok ⟨_,rfl,by rw [Str.length_append]; exact hl⟩) (AQ▸hl)
theorem EU {m:Value->Value->Sem Value} (h:∀ (r:Ar) (g:G) (s:Shared) (X Y:Value),At 0 r g σ s->An r.T g x X->An r.T g y Y->∀ Q:Value->Shared->Prop,Q (.bool b) s->wpAny (model r.T.prog r.T.w) r.A (m X Y) Q (fun _ _=>False) s):Pr2 m x y σ (vb b) σ :=
 fun r g s X Y A hx hy=>h r g s X Y A hx hy _ (.refl A.has rfl)
theorem eq_ok {r:Ar} {g:G} {s:Shared} {X Y:Value} (A:At 0 r g σ s) (hx:An r.T g x X) (hy:An r.T g y Y) (h1:snap σ x=some d) (h2:snap σ y=some d') (h:eqN AC d d'=some b):Gh r.A s X Y b :=
 eqN_ok AC r.A (Nat.lt_of_succ_lt A.room) d d' X Y b (DL A.has hx h1) (DL A.has hy h2) h
theorem p_eq (h1:snap σ x=some d) (h2:snap σ y=some d') (h:eqN AC d d'=some b):Pr2 (compareOp .Eq) x y σ (vb b) σ:=EU fun r g s X Y A hx hy Q q=>(eq_ok A hx hy h1 h2 h).rc _ _ _ Q q
theorem p_ne (h1:snap σ x=some d) (h2:snap σ y=some d') (h:eqN AC d d'=some b):Pr2 (compareOp .NotEq) x y σ (vb !b) σ:=EU fun r g s X Y A hx hy Q q=>(eq_ok A hx hy h1 h2 h).ne _ _ _ Q q
noncomputable def DZ (h:Heap) (d:PyData) (v:Value):Bool:=@decide (∃ d',A2 h.get? d' v/\eqN AC d' d=some true) (Classical.propDecidable _)
theorem eqTo_of {h:Heap} {d d':PyData} {v:Value} {b:Bool} (r:A2 h.get? d' v) (e:eqN AC d' d=some b):DZ h d v=b:=by
 unfold DZ
 cases b with
 | true=>exact @decide_eq_true _ (Classical.propDecidable _) ⟨d',r,e⟩
 | false =>
  refine @decide_eq_false _ (Classical.propDecidable _) ?_
  intro q
  obtain ⟨d'',r',e'⟩:=q
  rw [A2.inj _ _ _ ((DH r).symm.trans (DH r')) r' r,e] at e'
  exact ff_ (Option.some.inj e')
noncomputable def inD (x:PyData):List PyData->Option Bool
 | []=>some false
 | y::r=>(eqN AC y x).bind fun a=>(inD x r).bind fun b=>some (a||b)
theorem inD_ok {A:Around} {s:Shared} {Y:Value} (hu:A.units+AC < cLine) (r:A2 s.heap.get? d Y):∀ {ds:List PyData} {xs:List Value} {b:Bool},Au (A2 s.heap.get?) ds xs->inD d ds=some b ->
 (∀ x,x∈xs->EqAt A s x Y (DZ s.heap d x))/\b=xs.any (DZ s.heap d):=by
 intro ds
 induction ds with
 | nil=>intro xs b h e; rw [h.nil]; exact ⟨fun x h=>(nomatch h),(Option.some.inj e).symm⟩
 | cons z ds ih =>
  intro xs b h e
  obtain ⟨x,xs,rfl,h1,h2⟩:=h.cons
  obtain ⟨c,e1,e⟩:=Aa e
  obtain ⟨c',e2,e⟩:=Aa e
  obtain ⟨h3,h4⟩:=ih h2 e2
  have h5:=eqTo_of h1 e1
  refine ⟨fun w hw=>(List.mem_cons.mp hw).elim (fun q=>?_) (h3 w),by rw [List.any_cons,h5,<-h4,Option.some.inj e]⟩
  rw [q,h5]; exact (eqN_ok (s:=s) AC A hu z d x Y c h1 r e1).eq
theorem in_seq {ds:List PyData} (h1:snap σ x=some d) (h2:snap σ y=some (.list ds)\/snap σ y=some (.tuple ds)) (h:inD d ds=some b):Pr2 (compareOp .In) x y σ (vb b) σ/\Pr2 (compareOp .NotIn) x y σ (vb !b) σ:=by
 have key:∀ {op:CmpOp} {c:Bool},(∀ (r:Ar) (s:Shared) (X:Value) (a:Addr) (vs:Array Value),(s.heap.IsList a vs\/s.heap.IsTuple a vs)->(∀ z,z∈vs->EqAt r.A.in1 s z X (DZ s.heap d z))->b=vs.any (DZ s.heap d)->∀ Q:Value->Shared->Prop,Q (.bool c) s->wpAny (model r.T.prog r.T.w) r.A (compareOp op X (.ref a)) Q (fun _ _=>False) s)->Pr2 (compareOp op) x y σ (vb c) σ:=fun k =>
  EU fun r g s X Y A hx hy Q q=>by
   have hX:=DL A.has hx h1
   have hu:r.A.in1.units+AC < cLine:=A.room
   rcases h2 with h2 | h2
   ·exact DL A.has hy h2 (fun Y=>wpAny _ r.A (compareOp _ X Y) Q _ s) fun a o vs n p1 p2 p3 p4 _=>by
     obtain ⟨q1,q2⟩:=inD_ok hu hX p4.all h
     exact k r s X a vs (.inl ⟨o,p1,p2,n,p3⟩) (fun z hz=>q1 z (Array.mem_toList_iff.mpr hz)) (q2.trans (by simp)) Q q
   ·exact DL A.has hy h2 (fun Y=>wpAny _ r.A (compareOp _ X Y) Q _ s) fun a o vs n p1 p2 p3 p4 _=>by
     obtain ⟨q1,q2⟩:=inD_ok hu hX p4.all h
     exact k r s X a vs (.inr ⟨o,p1,p2,n,p3⟩) (fun z hz=>q1 z (Array.mem_toList_iff.mpr hz)) (q2.trans (by simp)) Q q
 exact ⟨key fun r s X a vs hL hz e Q q=>hL.elim (fun hL=>in_listAt (DZ s.heap d) hL hz (e▸q)) fun hL=>in_tupleAt (DZ s.heap d) hL hz (e▸q),
  key fun r s X a vs hL hz e Q q=>hL.elim (fun hL=>notIn_listAt (DZ s.heap d) hL hz (e▸q)) fun hL=>notIn_tupleAt (DZ s.heap d) hL hz (e▸q)⟩
end
end Mine
namespace Mine
open PySem PySem.Calls PySem.SeqAt
noncomputable def By (r:Ar) (g:G) (σ':Ab) (ws:List V) (x:Value) (s':Shared):Prop :=
 ∀ R_:Value->Prop,(∀ (g':G) (a:Addr) (xs:Array Value) (m:Nat),G.le [] g g'->Has r.T g' σ' s'->DD r.T g' a->s'.heap.get? a=some { cls:=.type "list",dict:=none,data:=.seq xs m,slots:=#[] } -> Am r.T g' ws xs.toList->ws.length<=line->R_ (.ref a))->R_ x
noncomputable def SL (n:Nat) (e:E) (ρ:Af) (σ:Ab) (ws:List V) (σ':Ab):Prop :=
 ∀ (c:Cx) (g:G) (s:Shared) (ex:Expr),IsE e c.K ex->Inv n c ρ g σ s->c.wp (eval ex c.env) (By c.toAr g σ' ws) s
noncomputable def PrN1 (m:Value->Sem Value) (x:V) (σ:Ab) (ws:List V):Prop :=
 ∀ (r:Ar) (g:G) (s:Shared) (X:Value),At 0 r g σ s->An r.T g x X->r.wp (m X) (By r g σ ws) s
noncomputable def PrN2 (m:Value->Value->Sem Value) (x y:V) (σ:Ab) (ws:List V):Prop :=
 ∀ (r:Ar) (g:G) (s:Shared) (X Y:Value),At 0 r g σ s->An r.T g x X->An r.T g y Y->r.wp (m X Y) (By r g σ ws) s
section
variable {n:Nat} {r:Ar} {c:Cx} {ρ:Af} {g g' g₁:G} {σ σ' σ₁ σ2 σ3:Ab} {s s':Shared} {e a b:E} {x y v:V} {ws us:List V} {X:Value} {ds:List PyData}
theorem By.frz (h:By r g σ' (ds.map .d) X s'):Ans r g (.d (.list ds)) σ' X s' :=
 h (fun X=>Ans r g (.d (.list ds)) σ' X s') fun g' a xs m le H F ho hr hl=>.mk (g'.put a _) (le.trans (.put F.fz)) (F.put H ho) fun R_ k=>k a _ xs m G.put_self rfl rfl (RepDs.mono (G.le.put (own:=[]) F.fz).fz _ _ (Am.toD hr)) (by rw [<-List.length_map (f:=V.d)]; exact hl)
theorem By.trk (h:By r g σ' ws X s'):Ans r g (.ref σ'.length) (σ'++[.list ws]) X s' :=
 h (fun X=>Ans r g (.ref σ'.length) (σ'++[.list ws]) X s') fun g' a xs m le H F ho hr hl=>.mk (g'.add a) (le.trans .add) (F.add (ob:=.list ws) H ho fun R_ k=>k xs m (Am.mono (G.le.add (own:=[])).toup hr) hl) ⟨a,H.addAt,rfl⟩
theorem By.after (le:G.le [] g g₁) (h:By r g₁ σ' ws X s'):By r g σ' ws X s':=fun R_ k=>h R_ fun g' a xs m l=>k g' a xs m (le.trans l)
theorem SE.frz (h:SL n e ρ σ (ds.map .d) σ'):SE n e ρ σ (.d (.list ds)) σ':=fun c g s ex hc I=>wpAny_mono (h c g s ex hc I) (fun _ _ p=>p.frz) fun _ _ h=>h
theorem SE.trk (h:SL n e ρ σ ws σ'):SE n e ρ σ (.ref σ'.length) (σ'++[.list ws]):=fun c g s ex hc I=>wpAny_mono (h c g s ex hc I) (fun _ _ p=>p.trk) fun _ _ h=>h
theorem By.made {l:Addr} {xs:Array Value} {m:Nat} (H:Has r.T g σ s) (k:∀ b o,s.heap.get? b=some o->s'.heap.get? b=some o) (hn:s.heap.get? l=none) (ho:s'.heap.get? l=some { cls:=.type "list",dict:=none,data:=.seq xs m,slots:=#[] }) (hr:Am r.T g ws xs.toList) (hl:ws.length<=line)
 (hg:s'.gens=s.gens:=by rfl) (hos:s'.os=s.os:=by rfl):By r g σ ws (.ref l) s' :=
 fun R_ kk=>kk g l xs m (.refl _ _) (H.keep k hg hos) (H.free hn) ho hr hl
theorem By.push {xs:Array Value} {m:Nat} (H:Has r.T g σ s) (hr:Am r.T g ws xs.toList) (hl:ws.length<=line):By r g σ ws (.ref s.heap.objs.size) { s with heap:=s.heap.push { cls:=.type "list",dict:=none,data:=.seq xs m,slots:=#[] } } :=
 .made H (fun b o e=>Heap.get?_push_of_some _ e) (Bl _) (Heap.get?_push_size _ rfl) hr hl
theorem SL.lst (h:SEs n a ρ σ ws σ₁) (hl:ws.length<=line):SL n (.lst a) ρ σ ws σ₁:=fun c g s ex hc I=>hc (fun ex=>c.wp (eval ex c.env) (By c.toAr g σ₁ ws) s) fun vs p hc=>AU (arm_eval_List ..) (wpAny_bind (wpAny_standAt
 (B0 (h c g s vs p hc I) fun xs g₁ s₁ le a₁ r1=>wpAny_newList ((By.push (r:=c.toAr) a₁ (by rw [List.toList_toArray]; exact r1) hl).after le) (by rw [<-r1.length,<-AQ]; exact hl))))
theorem SL.bin {op:Operator} (ha:SE n a ρ σ x σ₁) (hb:SE n b ρ σ₁ y σ2) (h:PrN2 (binaryOp op) x y σ2 ws):SL n (.bin op a b) ρ σ ws σ2:=by
 refine fun c g s ex hc I=>hc (fun ex=>c.wp (eval ex c.env) (By c.toAr g σ2 ws) s) fun l r p h1 h2=>?_
 exact AU (arm_eval_BinOp ..) (DE ha hb h1 h2 I fun X Y g2 s2 le I2 r1 r2=>wpAny_bind (wpAny_standAt (wpAny_operating (wpAny_mono (h c.toAr g2 s2 X Y I2.at0 r1 r2) (fun _ _ p=>p.after le) fun _ _ h=>h))))
theorem list_obj {h:Heap} {a:Addr} {xs:Array Value} (x:h.IsList a xs):∃ n dd sl,h.get? a=some { cls:=.type "list",dict:=dd,data:=.seq xs n,slots:=sl }:=by
 obtain ⟨⟨c,dd,data,sl⟩,ho,hc,n,hd⟩:=x
 simp only at hc hd
 subst hc hd
 exact ⟨n,dd,sl,ho⟩
theorem p_catL (h1:Ax σ x=some ws) (h2:Ax σ y=some us) (hl:ws.length+us.length<=line):PrN2 (binaryOp .Add) x y σ (ws++us):=fun r g s X Y A hx hy =>
 AI A.has hx h1 (R_:=fun X=>r.wp (binaryOp .Add X Y) (By r g σ (ws++us)) s) fun la ia ha1 ha2 ha3 _=>AI A.has hy h2 (R_:=fun Y=>r.wp (binaryOp .Add (.ref la) Y) (By r g σ (ws++us)) s) fun lb ib hb1 hb2 hb3 _=>by
  obtain ⟨n1,d1,s1,o1⟩:=list_obj ha1
  obtain ⟨n2,d2,s2,o2⟩:=list_obj hb1
  refine concat_meets ⟨_,o1,rfl⟩ ⟨_,o2,rfl⟩ noFill_list_add seq_list_add PySem.F.slot_list_add PySem.F.entry_list_add (PySem.F.args_list_add_2 _ _) (PyProof.Rows.list_addW la lb ia ib n1 n2 d1 d2 s1 s2 (by rw [<-ha3,<-hb3,<-AQ]; exact hl)) ⟨o1,o2,?_⟩
  exact .push A.has (by rw [Array.toList_append]; exact ha2.append hb2) (by rw [List.length_append]; exact hl)
theorem tup_put {o:Obj} {xs:Array Value} {m:Nat} {l:Addr} (H:Has r.T g σ s) (F:DD r.T g l) (ho:s.heap.get? l=some o) (hc:o.cls=.type "tuple") (hd:o.data=.seq xs m) (hr:Au (A2 g.fz) ds xs.toList) (hl:ds.length<=line):Ans r g (.d (.tuple ds)) σ (.ref l) s :=
 .mk (g.put l o) (.put F.fz) (F.put H ho) fun R_ k=>k l o xs m G.put_self hc hd (.of (hr.mono fun _ _=>A2.mono (G.le.put (own:=[]) F.fz).fz _ _)) hl
theorem toDs {xs:List Value} (h:Am r.T g (ds.map .d) xs):Au (A2 g.fz) ds xs:=(Am.toD h).all
theorem SE.tup (h:SEs n a ρ σ (ds.map .d) σ₁) (hl:ds.length<=line):SE n (.tup a) ρ σ (.d (.tuple ds)) σ₁:=fun c g s ex hc I=>hc (fun ex=>c.wp (eval ex c.env) (Ans c.toAr g (.d (.tuple ds)) σ₁) s) fun vs k p hc=>AU (arm_eval_Tuple ..) (wpAny_bind (wpAny_standAt
 (B0 (h c g s vs p hc I) fun xs g₁ s₁ le a₁ r1=>wpAny_newTuple (BK.after le (tup_put (r:=c.toAr) (a₁.keep fun b o e=>Heap.get?_push_of_some _ e) (a₁.free (Bl _)) (Heap.get?_push_size _ rfl) rfl rfl (by rw [List.toList_toArray]; exact toDs (r:=c.toAr) r1) hl)) (by rw [<-r1.length,<-AQ,List.length_map]; exact hl))))
end
end Mine
namespace Mine
open PySem PySem.Calls PySem.SeqAt
noncomputable def PrG (x y:V) (σ:Ab) (v:V):Prop :=
 ∀ (r:Ar) (g:G) (s:Shared) (X Y:Value),At 0 r g σ s->An r.T g x X->An r.T g y Y->∀ R_:Prop,(∀ Ty id,s.TypeIs X Ty->typeLookup (.type Ty) "__getitem__" = pure (some (.builtin id))->r.wp (getItem X Y) (Ans r g v σ) s->R_)->R_
noncomputable def chr1 (c:Nat):Str:=⟨#[c]⟩
noncomputable def Ct {α:Type} (lo hi:Option Int) (xs:List α):List α :=
 (xs.drop (lo.elim 0 (clipAt xs.length))).take (hi.elim xs.length (clipAt xs.length)-lo.elim 0 (clipAt xs.length))
noncomputable def cutS (lo hi:Option Int) (x:Str):Str:=⟨(Ct lo hi x.cps.toList).toArray⟩
section
variable {n:Nat} {r:Ar} {c:Cx} {ρ:Af} {g g' g₁:G} {σ σ' σ₁ σ2 σ3:Ab} {s s':Shared} {e a b:E} {x y v:V} {ws us:List V} {X:Value} {ds:List PyData}
theorem slice_is (slice:Expr) (x i:Value):∃ ws,subscripted slice false x i=operate ws (getItem x i):=by
 cases slice with
 | Slice _ _ c _=>cases c <;> exact ⟨_,rfl⟩
 | _=>exact ⟨_,rfl⟩
theorem sub_tail {value slice:Expr} {x i:Value} {Ty id:String} {Q:Value->Shared->Prop} (hT:s.TypeIs x Ty) (hl:typeLookup (.type Ty) "__getitem__" = pure (some (.builtin id)))
 (h:r.wp (getItem x i) Q s):r.wp (getitemInPython x>>=fun p=>subscripted slice p x i>>=fun v=>letTemporaryGo value x v>>=fun _=>pure v) Q s:=by
 rw [getitemInPython_of_ne hT.not_modules]
 refine wpAny_bind (wpAny_bind (wpAny_specialOf hT hl (wpAny_pure (wpAny_bind ?_))))
 obtain ⟨ws,hs⟩:=slice_is slice x i
 exact AU hs (wpAny_operating (wpAny_mono h (fun v s3 h3=>wpAny_bind (wpAny_letTemporaryGo (wpAny_pure h3))) fun _ _ y=>y))
theorem SE.sub (ha:SE n a ρ σ x σ₁) (hb:SE n b ρ σ₁ y σ2) (h:PrG x y σ2 v):SE n (.sub a b) ρ σ v σ2:=by
 refine fun c g s ex hc I=>hc (fun ex=>c.wp (eval ex c.env) (Ans c.toAr g v σ2) s) fun l r p h1 h2=>?_
 exact AU (arm_eval_Subscript ..) (DE ha hb h1 h2 I fun X Y g2 s2 le I2 r1 r2=>wpAny_bind (wpAny_standAt (h c.toAr g2 s2 X Y I2.at0 r1 r2 _ fun Ty id hT hl w=>sub_tail (r:=c.toAr) hT hl (Bv le w))))
theorem DM {i:Int} (h:small i=true):-(2 ^ 63)<=i/\i < 2 ^ 63:=by
 have h:=Bool.and_eq_true_iff.mp h
 exact ⟨Int.le_of_lt (of_decide_eq_true h.1),of_decide_eq_true h.2⟩
theorem G1 {k:Int} {n j:Nat} (h:seqIndex? k n=some j) (h0:0<=k):k.toNat=j:=by
 unfold seqIndex? at h
 rw [if_neg (Int.not_lt.mpr h0)] at h
 exact (AS h).2
theorem EQ {k:Int} {n j:Nat} (h:seqIndex? k n=some j) (h0:k < 0):(k+n).toNat=j/\-(n:Int)<=k:=by
 unfold seqIndex? at h
 rw [if_pos h0] at h
 have h:=AS h
 have q:=of_decide_eq_true (Bool.and_eq_true_iff.mp h.1).1
 exact ⟨h.2,by lia⟩
variable {k:Int} {j:Nat}
theorem g_list (h:Ax σ x=some ws) (hk:small k=true) (hj:seqIndex? k ws.length=some j) (hv:ws[j]? = some v):PrG x (vi k) σ v:=fun r g s X Y A hx hy=>by
 obtain ⟨t,rfl⟩:=hy
 refine AI A.has hx h (R_:=fun X=>∀ R_:Prop,(∀ Ty id,s.TypeIs X Ty->typeLookup (.type Ty) "__getitem__" = pure (some (.builtin id))->r.wp (getItem X (.int k t)) (Ans r g v σ) s->R_)->R_) fun l xs hL hr hl _ R_ kk=>?_
 obtain ⟨w,hw,rw'⟩:=hr.get hv
 have hw:xs[j]? = some w:=Array.getElem?_toList.symm.trans hw
 obtain ⟨o,ho,hc,_⟩:=id hL
 refine kk "list" _ ⟨o,ho,hc⟩ slot_list_getitem.lookup ?_
 by_cases h0:0<=k
 ·exact wpAny_getItem_list hL h0 (DM hk).2 (by rw [G1 hj h0]; exact hw) (.refl A.has rw')
 ·obtain ⟨q1,q2⟩:=EQ hj (Int.not_le.mp h0)
  exact wpAny_getItem_list_neg hL (Int.not_le.mp h0) (hl▸q2) (DM hk).1 (by rw [<-hl,q1]; exact hw) (.refl A.has rw')
theorem g_tup (h:BL x=some ws) (hk:small k=true) (hj:seqIndex? k ws.length=some j) (hv:ws[j]? = some v):PrG x (vi k) σ v:=fun r g s X Y A hx hy=>by
 obtain ⟨t,rfl⟩:=hy
 refine Ce A.has hx h (R_:=fun X=>∀ R_:Prop,(∀ Ty id,s.TypeIs X Ty->typeLookup (.type Ty) "__getitem__" = pure (some (.builtin id))->r.wp (getItem X (.int k t)) (Ans r g v σ) s->R_)->R_) fun l xs hL hr hl _ R_ kk=>?_
 obtain ⟨w,hw,rw'⟩:=hr.get hv
 have hw:xs[j]? = some w:=Array.getElem?_toList.symm.trans hw
 obtain ⟨o,ho,hc,_⟩:=id hL
 exact kk "tuple" _ ⟨o,ho,hc⟩ F.slot_tuple_getitem.lookup (PyProof.Rows.getItem_tuple hL (DM hk).1 (DM hk).2 (by rw [<-hl]; exact hj) hw (.refl A.has rw'))
theorem chr1_len (c:Nat):(chr1 c).length<=line:=by show 1<=line; exact Nat.succ_pos _
theorem g_str {z:Str} {ch:Nat} (hk:small k=true) (hc:Txt.charAt z k=some ch):PrG (.d (.str z)) (vi k) σ (.d (.str (chr1 ch))):=fun r g s X Y A hx hy R_ kk=>by
 obtain ⟨t,rfl,_⟩:=hx
 obtain ⟨u,rfl⟩:=hy
 refine kk "str" _ (typeIs_str _ _ _) F.slot_str_getitem.lookup (SB.getItem ?_ (by rw [hc]; rfl) (.refl A.has.tok ⟨s.toks,?_,chr1_len ch⟩))
 ·unfold fitsSsize; simp; have:=DM hk; lia
 ·unfold Txt.item; rw [hc]; rfl
noncomputable def SO (n:Nat) (e:E) (ρ:Af) (σ:Ab) (l:Option Int) (σ':Ab):Prop :=
 ∀ (c:Cx) (g:G) (s:Shared) (x:Option Expr),(if B2 e then IsNone else IsSome (IsE e c.K)) x->Inv n c ρ g σ s->c.wp (valueOrNone (evalOpt x c.env)) (fun X s'=>BK c.T [] g σ' (fun _=>∃ p:Option (Int×Tok),X=partValue p/\p.map (·.1)=l) s') s
theorem SO.none:SO n .nil ρ σ none σ:=fun c g s x hc I=>by
 obtain rfl:x=Option.none:=hc
 exact wpAny_pure (.refl I.has ⟨Option.none,rfl,rfl⟩)
theorem SO.some {i:Int} (h0:B2 e=false) (h:SE n e ρ σ (vi i) σ'):SO n e ρ σ (some i) σ':=fun c g s x hc I=>by
 rw [h0] at hc
 refine hc (fun x=>c.wp (valueOrNone (evalOpt x c.env)) (fun X s'=>BK c.T [] g σ' (fun _=>∃ p:Option (Int×Tok),X=partValue p/\p.map (·.1)=Option.some i) s') s) fun ex hc=>?_
 exact wpAny_mono (h c g s ex hc I) (fun X s' p=>p _ fun g' le H r=>.mk g' le H (r.elim fun t r=>⟨Option.some (i,t),r,rfl⟩)) fun _ _ h=>h
noncomputable def PrC (x:V) (σ:Ab) (lo hi:Option Int) (Q:Ar->G->Value->Shared->Prop):Prop :=
 ∀ (r:Ar) (g:G) (s:Shared) (X:Value) (sl:Addr) (q1 q2:Option (Int×Tok)),At 0 r g σ s->An r.T g x X->s.heap.IsSliceOf sl (partValue q1) (partValue q2) .none->q1.map (·.1)=lo->q2.map (·.1)=hi ->
  ∀ R_:Prop,(∀ Ty id,s.TypeIs X Ty->typeLookup (.type Ty) "__getitem__" = pure (some (.builtin id))->r.wp (getItem X (.ref sl)) (Q r g) s->R_)->R_
theorem slc_then {lo hi:E} {l h:Option Int} {Q:Ar->G->Value->Shared->Prop} (up:∀ {r:Ar} {g g₁:G} {X:Value} {s':Shared},G.le [] g g₁->Q r g₁ X s'->Q r g X s') (ha:SE n a ρ σ x σ₁) (hl:SO n lo ρ σ₁ l σ2) (hh:SO n hi ρ σ2 h σ3) (hx:PrC x σ3 l h Q) {ex:Expr} (hc:IsE (.slc a lo hi) c.K ex) (I:Inv n c ρ g σ s):c.wp (eval ex c.env) (Q c.toAr g) s:=by
 refine hc (fun ex=>c.wp (eval ex c.env) (Q c.toAr g) s) fun v l u p p' h1 h2 h3=>?_
 rw [arm_eval_Subscript,arm_eval_Slice]
 refine Bw ha h1 I fun X g₁ s₁ le1 I1 r1=>wpAny_bind (wpAny_holding (B0 (r:=c.toAr) (hl c g₁ s₁ l h2 I1) fun lv g2 s2 le2 a₂ r2=>?_))
 have I2:=I1.step le2 a₂
 refine B0 (r:=c.toAr) (wpAny_holding (hh c g2 s2 u h3 I2)) fun uv g3 s3 le3 a3 r3=>wpAny_bind (wpAny_holding (wpAny_pure (wpAny_newObj_type (wpAny_bind (wpAny_standAt ?_)))))
 obtain ⟨q1,rfl,e1⟩:=r2
 obtain ⟨q2,rfl,e2⟩:=r3
 have I3:=I2.step le3 a3
 have I4:=I3.step (.refl _ _) (a3.keep (s':={ s3 with heap:=s3.heap.push { cls:=.type "slice",data:=.fields #[partValue q1,partValue q2,.none] } }) fun b o e=>Heap.get?_push_of_some _ e)
 refine hx c.toAr g3 _ X _ q1 q2 I4.at0 (An.mono (le2.trans le3).toup _ _ r1) (Heap.IsSliceOf.new s3.heap _ _ .none) e1 e2 _ fun Ty id hT hk w=>sub_tail (r:=c.toAr) hT hk (wpAny_mono w (fun _ _ p=>up (le1.trans (le2.trans le3)) p) fun _ _ h=>h)
theorem SL.slc {lo hi:E} {l h:Option Int} (ha:SE n a ρ σ x σ₁) (hl:SO n lo ρ σ₁ l σ2) (hh:SO n hi ρ σ2 h σ3) (hx:PrC x σ3 l h fun r g=>By r g σ3 ws):SL n (.slc a lo hi) ρ σ ws σ3:=fun c g s ex hc I=>slc_then (Q:=fun r g=>By r g σ3 ws) (fun le p=>p.after le) ha hl hh hx hc I
theorem SE.slc {lo hi:E} {l h:Option Int} (ha:SE n a ρ σ x σ₁) (hl:SO n lo ρ σ₁ l σ2) (hh:SO n hi ρ σ2 h σ3) (hx:PrC x σ3 l h fun r g=>Ans r g v σ3):SE n (.slc a lo hi) ρ σ v σ3:=fun c g s ex hc I=>slc_then (Q:=fun r g=>Ans r g v σ3) (fun le p=>BK.after le p) ha hl hh hx hc I
theorem part_is {q:Option (Int×Tok)} {l:Option Int} (h:q.map (·.1)=l):IsPart (partValue q) l:=by
 cases q with
 | none=>exact h▸.none
 | some p=>exact h▸.int _ _
theorem c_list {lo hi:Option Int} (h:Ax σ x=some ws):PrC x σ lo hi fun r g=>By r g σ (Ct lo hi ws):=fun r g s X sl q1 q2 A hx hs e1 e2 =>
 AI A.has hx h (R_:=fun X=>∀ R_:Prop,(∀ Ty id,s.TypeIs X Ty->typeLookup (.type Ty) "__getitem__" = pure (some (.builtin id))->r.wp (getItem X (.ref sl)) (By r g σ (Ct lo hi ws)) s->R_)->R_) fun l xs hL hr hl hsz R_ kk=>by
  obtain ⟨o,ho,hc,_⟩:=id hL
  refine kk "list" _ ⟨o,ho,hc⟩ slot_list_getitem.lookup (wpAny_getItem_list_slice hL hs (part_is e1) (part_is e2) .none (by simp) (.push A.has ?_ ?_) (AQ▸hsz))
  ·rw [slicePick_plain]
   unfold Ct
   rw [hl]
   exact (hr.drop _).take _
  ·exact Nat.le_trans ((List.take_sublist _ _).trans (List.drop_sublist _ _)).length_le (hl▸hsz)
end
end Mine
namespace Mine
open PySem PySem.Calls PySem.SeqAt
section
variable {n:Nat} {r:Ar} {c:Cx} {ρ:Af} {g g' g₁:G} {σ σ' σ₁ σ2 σ3:Ab} {s s':Shared} {e a b:E} {x y v:V} {ws us:List V} {X:Value} {ds:List PyData}
theorem clipAt_le (n:Nat) (i:Int):clipAt n i<=n:=Int.toNat_le.mpr (Int.max_le.mpr ⟨Int.natCast_nonneg n,Int.min_le_right _ _⟩)
theorem strSlice_eq (lo hi:Option Int) (x:Str):Txt.slice x lo hi=cutS lo hi x:=by
 have e:Builtin.Str.strSliceIndices lo hi 1 x.length=sliceRange (sliceBounds lo hi none x.length).1 (sliceBounds lo hi none x.length).2.1 1:=by
  unfold Builtin.Str.strSliceIndices
  cases lo <;> cases hi <;> simp [sliceBounds]
 have e2:(Builtin.Str.strSliceIndices lo hi 1 x.length).filterMap (x.cps[·]?)=Ct lo hi x.cps.toList:=by
  rw [e,sliceBounds_plain]
  simp only [sliceRange_one,pick_run]
  unfold Ct
  simp [Str.length]
 unfold Txt.slice cutS
 split
 ·rename_i q
  have q2:=eq_of_beq (Bool.and_eq_true_iff.mp q).2
  have l1:(Ct lo hi x.cps.toList).length=x.length:=by
   have hb:hi.elim x.length (clipAt x.length)<=x.length:=by
    cases hi with
    | none=>exact Nat.le_refl _
    | some i=>exact clipAt_le _ _
   rw [e,sliceBounds_plain] at q2
   simp only [sliceRange_one,List.length_map,List.length_range] at q2
   unfold Ct
   have hx:x.cps.toList.length=x.length:=Array.length_toList
   rw [hx,List.length_take,List.length_drop,hx,q2]
   exact Nat.min_eq_left (Nat.le_trans (Nat.le_of_eq q2.symm) (Nat.sub_le_sub_right hb _))
  have l2:Ct lo hi x.cps.toList=x.cps.toList:=((List.take_sublist _ _).trans (List.drop_sublist _ _)).eq_of_length (l1.trans Array.length_toList.symm)
  rw [l2]
 ·rw [e2]
theorem cutS_len (lo hi:Option Int) (x:Str):(cutS lo hi x).length<=x.length:=by
 show ((Ct lo hi x.cps.toList).toArray).size<=x.cps.size
 rw [List.size_toArray,<-Array.length_toList]
 exact ((List.take_sublist _ _).trans (List.drop_sublist _ _)).length_le
theorem c_str {lo hi:Option Int} {z:Str}:PrC (.d (.str z)) σ lo hi fun r g=>Ans r g (.d (.str (cutS lo hi z))) σ:=fun r g s X sl q1 q2 A hx hs e1 e2 R_ kk=>by
 obtain ⟨t,rfl,hl⟩:=hx
 refine kk "str" _ (typeIs_str _ _ _) F.slot_str_getitem.lookup (wpAny_getItem_str_slice (l:=q1) (u:=q2) (st:=none) hs rfl ?_)
 have e:(if (((none:Option (Int×Tok)).map (·.1)).getD 1 == 1&&(slicePicked z q1 q2 none).length == z.length)=true then z else ⟨((slicePicked z q1 q2 none).filterMap (z.cps[·]?)).toArray⟩)=cutS (q1.map (·.1)) (q2.map (·.1)) z:=strSlice_eq _ _ _
 unfold sliceMade
 refine post_val_or_str ?_
 rw [e,e1,e2]
 exact ⟨Nat.le_trans (cutS_len _ _ _) (AQ▸hl),fun t' k=>.refl A.has.tok ⟨t',rfl,Nat.le_trans (cutS_len _ _ _) hl⟩⟩
theorem Ck {es:E} {K:Kx} {xs:List Expr} (pos:Pos) (env:Env) (h:ED es K xs):(backTo pos (starEach xs env)).any (·.1)=false:=by
 induction es generalizing xs with
 | nil=>rw [show xs=[] from h]; rfl
 | cons e es _ ih=>exact h (fun xs=>(backTo pos (starEach xs env)).any (·.1)=false) fun x l h1 h3=>by rw [(B8 e h1).star]; exact ih h3
 | _=>exact h.elim
theorem Dg {es:E} {K:Kx} {xs:List Expr} {pos:Pos} {env:Env} {f:Value} {Q:Args->Shared->Prop} (hc:ED es K xs) (h:r.wp (spliced (backTo pos (starEach xs env))) (fun vs s'=>Q ⟨vs,[]⟩ s') s):r.wp (evalArgs f true (backTo pos (starEach xs env)) []) Q s:=by
 cases es with
 | nil =>
  obtain rfl:xs=[]:=hc
  have e2:evalArgs f true (backTo pos (starEach [] env)) []=pure ⟨[],[]⟩:=by first | rfl | (unfold evalArgs; rfl)
  exact AU e2 fun Γ p hΓ=>h Γ p hΓ
 | cons e es=>exact hc (fun xs=>r.wp (spliced (backTo pos (starEach xs env))) (fun vs s'=>Q ⟨vs,[]⟩ s') s->r.wp (evalArgs f true (backTo pos (starEach xs env)) []) Q s) (fun x l h1 h3 h=>by rw [(B8 e h1).star] at h ⊢; exact evalArgs_plain h) h
 | _=>exact hc.elim
theorem biVal_cases (b:Bi) {P:Value->Prop} (h1:∀ id,P (.builtin id)) (h2:∀ t,P (.type t)):P (AZ b):=by cases b <;> first | exact h1 _ | exact h2 _
theorem biGV_val {T:Top} {b:Bi} {x:Value} (h:GVal T (biGV b) x):x=AZ b:=by cases b <;> exact h
theorem bi_then {b:Bi} {Q:Ar->G->Value->Shared->Prop} (up:∀ {r:Ar} {g g₁:G} {X:Value} {s':Shared},G.le [] g g₁->Q r g₁ X s'->Q r g X s') (h:SEs n a ρ σ ws σ₁) (hx:∀ (r:Ar) (g:G) (s:Shared) (Xs:List Value),At 0 r g σ₁ s->Am r.T g ws Xs->r.wp (call (AZ b) Xs) (Q r g) s) {ex:Expr} (hc:IsE (.bi b a) c.K ex) (I:Inv n c ρ g σ s):c.wp (eval ex c.env) (Q c.toAr g) s:=by
 refine hc (fun ex=>c.wp (eval ex c.env) (Q c.toAr g) s) fun nm np vs p h1 h2=>?_
 refine PyProof.Rows.Call_Name rfl (C9 I h1 fun x hv=>?_)
 obtain rfl:=biGV_val hv
 have k:c.wp (evalArgs (AZ b) true (backTo p (starEach vs c.env)) []) (fun a s₁=>wpAny (model c.T.prog c.T.w) c.A (call (AZ b) a.pos a.kw) (Q c.toAr g) (fun _ _=>False) s₁) s :=
  Dg (r:=c.toAr) h2 (wpAny_mono (h c g s vs p h2 I) (fun Xs s₁ p=>p _ fun g₁ le a₁ r1=>wpAny_mono (hx c.toAr g₁ s₁ Xs (I.step le a₁).at0 r1) (fun _ _ p=>up le p) fun _ _ h=>h) fun _ _ h=>h)
 exact biVal_cases b (P:=fun f=>c.wp (evalArgs f true (backTo p (starEach vs c.env)) []) (fun a s₁=>wpAny (model c.T.prog c.T.w) c.A (call f a.pos a.kw) (Q c.toAr g) (fun _ _=>False) s₁) s->c.wp (callWith p f [] (backTo p (starEach vs c.env)) []) (Q c.toAr g) s)
  (fun id k=>callWith_builtin (Ck _ _ h2) k) (fun t k=>PyProof.Rows.callWith_type (Ck _ _ h2) k) k
theorem SE.bi {b:Bi} (h:SEs n a ρ σ ws σ₁) (hx:PrL (fun Xs=>call (AZ b) Xs) ws σ₁ v σ2):SE n (.bi b a) ρ σ v σ2:=fun c g s ex hc I=>bi_then (Q:=fun r g=>Ans r g v σ2) (fun le p=>BK.after le p) h hx hc I
theorem SL.bi {b:Bi} (h:SEs n a ρ σ ws σ₁) (hx:∀ (r:Ar) (g:G) (s:Shared) (Xs:List Value),At 0 r g σ₁ s->Am r.T g ws Xs->r.wp (call (AZ b) Xs) (By r g σ₁ us) s):SL n (.bi b a) ρ σ us σ₁:=fun c g s ex hc I=>bi_then (Q:=fun r g=>By r g σ₁ us) (fun le p=>p.after le) h hx hc I
theorem SE.bi1 {b:Bi} (h:SEs n a ρ σ [x] σ₁) (hx:Pr1 (fun X=>call (AZ b) [X]) x σ₁ v σ2):SE n (.bi b a) ρ σ v σ2:=SE.bi h fun r g s Xs A R=>by
 obtain ⟨X,rfl,rx⟩:=R.one
 exact hx r g s X A rx
theorem SE.bi2 {f:Bi} (h:SEs n a ρ σ [x,y] σ2) (hx:Pr2 (fun X Y=>call (AZ f) [X,Y]) x y σ2 v σ3):SE n (.bi f a) ρ σ v σ3:=SE.bi h fun r g s Xs A R=>by
 obtain ⟨X,Y,rfl,rx,ry⟩:=R.two
 exact hx r g s X Y A rx ry
theorem SL.bi1 {b:Bi} (h:SEs n a ρ σ [x] σ₁) (hx:PrN1 (fun X=>call (AZ b) [X]) x σ₁ ws):SL n (.bi b a) ρ σ ws σ₁:=SL.bi h fun r g s Xs A R=>by
 obtain ⟨X,rfl,rx⟩:=R.one
 exact hx r g s X A rx
end
end Mine
namespace Mine
open PySem PySem.Calls PySem.SeqAt
noncomputable def strOf (n:Int):Str:=Str.ofString (toString n)
noncomputable def AX (a b:Str):Bool:=decide (a.cps.toList < b.cps.toList)
theorem ltStr_trans {a b c:Str} (h:AX a b=true) (h':AX b c=true):AX a c=true:=decide_eq_true (List.lt_trans (of_decide_eq_true h) (of_decide_eq_true h'))
theorem Gj {a b:Str} (h:AX a b=false) (h':AX b a=false):a=b:=by
 have:a.cps.toList=b.cps.toList:=List.le_antisymm (List.not_lt.mp (of_decide_eq_false h')) (List.not_lt.mp (of_decide_eq_false h))
 cases a; cases b; exact congrArg _ (Array.toList_inj.mp this)
theorem leStr_trans {a b c:Str} (h:AX b a=false) (h':AX c b=false):AX c a=false:=by
 cases e:AX c a with
 | false=>rfl
 | true=>cases e':AX a b with
  | true=>exact tt_ ((ltStr_trans e e').symm.trans h')
  | false=>rw [Gj e' h] at e; exact tt_ (e.symm.trans h')
noncomputable def CY (l:List Str):Prop:=l.Pairwise fun a b=>AX b a=false
theorem Eu {l:List Str}:∀ {l':List Str},CY l->CY l'->l.Perm l'->l=l':=by
 induction l with
 | nil=>exact fun _ _ p=>(List.nil_perm.mp p).symm
 | cons x r ih =>
  intro l' h h' p
  cases l' with
  | nil=>exact absurd (List.perm_nil.mp p) (List.cons_ne_nil _ _)
  | cons y r' =>
   obtain ⟨h1,h2⟩:=List.pairwise_cons.mp h
   obtain ⟨h1',h2'⟩:=List.pairwise_cons.mp h'
   have e:x=y:=(List.mem_cons.mp (p.mem_iff.mpr (List.mem_cons_self ..))).elim (fun q=>q.symm) fun q=>(List.mem_cons.mp (p.mem_iff.mp (List.mem_cons_self ..))).elim id fun q'=>Gj (h1' x q') (h1 y q)
   subst e
   rw [ih h2 h2' (List.Perm.cons_inv p)]
theorem ER (l:List Str):∀ (p:Str),PyProof.Rows.risingS p l=true->CY (p::l):=by
 induction l with
 | nil=>exact fun p _=>List.pairwise_singleton ..
 | cons x r ih =>
  intro p h
  have h:=Bool.and_eq_true_iff.mp h
  have h0:AX x p=false:=by have:=h.1; rw [Bool.not_eq_true',PyProof.Rows.ltCps_eq] at this; exact this
  have h2:=ih x h.2
  exact List.pairwise_cons.mpr ⟨fun z hz=>(List.mem_cons.mp hz).elim (fun q=>q▸h0) fun hz=>leStr_trans h0 ((List.pairwise_cons.mp h2).1 z hz),h2⟩
theorem CN {l:List Str} (h:PyProof.Rows.sortedS l=true):CY l:=by
 cases l with
 | nil=>exact List.Pairwise.nil
 | cons x r=>exact ER r x h
section
variable {σ:Ab} {x y v:V} {i j:Int} {ws:List V} {t:String} {T:Top} {g:G}
noncomputable abbrev vss (ss:List Str):List V:=ss.map fun y=>.d (.str y)
theorem GP {ss:List Str}:∀ {xs:List Value},Am T g (vss ss) xs->PyProof.Rows.StrsAre xs ss/\∀ y∈ss,y.length<=line:=by
 induction ss with
 | nil=>intro xs h; rw [h.nil]; exact ⟨.nil,fun _ h=>(nomatch h)⟩
 | cons s ss ih =>
  intro xs h
  obtain ⟨x,xs,rfl,⟨t,rfl,hl⟩,h2⟩:=h.cons
  exact ⟨.cons s t (ih h2).1,fun z hz=>(List.mem_cons.mp hz).elim (fun q=>q▸hl) ((ih h2).2 z)⟩
theorem rep_strs {xs:List Value} {ss:List Str} (h:PyProof.Rows.StrsAre xs ss) (hl:∀ y∈ss,y.length<=line):Am T g (vss ss) xs:=by
 induction h with
 | nil=>exact trivial
 | cons y t h ih=>exact ⟨⟨t,rfl,hl y (List.mem_cons_self ..)⟩,ih fun z hz=>hl z (List.mem_cons_of_mem _ hz)⟩
theorem f_sorted {ss ss':List Str} (h:Ax σ x=some (vss ss)) (hl:ss.length < 64) (hp:ss'.Perm ss) (hs:CY ss'):PrN1 (fun X=>call (AZ .sorted) [X]) x σ (vss ss'):=fun r g s X A hx =>
 AI A.has hx h (R_:=fun X=>r.wp (call (.builtin "sorted") [X]) (By r g σ (vss ss')) s) fun a ys hL hr hn _=>by
  obtain ⟨h1,h2⟩:=GP hr
  have hlen:ys.toList.length < 64:=by rw [<-hr.length,List.length_map]; exact hl
  refine PyProof.Rows.sorted_strs (vs:=ys.toList) hL h1 hlen fun out out' a1 a2 a3=>?_
  obtain rfl:out'=ss':=Eu (CN a3) hs (a2.trans hp.symm)
  obtain ⟨k,hk⟩:=PyProof.Rows.sortedAll_at s.heap ys.toList out
  exact .made A.has (fun b o e=>PyProof.Rows.sortedAll_old e) (Heap.get?_none_of_le (Nat.le_succ _)) hk (rep_strs a1 fun z hz=>h2 z (a2.mem_iff.mp hz)) (by rw [List.length_map,hp.length_eq]; exact Nat.le_trans (Nat.le_of_lt hl) (by decide))
theorem f_len (h:Ax σ x=some ws):Pr1 (fun X=>call (AZ .len) [X]) x σ (vi ws.length) σ:=fun r g s X A hx =>
 AI A.has hx h (R_:=fun X=>r.wp (call (.builtin "len") [X]) (Ans r g (vi ws.length) σ) s) fun a ys hL hr hn hs=>PyProof.Rows.len_list hL (Int.ofNat_lt.mpr (DU hs)) (.refl A.has.tok ⟨_,by rw [hn]⟩)
theorem f_lenT (h:BL x=some ws):Pr1 (fun X=>call (AZ .len) [X]) x σ (vi ws.length) σ:=fun r g s X A hx =>
 Ce A.has hx h (R_:=fun X=>r.wp (call (.builtin "len") [X]) (Ans r g (vi ws.length) σ) s) fun a ys hL hr hn hs=>PyProof.Rows.len_tuple hL (Int.ofNat_lt.mpr (DU hs)) (.refl A.has.tok ⟨_,by rw [hn]⟩)
theorem f_lenS {z:Str}:Pr1 (fun X=>call (AZ .len) [X]) (.d (.str z)) σ (vi z.cps.size) σ:=fun r g s X A hx=>by
 obtain ⟨t,rfl,hl⟩:=hx
 exact P.len_str (Int.not_le.mpr (Int.ofNat_lt.mpr (DU hl))) (.refl A.has.tok ⟨_,rfl⟩)
theorem f_str (hi:i.natAbs < 1000000000000):Pr1 (fun X=>call (AZ .str) [X]) (vi i) σ (.d (.str (strOf i))) σ:=fun r g s X A hx=>by
 obtain ⟨t,rfl⟩:=hx
 refine P.str_of_int ?_ (.refl A.has.tok ⟨_,rfl,?_⟩)
 ·by_cases h0:i.natAbs=0
  ·rw [h0]; decide
  ·exact Nat.lt_trans ((Nat.log2_lt (k:=40) h0).mpr (Nat.lt_trans hi (by decide))) (by decide)
 ·show (Str.ofString (toString i)).length<=line
  rw [ofString_length]
  exact Nat.le_trans (int_text_length_le10 (a:=i) (k:=12) (by decide) hi) (by decide)
theorem f_min:Pr2 (fun X Y=>call (AZ .min) [X,Y]) (vi i) (vi j) σ (vi (if j < i then j else i)) σ:=fun r g s X Y A hx hy=>by
 obtain ⟨t,rfl⟩:=hx
 obtain ⟨u,rfl⟩:=hy
 refine min_two_ints A.hh fun h' tk hk=>.refl (A.has.keep hk) ?_
 by_cases q:j < i
 ·rw [if_pos q,if_pos q]; exact ⟨u,rfl⟩
 ·rw [if_neg q,if_neg q]; exact ⟨t,rfl⟩
theorem f_list (h:Ax σ x=some ws):PrN1 (fun X=>call (AZ .list) [X]) x σ ws:=fun r g s X A hx =>
 AI A.has hx h (R_:=fun X=>r.wp (call (.type "list") [X]) (By r g σ ws) s) fun a ys hL hr hn hs=>by
  obtain ⟨o,ho,hc,m,hd⟩:=hL
  exact PySem.call_list_seq (hsz:=AQ▸hs) a (.inl rfl) ho hc hd fun h' c' hk hD=>.made A.has hk (Bl _) hD hr (hn▸hs)
theorem f_ord {ch:Nat}:Pr1 (fun X=>call (AZ .ord) [X]) (.d (.str (chr1 ch))) σ (vi ch) σ:=fun r g s X A hx=>by
 obtain ⟨t,rfl,_⟩:=hx
 exact P.ord_of_char (.refl A.has.tok ⟨_,rfl⟩)
noncomputable abbrev vbs (bs:List Bool):List V:=bs.map fun b=>.d (.bool b)
theorem bools_rep {bs:List Bool}:∀ {xs:List Value},Am T g (vbs bs) xs->xs=bs.map Value.bool:=by
 induction bs with
 | nil=>exact fun h=>h.nil
 | cons b bs ih =>
  intro xs h
  obtain ⟨x,xs,rfl,h1,h2⟩:=h.cons
  rw [ih h2,show x=.bool b from h1]; rfl
theorem range_bs (bs:List Bool):(List.range bs.length).map (fun i=>bs[i]?.getD false)=bs:=by
 induction bs with
 | nil=>rfl
 | cons b bs ih=>rw [List.length_cons,List.range_succ_eq_map,List.map_cons,List.map_map]; exact congrArg (b :: ·) ih
theorem bools_walk {r:Ar} {s:Shared} {X:Value} {bs:List Bool} {Q:Value->Shared->Prop} {f:List Nat->(Nat->Bool)->Bool} {q:Bool} (A:At 0 r g σ s) (h:Ax σ x=some (vbs bs)) (hx:An r.T g x X) (hq:f (List.range bs.length) (fun i=>bs[i]?.getD false)=q) (k:∀ s',Has r.T g σ s'->Q (.bool q) s') :
 wpAny (model r.T.prog r.T.w) r.A.in1 (pyIter X) (fun it s2=>∃ I fp wr n P St tr,it=.ref I/\Walks r.T.prog r.T.w r.A.in1 I fp wr n P St/\St 0 s2.heap/\TruthOf r.T.prog r.T.w r.A.in1 P tr ∧
  ∀ h' tk,(∀ b o,b∉wr->s2.heap.get? b=some o->h'.get? b=some o)->Q (.bool (f (List.range n) tr)) { s2 with heap:=h',toks:=tk }) (fun _ _=>False) s:=by
 refine (AI A.has hx h (R_:=fun X=>wpAny (model r.T.prog r.T.w) r.A.in1 (pyIter X) _ (fun _ _=>False) s) fun a ys hL hr hn hs=>wpAny_pyIter_list hL ?_)
 have hb:=bools_rep hr
 have hsz:ys.size=bs.length:=by rw [<-hn,List.length_map]
 obtain ⟨ol,hol,hcl,nl,hdl⟩:=id hL
 refine ⟨_,_,_,_,_,_,fun i=>bs[i]?.getD false,rfl,Walks.list (A:=r.A.in1) (show r.A.in1.handled=none from A.hh) s.heap.objs.size a (Nat.ne_of_lt (Heap.lt_size hol)) ys,⟨⟨_,Heap.get?_push_size _ rfl,rfl,rfl⟩,⟨ol,Heap.get?_push_of_some _ hol,hcl,nl,hdl⟩⟩,?_,fun h' tk hk=>?_⟩
 ·intro i w s' Q E hw hq
  have hw:ys.toList[i]? = some w:=Array.getElem?_toList.trans hw
  have hq:Q (bs[i]?.getD false) s':=hq
  rw [hb,List.getElem?_map] at hw
  cases ebi:bs[i]? with
  | none=>rw [ebi] at hw; exact Ac hw
  | some c =>
   rw [ebi] at hw hq
   rw [<-Option.some.inj hw]
   exact wpAny_truthy_bool hq
 ·rw [hsz,hq]
  exact k _ (A.has.keep fun b o e=>hk b o (fun q=>by rw [List.mem_singleton.mp q,Bl] at e; exact Ac e) (Heap.get?_push_of_some _ e))
theorem f_all {bs:List Bool} (h:Ax σ x=some (vbs bs)):Pr1 (fun X=>call (AZ .all) [X]) x σ (vb (bs.all id)) σ:=fun r g s X A hx =>
 call_all_walk (bools_walk (f:=fun l t=>l.all t) A h hx (List.all_map.symm.trans (congrArg (List.all · id) (range_bs bs))) fun s' H=>.refl H rfl)
theorem f_any {bs:List Bool} (h:Ax σ x=some (vbs bs)):Pr1 (fun X=>call (AZ .any) [X]) x σ (vb (bs.any id)) σ:=fun r g s X A hx =>
 call_any_walk (bools_walk (f:=fun l t=>l.any t) A h hx (List.any_map.symm.trans (congrArg (List.any · id) (range_bs bs))) fun s' H=>.refl H rfl)
end
end Mine
namespace Mine
open PySem PySem.Calls PySem.SeqAt
section
variable {σ:Ab} {x y v:V} {i j:Int} {a b:Str}
theorem c_ints {m:Value->Value->Sem Value} {q:Bool} (h:∀ (r:Ar) (s:Shared) (t u:Tok) (Q:Value->Shared->Prop),Q (.bool q) s->wpAny (model r.T.prog r.T.w) r.A (m (.int i t) (.int j u)) Q (fun _ _=>False) s):Pr2 m (vi i) (vi j) σ (vb q) σ:=EU fun r g s X Y A hx hy Q k=>by
 obtain ⟨t,rfl⟩:=hx
 obtain ⟨u,rfl⟩:=hy
 exact h r s t u Q k
theorem p_lt:Pr2 (compareOp .Lt) (vi i) (vi j) σ (vb (decide (i < j))) σ:=c_ints fun r s t u Q h=>P.lt_int h
theorem p_le:Pr2 (compareOp .LtE) (vi i) (vi j) σ (vb (decide (i<=j))) σ:=c_ints fun r s t u Q h=>P.le_int h
theorem p_gt:Pr2 (compareOp .Gt) (vi i) (vi j) σ (vb (decide (i > j))) σ:=c_ints fun r s t u Q h=>P.gt_int h
theorem p_ge:Pr2 (compareOp .GtE) (vi i) (vi j) σ (vb (decide (i ≥ j))) σ:=c_ints fun r s t u Q h=>P.ge_int h
theorem p_geS:Pr2 (compareOp .GtE) (.d (.str a)) (.d (.str b)) σ (vb (!AX a b)) σ:=EU fun r g s X Y A hx hy Q k=>by
 obtain ⟨t,rfl,_⟩:=hx
 obtain ⟨u,rfl,_⟩:=hy
 exact P.ge_str k
theorem p_is:Pr2 (compareOp .Is) (.d .none) (.d .none) σ (vb true) σ/\Pr2 (compareOp .IsNot) (.d .none) (.d .none) σ (vb false) σ:=by
 constructor <;> exact EU fun r g s X Y A hx hy Q k=>by
  obtain rfl:X=.none:=hx
  obtain rfl:Y=.none:=hy
  first | exact wpAny_is_self rfl k | exact wpAny_isNot_self rfl k
noncomputable def EW (v:V):Bool:=match v with | .d x=>(match x with | .none=>false | .dict _=>false | _=>true) | .ty _=>false | _=>true
theorem notNone_form {T:Top} {g:G} {X:Value} (h:EW v=true) (r:An T g v X):plainIs X .none=true/\X≠.none:=by
 have rf:∀ a,plainIs (.ref a) .none=true/\Value.ref a≠.none:=fun a=>⟨rfl,fun q=>nomatch q⟩
 cases v with
 | d x=>cases x with
  | none=>exact ff_ h
  | bool b=>rw [show X=.bool b from r]; exact ⟨rfl,fun q=>nomatch q⟩
  | int i=>obtain ⟨t,rfl⟩:=r; exact ⟨rfl,fun q=>nomatch q⟩
  | str z=>obtain ⟨t,rfl,_⟩:=r; exact ⟨rfl,fun q=>nomatch q⟩
  | list _=>exact r (fun X=>plainIs X .none=true/\X≠.none) fun a _ _ _ _ _ _ _ _=>rf a
  | tuple _=>exact r (fun X=>plainIs X .none=true/\X≠.none) fun a _ _ _ _ _ _ _ _=>rf a
  | dict _=>exact ff_ h
 | ref k=>obtain ⟨a,_,rfl⟩:=r; exact rf a
 | tup _=>exact r (fun X=>plainIs X .none=true/\X≠.none) fun a _ _ _ _ _ _ _ _=>rf a
 | ty _=>exact ff_ h
 | obj _=>exact r (fun X=>plainIs X .none=true/\X≠.none) fun a _ _ _ _ _ _ _ _ _ _ _=>rf a
 | pr _ _=>exact r (fun X=>plainIs X .none=true/\X≠.none) fun a _ _ _ _ _ _ _ _=>rf a
theorem p_isN (h:EW v=true):Pr2 (compareOp .Is) v (.d .none) σ (vb false) σ/\Pr2 (compareOp .IsNot) v (.d .none) σ (vb true) σ:=by
 constructor <;> exact EU fun r g s X Y A hx hy Q k=>by
  obtain rfl:Y=.none:=hy
  have f:=notNone_form h hx
  first | exact wpAny_is_other f.1 f.2 k | exact wpAny_isNot_other f.1 f.2 k
noncomputable def tyOf (σ:Ab) (v:V):Option String :=
 match v with
 | .d x=>(match x with | .tuple _=>some "tuple" | .list _=>some "list" | .str _=>some "str" | .int _=>some "int" | .bool _=>some "bool" | _=>none)
 | .tup _=>some "tuple"
 | .ref k=>(Cr σ[k]?).bind fun _=>some "list"
 | _=>none
theorem tyOf_is {T:Top} {g:G} {s:Shared} {X:Value} {t:String} (H:Has T g σ s) (r:An T g v X) (h:tyOf σ v=some t):s.TypeIs X t:=by
 have sq:∀ {cl:String} {P:List Value->Prop} {n:Nat},BP g.fz cl X P n->s.TypeIs X cl:=fun r=>r (fun X=>s.TypeIs X _) fun a o vs m hf hc _ _ _=>⟨o,H.fz _ _ hf,hc⟩
 cases v with
 | d x=>cases x with
  | bool b=>rw [show X=.bool b from r,<-Option.some.inj h]; exact typeIs_bool _ _
  | int i=>obtain ⟨u,rfl⟩:=r; rw [<-Option.some.inj h]; exact typeIs_int _ _ _
  | str z=>obtain ⟨u,rfl,_⟩:=r; rw [<-Option.some.inj h]; exact typeIs_str _ _ _
  | list _=>rw [<-Option.some.inj h]; exact sq r
  | tuple _=>rw [<-Option.some.inj h]; exact sq r
  | _=>exact Ac h
 | tup _=>rw [<-Option.some.inj h]; exact sq r
 | ref k =>
  obtain ⟨ws,e,h⟩:=Aa h
  rw [<-Option.some.inj h]
  exact AI (v:=.ref k) H r e (R_:=fun X=>s.TypeIs X "list") fun a xs hL _ _ _=>hL.elim fun o h=>⟨o,h.1,h.2.1⟩
 | _=>exact Ac h
theorem f_isi {t:String} (h:tyOf σ v=some t) (ht:typeOf (.type t)=pure (.type "type")) (hs:isSubtype (.type t) (.type t)=pure true):Pr2 (fun X Y=>call (AZ .isinstance) [X,Y]) v (.ty t) σ (vb true) σ:=fun r g s X Y A hx hy=>by
 obtain rfl:Y=.type t:=hy
 exact call_isinstance (isinstance_true (Tx:=t) ht hs) ⟨tyOf_is A.has hx h,.refl A.has.tok rfl⟩
theorem f_isIB:Pr2 (fun X Y=>call (AZ .isinstance) [X,Y]) (vi i) (.ty "bool") σ (vb false) σ:=fun r g s X Y A hx hy=>by
 obtain rfl:Y=.type "bool" := hy
 obtain ⟨t,rfl⟩:=hx
 exact call_isinstance (isinstance_false_int (by decide) (by kernel_rfl) (by rw [isSubtype_type]; kernel_rfl)) (.refl A.has.tok rfl)
end
section
variable {κ:Type} [DecidableEq κ]
noncomputable def Ao {β:Type} (kvs:List (κ×β)) (k:κ):Option β:=(kvs.find? fun p=>p.1=k).map (·.2)
noncomputable def BD {β:Type} (kvs:List (κ×β)) (k:κ) (d:β):List (κ×β) :=
 if kvs.any (fun p=>p.1=k) then kvs.map (fun p=>if p.1=k then (p.1,d) else p) else kvs++[(k,d)]
theorem Ej {β:Type} (kvs:List (κ×β)) (k:κ) (d:β):(BD kvs k d).length<=kvs.length+1:=by
 unfold BD
 by_cases e:(kvs.any fun p=>p.1=k)=true
 ·rw [if_pos e,List.length_map]; exact Nat.le_succ _
 ·rw [if_neg e,List.length_append]; exact Nat.le_refl _
theorem any_find {α:Type} (p:α->Bool) (l:List α):l.any p=(l.find? p).isSome:=by
 induction l with
 | nil=>rfl
 | cons a l ih=>rw [List.any_cons,List.find?_cons,ih]; cases p a <;> rfl
theorem find_rep {β ω κ':Type} [DecidableEq κ'] {R:κ×β->ω->Prop} {key:ω->κ'} {f:κ->κ'} (hf:∀ a b,f a=f b->a=b) (hR:∀ p w,R p w->f p.1=key w) (k:κ) {kvs:List (κ×β)}:∀ {ws:List ω},Au R kvs ws ->
 (kvs.find? (fun p=>p.1=k)=none/\ws.find? (fun w=>key w=f k)=none)\/∃ p w,kvs.find? (fun p=>p.1=k)=some p/\ws.find? (fun w=>key w=f k)=some w/\R p w:=by
 induction kvs with
 | nil=>intro ws h; rw [h.nil]; exact .inl ⟨rfl,rfl⟩
 | cons p kvs ih =>
  intro ws h
  obtain ⟨w,ws,rfl,h1,h2⟩:=h.cons
  rw [List.find?_cons,List.find?_cons,<-hR p w h1]
  by_cases e:p.1=k
  ·rw [decide_eq_true e,decide_eq_true (congrArg f e)]; exact .inr ⟨p,w,rfl,rfl,h1⟩
  ·rw [decide_eq_false e,decide_eq_false fun q=>e (hf _ _ q)]; exact ih h2
theorem put_rep {β ω κ':Type} [DecidableEq κ'] {R:κ×β->ω->Prop} {key:ω->κ'} {f:κ->κ'} (hf:∀ a b,f a=f b->a=b) (hR:∀ p w,R p w->f p.1=key w) {k:κ} {d:β} {w₀:ω} {up:ω->ω} (h0:R (k,d) w₀) (hu:∀ p w,R p w->p.1=k->R (p.1,d) (up w)) {kvs:List (κ×β)} {ws:List ω} (h:Au R kvs ws) :
 Au R (BD kvs k d) (if (ws.find? (fun w=>key w=f k)).isSome then ws.map (fun w=>if key w=f k then up w else w) else ws++[w₀]):=by
 have hm:∀ {kvs:List (κ×β)} {ws:List ω},Au R kvs ws->Au R (kvs.map fun p=>if p.1=k then (p.1,d) else p) (ws.map fun w=>if key w=f k then up w else w):=by
  intro kvs
  induction kvs with
  | nil=>intro ws h; rw [h.nil]; exact trivial
  | cons p kvs ih =>
   intro ws h
   obtain ⟨w,ws,rfl,h1,h2⟩:=h.cons
   refine ⟨?_,ih h2⟩
   dsimp only
   rw [<-hR p w h1]
   by_cases e:p.1=k
   ·rw [if_pos e,if_pos (congrArg f e)]; exact hu p w h1 e
   ·rw [if_neg e,if_neg fun q=>e (hf _ _ q)]; exact h1
 unfold BD
 rw [any_find]
 rcases find_rep hf hR k h with ⟨e1,e2⟩ | ⟨p,w,e1,e2,_⟩
 ·rw [e1,e2]; exact h.append ⟨h0,trivial⟩
 ·rw [e1,e2]; exact hm h
end
section
variable {r:Ar} {g:G} {σ σ':Ab} {s:Shared} {k:Nat} {a b:Addr} {kvs:List (Str×PyData)} {kvp:List ((Str×Int)×PyData)} {z:Str} {q:Str×Int} {d:PyData} {v:V}
theorem At.notMods (A:At 0 r g σ s) (hk:g.mu[k]? = some a):(a == sysModules)=false:=by
 obtain ⟨o,ho⟩:=A.ok.ok.mods
 exact beq_eq_false_iff_ne.mpr fun e=>Aq (A.has.ap a (List.mem_of_getElem? hk)) (e▸A.has.base _ _ ho)
noncomputable abbrev SRel (fz:Addr->Option Obj) (d:Str×PyData) (v:Str×Value):Prop:=d.1=v.1/\A2 fz d.2 v.2
noncomputable abbrev PRel (fz:Addr->Option Obj) (d:(Str×Int)×PyData) (v:List (Str ⊕ Int)×Addr×Value):Prop:=Fb d.1=v.1/\A2 fz (.tuple [.str d.1.1,.int d.1.2]) (.ref v.2.1)/\A2 fz d.2 v.2.2
theorem keyP_inj (k k':Str×Int) (h:Fb k=Fb k'):k=k':=by
 have h1:=List.cons.inj h
 exact Prod.ext (Sum.inl.inj h1.1) (Sum.inr.inj (List.cons.inj h1.2).1)
theorem Has.dictS {T:Top} (H:Has T g σ s) (hk:g.mu[k]? = some a) (hσ:σ[k]? = some (.dictS kvs)) {R_:Prop} (kk:∀ ws,s.heap.DictOf (strKind T.prog T.w) a ws->Au (SRel g.fz) kvs ws->R_):R_ :=
 H.ob k a _ hk hσ R_ fun x hx r=>r R_ fun es ep ws ho hd hk' hp hn hr hl=>kk ws ⟨x,es,ep,hx,ho,hd,hk',hp,hn⟩ hr
theorem DO {T:Top} (H:Has T g σ s) (r:A2 g.fz (.tuple [.str q.1,.int q.2]) (.ref b)):IsTupleKey (BH T.prog T.w) s.heap (Fb q) b:=by
 refine r (fun x=>x=.ref b->IsTupleKey (BH T.prog T.w) s.heap (Fb q) b) (fun a o vs m hf hc hd hr _ e=>?_) rfl
 obtain rfl:a=b:=Value.ref.inj e
 refine ⟨o,vs,m,H.fz _ _ hf,hc,hd,?_⟩
 obtain ⟨x,y,e,⟨t,rfl,_⟩,⟨t',rfl⟩⟩:=hr.all.two
 rw [e]
 exact .cons (strKind_is T.prog T.w q.1 t) (.cons (show Value.isInt q.2 (.int q.2 t')=true by simp [Value.isInt]) .nil)
theorem Has.dictP {T:Top} (H:Has T g σ s) (hk:g.mu[k]? = some a) (hσ:σ[k]? = some (.dictP kvp)) {R_:Prop} (kk:∀ ws,s.heap.DictOfH (tupleKind (BH T.prog T.w)) a ws->Au (PRel g.fz) kvp ws->R_):R_ :=
 H.ob k a _ hk hσ R_ fun x hx r=>r R_ fun es ep ws ho hd he hn hr hl=>kk ws ⟨x,es,ep,hx,ho,hd,he,(by
  have key:∀ {kvp:List ((Str×Int)×PyData)} {ws:List (List (Str ⊕ Int)×Addr×Value)},Au (PRel g.fz) kvp ws->∀ x∈ws,IsTupleKey (BH T.prog T.w) s.heap x.1 x.2.1:=by
   intro kvp
   induction kvp with
   | nil=>intro ws h x hx; rw [h.nil] at hx; exact nomatch hx
   | cons p kvp ih =>
    intro ws h x hx
    obtain ⟨w,ws,rfl,h1,h2⟩:=h.cons
    exact (List.mem_cons.mp hx).elim (fun e=>by rw [e,<-h1.1]; exact DO H h1.2.1) (ih h2 x)
  exact key hr),hn⟩ hr
theorem getS_rep {ws:List (Str×Value)} {fz:Addr->Option Obj} (h:Au (SRel fz) kvs ws) (z:Str):(Ao kvs z=none/\valueAt ws z=none)\/∃ d v,Ao kvs z=some d/\valueAt ws z=some v/\A2 fz d v:=by
 rcases find_rep (f:=id) (key:=fun w:Str×Value=>w.1) (fun _ _ h=>h) (fun _ _ h=>h.1) z h with ⟨e1,e2⟩ | ⟨p,w,e1,e2,r⟩
 ·exact .inl ⟨congrArg (Option.map _) e1,congrArg (Option.map _) e2⟩
 ·exact .inr ⟨p.2,w.2,congrArg (Option.map _) e1,congrArg (Option.map _) e2,r.2⟩
theorem getP_rep {ws:List (List (Str ⊕ Int)×Addr×Value)} {fz:Addr->Option Obj} (h:Au (PRel fz) kvp ws) (q:Str×Int):(Ao kvp q=none/\atKey ws (Fb q)=none)\/∃ d v,Ao kvp q=some d/\atKey ws (Fb q)=some v/\A2 fz d v.2:=by
 rcases find_rep (f:=Fb) (key:=fun w:List (Str ⊕ Int)×Addr×Value=>w.1) keyP_inj (fun _ _ h=>h.1) q h with ⟨e1,e2⟩ | ⟨p,w,e1,e2,r⟩
 ·exact .inl ⟨congrArg (Option.map _) e1,congrArg (Option.map _) e2⟩
 ·exact .inr ⟨p.2,w.2,congrArg (Option.map _) e1,congrArg (Option.map _) e2,r.2.2⟩
theorem p_inS (hσ:σ[k]? = some (.dictS kvs)):Pr2 (compareOp .In) (.d (.str z)) (.ref k) σ (vb (Ao kvs z).isSome) σ/\Pr2 (compareOp .NotIn) (.d (.str z)) (.ref k) σ (vb !(Ao kvs z).isSome) σ:=by
 have key:∀ {op:CmpOp} {f:Bool->Bool},(∀ (r:Ar) (s:Shared) (a:Addr) (t:Tok) (ws:List (Str×Value)) (Q:Value->Shared->Prop),(a == sysModules)=false->s.heap.DictOf (strKind r.T.prog r.T.w) a ws->(∀ tk,Q (.bool (f (valueAt ws z).isSome)) { s with toks:=tk })->wpAny (model r.T.prog r.T.w) r.A (compareOp op (.str z t) (.ref a)) Q (fun _ _=>False) s)->Pr2 (compareOp op) (.d (.str z)) (.ref k) σ (vb (f (Ao kvs z).isSome)) σ:=fun h r g s X Y A hx hy=>by
  obtain ⟨t,rfl,_⟩:=hx
  obtain ⟨a,hk,rfl⟩:=hy
  refine A.has.dictS hk hσ fun ws hD hr=>h r s a t ws _ (A.notMods hk) hD fun tk=>.refl A.has.tok ?_
  rcases getS_rep hr z with ⟨e1,e2⟩ | ⟨d,v,e1,e2,_⟩ <;> rw [e1,e2] <;> rfl
 exact ⟨key (f:=id) fun r s a t ws Q hm hD h=>wpAny_in_of (k:=z) (strKind_is _ _ z t) hm hD.mapOf (h _),key (f:=not) fun r s a t ws Q hm hD h=>wpAny_notIn_of (k:=z) (strKind_is _ _ z t) hm hD.mapOf (h _)⟩
noncomputable abbrev vp (q:Str×Int):V:=.d (.tuple [.str q.1,.int q.2])
theorem G9 {X:Value} {T:Top} (h:An T g (vp q) X) {R_:Value->Prop} (k:∀ b,A2 g.fz (.tuple [.str q.1,.int q.2]) (.ref b)->R_ (.ref b)):R_ X :=
 h (fun X=>An T g (vp q) X->R_ X) (fun a _ _ _ _ _ _ _ _ h=>k a h) h
theorem p_inP (hσ:σ[k]? = some (.dictP kvp)):Pr2 (compareOp .In) (vp q) (.ref k) σ (vb (Ao kvp q).isSome) σ/\Pr2 (compareOp .NotIn) (vp q) (.ref k) σ (vb !(Ao kvp q).isSome) σ:=by
 have key:∀ {op:CmpOp} {f:Bool->Bool},(∀ (r:Ar) (s:Shared) (a b:Addr) (ws:List (List (Str ⊕ Int)×Addr×Value)) (Q:Value->Shared->Prop),r.A.in1.units < cLine->(a == sysModules)=false->s.heap.DictOfH (tupleKind (BH r.T.prog r.T.w)) a ws->IsTupleKey (BH r.T.prog r.T.w) s.heap (Fb q) b->(∀ tk,Q (.bool (f (atKey ws (Fb q)).isSome)) { s with toks:=tk })->wpAny (model r.T.prog r.T.w) r.A (compareOp op (.ref b) (.ref a)) Q (fun _ _=>False) s)->Pr2 (compareOp op) (vp q) (.ref k) σ (vb (f (Ao kvp q).isSome)) σ:=fun h r g s X Y A hx hy=>by
  obtain ⟨a,hk,rfl⟩:=hy
  refine G9 hx (R_:=fun X=>r.wp (compareOp _ X (.ref a)) (Ans r g _ σ) s) fun b hb=>A.has.dictP hk hσ fun ws hD hr=>h r s a b ws _ (Nat.lt_of_le_of_lt (Nat.le_add_right _ 40) A.room) (A.notMods hk) hD (DO A.has hb) fun tk=>.refl A.has.tok ?_
  rcases getP_rep hr q with ⟨e1,e2⟩ | ⟨d,v,e1,e2,_⟩ <;> rw [e1,e2] <;> rfl
 exact ⟨key (f:=id) fun r s a b ws Q hu hm hD hb h=>wpAny_in_heap (knd:=tupleKind (BH r.T.prog r.T.w)) hu hb hm hD (h _),key (f:=not) fun r s a b ws Q hu hm hD hb h=>PyProof.Rows.wpAny_notIn_heap (knd:=tupleKind (BH r.T.prog r.T.w)) hu hb hm hD (h _)⟩
theorem FV {r:Ar} {a:Addr} {ob:O} (A:At 0 r g σ s) (hk:g.mu[k]? = some a) (hσ:σ[k]? = some ob) (h:∀ vs,ob≠.list vs):s.TypeIs (.ref a) "dict" :=
 A.has.ob k a _ hk hσ _ fun x hx rx=>by
  cases ob with
  | list vs=>exact absurd rfl (h vs)
  | dictS _=>exact rx _ fun _ _ _ ho _ _ _ _ _ _=>⟨x,hx,ho.1⟩
  | dictP _=>exact rx _ fun _ _ _ ho _ _ _ _ _=>⟨x,hx,ho.1⟩
theorem g_dictS (hσ:σ[k]? = some (.dictS kvs)) (hd:Ao kvs z=some d):PrG (.ref k) (.d (.str z)) σ (.d d):=fun r g s X Y A hx hy R_ kk=>by
 obtain ⟨a,hk,rfl⟩:=hx
 obtain ⟨t,rfl,_⟩:=hy
 refine kk "dict" _ (FV A hk hσ fun _ q=>nomatch q) slot_dict_getitem.lookup (A.has.dictS hk hσ fun ws hD hr=>?_)
 rcases getS_rep hr z with ⟨e1,_⟩ | ⟨d',v,e1,e2,rv⟩
 ·exact Aq e1 hd
 ·rw [Av hd e1]; exact wpAny_getItem_of (k:=z) (strKind_is _ _ z t) hD.mapOf e2 (.refl A.has.tok rv)
theorem g_dictP (hσ:σ[k]? = some (.dictP kvp)) (hd:Ao kvp q=some d):PrG (.ref k) (vp q) σ (.d d):=fun r g s X Y A hx hy R_ kk=>by
 obtain ⟨a,hk,rfl⟩:=hx
 refine kk "dict" _ (FV A hk hσ fun _ q=>nomatch q) slot_dict_getitem.lookup (G9 hy (R_:=fun Y=>r.wp (getItem (.ref a) Y) (Ans r g (.d d) σ) s) fun b hb=>A.has.dictP hk hσ fun ws hD hr=>?_)
 rcases getP_rep hr q with ⟨e1,_⟩ | ⟨d',v,e1,e2,rv⟩
 ·exact Aq e1 hd
 ·rw [Av hd e1]; exact wpAny_getItem_heap (knd:=tupleKind (BH r.T.prog r.T.w)) (Nat.lt_of_le_of_lt (Nat.le_add_right _ 40) A.room) (DO A.has hb) hD e2 (.refl A.has.tok rv)
end
end Mine
namespace Mine
open PySem PySem.Calls PySem.SeqAt
noncomputable abbrev lObj (xs:Array Value) (m:Nat):Obj:={ cls:=.type "list",dict:=none,data:=.seq xs m,slots:=#[] }
noncomputable abbrev AO:V:=.d .none
section
variable {n:Nat} {T:Top} {r:Ar} {c:Cx} {ρ:Af} {g g' g₁:G} {σ σ' σ₁ σ2 σ3:Ab} {s s':Shared} {e a b:E} {x y v:V} {ws us:List V} {X:Value} {ds:List PyData} {k:Nat} {l:Addr}
theorem Has.lst (H:Has T g σ s) (hk:g.mu[k]? = some l) (hσ:σ[k]? = some (.list ws)) {R_:Prop} (kk:∀ xs m,s.heap.get? l=some (lObj xs m)->Am T g ws xs.toList->ws.length=xs.size->ws.length<=line->R_):R_ :=
 H.ob k l _ hk hσ R_ fun o ho ro=>ro (fun o=>s.heap.get? l=some o->R_) (fun xs m hr hl ho=>kk xs m ho hr hr.length hl) ho
theorem Has.relst {xs:Array Value} {m:Nat} (H:Has T g σ s) (hk:g.mu[k]? = some l) (hs:∀ b x,b≠l->s.heap.get? b=some x->s'.heap.get? b=some x) (ho:s'.heap.get? l=some (lObj xs m)) (hr:Am T g us xs.toList) (hl:us.length<=line) (hg:s'.gens=s.gens:=by rfl) (hos:s'.os=s.os:=by rfl):Has T g (σ.set k (.list us)) s' :=
 H.turn (ob:=.list us) hk hs ho (fun R_ kk=>kk xs m hr hl) hg hos
theorem upd_ne {h:Heap} {f:Obj->Obj}:∀ b x,b≠l->h.get? b=some x->(h.update l f).get? b=some x:=fun b x hb e=>(Heap.get?_update_other _ _ (Ne.symm hb)).trans e
theorem Has.upd {xs:Array Value} {m:Nat} {f:Array Value->Array Value} {tk:Nat} (H:Has T g σ s) (hk:g.mu[k]? = some l) (ho:s.heap.get? l=some (lObj xs m)) (hr:Am T g us (f xs).toList) (hl:us.length<=line):Has T g (σ.set k (.list us)) { s with heap:=s.heap.update l (Obj.mapSeq f),toks:=tk } :=
 H.relst hk upd_ne (Heap.get?_update_self _ ho rfl) hr hl
noncomputable def PrM (id:String) (k:Nat) (ws us:List V) (σ:Ab) (v:V) (σ':Ab):Prop :=
 ∀ (r:Ar) (g:G) (s:Shared) (l:Addr) (xs:Array Value) (m:Nat) (Ys:List Value),At 0 r g σ s->g.mu[k]? = some l->s.heap.get? l=some (lObj xs m)->Am r.T g ws xs.toList->ws.length=xs.size->ws.length<=line->Am r.T g us Ys->r.wp (call (.builtin id) (.ref l::Ys)) (Ans r g v σ') s
theorem m_append (hl:ws.length < line):PrM "list.append" k ws [x] σ AO (σ.set k (.list (ws++[x]))):=fun r g s l xs m Ys A hk ho hr hn _ hy=>by
 obtain ⟨Y,rfl,ry⟩:=hy.one
 refine wpAny_list_append_plain ⟨m,ho⟩ (fun h' hp hs=>?_) (by rw [<-hn,<-AQ]; exact Nat.le_of_lt hl)
 obtain ⟨m',ho'⟩:=hp
 exact .refl (A.has.relst hk (fun b x hb e=>(hs.2 b hb).trans e) ho' (by rw [Array.toList_push]; exact hr.append ⟨ry,trivial⟩) (by rw [List.length_append]; exact Nat.succ_le_of_lt hl)) rfl
theorem m_clear:PrM "list.clear" k ws [] σ AO (σ.set k (.list [])):=fun r g s l xs m Ys A hk ho hr hn hl hy=>by
 rw [hy.nil]
 exact call_meets F.slot_list_clear ⟨_,ho,rfl⟩ F.entry_list_clear (F.args_list_clear_1 _) (AutoSeq1.list_clear_list_0 l xs m (by rw [<-hn,<-AQ]; exact hl)) ⟨ho,.refl (A.has.upd (us:=[]) hk ho trivial (Nat.zero_le _)) rfl⟩
theorem nat_fit {i:Int} (h0:0<=i) (h:i.toNat<=line):Builtin.List.listFitsIndex i=true:=by
 have h1:=DU h
 simp [Builtin.List.listFitsIndex]; lia
theorem m_insert {i:Int} (h0:0<=i) (hi:i.toNat<=ws.length) (hl:ws.length < line):PrM "list.insert" k ws [vi i,x] σ AO (σ.set k (.list (ws.take i.toNat++x::ws.drop i.toNat))):=fun r g s l xs m Ys A hk ho hr hn _ hy=>by
 obtain ⟨Z,Y,rfl,⟨t,rfl⟩,ry⟩:=hy.two
 refine call_meets F.slot_list_insert ⟨_,ho,rfl⟩ F.entry_list_insert (F.args_list_insert_3 _ _ _) (AutoSeq1.list_insert_list_int_val_1 l xs m i t Y (by rw [nat_fit h0 (Nat.le_trans hi (Nat.le_of_lt hl))]; decide) (by rw [<-hn,<-AQ]; exact Nat.le_of_lt hl)) ⟨ho,.refl (A.has.upd hk ho ?_ ?_) rfl⟩
 ·have e:(if i < 0 then (i+(xs.size:Int)).toNat else min i.toNat xs.size)=i.toNat:=by
   rw [if_neg (Int.not_lt.mpr h0)]; exact Nat.min_eq_left (hn▸hi)
  show Am r.T g _ ((xs.extract 0 (if i < 0 then (i+(xs.size:Int)).toNat else min i.toNat xs.size)).push Y++xs.extract (if i < 0 then (i+(xs.size:Int)).toNat else min i.toNat xs.size)).toList
  rw [e]
  have e2:((xs.extract 0 i.toNat).push Y++xs.extract i.toNat).toList=xs.toList.take i.toNat++Y::xs.toList.drop i.toNat:=by simp; exact List.take_of_length_le (by simp)
  rw [e2]
  exact (hr.take _).append ⟨ry,hr.drop _⟩
 ·rw [List.length_append,List.length_cons,List.length_take,List.length_drop,Nat.min_eq_left hi,<-Nat.add_assoc,Nat.add_sub_cancel' hi]; exact Nat.succ_le_of_lt hl
theorem Au.erase {α β:Type} {R:α->β->Prop} {as:List α} {bs:List β} (h:Au R as bs) (j:Nat):Au R (as.eraseIdx j) (bs.eraseIdx j):=by
 rw [List.eraseIdx_eq_take_drop_succ,List.eraseIdx_eq_take_drop_succ]; exact (h.take j).append (h.drop (j+1))
theorem m_pop (hv:ws[ws.length-1]? = some v):PrM "list.pop" k ws [] σ v (σ.set k (.list (ws.eraseIdx (ws.length-1)))):=fun r g s l xs m Ys A hk ho hr hn hl hy=>by
 rw [hy.nil]
 obtain ⟨Y,hY,ry⟩:=hr.get hv
 refine call_meets F.slot_list_pop ⟨_,ho,rfl⟩ F.entry_list_pop (F.args_list_pop_1 _) (MeetsSeq.list_pop_last l xs m Y (by rw [<-hn]; exact Array.getElem?_toList.symm.trans hY) (by rw [<-hn,<-AQ]; exact hl)) ⟨ho,.refl (A.has.upd hk ho ?_ ?_) ry⟩
 ·rw [hn,show (xs.eraseIdxIfInBounds (xs.size-1)).toList=xs.toList.eraseIdx (xs.size-1) by simp]; exact hr.erase _
 ·exact Nat.le_trans (List.length_eraseIdx_le _ _) hl
noncomputable def Fi (x:PyData):List PyData->Option Nat
 | []=>none
 | y::r=>(eqN AC y x).bind fun b=>bif b then some 0 else (Fi x r).bind fun j=>some (j+1)
theorem idx_ok {h:Heap} {d:PyData}:∀ {xs:List Value} {j:Nat},Au (A2 h.get?) ds xs->Fi d ds=some j->∃ (hj:j < xs.length),DZ h d xs[j]=true/\∀ (m:Nat) (hm:m < xs.length),m < j->DZ h d xs[m]=false:=by
 induction ds with
 | nil=>exact fun _ h=>Ac h
 | cons z ds ih =>
  intro xs j hr e0
  obtain ⟨x,xs,rfl,h1,h2⟩:=hr.cons
  obtain ⟨b,e,e0⟩:=Aa e0
  have h0:=eqTo_of h1 e
  cases b with
  | true =>
   obtain rfl:0=j:=Option.some.inj e0
   exact ⟨Nat.succ_pos _,h0,fun m _ hm=>absurd hm (Nat.not_lt_zero m)⟩
  | false =>
   obtain ⟨j',e2,e3⟩:=Aa e0
   obtain rfl:j' + 1=j:=Option.some.inj e3
   obtain ⟨q1,q2,q3⟩:=ih h2 e2
   refine ⟨Nat.succ_lt_succ q1,q2,fun m hm hj=>?_⟩
   cases m with
   | zero=>exact h0
   | succ m=>exact q3 m (Nat.lt_of_succ_lt_succ hm) (Nat.lt_of_succ_lt_succ hj)
theorem idx_at {d:PyData} {q:Bool} {j:Nat} {xs:Array Value} {Y:Value} (A:At 0 r g σ s) (hr:Am r.T g (ds.map .d) xs.toList) (hy:A2 g.fz d Y) (h1:inD d ds=some q) (h2:Fi d ds=some j) {R_:Prop}
 (kk:∀ (hj:j < xs.size),(∀ z,z∈xs->EqAt r.A.in1 s z Y (DZ s.heap d z))->DZ s.heap d xs[j]=true->(∀ m (hm:m < xs.size),m < j->DZ s.heap d xs[m]=false)->R_):R_:=by
 have hd:=(toDs hr).mono fun _ _=>A2.mono A.has.fz _ _
 obtain ⟨h4,_⟩:=inD_ok (A:=r.A.in1) A.room (A2.mono A.has.fz _ _ hy) hd h1
 obtain ⟨q1,q2,q3⟩:=idx_ok hd h2
 exact kk q1 (fun z hz=>h4 z (Array.mem_toList_iff.mpr hz)) q2 fun m hm hj=>q3 m hm hj
theorem m_index {d:PyData} {q:Bool} {j:Nat} (h1:inD d ds=some q) (h2:Fi d ds=some j):PrM "list.index" k (ds.map .d) [.d d] σ (vi j) σ:=fun r g s l xs m Ys A hk ho hr hn hl hy=>by
 obtain ⟨Y,rfl,ry⟩:=hy.one
 refine idx_at A hr ry h1 h2 fun hj hz q1 q2=>?_
 have hj':(j:Int) < 2 ^ 63-1:=Int.lt_of_lt_of_le (Int.ofNat_lt.mpr (Nat.lt_of_lt_of_le hj (hn▸hl))) (by decide)
 exact call_meets F.slot_list_index ⟨_,ho,rfl⟩ F.entry_list_index (F.args_list_index_2 _ _) (list_indexAt l xs m none #[] Y (DZ s.heap d) j hj hj' q1 q2) ⟨ho,hz,.refl A.has.tok ⟨_,rfl⟩⟩
end
end Mine
namespace Mine
open PySem PySem.Calls PySem.SeqAt
theorem extend_any (l:Addr) (items:Array Value) (n:Nat) (b:Addr) (items2:Array Value) (n2:Nat) (dd:Option Addr) (sl:Array (Option Value)) (hs0:¬(!items.isEmpty&&Builtin.List.listTooLong (items.size+items2.size))=true) (hs1:items.size<=sizeLine) (hs2:(items++items2).size<=sizeLine+1) :
 Meets (Builtin.«list.extend» ⟨[.ref l,.ref b],[]⟩) (fun _ R s=>s.heap.get? l=some { cls:=.type "list",dict:=none,data:=.seq items n,slots:=#[] }/\s.heap.get? b=some { cls:=.type "list",dict:=dd,data:=.seq items2 n2,slots:=sl }/\R (.ok (.ret Value.none)) { s with heap:=s.heap.update l (Obj.mapSeq fun x=>x++items2),toks:=s.toks }) :=
 .of_wp fun prog w A R s h=>by
  obtain ⟨hp,g,d,tk,os⟩:=s
  obtain ⟨hl,hb,h⟩:=h
  have f1:=AutoSeq1.sub_list_list
  wp_walk using (wpAny_updateSeq hl rfl (hz:=hs1) (_hz':=hs2)),AutoSeq1.wpAny_loadPart' hl,AutoSeq1.wpAny_loadPart' hb
  exact ⟨_,rfl,h⟩
open MeetsSeq in
theorem remove_loopAt (l:Addr) (items:Array Value) (n:Nat) (x:Value) (e:Value->Bool) (j:Nat) (hj:j < items.size) (hit:e items[j]=true) (hs1:items.size<=sizeLine) (k:Nat) :
 ∀ i:Nat,j-i=k->i<=j->(∀ m (hm:m < items.size),i<=m->m < j->e items[m]=false)->Meets (Builtin.«list.remove.loop» ⟨[.ref l,x,rawInt i],[]⟩)
  (fun A R s=>s.heap.get? l=some { cls:=.type "list",dict:=none,data:=.seq items n,slots:=#[] }/\(∀ y,y∈items->EqAt A.in1 s y x (e y))/\R (.ok (.ret .none)) { s with heap:=s.heap.update l (Obj.mapSeq fun xs=>xs.eraseIdxIfInBounds j) }):=by
 induction k with
 | zero =>
  intro i hk hij hno prog w A R s h
  obtain ⟨hp,g,d,tk,os⟩:=s; obtain ⟨hl,he,h⟩:=h
  have hij':i=j:=Nat.le_antisymm hij (Nat.le_of_sub_eq_zero hk)
  subst hij'
  wp_walk using AutoSeq1.wpAny_loadPart' hl
  have hi:items[((i:Nat):Int).toNat]? = some items[i]:=by simp [hj]
  rw [hi]
  refine wpAny_bind (he _ (Array.getElem_mem hj) prog w _ _ ?_)
  rw [hit]
  have hz':(items.eraseIdxIfInBounds i).size<=sizeLine+1:=Nat.le_trans (size_erased items _) (Nat.le_succ_of_le hs1)
  wp_walk using (wpAny_updateSeq hl rfl (hz:=hs1) (_hz':=hz')),AutoSeq1.wpAny_loadPart' hl
  exact h
 | succ k ih =>
  intro i hk hij hno prog w A R s h
  obtain ⟨hp,g,d,tk,os⟩:=s; obtain ⟨hl,he,h⟩:=h
  have hlt:i < items.size:=by omega
  wp_walk using AutoSeq1.wpAny_loadPart' hl
  have hi:items[((i:Nat):Int).toNat]? = some items[i]:=by simp [hlt]
  have hc:((i:Int)+1)=((i+1:Nat):Int):=by push_cast; rfl
  rw [hi]
  refine wpAny_bind (he _ (Array.getElem_mem hlt) prog w _ _ ?_)
  rw [hno i hlt (Nat.le_refl _) (by omega)]
  wp_walk
  rw [hc]
  exact ⟨plainId_quiet plain_remove_loop _,codeAny_builtin entry_remove_loop (by
   rw [Around.under_plainId plain_remove_loop _]
   exact ih (i+1) (by omega) (by omega) (fun m hm h1 h2=>hno m hm (by omega) h2) prog w A R _ ⟨hl,he,h⟩)⟩
open MeetsSeq in
theorem list_removeAt (l:Addr) (items:Array Value) (n:Nat) (x:Value) (e:Value->Bool) (j:Nat) (hj:j < items.size) (hit:e items[j]=true) (hno:∀ m (hm:m < items.size),m < j->e items[m]=false) (hs1:items.size<=sizeLine) :
 Meets (Builtin.«list.remove» ⟨[.ref l,x],[]⟩)
  (fun A R s=>s.heap.get? l=some { cls:=.type "list",dict:=none,data:=.seq items n,slots:=#[] }/\(∀ y,y∈items->EqAt A.in1 s y x (e y))/\R (.ok (.ret .none)) { s with heap:=s.heap.update l (Obj.mapSeq fun xs=>xs.eraseIdxIfInBounds j) }):=by
 intro prog w A R s h
 obtain ⟨hp,g,d,tk,os⟩:=s; obtain ⟨hl,he,h⟩:=h
 wp_walk using AutoSeq1.wpAny_loadPart' hl
 exact ⟨plainId_quiet plain_remove_loop _,codeAny_builtin entry_remove_loop (by
  rw [Around.under_plainId plain_remove_loop _]
  exact remove_loopAt l items n x e j hj hit hs1 _ 0 rfl (Nat.zero_le _) (fun m hm _ h2=>hno m hm h2) prog w A R _ ⟨hl,he,h⟩)⟩
section
variable {n:Nat} {T:Top} {r:Ar} {c:Cx} {ρ:Af} {g g' g₁:G} {σ σ' σ₁ σ2 σ3:Ab} {s s':Shared} {e a b:E} {x y v:V} {ws us:List V} {X:Value} {ds:List PyData} {k:Nat} {l:Addr}
theorem m_remove {d:PyData} {q:Bool} {j:Nat} (h1:inD d ds=some q) (h2:Fi d ds=some j):PrM "list.remove" k (ds.map .d) [.d d] σ AO (σ.set k (.list ((ds.map .d).eraseIdx j))):=fun r g s l xs m Ys A hk ho hr hn hl hy=>by
 obtain ⟨Y,rfl,ry⟩:=hy.one
 refine idx_at A hr ry h1 h2 fun hj hz q1 q2=>?_
 refine call_meets F.slot_list_remove ⟨_,ho,rfl⟩ F.entry_list_remove (F.args_list_remove_2 _ _) (list_removeAt l xs m Y (DZ s.heap d) j hj q1 q2 (by rw [<-hn,<-AQ]; exact hl)) ⟨ho,hz,.refl (A.has.upd hk ho ?_ ?_) rfl⟩
 ·rw [show (xs.eraseIdxIfInBounds j).toList=xs.toList.eraseIdx j by simp]; exact hr.erase _
 ·exact Nat.le_trans (List.length_eraseIdx_le _ _) hl
theorem m_extend (h:Ax σ x=some us) (hl:ws.length+us.length<=line):PrM "list.extend" k ws [x] σ AO (σ.set k (.list (ws++us))):=fun r g s l xs m Ys A hk ho hr hn hlw hy=>by
 obtain ⟨Y,rfl,ry⟩:=hy.one
 refine AI A.has ry h (R_:=fun Y=>r.wp (call (.builtin "list.extend") [.ref l,Y]) (Ans r g AO (σ.set k (.list (ws++us)))) s) fun b zs hL hz hzn _=>?_
 obtain ⟨n2,d2,s2,ho2⟩:=list_obj hL
 have hz2:xs.size+zs.size<=sizeLine:=by rw [<-hn,<-hzn,<-AQ]; exact hl
 refine call_meets F.slot_list_extend ⟨_,ho,rfl⟩ F.entry_list_extend (F.args_list_extend_2 _ _) (extend_any l xs m b zs n2 d2 s2 ?_ (Nat.le_trans (Nat.le_add_right _ _) hz2) (by rw [Array.size_append]; exact Nat.le_succ_of_le hz2)) ⟨ho,ho2,.refl (A.has.upd hk ho ?_ ?_) rfl⟩
 ·rw [show Builtin.List.listTooLong (xs.size+zs.size)=false from decide_eq_false (Nat.not_lt.mpr hz2),Bool.and_false]; exact Bool.false_ne_true
 ·rw [Array.toList_append]; exact hr.append hz
 ·rw [List.length_append]; exact hl
noncomputable def Ez (e:E):Prop:=∀ {K:Kx} {ex:Expr},IsE e K ex->∀ nm env w,attributeBase ex nm env w=w
theorem AK {i:Nat}:Ez (.var i):=fun h nm env w=>h (fun ex=>attributeBase ex nm env w=w) fun _ _ _=>rfl
theorem basic_cst {d:PyData}:Ez (.cst d):=fun h nm env w=>h (fun ex=>attributeBase ex nm env w=w) fun _ _ _=>rfl
theorem basic_sub:Ez (.sub a b):=fun h nm env w=>h (fun ex=>attributeBase ex nm env w=w) fun _ _ _ _ _=>rfl
theorem basic_attr {z:Str}:Ez (.attr z a):=fun h nm env w=>h (fun ex=>attributeBase ex nm env w=w) fun _ _ _=>rfl
theorem SE.meth {m:Meth} {Ty id:String} (hb0:Ez a) (pa:PlainAttrs Ty) (slot:Slot Ty (Str.ofString (DR m)) id) (ty:typeOf (.builtin id)=pure (.type "method_descriptor")) (ha:SE n a ρ σ x σ₁) (hb:SEs n b ρ σ₁ ws σ2)
 (hT:∀ (r:Ar) (g:G) (s:Shared) (X:Value),At 0 r g σ₁ s->An r.T g x X->s.TypeIs X Ty/\∀ l,X=.ref l->∃ o,s.heap.get? l=some o/\o.dict=none)
 (h:∀ (r:Ar) (g:G) (s:Shared) (X:Value) (Ys:List Value),At 0 r g σ2 s->An r.T g x X->Am r.T g ws Ys->r.wp (call (.builtin id) (X::Ys)) (Ans r g v σ3) s):SE n (.meth m a b) ρ σ v σ3:=by
 refine fun c g s ex hc I=>hc (fun ex=>c.wp (eval ex c.env) (Ans c.toAr g v σ3) s) fun z ap vs p h1 h2 h3 h4=>?_
 refine wpAny_Call_method_lateS (hb0 h1 _ _ _) ?_ (decide_eq_true h3) (wpAny_mono (ha c g s z h1 I) (fun X s₁ p1=>p1 _ fun g₁ le1 a₁ r1=>?_) fun _ _ h=>h)
 ·have e:=Ck p c.env h2
  rw [List.any_eq_false] at e
  exact (Bool.and_eq_true _ _).mpr ⟨(Bool.and_eq_true _ _).mpr ⟨List.all_eq_true.mpr fun x hx=>by simpa using e x hx,rfl⟩,decide_eq_true (Nat.lt_trans h4 (by decide))⟩
 ·have I1:=I.step le1 a₁
  have t:=hT c.toAr g₁ s₁ X I1.at0 r1
  exact ⟨Ty,id,pa,slot,ty,t.1,t.2,callWith_builtin (Ck _ _ h2) (Dg (r:=c.toAr) h2 (wpAny_mono (hb c g₁ s₁ vs p h2 I1) (fun Ys s2 p2=>p2 _ fun g2 le2 a₂ r2=>Bv (r:=c.toAr) (le1.trans le2) (h c.toAr g2 s2 X Ys (I1.step le2 a₂).at0 (An.mono le2.toup _ _ r1) r2)) fun _ _ h=>h))⟩
theorem SE.lmeth {m:Meth} {id:String} (hb0:Ez a) (slot:Slot "list" (Str.ofString (DR m)) id) (ty:typeOf (.builtin id)=pure (.type "method_descriptor")) (ha:SE n a ρ σ (.ref k) σ₁) (hb:SEs n b ρ σ₁ us σ2) (h0:σ₁[k]? = some (.list ws)) (h1:σ2[k]? = some (.list ws)) (h:PrM id k ws us σ2 v σ3):SE n (.meth m a b) ρ σ v σ3:=by
 refine SE.meth hb0 F.plainAttrs_list slot ty ha hb (fun r g s X A hx=>?_) fun r g s X Ys A hx hy=>?_
 ·obtain ⟨l,hk,rfl⟩:=hx
  exact A.has.lst hk h0 fun xs m ho _ _ _=>⟨⟨_,ho,rfl⟩,fun l' q=>Value.ref.inj q▸⟨_,ho,rfl⟩⟩
 ·obtain ⟨l,hk,rfl⟩:=hx
  exact A.has.lst hk h1 fun xs m ho hr hn hl=>h r g s l xs m Ys A hk ho hr hn hl hy
theorem strs_pairs {zs:List Value} {ss:List Str} (h:PyProof.Rows.StrsAre zs ss):∃ l':List (Str×Tok),strValues l'=zs/\l'.map (·.1)=ss:=by
 induction h with
 | nil=>exact ⟨[],rfl,rfl⟩
 | cons y t _ ih=>obtain ⟨l,q1,q2⟩:=ih; exact ⟨(y,t)::l,by rw [<-q1]; rfl,by rw [<-q2]; rfl⟩
theorem SE.join {z:Str} {ss:List Str} (hb0:Ez a) (hs:Ax σ2 y=some (vss ss)) (hj:JoinOk z ss=true) (ha:SE n a ρ σ (.d (.str z)) σ₁) (hb:SEs n b ρ σ₁ [y] σ2):SE n (.meth .join a b) ρ σ (.d (.str (Txt.join z ss))) σ2:=by
 refine SE.meth hb0 F.plainAttrs_str F.slot_str_join F.type_str_join ha hb (fun r g s X A hx=>?_) fun r g s X Ys A hx hy=>?_
 ·obtain ⟨t,rfl,_⟩:=hx
  exact ⟨typeIs_str _ _ _,fun _ q=>nomatch q⟩
 ·obtain ⟨t,rfl,_⟩:=hx
  obtain ⟨Y,rfl,ry⟩:=hy.one
  refine AI A.has ry hs (R_:=fun Y=>r.wp (call (.builtin "str.join") [.str z t,Y]) (Ans r g (.d (.str (Txt.join z ss))) σ2) s) fun l xs hL hr _ _=>?_
  obtain ⟨l',hl1,hl2⟩:=strs_pairs (GP hr).1
  exact SC.join (l:=l') (texts:=ss) (by rw [hl1]; simpa using hL) hl2 hj fun t' k=>.refl A.has.tok ⟨t',rfl,by rw [AQ]; exact joinOk_length hj⟩
end
end Mine
namespace Mine
open PySem PySem.Calls PySem.SeqAt
section
variable {n:Nat} {a b:E} {ρ:Af} {σ σ₁ σ2:Ab} {k:Nat} {kvp:List ((Str×Int)×PyData)} {q:Str×Int} {z:V}
noncomputable def dfl (o:Option PyData) (z:V):V:=match o with | some d=>.d d | none=>z
theorem SE.getP (hb0:Ez a) (ha:SE n a ρ σ (.ref k) σ₁) (hb:SEs n b ρ σ₁ [vp q,z] σ2) (h0:σ₁[k]? = some (.dictP kvp)) (h1:σ2[k]? = some (.dictP kvp)):SE n (.meth .get a b) ρ σ (dfl (Ao kvp q) z) σ2:=by
 refine SE.meth hb0 F.plainAttrs_dict F.slot_dict_get F.type_dict_get ha hb (fun r g s X A hx=>?_) fun r g s X Ys A hx hy=>?_
 ·obtain ⟨c,hk,rfl⟩:=hx
  refine ⟨FV A hk h0 (fun _ q=>nomatch q),fun l e=>?_⟩
  obtain rfl:=Value.ref.inj e
  exact A.has.ob k c _ hk h0 _ fun x hx rx=>rx _ fun _ _ _ ho _ _ _ _ _=>⟨x,hx,ho.2.1⟩
 ·obtain ⟨c,hk,rfl⟩:=hx
  obtain ⟨Y,Z,rfl,ry,rz⟩:=hy.two
  refine G9 ry (R_:=fun Y=>r.wp (call (.builtin "dict.get") [.ref c,Y,Z]) (Ans r g _ σ2) s) fun b hb=>A.has.dictP hk h1 fun ws hD hr=>?_
  refine call_meetsIn F.slot_dict_get hD.typeIs F.entry_dict_get (F.args_dict_get_3 _ _ _) (meetsH_dict_get_default (tupleKind (BH r.T.prog r.T.w)) c b (A.notMods hk) Z) ⟨Nat.lt_of_le_of_lt (Nat.le_add_right _ 40) A.room,Fb q,ws,DO A.has hb,hD,.refl A.has.tok ?_⟩
  rcases getP_rep hr q with ⟨e1,e2⟩ | ⟨d,v,e1,e2,rv⟩
  ·rw [e1,e2]; exact rz
  ·rw [e1,e2]; exact rv
end
end Mine
namespace Mine
open PySem PySem.Calls
noncomputable def Db:Af->List Nat->List V->Af
 | ρ,i::is,v::vs=>Db (ρ.set i (some v)) is vs
 | ρ,_,_=>ρ
section
variable {n:Nat} {c:Cx} {ρ ρ':Af} {g g':G} {σ σ' σ₁ σ2 σ3:Ab} {s s':Shared} {i:Nat} {nm:Str} {v:V} {X:Value} {Er:Value->Shared->Prop} {e a b:E} {Q:Fl->Ab->Prop}
theorem canWr_ok {env:Env} {K:Kx} (h:env.scope.names=K.names) (hc:K.canWr i nm=true):K.vars[i]? = some nm/\nm∈K.wr/\(env.kindOf nm=some .local\/env.kindOf nm=some .cell):=by
 have h1:=Bool.and_eq_true_iff.mp hc
 have h2:=Bool.and_eq_true_iff.mp h1.1
 rw [AE h]
 exact ⟨of_decide_eq_true h2.1,List.contains_iff_mem.mp h2.2,(Bool.or_eq_true_iff.mp h1.2).imp Kx.kd_eq Kx.kd_eq⟩
theorem GM {j:Nat} {v w:V} (h:(ρ.set i (some w))[j]? = some (some v)):(j=i/\w=v)\/(j≠i/\ρ[j]? = some (some v)):=by
 by_cases q:i=j
 ·subst q
  by_cases hl:i < ρ.length
  ·rw [List.getElem?_set_self hl] at h; exact .inl ⟨rfl,Option.some.inj (Option.some.inj h)⟩
  ·rw [List.getElem?_eq_none (by rw [List.length_set]; exact Nat.le_of_not_lt hl)] at h; exact Ac h
 ·rw [List.getElem?_set_ne q] at h
  exact .inr ⟨fun e=>q e.symm,h⟩
theorem FH {vars:List Str} (hn:vars.Nodup) {i j:Nat} {n:Str} (h1:vars[i]? = some n) (h2:vars[j]? = some n):i=j:=by
 obtain ⟨a,ha⟩:=List.getElem?_eq_some_iff.mp h1
 obtain ⟨b,hb⟩:=List.getElem?_eq_some_iff.mp h2
 exact (List.getElem_inj hn).mp (ha.trans hb.symm)
theorem Hc {f:Addr->Option Obj} {a b:Addr} {m:Str->Option Value} {u:Option Value} (hn:NsF f a m) (hc:CellF f b u):b≠a:=by
 obtain ⟨o,es,ep,ho,hd,_⟩:=hn
 obtain ⟨o',ho',hd'⟩:=hc
 intro q
 rw [q,ho] at ho'
 rw [<-Option.some.inj ho',hd] at hd'
 exact nomatch hd'
theorem hide_some {a b:Addr} {o:Obj} (h:g.hid a≠none):(g.hide b o).hid a≠none:=by
 show (if a=b then some o else g.hid a)≠none
 by_cases q:a=b
 ·rw [if_pos q]; exact fun q=>nomatch q
 ·rw [if_neg q]; exact h
theorem Inv.store {Q:Unit->Shared->Prop} (I:Inv n c ρ g σ s) (hc:c.K.canWr i nm=true) (r:An c.T g v X) (h:∀ g' s',G.le c.own g g'->G.up g g'->Inv n c (ρ.set i (some v)) g' σ s'->Q () s'):wpAny (model c.T.prog c.T.w) c.A (storeName c.env nm X) Q Er s:=by
 obtain ⟨h1,h2,h3⟩:=canWr_ok I.cx.names hc
 refine I.loc.ns _ fun m hm hs=>?_
 have oth:∀ {j nm' w},c.K.vars[j]? = some nm'->(ρ.set i (some v))[j]? = some (some w)->(nm'=nm/\v=w)\/(nm'≠nm/\ρ[j]? = some (some w)):=fun {j nm' w} e1 e2=>(GM e2).imp (fun q=>⟨Av e1 (q.1▸h1),q.2⟩) fun q=>⟨fun q'=>q.1 (FH I.cx.nd e1 (q'▸h1)),q.2⟩
 rcases h3 with hk | hk
 ·refine wpAny_storeName_local hk (hm.to (I.has.hd _)) (fun h' hn hb=>?_) (by rw [I.cx.kind]; rfl)
  obtain ⟨o₀,_,_,e0,_⟩:=id hm
  obtain ⟨o,es,ep,ho,hd⟩:=hn
  have up:G.up g (g.hide c.env.locals o):=⟨fun _ _ e=>e,fun _ _ e=>e⟩
  refine h (g.hide c.env.locals o) _ (.hide I.cx.oloc) up ⟨I.toAt.step up (I.has.rehide e0 (fun b x q e=>(hb.2 b q).trans e) ho),I.cx,fun R_ k=>k (fun x=>if x=nm then some X else m x) ⟨o,es,ep,G.hide_self,hd⟩ fun j nm' w e1 e2 e3=>?_,fun nm' hk' R_ k=>I.loc.ce nm' hk' R_ fun a u q1 q2 q3=>k a u q1 (q2.to fun o' e=>(G.hide_ne (Hc hm q2)).trans e) fun j w e1 e2=>?_,fun a ha=>hide_some (I.loc.ow a ha)⟩
  ·show ∃ x,(if nm'=nm then some X else m nm')=some x/\_
   rcases oth e1 e2 with ⟨q,q'⟩ | ⟨q,q'⟩
   ·rw [if_pos q,<-q']; exact ⟨X,rfl,An.mono up _ _ r⟩
   ·rw [if_neg q]; exact BE up (hs j nm' w e1 q' e3)
  ·rcases oth e1 e2 with ⟨q,q'⟩ | ⟨q,q'⟩
   ·rw [q,hk] at hk'; exact hk'.elim (fun q=>nomatch q) fun q=>nomatch q
   ·exact BE up (q3 j w e1 q')
 ·refine I.loc.ce nm (.inl hk) _ fun a u q1 q2 q3=>wpAny_storeName_cell I.cx.kind hk q1 (q2.to (I.has.hd _)) fun h' hn hb=>?_
  obtain ⟨o₀,e0,_⟩:=id q2
  obtain ⟨o,ho,hd⟩:=hn
  have up:G.up g (g.hide a o):=⟨fun _ _ e=>e,fun _ _ e=>e⟩
  refine h (g.hide a o) _ (.hide (I.cx.ocell nm h2 a hk q1)) up ⟨I.toAt.step up (I.has.rehide e0 (fun b x q e=>(hb.2 b q).trans e) ho),I.cx,fun R_ k=>k m (hm.to fun o' e=>(G.hide_ne (Hc hm q2).symm).trans e) fun j nm' w e1 e2 e3=>?_,fun nm' hk' R_ k=>?_,fun a ha=>hide_some (I.loc.ow a ha)⟩
  ·rcases oth e1 e2 with ⟨q,q'⟩ | ⟨q,q'⟩
   ·rw [q,hk] at e3; exact nomatch e3
   ·exact BE up (hs j nm' w e1 q' e3)
  ·by_cases q:nm'=nm
   ·refine k a (some X) (q▸q1) ⟨o,G.hide_self,hd⟩ fun j w e1 e2=>(oth e1 e2).elim (fun p=>p.2▸⟨X,rfl,An.mono up _ _ r⟩) fun p=>absurd q p.1
   ·refine I.loc.ce nm' hk' R_ fun a' u' p1 p2 p3=>k a' u' p1 (p2.to fun o' e=>(G.hide_ne fun (q':a'=a)=>q (I.cx.cinj nm' nm a (q'▸p1) q1)).trans e) fun j w e1 e2=>(oth e1 e2).elim (fun p=>absurd p.1 q) fun p=>BE up (p3 j w e1 p.2)
theorem Inv.asgn {p:Pos} {Q:Unit->Shared->Prop} (I:Inv n c ρ g σ s) (hc:c.K.canWr i nm=true) (r:An c.T g v X) (h:∀ g' s',G.le c.own g g'->G.up g g'->Inv n c (ρ.set i (some v)) g' σ s'->Q () s'):wpAny (model c.T.prog c.T.w) c.A (assign (.Name nm p) c.env X) Q Er s:=by
 rw [arm_assign_Name]
 exact wpAny_bind (wpAny_standAt (wpAny_bindName (I.store hc r h)))
theorem assign_names {ts:List Nat}:∀ {es:List Expr},IsNs c.K ts es->∀ {vs:List V} {Xs:List Value} {ρ:Af} {g:G} {s:Shared} {Q:Unit->Shared->Prop},Inv n c ρ g σ s->Am c.T g vs Xs->vs.length=ts.length ->
 (∀ g' s',G.le c.own g g'->Inv n c (Db ρ ts vs) g' σ s'->Q () s')->wpAny (model c.T.prog c.T.w) c.A (assignInOrder ((assignEach es c.env).map (·.2)) Xs) Q Er s:=by
 induction ts with
 | nil =>
  intro es hc vs Xs ρ g s Q I r hl h
  obtain rfl:es=[]:=hc
  obtain rfl:vs=[]:=List.length_eq_zero_iff.mp hl
  rw [r.nil]
  exact wpAny_pure (h g s (.refl _ _) I)
 | cons t ts ih =>
  intro es hc vs Xs ρ g s Q I r hl h
  cases vs with
  | nil=>exact Cf hl rfl
  | cons v vs =>
   obtain ⟨X,Xs,rfl,r1,r2⟩:=r.cons
   refine hc (fun es=>wpAny (model c.T.prog c.T.w) c.A (assignInOrder ((assignEach es c.env).map (·.2)) (X::Xs)) Q Er s) fun nm p l h1 h2=>?_
   show wpAny _ _ (holding Xs (assign (.Name nm p) c.env X)>>=fun _=>assignInOrder ((assignEach l c.env).map (·.2)) Xs) _ _ _
   exact wpAny_bind (wpAny_holding (I.asgn h1 r1 fun g₁ s₁ le1 up I1=>ih h2 I1 (Am.mono up r2) (Nat.succ.inj hl) fun g' s' le' I'=>h g' s' (le1.trans le') I'))
theorem ns_len {ts:List Nat}:∀ {es:List Expr},IsNs c.K ts es->(assignEach es c.env).length=ts.length/\(assignEach es c.env).findIdx? (·.1)=none:=by
 induction ts with
 | nil=>intro es hc; rw [show es=[] from hc]; exact ⟨rfl,rfl⟩
 | cons t ts ih =>
  intro es hc
  refine hc (fun es=>(assignEach es c.env).length=ts.length+1/\(assignEach es c.env).findIdx? (·.1)=none) fun nm p l h1 h2=>⟨congrArg (· + 1) (ih h2).1,?_⟩
  show ((false,assign (.Name nm p) c.env)::assignEach l c.env).findIdx? (·.1)=none
  rw [List.findIdx?_cons,(ih h2).2]; rfl
theorem Inv.unpack {ts:List Nat} {es:List Expr} {k:Nat} {p:Pos} {vs:List V} {Xs:Array Value} {t:Addr} {Q:Unit->Shared->Prop} (I:Inv n c ρ g σ s) (hc:IsNs c.K ts es) (ht:s.heap.IsTuple t Xs) (r:Am c.T g vs Xs.toList) (hl:vs.length=ts.length)
 (h:∀ g' s',G.le c.own g g'->Inv n c (Db ρ ts vs) g' σ s'->Q () s'):wpAny (model c.T.prog c.T.w) c.A (assign (.Tuple es k p) c.env (.ref t)) Q Er s:=by
 obtain ⟨l1,l2⟩:=ns_len (c:=c) hc
 refine wpAny_assign_Tuple I.hh ht (by rw [l1,<-hl,r.length]; rfl) l2 fun h' he=>?_
 exact assign_names hc (I.step (.refl _ _) (I.has.keep fun b o e=>he b o (fun q=>by rw [q,Bl] at e; exact Ac e) e)) r hl h
theorem SS.ret (h:SE n e ρ σ v σ') (hq:Q (.ret v) σ'):SS n (.ret e) ρ σ Q:=fun c g s x hc I=>hc (fun x=>c.wp (exec x c.env) (Bu n c g Q) s) fun ex p hc=>AU (arm_exec_Return ..) (wpAny_bind (wpAny_standAt
 (B0 (h c g s ex hc I) fun X g₁ s₁ le a₁ r1=>wpAny_pure fun R_ _ k2=>k2 v X σ' g₁ hq le.toO a₁ (I.step le a₁).loc.ow r1)))
theorem drop_any {prog:Program} {w:World} {A:Around} {s:Shared} {Q:Flow->Shared->Prop} {E:Value->Shared->Prop} {e:Expr} {p:Pos} {v:Value} (h:Q .next s):wpAny (model prog w) A (dropValue e p v) Q E s:=by
 have key:∀ a,wpAny (model prog w) A (dropValue (.List [] default) p (.ref a)) Q E s:=fun a=>by
  refine wpAny_bind (wpAny_standAt (wpAny_bind (wpAny_runValue (codeAny_builtin entry_let_go ?_))))
  unfold Builtin.«proto.let_go»
  exact wpAny_pure (wpAny_pure h)
 have key2:wpAny (model prog w) A (dropValue (.List [] default) p v) Q E s:=by
  cases v <;> first | exact wpAny_pure h | exact key _
 have to:∀ t,t=dropValue (.List [] default) p v->wpAny (model prog w) A t Q E s:=fun t e=>e▸key2
 cases e <;> first | exact wpAny_pure h | exact to _ (by kernel_rfl)
theorem SS.exp (hp:B3 e=false) (h:SE n e ρ σ v σ') (hq:Q (.next ρ) σ'):SS n (.exp e) ρ σ Q:=fun c g s x hc I=>hc (fun x=>c.wp (exec x c.env) (Bu n c g Q) s) fun ex p hc=>by
 have hi:interactive c.env=false:=by unfold interactive; rw [I.cx.kind]; rfl
 rw [arm_exec_Expr]
 refine wpAny_bind (wpAny_standAt ?_)
 rw [hi]
 show c.wp (swapsWith ex none p.line c.env>>=_) _ _
 rw [EK e hp hc,pure_bind,if_neg Bool.false_ne_true]
 exact Bw h hc I fun X g₁ s₁ le I1 r1=>drop_any fun R_ k1 _=>k1 ρ σ' g₁ hq le.toO I1
theorem SS.asg (hp:B3 e=false) (h:SE n e ρ σ v σ') (hq:Q (.next (ρ.set i (some v))) σ'):SS n (.asg i e) ρ σ Q:=fun c g s x hc I=>hc (fun x=>c.wp (exec x c.env) (Bu n c g Q) s) fun nm p ex p' h1 hc _=>by
 rw [arm_exec_Assign]
 refine wpAny_bind (wpAny_standAt ?_)
 show c.wp (swapsWith ex (some (.Name nm p)) p'.line c.env>>=_) _ _
 rw [EK e hp hc,pure_bind,if_neg Bool.false_ne_true]
 refine Bw h hc I fun X g₁ s₁ le I1 r1=>?_
 rw [show swappedStores [.Name nm p] ex c.env=pure none by unfold swappedStores; rfl,pure_bind]
 unfold assignStores
 show c.wp (assignAll X [assign (.Name nm p) c.env]>>=fun _=>pure Flow.next) _ _
 rw [show assignAll X [assign (.Name nm p) c.env]=assign (.Name nm p) c.env X by first | rfl | (unfold assignAll; rfl)]
 exact wpAny_bind (I1.asgn h1 r1 fun g2 s2 le2 _ I2=>wpAny_pure fun R_ k1 _=>k1 _ σ' g2 hq (le.toO.trans le2) I2)
end
end Mine
namespace Mine
open PySem PySem.Calls
section
variable {n:Nat} {c:Cx} {ρ ρ':Af} {g g' g₁:G} {σ σ' σ₁ σ2 σ3:Ab} {s s':Shared} {i:Nat} {nm:Str} {v x y z:V} {X:Value} {e a b d:E} {Q M:Fl->Ab->Prop} {st r:S} {vs:List V} {xs:List Nat}
theorem Bu.after {f:Flow} (le:G.le c.own g g₁) (h:Bu n c g₁ Q f s'):Bu n c g Q f s':=fun R_ k1 k2=>h R_ (fun ρ σ g' q l I=>k1 ρ σ g' q (le.trans l) I) fun v x σ g' q l H w r=>k2 v x σ g' q (le.trans l) H w r
theorem Bu.elim {f:Flow} {P:Prop} (h:Bu n c g Q f s') (k1:∀ ρ σ' g',f=.next->Q (.next ρ) σ'->G.le c.own g g'->Inv n c ρ g' σ' s'->P) (k2:∀ v x σ' g',f=.ret x->Q (.ret v) σ'->G.le c.own g g'->Has c.T g' σ' s'->(∀ a,a∈c.own->g'.hid a≠none)->An c.T g' v x->P):P :=
 h (fun f'=>f=f'->P) (fun ρ σ g' q l I e=>k1 ρ σ g' e q l I) (fun v x σ g' q l H w r e=>k2 v x σ g' e q l H w r) rfl
theorem Bu.mono {f:Flow} (hm:∀ fl σ,M fl σ->Q fl σ) (h:Bu n c g M f s'):Bu n c g Q f s':=fun R_ k1 k2=>h R_ (fun ρ σ g' q l I=>k1 ρ σ g' (hm _ _ q) l I) fun v x σ g' q l H w r=>k2 v x σ g' (hm _ _ q) l H w r
theorem SS.mono (hm:∀ fl σ,M fl σ->Q fl σ) (h:SS n st ρ σ M):SS n st ρ σ Q:=fun c g s x hc I=>wpAny_mono (h c g s x hc I) (fun _ _ p=>p.mono hm) fun _ _ h=>h
theorem SSs.mono (hm:∀ fl σ,M fl σ->Q fl σ) (h:SSs n st ρ σ M):SSs n st ρ σ Q:=fun c g s x hc I=>wpAny_mono (h c g s x hc I) (fun _ _ p=>p.mono hm) fun _ _ h=>h
noncomputable def andThen (n:Nat) (r:S) (Q:Fl->Ab->Prop) (fl:Fl) (σ:Ab):Prop:=match fl with | .next ρ=>SSs n r ρ σ Q | .ret v=>Q (.ret v) σ
theorem SSs.nil (h:Q (.next ρ) σ):SSs n .nil ρ σ Q:=fun c g s xs hc I=>by
 obtain rfl:xs=[]:=hc
 exact wpAny_execs_nil fun R_ k1 _=>k1 ρ σ g h (.refl _ _) I
theorem SSs.cons (h:SS n st ρ σ (andThen n r Q)):SSs n (.cons st r) ρ σ Q:=fun c g s xs hc I=>hc (fun xs=>c.wp (execs xs c.env) (Bu n c g Q) s) fun x l h1 h2=>by
 rw [execs_cons]
 refine wpAny_bind (wpAny_mono (h c g s x h1 I) (fun f s₁ p=>p.elim (fun ρ1 σ₁ g₁ e q le I1=>?_) fun v x σ₁ g₁ e q le H w r=>?_) fun _ _ h=>h)
 ·subst e
  exact wpAny_mono (q c g₁ s₁ l h2 I1) (fun _ _ p=>p.after le) fun _ _ h=>h
 ·subst e
  exact wpAny_pure fun R_ _ k2=>k2 v x σ₁ g₁ q le H w r
theorem SS.ite {t:Bool} {p q:S} (h:ST n e ρ σ t σ₁) (h1:t=true->SSs n p ρ σ₁ Q) (h2:t=false->SSs n q ρ σ₁ Q):SS n (.ite e p q) ρ σ Q:=fun c g s x hc I=>hc (fun x=>c.wp (exec x c.env) (Bu n c g Q) s) fun ex xs ys pos c1 c2 c3=>by
 refine wpAny_If (wpAny_mono (h c g s ex c1 I) (fun b s₁ p=>p _ fun g₁ le a₁ e₁=>?_) fun _ _ h=>h)
 subst e₁
 cases b with
 | true=>exact wpAny_mono (h1 rfl c g₁ s₁ xs c2 (I.step le a₁)) (fun _ _ p=>p.after le.toO) fun _ _ h=>h
 | false=>exact wpAny_mono (h2 rfl c g₁ s₁ ys c3 (I.step le a₁)) (fun _ _ p=>p.after le.toO) fun _ _ h=>h
noncomputable def WhQ (n:Nat) (e:E) (b:S) (Q:Fl->Ab->Prop):Nat->Af->Ab->Prop
 | 0,_,_=>False
 | k+1,ρ,σ=>∃ t σ₁,ST n e ρ σ t σ₁/\(t=false->Q (.next ρ) σ₁)/\(t=true->SSs n b ρ σ₁ fun fl σ'=>match fl with | .next ρ'=>WhQ n e b Q k ρ' σ' | .ret v=>Q (.ret v) σ')
theorem SS.while_ {k:Nat} (h:WhQ n e r Q k ρ σ):SS n (.while_ e r) ρ σ Q:=fun c g s x hc I=>hc (fun x=>c.wp (exec x c.env) (Bu n c g Q) s) fun t bd p h1 h4=>by
 refine wpAny_While (codeAny_whileLoop (I:=fun k s'=>∀ R_:Prop,(∀ ρ σ g',WhQ n e r Q k ρ σ->G.le c.own g g'->Inv n c ρ g' σ s'->R_)->R_) (fun k s3 hz=>hz _ fun ρ3 σ3 g3 w le3 I3=>?_) k fun R_ kk=>kk ρ σ g h (.refl _ _) I)
 cases k with
 | zero=>exact w.elim
 | succ k =>
  obtain ⟨q,σ4,w1,w2,w3⟩:=w
  refine wpAny_mono (w1 c g3 s3 t h1 I3) (fun b s4 p=>p _ fun g4 le4 a4 e4=>?_) fun _ _ h=>h.elim
  subst e4
  have I4:=I3.step le4 a4
  have le:=le3.trans (le4.toO (own:=c.own))
  cases b with
  | false=>exact wpAny_execs_nil fun R_ k1 _=>k1 ρ3 σ4 g4 (w2 rfl) le I4
  | true =>
   refine wpAny_mono (w3 rfl c g4 s4 bd h4 I4) (fun f s5 p=>p.elim (fun ρ5 σ5 g5 e5 q l5 I5=>?_) fun v x σ5 g5 e5 q l5 H w r5=>?_) fun _ _ h=>h.elim
   ·subst e5
    exact ⟨k,Nat.lt_succ_self k,fun R_ kk=>kk ρ5 σ5 g5 q (le.trans l5) I5⟩
   ·subst e5
    exact fun R_ _ k2=>k2 v x σ5 g5 q (le.trans l5) H w r5
noncomputable def PrS (x y z:V) (σ σ':Ab):Prop :=
 ∀ (r:Ar) (g:G) (s:Shared) (X Y Z:Value),At 0 r g σ s->An r.T g x X->An r.T g y Y->An r.T g z Z->r.wp (setItem X Y Z) (fun _ s'=>Has r.T g σ' s') s
theorem set_arm {oe ie ve:Expr} {p p':Pos} {env:Env} (h:∀ t l,swapsWith ve t l env=pure false):exec (.Assign [.Subscript oe ie p] ve p') env=(standAt p'>>=fun _=>eval ve env>>=fun Z=>assign (.Subscript oe ie p) env Z>>=fun _=>pure Flow.next):=by
 rw [arm_exec_Assign]
 show (standAt p'>>=fun _=>swapsWith ve (some (.Subscript oe ie p)) p'.line env>>=_)=_
 rw [h]
 rfl
theorem SS.set (hp:B3 d=false) (hz:SE n d ρ σ z σ₁) (hx:SE n a ρ σ₁ x σ2) (hy:SE n b ρ σ2 y σ3) (h:PrS x y z σ3 σ') (hq:Q (.next ρ) σ'):SS n (.set a b d) ρ σ Q:=fun c g s st hc I=>hc (fun st=>c.wp (exec st c.env) (Bu n c g Q) s) fun oe ie p ve p' h1 h2 h3=>by
 refine AU (set_arm fun t l=>EK d hp h1 t l c.env) (wpAny_bind (wpAny_standAt (Bw hz h1 I fun Z g₁ s₁ le1 I1 r1=>?_)))
 rw [arm_assign_Subscript]
 refine wpAny_bind (wpAny_bind (wpAny_holding (wpAny_mono (hx c g₁ s₁ oe h2 I1) (fun X s2 p=>p _ fun g2 le2 a₂ r2=>?_) fun _ _ h=>h)))
 have I2:=I1.step le2 a₂
 refine wpAny_bind (wpAny_holding (wpAny_mono (hy c g2 s2 ie h3 I2) (fun Y s3 p=>p _ fun g3 le3 a3 r3=>?_) fun _ _ h=>h))
 have I3:=I2.step le3 a3
 refine wpAny_bind (wpAny_standAt (wpAny_bind (wpAny_holding (wpAny_mono (h c.toAr g3 s3 X Y Z I3.at0 (An.mono le3.toup _ _ r2) r3 (An.mono (le2.trans le3).toup _ _ r1)) (fun _ s4 a4=>wpAny_release (wpAny_pure ?_)) fun _ _ h=>h))))
 exact fun R_ k1 _=>k1 ρ σ' g3 hq (le1.trans (le2.trans le3)).toO (I3.step (.refl _ _) a4)
end
end Mine
namespace Mine
open PySem PySem.Calls
section
variable {T:Top} {A:Around} {s:Shared} {g:G} {Er:Value->Shared->Prop}
theorem setItem_plain {l:Addr} {items:Array Value} {m:Nat} {k:Int} {t:Tok} {v:Value} {Q:Unit->Shared->Prop} (ho:s.heap.get? l=some { cls:=.type "list",dict:=none,data:=.seq items m,slots:=#[] }) (h0:0<=k) (hfit:k < 2 ^ 63) (hn:k < items.size)
 (hQ:∀ h' m',h'.get? l=some { cls:=.type "list",dict:=none,data:=.seq (items.setIfInBounds k.toNat v) m',slots:=#[] } -> Heap.SameBut l s.heap h'->Q () { s with heap:=h' }):wpAny (model T.prog T.w) A (setItem (.ref l) (.int k t) v) Q Er s:=by
 have hT:s.TypeIs (.ref l) "list" := ⟨_,ho,rfl⟩
 unfold setItem
 refine wpAny_holding (wpAny_bind (wpAny_sequenceKey hT (by decide) (wpAny_bind (wpAny_callSpecial?_slot (name:=Str.ofString "__setitem__") hT slot_list_setitem (wpAny_call_entry slot_list_setitem hT entry_list_setitem ?_ (args_list_setitem _ _ _))))))
 show wpAny _ _ (Builtin.List.listSubscript? (.int k t)>>=_) _ _ s
 refine wpAny_bind (wpAny_listSubscript_int (fitsIndex_of h0 hfit) ?_)
 clear hfit
 obtain ⟨j,rfl⟩:=Int.eq_ofNat_of_zero_le h0
 have hj:j < items.size:=Int.ofNat_lt.mp hn
 show wpAny _ _ ((seqItemAt l j>>=fun r=>pure (r.map (j,·)))>>=_) _ _ s
 refine wpAny_bind (wpAny_bind (wpAny_seqItemAt ho rfl (wpAny_pure ?_)))
 rw [Array.getElem?_eq_getElem hj]
 show wpAny _ _ (setSeqItemAt l j v>>=_) _ _ s
 refine wpAny_bind (wpAny_setSeqItemAt ho rfl ?_)
 have e:=Heap.get?_update_self (Obj.mapSeq (·.setIfInBounds j v)) ho rfl
 exact wpAny_bind (wpAny_pure (wpAny_pure ⟨.none,rfl,wpAny_pure (hQ _ _ e (Heap.SameBut.update ..))⟩))
end
section
variable {n:Nat} {c:Cx} {ρ ρ':Af} {g g' g₁:G} {σ σ' σ₁ σ2 σ3:Ab} {s s':Shared} {v x y z:V} {e a b d:E} {Q M:Fl->Ab->Prop} {ws vs:List V} {xs:List Nat} {k:Nat} {kvs:List (Str×PyData)} {kvp:List ((Str×Int)×PyData)} {w:Str} {q:Str×Int} {dd:PyData}
theorem s_list {i:Int} (hσ:σ[k]? = some (.list ws)) (h0:0<=i) (hi:i < ws.length):PrS (.ref k) (vi i) z σ (σ.set k (.list (ws.set i.toNat z))):=fun r g s X Y Z A hx hy hz=>by
 obtain ⟨l,hk,rfl⟩:=hx
 obtain ⟨t,rfl⟩:=hy
 refine A.has.lst hk hσ fun xs m ho hr hn hl=>setItem_plain ho h0 (Int.lt_trans hi (Int.ofNat_lt.mpr (DU hl))) (hn▸hi) fun h' m' ho' hs=>?_
 exact A.has.relst hk (fun b x hb e=>(hs.2 b hb).trans e) ho' (by rw [Array.toList_setIfInBounds]; exact hr.set _ hz) (by rw [List.length_set]; exact hl)
theorem len_of {α β:Type} {R:α->β->Prop} {as:List α} {bs:List β} (h:Au R as bs) (hl:as.length < line):bs.length<=sizeLine:=by rw [<-h.length,<-AQ]; exact Nat.le_of_lt hl
theorem s_dictS (hσ:σ[k]? = some (.dictS kvs)) (hl:kvs.length < line):PrS (.ref k) (.d (.str w)) (.d dd) σ (σ.set k (.dictS (BD kvs w dd))):=fun r g s X Y Z A hx hy hz=>by
 obtain ⟨l,hk,rfl⟩:=hx
 obtain ⟨t,rfl,_⟩:=hy
 refine A.has.dictS hk hσ fun ws hD hr=>wpAny_setItem_pairs (k:=w) (strKind_is _ _ w t) hD (fun h' hD' hs=>?_) (len_of hr hl)
 obtain ⟨x,es,ep,hx,ho,hd,hk',hp,hn⟩:=hD'
 refine A.has.turn (ob:=.dictS (BD kvs w dd)) hk (fun b x hb e=>(hs.2 b hb).trans e) hx fun R_ kk=>kk es ep _ ho hd hk' hp hn ?_ (Nat.le_trans (Ej _ _ _) hl)
 have h:=put_rep (f:=id) (key:=fun w:Str×Value=>w.1) (d:=dd) (w₀:=(w,Z)) (up:=fun p=>(p.1,Z)) (fun _ _ h=>h) (fun _ _ h=>h.1) (k:=w) ⟨rfl,hz⟩ (fun p w h e=>⟨h.1,hz⟩) hr
 rw [<-any_find] at h
 exact h
theorem s_dictP (hσ:σ[k]? = some (.dictP kvp)) (hl:kvp.length < line):PrS (.ref k) (vp q) (.d dd) σ (σ.set k (.dictP (BD kvp q dd))):=fun r g s X Y Z A hx hy hz=>by
 obtain ⟨l,hk,rfl⟩:=hx
 refine G9 hy (R_:=fun Y=>r.wp (setItem (.ref l) Y Z) (fun _ s'=>Has r.T g (σ.set k (.dictP (BD kvp q dd))) s') s) fun b hb=>A.has.dictP hk hσ fun ws hD hr=>wpAny_setItem_heap (knd:=tupleKind (BH r.T.prog r.T.w)) (Nat.lt_of_le_of_lt (Nat.le_add_right _ 40) A.room) (DO A.has hb) hD (fun h' hD' hs=>?_) (len_of hr hl)
 obtain ⟨x,es,ep,hx,ho,hd,he,_,hn⟩:=hD'
 refine A.has.turn (ob:=.dictP (BD kvp q dd)) hk (fun b x hb e=>(hs.2 b hb).trans e) hx fun R_ kk=>kk es ep _ ho hd he hn ?_ (Nat.le_trans (Ej _ _ _) hl)
 have h:=put_rep (f:=Fb) (key:=fun w:List (Str ⊕ Int)×Addr×Value=>w.1) (d:=dd) (w₀:=(Fb q,b,Z)) (up:=fun p=>(p.1,p.2.1,Z)) keyP_inj (fun _ _ h=>h.1) (k:=q) ⟨rfl,hb,hz⟩ (fun p w h e=>⟨h.1,h.2.1,hz⟩) hr
 unfold storedH atKey
 rw [Option.isSome_map]
 exact h
end
end Mine
namespace Mine
open PySem PySem.Calls
section
variable {n:Nat} {c:Cx} {ρ ρ':Af} {g g' g₁:G} {σ σ' σ₁ σ2 σ3:Ab} {s s':Shared} {v x y z:V} {e a b d:E} {Q M:Fl->Ab->Prop} {ws vs:List V} {xs:List Nat} {k:Nat}
theorem dct_is {ob:O} (h:∀ (T:Top) (g:G),D0 T g ob { cls:=.type "dict",data:=.dict #[] }):SE n .dct ρ σ (.ref σ.length) (σ++[ob]):=fun c g s ex hc I=>hc (fun ex=>c.wp (eval ex c.env) (Ans c.toAr g (.ref σ.length) (σ++[ob])) s) fun p=>wpAny_Dict_empty
 (.mk (g.add s.heap.objs.size) .add ((I.has.free (Bl _)).add (ob:=ob) (I.has.keep fun b o e=>Heap.get?_push_of_some _ e) (Heap.get?_push_size _ rfl) (h _ _)) ⟨_,I.has.addAt,rfl⟩)
theorem SE.dctS:SE n .dct ρ σ (.ref σ.length) (σ++[.dictS []]):=dct_is fun T g R_ k=>by
 obtain ⟨o,es,ep,h1,h2,h3,h4,h5,h6⟩:=Heap.DictOf.new (knd:=strKind T.prog T.w) {}
 rw [Heap.get?_push_size _ rfl] at h1
 rw [<-Option.some.inj h1] at h2 h3
 exact k es ep [] h2 h3 h4 h5 h6 trivial (Nat.zero_le _)
theorem SE.dctP:SE n .dct ρ σ (.ref σ.length) (σ++[.dictP []]):=dct_is fun T g R_ k=>k #[] _ [] ⟨rfl,rfl,rfl⟩ rfl rfl List.nodup_nil trivial (Nat.zero_le _)
theorem wv_rep {T:Top} {us:List (PyData ⊕ Nat)}:∀ {Xs:List Value},Am T g (us.map wv) Xs->Au (Gf g) us Xs:=by
 induction us with
 | nil=>intro Xs h; rw [h.nil]; exact trivial
 | cons u us ih =>
  intro Xs h
  obtain ⟨X,Xs,rfl,h1,h2⟩:=h.cons
  exact ⟨by cases u <;> exact h1,ih h2⟩
theorem SE.tupR {us:List (PyData ⊕ Nat)} (h:SEs n a ρ σ (us.map wv) σ₁) (hl:us.length<=line):SE n (.tup a) ρ σ (.tup us) σ₁:=fun c g s ex hc I=>hc (fun ex=>c.wp (eval ex c.env) (Ans c.toAr g (.tup us) σ₁) s) fun vs k p hc=>AU (arm_eval_Tuple ..) (wpAny_bind (wpAny_standAt
 (B0 (h c g s vs p hc I) fun xs g₁ s₁ le a₁ r1=>wpAny_newTuple (by
  have F:=a₁.free (Bl _)
  have up:=(G.le.put (own:=[]) (o:={ cls:=.type "tuple",data:=.seq xs.toArray }) F.fz).toup
  exact .mk (g₁.put s₁.heap.objs.size _) (le.trans (.put F.fz)) (F.put (a₁.keep fun b o e=>Heap.get?_push_of_some _ e) (Heap.get?_push_size _ rfl)) fun R_ k=>k _ _ xs.toArray _ G.put_self rfl rfl (by rw [List.toList_toArray]; exact (wv_rep r1).mono (Gf.mono up)) hl) (by rw [<-r1.length,<-AQ,List.length_map]; exact hl))))
theorem SE.fcall {f:Nat} (h:SEs n a ρ σ vs σ₁) (hf:FN n f vs σ₁ v σ2):SE n (.fcall f a) ρ σ v σ2:=fun c g s ex hc I=>hc (fun ex=>c.wp (eval ex c.env) (Ans c.toAr g v σ2) s) fun nm np es p h1 h2=>by
 refine PyProof.Rows.Call_Name rfl (C9 I h1 fun x hv=>?_)
 obtain ⟨l,hl,rfl⟩:=hv
 obtain ⟨o,fd,ho,hd⟩:=I.cx.rd.fnob f l hl
 refine callWith_function (o:=o) (fd:=fd) (Dg (r:=c.toAr) h2 (wpAny_mono (h c g s es p h2 I) (fun Xs s₁ p=>p _ fun g₁ le a₁ r1=>?_) fun _ _ h=>h))
 have I1:=I.step le a₁
 exact ⟨⟨I1.base _ _ ho,hd⟩,Bv (r:=c.toAr) le (hf c.toAr g₁ s₁ l Xs hl I1.toAt r1)⟩
theorem unp_arm {ts:List Expr} {k:Nat} {p p':Pos} {ve:Expr} {env:Env} (h:∀ t l,swapsWith ve t l env=pure false) (h':swappedStores [.Tuple ts k p] ve env=pure none):exec (.Assign [.Tuple ts k p] ve p') env=(standAt p'>>=fun _=>eval ve env>>=fun Z=>assign (.Tuple ts k p) env Z>>=fun _=>pure Flow.next):=by
 rw [arm_exec_Assign]
 show (standAt p'>>=fun _=>swapsWith ve (some (.Tuple ts k p)) p'.line env>>=_)=_
 rw [h]
 show (standAt p'>>=fun _=>eval ve env>>=fun Z=>swappedStores [.Tuple ts k p] ve env>>=_)=_
 rw [h']
 rfl
theorem SS.unp (hp:B3 e=false) (hs:∀ {K:Kx} {ex:Expr},IsE e K ex->∀ ts k p env,swappedStores [.Tuple ts k p] ex env=pure none) (h:SE n e ρ σ v σ₁) (hv:BL v=some vs) (hl:vs.length=xs.length) (hq:Q (.next (Db ρ xs vs)) σ₁):SS n (.unp xs e) ρ σ Q:=fun c g s x hc I=>hc (fun x=>c.wp (exec x c.env) (Bu n c g Q) s) fun ts k p ve p' h1 h2=>by
 refine AU (unp_arm (fun t l=>EK e hp h2 t l c.env) (hs h2 _ _ _ _)) (wpAny_bind (wpAny_standAt (Bw h h2 I fun X g₁ s₁ le I1 r1=>?_)))
 exact Ce I1.has r1 hv (R_:=fun X=>c.wp (assign (.Tuple ts k p) c.env X>>=fun _=>pure Flow.next) (Bu n c g Q) s₁) fun t Xs hT hr _ _=>wpAny_bind (I1.unpack h1 hT hr hl fun g2 s2 le2 I2=>wpAny_pure fun R_ k1 _=>k1 _ σ₁ g2 hq (le.toO.trans le2) I2)
end
end Mine
namespace Mine
open PySem PySem.Calls
noncomputable def BT (σ:Ab) (kps:List (Nat×List V)):Prop:=∀ k ws,(k,ws)∈kps->σ[k]? = some (.list ws)
noncomputable def ItS (T:Top) (b:Bool) (kps:List (Nat×List V)) (its:List Addr) (a:Addr):List V->G->Prop
 | [],g₀=>(∀ c,c∈its->g₀.hid c≠none)/\∀ (r:Ar) (g:G) (σ:Ab) (s:Shared),r.T=T->At 0 r g σ s->G.up g₀ g->(∀ c,c∈its->g.hid c=g₀.hid c)->BT σ kps->∀ Q:Option Value->Shared->Prop,
  (∀ h',(∀ c o,c∉its->s.heap.get? c=some o->h'.get? c=some o)->Q none { s with heap:=h' })->r.wp (pyNext (.ref a)) Q s
 | v::vs,g₀=>(∀ c,c∈its->g₀.hid c≠none)/\∀ (r:Ar) (g:G) (σ:Ab) (s:Shared),r.T=T->At 0 r g σ s->G.up g₀ g->(∀ c,c∈its->g.hid c=g₀.hid c)->BT σ kps->∀ (t:Expr) (Q:Option Value->Shared->Prop),(b=true->∃ es k p,t=.Tuple es k p) ->
  (∀ X s₁,(∀ Q':Unit->Shared->Prop,(∀ g' s',G.le its g g'->Has r.T g' σ s'->An r.T g' v X->ItS T b kps its a vs g'->Q' () s')->r.wp (letOwnedTupleGo t (.ref a) X) Q' s₁)->Q (some X) s₁)->r.wp (pyNext (.ref a)) Q s
noncomputable def Lsrc (T:Top) (kps:List (Nat×List V)) (l:Addr) (ws:List V) (g₀:G):Prop:=∀ (g:G) (σ:Ab) (s:Shared),Has T g σ s->G.up g₀ g->BT σ kps->∀ R_:Prop,(∀ xs,s.heap.IsList l xs->Am T g ws xs.toList->R_)->R_
section
variable {n:Nat} {T:Top} {r:Ar} {c:Cx} {ρ ρ':Af} {g g' g₁:G} {σ σ' σ₁ σ2 σ3:Ab} {s s':Shared} {v x y z:V} {e a b d:E} {ws vs:List V} {kps:List (Nat×List V)} {its:List Addr} {it l:Addr} {q:Bool} {prog:Program} {w:World} {A:Around} {E:Value->Shared->Prop}
theorem ItS.mono (up:G.up g g') (hd:∀ c,c∈its->g'.hid c=g.hid c) (h:ItS T q kps its it vs g):ItS T q kps its it vs g':=by
 cases vs with
 | nil=>exact ⟨fun c hc=>(hd c hc).symm▸h.1 c hc,fun r g2 σ s hT A up' hd'=>h.2 r g2 σ s hT A (up.trans up') fun c hc=>(hd' c hc).trans (hd c hc)⟩
 | cons v vs=>exact ⟨fun c hc=>(hd c hc).symm▸h.1 c hc,fun r g2 σ s hT A up' hd'=>h.2 r g2 σ s hT A (up.trans up') fun c hc=>(hd' c hc).trans (hd c hc)⟩
theorem ItS.at (h:ItS T q kps its it vs g):∀ c,c∈its->g.hid c≠none:=by cases vs with | nil=>exact h.1 | cons v vs=>exact h.1
theorem AA {o:Obj} {a:Addr} (h:g.hid a=some o):g.hid a≠none:=fun q=>Aq q h
theorem A8 {P:Addr->Prop} (h:P it):∀ c,c∈[it]->P c:=fun c hc=>List.mem_singleton.mp hc▸h
theorem Lsrc.frozen {o:Obj} {xs:Array Value} {m:Nat} (hf:g.fz l=some o) (hc:o.cls=.type "list") (hd:o.data=.seq xs m) (hr:Am T g ws xs.toList):Lsrc T [] l ws g:=fun g' σ s H up _ R_ k=>k xs ⟨o,H.fz _ _ (up.fz _ _ hf),hc,m,hd⟩ (Am.mono up hr)
theorem Lsrc.tracked {k:Nat} (hk:g.mu[k]? = some l):Lsrc T [(k,ws)] l ws g:=fun g' σ s H up hq R_ kk=>H.lst (up.mu _ _ hk) (hq k ws (List.mem_singleton.mpr rfl)) fun xs m ho hr _ _=>kk xs ⟨_,ho,rfl,m,rfl⟩ hr
theorem no_rule {b c:Bool} {x y:Sem Unit} {Q:Unit->Shared->Prop} (hb:b=false) (h:wpAny (model prog w) A y Q E s):wpAny (model prog w) A (if (b&&c)=true then x else y) Q E s:=by
 rw [hb,Bool.false_and,if_neg Bool.false_ne_true]; exact h
theorem letOwned_plain {target:Expr} {a:Addr} {o:Obj} {n:String} {v:Value} {Q:Unit->Shared->Prop} (ho:s.heap.get? a=some o) (hc:o.cls=.type n)
 (hn:["enumerate","zip","dict_itemiterator","dict_reverseitemiterator","odict_iterator","itertools.zip_longest","itertools.pairwise"].contains n=false) (h:Q () s) :
 wpAny (model prog w) A (letOwnedTupleGo target (.ref a) v) Q E s:=by
 have key:∀ v:Addr,wpAny (model prog w) A (letOwnedTupleGo (.List [] default) (.ref a) (.ref v)) Q E s:=fun v=>by
  refine wpAny_bind (wpAny_load ho ?_)
  rw [hc]
  cases o.data <;> first
   | exact wpAny_pure h
   | exact no_rule hn (wpAny_pure h)
 have key2:wpAny (model prog w) A (letOwnedTupleGo (.List [] default) (.ref a) v) Q E s:=by
  cases v <;> first | exact wpAny_pure h | exact key _
 cases target <;> first | exact wpAny_pure h | exact key2
theorem it_step {o o':Obj} {nm:String} {t:Expr} {X:Value} {Q':Unit->Shared->Prop} (A:At 0 r g σ s) (e:g.hid it=some o) (hs:Heap.SameBut it s.heap s'.heap) (ho:s'.heap.get? it=some o') (hc:o'.cls=.type nm)
 (hn:["enumerate","zip","dict_itemiterator","dict_reverseitemiterator","odict_iterator","itertools.zip_longest","itertools.pairwise"].contains nm=false) (hg:s'.gens=s.gens) (hos:s'.os=s.os)
 (k:∀ g' s',G.le [it] g g'->G.up g g'->g'.hid it=some o'->Has r.T g' σ s'->Q' () s'):r.wp (letOwnedTupleGo t (.ref it) X) Q' s' :=
 letOwned_plain ho hc hn (k (g.hide it o') s' (.hide (.head _)) ⟨fun _ _ e=>e,fun _ _ e=>e⟩ G.hide_self (A.has.rehide e (fun b x q e=>(hs.2 b q).trans e) ho hg hos))
theorem CI {α:Type} {xs:List α} {i:Nat} {x:α} {r:List α} (h:xs.drop i=x::r):xs[i]? = some x/\xs.drop (i+1)=r:=by
 have h1:=congrArg List.head? h
 have h2:=congrArg List.tail h
 rw [List.head?_drop] at h1
 rw [List.tail_drop] at h2
 exact ⟨h1,h2⟩
theorem it_list (hL:Lsrc T kps l ws g):∀ {i:Nat} {g₀:G} {o:Obj},ws.drop i=vs->G.up g g₀->g₀.hid it=some o->o.cls=.type "list_iterator" -> o.data=.fields #[.ref l,.int i 0]->ItS T false kps [it] it vs g₀:=by
 induction vs with
 | nil =>
  intro i g₀ o hv up0 e hc hd
  refine ⟨A8 (AA e),fun r g' σ s hT A up hh hk Q hQ=>?_⟩
  subst hT
  have hit:s.heap.IsListIter it l i:=⟨o,A.has.hd _ _ ((hh it (.head _)).trans e),hc,hd⟩
  refine hL g' σ s A.has (up0.trans up) hk _ fun xs hl hr=>wpAny_pyNext_list_end A.hh hit hl ?_ fun h' he=>hQ h' fun c o hc e=>he c o (fun q=>hc (q▸.head _)) e
  exact Array.getElem?_eq_none (by rw [<-Array.length_toList,<-hr.length]; exact List.drop_eq_nil_iff.mp hv)
 | cons v vs ih =>
  intro i g₀ o hv up0 e hc hd
  refine ⟨A8 (AA e),fun r g' σ s hT A up hh hk t Q ht hQ=>?_⟩
  subst hT
  have e':=(hh it (.head _)).trans e
  have hit:s.heap.IsListIter it l i:=⟨o,A.has.hd _ _ e',hc,hd⟩
  obtain ⟨q1,q2⟩:=CI hv
  refine hL g' σ s A.has (up0.trans up) hk _ fun xs hl hr=>?_
  obtain ⟨X,hX,rX⟩:=hr.get q1
  refine wpAny_pyNext_list_item hit hl (Array.getElem?_toList.symm.trans hX) fun h' it' hs=>hQ X _ fun Q' k=>?_
  obtain ⟨o',ho',hc',hd'⟩:=it'
  exact it_step (s':={ s with heap:=h' }) A e' hs ho' hc' (by decide) rfl rfl fun g2 s2 le up2 e2 H=>k g2 s2 le H (An.mono up2 _ _ rX) (ih q2 (up0.trans (up.trans up2)) e2 hc' hd')
end
end Mine
namespace Mine
open PySem PySem.Calls
noncomputable def upV (lo:Int):Nat->List V
 | 0=>[]
 | n+1=>.d (.int lo)::upV (lo+1) n
noncomputable def Go (k:Nat):List PyData->List V
 | []=>[]
 | x::xs=>.d (.tuple [.int k,x])::Go (k+1) xs
noncomputable def zp (x y:V):V:=match x with | .d a=>(match y with | .d b=>.d (.tuple [a,b]) | y=>.pr (.d a) y) | x=>.pr x y
noncomputable def E0:List V->List V->List V
 | x::xs,y::ys=>zp x y::E0 xs ys
 | _,_=>[]
noncomputable def E4:List Nat->List V
 | []=>[]
 | c::r=>.d (.str (chr1 c))::E4 r
section
variable {n:Nat} {T:Top} {r:Ar} {c:Cx} {ρ ρ':Af} {g g' g₁:G} {σ σ' σ₁ σ2 σ3:Ab} {s s':Shared} {v x y z:V} {e a b d:E} {ws vs:List V} {kps:List (Nat×List V)} {its:List Addr} {it l:Addr} {q:Bool}
theorem Has.away (H:Has T g σ s) (hi:∀ c,c∈its->g.hid c≠none) (c:Addr) (hc:c∈its):g.fz c=none/\c∉g.mu/\∀ q,(c,q)∉T.tabs:=by
 cases e:g.hid c with
 | none=>exact absurd e (hi c hc)
 | some o=>exact ⟨(H.ah c o e).1,(H.ah c o e).2,H.hidTab e⟩
theorem Has.rehL (H:Has T g σ s) (hi:∀ c,c∈its->g.hid c≠none) (k:∀ c o,c∉its->s.heap.get? c=some o->s'.heap.get? c=some o) (hg:s'.gens=s.gens:=by rfl) (ho:s'.os=s.os:=by rfl):Has T ⟨g.fz,fun c=>if c∈its then s'.heap.get? c else g.hid c,g.mu⟩ σ s':=by
 have it:=H.away hi
 refine H.re _ (fun a o e=>?_) (fun b o e e'=>k b o (fun q=>Aq (it b q).1 e) e') (fun b o e e'=>k b o (fun q=>(it b q).2.1 e) e') (fun t q o m e=>k t o (fun h=>(it t h).2.2 q m) e) hg ho
 by_cases q:a∈its
 ·rw [if_pos q] at e; exact ⟨e,it a q⟩
 ·rw [if_neg q] at e; exact ⟨k a o q (H.hd a o e),(H.ah a o e).1,(H.ah a o e).2,H.hidTab e⟩
theorem zp_rep {v w:V} {x y X:Value} (hx:An T g v x) (hy:An T g w y) (h:BP g.fz "tuple" X (fun xs=>xs=[x,y]) 2):An T g (zp v w) X:=by
 have k:An T g (.pr v w) X:=BP.mono (fun _ _ e=>e) (fun vs e=>⟨x,y,e,hx,hy⟩) h
 cases v with
 | d a=>cases w with
  | d b=>exact BP.mono (P':=fun vs=>RepDs g.fz [a,b] vs) (fun _ _ e=>e) (fun vs (e:vs=[x,y])=>by rw [e]; exact ⟨hx,hy,trivial⟩) h
  | _=>exact k
 | _=>exact k
theorem pair_step {x y:Value} {v w:V} (H:Has T g σ s) (hi:∀ c,c∈its->g.hid c≠none) (k:∀ c o,c∉its->s.heap.get? c=some o->s'.heap.get? c=some o)
 (pr:s'.heap.get? s.heap.objs.size=some { cls:=.type "tuple",data:=.seq #[x,y] }) (hx:An T g v x) (hy:An T g w y) (hg:s'.gens=s.gens) (ho:s'.os=s.os) {R_:Prop}
 (kk:∀ g',G.le its g g'->G.up g g'->Has T g' σ s'->An T g' (zp v w) (.ref s.heap.objs.size)->(∀ c,c∈its->g'.hid c=s'.heap.get? c)->R_):R_:=by
 have F:=H.free (Bl s.heap)
 have hn:s.heap.objs.size∉its:=fun q=>hi _ q F.hid
 have H1:=H.rehL (s':=s') hi k hg ho
 have F1:DD T ⟨g.fz,fun c=>if c∈its then s'.heap.get? c else g.hid c,g.mu⟩ s.heap.objs.size:=⟨F.fz,(if_neg hn).trans F.hid,F.mu,F.tab⟩
 have up:=(G.le.put (own:=[]) (g:=⟨g.fz,fun c=>if c∈its then s'.heap.get? c else g.hid c,g.mu⟩) (o:={ cls:=.type "tuple",data:=.seq #[x,y] }) F1.fz).toup
 have up':G.up g (G.put ⟨g.fz,fun c=>if c∈its then s'.heap.get? c else g.hid c,g.mu⟩ s.heap.objs.size { cls:=.type "tuple",data:=.seq #[x,y] }):=⟨up.fz,up.mu⟩
 exact kk _ ⟨up',fun c hc=>if_neg hc⟩ up' (F1.put H1 pr) (zp_rep (An.mono up' _ _ hx) (An.mono up' _ _ hy) fun R_ k=>k _ _ #[x,y] _ G.put_self rfl rfl rfl (show 2<=line by decide)) fun c hc=>if_pos hc
theorem it_range:∀ {m:Nat} {lo left:Int} {g₀:G},left.toNat=m->g₀.hid it=some { cls:=.type "range_iterator",dict:=none,data:=.fields #[rawInt lo,rawInt left,rawInt 1],slots:=#[] } -> ItS T false kps [it] it (upV lo m) g₀:=by
 intro m
 induction m with
 | zero =>
  intro lo left g₀ hm e
  refine ⟨A8 (AA e),fun r g' σ s hT A up hh hk Q hQ=>?_⟩
  exact wpAny_pyNext_range_end A.hh (A.has.hd _ _ ((hh it (.head _)).trans e)) (Int.toNat_eq_zero.mp hm) fun h' he=>hQ h' fun c o hc e=>he c o (fun q=>hc (q▸.head _)) e
 | succ m ih =>
  intro lo left g₀ hm e
  refine ⟨A8 (AA e),fun r g' σ s hT A up hh hk t Q ht hQ=>?_⟩
  have e':=(hh it (.head _)).trans e
  refine wpAny_pyNext_range_item (A.has.hd _ _ e') (Int.pos_iff_toNat_pos.mpr (hm▸Nat.succ_pos m)) fun h' it' hs=>hQ _ _ fun Q' k=>?_
  exact it_step (s':={ s with heap:=h',toks:=s.toks+1 }) A e' hs it' rfl (by decide) rfl rfl fun g2 s2 le up2 e2 H=>k g2 s2 le H ⟨_,rfl⟩ (ih (by rw [Int.pred_toNat,hm]; rfl) e2)
theorem it_str {z:Str} {t0:Tok} {ch:List Nat} (ha:z.cps.all (· < 128)=true):∀ {i:Nat} {g₀:G} {o:Obj},z.cps.toList.drop i=ch->g₀.hid it=some o->o.cls=.type "str_ascii_iterator" -> o.data=.fields #[.str z t0,.int i 0]->ItS T false kps [it] it (E4 ch) g₀:=by
 induction ch with
 | nil =>
  intro i g₀ o hv e hc hd
  refine ⟨A8 (AA e),fun r g' σ s hT A up hh hk Q hQ=>?_⟩
  refine wpAny_pyNext_ascii_end A.hh ⟨o,A.has.hd _ _ ((hh it (.head _)).trans e),hc,hd⟩ ?_ fun h' he=>hQ h' fun c o hc e=>he c o (fun q=>hc (q▸.head _)) e
  exact Array.getElem?_eq_none (by rw [<-Array.length_toList]; exact List.drop_eq_nil_iff.mp hv)
 | cons k ch ih =>
  intro i g₀ o hv e hc hd
  refine ⟨A8 (AA e),fun r g' σ s hT A up hh hk t Q ht hQ=>?_⟩
  have e':=(hh it (.head _)).trans e
  obtain ⟨q1,q2⟩:=CI hv
  refine wpAny_pyNext_ascii_item ⟨o,A.has.hd _ _ e',hc,hd⟩ (Array.getElem?_toList.symm.trans q1) fun h' it' hs=>hQ _ _ fun Q' kk=>?_
  obtain ⟨o',ho',hc',hd'⟩:=it'
  exact it_step (s':={ s with heap:=h',toks:=s.toks+1 }) A e' hs ho' hc' (by decide) rfl rfl fun g2 s2 le up2 e2 H=>kk g2 s2 le H ⟨_,rfl,chr1_len k⟩ (ih q2 e2 hc' hd')
theorem nhd {α:Type} {a c:α} {l:List α} (h:c∉a::l):c≠a:=fun q=>h (q▸.head _)
theorem ntl {α:Type} {a c:α} {l:List α} (h:c∉a::l):c∉l:=fun q=>h (.tail _ q)
theorem AR {α:Type} {P:α->Prop}:∀ c,c∈([]:List α)->P c:=fun _ h=>nomatch h
theorem all_cons {α:Type} {P:α->Prop} {a:α} {l:List α} (h:P a) (t:∀ c,c∈l->P c):∀ c,c∈a::l->P c:=fun c q=>(List.mem_cons.mp q).elim (fun e=>e▸h) (t c)
noncomputable abbrev litObj (l:Addr) (i:Nat) (o:Obj):Prop:=o.cls=.type "list_iterator"/\o.data=.fields #[.ref l,.int i 0]
theorem end_of {xs:Array Value} {ds:List PyData} {i:Nat} (hr:Am T g (ds.map .d) xs.toList) (h:ds.drop i=[]):xs[i]? = none:=Array.getElem?_eq_none (by rw [<-Array.length_toList,<-hr.length,List.length_map]; exact List.drop_eq_nil_iff.mp h)
theorem item_of {xs:Array Value} {ds rest:List PyData} {d:PyData} {i:Nat} (hr:Am T g (ds.map .d) xs.toList) (h:ds.drop i=d::rest):∃ X,xs[i]? = some X/\A2 g.fz d X:=by
 obtain ⟨X,hX,rX⟩:=hr.get (k:=i) (a:=.d d) (by rw [List.getElem?_map,(CI h).1]; rfl)
 exact ⟨X,Array.getElem?_toList.symm.trans hX,rX⟩
theorem end_ofV {xs:Array Value} {ds:List V} {i:Nat} (hr:Am T g ds xs.toList) (h:ds.drop i=[]):xs[i]? = none:=Array.getElem?_eq_none (by rw [<-Array.length_toList,<-hr.length]; exact List.drop_eq_nil_iff.mp h)
theorem item_ofV {xs:Array Value} {ds rest:List V} {d:V} {i:Nat} (hr:Am T g ds xs.toList) (h:ds.drop i=d::rest):∃ X,xs[i]? = some X/\An T g d X:=by
 obtain ⟨X,hX,rX⟩:=hr.get (k:=i) (a:=d) (CI h).1
 exact ⟨X,Array.getElem?_toList.symm.trans hX,rX⟩
theorem it_enum {ds rest:List PyData} {ea:Addr} (hL:Lsrc T kps l (ds.map .d) g):∀ {i:Nat} {g₀:G} {o:Obj} {old:Value},ds.drop i=rest->G.up g g₀->ea≠it->g₀.hid ea=some { cls:=.type "enumerate",dict:=none,data:=.fields #[.none,.bool false,.ref it,rawInt i,.none,old],slots:=#[] } -> g₀.hid it=some o->litObj l i o->ItS T true kps [ea,it] ea (Go i rest) g₀:=by
 induction rest with
 | nil =>
  intro i g₀ o old hv up0 ne e1 e2 ho
  refine ⟨all_cons (AA e1) (all_cons (AA e2) AR),fun r g' σ s hT A up hh hk Q hQ=>?_⟩
  subst hT
  have f1:=A.has.hd _ _ ((hh ea (.head _)).trans e1)
  have f2:=A.has.hd _ _ ((hh it (.tail _ (.head _))).trans e2)
  exact hL g' σ s A.has (up0.trans up) hk _ fun xs hl hr=>wpAny_pyNext_enum_end A.hh f1 ⟨o,f2,ho⟩ hl (end_of hr hv) fun h' he=>hQ h' fun c o hc e=>he c o (nhd (ntl hc)) e
 | cons d rest ih =>
  intro i g₀ o old hv up0 ne e1 e2 ho
  refine ⟨all_cons (AA e1) (all_cons (AA e2) AR),fun r g' σ s hT A up hh hk t Q ht hQ=>?_⟩
  subst hT
  have k1:=(hh ea (.head _)).trans e1
  have k2:=(hh it (.tail _ (.head _))).trans e2
  have f1:=A.has.hd _ _ k1
  have f2:=A.has.hd _ _ k2
  refine hL g' σ s A.has (up0.trans up) hk _ fun xs hl hr=>?_
  obtain ⟨X,hX,rX⟩:=item_of hr hv
  refine wpAny_pyNext_enum_item f1 ⟨o,f2,ho⟩ hl hX ne fun h' heo hit' pr hsz hkp=>hQ _ _ fun Q' k=>?_
  obtain ⟨es,cc,p,rfl⟩:=ht rfl
  refine wpAny_letOwnedTupleGo_enum heo fun h'' he'' hs''=>?_
  have nz:s.heap.objs.size≠ea:=fun q=>by have:=Heap.lt_size f1; rw [q] at this; exact Nat.lt_irrefl _ this
  obtain ⟨o',ho',hd'⟩:=hit'
  have ho'':h''.get? it=some o':=(hs''.2 _ (Ne.symm ne)).trans ho'
  refine pair_step (s':={ s with heap:=h'',toks:=s.toks+1 }) (its:=[ea,it]) (v:=.d (.int i)) (w:=.d d) A.has (all_cons (AA k1) (all_cons (AA k2) AR)) (fun c o hc e=>(hs''.2 c (nhd hc)).trans (hkp c o (nhd hc) (nhd (ntl hc)) e)) ((hs''.2 _ nz).trans pr) ⟨_,rfl⟩ rX rfl rfl fun g2 le up2 H R hd=>?_
  exact k g2 _ le H R (ih (CI hv).2 (up0.trans (up.trans up2)) ne ((hd ea (.head _)).trans he'') ((hd it (.tail _ (.head _))).trans ho'') hd')
theorem it_zip {kps':List (Nat×List V)} {ds ds' rest:List V} {za TI TO i1 i2 l1 l2:Addr} (hL1:Lsrc T kps l1 ds g) (hL2:Lsrc T kps' l2 ds' g) (D:ZipApart za TI TO i1 i2 l1 l2):∀ {rest':List V} {j1 j2:Nat} {g₀:G} {o1 o2:Obj} {a b:Value},ds.drop j1=rest->ds'.drop j2=rest'->G.up g g₀ ->
 g₀.hid za=some { cls:=.type "zip",dict:=none,data:=.fields #[.none,.bool false,.bool false,.ref TI,.ref TO],slots:=#[] } -> g₀.hid TI=some { cls:=.type "tuple",data:=.seq #[.ref i1,.ref i2] } -> g₀.hid TO=some { cls:=.type "tuple",data:=.seq #[a,b] } -> g₀.hid i1=some o1->litObj l1 j1 o1->g₀.hid i2=some o2->litObj l2 j2 o2 ->
 ItS T true (kps++kps') [za,TO,i1,i2,TI] za (E0 rest rest') g₀:=by
 have fin:∀ {rest rest':List V} {j1 j2:Nat} {g₀:G} {o1 o2:Obj} {a b:Value},ds.drop j1=rest->ds'.drop j2=rest'->(rest=[]\/rest'=[])->G.up g g₀ ->
  g₀.hid za=some { cls:=.type "zip",dict:=none,data:=.fields #[.none,.bool false,.bool false,.ref TI,.ref TO],slots:=#[] } -> g₀.hid TI=some { cls:=.type "tuple",data:=.seq #[.ref i1,.ref i2] } -> g₀.hid TO=some { cls:=.type "tuple",data:=.seq #[a,b] } -> g₀.hid i1=some o1->litObj l1 j1 o1->g₀.hid i2=some o2->litObj l2 j2 o2 ->
  ItS T true (kps++kps') [za,TO,i1,i2,TI] za [] g₀:=by
  intro rest rest' j1 j2 g₀ o1 o2 a b v1 v2 hend up0 e1 e2 e3 e4 q4 e5 q5
  refine ⟨all_cons (AA e1) (all_cons (AA e3) (all_cons (AA e4) (all_cons (AA e5) (all_cons (AA e2) AR)))),fun r g' σ s hT A up hh hk Q hQ=>?_⟩
  subst hT
  have H:=fun c hc o (e:g₀.hid c=some o)=>A.has.hd c o ((hh c hc).trans e)
  refine hL1 g' σ s A.has (up0.trans up) (fun k ws m=>hk k ws (List.mem_append_left _ m)) _ fun xs hl1 hr1=>hL2 g' σ s A.has (up0.trans up) (fun k ws m=>hk k ws (List.mem_append_right _ m)) _ fun ys hl2 hr2=>?_
  refine wpAny_pyNext_zip_end A.hh D (H za (.head _) _ e1) (H TI (.tail _ (.tail _ (.tail _ (.tail _ (.head _))))) _ e2) (H TO (.tail _ (.head _)) _ e3) ⟨o1,H i1 (.tail _ (.tail _ (.head _))) _ e4,q4⟩ ⟨o2,H i2 (.tail _ (.tail _ (.tail _ (.head _)))) _ e5,q5⟩ hl1 hl2 (hend.imp (fun q=>end_ofV hr1 (v1.trans q)) fun q=>end_ofV hr2 (v2.trans q)) fun h' hkp=>hQ h' fun c o hc e=>hkp c o (nhd hc) (nhd (ntl hc)) (nhd (ntl (ntl hc))) (nhd (ntl (ntl (ntl hc)))) e
 induction rest with
 | nil=>intro rest' j1 j2 g₀ o1 o2 a b v1 v2; exact fin v1 v2 (.inl rfl)
 | cons d rest ih =>
  intro rest' j1 j2 g₀ o1 o2 a b v1 v2 up0 e1 e2 e3 e4 q4 e5 q5
  cases rest' with
  | nil=>exact fin v1 v2 (.inr rfl) up0 e1 e2 e3 e4 q4 e5 q5
  | cons d' rest' =>
  refine ⟨all_cons (AA e1) (all_cons (AA e3) (all_cons (AA e4) (all_cons (AA e5) (all_cons (AA e2) AR)))),fun r g' σ s hT A up hh hk t Q ht hQ=>?_⟩
  subst hT
  have K:=fun c hc o (e:g₀.hid c=some o)=>(hh c hc).trans e
  have m1:=K za (.head _) _ e1
  have m2:=K TO (.tail _ (.head _)) _ e3
  have m3:=K i1 (.tail _ (.tail _ (.head _))) _ e4
  have m4:=K i2 (.tail _ (.tail _ (.tail _ (.head _)))) _ e5
  have m5:=K TI (.tail _ (.tail _ (.tail _ (.tail _ (.head _))))) _ e2
  refine hL1 g' σ s A.has (up0.trans up) (fun k ws m=>hk k ws (List.mem_append_left _ m)) _ fun xs hl1 hr1=>hL2 g' σ s A.has (up0.trans up) (fun k ws m=>hk k ws (List.mem_append_right _ m)) _ fun ys hl2 hr2=>?_
  obtain ⟨X,hX,rX⟩:=item_ofV hr1 v1
  obtain ⟨Y,hY,rY⟩:=item_ofV hr2 v2
  refine wpAny_pyNext_zip_item D (A.has.hd _ _ m1) (A.has.hd _ _ m5) (A.has.hd _ _ m2) ⟨o1,A.has.hd _ _ m3,q4⟩ ⟨o2,A.has.hd _ _ m4,q5⟩ hl1 hl2 hX hY fun h' z' TO' t1' t2' pr hsz hkp=>hQ _ _ fun Q' k=>?_
  obtain ⟨es,cc,p,rfl⟩:=ht rfl
  refine wpAny_letOwnedTupleGo_zip z' fun h'' z'' hs''=>?_
  have nz:s.heap.objs.size≠za:=fun q=>by have:=Heap.lt_size (A.has.hd _ _ m1); rw [q] at this; exact Nat.lt_irrefl _ this
  have kp:∀ c o,c≠za->c≠TO->c≠i1->c≠i2->s.heap.get? c=some o->h''.get? c=some o:=fun c o q1 q2 q3 q4 e=>(hs''.2 c q1).trans (hkp c o q1 q2 q3 q4 e)
  obtain ⟨p1,w1,w2⟩:=t1'
  obtain ⟨p2,w3,w4⟩:=t2'
  refine pair_step (s':={ s with heap:=h'' }) (its:=[za,TO,i1,i2,TI]) A.has (all_cons (AA m1) (all_cons (AA m2) (all_cons (AA m3) (all_cons (AA m4) (all_cons (AA m5) AR))))) (fun c o hc e=>kp c o (nhd hc) (nhd (ntl hc)) (nhd (ntl (ntl hc))) (nhd (ntl (ntl (ntl hc)))) e) ((hs''.2 _ nz).trans pr) rX rY rfl rfl fun g2 le up2 H R hd=>?_
  exact k g2 _ le H R (ih (CI v1).2 (CI v2).2 (up0.trans (up.trans up2)) ((hd za (.head _)).trans z'') ((hd TI (.tail _ (.tail _ (.tail _ (.tail _ (.head _)))))).trans (kp TI _ D.TIz D.TITO D.TIi1 D.TIi2 (A.has.hd _ _ m5))) ((hd TO (.tail _ (.head _))).trans ((hs''.2 _ D.TOz).trans TO')) ((hd i1 (.tail _ (.tail _ (.head _)))).trans ((hs''.2 _ D.i1z).trans w1)) w2 ((hd i2 (.tail _ (.tail _ (.tail _ (.head _))))).trans ((hs''.2 _ D.i2z).trans w3)) w4)
end
end Mine
namespace Mine
open PySem PySem.Calls
noncomputable def Self (its:List Addr) (a:Addr) (g₀:G):Prop:=∀ (r:Ar) (g:G) (σ:Ab) (s:Shared),Has r.T g σ s->(∀ c,c∈its->g.hid c=g₀.hid c)->∀ Q:Value->Shared->Prop,Q (.ref a) s->r.wp (pyIter (.ref a)) Q s
noncomputable def Made (T:Top) (b:Bool) (kps:List (Nat×List V)) (vs:List V) (g:G) (σ':Ab) (x:Value) (s':Shared):Prop :=
 ∀ R_:Value->Prop,(∀ its a g',G.le its g g'->Has T g' σ' s'->(∀ c,c∈its->g.hid c=none)->ItS T b kps its a vs g'->Self its a g'->R_ (.ref a))->R_ x
noncomputable def SI (n:Nat) (e:E) (ρ:Af) (σ:Ab) (vs:List V) (kps:List (Nat×List V)) (σ':Ab):Prop :=
 ∀ (c:Cx) (g:G) (s:Shared) (ex:Expr),IsE e c.K ex->Inv n c ρ g σ s->c.wp (eval ex c.env) (fun x s₁=>c.wp (pyIter x) (Made c.T (BI e) kps vs g σ') s₁) s
noncomputable def CA (v:V) (ws:List V):List (Nat×List V):=match v with | .ref k=>[(k,ws)] | _=>[]
section
variable {n:Nat} {T:Top} {r:Ar} {c:Cx} {ρ ρ':Af} {g g' g₁:G} {σ σ' σ₁ σ2 σ3:Ab} {s s':Shared} {v x y z:V} {e a b d:E} {ws vs:List V} {kps:List (Nat×List V)} {its:List Addr} {it l:Addr} {q:Bool}
theorem Has.newL (H:Has T g σ s) (hn:∀ c,c∈its->s.heap.get? c=none) (k:∀ c o,s.heap.get? c=some o->s'.heap.get? c=some o) (hg:s'.gens=s.gens:=by rfl) (ho:s'.os=s.os:=by rfl):Has T ⟨g.fz,fun c=>if c∈its then s'.heap.get? c else g.hid c,g.mu⟩ σ s':=by
 refine H.re _ (fun a o e=>?_) (fun b o _ e'=>k b o e') (fun b o _ e'=>k b o e') (fun t q o _ e=>k t o e) hg ho
 by_cases q:a∈its
 ·have F:=H.free (hn a q)
  rw [if_pos q] at e; exact ⟨e,F.fz,F.mu,F.tab⟩
 ·rw [if_neg q] at e; exact ⟨k a o (H.hd a o e),(H.ah a o e).1,(H.ah a o e).2,H.hidTab e⟩
theorem Made.new (le:G.le [] g g₁) (H:Has T g₁ σ s) (hn:∀ c,c∈its->s.heap.get? c=none) (k:∀ c o,s.heap.get? c=some o->s'.heap.get? c=some o) (hg:s'.gens=s.gens) (ho:s'.os=s.os) (h:∀ g',G.up g₁ g'->(∀ c,c∈its->g'.hid c=s'.heap.get? c)->ItS T q kps its it vs g'/\Self its it g'):Made T q kps vs g σ (.ref it) s':=fun R_ kk=>by
 have up:G.up g₁ ⟨g₁.fz,fun c=>if c∈its then s'.heap.get? c else g₁.hid c,g₁.mu⟩:=⟨fun _ _ e=>e,fun _ _ e=>e⟩
 have h:=h _ up fun c hc=>if_pos hc
 exact kk its it _ ⟨le.toup.trans up,fun c hc=>(if_neg hc).trans (le.hid c List.not_mem_nil)⟩ (H.newL hn k hg ho) (fun c hc=>(le.hid c List.not_mem_nil)▸(H.free (hn c hc)).hid) h.1 h.2
theorem EY {X:Value} (H:Has T g σ s) (rx:An T g v X) (e:Ax σ v=some ws) {R_:Value->Prop} (k:∀ l xs,s.heap.IsList l xs->Lsrc T (CA v ws) l ws g->R_ (.ref l)):R_ X:=by
 cases v with
 | d y=>cases y with
  | list ds =>
   obtain rfl:=Option.some.inj e
   exact rx R_ fun a o vs m hf hc hd hr hl=>k a vs ⟨o,H.fz _ _ hf,hc,m,hd⟩ (.frozen hf hc hd (Am.ofD hr))
  | _=>exact Ac e
 | ref j =>
  obtain ⟨l,hk,rfl⟩:=rx
  have L:=Lsrc.tracked (T:=T) (ws:=ws) hk
  exact AI (v:=.ref j) H ⟨l,hk,rfl⟩ e (R_:=fun X=>X=.ref l->R_ X) (fun a xs hL hr _ _ q=>k a xs hL (Value.ref.inj q▸L)) rfl
 | _=>exact Ac e
theorem iter_list {xs:Array Value} (le:G.le [] g g₁) (H:Has r.T g₁ σ s) (hL:s.heap.IsList l xs) (L:Lsrc r.T kps l ws g₁):r.wp (pyIter (.ref l)) (Made r.T false kps ws g σ) s :=
 wpAny_pyIter_list hL (.new (its:=[s.heap.objs.size]) le H (A8 (Bl _)) (fun c o e=>Heap.get?_push_of_some _ e) rfl rfl fun g' up hd =>
  have e:=(hd _ (.head _)).trans (Heap.get?_push_size _ rfl)
  ⟨it_list L (i:=0) rfl up e rfl rfl,fun r' g2 σ' s2 H2 hh Q hQ=>wpAny_pyIter_listiter (l:=l) (i:=0) ⟨_,H2.hd _ _ ((hh _ (.head _)).trans e),rfl,rfl⟩ hQ⟩)
theorem SI.lst (h:SE n e ρ σ v σ₁) (hv:Ax σ₁ v=some ws) (hz:BI e=false:=by rfl):SI n e ρ σ ws (CA v ws) σ₁:=fun c g s ex hc I=>by
 rw [hz]
 exact wpAny_mono (h c g s ex hc I) (fun X s₁ p=>p _ fun g₁ le a₁ r1=>EY a₁ r1 hv (R_:=fun X=>c.wp (pyIter X) (Made c.T false (CA v ws) ws g σ₁) s₁) fun l xs hL L=>iter_list (r:=c.toAr) le a₁ hL L) fun _ _ h=>h
theorem SI.str {z:Str} (h:SE n e ρ σ (.d (.str z)) σ₁) (ha:z.cps.all (· < 128)=true) (hz:BI e=false:=by rfl):SI n e ρ σ (E4 z.cps.toList) [] σ₁:=fun c g s ex hc I=>by
 rw [hz]
 refine wpAny_mono (h c g s ex hc I) (fun X s₁ p=>p _ fun g₁ le a₁ r1=>?_) fun _ _ h=>h
 obtain ⟨t,rfl,_⟩:=r1
 exact wpAny_pyIter_ascii ha (.new (its:=[s₁.heap.objs.size]) le a₁ (A8 (Bl _)) (fun c o e=>Heap.get?_push_of_some _ e) rfl rfl fun g' up hd =>
  have e:=(hd _ (.head _)).trans (Heap.get?_push_size _ rfl)
  ⟨it_str ha (i:=0) rfl e rfl rfl,fun r' g2 σ' s2 H2 hh Q hQ=>wpAny_pyIter_striter_ascii (x:=z) (t:=t) (i:=0) ⟨_,H2.hd _ _ ((hh _ (.head _)).trans e),rfl,rfl⟩ hQ⟩)
theorem cls_then {t:String} {Q:Value->Shared->Prop} {ex:Expr} (h:SEs n a ρ σ ws σ₁) (hc:EE (c.K.to (.ty t)) (ED a c.K) ex) (I:Inv n c ρ g σ s) (hx:∀ g₁ s₁ Xs,G.le [] g g₁->Inv n c ρ g₁ σ₁ s₁->Am c.T g₁ ws Xs->c.wp (call (.type t) Xs) Q s₁):c.wp (eval ex c.env) Q s:=by
 refine hc (fun ex=>c.wp (eval ex c.env) Q s) fun nm np vs p h1 h2=>?_
 refine PyProof.Rows.Call_Name rfl (C9 I h1 fun x hv=>?_)
 obtain rfl:x=.type t:=hv
 exact PyProof.Rows.callWith_type (Ck _ _ h2) (Dg (r:=c.toAr) h2 (wpAny_mono (h c g s vs p h2 I) (fun Xs s₁ p=>p _ fun g₁ le a₁ r1=>hx g₁ s₁ Xs le (I.step le a₁) r1) fun _ _ h=>h))
theorem rangeSmall {n:Int} (h1:n<=1000000) (h2:-1000000<=n):Builtin.Range.small 0 n 1=true/\(Builtin.Range.rangeSize 0 n 1).toNat=n.toNat:=by
 refine ⟨small_one (by decide) (by decide) (Int.le_trans (by decide) h2) (Int.lt_of_le_of_lt h1 (by decide)),?_⟩
 rw [rangeSize_one]
 by_cases q:(0:Int) < n
 ·rw [if_pos q,Int.sub_zero]
 ·rw [if_neg q,Int.toNat_eq_zero.mpr (Int.not_lt.mp q)]; rfl
theorem SI.range {k:Int} (h:SEs n a ρ σ [.d (.int k)] σ₁) (h1:k<=1000000) (h2:-1000000<=k):SI n (.range a) ρ σ (upV 0 k.toNat) [] σ₁:=fun c g s ex hc I=>by
 refine cls_then h hc I fun g₁ s₁ Xs le I1 R=>?_
 obtain ⟨X,rfl,t,rfl⟩:=R.one
 obtain ⟨e1,e2⟩:=rangeSmall h1 h2
 refine call_range_1 (wpAny_pyIter_range (Heap.get?_push_size _ rfl) e1 (.new (its:=[_]) le (I1.has.keep (s':={ s₁ with heap:=_,toks:=s₁.toks+1+1 }) fun b o e=>Heap.get?_push_of_some _ e) (A8 (Bl _)) (fun c o e=>Heap.get?_push_of_some _ e) rfl rfl fun g' up hd=>?_))
 have e:=(hd _ (.head _)).trans (Heap.get?_push_size _ rfl)
 exact ⟨it_range e2 e,fun r' g2 σ' s2 H2 hh Q hQ=>wpAny_pyIter_rangeiter (x:=0) (left:=Builtin.Range.rangeSize 0 k 1) (step:=1) (H2.hd _ _ ((hh _ (.head _)).trans e)) hQ⟩
theorem SI.enum {ds:List PyData} (h:SE n a ρ σ v σ₁) (hv:Ax σ₁ v=some (ds.map .d)):SI n (.enum a) ρ σ (Go 0 ds) (CA v (ds.map .d)) σ₁:=fun c g s ex hc I=>by
 refine cls_then (a:=.cons a .nil) (.cons h .nil) hc I fun g₁ s₁ Xs le I1 R=>?_
 obtain ⟨X,rfl,r1⟩:=R.one
 refine EY I1.has r1 hv (R_:=fun X=>c.wp (call (.type "enumerate") [X]) (fun x s₁=>c.wp (pyIter x) (Made c.T true (CA v (ds.map .d)) (Go 0 ds) g σ₁) s₁) s₁) fun l xs hL L=>call_enumerate_list hL fun h' he hi hz hk=>?_
 refine wpAny_pyIter_enum he (.new (its:=[s₁.heap.objs.size+1,s₁.heap.objs.size]) le I1.has (all_cons (Heap.get?_none_of_le (Nat.le_add_right _ 1)) (A8 (Bl _))) hk rfl rfl fun g' up hd=>?_)
 obtain ⟨o,ho,hl⟩:=hi
 have e:=(hd _ (.head _)).trans he
 exact ⟨it_enum L (i:=0) rfl up (Nat.succ_ne_self _) e ((hd _ (.tail _ (.head _))).trans ho) hl,fun r' g2 σ' s2 H2 hh Q hQ=>wpAny_pyIter_enum (H2.hd _ _ ((hh _ (.head _)).trans e)) hQ⟩
theorem add_ne {m i j:Nat} (h:i≠j):m+i≠m+j:=fun q=>h (Nat.add_left_cancel q)
theorem new_ne {h:Heap} {l:Addr} {xs:Array Value} (hL:h.IsList l xs) (j:Nat):l≠h.objs.size+j:=fun q=>by
 obtain ⟨o,ho,_⟩:=hL
 rw [q,Heap.get?_none_of_le (Nat.le_add_right _ j)] at ho
 exact Ac ho
theorem SI.zip {ds ds':List V} (h:SE n a ρ σ x σ₁) (h':SE n b ρ σ₁ y σ2) (hx:Ax σ2 x=some ds) (hy:Ax σ2 y=some ds'):SI n (.zip a b) ρ σ (E0 ds ds') (CA x ds++CA y ds') σ2:=fun c g s ex hc I=>by
 refine cls_then (a:=.cons a (.cons b .nil)) (.cons h (.cons h' .nil)) hc I fun g₁ s₁ Xs le I1 R=>?_
 obtain ⟨X,Y,rfl,r1,r2⟩:=R.two
 refine EY I1.has r1 hx (R_:=fun X=>c.wp (call (.type "zip") [X,Y]) (fun x s₁=>c.wp (pyIter x) (Made c.T true _ (E0 ds ds') g σ2) s₁) s₁) fun l xs hL L=>EY I1.has r2 hy (R_:=fun Y=>c.wp (call (.type "zip") [.ref l,Y]) (fun x s₁=>c.wp (pyIter x) (Made c.T true _ (E0 ds ds') g σ2) s₁) s₁) fun l' ys hL' L'=>call_zip_2 hL hL' fun h' hz hTI hTO t1 t2 hsz hk=>?_
 have gone:∀ j,s₁.heap.get? (s₁.heap.objs.size+j)=none:=fun j=>Heap.get?_none_of_le (Nat.le_add_right _ _)
 refine wpAny_pyIter_zip hz (.new (its:=[s₁.heap.objs.size+4,s₁.heap.objs.size+3,s₁.heap.objs.size,s₁.heap.objs.size+1,s₁.heap.objs.size+2]) le I1.has (all_cons (gone 4) (all_cons (gone 3) (all_cons (gone 0) (all_cons (gone 1) (A8 (gone 2)))))) hk rfl rfl fun g' up hd=>?_)
 have D:ZipApart (s₁.heap.objs.size+4) (s₁.heap.objs.size+2) (s₁.heap.objs.size+3) (s₁.heap.objs.size) (s₁.heap.objs.size+1) l l':=by
  constructor <;> first
   | exact new_ne hL _ | exact new_ne hL 0 | exact new_ne hL' _ | exact new_ne hL' 0 | exact add_ne (by decide) | exact add_ne (j:=0) (by decide) | exact add_ne (i:=0) (by decide)
 obtain ⟨o1,ho1,hl1⟩:=t1
 obtain ⟨o2,ho2,hl2⟩:=t2
 have e:=(hd _ (.head _)).trans hz
 exact ⟨it_zip L L' D (j1:=0) (j2:=0) rfl rfl up e ((hd _ (.tail _ (.tail _ (.tail _ (.tail _ (.head _)))))).trans hTI) ((hd _ (.tail _ (.head _))).trans hTO) ((hd _ (.tail _ (.tail _ (.head _)))).trans ho1) hl1 ((hd _ (.tail _ (.tail _ (.tail _ (.head _))))).trans ho2) hl2,fun r' g2 σ' s2 H2 hh Q hQ=>wpAny_pyIter_zip (H2.hd _ _ ((hh _ (.head _)).trans e)) hQ⟩
end
end Mine
namespace Mine
open PySem PySem.Calls
noncomputable def Cb (ρ:Af) (ts:List Nat) (v:V):Af:=match ts with | [i]=>ρ.set i (some v) | ts=>Db ρ ts ((BL v).getD [])
noncomputable def Ec (ts:List Nat) (v:V):Prop:=ts.length=1\/∃ vs,BL v=some vs/\vs.length=ts.length
noncomputable def ForQ (n:Nat) (ts:List Nat) (b:S) (kps:List (Nat×List V)) (Q:Fl->Ab->Prop):List V->Af->Ab->Prop
 | [],ρ,σ=>BT σ kps/\Q (.next ρ) σ
 | v::vs,ρ,σ=>BT σ kps/\Ec ts v/\SSs n b (Cb ρ ts v) σ fun fl σ'=>match fl with | .next ρ'=>ForQ n ts b kps Q vs ρ' σ' | .ret v=>Q (.ret v) σ'
section
variable {n:Nat} {T:Top} {r:Ar} {c:Cx} {ρ ρ' ρ0:Af} {g g' g₀ g₁:G} {σ σ' σ₁ σ2 σ3:Ab} {s s':Shared} {v x y z:V} {e a b d it:E} {ws vs:List V} {kps:List (Nat×List V)} {its:List Addr} {ts:List Nat} {st:S} {Q:Fl->Ab->Prop}
theorem Loc.far (x0:Loc c ρ0 g₀) (hn:∀ a,a∈its->g₀.hid a=none) (x:Loc c ρ g) (le:G.le its g g'):Loc c ρ g':=by
 have h:∀ {a o},g₀.hid a=some o->g'.hid a=g.hid a:=fun e=>le.hid _ fun q=>Aq (hn _ q) e
 refine ⟨fun R_ k=>x0.ns R_ fun m0 h0 _=>x.ns R_ fun m h1 h2=>?_,fun nm hk R_ k=>x0.ce nm hk R_ fun a₀ u0 q0 q1 _=>x.ce nm hk R_ fun a u h1 h2 h3=>?_,fun a ha q=>?_⟩
 ·obtain ⟨o,_,_,e,_⟩:=h0
  exact k m (h1.to fun _ e'=>(h e).trans e') fun i nm v e1 e2 e3=>BE le.toup (h2 i nm v e1 e2 e3)
 ·obtain ⟨o,e,_⟩:=q1
  obtain rfl:=Av q0 h1
  exact k a₀ u h1 (h2.to fun _ e'=>(h e).trans e') fun i v e1 e2=>BE le.toup (h3 i v e1 e2)
 ·cases e:g₀.hid a with
  | none=>exact x0.ow a ha e
  | some o=>exact x.ow a ha ((h e).symm.trans q)
theorem Inv.far (x0:Loc c ρ0 g₀) (hn:∀ a,a∈its->g₀.hid a=none) (x:Inv n c ρ g σ s) (le:G.le its g g') (H:Has c.T g' σ' s'):Inv n c ρ g' σ' s':=⟨x.toAt.step le.toup H,x.cx,x0.far hn x.loc le⟩
theorem Inv.bind {t:Expr} {X:Value} {Q:Unit->Shared->Prop} {Er:Value->Shared->Prop} (I:Inv n c ρ g σ s) (hc:IsT c.K ts t) (hb:Ec ts v) (r:An c.T g v X) (h:∀ g' s',G.le c.own g g'->Inv n c (Cb ρ ts v) g' σ s'->Q () s'):wpAny (model c.T.prog c.T.w) c.A (assign t c.env X) Q Er s:=by
 refine hc (fun ts t=>Ec ts v->(∀ g' s',G.le c.own g g'->Inv n c (Cb ρ ts v) g' σ s'->Q () s')->wpAny (model c.T.prog c.T.w) c.A (assign t c.env X) Q Er s) (fun i nm p h1 _ h=>I.asgn h1 r fun g' s' le _ I'=>h g' s' le I') (fun es k p h1 h2 hb h=>?_) hb h
 obtain ⟨vs,e,hl⟩:=hb.resolve_left h1
 have eb:Cb ρ ts v=Db ρ ts vs:=by
  match ts,h1 with
  | [],_=>rfl
  | [_],q=>exact absurd rfl q
  | i::j::l,_=>show Db ρ (i::j::l) ((BL v).getD [])=_; rw [e]; rfl
 rw [eb] at h
 exact Ce I.has r e (R_:=fun X=>wpAny (model c.T.prog c.T.w) c.A (assign (.Tuple es k p) c.env X) Q Er s) fun t Xs hT hr _ _=>I.unpack h2 hT hr hl h
theorem is_tup {t:Expr} (hc:IsT c.K ts t) (hz:Gi ts it=true) (h:BI it=true):∃ es k p,t=.Tuple es k p :=
 hc (fun ts t=>Gi ts it=true->∃ es k p,t=.Tuple es k p) (fun i nm p _ hz=>by unfold Gi at hz; rw [if_pos h] at hz; exact absurd hz Bool.false_ne_true) (fun es k p _ _ _=>⟨es,k,p,rfl⟩) hz
theorem SS.for_ (hi:SI n it ρ σ vs kps σ₁) (h:ForQ n ts st kps Q vs ρ σ₁):SS n (.for_ ts it st) ρ σ Q:=fun c g s x hc I=>hc (fun x=>c.wp (exec x c.env) (Bu n c g Q) s) fun t i bd p h1 h2 h3=>by
 refine wpAny_For (wpAny_mono (hi c g s i h2 I) (fun X s₁ h₁=>wpAny_mono h₁ (fun itv s2 p=>?_) fun _ _ h=>h) fun _ _ h=>h) ((B8 it h2).fold c.env)
 refine p (fun itv=>codeAny (model c.T.prog c.T.w) c.A (.forLoop t itv bd [] c.env) _ s2) fun its a g2 le2 H2 new it2 _=>?_
 have ni:∀ a,a∈its->a∉c.own:=fun a q q'=>I.loc.ow a q' (new a q)
 have toI:∀ {g g'},G.le its g g'->G.le (its++c.own) g g':=fun le=>⟨le.toup,fun a q=>le.hid a fun h=>q (List.mem_append_left _ h)⟩
 have toO:∀ {g g'},G.le c.own g g'->G.le (its++c.own) g g':=fun le=>⟨le.toup,fun a q=>le.hid a fun h=>q (List.mem_append_right _ h)⟩
 have mono:∀ {vs g g'},G.le c.own g g'->ItS c.T (BI it) kps its a vs g->ItS c.T (BI it) kps its a vs g':=fun le h=>h.mono le.toup fun c hc=>le.hid c (ni c hc)
 refine codeAny_forLoop_any (I:=fun k s'=>∀ R_:Prop,(∀ vs ρ σ g',k=vs.length->ForQ n ts st kps Q vs ρ σ->G.le (its++c.own) g g'->Inv n c ρ g' σ s'->ItS c.T (BI it) kps its a vs g'->R_)->R_) (fun k s3 hz=>hz _ fun vs ρ3 σ3 g3 hk w le3 I3 it3=>?_) vs.length
  fun R_ kk=>kk vs ρ σ₁ g2 rfl h (toI le2) (I.far I.loc new le2 H2) it2
 subst hk
 cases vs with
 | nil =>
  refine wpAny_mono (it3.2 c.toAr g3 σ3 s3 rfl I3.at0 (.refl _) (fun _ _=>rfl) w.1 (fun r s₁=>r=none/\Bu n c g Q .next s₁) fun h' hk=>⟨rfl,?_⟩) (fun r s₁ h=>by rw [h.1]; exact wpAny_execs_nil h.2) fun _ _ h=>h.elim
  obtain ⟨hd,H,le,e⟩:=I3.has.back (s':={ s3 with heap:=h' }) le3 new hk (I3.has.away it3.1)
  exact fun R_ k1 _=>k1 ρ3 σ3 _ w.2 le (I3.far I.loc new ⟨⟨fun _ _ e=>e,fun _ _ e=>e⟩,e⟩ H)
 | cons v vs =>
  refine wpAny_mono (it3.2 c.toAr g3 σ3 s3 rfl I3.at0 (.refl _) (fun _ _=>rfl) w.1 t (fun r s₁=>∃ X,r=some X/\∀ Q':Unit->Shared->Prop,(∀ g' s',G.le its g3 g'->Has c.T g' σ3 s'->An c.T g' v X->ItS c.T (BI it) kps its a vs g'->Q' () s')->c.wp (letOwnedTupleGo t (.ref a) X) Q' s₁) (is_tup h1.1 h1.2) fun X s₁ k=>⟨X,rfl,k⟩) (fun r s₁ h=>?_) fun _ _ h=>h.elim
  obtain ⟨X,rfl,h⟩:=h
  refine wpAny_mono (h _ fun g4 s4 le4 H4 r4 it4=>?_) (fun _ _ h=>h) fun _ _ h=>h.elim
  refine (I3.far I.loc new le4 H4).bind h1.1 w.2.1 r4 fun g5 s5 le5 I5=>?_
  have le':=le3.trans ((toI le4).trans (toO le5))
  refine wpAny_mono (w.2.2 c g5 s5 bd h3 I5) (fun f s6 p=>p.elim (fun ρ6 σ6 g6 e6 q l6 I6=>?_) fun v x σ6 g6 e6 q l6 H w r6=>?_) fun _ _ h=>h.elim
  ·subst e6
   exact ⟨vs.length,Nat.lt_succ_self _,fun R_ kk=>kk vs ρ6 σ6 g6 rfl q (le'.trans (toO l6)) I6 (mono (le5.trans l6) it4)⟩
  ·subst e6
   obtain ⟨hd,H',le,e⟩:=H.back (s':=s6) (le'.trans (toO l6)) new (fun _ _ _ e=>e) (H.away (mono (le5.trans l6) it4).at)
   exact fun R_ _ k2=>k2 v x σ6 _ q le H' (fun a ha q=>w a ha ((e a fun q=>ni a q ha).symm.trans q)) (An.eta r6)
end
end Mine
namespace Mine
open PySem PySem.Calls
noncomputable def DC (env:Env):List (Str×NameKind)->List (Str×Addr)->List (Str×Addr)
 | [],acc=>acc
 | p::r,acc=>DC env r (if (p.2 == .free)=true then (p.1,(env.cells.lookup p.1).getD 0)::acc else acc)
noncomputable def AT:Af->List Nat->Af
 | ρ,[]=>ρ
 | ρ,i::ts=>AT (ρ.set i none) ts
section
variable {α β:Type} [BEq α] [LawfulBEq α]
theorem AW {l:List (α×β)} {a:α} {b:β} (h:l.lookup a=some b):(a,b)∈l:=by
 induction l with
 | nil=>exact Ac h
 | cons p r ih =>
  obtain ⟨x,y⟩:=p
  rw [List.lookup_cons] at h
  cases q:a == x with
  | true=>rw [q] at h; rw [eq_of_beq q,<-Option.some.inj h]; exact .head _
  | false=>rw [q] at h; exact .tail _ (ih h)
theorem EZ {l:List (α×β)} {a:α} {b:β} (h:(a,b)∈l):∃ b',l.lookup a=some b':=by
 induction l with
 | nil=>exact nomatch h
 | cons p r ih =>
  obtain ⟨x,y⟩:=p
  rw [List.lookup_cons]
  cases q:a == x with
  | true=>exact ⟨y,rfl⟩
  | false=>exact (List.mem_cons.mp h).elim (fun e=>by rw [Prod.mk.inj e |>.1,beq_self_eq_true] at q; exact tt_ q) ih
end
section
variable {env:Env} {names:List (Str×NameKind)} {acc:List (Str×Addr)} {n:Str} {c:Addr}
theorem isFree {k:NameKind} (h:(k == .free)=true):k=.free:=eq_of_beq h
theorem Fr:∀ {names:List (Str×NameKind)} {acc:List (Str×Addr)},(n,c)∈DC env names acc->(n,c)∈acc\/((n,NameKind.free)∈names/\c=(env.cells.lookup n).getD 0)
 | [],acc,h=>.inl h
 | (m,k)::r,acc,h=>by
  rcases Fr (names:=r) h with h | h
  ·by_cases hk:(k == NameKind.free)=true
   ·rw [if_pos hk] at h
    exact (List.mem_cons.mp h).elim (fun h=>.inr ⟨by rw [isFree hk,(Prod.mk.inj h).1]; exact .head _,by rw [(Prod.mk.inj h).1]; exact (Prod.mk.inj h).2⟩) .inl
   ·rw [if_neg hk] at h; exact .inl h
  ·exact .inr ⟨.tail _ h.1,h.2⟩
theorem clOf_acc {p:Str×Addr}:∀ {names:List (Str×NameKind)} {acc:List (Str×Addr)},p∈acc->p∈DC env names acc
 | [],_,h=>h
 | (m,k)::r,acc,h=>clOf_acc (names:=r) (by
  by_cases hk:(k == NameKind.free)=true
  ·rw [if_pos hk]; exact .tail _ h
  ·rw [if_neg hk]; exact h)
theorem clOf_has:∀ {names:List (Str×NameKind)} {acc:List (Str×Addr)},(n,NameKind.free)∈names->(n,(env.cells.lookup n).getD 0)∈DC env names acc
 | [],_,h=>nomatch h
 | (m,k)::r,acc,h=>(List.mem_cons.mp h).elim (fun h=>clOf_acc (names:=r) (by rw [<-(Prod.mk.inj h).2,<-(Prod.mk.inj h).1]; exact .head _)) (clOf_has (names:=r))
theorem cl_look (h:(n,NameKind.free)∈names) (e:env.cells.lookup n=some c):(DC env names []).lookup n=some c:=by
 obtain ⟨c',h'⟩:=EZ (clOf_has (env:=env) (acc:=[]) h)
 rcases Fr (AW h') with q | q
 ·exact nomatch q
 ·rw [h',q.2,e]; rfl
theorem Ey (scope:Scope) (h:∀ n,(n,NameKind.free)∈scope.names->∃ c,env.cells.lookup n=some c):closureFor scope env=pure (DC env scope.names []):=by
 have gen:∀ (names:List (Str×NameKind)) (acc:List (Str×Addr)),(∀ n,(n,NameKind.free)∈names->∃ c,env.cells.lookup n=some c) ->
  (forIn names acc (fun x r=>if (x.2 == NameKind.free)=true then (cellOf env x.1>>=fun c=>pure (ForInStep.yield ((x.1,c)::r))) else pure (ForInStep.yield r)):Sem (List (Str×Addr)))=pure (DC env names acc):=by
  intro names
  induction names with
  | nil=>intro acc _; rfl
  | cons p r ih =>
   intro acc hh
   rw [List.forIn_cons]
   by_cases hk:(p.2 == NameKind.free)=true
   ·obtain ⟨c,hc⟩:=hh p.1 (isFree hk▸.head _)
    have e:cellOf env p.1=pure c:=by unfold cellOf; rw [hc]
    rw [if_pos hk,e,pure_bind,pure_bind]
    refine (ih _ fun n hn=>hh n (.tail _ hn)).trans ?_
    show _=pure (DC env r (if (p.2 == NameKind.free)=true then _ else _))
    rw [if_pos hk,hc]; rfl
   ·rw [if_neg hk,pure_bind]
    refine (ih _ fun n hn=>hh n (.tail _ hn)).trans ?_
    show _=pure (DC env r (if (p.2 == NameKind.free)=true then _ else _))
    rw [if_neg hk]
 have g:=gen scope.names [] h
 unfold closureFor
 rw [bind_pure]
 exact g
end
theorem CT:∀ {ts:List Nat} {ρ:Af} {i:Nat} {v:V},(AT ρ ts)[i]? = some (some v)->i∉ts/\ρ[i]? = some (some v)
 | [],ρ,i,v,h=>⟨List.not_mem_nil,h⟩
 | j::ts,ρ,i,v,h=>by
  obtain ⟨h1,h2⟩:=CT (ts:=ts) h
  by_cases q:j=i
  ·rw [q] at h2
   by_cases hl:i < ρ.length
   ·rw [List.getElem?_set_self hl] at h2; exact Ac (Option.some.inj h2)
   ·rw [List.getElem?_eq_none (by rw [List.length_set]; exact Nat.le_of_not_lt hl)] at h2; exact Ac h2
  ·rw [List.getElem?_set_ne q] at h2
   exact ⟨fun m=>(List.mem_cons.mp m).elim (fun e=>q e.symm) h1,h2⟩
theorem FB:∀ {ts:List Nat} {vs:List V} {ρ:Af} {i:Nat},i∉ts->(Db ρ ts vs)[i]? = ρ[i]?
 | [],vs,ρ,i,h=>by cases vs <;> rfl
 | j::ts,[],ρ,i,h=>rfl
 | j::ts,w::vs,ρ,i,h=>(FB (ts:=ts) fun q=>h (.tail _ q)).trans (List.getElem?_set_ne fun (q:j=i)=>h (q▸.head _))
theorem bindV_get {ts:List Nat} {v u:V} {ρ:Af} {i:Nat} (h:(AT ρ ts)[i]? = some (some u)):(Cb (AT ρ ts) ts v)[i]? = some (some u):=by
 have q:=(CT h).1
 refine Eq.trans ?_ h
 match ts,q with
 | [],_=>exact FB List.not_mem_nil
 | [j],q=>exact List.getElem?_set_ne fun (e:j=i)=>q (e▸.head _)
 | j::k::l,q=>exact FB q
end Mine
namespace Mine
open PySem PySem.Calls
structure G5 (K:Kx) (ts:List Nat) (sc:Scope):Prop where
 kind:sc.kind=.function
 nm:∀ p,p∈sc.names->nameOk K ts p=true
 uni:∀ p,p∈sc.names->sc.names.lookup p.1=some p.2
 dot:(".0" : Str)∉K.vars
 tgt:∀ i,i∈ts->∃ m,K.vars[i]? = some m/\sc.names.lookup m=some .local
section
variable {K:Kx} {ts:List Nat} {sc:Scope} {p:Str×NameKind} {x:Str} {k:NameKind}
theorem scopeOk_ok (h:G8 K ts sc=true):G5 K ts sc:=by
 have h1:=Bool.and_eq_true_iff.mp h
 have h2:=Bool.and_eq_true_iff.mp h1.1
 have h3:=Bool.and_eq_true_iff.mp h2.1
 have h4:=Bool.and_eq_true_iff.mp h3.1
 refine ⟨of_decide_eq_true h4.1,List.all_eq_true.mp h4.2,fun p hp=>of_decide_eq_true (List.all_eq_true.mp h3.2 p hp),fun q=>?_,fun i hi=>?_⟩
 ·have:=h2.2
  rw [List.contains_iff_mem.mpr q] at this
  exact ff_ this
 ·have:=List.all_eq_true.mp h1.2 i hi
  cases e:K.vars[i]? with
  | none=>rw [e] at this; exact ff_ this
  | some m=>rw [e] at this; exact ⟨m,rfl,of_decide_eq_true this⟩
theorem FJ {R_:Prop} (h:nameOk K ts p=true) (k1:p.2=.local->(p.1=(".0" : Str)\/∃ i,i∈ts/\K.vars[i]? = some p.1)->R_) (k2:p.2=.free->(K.names.lookup p.1=some .cell\/K.names.lookup p.1=some .free)->R_) (k3:p.2=.globalImplicit->R_):R_:=by
 rcases Bool.or_eq_true_iff.mp h with h | h
 ·have h1:=Bool.and_eq_true_iff.mp h
  refine k1 (of_decide_eq_true h1.1) ((Bool.or_eq_true_iff.mp h1.2).imp eq_of_beq fun q=>?_)
  obtain ⟨i,hi,e⟩:=List.any_eq_true.mp q
  exact ⟨i,hi,of_decide_eq_true e⟩
 ·rcases Bool.or_eq_true_iff.mp h with h | h
  ·have h1:=Bool.and_eq_true_iff.mp h
   exact k2 (of_decide_eq_true h1.1) ((Bool.or_eq_true_iff.mp h1.2).imp Kx.kd_eq Kx.kd_eq)
  ·exact k3 (of_decide_eq_true h)
theorem Br {R_:Prop} {a b:NameKind} (h:a=b) (e:decide (a=b)=false):R_:=by rw [decide_eq_true h] at e; exact tt_ e
theorem G5.noc (S:G5 K ts sc):∀ p,p∈sc.names->p.2≠.cell:=fun p hp q=>FJ (S.nm p hp) (fun e _=>Br (q.symm.trans e) rfl) (fun e _=>Br (q.symm.trans e) rfl) fun e=>Br (q.symm.trans e) rfl
theorem G5.fre (S:G5 K ts sc) (h:(x,NameKind.free)∈sc.names):K.names.lookup x=some .cell\/K.names.lookup x=some .free:=FJ (S.nm _ h) (fun e _=>Br e rfl) (fun _ q=>q) fun e=>Br e rfl
theorem FF {E names:List (Str×NameKind)} (h:(CG E names).lookup x=some k):(x,k)∈names\/((x,NameKind.free)∈names/\k=.cell):=by
 obtain ⟨⟨m,k'⟩,hp,e⟩:=List.mem_map.mp (AW h)
 have e:(if (k' == .free&&E.lookup m == some .cell)=true then (m,NameKind.cell) else (m,k'))=(x,k):=e
 by_cases q:(k' == .free&&E.lookup m == some .cell)=true
 ·rw [if_pos q] at e
  have q1:=isFree (Bool.and_eq_true_iff.mp q).1
  rw [q1,(Prod.mk.inj e).1] at hp
  exact .inr ⟨hp,(Prod.mk.inj e).2.symm⟩
 ·rw [if_neg q] at e
  rw [e] at hp
  exact .inl hp
theorem G5.loc (S:G5 K ts sc) (h:(CG K.names sc.names).lookup x=some .local):x=(".0" : Str)\/∃ i,i∈ts/\K.vars[i]? = some x:=by
 rcases FF h with h | h
 ·exact FJ (S.nm _ h) (fun _ q=>q) (fun e _=>Br e rfl) fun e=>Br e rfl
 ·exact Br h.2 rfl
theorem G5.out (S:G5 K ts sc) (h:(CG K.names sc.names).lookup x=some .cell\/(CG K.names sc.names).lookup x=some .free):(x,NameKind.free)∈sc.names:=by
 rcases h with h | h
 ·rcases FF h with h | h
  ·exact absurd rfl (S.noc _ h)
  ·exact h.1
 ·rcases FF h with h | h
  ·exact h
  ·exact h.1
theorem Ew {env:Env} (hk:env.scope.kind=.function) (hn:env.scope.names=K.names):(relabel sc env).names=CG K.names sc.names:=List.map_congr_left fun p _=>by
 obtain ⟨m,k⟩:=p
 show (if (k == .free&&env.scope.kind == .function&&env.kindOf m == some .cell)=true then (m,NameKind.cell) else (m,k))=(if (k == .free&&K.names.lookup m == some .cell)=true then (m,NameKind.cell) else (m,k))
 rw [hk,AE hn,show (ScopeKind.function == ScopeKind.function)=true from rfl,Bool.and_true]
end
noncomputable abbrev subC (c:Cx) (ts:List Nat) (sc:Scope) (C:Addr):Cx:=⟨c.toAr,c.K.sub ts sc,compEnvC sc (DC c.env sc.names []) C c.env,[C]⟩
section
variable {n:Nat} {c:Cx} {ρ:Af} {g:G} {ts:List Nat} {sc:Scope} {C:Addr} {x:Str}
theorem GN (X:CxOk n c):(subC c ts sc C).env.kindOf x=(CG c.K.names sc.names).lookup x:=AE (K:=c.K.sub ts sc) (Ew X.kind X.names) x
theorem GO (S:G5 c.K ts sc) (X:CxOk n c) (L:Loc c ρ g) (h:(x,NameKind.free)∈sc.names) {R_:Prop} (k:∀ a u,c.env.cells.lookup x=some a->(subC c ts sc C).env.cells.lookup x=some a->CellF g.hid a u->(∀ (i:Nat) (v:V),c.K.vars[i]? = some x->ρ[i]? = some (some v)->∃ x,u=some x/\An c.T g v x)->R_):R_ :=
 L.ce x (by rw [AE X.names]; exact S.fre h) R_ fun a u h1 h2 h3=>k a u h1 (cl_look h h1) h2 h3
theorem sub_cx (S:G5 c.K ts sc) (X:CxOk n c) (L:Loc c ρ g):CxOk n (subC c ts sc C):=by
 have look:∀ m a,(subC c ts sc C).env.cells.lookup m=some a->c.env.cells.lookup m=some a:=fun m a h=>by
  rcases Fr (AW h) with q | q
  ·exact nomatch q
  ·exact GO (C:=C) S X L q.1 fun a' u h1 h2 _ _=>h1.trans (h2.symm.trans h)
 refine ⟨X.rd,Ew X.kind X.names,S.kind,X.glob,X.blt,fun m m' a h h'=>X.cinj m m' a (look m a h) (look m' a h'),X.nd,.head _,fun m hm a hk _=>?_,fun t q h=>Ac h⟩
 obtain ⟨i,hi,e⟩:=List.mem_filterMap.mp (show m∈ts.filterMap fun i=>c.K.vars[i]? from hm)
 obtain ⟨m',e',hl⟩:=S.tgt i hi
 rw [Av e' e] at hl
 rw [GN X] at hk
 exact Br (Av (S.uni _ (S.out (.inl hk))) hl) rfl
theorem sub_loc {o:Obj} (S:G5 c.K ts sc) (X:CxOk n c) (L:Loc c ρ g) (hC:g.hid C=none) (hn:NsF (g.hide C o).hid C fun _=>none):Loc (subC c ts sc C) (AT ρ ts) (g.hide C o):=by
 have up:G.up g (g.hide C o):=⟨fun _ _ e=>e,fun _ _ e=>e⟩
 refine ⟨fun R_ k=>k _ hn fun i nm v e1 e2 e3=>?_,fun nm hk R_ k=>?_,A8 (AA G.hide_self)⟩
 ·rw [GN X] at e3
  rcases S.loc e3 with q | ⟨j,hj,q⟩
  ·exact absurd (q▸List.mem_of_getElem? e1) S.dot
  ·exact absurd (FH X.nd q e1▸hj) (CT e2).1
 ·rw [GN X] at hk
  refine GO (C:=C) S X L (S.out hk) fun a u h1 h2 h3 h4=>k a u h2 (h3.to fun o' e=>(G.hide_ne fun q=>Aq hC (q▸e)).trans e) fun i v e1 e2=>BE up (h4 i v e1 (CT e2).2)
end
end Mine
namespace Mine
open PySem PySem.Calls
noncomputable abbrev Dl (ifs:List Expr) (env:Env) (b:Bool):Sem Bool :=
 forIn ifs b fun c r=>if r=true then (isTrue c env (eval c env)>>=fun ok=>pure (ForInStep.yield ok)) else pure (ForInStep.yield r)
noncomputable def TurnC (c:Cx) (target elt:Expr) (ifs:List Expr) (it acc:Value) (Dn:Shared->Prop) (v:Value) (s:Shared):Prop :=
 c.wp (letOwnedTupleGo target it v) (fun _ s₁=>c.wp (assign target c.env v) (fun _ s2=>c.wp (Dl ifs c.env true) (fun ok s3=>(ok=false->Dn s3)/\(ok=true->c.wp (eval elt c.env) (fun x s4=>c.wp (call (.builtin "list.append") [acc,x]) (fun _ s5=>Dn s5) s4) s3)) s2) s₁) s
theorem compLoop_any {c:Cx} {R:Result->Shared->Prop} {s:Shared} {elt target iter:Expr} {ifs:List Expr} {scope:Scope} {pos:Pos} {it acc:Value} (I:Nat->Shared->Prop)
 (turn:∀ n s,I n s->∀ Q:Option Value->Shared->Prop,(∀ s₁,R (.ok .next) s₁->Q none s₁)->(∀ v s₁,TurnC c target elt ifs it acc (fun s'=>∃ m,m < n/\I m s') v s₁->Q (some v) s₁)->c.wp (pyNext it) Q s)
 (n:Nat) (h:I n s):codeAny (model c.T.prog c.T.w) c.A (.compLoop (.ListComp elt [⟨target,iter,ifs,0⟩] scope pos) 0 it acc c.env) R s:=by
 refine codeAny_loop rfl I (fun n s hI=>?_) n h
 show wpAny _ c.A ((compTurn (.ListComp elt [⟨target,iter,ifs,0⟩] scope pos) 0 it acc c.env).onRaise (fun x=>do noteFrame x c.env; theTreesLotGoes x)) _ _ s
 refine wpAny_noted ?_
 rw [compTurn_list]
 refine wpAny_bind (wpAny_standAt (wpAny_bind (wpAny_mono (turn n s hI _ ?_ ?_) (fun r s₁ h=>h) fun _ _ h'=>h'.elim)))
 ·exact fun s₁ h=>wpAny_pure h
 intro v s₁ h
 refine wpAny_bind (wpAny_mono h (fun _ s1' h1'=>?_) fun _ _ h'=>h'.elim)
 refine wpAny_bind (wpAny_mono h1' (fun _ s2 h2=>wpAny_bind (wpAny_mono h2 (fun ok s3 h3=>?_) fun _ _ h'=>h'.elim)) fun _ _ h'=>h'.elim)
 cases ok with
 | false=>exact wpAny_pure ⟨rfl,h3.1 rfl⟩
 | true=>exact wpAny_bind (wpAny_bind (wpAny_mono (h3.2 rfl) (fun x s4 h4=>wpAny_bind (wpAny_mono h4 (fun _ s5 h5=>wpAny_pure (wpAny_pure ⟨rfl,h5⟩)) fun _ _ h'=>h'.elim)) fun _ _ h'=>h'.elim))
noncomputable def SIf (n:Nat) (e:E) (ρ:Af) (σ:Ab) (b:Bool) (σ':Ab):Prop :=
 ∀ (c:Cx) (g:G) (s:Shared) (xs:List Expr),ED e c.K xs->Inv n c ρ g σ s->c.wp (Dl xs c.env true) (fun x s'=>BK c.T [] g σ' (fun _=>x=b) s') s
noncomputable def F8 (n:Nat) (elt:E) (ts:List Nat) (ifs:E) (kps:List (Nat×List V)) (ρ:Af) (σ':Ab):List V->Ab->List V->Prop
 | [],σ,ws=>BT σ kps/\ws=[]/\σ'=σ
 | v::vs,σ,ws=>BT σ kps/\Ec ts v/\∃ t σ₁,SIf n ifs (Cb (AT ρ ts) ts v) σ t σ₁/\(t=false->F8 n elt ts ifs kps ρ σ' vs σ₁ ws)/\(t=true->∃ u us σ2,SE n elt (Cb (AT ρ ts) ts v) σ₁ u σ2/\ws=u::us/\F8 n elt ts ifs kps ρ σ' vs σ2 us)
noncomputable abbrev Cv (xs:Array Value) (m:Nat):Obj:={ cls:=.type "list",dict:=none,data:=.seq xs m,slots:=#[] }
section
variable {n:Nat} {c:Cx} {ρ ρ':Af} {g g' g₀ g₁:G} {σ σ' σ₁ σ2:Ab} {s s':Shared} {e a b r elt ifs:E} {ws vs:List V} {kps:List (Nat×List V)} {its:List Addr} {ts:List Nat} {q:Bool}
theorem Et (env:Env):∀ ifs:List Expr,Dl ifs env false=pure false
 | []=>rfl
 | c::r=>by
  show (forIn (c::r) false _:Sem Bool)=_
  rw [List.forIn_cons,if_neg Bool.false_ne_true,pure_bind]
  exact Et env r
theorem SIf.nil:SIf n .nil ρ σ true σ:=fun c g s xs hc I=>by
 obtain rfl:xs=[]:=hc
 exact wpAny_pure (.refl I.has rfl)
theorem if_arm {x:Expr} {l:List Expr} {env:Env}:Dl (x::l) env true=(isTrue x env (eval x env)>>=fun ok=>Dl l env ok):=by
 show (forIn (x::l) true _:Sem Bool)=_
 rw [List.forIn_cons,if_pos rfl,bind_assoc]
 exact bind_congr fun ok=>pure_bind _ _
theorem SIf.cons (h:ST n a ρ σ true σ₁) (h':SIf n r ρ σ₁ q σ2):SIf n (.cons a r) ρ σ q σ2:=fun c g s xs hc I=>hc (fun xs=>c.wp (Dl xs c.env true) (fun x s'=>BK c.T [] g σ2 (fun _=>x=q) s') s) fun x l h1 h2=>AU if_arm
 (B0 (r:=c.toAr) (h c g s x h1 I) fun ok g₁ s₁ le a₁ e=>by subst e; exact Bv (r:=c.toAr) le (h' c g₁ s₁ l h2 (I.step le a₁)))
theorem SIf.no (h:ST n a ρ σ false σ₁):SIf n (.cons a r) ρ σ false σ₁:=fun c g s xs hc I=>hc (fun xs=>c.wp (Dl xs c.env true) (fun x s'=>BK c.T [] g σ₁ (fun _=>x=false) s') s) fun x l h1 h2=>AU if_arm
 (B0 (r:=c.toAr) (h c g s x h1 I) fun ok g₁ s₁ le a₁ e=>by subst e; exact AU (Et _ _) (wpAny_pure (.mk g₁ le a₁ rfl)))
theorem Loc.less (L:Loc c ρ g) (h:∀ (i:Nat) (v:V),ρ'[i]? = some (some v)->ρ[i]? = some (some v)):Loc c ρ' g:=⟨fun R_ k=>L.ns R_ fun m h1 h2=>k m h1 fun i nm v e1 e2 e3=>h2 i nm v e1 (h i v e2) e3,fun nm hk R_ k=>L.ce nm hk R_ fun a u h1 h2 h3=>k a u h1 h2 fun i v e1 e2=>h3 i v e1 (h i v e2),L.ow⟩
theorem comp_turns {D it:Addr} {x t i:Expr} {cs:List Expr} {sc:Scope} {pos:Pos} {m0:Nat} {R:Result->Shared->Prop} (x0:Loc c (AT ρ ts) g₀) (hn:∀ b,b∈D::its->g₀.hid b=none) (hD:D∉its) (h4:IsT c.K ts t) (h5:IsE elt c.K x) (h6:ED ifs c.K cs) (ht:q=true->∃ es k p,t=.Tuple es k p) (hl:ws.length<=line)
 (fin:∀ g' s' xs m h',G.le ((D::its)++c.own) g g'->Inv n c (AT ρ ts) g' σ' s'->ItS c.T q kps its it [] g'->g'.hid D=some (Cv xs m)->Am c.T g' ws xs.toList->(∀ b o,b∉its->s'.heap.get? b=some o->h'.get? b=some o)->R (.ok .next) { s' with heap:=h' })
 (hr:F8 n elt ts ifs kps ρ σ' vs σ ws) (I:Inv n c (AT ρ ts) g σ s) (hi:ItS c.T q kps its it vs g) (hDo:g.hid D=some (Cv #[] m0)):codeAny (model c.T.prog c.T.w) c.A (.compLoop (.ListComp x [⟨t,i,cs,0⟩] sc pos) 0 (.ref it) (.ref D) c.env) R s:=by
 have no:∀ b,b∈D::its->b∉c.own:=fun b h h'=>x0.ow b h' (hn b h)
 have toO:∀ {g g'},G.le c.own g g'->G.le ((D::its)++c.own) g g':=fun le=>⟨le.toup,fun a q=>le.hid a fun h=>q (List.mem_append_right _ h)⟩
 have toA:∀ {g g'},G.le (D::its) g g'->G.le ((D::its)++c.own) g g':=fun le=>⟨le.toup,fun a q=>le.hid a fun h=>q (List.mem_append_left _ h)⟩
 have toI:∀ {g g'},G.le its g g'->G.le (D::its) g g':=fun le=>⟨le.toup,fun a q=>le.hid a fun h=>q (.tail _ h)⟩
 refine compLoop_any (I:=fun k s=>∀ R_:Prop,(∀ vs σ g' ys zs xs m,k=vs.length->F8 n elt ts ifs kps ρ σ' vs σ zs->ws=ys++zs->G.le ((D::its)++c.own) g g'->Inv n c (AT ρ ts) g' σ s->ItS c.T q kps its it vs g'->g'.hid D=some (Cv xs m)->Am c.T g' ys xs.toList->R_)->R_) (fun k s3 hz=>hz _ fun vs σ3 g3 ys zs xs m hk w hw le3 I3 i3 d3 r3 Q kn ks=>?_) vs.length
  fun R_ kk=>kk vs σ g [] ws #[] m0 rfl hr rfl (.refl _ _) I hi hDo trivial
 subst hk
 cases vs with
 | nil =>
  obtain ⟨w1,rfl,rfl⟩:=w
  rw [List.append_nil] at hw
  exact i3.2 c.toAr g3 _ s3 rfl I3.at0 (.refl _) (fun _ _=>rfl) w1 Q fun h' hk=>kn _ (fin g3 s3 xs m h' le3 I3 i3 d3 (hw▸r3) hk)
 | cons v vs =>
  obtain ⟨w1,w2,t1,σ6,w3,w4,w5⟩:=w
  refine i3.2 c.toAr g3 σ3 s3 rfl I3.at0 (.refl _) (fun _ _=>rfl) w1 t Q ht fun X s₁ k=>ks X s₁ (k _ fun g4 s4 le4 H4 r4 i4=>?_)
  refine (I3.far x0 hn (toI le4) H4).bind h4 w2 r4 fun g5 s5 le5 I5=>?_
  refine wpAny_mono (w3 c g5 s5 cs h6 I5) (fun ok s6 p=>p _ fun g6 le6 a6 e6=>?_) fun _ _ h=>h
  have I6:=I5.step le6 a6
  have l56:G.le c.own g4 g6:=le5.trans le6.toO
  have d6:g6.hid D=some (Cv xs m):=(l56.hid D (no D (.head _))).trans ((le4.hid D hD).trans d3)
  have i6:ItS c.T q kps its it vs g6:=i4.mono l56.toup fun b hb=>l56.hid b (no b (.tail _ hb))
  have L6:=le3.trans ((toA (toI le4)).trans (toO l56))
  have r6:=Am.mono (le4.toup.trans l56.toup) r3
  have less:∀ (i:Nat) (u:V),(AT ρ ts)[i]? = some (some u)->(Cb (AT ρ ts) ts v)[i]? = some (some u):=fun i u=>bindV_get
  subst e6
  refine ⟨fun q=>⟨vs.length,Nat.lt_succ_self _,fun R_ kk=>kk vs σ6 g6 ys zs xs m rfl (w4 q) hw L6 ⟨I6.toAt,I6.cx,I6.loc.less less⟩ i6 d6 r6⟩,fun q=>?_⟩
  obtain ⟨u,us,σ7,w6,rfl,w7⟩:=w5 q
  refine wpAny_mono (w6 c g6 s6 x h5 I6) (fun Y s7 p=>p _ fun g7 le7 a7 r7=>?_) fun _ _ h=>h
  have I7:=I6.step le7 a7
  have d7:=(le7.hid D List.not_mem_nil).trans d6
  have r8:=Am.mono le7.toup r6
  have hz:xs.size<=sizeLine:=by
   rw [<-AQ,<-Array.length_toList,<-r8.length]
   rw [hw,List.length_append] at hl
   exact Nat.le_trans (Nat.le_add_right _ _) hl
  refine wpAny_list_append_plain ⟨m,a7.hd _ _ d7⟩ (fun h' hp hs=>?_) hz
  obtain ⟨m',hp⟩:=hp
  have le8:G.le (D::its) g7 (g7.hide D (Cv (xs.push Y) m')):=.hide (.head _)
  have I8:=I7.far x0 hn le8 (a7.rehide (s':={ s7 with heap:=h' }) d7 (fun b x q e=>(hs.2 b q).trans e) hp)
  refine ⟨vs.length,Nat.lt_succ_self _,fun R_ kk=>kk vs σ7 _ (ys++[u]) us (xs.push Y) m' rfl w7 (by rw [List.append_assoc]; exact hw) (L6.trans (le7.toO.trans (toA le8))) ⟨I8.toAt,I8.cx,I8.loc.less less⟩ ((i6.mono le7.toup fun b _=>le7.hid b List.not_mem_nil).mono le8.toup fun b hb=>G.hide_ne fun q=>hD (q▸hb)) G.hide_self ?_⟩
  rw [Array.toList_push]
  exact (Am.mono le8.toup r8).append ⟨An.mono le8.toup _ _ r7,trivial⟩
end
end Mine
namespace Mine
open PySem PySem.Calls
section
variable {n:Nat} {c:Cx} {ρ ρ':Af} {g g' g₀ g₁:G} {σ σ' σ₁ σ2:Ab} {s s':Shared} {e it elt ifs:E} {v:V} {ws vs:List V} {kps:List (Nat×List V)} {its:List Addr} {ts:List Nat} {q:Bool} {Q:Fl->Ab->Prop} {k:Nat}
theorem NsF.heap {T:Top} {C:Addr} {m:Str->Option Value} (H:Has T g σ s) (h:NsF g.hid C m):s.heap.Ns C m:=h.to (H.hd C)
theorem comp_run {x t i:Expr} {cs:List Expr} {sc:Scope} {pos P:Pos} {use:Option (Value->Sem Unit)} {Q:Value->Shared->Prop} (hI:SI n it ρ σ vs kps σ₁) (hr:F8 n elt ts ifs kps ρ σ' vs σ₁ ws) (hl:ws.length<=line)
 (h1:IsE it c.K i) (hs:G8 c.K ts sc=true) (hz:Gi ts it=true) (h4:IsT (c.K.sub ts sc) ts t) (h5:IsE elt (c.K.sub ts sc) x) (h6:ED ifs (c.K.sub ts sc) cs) (I:Inv n c ρ g σ s)
 (fin:∀ g2 s2 D C m,G.le [C] g g2->g.hid C=none->NsF g2.hid C m->By c.toAr g2 σ' ws (.ref D) s2->compPost (model c.T.prog c.T.w) c.A (fun _ _=>False) use Q (.ref D) C (.ok .next) s2) :
 c.wp (comprehension (.ListComp x [⟨t,i,cs,0⟩] sc pos) sc c.env P (newList []) false (eval i c.env) use) Q s:=by
 have S:=scopeOk_ok hs
 refine wpAny_comprehension_free (use:=use) rfl ((B8 it h1).fold c.env) (Ey sc fun m hm=>GO (C:=0) S I.cx I.loc hm fun a _ e _ _ _=>⟨a,e⟩) S.kind (fun p hp hl=>by rw [S.uni p hp,hl]) ?_
 refine wpAny_mono (hI c g s i h1 I) (fun X s₁ h₁=>wpAny_mono h₁ (fun itv s2 p=>?_) fun _ _ h=>h) fun _ _ h=>h
 refine p (fun itv=>c.wp (newList []) (fun acc s3=>c.wp (newFunctionEnv sc c.env.globals (DC c.env sc.names []) [] c.env.qual none .none (some c.env)) (fun cenv s4=>codeAny (model c.T.prog c.T.w) c.A (.compStart (.ListComp x [⟨t,i,cs,0⟩] sc pos) 0 itv acc { cenv with scope:=relabel sc c.env }) (compPost (model c.T.prog c.T.w) c.A (fun _ _=>False) use Q acc cenv.locals) s4) s3) s2) fun its a g2 le2 H2 new i2 self=>?_
 refine wpAny_newList ?_ (Nat.zero_le _)
 refine wpAny_newFunctionEnv S.noc (fun y hy=>nomatch hy) (fun h₁ hns hsb=>?_) S.kind
 have hC:s2.heap.objs.size≠(s2.heap.push (Cv #[] 0)).objs.size:=fun q=>by rw [Heap.size_push] at q; exact Nat.succ_ne_self _ q.symm
 have hC0:s2.heap.get? (s2.heap.push (Cv #[] 0)).objs.size=none:=Heap.get?_none_of_le (by rw [Heap.size_push]; exact Nat.le_succ _)
 have hD0:s2.heap.get? s2.heap.objs.size=none:=Bl _
 have hD1:h₁.get? s2.heap.objs.size=some (Cv #[] 0):=(hsb.2 _ hC).trans (Heap.get?_push_of_some _ (Heap.get?_push_size _ rfl))
 have old:∀ b o,s2.heap.get? b=some o->h₁.get? b=some o:=fun b o e=>(hsb.2 b fun q=>by rw [q] at e; exact Aq hC0 e).trans (Heap.get?_push_of_some _ (Heap.get?_push_of_some _ e))
 have ne:∀ {b},b∈its->∀ {d},s2.heap.get? d=none->b≠d:=fun {b} hb {d} hd q=>by
  cases e:g2.hid b with
  | none=>exact i2.at b hb e
  | some o=>exact Aq (q▸hd) (H2.hd b o e)
 generalize (s2.heap.push (Cv #[] 0)).objs.size=C at *
 generalize s2.heap.objs.size=D at *
 obtain ⟨oC,es,ep,hCo,hCn⟩:=hns
 have FC:=H2.free hC0
 have FD:=H2.free hD0
 have nD:∀ {b},b∈its->b≠D:=fun hb=>ne hb hD0
 have nC:∀ {b},b∈its->b≠C:=fun hb=>ne hb hC0
 have hD:D∉its:=fun q=>nD q rfl
 have hgC:g.hid C=none:=(le2.hid C fun q=>nC q rfl).symm.trans FC.hid
 have hgD:g.hid D=none:=(le2.hid D hD).symm.trans FD.hid
 have H3:=FC.hide (H2.keep (s':={ s2 with heap:=h₁,toks:=s2.toks+([]:List (Str×Value)).length }) old) hCo
 have H4:=H3.hide (a:=D) FD.fz FD.mu FD.tab (fun _ _ _ e=>e) hD1
 have x0:=sub_loc (o:=oC) S I.cx I.loc hgC ⟨oC,es,ep,G.hide_self,hCn⟩
 have hn:∀ b,b∈D::its->(g.hide C oC).hid b=none:=all_cons ((G.hide_ne hC).trans hgD) fun b hb=>(G.hide_ne (nC hb)).trans (new b hb)
 have l0:G.le (D::its) (g.hide C oC) ((g2.hide C oC).hide D (Cv #[] 0)):=⟨⟨le2.fz,le2.mu⟩,fun b hb=>(G.hide_ne (nhd hb)).trans (congrArg (fun z=>if b=C then some oC else z) (le2.hid b (ntl hb)))⟩
 have lg:G.le ((D::its)++[C]) g ((g2.hide C oC).hide D (Cv #[] 0)):=⟨⟨le2.fz,le2.mu⟩,fun b hb=>(G.hide_ne fun (q:b=D)=>hb (List.mem_append_left _ (q▸.head _))).trans ((G.hide_ne fun (q:b=C)=>hb (List.mem_append_right _ (q▸.head _))).trans (le2.hid b fun q=>hb (List.mem_append_left _ (.tail _ q))))⟩
 have I4:Inv n (subC c ts sc C) (AT ρ ts) _ σ₁ _:=⟨I.toAt.step lg.toup H4,sub_cx S I.cx I.loc,x0.far hn x0 l0⟩
 have hd:∀ b,b∈its->((g2.hide C oC).hide D (Cv #[] 0)).hid b=g2.hid b:=fun b hb=>(G.hide_ne (nD hb)).trans (G.hide_ne (nC hb))
 have loop:codeAny (model c.T.prog c.T.w) c.A (.compLoop (.ListComp x [⟨t,i,cs,0⟩] sc pos) 0 (.ref a) (.ref D) (subC c ts sc C).env) (compPost (model c.T.prog c.T.w) c.A (fun _ _=>False) use Q (.ref D) C) { s2 with heap:=h₁,toks:=s2.toks+([]:List (Str×Value)).length }:=by
  refine comp_turns (c:=subC c ts sc C) x0 hn hD h4 h5 h6 (is_tup (c:=subC c ts sc C) h4 hz) hl (fun g' s' xs m h' le I5 i5 d5 r5 hk=>?_) hr I4 (ItS.mono (g:=g2) ⟨fun _ _ e=>e,fun _ _ e=>e⟩ hd i2) G.hide_self
  have aw:=I5.has.away (all_cons (AA d5) i5.at)
  obtain ⟨hd',H',le',e'⟩:=I5.has.back (its:=D::its) (own:=[C]) (s':={ s' with heap:=h' }) (lg.trans le) (all_cons hgD new) (fun b o hb e=>hk b o (ntl hb) e) aw
  have F:DD c.T ⟨g'.fz,hd',g'.mu⟩ D:=⟨(aw D (.head _)).1,(le'.hid D fun q=>hC (List.mem_singleton.mp q)).trans hgD,(aw D (.head _)).2.1,(aw D (.head _)).2.2⟩
  exact I5.loc.ns _ fun m' h1 _=>fin ⟨g'.fz,hd',g'.mu⟩ _ D C m' le' hgC (h1.to fun o e=>(e' C fun q=>(List.mem_cons.mp q).elim (fun q=>hC q.symm) fun q=>nC q rfl).trans e) fun R_ kk=>kk _ D xs m (.refl _ _) H' F (hk D _ hD (I5.has.hd _ _ d5)) (Am.eta r5) hl
 exact codeAny_compStart_list loop (wpAny_mono (self c.toAr _ _ _ H4 hd _ loop) (fun _ _ h=>h) fun _ _ h=>h.elim)
theorem SL.comp (hI:SI n it ρ σ vs kps σ₁) (hr:F8 n elt ts ifs kps ρ σ' vs σ₁ ws) (hl:ws.length<=line):SL n (.comp elt ts it ifs) ρ σ ws σ':=fun c g s ex hc I=>hc (fun ex=>c.wp (eval ex c.env) (By c.toAr g σ' ws) s) fun x t i cs sc p h1 h2 h4 h5 h6=>AU (eval_ListComp ..)
 (comp_run hI hr hl h1 h2.1 h2.2 h4 h5 h6 I fun g2 s2 D C m le hC hns hN=>hN (fun X=>compPost (model c.T.prog c.T.w) c.A (fun _ _=>False) none (By c.toAr g σ' ws) X C (.ok .next) s2) fun g3 a xs m' le3 H3 F ho hr hl=>by
  have hn:=hns.to (f':=g3.hid) fun o e=>(le3.hid C List.not_mem_nil).trans e
  refine ⟨m,hn.heap H3,fun h' hs R_ k=>?_⟩
  obtain ⟨o,_,_,e,_⟩:=hn
  obtain ⟨hd,H',le',e'⟩:=H3.back (its:=[C]) (own:=[]) (s':={ s2 with heap:=h' }) (le.trans le3.toO) (A8 hC) (fun b o hb e=>(hs.2 b (nhd hb)).trans e) (H3.away (A8 (AA e)))
  have ne:a≠C:=fun q=>Aq F.hid (q▸e)
  exact k _ a xs m' le' H' ⟨F.fz,(e' a fun q=>ne (List.mem_singleton.mp q)).trans F.hid,F.mu,F.tab⟩ ((hs.2 a ne).trans ho) (Am.eta hr) hl)
theorem comp_swaps {nm:Str} {p vp:Pos} {x t i:Expr} {cs:List Expr} {sc:Scope} {l:Nat} (X:CxOk n c) (h:swapC c.K nm p (.ListComp x [⟨t,i,cs,0⟩] sc vp)=true):swapsWith (.ListComp x [⟨t,i,cs,0⟩] sc vp) (some (.Name nm p)) l c.env=pure true:=by
 have h1:=Bool.and_eq_true_iff.mp h
 have h2:=Bool.and_eq_true_iff.mp h1.2
 show (pure (c.env.blockKind == .function&&c.env.kindOf nm == some .local&&p.line == vp.line && !(sc.names.any fun q=>q.1 == nm&&(q.2 == .local||q.2 == .cell))):Sem Bool)=_
 rw [show (c.env.blockKind == .function)=true by unfold Env.blockKind; rw [X.kind]; rfl,AE X.names,of_decide_eq_true h1.1,of_decide_eq_true h2.1,h2.2,beq_self_eq_true,beq_self_eq_true]; rfl
theorem comp_arm {nm:Str} {p vp p':Pos} {x t i:Expr} {cs:List Expr} {sc:Scope} {env:Env} (h:∀ l,swapsWith (.ListComp x [⟨t,i,cs,0⟩] sc vp) (some (.Name nm p)) l env=pure true):exec (.Assign [.Name nm p] (.ListComp x [⟨t,i,cs,0⟩] sc vp) p') env =
 (standAt p'>>=fun _=>(comprehension (.ListComp x [⟨t,i,cs,0⟩] sc vp) sc env (firstIterPos [⟨t,i,cs,0⟩] vp) (newList []) false (eval i env) (some fun v=>assign (.Name nm p) env v)>>=fun _=>pure ())>>=fun _=>pure Flow.next):=by
 rw [arm_exec_Assign]
 show (standAt p'>>=fun _=>swapsWith (.ListComp x [⟨t,i,cs,0⟩] sc vp) (some (.Name nm p)) p'.line env>>=_)=_
 rw [h]
 have hall:∀ v,assignAll v [assign (.Name nm p) env]=assign (.Name nm p) env v:=fun v=>by first | rfl | (unfold assignAll; rfl)
 rw [<-funext hall]
 rfl
theorem SS.asgC (hI:SI n it ρ σ vs kps σ₁) (hr:F8 n elt ts ifs kps ρ σ' vs σ₁ ws) (hl:ws.length<=line) (hv:∀ {r:Ar} {g X s},By r g σ' ws X s->Ans r g v σ2 X s) (hq:Q (.next (ρ.set k (some v))) σ2):SS n (.asg k (.comp elt ts it ifs)) ρ σ Q:=fun c g s st hc I=>hc (fun st=>c.wp (exec st c.env) (Bu n c g Q) s) fun nm p ex p' h1 h2 h3=>by
 refine h2 (fun ex=>swapC c.K nm p ex=true->c.wp (exec (.Assign [.Name nm p] ex p') c.env) (Bu n c g Q) s) (fun x t i cs sc vp k1 k2 k4 k5 k6 h3=>?_) h3
 refine AU (comp_arm fun l=>comp_swaps I.cx h3) (wpAny_bind (wpAny_standAt (wpAny_bind (wpAny_bind (comp_run (Q:=fun _ s'=>wpAny _ _ (pure ()) (fun _ s'=>wpAny _ _ (pure Flow.next) (Bu n c g Q) (fun _ _=>False) s') (fun _ _=>False) s') hI hr hl k1 k2.1 k2.2 k4 k5 k6 I fun g2 s2 D C m le hC hns hN=>?_)))))
 refine hv hN _ fun g3 le3 H3 r3=>?_
 have l3:=le.trans le3.toO
 have ni:C∉c.own:=fun q=>I.loc.ow C q hC
 refine (I.far I.loc (A8 hC) l3 H3).asgn h1 r3 fun g4 s4 le4 _ I4=>?_
 have hn:=hns.to (f':=g4.hid) fun o e=>(le4.hid C ni).trans ((le3.hid C List.not_mem_nil).trans e)
 refine ⟨m,hn.heap I4.has,fun h' hs=>wpAny_pure (wpAny_pure fun R_ k1 _=>?_)⟩
 obtain ⟨o,_,_,e,_⟩:=hn
 obtain ⟨hd,H',le',e'⟩:=I4.has.back (its:=[C]) (own:=c.own) (s':={ s4 with heap:=h' }) ⟨l3.toup.trans le4.toup,fun b hb=>(le4.hid b fun q=>hb (.tail _ q)).trans (l3.hid b fun q=>hb (List.mem_singleton.mp q▸.head _))⟩ (A8 hC) (fun b o hb e=>(hs.2 b (nhd hb)).trans e) (I4.has.away (A8 (AA e)))
 exact k1 _ σ2 _ hq le' (I4.far I.loc (A8 hC) ⟨⟨fun _ _ e=>e,fun _ _ e=>e⟩,e'⟩ H')
end
end Mine
namespace Mine
open PySem PySem.Calls
theorem CW {n:Str}:∀ {names:List (Str×NameKind)} {k:Nat} {acc:List (Str×Addr)},(∃ c,(n,c)∈acc)->∃ c,(n,c)∈cellsFrom k names acc
 | [],_,_,h=>h
 | (m,kd)::r,k,acc,h=>by
  show ∃ c,(n,c)∈(if (kd == .cell)=true then cellsFrom (k+1) r ((m,k)::acc) else cellsFrom k r acc)
  by_cases q:(kd == .cell)=true
  ·rw [if_pos q]; exact CW (names:=r) (h.imp fun c h=>.tail _ h)
  ·rw [if_neg q]; exact CW (names:=r) h
theorem BG {n:Str}:∀ {names:List (Str×NameKind)} {k:Nat} {acc:List (Str×Addr)},(n,NameKind.cell)∈names->∃ c,(n,c)∈cellsFrom k names acc
 | [],_,_,h=>nomatch h
 | (m,kd)::r,k,acc,h=>by
  show ∃ c,(n,c)∈(if (kd == .cell)=true then cellsFrom (k+1) r ((m,k)::acc) else cellsFrom k r acc)
  rcases List.mem_cons.mp h with h | h
  ·rw [<-(Prod.mk.inj h).1,<-(Prod.mk.inj h).2]; exact CW (names:=r) ⟨k,.head _⟩
  ·by_cases q:(kd == .cell)=true
   ·rw [if_pos q]; exact BG (names:=r) h
   ·rw [if_neg q]; exact BG (names:=r) h
section
variable {kf:Str->Option NameKind} {n:Str} {v:Value}
theorem bind_out:∀ {bs:List (Str×Value)} {m:Str->Option Value},(∀ p,p∈bs->p.1≠n)->bindL kf bs m n=m n/\bindC kf bs m n=m n
 | [],m,_=>⟨rfl,rfl⟩
 | (k,v)::r,m,h=>by
  have ne:n≠k:=fun q=>h (k,v) (.head _) q.symm
  have ih:=fun m=>bind_out (bs:=r) (m:=m) fun p hp=>h p (.tail _ hp)
  show bindL kf r (if kf k=some .local then fun y=>if y=k then some v else m y else m) n=m n/\bindC kf r (if kf k=some .local then m else fun y=>if y=k then some v else m y) n=m n
  rw [(ih _).1,(ih _).2]
  by_cases q:kf k=some .local
  ·rw [if_pos q,if_pos q]; exact ⟨if_neg ne,rfl⟩
  ·rw [if_neg q,if_neg q]; exact ⟨rfl,if_neg ne⟩
theorem Fu:∀ {ns:List Str} {vs:List Value} {m:Str->Option Value} {i:Nat},ns.Nodup->ns[i]? = some n->vs[i]? = some v ->
 (kf n=some .local->bindL kf (ns.zip vs) m n=some v)/\(kf n≠some .local->bindC kf (ns.zip vs) m n=some v)
 | [],_,_,_,_,h1,_=>Ac h1
 | _::_,[],_,_,_,_,h2=>Ac h2
 | k::ns,w::vs,m,0,hn,h1,h2=>by
  obtain rfl:=Option.some.inj h1; obtain rfl:=Option.some.inj h2
  have out:∀ m,_:=fun m=>bind_out (kf:=kf) (n:=k) (m:=m) (bs:=ns.zip vs) fun p hp q=>(List.nodup_cons.mp hn).1 (q▸(List.of_mem_zip (a:=p.1) (b:=p.2) hp).1)
  refine ⟨fun hk=>(out _).1.trans ?_,fun hk=>(out _).2.trans ?_⟩
  ·rw [if_pos hk]; exact if_pos rfl
  ·rw [if_neg hk]; exact if_pos rfl
 | k::ns,w::vs,m,i+1,hn,h1,h2=>⟨(Fu (ns:=ns) (vs:=vs) (i:=i) (List.nodup_cons.mp hn).2 h1 h2).1,(Fu (ns:=ns) (vs:=vs) (i:=i) (List.nodup_cons.mp hn).2 h1 h2).2⟩
end
noncomputable def RetIs (v:V) (σ':Ab) (fl:Fl) (σ:Ab):Prop:=(match fl with | .next _=>v=.d .none | .ret u=>v=u)/\σ'=σ
noncomputable def B6 (fn:Fn) (xs:List V):Af:=xs.map some++List.replicate (fn.nv-fn.np) none
theorem begin_get {fn:Fn} {xs:List V} {i:Nat} {v:V} (h:(B6 fn xs)[i]? = some (some v)):xs[i]? = some v:=by
 unfold B6 at h
 by_cases hi:i < xs.length
 ·rw [List.getElem?_append_left (by rw [List.length_map]; exact hi),List.getElem?_map,List.getElem?_eq_getElem hi] at h
  rw [List.getElem?_eq_getElem hi]; exact Option.some.inj h
 ·rw [List.getElem?_append_right (by rw [List.length_map]; exact Nat.le_of_not_lt hi),List.getElem?_replicate] at h
  exact Ac (AS h).2
section
variable {n f:Nat} {fn:Fn} {xs:List V} {σ σ':Ab} {v:V} {r:Ar} {g:G} {s s₁:Shared} {a:Addr} {Xs:List Value} {fd:FuncData} {body:List Stmt} {o:Obj} {vars:List Str} {lam:Option (Addr×Str)}
noncomputable abbrev CO (env:Env):List Addr:=env.locals::env.scope.names.filterMap fun p=>env.cells.lookup p.1
noncomputable abbrev callC (r:Ar) (env:Env) (vars:List Str) (lam:Option (Addr×Str)):Cx:=⟨⟨r.T,env::r.fe,r.A.deeper env⟩,⟨vars,env.scope.names,vars,glP,lam⟩,env,CO env⟩
theorem call_inv {env:Env} (F:FnIs r.T glP fn a fd body o vars lam) (hn:1<=n) (hl:xs.length=fn.np) (aok:ProgOk r.T) (afr:r.A.frames=some r.fe) (adp:r.A.depth+(n+1)<=600) (aun:r.A.units+100 * (n+1)<=9000) (ahh:HOk g r.A) (H:Has r.T g σ s) (R:Am r.T g xs Xs) (hE:env=callEnvC fd s.heap.objs.size a)
 (ic:InCallC s env.locals (bindL env.kindOf ((vars.take fn.np).zip Xs) fun _=>none) env.cells (bindC env.kindOf ((vars.take fn.np).zip Xs) fun _=>none) s₁):∃ g₁,Inv n (callC r env vars lam) (B6 fn xs) g₁ σ s₁/\G.le (CO env) g g₁/\∀ c,c∈CO env->g.hid c=none:=by
 have esc:env.scope=fd.scope:=by rw [hE]; rfl
 have eloc:env.locals=s.heap.objs.size:=by rw [hE]; rfl
 have new:∀ c,c∈CO env->s.heap.get? c=none:=all_cons (eloc▸Bl _) fun c hc=>by
  obtain ⟨p,_,hp⟩:=List.mem_filterMap.mp hc
  exact Heap.get?_none_of_le (Nat.le_of_lt (eloc▸ic.above p.1 c (AW hp)))
 obtain ⟨h₁,tk,hs⟩:=ic.toInCall.same
 have H1:=H.newL (s':=s₁) new ic.toInCall.keep (by rw [hs]) (by rw [hs])
 have le:G.le (CO env) g ⟨g.fz,fun c=>if c∈CO env then s₁.heap.get? c else g.hid c,g.mu⟩:=⟨⟨fun _ _ e=>e,fun _ _ e=>e⟩,fun c hc=>if_neg hc⟩
 have hd:∀ {c},c∈CO env->∀ o,s₁.heap.get? c=some o->(if c∈CO env then s₁.heap.get? c else g.hid c)=some o:=fun hc o e=>(if_pos hc).trans e
 have kd:∀ x,env.kindOf x=fd.scope.names.lookup x:=fun x=>by unfold Env.kindOf; rw [esc]
 have mem:∀ {x c k},fd.scope.names.lookup x=some k->env.cells.lookup x=some c->c∈CO env:=fun {x c k} h e=>.tail _ (List.mem_filterMap.mpr ⟨(x,k),esc▸AW h,e⟩)
 have hnd:=List.Nodup.sublist (List.take_sublist fn.np vars) F.nd
 have par:∀ {i x v},vars[i]? = some x->(B6 fn xs)[i]? = some (some v)->∃ X,((env.kindOf x=some .local->bindL env.kindOf ((vars.take fn.np).zip Xs) (fun _=>none) x=some X)/\(env.kindOf x≠some .local->bindC env.kindOf ((vars.take fn.np).zip Xs) (fun _=>none) x=some X))/\An r.T g v X:=fun {i x v} e1 e2=>by
  have e3:=begin_get e2
  obtain ⟨X,e4,rX⟩:=R.get e3
  have hi:i < fn.np:=hl▸(List.getElem?_eq_some_iff.mp e3).1
  exact ⟨X,Fu hnd (by rw [List.getElem?_take_of_lt hi]; exact e1) e4,rX⟩
 refine ⟨_,⟨⟨aok,?_,⟨env,r.fe,rfl,(by rw [esc,F.kind]; exact fun q=>nomatch q),esc▸F.gen,esc▸F.cor,by rw [hE]; exact F.blt,by rw [hE]; exact F.glob⟩,?_,?_,ahh,H1⟩,⟨aok.toReady,rfl,esc▸F.kind,by rw [hE]; exact F.glob,by rw [hE]; exact F.blt,fun m m' c h h'=>name_of_addr ic.apart (AW h) (AW h'),F.nd,.head _,fun m _ c hk hc=>mem ((kd m).symm.trans hk) hc,fun t q h=>?_⟩,⟨fun R_ k=>k (bindL env.kindOf ((vars.take fn.np).zip Xs) fun _=>none) ?_ fun i nm u e1 e2 e3=>?_,fun nm hk R_ k=>?_,fun c hc=>?_⟩⟩,le,fun c hc=>(H.free (new c hc)).hid⟩
 ·show r.A.frames.map _=_
  rw [afr]; rfl
 ·show r.A.depth+1+n<=600
  rw [Nat.add_assoc,Nat.add_comm 1 n]; exact adp
 ·show r.A.units+3+100 * n<=9000
  have:=aun
  rw [Nat.mul_add] at this
  exact Nat.le_trans (by rw [Nat.add_assoc,Nat.add_comm 3]; exact Nat.add_le_add_left (Nat.add_le_add_left (by decide) _) _) this
 ·obtain ⟨h1,h2,h3⟩:=F.lam t q h
  exact ⟨hn,h1,by rw [hE]; exact h2,by rw [hE]; exact h3⟩
 ·exact NsF.to (f:=s₁.heap.get?) ic.toInCall.ns (hd (.head _))
 ·obtain ⟨X,h,rX⟩:=par e1 e2
  exact ⟨X,h.1 e3,An.mono le.toup _ _ rX⟩
 ·have hc:fd.scope.names.lookup nm=some .cell:=by
   rw [kd] at hk
   exact hk.elim id fun q=>absurd rfl (F.nof _ (AW q))
  obtain ⟨c,h⟩:=BG (k:=s.heap.objs.size+1) (acc:=[]) (AW hc)
  obtain ⟨c,h⟩:=EZ h
  have h:env.cells.lookup nm=some c:=by rw [hE]; exact h
  refine k c _ h (CellF.to (f:=s₁.heap.get?) (ic.cell nm c h) (hd (mem hc h))) fun i u e1 e2=>?_
  obtain ⟨X,q,rX⟩:=par e1 e2
  exact ⟨X,q.2 (by rw [kd,hc]; exact fun q=>nomatch q),An.mono le.toup _ _ rX⟩
 ·rw [show (callC r env vars lam).own=CO env from rfl] at hc
  show (if c∈CO env then s₁.heap.get? c else g.hid c)≠none
  rw [if_pos hc]
  rcases List.mem_cons.mp hc with q | q
  ·obtain ⟨o,_,_,e,_⟩:=ic.toInCall.ns
   rw [q,e]; exact fun q=>nomatch q
  ·obtain ⟨p,_,hp⟩:=List.mem_filterMap.mp q
   obtain ⟨o,e,_⟩:=ic.cell p.1 c hp
   rw [e]; exact fun q=>nomatch q
theorem FN.run (hP:Pg f=some fn) (hl:xs.length=fn.np) (hb:SSs n fn.body (B6 fn xs) σ (RetIs v σ')) (hn:1<=n) (hf:r.T.fn f=some a) (aok:ProgOk r.T) (afr:r.A.frames=some r.fe) (adp:r.A.depth+(n+1)<=600) (aun:r.A.units+100 * (n+1)<=9000) (ahh:HOk g r.A) (H:Has r.T g σ s) (R:Am r.T g xs Xs):r.wp (call (.ref a) Xs) (Ans r g v σ') s:=aok.fns f fn a hP hf _ fun fd body o vars lam F=>by
 have hz:=fun b o e=>H.fz b o (H.base b o e)
 refine wpAny_call (codeAny_call_cells (Nat.lt_of_le_of_lt (Nat.le_trans (Nat.le_add_right _ _) adp) (by decide)) (hz _ _ F.ob) F.data (aok.ok.nolimit.keeps hz) (F.code.keeps hz) F.bd (F.bind Xs (R.length.symm.trans hl)) F.clo (fun p hp=>?_) (fun s₁ ic=>?_) F.cor F.gen F.kind)
 ·refine (F.par p.1 (List.of_mem_zip (a:=p.1) (b:=p.2) hp).1).imp id fun h=>⟨h,?_⟩
  obtain ⟨c,q⟩:=BG (k:=s.heap.objs.size+1) (acc:=[]) (AW h)
  obtain ⟨c,q⟩:=EZ q
  rw [q]; rfl
 ·obtain ⟨g₁,I,le,new⟩:=call_inv F hn hl aok afr adp aun ahh H R rfl ic
  have done:∀ {g2 s2 x},G.le (CO (callEnvC fd s.heap.objs.size a)) g₁ g2->Has r.T g2 σ' s2->(∀ c,c∈CO (callEnvC fd s.heap.objs.size a)->g2.hid c≠none)->An r.T g2 v x->Ans r g v σ' x s2:=fun {g2 s2 x} l H2 w rx=>by
   obtain ⟨hd,H',le',_⟩:=H2.back (its:=CO (callEnvC fd s.heap.objs.size a)) (own:=[]) (s':=s2) (List.append_nil _▸le.trans l) new (fun _ _ _ e=>e) (H2.away w)
   exact .mk _ le' H' (An.eta rx)
  have is:IsSs fn.body (callC r (callEnvC fd s.heap.objs.size a) vars lam).K body:=F.is
  refine wpAny_mono (hb _ g₁ s₁ body is I) (fun fl s2 p=>p.elim (fun ρ σ2 g2 e q l I2=>?_) fun u x σ2 g2 e q l H w rx=>?_) fun _ _ h=>h.elim
  ·obtain ⟨q1,rfl⟩:=q
   subst e
   exact done l I2.has I2.loc.ow (q1▸rfl)
  ·obtain ⟨q1,rfl⟩:=q
   subst e
   exact done l H w (q1▸rx)
theorem FN.of (hP:Pg f=some fn) (hl:xs.length=fn.np) (hb:SSs n fn.body (B6 fn xs) σ (RetIs v σ')) (hn:1<=n):FN (n+1) f xs σ v σ':=fun r g s a Xs hf A R=>FN.run hP hl hb hn hf A.ok A.frames A.depth A.units A.hh A.has R
end
end Mine
namespace Mine
open PySem PySem.Calls
noncomputable def low (m:Nat):V->Prop
 | .ref k=>k < m
 | .tup ws=>∀ k,.inr k∈ws->k < m
 | .obj ks=>∀ k,k∈ks->k < m
 | .pr x y=>low m x/\low m y
 | _=>True
noncomputable def FO (m:Nat):O->Prop
 | .list vs=>∀ v,v∈vs->low m v
 | _=>True
noncomputable def G.seal (g:G) (m:Nat) (h:Heap):G:=⟨fun a=>if a∈g.mu.drop m then h.get? a else g.fz a,g.hid,g.mu.take m⟩
noncomputable def SnR (σ:Ab) (m k:Nat) (d:PyData):Prop:=∃ ds,d=.list ds/\m<=k/\σ[k]? = some (.list (ds.map .d))
noncomputable def SnW (σ:Ab) (m:Nat):PyData ⊕ Nat->PyData->Prop
 | .inl x,d=>d=x
 | .inr k,d=>SnR σ m k d
noncomputable def Sn (σ:Ab) (m:Nat):V->PyData->Prop
 | .d x,d=>d=x
 | .ref k,d=>SnR σ m k d
 | .tup ws,d=>∃ ds,d=.tuple ds/\Au (SnW σ m) ws ds
 | _,_=>False
section
variable {T:Top} {g g':G} {σ τ σ':Ab} {s s':Shared} {v:V} {X:Value} {m n f:Nat} {h:Heap} {d:PyData} {xs:List V} {r:Ar}
theorem Au.mem {α β:Type} {R:α->β->Prop} {as:List α} {bs:List β} {a:α} (h:Au R as bs) (ha:a∈as):∃ b,R a b:=by
 obtain ⟨k,hk⟩:=List.mem_iff_getElem?.mp ha
 obtain ⟨b,_,r⟩:=h.get hk
 exact ⟨b,r⟩
theorem mu_lt {k:Nat} {a:Addr} (e:g.mu[k]? = some a):k < g.mu.length:=(List.getElem?_eq_some_iff.mp e).1
theorem rep_low:∀ {v:V} {X:Value},An T g v X->low g.mu.length v:=by
 intro v
 induction v with
 | ref k=>intro X rx; obtain ⟨a,e,_⟩:=rx; exact mu_lt e
 | tup ws=>intro X rx; exact rx (fun _=>_) fun a o vs n h1 h2 h3 h4 h5 k hk=>by obtain ⟨b,a,e,_⟩:=h4.mem hk; exact mu_lt e
 | obj ks=>intro X rx; exact rx (fun _=>_) fun a d o mA _ _ _ _ _ _ _ h k hk=>by obtain ⟨b,a,e,_⟩:=h.mem hk; exact mu_lt e
 | pr x y ix iy=>intro X rx; exact rx (fun _=>_) fun a o vs n _ _ _ h4 _=>by obtain ⟨a',b',_,r1,r2⟩:=h4; exact ⟨ix r1,iy r2⟩
 | _=>intro X rx; trivial
theorem rep_lowO {o:O} {x:Obj} (rx:D0 T g o x):FO g.mu.length o:=by
 cases o with
 | list vs=>exact rx (fun _=>_) fun xs m hr _ v hv=>by obtain ⟨b,e⟩:=hr.mem hv; exact rep_low e
 | _=>trivial
theorem C8 (H:Has T g σ s):FzLe g.fz (g.seal m h).fz:=fun a o e=>(if_neg fun (q:a∈g.mu.drop m)=>Aq (H.ap a (List.mem_of_mem_drop q)) e).trans e
theorem seal_mu {k:Nat} {a:Addr} (hk:k < m) (e:g.mu[k]? = some a):(g.seal m h).mu[k]? = some a:=(List.getElem?_take_of_lt hk).trans e
theorem Au.imp {α β:Type} {R S:α->β->Prop}:∀ {as:List α} {bs:List β},(∀ a b,a∈as->R a b->S a b)->Au R as bs->Au S as bs
 | [],[],_,_=>trivial
 | _::_,_::_,h,x=>⟨h _ _ (.head _) x.1,Au.imp (fun a b ha=>h a b (.tail _ ha)) x.2⟩
 | [],_::_,_,x=>x.elim
 | _::_,[],_,x=>x.elim
structure G.upTo (m:Nat) (g g':G):Prop where
 fz:FzLe g.fz g'.fz
 mu:∀ (k:Nat) (a:Addr),k < m->g.mu[k]? = some a->g'.mu[k]? = some a
theorem rep_to (up:G.upTo m g g') (hl:low m v) (rx:An T g v X):An T g' v X:=by
 induction v generalizing X with
 | d y=>exact A2.mono up.fz _ _ rx
 | ref k=>obtain ⟨a,e,q⟩:=rx; exact ⟨a,up.mu k a hl e,q⟩
 | tup ws=>exact BP.mono up.fz (fun vs=>Au.imp fun w v hw r=>by
  cases w with
  | inl y=>exact A2.mono up.fz _ _ r
  | inr k=>obtain ⟨a,e,q⟩:=r; exact ⟨a,up.mu k a (hl k hw) e,q⟩) rx
 | ty t=>exact rx
 | obj ks=>exact fun R_ k=>rx R_ fun a d o mA h1 h2 h3 h4 h5 h6 h7 h8=>k a d o mA (up.fz _ _ h1) h2 h3 h4 h5 (h6.to up.fz) h7 (Au.imp (fun k _ hk=>fun ⟨a,e,q⟩=>⟨a,up.mu k a (hl k hk) e,q⟩) h8)
 | pr x y ix iy=>exact BP.mono up.fz (fun vs=>fun ⟨a,b,e,h1,h2⟩=>⟨a,b,e,ix hl.1 h1,iy hl.2 h2⟩) rx
theorem rep_toO {o:O} {x:Obj} (up:G.upTo m g g') (hl:FO m o) (rx:D0 T g o x):D0 T g' o x:=by
 cases o with
 | list vs=>exact fun R_ k=>rx R_ fun xs m hr hz=>k xs m (Au.imp (fun v x hv r=>rep_to up (hl v hv) r) hr) hz
 | dictS kvs=>exact fun R_ k=>rx R_ fun es ep ws ho hd hk hp hn hr hl=>k es ep ws ho hd hk hp hn (Au.mono (fun d v r=>⟨r.1,A2.mono up.fz _ _ r.2⟩) hr) hl
 | dictP kvs=>exact fun R_ k=>rx R_ fun es ep ws ho hd he hn hr hl=>k es ep ws ho hd he hn (Au.mono (fun d v r=>⟨r.1,A2.mono up.fz _ _ r.2.1,A2.mono up.fz _ _ r.2.2⟩) hr) hl
theorem seal_up (H:Has T g σ s):G.upTo m g (g.seal m h):=⟨C8 H,fun _ _ hk e=>seal_mu hk e⟩
theorem rep_seal (H:Has T g σ s) (hl:low m v) (rx:An T g v X):An T (g.seal m h) v X:=rep_to (seal_up H) hl rx
theorem rep_sealO {o:O} {x:Obj} (H:Has T g σ s) (hl:FO m o) (rx:D0 T g o x):D0 T (g.seal m h) o x:=rep_toO (seal_up H) hl rx
theorem EJ {a:Addr} (hn:g.mu.Nodup) (h1:a∈g.mu.take m) (h2:a∈g.mu.drop m):False:=by
 have h:=List.nodup_append.mp ((List.take_append_drop m g.mu).symm▸hn)
 exact h.2.2 a h1 a h2 rfl
theorem Has.seal (H:Has T g (σ++τ) s) (hl:∀ (k:Nat) o,σ[k]? = some o->FO σ.length o):Has T (g.seal σ.length s.heap) σ s:=by
 have out:∀ {a},a∉g.mu->(g.seal σ.length s.heap).fz a=g.fz a:=fun h=>if_neg fun q=>h (List.mem_of_mem_drop q)
 refine ⟨fun a o e=>?_,H.hd,?_,List.Nodup.sublist (List.take_sublist _ _) H.nd,fun a ha=>(if_neg fun q=>EJ H.nd ha q).trans (H.ap a (List.mem_of_mem_take ha)),fun a o e=>⟨(out (H.ah a o e).2).trans (H.ah a o e).1,fun q=>(H.ah a o e).2 (List.mem_of_mem_take q)⟩,fun k a o e1 e2 R_ kk=>?_,fun a o e=>C8 H a o (H.base a o e),fun t q ht R_ kk=>H.tb t q ht R_ fun ps h1 h2 h3 h4 h5 h6=>kk ps ((out h3).trans h1) h2 (fun q=>h3 (List.mem_of_mem_take q)) h4 h5 fun pos cv e=>?_,H.gens,H.os⟩
 ·have e:(if a∈g.mu.drop σ.length then s.heap.get? a else g.fz a)=some o:=e
  by_cases q:a∈g.mu.drop σ.length
  ·rw [if_pos q] at e; exact e
  ·rw [if_neg q] at e; exact H.fz a o e
 ·show (g.mu.take σ.length).length=_
  rw [List.length_take,H.len,List.length_append]; exact Nat.min_eq_left (Nat.le_add_right _ _)
 ·have hk:k < σ.length:=(List.getElem?_eq_some_iff.mp e2).1
  have e1:(g.mu.take σ.length)[k]? = some a:=e1
  rw [List.getElem?_take_of_lt hk] at e1
  exact H.ob k a o e1 ((List.getElem?_append_left hk).trans e2) R_ fun x h1 h2=>kk x h1 (rep_sealO H (hl k o e2) h2)
 ·obtain ⟨c,o,vs,u,q1,q2,q3⟩:=h6 pos cv e
  exact ⟨c,o,vs,u,q1,C8 H _ _ q2,q3⟩
theorem snR_rep {k:Nat} (H:Has T g σ s) (h:SnR σ m k d) (rx:∃ a,g.mu[k]? = some a/\X=.ref a):A2 (g.seal m s.heap).fz d X:=by
 obtain ⟨a,e,rfl⟩:=rx
 obtain ⟨ds,rfl,hm,hs⟩:=h
 have ha:a∈g.mu.drop m:=List.mem_of_getElem? (i:=k-m) (by rw [List.getElem?_drop,Nat.add_sub_cancel' hm]; exact e)
 exact H.lst e hs fun xs n ho hr hn hz=>fun R_ kk=>kk a _ xs n ((if_pos ha).trans ho) rfl rfl (RepDs.mono (C8 H) _ _ (Am.toD hr)) (by rw [<-List.length_map (f:=V.d)]; exact hz)
theorem sn_rep (H:Has T g σ s) (h:Sn σ m v d) (rx:An T g v X):A2 (g.seal m s.heap).fz d X:=by
 cases v with
 | d y=>obtain rfl:d=y:=h; exact A2.mono (C8 H) _ _ rx
 | ref k=>exact snR_rep H h rx
 | tup ws =>
  obtain ⟨ds,rfl,h⟩:=h
  have key:∀ {ws:List (PyData ⊕ Nat)} {ds:List PyData} {vs:List Value},Au (Gf g) ws vs->Au (SnW σ m) ws ds->Au (A2 (g.seal m s.heap).fz) ds vs:=by
   intro ws
   induction ws with
   | nil=>intro ds vs h1 h2; rw [h1.nil,h2.nil]; exact trivial
   | cons w ws ih =>
    intro ds vs h1 h2
    obtain ⟨v,vs,rfl,r1,r2⟩:=h1.cons
    obtain ⟨d,ds,rfl,q1,q2⟩:=h2.cons
    refine ⟨?_,ih r2 q2⟩
    cases w with
    | inl y=>obtain rfl:d=y:=q1; exact A2.mono (C8 H) _ _ r1
    | inr k=>exact snR_rep H q1 r1
  exact rx _ fun a o vs n h1 h2 h3 h4 h5 R_ kk=>kk a o vs n (C8 H _ _ h1) h2 h3 (.of (key h4 h)) (by rw [(key h4 h).length,<-h4.length]; exact h5)
 | ty _=>exact h.elim
 | obj _=>exact h.elim
 | pr _ _=>exact h.elim
theorem FN.seal' (hf:FN n f xs σ v (σ'++τ)) (hl:σ'.length=σ.length) (hw:∀ (k:Nat) o,σ'[k]? = some o->FO σ'.length o) (hd:Sn (σ'++τ) σ'.length v d):FN n f xs σ (.d d) σ':=fun r g s a Xs h A R=>wpAny_mono (hf r g s a Xs h A R) (fun X s' p=>p _ fun g' le H rX =>
 .mk (g'.seal σ'.length s'.heap) ⟨⟨fun a o e=>C8 H a o (le.fz a o e),fun k a e=>seal_mu (hl▸A.has.len▸mu_lt e) (le.mu k a e)⟩,le.hid⟩ (H.seal hw) (sn_rep H hd rX)) fun _ _ h=>h
theorem has_low (H:Has T g σ s) (k:Nat) (o:O) (e:σ[k]? = some o):FO σ.length o:=H.len▸H.ob k (g.mu[k]'(H.len▸(List.getElem?_eq_some_iff.mp e).1)) o (List.getElem?_eq_getElem _) e _ fun x _ hx=>rep_lowO hx
theorem FN.seal (hf:FN n f xs σ v (σ++τ)) (hd:Sn (σ++τ) σ.length v d):FN n f xs σ (.d d) σ:=fun r g s a Xs h A R=>FN.seal' hf rfl (has_low A.has) hd r g s a Xs h A R
end
end Mine
namespace Mine
open PySem PySem.Calls
section
variable {n:Nat} {T:Top} {r:Ar} {c:Cx} {ρ:Af} {g g' g₁:G} {σ σ' σ₁ σ2 σ3:Ab} {s s':Shared} {e a b:E} {x y v:V} {ws us:List V} {X:Value} {ks:List Nat} {k i f:Nat} {nm:Str}
theorem obj_rep (H:Has T g σ s) (rx:An T g (.obj ks) X) {R_:Value->Prop} (k:∀ a mA,s.heap.Inst a T.cls mA->(∀ nm,nm∉Cu->mA nm=none)->Au (fun (k:Nat) (nm:Str)=>∃ a,g.mu[k]? = some a/\mA nm=some (.ref a)) ks Cu->R_ (.ref a)):R_ X :=
 rx R_ fun a d o mA h1 h2 h3 h4 h5 h6 h7 h8=>k a mA ⟨o,H.fz _ _ h1,h2,h3,.inr ⟨d,h4,h5,h6.to H.fz⟩⟩ h7 h8
theorem att_none (h:nm∈Cu):typeLookup (.type "object") nm=pure none:=by
 rcases List.mem_cons.mp h with rfl | h
 ·rw [typeLookup_type,builtinLookup_eq_fast]; kernel_rfl
 ·rcases List.mem_cons.mp h with rfl | h
  ·rw [typeLookup_type,builtinLookup_eq_fast]; kernel_rfl
  ·rw [List.mem_singleton.mp h,typeLookup_type,builtinLookup_eq_fast]; kernel_rfl
theorem attr_arm {n:Str} {p q:Pos} {nm:Str} {env:Env}:eval (.Attribute (.Name n p) nm q) env=(eval (.Name n p) env>>=fun o=>standAt q.atName>>=fun _=>holding [o] (getAttr o nm true)>>=fun r=>pure r):=rfl
theorem SE.attr (h:SE n (.var i) ρ σ (.obj ks) σ₁) (hi:Cu[f]? = some nm) (hk:ks[f]? = some k):SE n (.attr nm (.var i)) ρ σ (.ref k) σ₁:=fun c g s ex hc I=>hc (fun ex=>c.wp (eval ex c.env) (Ans c.toAr g (.ref k) σ₁) s) fun z q h1=>by
 refine h1 (fun z=>IsE (.var i) c.K z->c.wp (eval (.Attribute z nm q) c.env) (Ans c.toAr g (.ref k) σ₁) s) (fun m p _ h1=>?_) h1
 refine AU attr_arm (Bw h h1 I fun X g₁ s₁ le I1 r1=>wpAny_bind (wpAny_standAt (wpAny_bind (wpAny_holding ?_))))
 obtain ⟨N,mN,C,F⟩:=I1.ok.cls
 have hz:=fun b o e=>I1.has.fz b o (I1.has.base b o e)
 obtain ⟨x1,x2,x3,x4,x5,x6,x7,x8,x9,xa,xb,xc,hC⟩:=(C.keeps hz).obj
 have hm:=List.mem_of_getElem? hi
 refine obj_rep I1.has r1 (R_:=fun X=>c.wp (getAttr X nm true) (fun r s=>wpAny (model c.T.prog c.T.w) c.A (pure r) (Ans c.toAr g (.ref k) σ₁) (fun _ _=>False) s) s₁) fun a mA J hn h8=>?_
 obtain ⟨nm',e,a',e1,e2⟩:=h8.get hk
 obtain rfl:=Av hi e
 exact load_attr hC (C.keeps hz).ns F.ga (F.att _ hm) (att_none hm) J e2 rfl (wpAny_pure (.mk g₁ le (I1.has.tok (s':=⟨s₁.heap,s₁.gens,s₁.drawn,s₁.toks+1,s₁.os⟩)) ⟨a',e1,rfl⟩))
theorem mcall_arm {o:Expr} {nm:Str} {ap p:Pos} {vs:List Expr} {env:Env} {Q:Value->Shared->Prop} (hb:attributeBase o nm env (eval o env)=eval o env) (hf:methodCallForm (vs.length+([]:List Keyword).length) (backTo p (starEach vs env)) (backToKw p (keywordEach [] env))=true) (hl:(ap.endLine == p.line)=true)
 (h:r.wp (eval o env) (fun X s₁=>∀ pl,r.wp (getMethod X nm pl) (fun m s2=>r.wp (callWith p m.1 m.2 (backTo p (starEach vs env)) []) Q s2) s₁) s):r.wp (eval (.Call (.Attribute o nm ap) vs [] p) env) Q s:=by
 rw [arm_eval_Call,hb]
 refine wpAny_bind (wpAny_mono h (fun X s₁ h₁=>wpAny_bind (wpAny_standAt ?_)) fun _ _ e=>e)
 have hpos:methodCallPos true o env ap p=pure p:=by unfold methodCallPos; rw [hl]; rfl
 unfold methodCall
 rw [hf]
 refine wpAny_bind (wpAny_holding (wpAny_mono (h₁ _) (fun m s2 h2=>wpAny_bind (wpAny_of_eq hpos h2)) fun _ _ e=>e))
theorem few {vs:List Expr} {p:Pos} {env:Env} (h:ED b c.K vs) (hl:vs.length < 20):methodCallForm (vs.length+([]:List Keyword).length) (backTo p (starEach vs env)) (backToKw p (keywordEach [] env))=true:=by
 have e:=Ck p env h
 rw [List.any_eq_false] at e
 exact (Bool.and_eq_true _ _).mpr ⟨(Bool.and_eq_true _ _).mpr ⟨List.all_eq_true.mpr fun x hx=>by simpa using e x hx,rfl⟩,decide_eq_true (Nat.lt_trans hl (by decide))⟩
theorem SE.mcall (hb:Ez a) (hm:mtP nm=some f) (ha:SE n a ρ σ (.obj ks) σ₁) (hs:SEs n b ρ σ₁ ws σ2) (hf:FN n f (.obj ks::ws) σ2 v σ3):SE n (.mcall nm a b) ρ σ v σ3:=fun c g s ex hc I=>hc (fun ex=>c.wp (eval ex c.env) (Ans c.toAr g v σ3) s) fun z ap vs p h1 h2 h3 h4=>by
 refine mcall_arm (hb h1 _ _ _) (few h2 h4) (decide_eq_true h3) (wpAny_mono (ha c g s z h1 I) (fun X s₁ p1=>p1 _ fun g₁ le1 a₁ r1 pl=>?_) fun _ _ h=>h)
 have I1:=I.step le1 a₁
 obtain ⟨N,mN,C,F⟩:=I1.ok.cls
 have hz:=fun b o e=>I1.has.fz b o (I1.has.base b o e)
 obtain ⟨x1,x2,x3,x4,x5,x6,x7,x8,x9,xa,xb,xc,hC⟩:=(C.keeps hz).obj
 obtain ⟨na,fa,fo,e1,e2,e3,e4⟩:=F.mt nm f hm
 obtain ⟨o,fd,ho,hd⟩:=I.cx.rd.fnob f fa e1
 refine obj_rep I1.has r1 (R_:=fun X=>An c.T g₁ (.obj ks) X->c.wp (getMethod X nm pl) (fun m s2=>c.wp (callWith p m.1 m.2 (backTo p (starEach vs c.env)) []) (Ans c.toAr g v σ3) s2) s₁) (fun x mA J hn h8 r1=>?_) r1
 refine method_of hC (C.keeps hz).ns F.ga F.ge e2 (hz _ _ e3) e4 (typeLookup_type ..) J (hn nm na) ?_
 exact callWith_function (o:=o) (fd:=fd) (Dg (r:=c.toAr) h2 (wpAny_mono (hs c g₁ s₁ vs p h2 I1) (fun Ys s2 p2=>p2 _ fun g2 le2 a₂ r2=>⟨⟨(I1.step le2 a₂).base _ _ ho,hd⟩,Bv (r:=c.toAr) (le1.trans le2) (hf c.toAr g2 s2 fa (.ref x::Ys) e1 (I1.step le2 a₂).toAt ⟨An.mono le2.toup _ _ r1,r2⟩)⟩) fun _ _ h=>h))
end
end Mine
namespace Mine
open PySem PySem.Calls
noncomputable abbrev dObj:Obj:={ cls:=.type "dict",data:=.dict #[] }
section
variable {n:Nat} {r:Ar} {c:Cx} {ρ:Af} {g g' g₁:G} {σ σ' σ₁:Ab} {s s':Shared} {nm:Str}
theorem setd_arm {n nm:Str} {p1 p2 p3 p4:Pos} {env:Env}:exec (.Assign [.Attribute (.Name n p1) nm p2] (.Dict [] [] p3) p4) env=(standAt p4>>=fun _=>eval (.Dict [] [] p3) env>>=fun v=>assign (.Attribute (.Name n p1) nm p2) env v>>=fun _=>pure Flow.next):=by
 rw [arm_exec_Assign]
 rfl
structure Eg (T:Top) (s₀:Shared) (x dx L:Addr) (m mA:Str->Option Value) (ns:List Str) (Ds:List Addr) (s:Shared):Prop where
 nl:s.heap.Ns L m
 inst:s.heap.Inst x T.cls mA
 dict:∀ o,s.heap.get? x=some o->o.dict=some dx
 keep:∀ b o,s₀.heap.get? b=some o->s.heap.get? b=some o
 newX:s₀.heap.get? x=none
 newD:s₀.heap.get? dx=none
 lx:L≠x
 ld:L≠dx
 ds:∀ D,D∈Ds->s.heap.get? D=some dObj/\s₀.heap.get? D=none/\D≠x/\D≠dx
 nd:Ds.Nodup
 wi:Within mA ns
 gens:s.gens=s₀.gens
 os:s.os=s₀.os
theorem setd_step {T:Top} {env:Env} {v:Str} {x dx N:Addr} {m mN mA:Str->Option Value} {ns:List Str} {Ds:List Addr} {s₀:Shared} {p1 p2 p3 p4:Pos} {Q:Flow->Shared->Prop} {A:Around} (hk:env.scope.kind=.function) (hl:env.kindOf v=some .local) (hb:(v == ("__debug__" : Str))=false) (hm:m v=some (.ref x))
 (C:PyProof.Rows.ClsAt s₀.heap T.cls N mN) (F:ClsNs T mN) (hnm:nm∈Cu) (hz:ns.length<=sizeLine) (M:Eg T s₀ x dx env.locals m mA ns Ds s)
 (hq:∀ s' D,Eg T s₀ x dx env.locals m (fun y=>if y=nm then some (.ref D) else mA y) (nm::ns) (D::Ds) s'->Q .next s'):wpAny (model T.prog T.w) A (exec (.Assign [.Attribute (.Name v p1) nm p2] (.Dict [] [] p3) p4) env) Q (fun _ _=>False) s:=by
 rw [setd_arm]
 have old:∀ b o,s.heap.get? b=some o->(s.heap.push dObj).get? b=some o:=fun b o e=>Heap.get?_push_of_some _ e
 refine wpAny_bind (wpAny_standAt (wpAny_bind (wpAny_Dict_empty ?_)))
 rw [arm_assign_Attribute]
 refine wpAny_bind (wpAny_bind (wpAny_holding (wpAny_Name (wpAny_loadName_local hk hl (M.nl.keeps old) hm ?_) hb)))
 have C':=C.keeps fun b o e=>old b o (M.keep b o e)
 obtain ⟨x1,x2,x3,x4,x5,x6,x7,x8,x9,xa,xb,xc,hC⟩:=C'.obj
 obtain ⟨oC,eC⟩:∃ o,s₀.heap.get? T.cls=some o:=by
  obtain ⟨y1,y2,y3,y4,y5,y6,y7,y8,y9,ya,yb,yc,hC⟩:=C.obj
  exact ⟨_,hC⟩
 have xC:x≠T.cls:=fun q=>Aq M.newX (q▸eC)
 obtain ⟨ox,hx,_⟩:=id M.inst
 have hD:=M.dict ox hx
 refine wpAny_bind (wpAny_standAt (wpAny_bind (wpAny_holding (store_attr PySem.F.store_object hC C'.ns F.se (F.att _ hnm) (att_none hnm) xC (M.inst.keeps old) (fun h' tk' J kp hs=>wpAny_release (wpAny_pure (hq _ s.heap.objs.size ?_))) M.wi hz))))
 have ne:∀ {b},b≠x->b≠dx->∀ o,s.heap.get? b=some o->h'.get? b=some o:=fun {b} q1 q2 o e=>kp b o q1 (fun o₀ d e1 e2 q=>q2 (by rw [q]; exact Option.some.inj (e2.symm.trans ((Av (old _ _ hx) e1)▸hD)))) (old b o e)
 have dead:∀ {b o},s.heap.get? b=some o->s.heap.objs.size≠b:=fun e q=>by rw [<-q,Bl] at e; exact Ac e
 have ax:=dead hx
 obtain ⟨oD,eD⟩:∃ o,s.heap.get? dx=some o:=by
  obtain ⟨o,h1,_,_,h4 | ⟨d,h4,_,o',_,_,h5,_⟩⟩:=id M.inst
  ·exact Aq h4.1 (M.dict o h1)
  ·exact ⟨o',Av h4 (M.dict o h1)▸h5⟩
 have ad:=dead eD
 refine ⟨NsF.to (f:=s.heap.get?) M.nl (ne M.lx M.ld),J,fun o e=>?_,fun b o e=>ne (fun q=>Aq M.newX (q▸e)) (fun q=>Aq M.newD (q▸e)) o (M.keep b o e),M.newX,M.newD,M.lx,M.ld,all_cons ⟨kp _ _ ax (fun o₀ d e1 e2 q=>ad (by rw [q]; exact Av e2 ((Av (old _ _ hx) e1)▸hD))) (Heap.get?_push_size _ rfl),GB fun o e=>dead (M.keep _ _ e) rfl,ax,ad⟩ fun D h=>?_,List.nodup_cons.mpr ⟨fun q=>dead (M.ds _ q).1 rfl,M.nd⟩,M.wi.cons nm _,M.gens,M.os⟩
 ·obtain ⟨o1,e₁,_,_,_,hd⟩:=hs ox (old _ _ hx)
  exact Av e₁ e▸hd dx hD
 ·obtain ⟨q1,q2,q3,q4⟩:=M.ds D h
  exact ⟨ne q3 q4 _ q1,q2,q3,q4⟩
end
end Mine
namespace Mine
open PySem PySem.Calls
noncomputable def initS:S:=.cons (.setd 0 (Str.ofString "held")) (.cons (.setd 0 (Str.ofString "grounds")) (.cons (.setd 0 (Str.ofString "heights")) .nil))
section
variable {n f nv:Nat} {T:Top} {r:Ar} {c:Cx} {ρ:Af} {g g' g₁:G} {σ σ' σ₁:Ab} {s s':Shared} {nm:Str} {a b:Addr} {o:Obj}
theorem DD.puts (F:DD T g b) (ne:b≠a):DD T (g.put a o) b:=⟨(if_neg ne).trans F.fz,F.hid,F.mu,F.tab⟩
theorem DD.adds (F:DD T g b) (ne:b≠a):DD T (g.add a) b:=⟨F.fz,F.hid,fun q=>(EX q).elim F.mu ne,F.tab⟩
theorem GW:D0 T g (.dictS []) dObj:=fun R_ k=>by
 obtain ⟨o,es,ep,h1,h2,h3,h4,h5,h6⟩:=Heap.DictOf.new (knd:=strKind T.prog T.w) {}
 rw [Heap.get?_push_size _ rfl] at h1
 rw [<-Option.some.inj h1] at h2 h3
 exact k es ep [] h2 h3 h4 h5 h6 trivial (Nat.zero_le _)
theorem made_obj {x dx L D1 D2 D3:Addr} {m:Str->Option Value} {ns:List Str} (H:Has r.T g σ s)
 (M:Eg r.T s x dx L m (fun y=>if y=Str.ofString "heights" then some (.ref D3) else if y=Str.ofString "grounds" then some (.ref D2) else if y=Str.ofString "held" then some (.ref D1) else none) ns [D3,D2,D1] s') :
 Ans r g (.obj [σ.length,σ.length+1,σ.length+2]) (σ++[.dictS [],.dictS [],.dictS []]) (.ref x) s':=by
 obtain ⟨ox,hx,hc,hnc,h4 | ⟨d,hd,hne,o',es,ep,h5,h6⟩⟩:=id M.inst
 ·exact Aq h4.1 (M.dict ox hx)
 have e:=Av hd (M.dict ox hx)
 rw [e] at hd hne h5
 have nd1:=List.nodup_cons.mp M.nd
 have nd2:=List.nodup_cons.mp nd1.2
 obtain ⟨a3,f3,x3,d3⟩:=M.ds D3 (.head _)
 obtain ⟨a2,f2,x2,d2⟩:=M.ds D2 (.tail _ (.head _))
 obtain ⟨a1,f1,x1,d1⟩:=M.ds D1 (.tail _ (.tail _ (.head _)))
 have H0:=H.keep (s':=s') M.keep M.gens M.os
 have Fx:=H.free M.newX
 have H1:=Fx.put H0 hx
 have Fd:=(H.free M.newD).puts (a:=x) (o:=ox) hne
 have H2:=Fd.put H1 h5
 have F1:=((H.free f1).puts (a:=x) (o:=ox) x1).puts (a:=dx) (o:=o') d1
 have H3:=F1.add (ob:=.dictS []) H2 a1 GW
 have F2:=(((H.free f2).puts (a:=x) (o:=ox) x2).puts (a:=dx) (o:=o') d2).adds (a:=D1) fun q=>nd2.1 (q▸.head _)
 have H4:=F2.add (ob:=.dictS []) H3 a2 GW
 have F3:=((((H.free f3).puts (a:=x) (o:=ox) x3).puts (a:=dx) (o:=o') d3).adds (a:=D1) fun q=>nd1.1 (q▸.tail _ (.head _))).adds (a:=D2) fun q=>nd1.1 (q▸.head _)
 have H5:=F3.add (ob:=.dictS []) H4 a3 GW
 have l2:G.le [] ((g.put x ox).put dx o') (((((g.put x ox).put dx o').add D1).add D2).add D3):=G.le.add.trans (G.le.add.trans .add)
 have le:G.le [] g (((((g.put x ox).put dx o').add D1).add D2).add D3):=(G.le.put Fx.fz).trans ((G.le.put Fd.fz).trans l2)
 have m1:=(G.le.trans (own:=[]) (G.le.add (a:=D2)) (G.le.add (a:=D3))).mu _ _ (H2.addAt (a:=D1))
 have m2:=(G.le.add (own:=[]) (a:=D3)).mu _ _ (H3.addAt (a:=D2))
 have m3:=H4.addAt (a:=D3)
 rw [List.length_append] at m2 m3
 rw [List.length_append] at m3
 rw [List.append_assoc,List.append_assoc] at H5
 refine .mk _ le H5 fun R_ k=>k x dx ox _ (l2.fz _ _ ((G.le.put (own:=[]) Fd.fz).fz _ _ G.put_self)) hc hnc hd hne ⟨o',es,ep,l2.fz _ _ G.put_self,h6⟩ (fun nm hn=>?_) ⟨⟨D1,m1,rfl⟩,⟨D2,m2,rfl⟩,⟨D3,m3,rfl⟩,trivial⟩
 show (if nm=Str.ofString "heights" then some (Value.ref D3) else if nm=Str.ofString "grounds" then some (.ref D2) else if nm=Str.ofString "held" then some (.ref D1) else none)=none
 rw [if_neg fun q=>hn (by rw [q]; exact .tail _ (.tail _ (.head _))),if_neg fun q=>hn (by rw [q]; exact .tail _ (.head _)),if_neg fun q=>hn (by rw [q]; exact .head _)]
theorem FA {K:Kx} {env:Env} {x dx N:Addr} {m mN mA:Str->Option Value} {ns:List Str} {Ds:List Addr} {s₀:Shared} {st:Stmt} {l:List Stmt} {A:Around} {Q:Flow->Shared->Prop} (hk:env.scope.kind=.function) (hv:∀ v,K.vars[0]? = some v->K.kd v .local=true->env.kindOf v=some .local/\m v=some (.ref x))
 (C:PyProof.Rows.ClsAt s₀.heap T.cls N mN) (F:ClsNs T mN) (is:IsS (.setd 0 nm) K st) (hnm:nm∈Cu) (hz:ns.length<=sizeLine) (M:Eg T s₀ x dx env.locals m mA ns Ds s)
 (hq:∀ s' D,Eg T s₀ x dx env.locals m (fun y=>if y=nm then some (.ref D) else mA y) (nm::ns) (D::Ds) s'->wpAny (model T.prog T.w) A (execs l env) Q (fun _ _=>False) s'):wpAny (model T.prog T.w) A (execs (st::l) env) Q (fun _ _=>False) s :=
 is (fun st=>wpAny (model T.prog T.w) A (execs (st::l) env) Q (fun _ _=>False) s) fun v p1 p2 p3 p4 h=>by
  rw [execs_cons]
  exact wpAny_bind (setd_step hk (hv v h.2.1 h.1).1 h.2.2 (hv v h.2.1 h.1).2 C F hnm hz M hq)
theorem init_run {K:Kx} {env:Env} {x dx N:Addr} {m mN:Str->Option Value} {s₀:Shared} {body:List Stmt} {A:Around} {Q:Flow->Shared->Prop} (hk:env.scope.kind=.function) (hv:∀ v,K.vars[0]? = some v->K.kd v .local=true->env.kindOf v=some .local/\m v=some (.ref x))
 (C:PyProof.Rows.ClsAt s₀.heap T.cls N mN) (F:ClsNs T mN) (is:IsSs initS K body) (M:Eg T s₀ x dx env.locals m (fun _=>none) [] [] s)
 (hq:∀ s' D1 D2 D3 ns,Eg T s₀ x dx env.locals m (fun y=>if y=Str.ofString "heights" then some (.ref D3) else if y=Str.ofString "grounds" then some (.ref D2) else if y=Str.ofString "held" then some (.ref D1) else none) ns [D3,D2,D1] s'->Q .next s'):wpAny (model T.prog T.w) A (execs body env) Q (fun _ _=>False) s :=
 is (fun body=>wpAny (model T.prog T.w) A (execs body env) Q (fun _ _=>False) s) fun st1 l1 q1 q2=>FA hk hv C F q1 (.head _) (Nat.zero_le _) M fun s1 D1 M1=>q2 (fun l1=>wpAny (model T.prog T.w) A (execs l1 env) Q (fun _ _=>False) s1) fun st2 l2 q3 q4=>FA hk hv C F q3 (.tail _ (.head _)) (by rw [<-AQ]; decide) M1 fun s2 D2 M2=>q4 (fun l2=>wpAny (model T.prog T.w) A (execs l2 env) Q (fun _ _=>False) s2) fun st3 l3 q5 q6=>by
  obtain rfl:l3=[]:=q6
  exact FA hk hv C F q5 (.tail _ (.tail _ (.head _))) (by rw [<-AQ]; decide) M2 fun s3 D3 M3=>wpAny_execs_nil (hq s3 D1 D2 D3 _ M3)
theorem tc_weight (c:Addr):Code.weight (.builtin "type.__call__" ⟨[.ref c],[]⟩)<=2:=by
 first
  | exact Nat.le_trans (Nat.le_of_eq (show Code.weight (.builtin "type.__call__" ⟨[.ref c],[]⟩)=1 by rfl)) (by decide)
  | exact Nat.le_trans (Nat.le_of_eq (show Code.weight (.builtin "type.__call__" ⟨[.ref c],[]⟩)=0 by rfl)) (by decide)
  | exact Nat.le_of_eq (show Code.weight (.builtin "type.__call__" ⟨[.ref c],[]⟩)=2 by rfl)
theorem new_wp (hm:mtP (Str.ofString "__init__")=some f) (hP:Pg f=some ⟨1,nv,initS⟩) (A:At n r g σ s):r.wp (call (.ref r.T.cls) []) (Ans r g (.obj [σ.length,σ.length+1,σ.length+2]) (σ++[.dictS [],.dictS [],.dictS []])) s:=by
 obtain ⟨N,mN,C,F⟩:=A.ok.cls
 have hz:=fun b o e=>A.has.fz b o (A.has.base b o e)
 obtain ⟨x1,x2,x3,x4,x5,x6,x7,x8,x9,xa,xb,xc,hC⟩:=(C.keeps hz).obj
 obtain ⟨_,fa,fo,e1,e2,e3,e4⟩:=F.mt _ f hm
 refine wpAny_call_obj_init PySem.F.objNew hC (C.keeps hz).ns e2 (hz _ _ e3) e4 fun h' x dx Mk=>A.ok.fns f _ fa hP e1 _ fun fd body o vars lam I=>?_
 have hz':=fun b o e=>Mk.keeps b o (hz b o e)
 refine wpAny_call (codeAny_call_cells (vals:=[.ref x]) ?_ (hz' _ _ I.ob) I.data (A.nolimit.keeps Mk.keeps) (I.code.keeps hz') I.bd (I.bind [.ref x] rfl) I.clo (fun p hp=>?_) (fun s₁ ic=>?_) I.cor I.gen I.kind)
 ·show r.A.depth+Code.weight _ < 1000
  exact Nat.lt_of_le_of_lt (Nat.add_le_add (Nat.le_trans (Nat.le_add_right _ _) A.depth) (tc_weight _)) (by decide)
 ·refine (I.par p.1 (List.of_mem_zip (a:=p.1) (b:=p.2) hp).1).imp id fun h=>⟨h,?_⟩
  obtain ⟨c,q⟩:=BG (k:=h'.objs.size+1) (acc:=[]) (AW h)
  obtain ⟨c,q⟩:=EZ q
  rw [q]; rfl
 ·obtain ⟨hh,tk,hs⟩:=ic.toInCall.same
  obtain ⟨ox,hx,hc,hnc,h4 | ⟨d,hd,hne,h5⟩⟩:=id Mk.inst
  ·exact Aq h4.1 (Mk.dict ox hx)
  have e:=Av hd (Mk.dict ox hx)
  rw [e] at hd hne h5
  obtain ⟨od,_,_,h6,_⟩:=h5
  have lt:∀ {b o},h'.get? b=some o->h'.objs.size≠b:=fun e q=>by rw [<-q,Bl] at e; exact Ac e
  have M0:Eg r.T s x dx (callEnvC fd h'.objs.size fa).locals _ (fun _=>none) [] [] s₁:=⟨ic.toInCall.ns,Mk.inst.keeps ic.toInCall.keep,fun o e=>Av (ic.toInCall.keep _ _ hx) e▸hd,fun b o e=>ic.toInCall.keep _ _ (Mk.keeps b o e),Mk.newX,Mk.newD,lt hx,lt h6,(fun _ h=>nomatch h),List.nodup_nil,.nil,by rw [hs],by rw [hs]⟩
  have is:IsSs initS ⟨vars,fd.scope.names,vars,glP,lam⟩ body:=I.is
  have hv:∀ {v},vars[0]? = some v->Kx.kd ⟨vars,fd.scope.names,vars,glP,lam⟩ v .local=true->(callEnvC fd h'.objs.size fa).kindOf v=some .local/\bindL (callEnvC fd h'.objs.size fa).kindOf ((vars.take 1).zip [.ref x]) (fun _=>none) v=some (.ref x):=fun {v} h1 h2=>by
   have h3:(callEnvC fd h'.objs.size fa).kindOf v=some .local:=Kx.kd_eq h2
   exact ⟨h3,(Fu (vs:=[.ref x]) (i:=0) (List.Nodup.sublist (List.take_sublist 1 vars) I.nd) (by rw [List.getElem?_take_of_lt Nat.zero_lt_one]; exact h1) rfl).1 h3⟩
  exact wpAny_mono (init_run (T:=r.T) (s₀:=s) I.kind (fun v h1 h2=>hv h1 h2) (C.keeps hz) F is M0 fun s' D1 D2 D3 ns M=>⟨rfl,made_obj A.has M⟩) (fun _ _ h=>h) fun _ _ h=>h.elim
theorem SE.new (hm:mtP (Str.ofString "__init__")=some f) (hP:Pg f=some ⟨1,nv,initS⟩):SE n .new ρ σ (.obj [σ.length,σ.length+1,σ.length+2]) (σ++[.dictS [],.dictS [],.dictS []]):=fun c g s ex hc I=>hc (fun ex=>c.wp (eval ex c.env) (Ans c.toAr g _ _) s) fun nm np es p h1 h2=>by
 obtain rfl:es=[]:=h2
 refine PyProof.Rows.Call_Name rfl (C9 I h1 fun x hv=>?_)
 obtain rfl:x=.ref c.T.cls:=hv
 obtain ⟨N,mN,C,F⟩:=I.ok.cls
 exact PyProof.Rows.callWith_cls0 C (fun b o e=>I.has.fz b o (I.has.base b o e)) (new_wp hm hP I.toAt)
end
end Mine
namespace Mine
open PySem PySem.Calls
section
variable {n:Nat} {K:Kx} {c:Cx} {ρ:Af} {g g' g₁:G} {σ σ' σ₁:Ab} {s s':Shared} {es:E} {v u w z:V} {ws:List V} {xs:List Nat} {i j l:Nat} {Q:Fl->Ab->Prop} {env:Env}
theorem short_fm {α β:Type} {f:α->Option β}:∀ {l:List α},(∃ e,e∈l/\f e=none)->(l.filterMap f).length < l.length
 | [],h=>by obtain ⟨_,h,_⟩:=h; exact nomatch h
 | a::r,h=>by
  obtain ⟨e,h,he⟩:=h
  rw [List.filterMap_cons]
  rcases List.mem_cons.mp h with q | h
  ·rw [<-q,he]; exact Nat.lt_succ_of_le (List.length_filterMap_le _ _)
  ·have ih:=short_fm (f:=f) (l:=r) ⟨e,h,he⟩
   cases f a with
   | none=>exact Nat.lt_succ_of_lt ih
   | some b=>exact Nat.succ_lt_succ ih
theorem sw_none {ts vs:List Expr} {k k':Nat} {p p':Pos} (hn:env.scope.names=K.names) (h:FX K ts=true):swappedStores [.Tuple ts k p] (.Tuple vs k' p') env=pure none:=by
 unfold swappedStores
 dsimp only
 split
 ·rfl
 ·split
  ·rfl
  ·refine if_pos ?_
   rw [Bool.or_eq_true]
   refine .inl (bne_iff_ne.mpr (Nat.ne_of_lt ?_))
   obtain ⟨e,he,h0⟩:=List.any_eq_true.mp h
   refine short_fm ⟨e,he,?_⟩
   cases e with
   | Name nm p =>
    have h1:(!K.kd nm .local)=true:=h0
    have h2:(env.kindOf nm == some .local)=false:=by
     rw [AE hn,beq_eq_false_iff_ne]
     exact of_decide_eq_false (Bool.not_eq_true' _▸h1)
    show (if (env.kindOf nm == some .local&&_)=true then some nm else none)=none
    rw [h2]; rfl
   | _=>exact ff_ h0
theorem SS.swp (h:SE n (.tup es) ρ σ v σ₁) (hv:BL v=some ws) (hl:ws.length=xs.length) (hq:Q (.next (Db ρ xs ws)) σ₁):SS n (.swp xs es) ρ σ Q:=fun c g s x hc I=>hc (fun x=>c.wp (exec x c.env) (Bu n c g Q) s) fun ts k p vs k' p' pos h1 h2=>by
 have h2:IsE (.tup es) c.K (.Tuple vs k' p'):=fun R_ kk=>kk vs k' p' h2
 refine AU (unp_arm (fun t l=>rfl) (sw_none I.cx.names h1.2.1)) (wpAny_bind (wpAny_standAt (Bw h h2 I fun X g₁ s₁ le I1 r1=>?_)))
 exact Ce I1.has r1 hv (R_:=fun X=>c.wp (assign (.Tuple ts k p) c.env X>>=fun _=>pure Flow.next) (Bu n c g Q) s₁) fun t Xs hT hr _ _=>wpAny_bind (I1.unpack h1.1 hT hr hl fun g2 s2 le2 I2=>wpAny_pure fun R_ k1 _=>k1 _ σ₁ g2 hq (le.toO.trans le2) I2)
theorem mem_plain {es:E} {x:Expr}:∀ {vs:List Expr},ED es K vs->x∈vs->Plain x:=by
 induction es with
 | nil=>intro vs h hx; rw [show vs=[] from h] at hx; exact nomatch hx
 | cons e es _ ih=>exact fun {vs} h hx=>h (fun vs=>x∈vs->Plain x) (fun y l h1 h2 hx=>(List.mem_cons.mp hx).elim (fun q=>q▸B8 e h1) (ih h2)) hx
 | _=>exact fun h=>h.elim
theorem swl_some {a b d:Str} {pa pb pd:Pos} {vs:List Expr} {k k':Nat} {p p':Pos} (X:CxOk n c) (hp:ED es c.K vs) (h:swlOk c.K a b d pa pb pd vs=true):swappedStores [.Tuple [.Name a pa,.Name b pb,.Name d pd] k p] (.Tuple vs k' p') c.env=pure (some [a,b,d]):=by
 have h0:=Bool.and_eq_true_iff.mp h
 have h1:=Bool.and_eq_true_iff.mp h0.1
 have h3:=Bool.and_eq_true_iff.mp h1.1
 have h4:=Bool.and_eq_true_iff.mp h3.1
 have h5:=Bool.and_eq_true_iff.mp h4.1
 have h6:=Bool.and_eq_true_iff.mp h5.1
 have h7:=Bool.and_eq_true_iff.mp h6.1
 have h8:=Bool.and_eq_true_iff.mp h7.1
 have kd:∀ {x},c.K.kd x .local=true->(c.env.kindOf x == some .local)=true:=fun h=>by rw [AE X.names,Kx.kd_eq h]; rfl
 have hb:c.env.blockKind=.function:=by unfold Env.blockKind; rw [X.kind]; rfl
 have e1:(if (c.env.kindOf a == some .local&&pa.line == pa.line)=true then some a else none)=some a:=if_pos (by rw [kd h8.1,beq_self_eq_true]; rfl)
 have e2:(if (c.env.kindOf b == some .local&&pb.line == pa.line)=true then some b else none)=some b:=if_pos (by rw [kd h8.2,h6.2]; rfl)
 have e3:(if (c.env.kindOf d == some .local&&pd.line == pa.line)=true then some d else none)=some d:=if_pos (by rw [kd h7.2,h5.2]; rfl)
 have q1:(!(([Expr.Name a pa,.Name b pb,.Name d pd].length == 2||[Expr.Name a pa,.Name b pb,.Name d pd].length == 3))||vs.length != 3||c.env.blockKind != .function)=false:=by
  rw [hb,eq_of_beq h3.2]; rfl
 refine (if_neg (by rw [show ([Expr.Name a pa,.Name b pb,.Name d pd].length)=3 from rfl] at q1 ⊢; rw [q1]; exact Bool.false_ne_true)).trans ?_
 refine (if_neg fun q=>?_).trans ?_
 ·obtain ⟨x,hx,e⟩:=List.any_eq_true.mp q
  cases x with
  | Starred z pz=>exact tt_ (congrArg Prod.fst (List.cons.inj ((mem_plain hp hx).star c.env [])).1)
  | _=>exact ff_ e
 ·have key:∀ N:List Str,N=[a,b,d]->(if (N.length != 3||N.eraseDups.length != N.length)=true then (pure none:Sem (Option (List Str))) else if vs.all (foldedForSure 8)=true then pure none else
   if vs.all (constantsAlone 8)=true then unsupported "assign.tuple-of-constant-expressions:order-of-the-stores" else pure (some N))=pure (some [a,b,d]):=fun N hN=>by
   subst hN
   have q3:([a,b,d].length != 3||[a,b,d].eraseDups.length != [a,b,d].length)=false:=by rw [eq_of_beq h4.2]; rfl
   have q4:vs.all (foldedForSure 8)=false:=by simpa using h1.2
   have q5:vs.all (constantsAlone 8)=false:=by simpa using h0.2
   rw [q3,q4,q5]; rfl
  refine key _ ?_
  have fm:∀ {f:Expr->Option Str} {x:Expr} {l:List Expr} {y:Str} {l':List Str},f x=some y->l.filterMap f=l'->(x::l).filterMap f=y::l':=fun h h'=>(List.filterMap_cons_some h).trans (congrArg _ h')
  refine fm ?_ (fm ?_ (fm ?_ rfl))
  ·exact e1
  ·exact e2
  ·exact e3
theorem swl_arm {a b d:Str} {pa pb pd:Pos} {vs:List Expr} {k k':Nat} {p p' pos:Pos} (h:swappedStores [.Tuple [.Name a pa,.Name b pb,.Name d pd] k p] (.Tuple vs k' p') env=pure (some [a,b,d])):exec (.Assign [.Tuple [.Name a pa,.Name b pb,.Name d pd] k p] (.Tuple vs k' p') pos) env =
 (standAt pos>>=fun _=>eval (.Tuple vs k' p') env>>=fun Z=>rule "assign.swapped-stores" >>= fun _=>unpackItems Z 3 none>>=fun items=>assignInOrder [bindName env d,bindName env b,bindName env a] items.reverse>>=fun _=>pure Flow.next):=by
 rw [arm_exec_Assign]
 show (standAt pos>>=fun _=>eval (.Tuple vs k' p') env>>=fun Z=>swappedStores [.Tuple [.Name a pa,.Name b pb,.Name d pd] k p] (.Tuple vs k' p') env>>=_)=_
 rw [h]
 rfl
theorem SS.swl (h:SE n (.tup es) ρ σ v σ₁) (hv:BL v=some [u,w,z]) (hq:Q (.next (((ρ.set l (some z)).set j (some w)).set i (some u))) σ₁):SS n (.swl i j l es) ρ σ Q:=fun c g s x hc I=>hc (fun x=>c.wp (exec x c.env) (Bu n c g Q) s) fun a b d pa pb pd k p vs k' p' pos h1 h2=>by
 have h3:IsE (.tup es) c.K (.Tuple vs k' p'):=fun R_ kk=>kk vs k' p' h2
 refine AU (swl_arm (swl_some I.cx h2 h1.2)) (wpAny_bind (wpAny_standAt (Bw h h3 I fun X g₁ s₁ le I1 r1=>?_)))
 refine Ce I1.has r1 hv (R_:=fun X=>c.wp (rule "assign.swapped-stores" >>= fun _=>unpackItems X 3 none>>=fun items=>assignInOrder [bindName c.env d,bindName c.env b,bindName c.env a] items.reverse>>=fun _=>pure Flow.next) (Bu n c g Q) s₁) fun t Xs hT hr hn _=>wpAny_bind (wpAny_rule (wpAny_bind ?_))
 obtain ⟨x1,Ys,e1,q1,hr⟩:=hr.cons
 obtain ⟨x2,x3,e2,q2,q3⟩:=hr.two
 rw [e2] at e1
 have hz:3=Xs.size:=hn
 rw [hz]
 refine wpAny_unpackItems_tuple I1.hh hT fun h' he=>?_
 rw [e1]
 have I2:Inv n c ρ g₁ σ₁ { s₁ with heap:=h' }:=I1.step (.refl _ _) (I1.has.keep fun b o e=>he b o (fun q=>by rw [q,Bl] at e; exact Ac e) e)
 refine wpAny_bind (wpAny_bind (wpAny_holding (wpAny_bindName (I2.store h1.1.2.2 q3 fun g3 s3 le3 up3 I3=>?_))))
 refine wpAny_bind (wpAny_holding (wpAny_bindName (I3.store h1.1.2.1 (An.mono up3 _ _ q2) fun g4 s4 le4 up4 I4=>?_)))
 refine wpAny_bind (wpAny_holding (wpAny_bindName (I4.store h1.1.1 (An.mono (up3.trans up4) _ _ q1) fun g5 s5 le5 _ I5=>?_)))
 exact wpAny_pure (wpAny_pure fun R_ k1 _=>k1 _ σ₁ g5 hq (le.toO.trans (le3.trans (le4.trans le5))) I5)
end
end Mine
namespace Mine
open PySem PySem.Calls
noncomputable def D6 (z:Int) (is:List Int):Int:=match is with | []=>z | b::r=>r.foldl (fun a b=>if a < b then b else a) b
noncomputable def maxTo (b:Int) (is:List Int):Int:=is.foldl (fun a b=>if a < b then b else a) b
theorem maxArgs (a v:Value):argsOk "max" ⟨[a],[(Str.ofString "default",v)]⟩:=by unfold argsOk; kernel_rfl
section
variable {prog:Program} {w:World} {A:Around} {R:Result->Shared->Prop} {l I S:Addr} {xs:Array Value} {is:List Int} {d:Value}
structure Gr (l I S:Addr) (xs:Array Value) (i:Nat) (bs:Array Value) (h:Heap):Prop where
 it:h.IsListIter I l i
 ls:h.IsList l xs
 bo:∃ c,h.get? S=some { cls:=.type "list",dict:=none,data:=.seq bs c,slots:=#[] }
theorem Gr.turned {i:Nat} {bs:Array Value} {h h':Heap} (x:Gr l I S xs i bs h) (hlI:l≠I) (hSI:S≠I) (it:h'.IsListIter I l (i+1)) (hs:Heap.SameBut I h h'):Gr l I S xs (i+1) bs h':=by
 obtain ⟨o,ho,r⟩:=x.ls
 obtain ⟨c,hc⟩:=x.bo
 exact ⟨it,⟨o,(hs.2 l hlI).trans ho,r⟩,c,(hs.2 S hSI).trans hc⟩
theorem Gr.put {i:Nat} {bs bs':Array Value} {h:Heap} (x:Gr l I S xs i bs h) (hlS:l≠S) (hSI:S≠I):Gr l I S xs i bs' (h.update S (Obj.mapSeq fun _=>bs')):=by
 obtain ⟨o,ho,r⟩:=x.ls
 obtain ⟨c,hc⟩:=x.bo
 refine ⟨x.it.at fun o e=>(Heap.get?_update_other _ _ hSI).trans e,⟨o,(Heap.get?_update_other _ _ (Ne.symm hlS)).trans ho,r⟩,_,Heap.get?_update_self _ hc rfl⟩
theorem max_rest (hh:A.handled=none) (hlI:l≠I) (hSI:S≠I) (hlS:l≠S):∀ (k i:Nat) (s:Shared) (b:Int) (t:Tok),xs.size-i=k->Gr l I S xs i #[.int b t,.int b t] s.heap->(∀ (j:Nat) (x:Value),xs[j]? = some x->∃ t,x=Value.int (is.getD j 0) t)->xs.size=is.length ->
 (∀ h' tk t',(∀ a o,a≠I->a≠S->s.heap.get? a=some o->h'.get? a=some o)->R (.ok (.ret (.int (maxTo b (is.drop i)) t'))) { s with heap:=h',toks:=tk }) ->
 codeAny (model prog w) A (.builtin "max.loop" ⟨[.ref I,.none,.ref S],[(Str.ofString "default",d)]⟩) R s:=by
 have hname:(toString "max" ++ toString ".loop" : String) = "max.loop" := by decide
 intro k
 induction k with
 | zero =>
  intro i s b t hk x hx hl hR
  obtain ⟨c,hc⟩:=x.bo
  refine codeAny_builtin F.entry_max_loop ?_
  rw [Around.under_plainId F.plain_max_loop _]
  show wpAny _ A.in1 (seqItems? (.ref S)>>=_) _ _ s
  refine wpAny_bind (wpAny_seqItems hc rfl ?_)
  show wpAny _ A.in1 (tryCatch (pyNext (.ref I)) _>>=_) _ _ s
  refine wpAny_bind (wpAny_tryCatch (wpAny_pyNext_list_end (A:=A.in1) hh x.it x.ls (by rw [Array.getElem?_eq_none_iff]; omega) fun h' hx'=>?_))
  show wpAny _ A.in1 (updateSeq S (fun _=>#[])>>=_) _ _ _
  refine wpAny_bind ?_
  refine wpAny_updateSeq (hx' S _ hSI hc) rfl (wpAny_bind (wpAny_letGo (wpAny_pure ?_)))
  have e:is.drop i=[]:=List.drop_eq_nil_of_le (by omega)
  rw [e] at hR
  exact hR _ _ t fun a o h1 h2 ho=>(Heap.get?_update_other _ _ (Ne.symm h2)).trans (hx' a o h1 ho)
 | succ k ih =>
  intro i s b t hk x hx hl hR
  have hi:i < xs.size:=by omega
  obtain ⟨u,hu⟩:=hx i xs[i] (Array.getElem?_eq_getElem hi)
  obtain ⟨c,hc⟩:=x.bo
  have ed:is.drop i=is.getD i 0::is.drop (i+1):=by
   rw [List.drop_eq_getElem_cons (by omega)]
   simp [List.getElem?_eq_getElem (show i < is.length by omega)]
  refine codeAny_builtin F.entry_max_loop ?_
  rw [Around.under_plainId F.plain_max_loop _]
  show wpAny _ A.in1 (seqItems? (.ref S)>>=_) _ _ s
  refine wpAny_bind (wpAny_seqItems hc rfl ?_)
  show wpAny _ A.in1 (tryCatch (pyNext (.ref I)) _>>=_) _ _ s
  refine wpAny_bind (wpAny_tryCatch (wpAny_pyNext_list_item (A:=A.in1) x.it x.ls (Array.getElem?_eq_getElem hi) fun h' it' hs=>?_))
  have x':=x.turned hlI hSI it' hs
  obtain ⟨c',hc'⟩:=x'.bo
  rw [hu]
  show wpAny _ A.in1 (tryCatch (holding [.int (is.getD i 0) u,.int (is.getD i 0) u] (richCompare .Gt (.int (is.getD i 0) u) (.int b t)>>=_)) _>>=_) _ _ _
  refine wpAny_bind (wpAny_tryCatch (wpAny_holding (wpAny_bind (P.gt_int ?_))))
  refine wpAny_bind (wpAny_holding (wpAny_truthy_bool ?_))
  refine wpAny_bind (wpAny_letGo (wpAny_pure ?_))
  by_cases hb:is.getD i 0 > b
  ·rw [decide_eq_true hb]
   simp only [if_true]
   refine wpAny_bind ?_
   refine wpAny_updateSeq hc' rfl (wpAny_bind (wpAny_letGo ?_))
   rw [hname]
   refine wpAny_pure ⟨plainId_quiet F.plain_max_loop _,ih (i+1) _ (is.getD i 0) u (by omega) (x'.put hlS hSI) hx hl fun h'' tk t' hk'=>?_⟩
   have e2:maxTo b (is.drop i)=maxTo (is.getD i 0) (is.drop (i+1)):=by
    rw [ed]; show (is.drop (i+1)).foldl _ (if b < is.getD i 0 then is.getD i 0 else b)=_; rw [if_pos hb]; rfl
   rw [<-e2]
   exact hR h'' tk t' fun a o h1 h2 ho=>hk' a o h1 h2 ((Heap.get?_update_other _ _ (Ne.symm h2)).trans ((hs.2 a h1).trans ho))
  ·rw [decide_eq_false hb]
   simp only [Bool.false_eq_true,if_false]
   refine wpAny_bind (wpAny_letGo ?_)
   rw [hname]
   refine wpAny_pure ⟨plainId_quiet F.plain_max_loop _,ih (i+1) _ b t (by omega) x' hx hl fun h'' tk t' hk'=>?_⟩
   have e2:maxTo b (is.drop i)=maxTo b (is.drop (i+1)):=by
    rw [ed]; show (is.drop (i+1)).foldl _ (if b < is.getD i 0 then is.getD i 0 else b)=_; rw [if_neg (by omega)]; rfl
   rw [<-e2]
   exact hR h'' tk t' fun a o h1 h2 ho=>hk' a o h1 h2 ((hs.2 a h1).trans ho)
theorem max_first {z:Int} {tz:Tok} (hh:A.handled=none) (hlI:l≠I) (hSI:S≠I) (hlS:l≠S) {s:Shared} (x:Gr l I S xs 0 #[] s.heap) (hx:∀ (j:Nat) (x:Value),xs[j]? = some x->∃ t,x=Value.int (is.getD j 0) t) (hl:xs.size=is.length)
 (hR:∀ h' tk t',(∀ a o,a≠I->a≠S->s.heap.get? a=some o->h'.get? a=some o)->R (.ok (.ret (.int (D6 z is) t'))) { s with heap:=h',toks:=tk }) :
 codeAny (model prog w) A (.builtin "max.loop" ⟨[.ref I,.none,.ref S],[(Str.ofString "default",.int z tz)]⟩) R s:=by
 have hname:(toString "max" ++ toString ".loop" : String) = "max.loop" := by decide
 obtain ⟨c,hc⟩:=x.bo
 refine codeAny_builtin F.entry_max_loop ?_
 rw [Around.under_plainId F.plain_max_loop _]
 show wpAny _ A.in1 (seqItems? (.ref S)>>=_) _ _ s
 refine wpAny_bind (wpAny_seqItems hc rfl ?_)
 show wpAny _ A.in1 (tryCatch (pyNext (.ref I)) _>>=_) _ _ s
 cases is with
 | nil =>
  refine wpAny_bind (wpAny_tryCatch (wpAny_pyNext_list_end (A:=A.in1) hh x.it x.ls (by rw [Array.getElem?_eq_none_iff,hl]; exact Nat.le_refl _) fun h' hx'=>?_))
  refine wpAny_bind (wpAny_rule (wpAny_pure ?_))
  exact hR _ _ tz fun a o h1 _ ho=>hx' a o h1 ho
 | cons b is =>
  have hi:0 < xs.size:=by rw [hl]; exact Nat.succ_pos _
  obtain ⟨u,hu⟩:=hx 0 xs[0] (Array.getElem?_eq_getElem hi)
  refine wpAny_bind (wpAny_tryCatch (wpAny_pyNext_list_item (A:=A.in1) x.it x.ls (Array.getElem?_eq_getElem hi) fun h' it' hs=>?_))
  have x':=x.turned hlI hSI it' hs
  obtain ⟨c',hc'⟩:=x'.bo
  rw [hu]
  show wpAny _ A.in1 (updateSeq S (fun _=>#[.int b u,.int b u])>>=_) _ _ _
  refine wpAny_bind ?_
  refine wpAny_updateSeq hc' rfl ?_
  rw [hname]
  refine wpAny_pure ⟨plainId_quiet F.plain_max_loop _,max_rest (is:=b::is) hh hlI hSI hlS _ 1 _ b u rfl (x'.put hlS hSI) hx hl fun h'' tk t' hk'=>?_⟩
  exact hR h'' tk t' fun a o h1 h2 ho=>hk' a o h1 h2 ((Heap.get?_update_other _ _ (Ne.symm h2)).trans ((hs.2 a h1).trans ho))
end
section
variable {n:Nat} {T:Top} {r:Ar} {c:Cx} {ρ:Af} {g g' g₁:G} {σ σ' σ₁ σ2:Ab} {s s':Shared} {e a b:E} {x y v:V} {X:Value} {k:Int} {is:List Int}
theorem p_inT {u w:Str}:Pr2 (compareOp .In) (.d (.str u)) (.d (.str w)) σ (vb (Txt.contains w u)) σ/\Pr2 (compareOp .NotIn) (.d (.str u)) (.d (.str w)) σ (vb !(Txt.contains w u)) σ :=
 ⟨EU fun r g s X Y A hx hy Q q=>by
  obtain ⟨t,rfl,_⟩:=hx
  obtain ⟨t',rfl,_⟩:=hy
  exact SB.contains q,
  EU fun r g s X Y A hx hy Q q=>by
   obtain ⟨t,rfl,_⟩:=hx
   obtain ⟨t',rfl,_⟩:=hy
   exact SB.notContains q⟩
theorem vis_rep:∀ {is:List Int} {xs:List Value},Am T g (is.map vi) xs->xs.length=is.length/\∀ (j:Nat) (x:Value),xs[j]? = some x->∃ t,x=Value.int (is.getD j 0) t
 | [],xs,h=>by rw [h.nil]; exact ⟨rfl,fun j x h=>Ac h⟩
 | i::is,xs,h=>by
  obtain ⟨x,xs,rfl,⟨t,h1⟩,h2⟩:=h.cons
  have ih:=vis_rep (is:=is) h2
  refine ⟨congrArg (· + 1) ih.1,fun j y hy=>?_⟩
  cases j with
  | zero=>exact ⟨t,(Option.some.inj hy).symm.trans h1⟩
  | succ j=>exact ih.2 j y hy
theorem max_wp {Z:Value} (A:At 0 r g σ s) (h:Ax σ x=some (is.map vi)) (hx:An r.T g x X) (hz:An r.T g (vi k) Z):r.wp (call (.builtin "max") [X] [(Str.ofString "default",Z)]) (Ans r g (vi (D6 k is)) σ) s:=by
 obtain ⟨tz,rfl⟩:=hz
 refine AI A.has hx h (R_:=fun X=>r.wp (call (.builtin "max") [X] [(Str.ofString "default",.int k tz)]) (Ans r g (vi (D6 k is)) σ) s) fun a ys hL hr hn _=>?_
 obtain ⟨h1,h2⟩:=vis_rep hr
 refine PyProof.Rows.kmk_tree F.kind_max F.plain_max F.entry_max (maxArgs _ _) ?_
 show wpAny _ r.A.in1 (Builtin.Builtins.bindParams "max" ["key","default"] 0 ⟨[],[(Str.ofString "default",.int k tz)]⟩>>=_) _ _ s
 refine wpAny_bind (wpAny_of_eq (show Builtin.Builtins.bindParams "max" ["key","default"] 0 ⟨[],[(Str.ofString "default",.int k tz)]⟩=pure [none,some (.int k tz)] from rfl) ?_)
 refine wpAny_bind (wpAny_pure (wpAny_bind (wpAny_pyIter_list hL (wpAny_bind (wpAny_newObj_type ?_)))))
 obtain ⟨o,ho,hc,m,hd⟩:=id hL
 have hlt:=Heap.lt_size ho
 have hname:(toString "max" ++ toString ".loop" : String) = "max.loop" := by decide
 rw [hname]
 have e3:(s.heap.push { cls:=.type "list_iterator",data:=.fields #[.ref a,.int 0 0] }).objs.size=s.heap.objs.size+1:=Heap.size_push ..
 have eS:(s.heap.push { cls:=.type "list_iterator",data:=.fields #[.ref a,.int 0 0] }).objs.size≠s.heap.objs.size:=by rw [e3]; exact Nat.succ_ne_self _
 have eL:a≠(s.heap.push { cls:=.type "list_iterator",data:=.fields #[.ref a,.int 0 0] }).objs.size:=by rw [e3]; exact Nat.ne_of_lt (Nat.lt_succ_of_lt hlt)
 refine wpAny_pure ⟨plainId_quiet F.plain_max_loop _,max_first (A:=r.A) (l:=a) (I:=s.heap.objs.size) (S:=(s.heap.push { cls:=.type "list_iterator",data:=.fields #[.ref a,.int 0 0] }).objs.size) (xs:=ys) (is:=is) (z:=k) (tz:=tz) A.hh (Nat.ne_of_lt hlt) eS eL ?_ (fun j x hj=>h2 j x (by rw [Array.getElem?_toList]; exact hj)) h1 fun h' tk t' hk=>?_⟩
 ·exact ⟨⟨_,Heap.get?_push_of_some _ (Heap.get?_push_size _ rfl),rfl,rfl⟩,⟨o,Heap.get?_push_of_some _ (Heap.get?_push_of_some _ ho),hc,m,hd⟩,0,Heap.get?_push_size _ rfl⟩
 ·exact .refl (A.has.keep (s':={ s with heap:=h',toks:=tk }) fun b o e=>hk b o (fun q=>by rw [q,Bl] at e; exact Ac e) (fun q=>by rw [q,e3,Heap.get?_none_of_le (Nat.le_succ _)] at e; exact Ac e) (Heap.get?_push_of_some _ (Heap.get?_push_of_some _ e))) ⟨t',rfl⟩
theorem SE.maxd (ha:SE n a ρ σ x σ₁) (hz:SE n b ρ σ₁ (vi k) σ2) (h:Ax σ2 x=some (is.map vi)):SE n (.maxd a b) ρ σ (vi (D6 k is)) σ2:=fun c g s ex hc I=>hc (fun ex=>c.wp (eval ex c.env) (Ans c.toAr g (vi (D6 k is)) σ2) s) fun nm np z y kp p h1 h2 h3=>by
 refine wpAny_bind (C9 I h1 fun f hf=>?_)
 obtain rfl:f=.builtin "max" := hf
 have st:=(B8 a h2).star c.env []
 refine PyProof.Rows.callWith_kw (e:=z) (rest:=[]) ?_ (by rw [st]; rfl) (by rw [st]; rfl)
 rw [st]
 refine spliced_cons (wpAny_mono (ha c g s z h2 I) (fun X s₁ p1=>p1 _ fun g₁ le1 a₁ r1=>spliced_nil ?_) fun _ _ h=>h)
 have I1:=I.step le1 a₁
 refine PyProof.Rows.kws_cons (wpAny_mono (hz c g₁ s₁ y h3 I1) (fun Z s2 p2=>p2 _ fun g2 le2 a₂ r2=>PyProof.Rows.kws_nil ?_) fun _ _ h=>h)
 exact Bv (r:=c.toAr) (le1.trans le2) (max_wp (I1.step le2 a₂).at0 h (An.mono le2.toup _ _ r1) r2)
end
end Mine
namespace Mine
set_option maxRecDepth 100000
open PySem PySem.Calls
section
variable {prog:Program} {w:World} {A:Around} {E:Value->Shared->Prop} {s:Shared} {d S:Addr} {kvs:List (Str×Value)} {ep:Nat}
noncomputable abbrev KeyAt (prog:Program) (w:World) (kvs:List (Str×Value)) (i:Nat) (v:Value):Prop:=∃ k x,kvs[i]? = some (k,x)/\(strKind prog w).is k v=true
theorem extend_dict {R:Result->Shared->Prop} (hh:A.handled=none) (hm:s.heap.DictAt (strKind prog w) d kvs ep) (hd:(d == sysModules)=false) (res:Value) (c0:Nat) (hS:s.heap.get? S=some { cls:=.type "list",data:=.seq #[] c0 }) (hdS:d≠S)
 (hR:∀ h' tk acc' c',(∀ b o,b≠S->s.heap.get? b=some o->h'.get? b=some o)->h'.get? S=some { cls:=.type "list",dict:=none,data:=.seq acc' c',slots:=#[] } ->
  ItemsOf (KeyAt prog w kvs) acc' kvs.length->R (.ok (.ret res)) { s with heap:=h',toks:=tk }) (hn:kvs.length<=sizeLine) :
 wpAny (model prog w) A.in1 (Builtin.List.listExtendWith (.ref S) (.ref d) res)
  (fun fin s'=>match fin with | .done f=>R (.ok f) s' | .again c'=>c'.quiet=true/\codeAny (model prog w) A c' R s') (fun e s'=>R (.error e) s') s:=by
 have hSI:S≠s.heap.objs.size:=Nat.ne_of_lt (Heap.lt_size hS)
 have hT:s.TypeIs (.ref d) "dict" := hm.dictOf.typeIs
 obtain ⟨od,hod,hcd⟩:=id hT
 have hdI:d≠s.heap.objs.size:=Nat.ne_of_lt (Heap.lt_size hod)
 have W:=(Walks.dictKeys (prog:=prog) (w:=w) (A:=A.in1) (knd:=strKind prog w) hh s.heap.objs.size d hdI kvs ep).toS
 have hSf:S∉[s.heap.objs.size,d]:=fun q=>(List.mem_cons.mp q).elim hSI fun q=>hdS (List.mem_singleton.mp q).symm
 unfold Builtin.List.listExtendWith
 refine wpAny_bind (wpAny_typeOf (T := "dict") hT ?_)
 have h1:Builtin.List.listSameRef (.ref S) (.ref d)=false:=by simp [Builtin.List.listSameRef,Ne.symm hdS]
 have h2:(Value.type "dict" == Value.type "list")=false:=by decide
 have h3:(Value.type "dict" == Value.type "tuple")=false:=by decide
 simp only [h1,h2,h3,Bool.or_false,Bool.false_eq_true,if_false]
 refine wpAny_bind (wpAny_pyIter_dict hd hm ?_)
 refine wpAny_bind (wpAny_holding ?_)
 have hT':({ s with heap:=s.heap.push { cls:=.type "dict_keyiterator",data:=.fields #[.ref d,.int 0 0,.int kvs.length 0,.int ep 0] } }:Shared).TypeIs (.ref d) "dict" := ⟨od,Heap.get?_push_of_some _ hod,hcd⟩
 unfold Builtin.List.listLengthHint
 refine wpAny_bind (wpAny_specialOf (T := "dict") hT' F.slot_dict_len.lookup ?_)
 wp_delta
 refine wpAny_bind (wpAny_isInstance (T := "dict") (b:=true) hT' (by rw [isSubtype_type]; kernel_rfl) ?_)
 show wpAny _ _ (typeOf (Value.ref d)>>=_) _ _ _
 refine wpAny_bind (wpAny_typeOf (T := "dict") hT' (wpAny_pure ?_))
 rw [if_pos (by decide)]
 have hS1:=Heap.get?_push_of_some { cls:=.type "dict_keyiterator",data:=.fields #[.ref d,.int 0 0,.int kvs.length 0,.int ep 0] } hS
 refine wpAny_bind (wpAny_rule (wpAny_bind ?_))
 show wpAny _ _ (updateSeq S (·.push .none)>>=fun _=>updateSeq S (·.pop)) _ _ _
 refine wpAny_bind (wpAny_updateSeq hS1 rfl ?_)
 have hS2:=Heap.get?_update_self (Obj.mapSeq (·.push Value.none)) hS1 rfl
 refine wpAny_updateSeq (hz:=by seq_fits) hS2 rfl ?_
 have hS3:=Heap.get?_update_self (Obj.mapSeq (·.pop)) hS2 rfl
 have oth:∀ b o,b≠S->(s.heap.push { cls:=.type "dict_keyiterator",data:=.fields #[.ref d,.int 0 0,.int kvs.length 0,.int ep 0] }).get? b=some o->(((s.heap.push { cls:=.type "dict_keyiterator",data:=.fields #[.ref d,.int 0 0,.int kvs.length 0,.int ep 0] }).update S (Obj.mapSeq (·.push Value.none))).update S (Obj.mapSeq (·.pop))).get? b=some o:=fun b o hb e=>(Heap.get?_update_other _ _ (Ne.symm hb)).trans ((Heap.get?_update_other _ _ (Ne.symm hb)).trans e)
 refine wpAny_pure ⟨plainId_quiet F.plain_extend_loop _,codeAny_extend_loopS W hn _ hSf _ kvs.length 0 _ _ _ rfl (Nat.zero_le _) ?_ hS3 (ItemsOf.nil _) fun s' acc' c' hm hS' hacc=>?_⟩
 ·obtain ⟨o,es,ho,hr⟩:=hm
  exact ⟨⟨_,oth _ _ (Ne.symm hSI) (Heap.get?_push_size _ rfl),rfl,rfl⟩,o,es,oth _ _ hdS (Heap.get?_push_of_some _ ho),hr⟩
 rw [Moved.eq_with hm]
 refine hR s'.heap s'.toks acc' c' (fun b ob hb e=>hm.heap b ob (fun hmem=>?_) (oth b ob hb (Heap.get?_push_of_some _ e))) hS' hacc
 exact (List.mem_cons.mp hmem).elim hb fun hmem=>absurd (Heap.lt_size e) (by rw [List.mem_singleton.mp hmem]; exact Nat.lt_irrefl _)
theorem init_dict {R:Result->Shared->Prop} (hh:A.handled=none) (hm:s.heap.DictAt (strKind prog w) d kvs ep) (hd:(d == sysModules)=false) (hS:s.heap.get? S=some { cls:=.type "list",data:=.seq #[] }) (hdS:d≠S)
 (hR:∀ h' tk acc' c',(∀ b o,b≠S->s.heap.get? b=some o->h'.get? b=some o)->h'.get? S=some { cls:=.type "list",dict:=none,data:=.seq acc' c',slots:=#[] } ->
  ItemsOf (KeyAt prog w kvs) acc' kvs.length->R (.ok (.ret .none)) { s with heap:=h',toks:=tk }) (hn:kvs.length<=sizeLine) :
 wpAny (model prog w) A.in1 (Builtin.«list.__init__» ⟨[.ref S,.ref d],[]⟩)
  (fun fin s'=>match fin with | .done f=>R (.ok f) s' | .again c'=>c'.quiet=true/\codeAny (model prog w) A c' R s') (fun e s'=>R (.error e) s') s:=by
 show wpAny _ _ (do let old <-Builtin.List.listItems (.ref S); Builtin.List.listUpdate (.ref S) (fun _=>#[]); letGo old.toList.reverse; Builtin.List.listExtendWith (.ref S) (.ref d) .none) _ _ s
 refine wpAny_bind ?_
 unfold Builtin.List.listItems
 refine wpAny_bind (wpAny_seqItems hS rfl (wpAny_pure ?_))
 show wpAny _ _ (updateSeq S (fun _=>#[])>>=fun _=>letGo (#[]:Array Value).toList.reverse>>=fun _=>Builtin.List.listExtendWith (.ref S) (.ref d) .none) _ _ s
 refine wpAny_bind (wpAny_updateSeq hS rfl ?_)
 have hS2:=Heap.get?_update_self (Obj.mapSeq (fun _=>(#[]:Array Value))) hS rfl
 have oth:∀ b o,b≠S->s.heap.get? b=some o->(s.heap.update S (Obj.mapSeq (fun _=>(#[]:Array Value)))).get? b=some o :=
  fun b o hb e=>(Heap.get?_update_other _ _ (Ne.symm hb)).trans e
 refine wpAny_bind (wpAny_letGo ?_)
 obtain ⟨o,es,ho,hr⟩:=hm
 exact extend_dict hh ⟨o,es,oth d o hdS ho,hr⟩ hd .none _ hS2 hdS (fun h' tk acc' c' hk hS' hacc=>hR h' tk acc' c' (fun b o hb e=>hk b o hb (oth b o hb e)) hS' hacc) hn
theorem call_list_dict {Q:Value->Shared->Prop} (hh:A.handled=none) (hm:s.heap.DictAt (strKind prog w) d kvs ep) (hd:(d == sysModules)=false) (hn:kvs.length<=sizeLine)
 (hQ:∀ h' tk acc' c',(∀ b o,s.heap.get? b=some o->h'.get? b=some o) ->
  h'.get? s.heap.objs.size=some { cls:=.type "list",dict:=none,data:=.seq acc' c',slots:=#[] } -> ItemsOf (KeyAt prog w kvs) acc' kvs.length->Q (.ref s.heap.objs.size) { s with heap:=h',toks:=tk }) :
 wpAny (model prog w) A (call (.type "list") [.ref d]) Q E s:=by
 refine callType_codes (Q₁:=fun obj s₁=>obj=.ref s.heap.objs.size/\s₁ = { s with heap:=s.heap.push { cls:=.type "list",data:=.seq #[] } }) F.called_list (F.typeCall_list_1 _) F.entry_list_init
  (code_list_new _ ⟨rfl,rfl⟩) fun obj s₁ h₁=>?_
 obtain ⟨rfl,rfl⟩:=h₁
 have hS:(s.heap.push { cls:=.type "list",data:=.seq #[] }).get? s.heap.objs.size=some { cls:=.type "list",data:=.seq #[] }:=Heap.get?_push_size _ rfl
 obtain ⟨o,es,ho,hr⟩:=hm
 refine ⟨⟨_,hS,rfl⟩,F.args_list_init_2 _ _,init_dict (A:=A.in1) hh ⟨o,es,Heap.get?_push_of_some _ ho,hr⟩ hd hS (Nat.ne_of_lt (Heap.lt_size ho)) (fun h' tk acc' c' hk hS' hacc=>?_) hn⟩
 exact ⟨rfl,hQ h' tk acc' c' (fun b o e=>hk b o (Nat.ne_of_lt (Heap.lt_size e)) (Heap.get?_push_of_some _ e)) hS' hacc⟩
end
theorem Au.ofGet {α β:Type} {R:α->β->Prop}:∀ {as:List α} {bs:List β},as.length=bs.length->(∀ (i:Nat) a b,as[i]? = some a->bs[i]? = some b->R a b)->Au R as bs
 | [],[],_,_=>trivial
 | a::as,b::bs,h,k=>⟨k 0 a b rfl rfl,Au.ofGet (Nat.succ.inj h) fun i a b e1 e2=>k (i+1) a b e1 e2⟩
 | [],_::_,h,_=>Cf h.symm rfl
 | _::_,[],h,_=>Cf h rfl
section
variable {σ:Ab} {k:Nat} {kvs:List (Str×PyData)}
theorem f_listD (h:σ[k]? = some (.dictS kvs)) (hl:∀ p,p∈kvs->p.1.length<=line):PrN1 (fun X=>call (AZ .list) [X]) (.ref k) σ (vss (kvs.map (·.1))):=fun r g s X A hx=>by
 obtain ⟨a,hk,rfl⟩:=hx
 refine A.has.ob k a _ hk h _ fun x hx' rx=>rx _ fun es ep ws ho hd hk' hp hn hr hz=>?_
 have e:ws.length=kvs.length:=hr.length.symm
 refine call_list_dict (d:=a) (kvs:=ws) A.hh ⟨x,es,hx',ho,hd,hk',hp,hn⟩ (A.notMods hk) (by rw [<-AQ,e]; exact hz) fun h' tk acc c' hkp ha hI=>?_
 refine .made (s':={ s with heap:=h',toks:=tk }) A.has hkp (Bl _) ha (Au.ofGet ?_ fun i v y e1 e2=>?_) ?_
 ·rw [List.length_map,List.length_map,Array.length_toList (xs:=acc),hI.1,e]
 ·obtain ⟨key,z,q1,q2⟩:=hI.2 i y (Array.getElem?_toList.symm.trans e2)
  rw [List.getElem?_map,List.getElem?_map] at e1
  cases e3:kvs[i]? with
  | none=>rw [e3] at e1; exact Ac e1
  | some p =>
   rw [e3] at e1
   obtain ⟨b,e4,e5⟩:=hr.get e3
   have e6:=Av q1 e4
   have hp1:p.1=key:=e5.1.trans (congrArg Prod.fst e6).symm
   obtain ⟨t,rfl⟩:=Value.isStrOf_shape q2
   rw [<-Option.some.inj e1]
   exact ⟨t,by show Value.str key t=Value.str p.1 t; rw [hp1],hl p (List.mem_of_getElem? e3)⟩
 ·rw [List.length_map,List.length_map]; exact hz
end
end Mine
namespace Mine
open PySem PySem.Calls
theorem look_zip:∀ {ns:List Str} {vals:List Value},vals.length=ns.length->∀ {n:Str},n∈ns->((ns.zip vals).lookup n).isNone=false
 | [],_,_,_,h=>nomatch h
 | _::_,[],h,_,_=>Cf h.symm rfl
 | a::ns,v::vals,h,n,hn=>by
  rw [List.zip_cons_cons,List.lookup_cons]
  cases e:n == a with
  | true=>rfl
  | false=>exact look_zip (ns:=ns) (Nat.succ.inj h) ((List.mem_cons.mp hn).resolve_left fun q=>by rw [q,beq_self_eq_true] at e; exact tt_ e)
theorem zip_back:∀ {ns:List Str} {vals:List Value},vals.length=ns.length->ns.Nodup->ns.filterMap (fun n=>((ns.zip vals).lookup n).map (n,·))=ns.zip vals
 | [],[],_,_=>rfl
 | [],_::_,h,_=>Cf h rfl
 | _::_,[],h,_=>Cf h.symm rfl
 | a::ns,v::vals,h,hn=>by
  have hn:=List.nodup_cons.mp hn
  have h0:(((a::ns).zip (v::vals)).lookup a).map (a,·)=some (a,v):=by rw [List.zip_cons_cons,List.lookup_cons,beq_self_eq_true]; rfl
  refine (List.filterMap_cons_some (f:=fun n=>(((a::ns).zip (v::vals)).lookup n).map (n,·)) h0).trans ?_
  show (a,v)::_=(a,v)::ns.zip vals
  refine congrArg _ (Eq.trans ?_ (zip_back (ns:=ns) (vals:=vals) (Nat.succ.inj h) hn.2))
  have e:∀ l:List Str,(∀ x,x∈l->x∈ns)->l.filterMap (fun n=>(List.lookup n ((a,v)::ns.zip vals)).map (n,·))=l.filterMap (fun n=>(List.lookup n (ns.zip vals)).map (n,·)):=by
   intro l hl
   induction l with
   | nil=>rfl
   | cons b l ih =>
    have q:List.lookup b ((a,v)::ns.zip vals)=List.lookup b (ns.zip vals):=by
     rw [List.lookup_cons,beq_false_of_ne fun (q:b=a)=>hn.1 (q▸hl b (.head _))]
    rw [List.filterMap_cons,List.filterMap_cons,q,ih fun x hx=>hl x (.tail _ hx)]
  exact e ns fun _ h=>h
theorem bind_plain {fd:FuncData} {as:List Arg} {kd:List (Option Expr)} {df:List Expr} {vals:List Value} (hp:fd.params=⟨[],as,none,[],kd,none,df⟩) (hd:fd.defaults=.none) (hk:fd.kwdefaults=.none) (h:vals.length=as.length) (hn:(as.map (·.arg)).Nodup) :
 bindArgs fd ⟨vals,[]⟩=pure ((as.map (·.arg)).zip vals):=by
 have hl:vals.length=(as.map (·.arg)).length:=by rw [List.length_map]; exact h
 have h1:(List.filter (fun n=>(List.lookup n ((as.map (·.arg)).zip vals)).isNone) (as.map (·.arg)))=[]:=List.filter_eq_nil_iff.mpr fun n hn=>by rw [look_zip hl hn]; exact Bool.false_ne_true
 have h2:=zip_back hl hn
 have h4:decide (vals.length > (as.map (·.arg)).length)=false:=decide_eq_false (by rw [hl]; exact Nat.lt_irrefl _)
 have h5:notAStandIn .none=pure ():=rfl
 unfold bindArgs seqItems?
 simp only [hp,hd,hk,List.map_nil,List.nil_append,List.forIn_nil,pure_bind,List.append_nil,Option.isNone_none,Bool.and_true,List.length_nil,h4,h5,Option.getD_none,Bool.false_eq_true,if_false,List.drop_nil,List.zip_nil_right,Nat.sub_zero,List.take_length,h1,List.isEmpty_nil,Bool.not_true,h2]
end Mine
namespace Mine
open PySem PySem.Calls
structure Ep (K:Kx) (i:Nat) (nm:Str) (sc:Scope):Prop where
 at_:K.isAt i nm=true
 kind:sc.kind=.function
 gen:sc.isGenerator=false
 co:sc.isCoroutine=false
 nms:∀ p,p∈sc.names->lnameOk K nm p=true
 uni:∀ p,p∈sc.names->sc.names.lookup p.1=some p.2
 par:sc.names.lookup nm=some .local
theorem not_tt {b:Bool} (h:(!b)=true):b=false:=by cases b with | true=>exact ff_ h | false=>rfl
theorem lamOk_ok {K:Kx} {i:Nat} {nm:Str} {sc:Scope} (h:lamOk K i nm sc=true):K.lam.isSome=true/\Ep K i nm sc:=by
 have h1:=Bool.and_eq_true_iff.mp h
 have h2:=Bool.and_eq_true_iff.mp h1.2
 have h3:=Bool.and_eq_true_iff.mp h2.2
 have h4:=Bool.and_eq_true_iff.mp h3.2
 have h5:=Bool.and_eq_true_iff.mp h4.2
 have h6:=Bool.and_eq_true_iff.mp h5.2
 have h7:=Bool.and_eq_true_iff.mp h6.2
 exact ⟨h1.1,h2.1,of_decide_eq_true h3.1,not_tt h4.1,not_tt h5.1,List.all_eq_true.mp h6.1,fun p hp=>of_decide_eq_true (List.all_eq_true.mp h7.1 p hp),of_decide_eq_true h7.2⟩
section
variable {T:Top} {g g':G} {σ:Ab} {s s':Shared} {t c':Addr} {q:Str} {oc:Obj} {ps:Array Value}
theorem among_snoc {pos:Pos} {a b:Int} {c cv:Value} (l:List Value) (h:TriplesOk l) (e:codeAmong pos (l++[rawInt a,rawInt b,c])=some cv):codeAmong pos l=some cv\/cv=c:=by
 fun_induction TriplesOk l with
 | case1 =>
  have e:(if (a == (pos.line:Int)&&b == (pos.col:Int))=true then some c else codeAmong pos [])=some cv:=e
  split at e
  ·exact .inr (Option.some.inj e).symm
  ·exact Ac e
 | case2 a' t b' u x rest ih =>
  have e:(if (a' == (pos.line:Int)&&b' == (pos.col:Int))=true then some x else codeAmong pos (rest++[rawInt a,rawInt b,c]))=some cv:=e
  show (if (a' == (pos.line:Int)&&b' == (pos.col:Int))=true then some x else codeAmong pos rest)=some cv\/_
  split at e
  ·rename_i q; rw [if_pos q]; exact .inl e
  ·rename_i q; rw [if_neg q]; exact ih h e
 | case3=>exact h.elim
theorem Has.code (H:Has T g σ s) (tf:∀ t q q',(t,q)∈T.tabs->(t,q')∈T.tabs->q=q') (hm:(t,q)∈T.tabs) (hx:Heap.ExtBut t s.heap s'.heap) (hn:s.heap.get? c'=none) (hc:s'.heap.get? c'=some oc) (ht:s'.heap.get? t=some { cls:=.none,data:=.fields ps }) (tri:TriplesOk ps.toList)
 (hcc:∀ pos cv,codeAmong pos ps.toList=some cv->∃ c o vs u,cv=.ref c/\(g.put c' oc).fz c=some o/\o.data=.fields vs/\vs[1]? = some (.str q u)) (hg:s'.gens=s.gens) (hos:s'.os=s.os):Has T (g.put c' oc) σ s':=by
 refine H.tb t q hm _ fun ps0 t1 t2 t3 t4 _ _=>?_
 have F:=H.free hn
 have le:G.le [] g (g.put c' oc):=.put F.fz
 have ne:∀ {b:Addr},b≠c'->(g.put c' oc).fz b=g.fz b:=fun q=>if_neg q
 have tc:t≠c':=fun e=>Aq hn (e▸t4)
 refine ⟨fun b x e=>?_,fun b x e=>hx b x (fun e'=>Aq t2 (e'▸e)) (H.hd b x e),H.len,H.nd,fun b hb=>(ne fun e=>F.mu (e▸hb)).trans (H.ap b hb),fun b x e=>⟨(ne fun e'=>Aq F.hid (e'▸e)).trans (H.ah b x e).1,(H.ah b x e).2⟩,fun k b x e1 e2 R_ r=>H.ob k b x e1 e2 R_ fun y h1 h2=>r y (hx b y (fun e=>t3 (e▸List.mem_of_getElem? e1)) h1) (D0.mono le.toup _ _ h2),fun b x e=>le.fz b x (H.base b x e),fun t' q' m R_ r=>?_,hg.trans H.gens,hos.trans H.os⟩
 ·by_cases e':b=c'
  ·rw [e'] at e ⊢; rw [<-Option.some.inj (G.put_self.symm.trans e)]; exact hc
  ·rw [ne e'] at e; exact hx b x (fun e''=>Aq t1 (e''▸e)) (H.fz b x e)
 ·by_cases e':t'=t
  ·subst e'
   rw [tf t' q' q m hm] at r
   exact r ps ((ne tc).trans t1) t2 t3 ht tri hcc
  ·refine H.tb t' q' m R_ fun ps h1 h2 h3 h4 h5 h6=>r ps ((ne fun e=>F.tab q' (e▸m)).trans h1) h2 h3 (hx t' _ e' h4) h5 fun pos cv e=>?_
   obtain ⟨c,o,vs,u,q1,q2,q3⟩:=h6 pos cv e
   exact ⟨c,o,vs,u,q1,le.fz _ _ q2,q3⟩
end
end Mine
namespace Mine
open PySem PySem.Calls
noncomputable def LamAt (g:G) (env:Env) (q nm:Str) (ap:Pos) (b:Expr) (sc:Scope) (f:Addr):Prop:=∀ R_:Prop,(∀ (pm ctv:Value) (c':Addr) (o fo:Obj) (vs:Array Value) (t:Tok),g.fz f=some fo->fo.data=.func (W.kla_fn "<lambda>" q (Em nm ap) b sc (DC env sc.names []) pm (.ref c') ctv)->g.fz c'=some o->o.data=.fields vs->vs[1]? = some (.str q t)->R_)->R_
section
variable {n i:Nat} {c:Cx} {ρ:Af} {g g':G} {σ:Ab} {s s':Shared} {t:Addr} {q nm m:Str} {ap lp:Pos} {b:Expr} {sc:Scope} {f:Addr}
theorem LamAt.mono {env:Env} (up:G.up g g') (h:LamAt g env q nm ap b sc f):LamAt g' env q nm ap b sc f:=fun R_ k=>h R_ fun pm ctv c' o fo vs t h1 h2 h3 h4 h5=>k pm ctv c' o fo vs t (up.fz _ _ h1) h2 (up.fz _ _ h3) h4 h5
theorem Ep.fre {K:Kx} (L:Ep K i nm sc) (h:(m,NameKind.free)∈sc.names):K.names.lookup m=some .cell\/K.names.lookup m=some .free:=by
 rcases Bool.or_eq_true_iff.mp (L.nms _ h) with h | h
 ·exact Br (of_decide_eq_true (Bool.and_eq_true_iff.mp h).1) rfl
 ·rcases Bool.or_eq_true_iff.mp h with h | h
  ·exact (Bool.or_eq_true_iff.mp (Bool.and_eq_true_iff.mp h).2).imp Kx.kd_eq Kx.kd_eq
  ·exact Br (of_decide_eq_true h) rfl
theorem lam_clos (L:Ep c.K i nm sc) (I:Inv n c ρ g σ s):closureFor sc c.env=pure (DC c.env sc.names []) :=
 Ey sc fun m hm=>I.loc.ce m (by rw [AE I.cx.names]; exact L.fre hm) _ fun a _ e _ _=>⟨a,e⟩
theorem lam_make (L:Ep c.K i nm sc) (hl:c.K.lam=some (t,q)) (I:Inv n c ρ g σ s):c.wp (eval (.Lambda (Em nm ap) b sc lp) c.env) (fun X s'=>BK c.T [] g σ (fun g'=>∃ f,X=.ref f/\LamAt g' c.env q nm ap b sc f) s') s:=by
 obtain ⟨_,ht,hq,a,hcode,hd⟩:=I.cx.lamc t q hl
 obtain ⟨mg,mb,hg,hb,_,bm,ob,b1,b2,b3,b4,b5,b6⟩:=I.cx.rd.ns
 refine I.has.tb t q ht _ fun ps t1 t2 t3 hP tri hcc=>?_
 have kp:=fun b o e=>I.has.fz b o (I.has.base b o e)
 have hg':s.heap.Ns mainGlobals mg:=hg.keeps kp
 have hC:W.CodeHd s.heap a t:=hd.keeps kp
 have hgP:mainGlobals≠t:=fun e=>by
  obtain ⟨o,es,ep,e',hd,_⟩:=hg'
  rw [e,hP] at e'; rw [<-Option.some.inj e'] at hd; exact nomatch hd
 have hbP:bm≠t:=fun e=>Aq t1 (e▸I.has.base _ _ b3)
 have hbG:bm≠mainGlobals:=fun e=>by
  obtain ⟨o,es,ep,e',hd,_⟩:=hg
  rw [e,e'] at b3; rw [<-Option.some.inj b3,hd] at b6; exact nomatch b6
 have hB:s.heap.BuiltinsAt mg t:=⟨bm,ob,b1,b2,hbG,hbP,kp _ _ b3,b4,b5,b6⟩
 refine W.kla_eval rfl ?_
 rw [hq]
 cases hit:codeAmong lp ps.toList with
 | none =>
  refine W.kla_makeFunction (lam_clos L I) I.cx.glob hg' hcode hC hP tri hit hgP hB fun c' ctv h' tk hx hge hlt hrec htb=>?_
  obtain ⟨c2,oc,vs,u,e2,hoc,hdc,hv⟩:=hrec
  obtain rfl:=Value.ref.inj e2
  have hn:s.heap.get? c'=none:=Heap.get?_none_of_le hge
  have le1:G.le [] g (g.put c' oc):=.put (I.has.free hn).fz
  have H1:=I.has.code (s':={ s with heap:=h',toks:=tk }) I.ok.ok.tf ht hx hn hoc htb (by rw [Array.toList_append]; exact TriplesOk_snoc _ _ _ _ tri) (fun pos cv e=>by
   rw [Array.toList_append] at e
   rcases among_snoc _ tri e with e | e
   ·obtain ⟨c3,o3,vs3,t3,q1,q2,q3⟩:=hcc pos cv e
    exact ⟨c3,o3,vs3,t3,q1,le1.fz _ _ q2,q3⟩
   ·exact ⟨c',oc,vs,u,e,G.put_self,hdc,hv⟩) rfl rfl
  have F:=H1.free (Bl _)
  exact .mk _ (le1.trans (.put F.fz)) (F.put (H1.keep fun b o e=>Heap.get?_push_of_some _ e) (Heap.get?_push_size _ rfl)) ⟨_,rfl,fun R_ k=>k _ ctv c' oc _ vs u G.put_self rfl ((G.le.put (own:=[]) F.fz).fz _ _ G.put_self) hdc hv⟩
 | some cv =>
  obtain ⟨c',o3,vs3,u,q1,q2,q3,q4⟩:=hcc lp cv hit
  subst q1
  refine W.kla_makeFunctionHit (lam_clos L I) I.cx.glob hg' hcode hC hP tri hit hB fun ctv h' tk hk hsz=>?_
  have H1:=I.has.keep (s':={ s with heap:=h',toks:=tk }) hk
  have F:=H1.free (Bl _)
  exact .mk _ (.put F.fz) (F.put (H1.keep fun b o e=>Heap.get?_push_of_some _ e) (Heap.get?_push_size _ rfl)) ⟨_,rfl,fun R_ k=>k _ ctv c' o3 _ vs3 u G.put_self rfl ((G.le.put (own:=[]) F.fz).fz _ _ q2) q3 q4⟩
end
end Mine
namespace Mine
open PySem PySem.Calls
noncomputable abbrev lamC (c:Cx) (nm q:Str) (sc:Scope) (C f:Addr) (cd:Value):Cx:=⟨⟨c.T,W.envX q sc C f cd (DC c.env sc.names [])::c.fe,c.A.in1.in1.deeper (W.envX q sc C f cd (DC c.env sc.names []))⟩,c.K.lsub nm sc,W.envX q sc C f cd (DC c.env sc.names []),[C]⟩
section
variable {n i:Nat} {c:Cx} {ρ:Af} {g g':G} {σ σ':Ab} {s s':Shared} {t:Addr} {q nm m:Str} {ap lp:Pos} {b:Expr} {sc:Scope} {f C:Addr} {cd X:Value} {v w:V} {key:E} {o:Obj}
theorem Ep.noc {K:Kx} (L:Ep K i nm sc):∀ p,p∈sc.names->p.2≠.cell:=fun p hp e=>by
 rcases Bool.or_eq_true_iff.mp (L.nms _ hp) with h | h
 ·exact Br (e.symm.trans (of_decide_eq_true (Bool.and_eq_true_iff.mp h).1)) rfl
 ·rcases Bool.or_eq_true_iff.mp h with h | h
  ·exact Br (e.symm.trans (of_decide_eq_true (Bool.and_eq_true_iff.mp h).1)) rfl
  ·exact Br (e.symm.trans (of_decide_eq_true h)) rfl
theorem Ep.loc {K:Kx} (L:Ep K i nm sc) (h:(m,NameKind.local)∈sc.names):m=nm:=by
 rcases Bool.or_eq_true_iff.mp (L.nms _ h) with h | h
 ·exact eq_of_beq (Bool.and_eq_true_iff.mp h).2
 ·rcases Bool.or_eq_true_iff.mp h with h | h
  ·exact Br (of_decide_eq_true (Bool.and_eq_true_iff.mp h).1) rfl
  ·exact Br (of_decide_eq_true h) rfl
theorem Ep.at {K:Kx} (L:Ep K i nm sc):K.vars[i]? = some nm:=by
 have h:(match K.vars[i]? with | some m=>m == nm | none=>false)=true:=L.at_
 cases e:K.vars[i]? with
 | none=>rw [e] at h; exact ff_ h
 | some m=>rw [e] at h; rw [eq_of_beq h]
theorem lam_look (L:Ep c.K i nm sc) (I:Inv n c ρ g σ s) {a:Addr} (h:(DC c.env sc.names []).lookup m=some a):c.env.cells.lookup m=some a:=by
 rcases Fr (AW h) with e | e
 ·exact nomatch e
 ·exact I.loc.ce m (by rw [AE I.cx.names]; exact L.fre e.1) _ fun a' _ h1 _ _=>by rw [h1,e.2,h1]; rfl
theorem lam_inv (L:Ep c.K i nm sc) (I:Inv (n+1) c ρ g σ s) (r:An c.T g v X) (H:Has c.T (g.hide C o) σ s') (hC:g.hid C=none) (hn:NsF (g.hide C o).hid C fun y=>[(nm,X)].reverse.lookup y):Inv n (lamC c nm q sc C f cd) (ρ.set i (some v)) (g.hide C o) σ s':=by
 have up:G.up g (g.hide C o):=⟨fun _ _ e=>e,fun _ _ e=>e⟩
 refine ⟨⟨I.ok,?_,⟨_,c.fe,rfl,(by show sc.kind≠_; rw [L.kind]; exact fun q=>nomatch q),L.gen,L.co,rfl,rfl⟩,?_,?_,I.hh,H⟩,⟨I.cx.rd,rfl,L.kind,rfl,rfl,fun m m' a h h'=>I.cx.cinj m m' a (lam_look L I h) (lam_look L I h'),I.cx.nd,.head _,fun m _ a hk _=>absurd rfl (L.noc _ (AW (show sc.names.lookup m=some .cell from hk))),fun t q h=>Ac h⟩,fun R_ k=>k _ hn fun j y u e1 e2 e3=>?_,fun y hk R_ k=>?_,A8 (AA G.hide_self)⟩
 ·show c.A.frames.map _=_
  rw [I.frames]; rfl
 ·show c.A.depth+1+n<=600
  rw [Nat.add_assoc,Nat.add_comm 1 n]; exact I.depth
 ·show c.A.units+1+1+3+100 * n<=9000
  have h:c.A.units+100 * (n+1)<=9000:=I.units
  omega
 ·have hy:y=nm:=L.loc (AW (show sc.names.lookup y=some .local from e3))
  rcases GM e2 with ⟨h1,h2⟩ | ⟨h1,h2⟩
  ·rw [hy,<-h2]
   exact ⟨X,by show List.lookup nm [(nm,X)]=some X; rw [List.lookup_cons,beq_self_eq_true],An.mono up _ _ r⟩
  ·exact absurd (FH I.cx.nd (hy▸e1) L.at) h1
 ·have hf:(y,NameKind.free)∈sc.names:=hk.elim (fun h=>absurd rfl (L.noc _ (AW (show sc.names.lookup y=some .cell from h)))) fun h=>AW (show sc.names.lookup y=some .free from h)
  refine I.loc.ce y (by rw [AE I.cx.names]; exact L.fre hf) R_ fun a u h1 h2 h3=>k a u (cl_look hf h1) (h2.to fun o' e=>(G.hide_ne fun q=>Aq hC (q▸e)).trans e) fun j u' e1 e2=>?_
  rcases GM e2 with ⟨p1,p2⟩ | ⟨p1,p2⟩
  ·have e3:y=nm:=Av (p1▸e1) L.at
   exact Br (Av (L.uni _ hf) (e3▸L.par)) rfl
  ·exact BE up (h3 j u' e1 p2)
theorem lam_bind {cl:List (Str×Addr)} {pm cd ct x:Value}:bindArgs (W.kla_fn "<lambda>" q (Em nm ap) b sc cl pm cd ct) ⟨[x],[]⟩=pure [(nm,x)] :=
 bind_plain (fd:=W.kla_fn "<lambda>" q (Em nm ap) b sc cl pm cd ct) (as:=[⟨nm,none,ap⟩]) rfl rfl rfl rfl (List.nodup_cons.mpr ⟨List.not_mem_nil,List.nodup_nil⟩)
theorem lam_call (hs:SE n key (ρ.set i (some v)) σ w σ') (L:Ep c.K i nm sc) (hb:IsE key (c.K.lsub nm sc) b) (I:Inv (n+1) c ρ g σ s) (lm:LamAt g c.env q nm ap b sc f) (r:An c.T g v X):wpAny (model c.T.prog c.T.w) c.A.in1.in1 (call (.ref f) [X]) (Ans c.toAr g w σ') (fun _ _=>False) s:=lm _ fun pm ctv c' o fo vs t h1 h2 h3 h4 h5=>by
 refine wpAny_call (W.kla_callFunE (Nat.lt_of_le_of_lt (Nat.le_trans (Nat.le_add_right _ _) I.depth) (by decide)) (I.has.fz _ _ h1) h2 L.co L.gen rfl ⟨c',o,vs,t,rfl,I.has.fz _ _ h3,h4,h5⟩ ?_)
 rw [lam_bind]
 refine wpAny_pure (wpAny_newFunctionEnv L.noc (fun y hy=>by rw [List.mem_singleton.mp hy]; exact L.par) (fun h₁ hns hsb=>?_) L.kind)
 have hk:∀ b o,s.heap.get? b=some o->h₁.get? b=some o:=fun b o e=>hsb.extBut b o (Nat.ne_of_lt (Heap.lt_size e)) (Heap.get?_push_of_some _ e)
 refine ⟨I.nolimit.keeps hk,?_⟩
 obtain ⟨oL,es,ep,hoL,hL⟩:=hns
 have F:=I.has.free (Bl _)
 have H:=F.hide (I.has.keep (s':={ s with heap:=h₁,toks:=s.toks + [(nm,X)].length }) hk) hoL
 have I':=lam_inv (q:=q) (f:=f) (cd:=.ref c') L I r H F.hid ⟨oL,es,ep,G.hide_self,hL⟩
 show codeAny _ _ (.expr b (W.envX q sc s.heap.objs.size f (.ref c') (DC c.env sc.names []))) _ _
 refine W.kla_codeExpr (wpAny_mono (hs _ _ _ b hb I') (fun y s' p=>p _ fun g2 le H2 rv=>?_) fun _ _ h=>h.elim)
 have e2:=(le.hid s.heap.objs.size List.not_mem_nil).trans G.hide_self
 obtain ⟨hd,H',le',_⟩:=H2.back (its:=[s.heap.objs.size]) (own:=[]) (s':=s') (G.le.trans (g':=g.hide s.heap.objs.size oL) (.hide (.head _)) le.toO) (A8 F.hid) (fun _ _ _ e=>e) (H2.away (A8 (AA e2)))
 exact .mk _ le' H' (An.eta rv)
end
end Mine
namespace Mine
set_option tactic.hygienic true
set_option backward.match.sparseCases true
set_option genInjectivity true
open PySem PyProof.Rows
noncomputable def RR (ρ:Keyed->Nat) (xs:Array Keyed) (i:Nat):Nat:=match xs[i]? with | some p=>ρ p | none=>0
theorem BX {ρ:Keyed->Nat} {xs ys:Array Keyed} {i j:Nat} (h:xs[i]? = ys[j]?):RR ρ xs i=RR ρ ys j:=by unfold RR; rw [h]
noncomputable def Bef (κ:KeyKind) (ρ:Keyed->Nat) (xs:Array Keyed) (i j:Nat):Prop:=κ.klt (KK κ xs i) (KK κ xs j)\/(KK κ xs i=KK κ xs j/\RR ρ xs i < RR ρ xs j)
noncomputable def Bg (κ:KeyKind) (ρ:Keyed->Nat) (xs:Array Keyed) (n:Nat):Prop:=∀ i j,i < j->j < n->Bef κ ρ xs i j
section
variable {κ:KeyKind} {ρ:Keyed->Nat} {xs ys:Array Keyed} {i j i' j' n:Nat}
theorem Bef.congr (h:Bef κ ρ ys i' j') (hi:xs[i]? = ys[i']?) (hj:xs[j]? = ys[j']?):Bef κ ρ xs i j:=by
 unfold Bef; rw [KK_congr (κ:=κ) hi,KK_congr (κ:=κ) hj,BX (ρ:=ρ) hi,BX (ρ:=ρ) hj]; exact h
theorem Bef.kle (h:Bef κ ρ xs i j):κ.kle (KK κ xs i) (KK κ xs j):=h.elim (fun h=>KeyOrd.kle_of_klt h) fun h=>by rw [h.1]; exact KeyOrd.kle_refl _
theorem bef_of (h:κ.kle (KK κ xs i) (KK κ xs j)) (hr:RR ρ xs i < RR ρ xs j):Bef κ ρ xs i j:=by
 cases hb:κ.blt (KK κ xs i) (KK κ xs j) with
 | true=>exact .inl hb
 | false=>exact .inr ⟨(κ.total _ _ (show κ.blt (KK κ xs j) (KK κ xs i)=false from h) hb).symm,hr⟩
theorem Bg.sorted (h:Bg κ ρ xs n):SortedToK κ xs n:=fun i j hij hj=>by
 by_cases e:i=j
 ·subst e; exact KeyOrd.kle_refl _
 ·exact (h i j (by lia) hj).kle
end
structure SOk (κ:KeyKind) (ρ:Keyed->Nat) (a₀:Array Keyed) (st:SortSt) (n:Nat):Prop where
 base:SBase a₀ st
 rest:∀ i,n<=i->i < a₀.size->RR ρ (arrOf st) i=i
 low:∀ i,i < n->RR ρ (arrOf st) i < n
section
variable {prog:Program} {w:World} {A:Around} {E:Value->Shared->Prop} {s:Shared} {a₀:Array Keyed} {κ:KeyKind} {ρ:Keyed->Nat}
theorem SOk.more {st:SortSt} {n:Nat} (h:SOk κ ρ a₀ st n) (hn:n < a₀.size):SOk κ ρ a₀ st (n+1) :=
 ⟨h.base,fun i h1 h2=>h.rest i (by (exact Nat.le_of_lt ‹_›)) h2,fun i hi=>by
  by_cases e:i=n
  ·subst e; rw [h.rest i (Nat.le_refl _) hn]; (with_reducible assumption)
  ·have:=h.low i (by lia); (exact Nat.le_succ_of_le ‹_›)⟩
theorem Cj {xs:Array Keyed} {k l:Nat} (hk:k < xs.size) (hl:l<=k) (x:Nat) :
 (x=l/\(bubble xs k (k-l))[x]? = xs[k]?)\/(l < x/\x<=k/\(bubble xs k (k-l))[x]? = xs[x-1]?)\/((x < l\/k < x)/\(bubble xs k (k-l))[x]? = xs[x]?):=by
 have e:=getElem?_bubble hk (k-l) (by (exact Nat.sub_le _ _)) x
 rw [show k-(k-l)=l by lia] at e
 by_cases h1:x=l
 ·rw [if_pos h1] at e; exact .inl ⟨h1,e⟩
 ·rw [if_neg h1] at e
  by_cases h2:l < x/\x<=k
  ·rw [if_pos h2] at e; exact .inr (.inl ⟨h2.1,h2.2,e⟩)
  ·rw [if_neg h2] at e; exact .inr (.inr ⟨by lia,e⟩)
theorem stab_bubble {xs:Array Keyed} {k l:Nat} (hk:k < xs.size) (hl:l<=k) (hs:Bg κ ρ xs k) (hlo:∀ i,i < l->Bef κ ρ xs i k) (hhi:∀ i,l<=i->i < k->κ.klt (KK κ xs k) (KK κ xs i)) :
 Bg κ ρ (bubble xs k (k-l)) (k+1):=by
 intro i j hij hj
 rcases Cj hk hl i with ⟨h1,e1⟩ | ⟨h1,h2,e1⟩ | ⟨h1,e1⟩
 ·rcases Cj hk hl j with ⟨g1,e2⟩ | ⟨g1,g2,e2⟩ | ⟨g1,e2⟩
  ·omega
  ·exact Bef.congr (.inl (hhi (j-1) (by omega) (by omega))) e1 e2
  ·omega
 ·rcases Cj hk hl j with ⟨g1,e2⟩ | ⟨g1,g2,e2⟩ | ⟨g1,e2⟩
  ·omega
  ·exact Bef.congr (hs (i-1) (j-1) (by omega) (by omega)) e1 e2
  ·omega
 ·rcases Cj hk hl j with ⟨g1,e2⟩ | ⟨g1,g2,e2⟩ | ⟨g1,e2⟩
  ·exact Bef.congr (hlo i (by omega)) e1 e2
  ·exact Bef.congr (hs i (j-1) (by omega) (by omega)) e1 e2
  ·exact Bef.congr (hs i j hij (by omega)) e1 e2
theorem SOk.bubble {st:SortSt} {k l:Nat} (h:SOk κ ρ a₀ st k) (hk:k < a₀.size) (hl:l<=k):SOk κ ρ a₀ (setArr st (bubble (arrOf st) k (k-l))) (k+1):=by
 have hks:k < (arrOf st).size:=by rw [h.base.size]; exact hk
 refine ⟨h.base.setArr (bubble_perm _ _ _),fun i h1 h2=>?_,fun i hi=>?_⟩
 ·show RR ρ (PyProof.Rows.bubble (arrOf st) k (k-l)) i=i
  rcases Cj hks hl i with ⟨g1,e⟩ | ⟨g1,g2,e⟩ | ⟨g1,e⟩
  ·lia
  ·lia
  ·rw [BX e]; exact h.rest i (by (exact Nat.le_of_lt ‹_›)) h2
 ·show RR ρ (PyProof.Rows.bubble (arrOf st) k (k-l)) i < k+1
  rcases Cj hks hl i with ⟨g1,e⟩ | ⟨g1,g2,e⟩ | ⟨g1,e⟩
  ·rw [BX e,h.rest k (Nat.le_refl _) hk]; (exact Nat.lt_add_one _)
  ·rw [BX e]; have:=h.low (i-1) (by omega); (exact Nat.le_succ_of_le ‹_›)
  ·rw [BX e]; have:=h.low i (by lia); (exact Nat.le_succ_of_le ‹_›)
theorem Gz {st:SortSt} {n ok:Nat} {Q:Bool->SortSt->Prop} (hO:κ.OneLt) (h0:KeysOf κ a₀) (hn:n<=a₀.size) (hok:ok<=n) (ho1:1<=ok) (hB:SOk κ ρ a₀ st ok) (hs:Bg κ ρ (arrOf st) ok)
 (h:∀ st',SOk κ ρ a₀ st' n->Bg κ ρ (arrOf st') n->Q true st'):wpS (model prog w) A E s (binarySort' 0 n ok) Q st:=by
 rw [binarySort'_eq]
 simp only [Nat.zero_add]
 refine wpS_bind (wpS_mono (wpS_forRange (I:=fun k c st'=>c=(none,())/\SOk κ ρ a₀ st' (min k n)/\Bg κ ρ (arrOf st') (min k n))
  (Q:=fun c st'=>c=(none,())/\SOk κ ρ a₀ st' n/\Bg κ ρ (arrOf st') n) ?step ?fin ?init) ?post)
 case post =>
  rintro c st' ⟨rfl,hB',hs'⟩
  exact wpS_pure (h st' hB' hs')
 case init =>
  rw [show min (max ok 1) n=ok by lia]
  exact ⟨rfl,hB,hs⟩
 case fin =>
  rintro c st' ⟨hc,hB',hs'⟩
  rw [show min (max (max ok 1) n) n=n by lia] at hB' hs'
  exact ⟨hc,hB',hs'⟩
 case step =>
  rintro k c st' hak hkn ⟨rfl,hB',hs'⟩
  rw [show min k n=k by lia] at hB' hs'
  have hk:k < a₀.size:=by (exact Nat.le_trans ‹_› ‹_›)
  have hss:=hs'.sorted
  refine wpS_bind (wpS_mono (wpS_forRange (I:=fun x c st''=>st''=st'/\∃ l r,c=(none,l,r)/\l<=r/\r<=k/\r-l<=k-x ∧
   (∀ i,i < l->κ.kle (KK κ (arrOf st') i) (KK κ (arrOf st') k))/\(∀ i,r<=i->i < k->κ.klt (KK κ (arrOf st') k) (KK κ (arrOf st') i)))
   (Q:=fun c st''=>st''=st'/\∃ l r,c=(none,l,r)/\l<=k ∧
    (∀ i,i < l->κ.kle (KK κ (arrOf st') i) (KK κ (arrOf st') k))/\(∀ i,l<=i->i < k->κ.klt (KK κ (arrOf st') k) (KK κ (arrOf st') i))) ?istep ?ifin ?iinit) ?ipost)
  case iinit=>exact ⟨rfl,0,k,rfl,by (exact Nat.zero_le _),by lia,by (exact Nat.sub_le _ _),fun i hi=>by lia,fun i h1 h2=>by lia⟩
  case ifin =>
   rintro c st'' ⟨rfl,l,r,rfl,hlr,hrk,hm,hlo,hhi⟩
   have:l=r:=by lia
   subst this
   exact ⟨rfl,l,l,rfl,hrk,hlo,hhi⟩
  case istep =>
   rintro x c st'' _ hxk ⟨rfl,l,r,rfl,hlr,hrk,hm,hlo,hhi⟩
   dsimp only
   by_cases hge:l ≥ r
   ·rw [if_pos hge]
    have:l=r:=by lia
    subst this
    exact wpS_pure ⟨rfl,l,l,rfl,hrk,hlo,hhi⟩
   ·rw [if_neg hge]
    refine wpS_bind (wpS_ltKK hO hB'.base h0 hk (by lia) ?_)
    cases hless:κ.blt (KK κ (arrOf st'') k) (KK κ (arrOf st'') ((l+r) / 2))
    case true =>
     simp only [if_true]
     refine wpS_pure ⟨rfl,l,(l+r) / 2,rfl,by lia,by lia,by lia,hlo,fun i h1 h2=>?_⟩
     exact KeyOrd.klt_of_klt_of_kle hless (hss _ _ h1 h2)
    case false =>
     simp only [Bool.false_eq_true,if_false]
     refine wpS_pure ⟨rfl,(l+r) / 2+1,r,rfl,by lia,by (with_reducible assumption),by lia,fun i h1=>?_,hhi⟩
     exact KeyOrd.kle_trans (hss i ((l+r) / 2) (by (exact Nat.le_of_lt_succ ‹_›)) (by lia)) (show κ.kle _ _ from hless)
  case ipost =>
   rintro c st'' ⟨rfl,l,r,rfl,hlk,hlo,hhi⟩
   show wpS _ _ _ _ (do moveDown' k l; pure (ForInStep.yield (none,()))) _ _
   rw [moveDown'_eq]
   refine wpS_bind (wpS_modify (wpS_pure ⟨rfl,?_,?_⟩))
   ·rw [show min (k+1) n=k+1 by lia]; exact hB'.bubble hk hlk
   ·rw [show min (k+1) n=k+1 by lia]
    exact stab_bubble (by rw [hB'.base.size]; exact hk) hlk hs' (fun i hi=>bef_of (hlo i hi) (by rw [hB'.rest k (Nat.le_refl _) hk]; exact hB'.low i (by (exact Nat.le_trans ‹_› ‹_›)))) hhi
theorem EG {st:SortSt} {a nrem:Nat} {Q:AscSt->SortSt->Prop} (hO:κ.OneLt) (h0:KeysOf κ a₀) (hn:nrem<=a₀.size) (ha:1<=a) (han:a<=nrem) (hB:SOk κ ρ a₀ st a)
 (hs:Bg κ ρ (arrOf st) a)
 (h:∀ n,a<=n->n<=nrem->SOk κ ρ a₀ st n->Bg κ ρ (arrOf st) n->(n=nrem\/κ.klt (KK κ (arrOf st) n) (KK κ (arrOf st) (n-1)))->Q (none,n) st) :
 wpS (model prog w) A E s (ascLoop a nrem) Q st:=by
 unfold ascLoop
 refine wpS_forRange (I:=fun x c st'=>st'=st/\c=(none,x)/\SOk κ ρ a₀ st x/\Bg κ ρ (arrOf st) x) ?step ?fin ⟨rfl,rfl,hB,hs⟩
 case fin =>
  rintro c st' ⟨rfl,rfl,hB',hs'⟩
  rw [show max a nrem=nrem by lia] at hB' hs' ⊢
  exact h nrem han (Nat.le_refl _) hB' hs' (.inl rfl)
 case step =>
  rintro x c st' hax hxn ⟨rfl,rfl,hB',hs'⟩
  dsimp only
  refine wpS_bind (wpS_ltKK hO hB'.base h0 (by (exact Nat.le_trans ‹_› ‹_›)) (by lia) ?_)
  cases hless:κ.blt (KK κ (arrOf st') x) (KK κ (arrOf st') (x-1))
  case true =>
   simp only [if_true]
   exact wpS_pure (h x hax (by (exact Nat.le_of_lt ‹_›)) hB' hs' (.inr hless))
  case false =>
   simp only [Bool.false_eq_true,if_false]
   refine wpS_pure ⟨rfl,rfl,hB'.more (by (exact Nat.le_trans ‹_› ‹_›)),fun i j hij hj=>?_⟩
   by_cases hjx:j < x
   ·exact hs' i j hij hjx
   ·have hj':j=x:=by lia
    subst hj'
    refine bef_of (KeyOrd.kle_trans (hs'.sorted i (j-1) (by lia) (by lia)) hless) ?_
    rw [hB'.rest j (Nat.le_refl _) (by lia)]; exact hB'.low i hij
end
end Mine
namespace Mine
set_option tactic.hygienic true
set_option backward.match.sparseCases true
set_option genInjectivity true
open PySem PyProof.Rows
section
variable {prog:Program} {w:World} {A:Around} {E:Value->Shared->Prop} {s:Shared} {a₀:Array Keyed} {κ:KeyKind} {ρ:Keyed->Nat}
theorem B1 {xs:Array Keyed} {b m:Nat} (hm:m<=xs.size) (x:Nat) :
 (b<=x/\x < m/\(mirror xs b m ((m-b) / 2))[x]? = xs[b+m-1-x]?)\/((x < b\/m<=x)/\(mirror xs b m ((m-b) / 2))[x]? = xs[x]?):=by
 have e:=getElem?_mirror_all (i:=b) hm x
 by_cases h1:b<=x/\x < m
 ·rw [if_pos h1] at e; exact .inl ⟨h1.1,h1.2,e⟩
 ·rw [if_neg h1] at e; exact .inr ⟨by lia,e⟩
theorem SOk.mirror {st:SortSt} {b m:Nat} (h:SOk κ ρ a₀ st m) (hm:m<=a₀.size):SOk κ ρ a₀ (setArr st (mirror (arrOf st) b m ((m-b) / 2))) m:=by
 have hms:m<=(arrOf st).size:=by rw [h.base.size]; exact hm
 refine ⟨h.base.setArr (mirror_perm _ _ _ _),fun i h1 h2=>?_,fun i hi=>?_⟩
 ·show RR ρ (PyProof.Rows.mirror (arrOf st) b m ((m-b) / 2)) i=i
  rcases B1 (b:=b) hms i with ⟨g1,g2,e⟩ | ⟨g1,e⟩
  ·lia
  ·rw [BX e]; exact h.rest i h1 h2
 ·show RR ρ (PyProof.Rows.mirror (arrOf st) b m ((m-b) / 2)) i < m
  rcases B1 (b:=b) hms i with ⟨g1,g2,e⟩ | ⟨g1,e⟩
  ·rw [BX e]; exact h.low _ (by omega)
  ·rw [BX e]; exact h.low _ hi
noncomputable def RevTo (κ:KeyKind) (ρ:Keyed->Nat) (xs:Array Keyed) (n:Nat):Prop:=∀ i j,i < j->j < n->Bef κ ρ xs j i
theorem rev_stab {xs:Array Keyed} {m:Nat} (hm:m<=xs.size) (h:RevTo κ ρ xs m):Bg κ ρ (mirror xs 0 m ((m-0) / 2)) m:=by
 intro i j hij hj
 rcases B1 (b:=0) hm i with ⟨g1,g2,e1⟩ | ⟨g1,e1⟩
 ·rcases B1 (b:=0) hm j with ⟨k1,k2,e2⟩ | ⟨k1,e2⟩
  ·exact Bef.congr (h (0+m-1-j) (0+m-1-i) (by omega) (by omega)) e1 e2
  ·omega
 ·omega
structure Dsc (κ:KeyKind) (ρ:Keyed->Nat) (a₀:Array Keyed) (st:SortSt) (x neq:Nat):Prop where
 ok:SOk κ ρ a₀ st x
 le:neq+1<=x
 rev:∀ i j,i < j->j < x->i < x-(neq+1)->Bef κ ρ (arrOf st) j i
 eq:∀ i,x-(neq+1)<=i->i < x->KK κ (arrOf st) i=KK κ (arrOf st) (x-1)/\RR ρ (arrOf st) i=i
theorem Dsc.kle {st:SortSt} {x neq:Nat} (h:Dsc κ ρ a₀ st x neq) {i:Nat} (hi:i < x):κ.kle (KK κ (arrOf st) (x-1)) (KK κ (arrOf st) i):=by
 by_cases h1:i < x-(neq+1)
 ·exact (h.rev i (x-1) (by omega) (by omega) h1).kle
 ·rw [(h.eq i (by (exact Nat.le_of_not_lt ‹_›)) hi).1]; exact KeyOrd.kle_refl _
theorem Dsc.turn {st:SortSt} {x neq:Nat} (h:Dsc κ ρ a₀ st x neq) (hx:x<=a₀.size) :
 SOk κ ρ a₀ (setArr st (mirror (arrOf st) (x-(neq+1)) x ((x-(x-(neq+1))) / 2))) x/\RevTo κ ρ (mirror (arrOf st) (x-(neq+1)) x ((x-(x-(neq+1))) / 2)) x ∧
 ∀ k,KK κ (mirror (arrOf st) (x-(neq+1)) x ((x-(x-(neq+1))) / 2)) k=KK κ (arrOf st) k:=by
 have hxs:x<=(arrOf st).size:=by rw [h.ok.base.size]; exact hx
 have hle:=h.le
 refine ⟨h.ok.mirror hx,fun i j hij hj=>?_,KK_mirror_equal hxs fun k h1 h2=>(h.eq k h1 h2).1⟩
 rcases B1 (b:=x-(neq+1)) hxs i with ⟨g1,g2,e1⟩ | ⟨g1,e1⟩
 ·rcases B1 (b:=x-(neq+1)) hxs j with ⟨k1,k2,e2⟩ | ⟨k1,e2⟩
  ·refine Bef.congr (.inr ⟨?_,?_⟩) e2 e1
   ·rw [(h.eq _ (by omega) (by omega)).1]; exact (h.eq _ (by omega) (by omega)).1.symm
   ·rw [(h.eq _ (by omega) (by omega)).2,(h.eq _ (by omega) (by omega)).2]; omega
  ·omega
 ·rcases B1 (b:=x-(neq+1)) hxs j with ⟨k1,k2,e2⟩ | ⟨k1,e2⟩
  ·exact Bef.congr (h.rev i _ (by omega) (by omega) (by omega)) e2 e1
  ·exact Bef.congr (h.rev i j hij hj (by omega)) e2 e1
theorem Dsc.whole {st:SortSt} {x:Nat} (h:Dsc κ ρ a₀ st x 0):RevTo κ ρ (arrOf st) x:=fun i j hij hj=>h.rev i j hij hj (by omega)
theorem Fq {st:SortSt} {x:Nat} (ok:SOk κ ρ a₀ st x) (hx:x < a₀.size) (h1:1<=x) (rv:RevTo κ ρ (arrOf st) x) (hl:κ.klt (KK κ (arrOf st) x) (KK κ (arrOf st) (x-1)))
 (hk:∀ i,i < x->κ.kle (KK κ (arrOf st) (x-1)) (KK κ (arrOf st) i)):Dsc κ ρ a₀ st (x+1) 0:=by
 refine ⟨ok.more hx,by (exact Nat.succ_pos _),fun i j hij hj hi=>?_,fun i h2 h3=>?_⟩
 ·by_cases e:j=x
  ·subst e; exact .inl (KeyOrd.klt_of_klt_of_kle hl (hk i (by (with_reducible assumption))))
  ·exact rv i j hij (by lia)
 ·have:i=x:=by lia
  subst this
  exact ⟨rfl,ok.rest i (Nat.le_refl _) hx⟩
theorem Dsc.more {st:SortSt} {x neq:Nat} (h:Dsc κ ρ a₀ st x neq) (hx:x < a₀.size) (he:KK κ (arrOf st) x=KK κ (arrOf st) (x-1)):Dsc κ ρ a₀ st (x+1) (neq+1):=by
 have hle:=h.le
 refine ⟨h.ok.more hx,by (exact Nat.lt_succ_of_le ‹_›),fun i j hij hj hi=>?_,fun i h2 h3=>?_⟩
 ·by_cases e:j=x
  ·subst e
   rcases h.rev i (j-1) (by lia) (by lia) (by lia) with q | ⟨_,q⟩
   ·exact .inl (by rw [he]; exact q)
   ·rw [(h.eq (j-1) (by lia) (by lia)).2] at q
    have:=h.ok.low i (by (with_reducible assumption))
    lia
  ·exact h.rev i j hij (by lia) (by lia)
 ·show KK κ (arrOf st) i=KK κ (arrOf st) x/\_
  by_cases e:i=x
  ·subst e; exact ⟨rfl,h.ok.rest i (Nat.le_refl _) hx⟩
  ·rw [he]; exact h.eq i (by lia) (by lia)
end
end Mine
namespace Mine
set_option tactic.hygienic true
set_option backward.match.sparseCases true
set_option genInjectivity true
open PySem PyProof.Rows
section
variable {prog:Program} {w:World} {A:Around} {E:Value->Shared->Prop} {s:Shared} {a₀:Array Keyed} {κ:KeyKind} {ρ:Keyed->Nat}
theorem GL {st:SortSt} {n nrem:Nat} {Q:Option Nat->SortSt->Prop} (hO:κ.OneLt) (h0:KeysOf κ a₀) (hn:nrem<=a₀.size) (h1:1<=n) (hnn:n<=nrem) (hB:SOk κ ρ a₀ st n)
 (hs:RevTo κ ρ (arrOf st) n) (h:∀ m st',SOk κ ρ a₀ st' m->1<=m->m<=nrem->Bg κ ρ (arrOf st') m->Q (some m) st') :
 wpS (model prog w) A E s (tail3 n nrem) Q st:=by
 unfold tail3
 have hsz:n<=(arrOf st).size:=by rw [hB.base.size]; (exact Nat.le_trans ‹_› ‹_›)
 refine wpS_bind (wpS_reverse ?_)
 have hB':SOk κ ρ a₀ (setArr st (mirror (arrOf st) 0 n ((n-0) / 2))) n:=hB.mirror (by lia)
 exact wpS_bind (EG hO h0 hn h1 hnn hB' (rev_stab hsz hs) fun m hm1 hm2 hBm hsm _=>wpS_pure (h m _ hBm (by (exact Nat.le_trans ‹_› ‹_›)) hm2 hsm))
theorem wpS_descLoopS {st:SortSt} {n nrem:Nat} {Q:DescSt->SortSt->Prop} (hO:κ.OneLt) (h0:KeysOf κ a₀) (hn:nrem<=a₀.size) (h1:1<=n) (hnn:n<=nrem) (hD:Dsc κ ρ a₀ st n 0)
 (h:∀ m neq st',n<=m->m<=nrem->Dsc κ ρ a₀ st' m neq->Q (none,m,neq) st') :
 wpS (model prog w) A E s (descLoop n nrem) Q st:=by
 unfold descLoop
 refine wpS_forRange (I:=fun x c st'=>∃ neq,c=(none,x,neq)/\Dsc κ ρ a₀ st' x neq) ?step ?fin ⟨0,rfl,hD⟩
 case fin =>
  rintro c st' ⟨neq,rfl,hD'⟩
  rw [show max n nrem=nrem by lia] at hD' ⊢
  exact h nrem neq st' hnn (Nat.le_refl _) hD'
 case step =>
  rintro x c st' hax hxn ⟨neq,rfl,hD'⟩
  dsimp only
  refine wpS_bind (wpS_ltKK hO hD'.ok.base h0 (by (exact Nat.le_trans ‹_› ‹_›)) (by lia) ?_)
  cases hless:κ.blt (KK κ (arrOf st') x) (KK κ (arrOf st') (x-1))
  case true =>
   simp only [if_true]
   by_cases hneq:neq > 0
   ·rw [if_pos hneq]
    obtain ⟨t1,t2,t3⟩:=hD'.turn (by lia)
    refine wpS_bind (wpS_reverse (wpS_pure ⟨0,rfl,Fq t1 (by (exact Nat.le_trans ‹_› ‹_›)) (by lia) t2 ?_ ?_⟩))
    ·show κ.klt (KK κ (mirror (arrOf st') _ _ _) x) (KK κ (mirror (arrOf st') _ _ _) (x-1))
     rw [t3,t3]; exact hless
    ·intro i hi
     show κ.kle (KK κ (mirror (arrOf st') _ _ _) (x-1)) (KK κ (mirror (arrOf st') _ _ _) i)
     rw [t3,t3]; exact hD'.kle hi
   ·rw [if_neg hneq]
    have:neq=0:=by lia
    subst this
    exact wpS_pure ⟨0,rfl,Fq hD'.ok (by (exact Nat.le_trans ‹_› ‹_›)) (by (exact Nat.le_trans ‹_› ‹_›)) hD'.whole hless fun i hi=>hD'.kle hi⟩
  case false =>
   simp only [Bool.false_eq_true,if_false]
   refine wpS_bind (wpS_ltKK hO hD'.ok.base h0 (by lia) (by (exact Nat.le_trans ‹_› ‹_›)) ?_)
   cases hlarger:κ.blt (KK κ (arrOf st') (x-1)) (KK κ (arrOf st') x)
   case true =>
    simp only [if_true]
    exact wpS_pure (h x neq st' hax (by (exact Nat.le_of_lt ‹_›)) hD')
   case false =>
    simp only [Bool.false_eq_true,if_false]
    exact wpS_pure ⟨neq+1,rfl,hD'.more (by (exact Nat.le_trans ‹_› ‹_›)) (KeyOrd.kle_antisymm hlarger hless)⟩
theorem Es {st:SortSt} {n nrem:Nat} {Q:Option Nat->SortSt->Prop} (hO:κ.OneLt) (h0:KeysOf κ a₀) (hn:nrem<=a₀.size) (hnn:n+1<=nrem) (hD:Dsc κ ρ a₀ st (n+1) 0)
 (h:∀ m st',SOk κ ρ a₀ st' m->1<=m->m<=nrem->Bg κ ρ (arrOf st') m->Q (some m) st') :
 wpS (model prog w) A E s (descPart n nrem) Q st:=by
 unfold descPart
 refine wpS_bind (wpS_lift (wpAny_rule ⟨rfl,?_⟩))
 refine wpS_bind (wpS_descLoopS hO h0 hn (by (exact Nat.succ_pos _)) hnn hD fun m neq st' hm1 hm2 hD'=>?_)
 dsimp only
 by_cases hneq:neq > 0
 ·rw [if_pos hneq]
  obtain ⟨t1,t2,_⟩:=hD'.turn (by (exact Nat.le_trans ‹_› ‹_›))
  exact wpS_bind (wpS_reverse (GL hO h0 hn (by lia) hm2 t1 t2 h))
 ·rw [if_neg hneq]
  have:neq=0:=by lia
  subst this
  exact GL hO h0 hn (by lia) hm2 hD'.ok hD'.whole h
theorem wpS_countRunS {st:SortSt} {nrem:Nat} {Q:Option Nat->SortSt->Prop} (hO:κ.OneLt) (h0:KeysOf κ a₀) (hn:nrem<=a₀.size) (h1:1<=nrem) (hB:SBase a₀ st)
 (hr:∀ i,i < a₀.size->RR ρ (arrOf st) i=i)
 (h:∀ m st',SOk κ ρ a₀ st' m->1<=m->m<=nrem->Bg κ ρ (arrOf st') m->Q (some m) st') :
 wpS (model prog w) A E s (countRun' 0 nrem) Q st:=by
 have ok:∀ n,n<=a₀.size->SOk κ ρ a₀ st n:=fun n hn=>⟨hB,fun i _ h2=>hr i h2,fun i hi=>by rw [hr i (by (exact Nat.le_trans ‹_› ‹_›))]; exact hi⟩
 rw [countRun0_eq]
 refine wpS_bind (EG hO h0 hn (Nat.le_refl 1) h1 (ok 1 (by (exact Nat.le_trans ‹_› ‹_›))) (fun i j hij hj=>by lia) fun n hn1 hn2 _ hsn hor=>?_)
 dsimp only
 by_cases hnn:n=nrem
 ·rw [if_pos (by simpa using hnn)]
  exact wpS_pure (h n st (ok n (by (exact Nat.le_trans ‹_› ‹_›))) hn1 hn2 hsn)
 ·rw [if_neg (by simpa using hnn)]
  have hlt:κ.klt (KK κ (arrOf st) n) (KK κ (arrOf st) (n-1)):=hor.resolve_left hnn
  by_cases hgt:n > 1
  ·rw [if_pos hgt]
   refine wpS_bind (wpS_ltKK hO hB h0 (by lia) (by lia) ?_)
   cases hrose:κ.blt (KK κ (arrOf st) 0) (KK κ (arrOf st) (n-1))
   case true =>
    simp only [if_true]
    exact wpS_pure (h n st (ok n (by (exact Nat.le_trans ‹_› ‹_›))) hn1 hn2 hsn)
   case false =>
    simp only [Bool.false_eq_true,if_false]
    have hsz:n<=(arrOf st).size:=by rw [hB.size]; (exact Nat.le_trans ‹_› ‹_›)
    have hss:=hsn.sorted
    have hall:∀ k,0<=k->k < n->KK κ (arrOf st) k=KK κ (arrOf st) (n-1):=by
     intro k _ hk
     have a1:=hss 0 k (by (with_reducible assumption)) hk
     have a2:=hss k (n-1) (by lia) (by lia)
     exact KeyOrd.kle_antisymm a2 (KeyOrd.kle_trans hrose a1)
    have keq:=KK_mirror_equal (κ:=κ) hsz hall
    refine wpS_bind (wpS_reverse (Es hO h0 hn (by lia) (Fq ((ok n (by lia)).mirror (by lia)) (by lia) hn1 ?_ ?_ ?_) h))
    ·intro i j hij hj
     rcases B1 (b:=0) hsz i with ⟨g1,g2,e1⟩ | ⟨g1,e1⟩
     ·rcases B1 (b:=0) hsz j with ⟨k1,k2,e2⟩ | ⟨k1,e2⟩
      ·refine Bef.congr (.inr ⟨?_,?_⟩) e2 e1
       ·rw [hall _ (by (exact Nat.zero_le _)) (by lia)]; exact (hall _ (by (exact Nat.zero_le _)) (by lia)).symm
       ·rw [hr _ (by lia),hr _ (by lia)]; lia
      ·lia
     ·lia
    ·show κ.klt (KK κ (mirror (arrOf st) _ _ _) n) (KK κ (mirror (arrOf st) _ _ _) (n-1))
     rw [keq,keq]; exact hlt
    ·intro i hi
     show κ.kle (KK κ (mirror (arrOf st) _ _ _) (n-1)) (KK κ (mirror (arrOf st) _ _ _) i)
     rw [keq,keq,hall i (by (exact Nat.zero_le _)) hi]; exact KeyOrd.kle_refl _
  ·rw [if_neg hgt]
   have hn1':n=1:=by lia
   subst hn1'
   refine Es hO h0 hn (by lia) (Fq (ok 1 (by (exact Nat.le_trans ‹_› ‹_›))) (by lia) (Nat.le_refl 1) (fun i j hij hj=>by lia) hlt fun i hi=>?_) h
   have:i=0:=by lia
   subst this; exact KeyOrd.kle_refl _
theorem wpS_sortRunsS {st:SortSt} {Q:Unit->SortSt->Prop} (hO:κ.OneLt) (h0:KeysOf κ a₀) (hB:SBase a₀ st) (hr:∀ i,i < a₀.size->RR ρ (arrOf st) i=i) (h2:2<=a₀.size) (h64:a₀.size < 64)
 (h:∀ st',(arrOf st').Perm a₀->failedOf st'=none->Bg κ ρ (arrOf st') a₀.size->Q () st'):wpS (model prog w) A E s sortRuns' Q st:=by
 rw [sortRuns'_eq]
 refine wpS_bind (wpS_get ?_)
 dsimp only
 have hmr:minRun' a₀.size a₀.size 0=a₀.size:=by
  obtain ⟨f,hf⟩:∃ f,a₀.size=f+1:=⟨a₀.size-1,by lia⟩
  have:minRun' (f+1) a₀.size 0=a₀.size:=by rw [minRun'_succ,if_pos h64]; rfl
  rwa [<-hf] at this
 simp only [hB.size,hmr]
 have fin:∀ {st':SortSt},SOk κ ρ a₀ st' a₀.size->Bg κ ρ (arrOf st') a₀.size->(arrOf (setPending st' ((pendingOf st').push (0,a₀.size,0)))).Perm a₀/\failedOf (setPending st' ((pendingOf st').push (0,a₀.size,0)))=none ∧
  pendingOf (setPending st' ((pendingOf st').push (0,a₀.size,0)))=#[(0,a₀.size,0)]/\Bg κ ρ (arrOf (setPending st' ((pendingOf st').push (0,a₀.size,0)))) a₀.size :=
  fun ok hs=>⟨ok.base.perm,ok.base.failed,by show (pendingOf _).push _=_; rw [ok.base.pend]; rfl,hs⟩
 refine wpS_bind (wpS_mono (wpS_forRange
  (I:=fun x c st'=>(x=0/\c=(none,0)/\st'=st)\/(1<=x/\c=(none,a₀.size)/\(arrOf st').Perm a₀/\failedOf st'=none/\pendingOf st'=#[(0,a₀.size,0)]/\Bg κ ρ (arrOf st') a₀.size))
  (Q:=fun c st'=>c=(none,a₀.size)/\(arrOf st').Perm a₀/\failedOf st'=none/\pendingOf st'=#[(0,a₀.size,0)]/\Bg κ ρ (arrOf st') a₀.size) ?step ?fin (.inl ⟨rfl,rfl,rfl⟩)) ?post)
 case fin =>
  rintro c st' (⟨hx,_,_⟩ | ⟨_,hc,hD⟩)
  ·lia
  ·exact ⟨hc,hD⟩
 case step =>
  rintro x c st' _ hx (⟨rfl,rfl,rfl⟩ | ⟨hx1,rfl,hD⟩)
  ·dsimp only
   rw [if_neg (by (exact Nat.not_le_of_lt ‹_›))]
   simp only [Nat.sub_zero,Nat.min_self,Nat.zero_add]
   refine wpS_bind (wpS_countRunS hO h0 (Nat.le_refl _) (by (exact Nat.le_of_lt ‹_›)) hB hr fun m st2 hB2 hm1 hm2 hs2=>?_)
   dsimp only
   by_cases hlt:m < a₀.size
   ·rw [if_pos hlt]
    refine wpS_bind (wpS_lift (wpAny_rule ⟨rfl,?_⟩))
    refine wpS_bind (Gz hO h0 (Nat.le_refl _) hm2 hm1 hB2 hs2 fun st3 hB3 hs3=>?_)
    simp only [Bool.not_true,Bool.false_eq_true,if_false]
    refine wpS_bind (wpS_get ?_)
    have hb:(pendingOf st3).back? = none:=by rw [hB3.base.pend]; rfl
    rw [hb]
    dsimp only
    exact wpS_bind (wpS_modify (wpS_pure (.inr ⟨by (exact Nat.succ_pos _),rfl,fin hB3 hs3⟩)))
   ·rw [if_neg hlt]
    have hm:m=a₀.size:=by lia
    subst hm
    refine wpS_bind (wpS_get ?_)
    have hb:(pendingOf st2).back? = none:=by rw [hB2.base.pend]; rfl
    rw [hb]
    dsimp only
    exact wpS_bind (wpS_modify (wpS_pure (.inr ⟨by (exact Nat.succ_pos _),rfl,fin hB2 hs2⟩)))
  ·dsimp only
   rw [if_pos (Nat.le_refl _)]
   exact wpS_pure ⟨rfl,hD⟩
 case post =>
  rintro c st' ⟨rfl,hD⟩
  dsimp only
  refine wpS_bind (wpS_mono (wpS_forRange (I:=fun _ c st''=>st''=st'/\c=(none,())) (Q:=fun c st''=>st''=st'/\c=(none,())) ?_ (fun _ _ hh=>hh) ⟨rfl,rfl⟩) ?_)
  ·rintro x c st'' _ _ ⟨rfl,rfl⟩
   refine wpS_bind (wpS_get ?_)
   rw [if_pos (by rw [hD.2.2.1]; exact Nat.le_refl 1)]
   exact wpS_pure ⟨rfl,rfl⟩
  ·rintro c st'' ⟨rfl,rfl⟩
   exact wpS_pure (h _ hD.1 hD.2.1 hD.2.2.2)
end
end Mine
namespace Mine
set_option tactic.hygienic true
set_option backward.match.sparseCases true
set_option genInjectivity true
noncomputable def BZ {κ α:Type} (lt:κ->κ->Bool) (p:κ×α):List (κ×α)->List (κ×α)
 | []=>[p]
 | q::r=>if lt q.1 p.1 then q::BZ lt p r else p::q::r
noncomputable def A5 {κ α:Type} (lt:κ->κ->Bool):List (κ×α)->List (κ×α)
 | []=>[]
 | p::r=>BZ lt p (A5 lt r)
noncomputable def C7 {κ α:Type} (rev:Bool) (lt:κ->κ->Bool) (l:List (κ×α)):List α :=
 match rev with
 | true=>(A5 lt l.reverse).reverse.map (·.2)
 | false=>(A5 lt l).map (·.2)
structure LinB {κ:Type} (lt:κ->κ->Bool):Prop where
 irr:∀ a,lt a a=false
 trans:∀ a b c,lt a b=true->lt b c=true->lt a c=true
 total:∀ a b,lt a b=false->lt b a=false->a=b
section
variable {κ α:Type} {lt:κ->κ->Bool} {R:κ×α->κ×α->Prop}
noncomputable def Ahead (lt:κ->κ->Bool) (R:κ×α->κ×α->Prop) (a b:κ×α):Prop:=lt a.1 b.1=true\/(a.1=b.1/\R a b)
theorem insBy_perm (p:κ×α) (l:List (κ×α)):(BZ lt p l).Perm (p::l):=by
 induction l with
 | nil=>exact .refl _
 | cons q r ih =>
  unfold BZ
  split
  ·exact (ih.cons q).trans (.swap ..)
  ·exact .refl _
theorem Bc (l:List (κ×α)):(A5 lt l).Perm l:=by
 induction l with
 | nil=>exact .refl _
 | cons p r ih=>exact (insBy_perm p _).trans (ih.cons p)
theorem insBy_stab (H:LinB lt) (p:κ×α) (l:List (κ×α)) (hl:l.Pairwise (Ahead lt R)) (hp:∀ q∈l,R p q):(BZ lt p l).Pairwise (Ahead lt R):=by
 induction l with
 | nil=>exact List.pairwise_singleton ..
 | cons q r ih =>
  have h1:=List.pairwise_cons.mp hl
  unfold BZ
  split
  ·rename_i hq
   refine List.pairwise_cons.mpr ⟨fun x hx=>?_,ih h1.2 fun y hy=>hp y (.tail _ hy)⟩
   rcases List.mem_cons.mp ((insBy_perm p r).mem_iff.mp hx) with rfl | hx
   ·exact .inl hq
   ·exact h1.1 x hx
  ·rename_i hq
   have hq:lt q.1 p.1=false:=by simpa using hq
   have first:Ahead lt R p q:=by
    cases h3:lt p.1 q.1 with
    | true=>exact .inl h3
    | false=>exact .inr ⟨H.total _ _ h3 hq,hp q (.head _)⟩
   refine List.pairwise_cons.mpr ⟨fun x hx=>?_,hl⟩
   rcases List.mem_cons.mp hx with rfl | hx'
   ·exact first
   ·rcases h1.1 x hx' with h4 | h4
    ·rcases first with h5 | h5
     ·exact .inl (H.trans _ _ _ h5 h4)
     ·exact .inl (by rw [h5.1]; exact h4)
    ·rcases first with h5 | h5
     ·exact .inl (by rw [<-h4.1]; exact h5)
     ·exact .inr ⟨h5.1.trans h4.1,hp x hx⟩
theorem DJ (H:LinB lt) (l:List (κ×α)) (hl:l.Pairwise R):(A5 lt l).Pairwise (Ahead lt R):=by
 induction l with
 | nil=>exact .nil
 | cons p r ih =>
  have h1:=List.pairwise_cons.mp hl
  exact insBy_stab H p _ (ih h1.2) fun q hq=>h1.1 q ((Bc r).mem_iff.mp hq)
end
theorem Cq {α:Type} {P:α->α->Prop} (asym:∀ a b,P a b->P b a->False):∀ {l l':List α},l.Pairwise P->l'.Pairwise P->l.Perm l'->l=l'
 | [],l',_,_,hp=>(List.nil_perm.mp hp).symm
 | a::l,l',h1,h2,hp=>by
  cases l' with
  | nil=>exact absurd hp.length_eq (by simp)
  | cons b l' =>
   have c1:=List.pairwise_cons.mp h1
   have c2:=List.pairwise_cons.mp h2
   have ab:a=b:=by
    rcases List.mem_cons.mp (hp.mem_iff.mp (.head _)) with e | e
    ·exact e
    ·rcases List.mem_cons.mp (hp.mem_iff.mpr (.head l')) with e' | e'
     ·exact e'.symm
     ·exact (asym _ _ (c1.1 b e') (c2.1 a e)).elim
   subst ab
   rw [Cq asym c1.2 c2.2 (List.Perm.cons_inv hp)]
end Mine
namespace Mine
set_option tactic.hygienic true
open PySem PyProof.Rows
theorem E3 {κ κ' α α':Type} {lt:κ->κ->Bool} {lt':κ'->κ'->Bool} (f:κ×α->κ'×α') (h:∀ p q,lt' (f p).1 (f q).1=lt p.1 q.1) (l:List (κ×α)):A5 lt' (l.map f)=(A5 lt l).map f:=by
 have ins:∀ (p:κ×α) (l:List (κ×α)),BZ lt' (f p) (l.map f)=(BZ lt p l).map f:=by
  intro p l
  induction l with
  | nil=>rfl
  | cons q r ih =>
   show (if lt' (f q).1 (f p).1 then f q::BZ lt' (f p) (r.map f) else f p::f q::r.map f)=(if lt q.1 p.1 then q::BZ lt p r else p::q::r).map f
   rw [h,ih]
   split <;> rfl
 induction l with
 | nil=>rfl
 | cons p r ih =>
  show BZ lt' (f p) (A5 lt' (r.map f))=(BZ lt p (A5 lt r)).map f
  rw [ih,ins]
theorem lin_of (κ:KeyKind):LinB κ.blt:=⟨κ.irrefl,κ.trans,κ.total⟩
noncomputable abbrev intKey:KeyKind where
 α:=Int
 blt a b:=decide (a < b)
 irrefl a:=decide_eq_false (Int.lt_irrefl a)
 trans a b c h1 h2:=decide_eq_true (Int.lt_trans (of_decide_eq_true h1) (of_decide_eq_true h2))
 negTrans a b c h:=by
  have:=of_decide_eq_true h
  by_cases hab:a < b
  ·exact .inl (decide_eq_true hab)
  ·exact .inr (decide_eq_true (by omega))
 total a b h1 h2:=by have:=of_decide_eq_false h1; have:=of_decide_eq_false h2; omega
 keyOf v:=match v with | .int x _=>some x | _=>none
 dflt:=0
theorem intKey_oneLt:intKey.OneLt:=by
 intro prog w A E s x y a b Q ha hb h
 cases x <;> simp only [intKey,reduceCtorEq,Option.some.injEq] at ha
 cases y <;> simp only [intKey,reduceCtorEq,Option.some.injEq] at hb
 cases ha; cases hb
 exact oneLt_int h
section
variable {κ:KeyKind} {γ:Type}
structure SortZ (κ:KeyKind) (Z:List (κ.α×(Keyed×γ))):Prop where
 key:∀ z∈Z,κ.keyOf z.2.1.1=some z.1
 nd:(Z.map (·.2.1.2)).Nodup
noncomputable def AV (Z:List (κ.α×(Keyed×γ))) (p:Keyed):Nat:=(Z.map (·.2.1.2)).findIdx (· == p.2)
theorem GY {Z:List (κ.α×(Keyed×γ))} (h:SortZ κ Z) {i:Nat} {z:κ.α×(Keyed×γ)} (e:Z[i]? = some z):AV Z z.2.1=i:=by
 unfold AV
 obtain ⟨hi,he⟩:=List.getElem?_eq_some_iff.mp e
 have hl:i < (Z.map (·.2.1.2)).length:=by rw [List.length_map]; exact hi
 refine (List.findIdx_eq hl).mpr ⟨by rw [List.getElem_map,he]; exact beq_self_eq_true _,fun j hj=>?_⟩
 refine beq_eq_false_iff_ne.mpr fun q=>?_
 have:j=i:=(List.getElem_inj (h₀:=Nat.lt_trans hj hl) (h₁:=hl) h.nd).mp (by rw [q,List.getElem_map,he])
 omega
theorem rr_at {Z:List (κ.α×(Keyed×γ))} (h:SortZ κ Z) (i:Nat) (hi:i < Z.length):RR (AV Z) (Z.map (·.2.1)).toArray i=i:=by
 unfold RR
 rw [List.getElem?_toArray,List.getElem?_map,List.getElem?_eq_getElem hi]
 exact GY h (List.getElem?_eq_getElem hi)
theorem kk_of {xs:Array Keyed} {i:Nat} (hi:i < xs.size) {a:κ.α} (e:κ.keyOf xs[i].1=some a):KK κ xs i=a:=by
 unfold KK; rw [Array.getElem?_eq_getElem hi]; show (κ.keyOf xs[i].1).getD κ.dflt=a; rw [e]; rfl
theorem sort_is {Z:List (κ.α×(Keyed×γ))} (h:SortZ κ Z) {xs:Array Keyed} (hp:xs.Perm (Z.map (·.2.1)).toArray) (hs:Bg κ (AV Z) xs xs.size):xs.toList=(A5 κ.blt Z).map (·.2.1):=by
 have hl:xs.toList.Perm (Z.map (·.2.1)):=by have:=Array.perm_iff_toList_perm.mp hp; simpa using this
 let f:Keyed->κ.α×Keyed:=fun p=>((κ.keyOf p.1).getD κ.dflt,p)
 have key:∀ p∈xs.toList,κ.keyOf p.1=some (f p).1:=fun p hp'=>by
  obtain ⟨z,hz,rfl⟩:=List.mem_map.mp (hl.mem_iff.mp hp')
  show _=some ((κ.keyOf z.2.1.1).getD κ.dflt)
  rw [h.key z hz]; rfl
 have e1:(Z.map fun z=>(z.1,z.2.1))=(Z.map (·.2.1)).map f:=by
  rw [List.map_map]
  refine List.map_congr_left fun z hz=>?_
  show (z.1,z.2.1)=((κ.keyOf z.2.1.1).getD κ.dflt,z.2.1)
  rw [h.key z hz]; rfl
 let R:κ.α×Keyed->κ.α×Keyed->Prop:=fun a b=>AV Z a.2 < AV Z b.2
 have hR:(Z.map fun z=>(z.1,z.2.1)).Pairwise R:=by
  rw [List.pairwise_map,List.pairwise_iff_getElem]
  intro i j hi hj hij
  show AV Z Z[i].2.1 < AV Z Z[j].2.1
  rw [GY h (List.getElem?_eq_getElem hi),GY h (List.getElem?_eq_getElem hj)]
  exact hij
 have h1:=DJ (lin_of κ) _ hR
 have h2:(xs.toList.map f).Pairwise (Ahead κ.blt R):=by
  rw [List.pairwise_map,List.pairwise_iff_getElem]
  intro i j hi hj hij
  have hi':i < xs.size:=by simpa using hi
  have hj':j < xs.size:=by simpa using hj
  have b:=hs i j hij hj'
  unfold Bef at b
  rw [kk_of hi' (a:=(f xs[i]).1) (key _ (by simp)),kk_of hj' (a:=(f xs[j]).1) (key _ (by simp))] at b
  have r1:RR (AV Z) xs i=AV Z xs[i]:=by unfold RR; rw [Array.getElem?_eq_getElem hi']
  have r2:RR (AV Z) xs j=AV Z xs[j]:=by unfold RR; rw [Array.getElem?_eq_getElem hj']
  rw [r1,r2] at b
  rw [Array.getElem_toList,Array.getElem_toList]
  exact b
 have h3:(xs.toList.map f).Perm (A5 κ.blt (Z.map fun z=>(z.1,z.2.1))):=by
  refine (hl.map f).trans ?_
  rw [<-e1]
  exact (Bc _).symm
 have asym:∀ a b,Ahead κ.blt R a b->Ahead κ.blt R b a->False:=fun a b q q'=>by
  rcases q with q | q <;> rcases q' with q' | q'
  ·have:=κ.trans _ _ _ q q'; rw [κ.irrefl] at this; cases this
  ·rw [q'.1,κ.irrefl] at q; cases q
  ·rw [q.1,κ.irrefl] at q'; cases q'
  ·have x1:AV Z a.2 < AV Z b.2:=q.2
   have x2:AV Z b.2 < AV Z a.2:=q'.2
   omega
 have h4:=Cq asym h2 h1 h3
 have h5:=E3 (lt:=κ.blt) (lt':=κ.blt) (fun z:κ.α×(Keyed×γ)=>(z.1,z.2.1)) (fun _ _=>rfl) Z
 rw [h5] at h4
 have h6:=congrArg (List.map Prod.snd) h4
 rw [List.map_map,List.map_map] at h6
 have:(Prod.snd∘f)=id:=rfl
 rw [this,List.map_id] at h6
 exact h6
end
end Mine
namespace Mine
set_option tactic.hygienic true
set_option maxRecDepth 100000
set_option maxHeartbeats 4000000
open PySem PyProof.Rows
section
variable {prog:Program} {w:World} {A:Around} {E:Value->Shared->Prop} {s:Shared} {a kS:Addr} {b:Bool} {vs:List Value} {keys:Array Value} {e e1:Nat} {P:PySem.Fin->Shared->Prop}
theorem upd_list {h:Heap} {a:Addr} {xs:Array Value} {n:Nat} (ho:h.get? a=some (seqObj "list" xs n)) (out:Array Value):∃ c,(h.update a (Obj.mapSeq fun _=>out)).get? a=some (seqObj "list" out c):=⟨_,get?_update_seq ho fun _=>out⟩
theorem push_list {h:Heap} {a:Addr} {xs:Array Value} {n:Nat} (ho:h.get? a=some (seqObj "list" xs n)) (v:Value):∃ c,(h.update a (Obj.mapSeq (·.push v))).get? a=some (seqObj "list" (xs.push v) c):=⟨_,get?_update_seq ho (·.push v)⟩
noncomputable def But2 (a b:Addr) (h h':Heap):Prop:=∀ x o,x≠a->x≠b->h.get? x=some o->h'.get? x=some o
theorem sort_tail {st:SortSt} (hS:s.heap.get? kS=some (seqObj "list" keys e)) (hA:s.heap.get? a=some (seqObj "list" #[] e1)) (hka:kS≠a) (hsz:keys.size<=sizeLine) (hout:(arrOf st).size<=sizeLine) (hfl:failedOf st=none)
 (h:∀ h' c,But2 a kS s.heap h'->h'.get? a=some (seqObj "list" (if b=true then ((arrOf st).map (·.2)).reverse else (arrOf st).map (·.2)) c)->P (.done (.ret .none)) { s with heap:=h' }) :
 wpAny (model prog w) A (ksk_tail a b e1 (.ref kS) st) P E s:=by
 have s1:=Heap.SameBut.update s.heap kS (Obj.mapSeq fun _=>(#[]:Array Value))
 have na1:(s.heap.update kS (Obj.mapSeq fun _=>(#[]:Array Value))).get? a=some (seqObj "list" #[] e1):=(s1.2 a hka.symm).trans hA
 have s2:=Heap.SameBut.update (s.heap.update kS (Obj.mapSeq fun _=>(#[]:Array Value))) a (Obj.mapSeq fun _=>if b=true then ((arrOf st).map (·.2)).reverse else (arrOf st).map (·.2))
 obtain ⟨c2,hc2⟩:=upd_list na1 (if b=true then ((arrOf st).map (·.2)).reverse else (arrOf st).map (·.2))
 have ho:(if b=true then ((arrOf st).map (·.2)).reverse else (arrOf st).map (·.2)).size<=sizeLine:=by
  cases b with
  | false=>rw [if_neg Bool.false_ne_true,Array.size_map]; exact hout
  | true=>rw [if_pos rfl,Array.size_reverse,Array.size_map]; exact hout
 unfold ksk_tail
 dsimp only
 refine wpAny_bind (listUpdate_at hS rfl ?_ hsz (Nat.zero_le _))
 refine wpAny_bind (wpAny_letGo ?_)
 refine wpAny_bind (seqEpoch_at na1 rfl ?_)
 refine wpAny_bind (listUpdate_at na1 rfl ?_ (Nat.zero_le _) (Nat.le_succ_of_le ho))
 rw [hfl]
 simp only [bne_self_eq_false,Bool.false_eq_true,if_false]
 exact wpAny_pure (h _ c2 (fun x o h1 h2 ho=>(s2.2 x h1).trans ((s1.2 x h2).trans ho)) hc2)
noncomputable def outOf {κ:KeyKind} {γ:Type} (b:Bool) (Z:List (κ.α×(Keyed×γ))):List (κ.α×(Keyed×γ)):=match b with | true=>(A5 κ.blt Z.reverse).reverse | false=>A5 κ.blt Z
theorem out_perm {κ:KeyKind} {γ:Type} (b:Bool) (Z:List (κ.α×(Keyed×γ))):(outOf b Z).Perm Z:=by
 cases b with
 | true=>exact (List.reverse_perm _).trans ((Bc _).trans (List.reverse_perm _))
 | false=>exact Bc _
theorem sort_end {κ:KeyKind} {γ:Type} (hO:κ.OneLt) {Z:List (κ.α×(Keyed×γ))} (hz:SortZ κ Z) (hk:keys.zip vs.toArray=(Z.map (·.2.1)).toArray) (hlen:keys.size=vs.length) (hkk:2<=keys.size->keyKind' keys=pure oneType') (h64:vs.length < 64)
 (hS:s.heap.get? kS=some (seqObj "list" keys e)) (hA:s.heap.get? a=some (seqObj "list" #[] e1)) (hka:kS≠a)
 (h:∀ h' c,But2 a kS s.heap h'->h'.get? a=some (seqObj "list" ((outOf b Z).map (·.2.1.2)).toArray c)->P (.done (.ret .none)) { s with heap:=h' }) :
 wpAny (model prog w) A (ksk_end a b vs.toArray e1 (.ref kS) keys) P E s:=by
 have hzl:(keys.zip vs.toArray).size=vs.length:=by rw [Array.size_zip,hlen,List.size_toArray,Nat.min_self]
 have hZ:Z.length=vs.length:=by rw [<-hzl,hk,List.size_toArray,List.length_map]
 have step:∀ t:Sem PySem.Fin,wpAny (model prog w) A t P E s->wpAny (model prog w) A (if b=true then (do let _ <-rule "list.sort.reverse"; t) else t) P E s:=by
  intro t ht
  split
  ·exact wpAny_bind (wpAny_rule ht)
  ·exact ht
 obtain ⟨Y,hY⟩:∃ Y,Y=(if b=true then Z.reverse else Z):=⟨_,rfl⟩
 have hYl:Y.length=vs.length:=by rw [hY]; split <;> simp [hZ]
 have hYz:SortZ κ Y:=by
  rw [hY]
  split
  ·exact ⟨fun z hz'=>hz.key z (List.mem_reverse.mp hz'),by rw [List.map_reverse]; exact (List.reverse_perm _).nodup_iff.mpr hz.nd⟩
  ·exact hz
 have hstart:(if b=true then (keys.zip vs.toArray).reverse else keys.zip vs.toArray)=(Y.map (·.2.1)).toArray:=by
  rw [hk,hY]
  cases b with
  | false=>rfl
  | true=>rw [if_pos rfl,if_pos rfl,List.map_reverse]; simp
 have fin:∀ st:SortSt,(arrOf st).Perm (Y.map (·.2.1)).toArray->Bg κ (AV Y) (arrOf st) (arrOf st).size->failedOf st=none->wpAny (model prog w) A (ksk_tail a b e1 (.ref kS) st) P E s:=by
  intro st hp hs hf
  have hsz:(arrOf st).size=vs.length:=by rw [hp.size_eq,List.size_toArray,List.length_map,hYl]
  refine sort_tail hS hA hka (by rw [hlen,sizeLine_eq]; omega) (by rw [hsz,sizeLine_eq]; omega) hf fun h' c hb ha=>h h' c hb ?_
  rw [ha]
  have e3:=sort_is hYz hp hs
  congr 2
  apply Array.toList_inj.mp
  rw [hY] at e3
  cases b with
  | false =>
   rw [if_neg Bool.false_ne_true,Array.toList_map,e3,if_neg Bool.false_ne_true,List.map_map]; rfl
  | true =>
   rw [if_pos rfl,Array.toList_reverse,Array.toList_map,e3,if_pos rfl,List.map_map]
   show _=((A5 κ.blt Z.reverse).reverse.map _)
   rw [List.map_reverse]; rfl
 unfold ksk_end
 dsimp only
 refine step _ ?_
 rw [hstart]
 by_cases h2:vs.toArray.size < 2
 ·rw [if_pos h2,if_pos h2]
  refine wpAny_bind (wpAny_pure ?_)
  rw [StateT.run_pure]
  refine wpAny_bind (wpAny_pure ?_)
  dsimp only
  refine fin (SortSt.mk' general' (Y.map (·.2.1)).toArray #[] 7 none) (Array.Perm.refl _) (fun i j hij hj=>?_) rfl
  have hj2:j < (Y.map (·.2.1)).toArray.size:=hj
  rw [List.size_toArray,List.length_map,hYl] at hj2
  rw [List.size_toArray] at h2
  omega
 ·rw [if_neg h2,if_neg h2]
  rw [List.size_toArray] at h2
  have hY2:(Y.map (·.2.1)).toArray.size=vs.length:=by rw [List.size_toArray,List.length_map,hYl]
  rw [hkk (by omega)]
  refine wpAny_bind (wpAny_pure ?_)
  have hkeys:PyProof.Rows.KeysOf κ (Y.map (·.2.1)).toArray:=fun p hp=>by
   obtain ⟨z,hz',rfl⟩:=List.mem_map.mp (show p∈Y.map (·.2.1) from by simpa using hp)
   exact ⟨z.1,hYz.key z hz'⟩
  have hrr:∀ i,i < (Y.map (·.2.1)).toArray.size->RR (AV Y) (Y.map (·.2.1)).toArray i=i:=fun i hi=>rr_at hYz i (by rw [hY2,<-hYl] at hi; exact hi)
  generalize (Y.map (·.2.1)).toArray=a₀ at hkeys hrr hY2 fin ⊢
  have run:wpS (model prog w) A E s sortRuns' (fun _ st'=>(arrOf st').Perm a₀/\failedOf st'=none/\Bg κ (AV Y) (arrOf st') a₀.size) (SortSt.mk' oneType' a₀ #[] 7 none) :=
   wpS_sortRunsS (κ:=κ) (ρ:=AV Y) hO hkeys ⟨Array.Perm.refl _,rfl,rfl,rfl⟩ hrr (by rw [hY2]; omega) (by rw [hY2]; exact h64) fun st' a1 a2 a3=>⟨a1,a2,a3⟩
  refine wpAny_bind (wpAny_mono run ?_ fun _ _ e=>e)
  rintro ⟨⟨⟩,st'⟩ s' ⟨rfl,hp,hf,hs⟩
  dsimp only
  exact fin st' hp (by rw [hp.size_eq]; exact hs) hf
end
end Mine
namespace Mine
set_option tactic.hygienic true
set_option maxRecDepth 100000
open PySem PyProof.Rows
theorem RepDs.length {fz:Addr->Option Obj} {ds:List PyData} {vs:List Value} (r:RepDs fz ds vs):ds.length=vs.length:=r.all.length
theorem rep_all {δ:Type} {fz:Addr->Option Obj} {d:δ->PyData} {v:δ->Value}:∀ {l:List δ},(∀ z∈l,A2 fz (d z) (v z))->RepDs fz (l.map d) (l.map v)
 | [],_=>trivial
 | z::l,h=>⟨h z (.head _),rep_all fun y hy=>h y (.tail _ hy)⟩
theorem RepDs.at_ {fz:Addr->Option Obj}:∀ {ds:List PyData} {vs:List Value} {j:Nat} {d:PyData} {v:Value},RepDs fz ds vs->ds[j]? = some d->vs[j]? = some v->A2 fz d v
 | _::_,_::_,0,_,_,r,e1,e2=>by obtain rfl:=Option.some.inj e1; obtain rfl:=Option.some.inj e2; exact r.1
 | _::_,_::_,j+1,_,_,r,e1,e2=>RepDs.at_ (j:=j) r.2 e1 e2
 | [],_,_,_,_,_,e1,_=>by simp at e1
 | _::_,[],_,_,_,r,_,_=>r.elim
theorem vals_nodup {fz:Addr->Option Obj} {ds:List PyData} {vs:List Value} (r:RepDs fz ds vs) (h:ds.Nodup):vs.Nodup:=by
 rw [List.Nodup,List.pairwise_iff_getElem]
 intro i j hi hj hij q
 have hl:=r.length
 have h1:=r.at_ (List.getElem?_eq_getElem (show i < ds.length by omega)) (List.getElem?_eq_getElem hi)
 have h2:=r.at_ (List.getElem?_eq_getElem (show j < ds.length by omega)) (List.getElem?_eq_getElem hj)
 rw [q] at h1
 have e:=A2.inj _ _ _ ((DH h2).symm.trans (DH h1)) h1 h2
 have:=(List.getElem_inj (h₀:=by omega) (h₁:=by omega) h).mp e
 omega
theorem sort_ready {κ:KeyKind} {β:Type} {fz:Addr->Option Obj} (emb:β->κ.α) (lt:β->β->Bool) (hlt:∀ x y,κ.blt (emb x) (emb y)=lt x y) {bs:List β} {kA:Array Value} {vs:List Value} {xs:List PyData} (hkey:∀ (j:Nat) (x:Value) (y:β),kA.toList[j]? = some x->bs[j]? = some y->κ.keyOf x=some (emb y)) (hk:kA.size=bs.length) (hb:bs.length=vs.length)
 (r:RepDs fz xs vs) (nd:xs.Nodup):∃ Z:List (κ.α×(Keyed×PyData)),SortZ κ Z/\kA.zip vs.toArray=(Z.map (·.2.1)).toArray/\∀ rev,RepDs fz (C7 rev lt (bs.zip xs)) ((outOf rev Z).map (·.2.1.2)):=by
 have hx:=r.length
 have hkl:kA.toList.length=bs.length:=by simpa using hk
 obtain ⟨Y,hY⟩:∃ Y:List (β×(Keyed×PyData)),Y=bs.zip ((kA.toList.zip vs).zip xs):=⟨_,rfl⟩
 have mem:∀ y∈Y,∃ j:Nat,bs[j]? = some y.1/\kA.toList[j]? = some y.2.1.1/\vs[j]? = some y.2.1.2/\xs[j]? = some y.2.2:=fun y hy=>by
  obtain ⟨j,hj⟩:=List.mem_iff_getElem?.mp hy
  rw [hY] at hj
  obtain ⟨h1,h2⟩:=List.getElem?_zip_eq_some.mp hj
  obtain ⟨h3,h4⟩:=List.getElem?_zip_eq_some.mp h2
  obtain ⟨h5,h6⟩:=List.getElem?_zip_eq_some.mp h3
  exact ⟨j,h1,h5,h6,h4⟩
 have e1:Y.map (fun y=>y.2.1)=kA.toList.zip vs:=by
  have:Y.map (fun y=>y.2.1)=(Y.map (·.2)).map (·.1):=by rw [List.map_map]; rfl
  rw [this,hY,List.map_snd_zip (by simp; omega),List.map_fst_zip (by simp; omega)]
 have e2:Y.map (fun y=>(y.1,y.2.2))=bs.zip xs:=by
  refine List.ext_getElem? fun j=>?_
  rw [List.getElem?_map,hY]
  by_cases hj:j < bs.length
  ·have a1:bs[j]? = some bs[j]:=List.getElem?_eq_getElem hj
   have a2:kA.toList[j]? = some (kA.toList[j]'(by omega)):=List.getElem?_eq_getElem _
   have a3:vs[j]? = some (vs[j]'(by omega)):=List.getElem?_eq_getElem _
   have a4:xs[j]? = some (xs[j]'(by omega)):=List.getElem?_eq_getElem _
   have b1:(bs.zip ((kA.toList.zip vs).zip xs))[j]? = some (bs[j],((kA.toList[j]'(by omega),vs[j]'(by omega)),xs[j]'(by omega))) :=
    List.getElem?_zip_eq_some.mpr ⟨a1,List.getElem?_zip_eq_some.mpr ⟨List.getElem?_zip_eq_some.mpr ⟨a2,a3⟩,a4⟩⟩
   have b2:(bs.zip xs)[j]? = some (bs[j],xs[j]'(by omega)):=List.getElem?_zip_eq_some.mpr ⟨a1,a4⟩
   rw [b1,b2]; rfl
  ·rw [List.getElem?_eq_none (by simp; omega),List.getElem?_eq_none (by simp; omega)]; rfl
 refine ⟨Y.map fun y=>(emb y.1,y.2),⟨fun z hz=>?_,?_⟩,?_,fun rev=>?_⟩
 ·obtain ⟨y,hy,rfl⟩:=List.mem_map.mp hz
  obtain ⟨j,h1,h2,_⟩:=mem y hy
  exact hkey j _ _ h2 h1
 ·rw [List.map_map]
  have:Y.map ((fun z:κ.α×(Keyed×PyData)=>z.2.1.2)∘fun y=>(emb y.1,y.2))=(Y.map fun y=>y.2.1).map (·.2):=by rw [List.map_map]; rfl
  rw [this,e1,List.map_snd_zip (by omega)]
  exact vals_nodup r nd
 ·rw [List.map_map]
  show _=(Y.map fun y=>y.2.1).toArray
  rw [e1]
  apply Array.toList_inj.mp
  simp
 ·have m1:∀ L:List (β×(Keyed×PyData)),A5 κ.blt (L.map fun y=>(emb y.1,y.2))=(A5 lt L).map fun y=>(emb y.1,y.2):=fun L=>E3 _ (fun p q=>hlt _ _) L
  have m2:∀ L:List (β×(Keyed×PyData)),A5 lt (L.map fun y=>(y.1,y.2.2))=(A5 lt L).map fun y=>(y.1,y.2.2):=fun L=>E3 (lt:=lt) (lt':=lt) (fun y:β×(Keyed×PyData)=>(y.1,y.2.2)) (fun p q=>rfl) L
  have good:∀ L:List (β×(Keyed×PyData)),(∀ y∈L,y∈Y)->RepDs fz (L.map fun y=>y.2.2) (L.map fun y=>y.2.1.2):=fun L hL=>rep_all fun y hy=>by
   obtain ⟨j,_,_,h3,h4⟩:=mem y (hL y hy)
   exact r.at_ h4 h3
  cases rev with
  | false =>
   show RepDs fz ((A5 lt (bs.zip xs)).map (·.2)) ((A5 κ.blt (Y.map fun y=>(emb y.1,y.2))).map (·.2.1.2))
   rw [<-e2,m1,m2,List.map_map,List.map_map]
   exact good _ fun y hy=>(Bc _).mem_iff.mp hy
  | true =>
   show RepDs fz ((A5 lt (bs.zip xs).reverse).reverse.map (·.2)) ((A5 κ.blt (Y.map fun y=>(emb y.1,y.2)).reverse).reverse.map (·.2.1.2))
   rw [<-e2,<-List.map_reverse,<-List.map_reverse,m1,m2,<-List.map_reverse,<-List.map_reverse,List.map_map,List.map_map]
   exact good _ fun y hy=>List.mem_reverse.mp ((Bc _).mem_iff.mp (List.mem_reverse.mp hy))
end Mine
namespace Mine
open PySem PySem.Calls PyProof.Rows
structure KeyK where
 β:Type
 κ:KeyKind
 one:κ.OneLt
 emb:β->κ.α
 lt:β->β->Bool
 hlt:∀ x y,κ.blt (emb x) (emb y)=lt x y
 kv:β->V
 key:∀ {T:Top} {g:G} {y:β} {X:Value},An T g (kv y) X->κ.keyOf X=some (emb y)
 kind:∀ {T:Top} {g:G} {bs:List β} {kA:Array Value},Am T g (bs.map kv) kA.toList->2<=kA.size->keyKind' kA=pure oneType'
section
variable {n i:Nat} {c:Cx} {ρ:Af} {g g₀ g':G} {σ σ₁:Ab} {s s':Shared} {q nm:Str} {ap lp:Pos} {b:Expr} {sc:Scope} {f D kS:Addr} {key a:E} {K:KeyK} {bs:List K.β} {xs:List PyData} {vs:List Value} {e1:Nat} {rev:Bool} {P:PySem.Fin->Shared->Prop} {Er:Value->Shared->Prop}
theorem sort_made {h':Heap} {m:Nat} {ys:List Value} {ws:List V} (hn:∀ b,b∈[D,kS]->g₀.hid b=none) (le:G.le [D,kS] g₀ g) (H:Has c.T g σ s) (hD:g.hid D≠none) (hK:g.hid kS≠none) (hb:But2 D kS s.heap h') (ho:h'.get? D=some (seqObj "list" ys.toArray m)) (hr:Am c.T g ws ys) (hl:ws.length<=line):By c.toAr g₀ σ ws (.ref D) { s with heap:=h' }:=by
 have hi:∀ c,c∈[D,kS]->g.hid c≠none:=all_cons hD (A8 hK)
 obtain ⟨hd,H',le',_⟩:=H.back (its:=[D,kS]) (own:=[]) (s':={ s with heap:=h' }) (List.append_nil _▸le) hn (fun b o hb' e=>hb b o (fun q=>hb' (q▸.head _)) (fun q=>hb' (q▸.tail _ (.head _))) e) (H.away hi)
 have F:=H.away hi D (.head _)
 exact fun R_ k=>k _ D ys.toArray m le' H' ⟨F.1,(le'.hid D List.not_mem_nil).trans (hn D (.head _)),F.2.1,F.2.2⟩ ho (by rw [List.toList_toArray]; exact Am.eta hr) hl
theorem sort_keys (hk:Au (fun w b=>SE n key (ρ.set i (some w)) σ (K.kv b) σ) (xs.map .d) bs) (nd:xs.Nodup) (h64:xs.length < 64) (L:Ep c.K i nm sc) (hb:IsE key (c.K.lsub nm sc) b) (x0:Loc c ρ g₀) (hn:∀ b,b∈[D,kS]->g₀.hid b=none) (le:G.le [D,kS] g₀ g) (I:Inv (n+1) c ρ g σ s) (lm:LamAt g c.env q nm ap b sc f) (r:Am c.T g (xs.map .d) vs) (hD:g.hid D=some (seqObj "list" #[] e1)) (hS:g.hid kS=some (seqObj "list" #[] 0)) (hDk:kS≠D)
 (h:∀ s',By c.toAr g₀ σ ((C7 rev K.lt (bs.zip xs)).map .d) (.ref D) s'->P (.done (.ret .none)) s') :
 wpAny (model c.T.prog c.T.w) c.A.in1.in1 (ksk_rest D (.ref f) rev vs.toArray e1 (.ref kS)) P Er s:=by
 have hlb:xs.length=bs.length:=(List.length_map _).symm.trans hk.length
 have hlv:xs.length=vs.length:=(List.length_map _).symm.trans r.length
 have mD:D∈[D,kS]:=.head _
 have mK:kS∈[D,kS]:=.tail _ (.head _)
 unfold ksk_rest
 refine wpAny_bind (wpAny_rule ?_)
 rw [List.forIn_toArray]
 refine wpAny_bind (ksk_fold (fun j s'=>∀ R_:Prop,(∀ g' kA e,G.le [D,kS] g g'->Inv (n+1) c ρ g' σ s'->g'.hid D=some (seqObj "list" #[] e1)->g'.hid kS=some (seqObj "list" kA e)->Am c.T g' ((bs.take j).map K.kv) kA.toList->R_)->R_) vs 0 s (fun R_ k=>k g #[] 0 (.refl _ _) I hD hS trivial) ?step ?done)
 case step =>
  intro j x s' hx hz
  rw [Nat.zero_add] at hz ⊢
  refine hz _ fun g' kA e le' I' hD' hS' rk=>?_
  have hj:j < bs.length:=hlb▸hlv▸(List.getElem?_eq_some_iff.mp hx).1
  have hw:(xs.map V.d)[j]? = some (.d (xs[j]'(hlb▸hj))):=by rw [List.getElem?_map,List.getElem?_eq_getElem]; rfl
  obtain ⟨y,hy,hse⟩:=hk.get hw
  obtain ⟨x',hx',rx⟩:=r.get hw
  obtain rfl:=Av hx hx'
  have t:=lam_call hse L hb I' (lm.mono le'.toup) (An.mono le'.toup _ _ rx)
  refine wpAny_bind (wpAny_attempt (wpAny_mono t (fun k s'' p=>p _ fun g'' le'' H'' rk'=>?_) fun _ _ hf=>hf.elim))
  dsimp only
  have hS'':=(le''.hid kS List.not_mem_nil).trans hS'
  have nk:=H''.hd _ _ hS''
  obtain ⟨c2,hc2⟩:=push_list nk k
  have hsz:kA.size=j:=by rw [<-Array.length_toList,<-rk.length,List.length_map,List.length_take]; exact Nat.min_eq_left (Nat.le_of_lt hj)
  have hjl:j+1<=sizeLine:=by rw [<-AQ]; exact Nat.le_trans (Nat.le_of_lt (Nat.lt_of_le_of_lt hj (hlb▸h64))) (by decide)
  refine wpAny_bind (listUpdate_at nk rfl ?_ (by rw [hsz]; exact Nat.le_of_succ_le hjl) (Nat.le_trans (Nat.le_of_eq (Array.size_push ..)) (by rw [hsz]; exact Nat.le_succ_of_le hjl)))
  have sb:=Heap.SameBut.update s''.heap kS (Obj.mapSeq (·.push k))
  have le3:G.le [D,kS] g'' (g''.hide kS (seqObj "list" (kA.push k) c2)):=.hide mK
  have I3:=(I'.step le'' H'').far x0 hn le3 (H''.rehide (s':={ s'' with heap:=s''.heap.update kS (Obj.mapSeq (·.push k)) }) hS'' (fun b x q e=>(sb.2 b q).trans e) hc2)
  refine wpAny_pure ⟨rfl,fun R_ kk=>kk _ (kA.push k) c2 (le'.trans (le''.toO.trans le3)) I3 ((G.hide_ne hDk.symm).trans ((le''.hid D List.not_mem_nil).trans hD')) G.hide_self ?_⟩
  rw [Array.toList_push,List.take_add_one,hy,List.map_append]
  exact (Am.mono (le''.toup.trans le3.toup) rk).append ⟨An.mono le3.toup _ _ rk',trivial⟩
 case done =>
  intro s' hz
  rw [Nat.zero_add,<-hlv,hlb,List.take_length] at hz
  refine hz _ fun g' kA e le' I' hD' hS' rk=>?_
  have hsz:kA.size=bs.length:=by rw [<-Array.length_toList,<-rk.length,List.length_map]
  have rx:RepDs g'.fz xs vs:=Am.toD (Am.mono le'.toup r)
  obtain ⟨Z,hz,hzk,hout⟩:=sort_ready K.emb K.lt K.hlt (bs:=bs) (kA:=kA) (fun j x y hx hy=>by
   obtain ⟨x',hx',rx⟩:=rk.get (k:=j) (a:=K.kv y) (by rw [List.getElem?_map,hy]; rfl)
   obtain rfl:=Av hx hx'
   exact K.key rx) hsz (hlb.symm.trans hlv) rx nd
  refine wpAny_bind (listItems_at (I'.has.hd _ _ hS') rfl ?_)
  refine sort_end K.one hz hzk (hsz.trans (hlb.symm.trans hlv)) (K.kind rk) (hlv▸h64) (I'.has.hd _ _ hS') (I'.has.hd _ _ hD') hDk fun h' m hb2 ho2=>h _ ?_
  refine sort_made hn (le.trans le') I'.has (AA hD') (AA hS') hb2 ho2 (Am.ofD (hout rev)) ?_
  have hp:=(hout rev).length
  rw [List.length_map,hp,List.length_map,(out_perm rev Z).length_eq,<-List.length_map (f:=(·.2.1)),<-List.size_toArray,<-hzk,Array.size_zip,hsz,List.size_toArray,<-hlv,hlb,Nat.min_self]
  exact Nat.le_trans (Nat.le_of_lt (hlb▸h64)) (by decide)
end
end Mine
namespace Mine
open PySem PySem.Calls PyProof.Rows
section
variable {n i:Nat} {c:Cx} {ρ:Af} {g g₀ g':G} {σ σ₁:Ab} {s s':Shared} {q nm:Str} {ap lp:Pos} {b:Expr} {sc:Scope} {f D kS:Addr} {key a:E} {K:KeyK} {bs:List K.β} {xs:List PyData} {vs:List Value} {e1:Nat} {rev:Bool} {x:V} {X:Value} {kw:List (Str×Value)}
theorem sort_call (hk:Au (fun w b=>SE n key (ρ.set i (some w)) σ (K.kv b) σ) (xs.map .d) bs) (nd:xs.Nodup) (h64:xs.length < 64) (L:Ep c.K i nm sc) (hb:IsE key (c.K.lsub nm sc) b) (I:Inv (n+1) c ρ g σ s) (lm:LamAt g c.env q nm ap b sc f) (hx:Ax σ x=some (xs.map .d)) (r:An c.T g x X)
 (ha1:∀ l,argsOk "sorted" ⟨[.ref l],kw⟩) (ha2:∀ x,argsOk "list.sort" ⟨[.ref x],kw⟩) (ht:∀ x,Builtin.«list.sort» ⟨[.ref x],kw⟩=ksk_tree x (.ref f) rev):c.wp (call (.builtin "sorted") [X] kw) (By c.toAr g σ ((C7 rev K.lt (bs.zip xs)).map .d)) s:=by
 refine AI I.has r hx (R_:=fun X=>c.wp (call (.builtin "sorted") [X] kw) (By c.toAr g σ ((C7 rev K.lt (bs.zip xs)).map .d)) s) fun l ys hL rws _ hyl=>?_
 have hL':s.heap.IsList l ys.toList.toArray:=by rw [Array.toArray_toList]; exact hL
 have hvl:ys.toList.length<=sizeLine:=by rw [Array.length_toList,<-AQ]; exact hyl
 generalize ys.toList=vs at rws hL' hvl
 refine call_function_entry_kw kind_sorted plain_sorted entry_sorted (ha1 _) ?_
 unfold Builtin.«sorted»
 refine wpAny_bind (m:=checkCount "sorted" 1 1 _) (wpAny_pure ?_)
 refine wpAny_bind (collect_list hL' ?_ hvl)
 refine wpAny_bind (wpAny_newList ?_ hvl)
 obtain ⟨h1,hh1⟩:∃ h1,h1=(s.heap.push (seqObj "list" #[] 0)).update s.heap.objs.size (Obj.mapSeq (· ++ vs.toArray)):=⟨_,rfl⟩
 have z1:h1.objs.size=s.heap.objs.size+1:=by rw [hh1,Heap.size_update]; exact Heap.size_push ..
 have k1:∀ b o,s.heap.get? b=some o->h1.get? b=some o:=fun b o e=>by
  rw [hh1,Heap.get?_update_ne _ _ _ _ (Nat.ne_of_lt (Heap.lt_size e))]
  exact Heap.get?_push_of_some _ e
 show wpAny _ _ _ _ _ { s with heap:=((s.heap.push (seqObj "list" #[] 0)).update s.heap.objs.size (Obj.mapSeq (· ++ vs.toArray))).push (seqObj "list" vs.toArray 0) }
 rw [<-hh1]
 have hoD:(h1.push (seqObj "list" vs.toArray 0)).get? h1.objs.size=some (seqObj "list" vs.toArray 0):=Heap.get?_push_size _ rfl
 have z2:(h1.push (seqObj "list" vs.toArray 0)).objs.size=s.heap.objs.size+2:=by rw [Heap.size_push,z1]
 refine wpAny_bind (wpAny_holding (wpAny_call_entry_kw (s:={ s with heap:=h1.push (seqObj "list" vs.toArray 0) }) slot_list_sort ⟨_,hoD,rfl⟩ entry_list_sort ?body (ha2 _)))
 show wpAny (model c.T.prog c.T.w) c.A.in1.in1 (Builtin.«list.sort» ⟨[.ref h1.objs.size],kw⟩) _ _ _
 rw [ht h1.objs.size]
 generalize hDe:h1.objs.size=D at hoD z1 ⊢
 generalize hh2:h1.push (seqObj "list" vs.toArray 0)=h2 at hoD z2 ⊢
 have k2:∀ b o,s.heap.get? b=some o->h2.get? b=some o:=fun b o e=>by rw [<-hh2]; exact Heap.get?_push_of_some _ (k1 b o e)
 have hD0:s.heap.get? D=none:=Heap.get?_none_of_le (by rw [z1]; exact Nat.le_succ _)
 have s3:=Heap.SameBut.update h2 D (Obj.mapSeq fun _=>(#[]:Array Value))
 obtain ⟨e1,ho3⟩:=upd_list hoD #[]
 unfold ksk_tree
 refine wpAny_bind (listItems_at hoD rfl ?_)
 refine wpAny_bind (listUpdate_at hoD rfl ?_ (by rw [List.size_toArray]; exact hvl) (Nat.zero_le _))
 refine wpAny_bind (seqEpoch_at ho3 rfl ?_)
 refine wpAny_bind (wpAny_newTuple ?_ hvl)
 refine wpAny_bind (wpAny_newList ?_ (Nat.zero_le _))
 refine wpAny_holding ?_
 obtain ⟨h3,hh3⟩:∃ h3,h3=h2.update D (Obj.mapSeq fun _=>(#[]:Array Value)):=⟨_,rfl⟩
 have z3:h3.objs.size=s.heap.objs.size+2:=by rw [hh3,Heap.size_update,z2]
 rw [<-hh3] at ho3 s3
 have k3:∀ b o,s.heap.get? b=some o->h3.get? b=some o:=fun b o e=>(s3.2 b fun q=>Aq hD0 (q▸e)).trans (k2 b o e)
 show wpAny _ _ (ksk_rest D (.ref f) rev vs.toArray e1 (.ref ((h2.update D (Obj.mapSeq fun _=>(#[]:Array Value))).push (seqObj "tuple" vs.toArray 0)).objs.size)) _ _ { s with heap:=((h2.update D (Obj.mapSeq fun _=>(#[]:Array Value))).push (seqObj "tuple" vs.toArray 0)).push (seqObj "list" #[] 0) }
 rw [<-hh3]
 have z4:(h3.push (seqObj "tuple" vs.toArray 0)).objs.size=s.heap.objs.size+3:=by rw [Heap.size_push,z3]
 generalize hh4:h3.push (seqObj "tuple" vs.toArray 0)=h4 at z4 ⊢
 have k4:∀ b o,h3.get? b=some o->(h4.push (seqObj "list" #[] 0)).get? b=some o:=fun b o e=>by rw [<-hh4]; exact Heap.get?_push_of_some _ (Heap.get?_push_of_some _ e)
 have hk0:s.heap.get? h4.objs.size=none:=Heap.get?_none_of_le (by rw [z4]; exact Nat.le_add_right _ _)
 have hDk:h4.objs.size≠D:=by rw [z4,z1]; exact Nat.ne_of_gt (Nat.add_lt_add_left (by decide) _)
 have hoS:(h4.push (seqObj "list" #[] 0)).get? h4.objs.size=some (seqObj "list" #[] 0):=Heap.get?_push_size _ rfl
 generalize h4.objs.size=kS at hk0 hDk hoS ⊢
 have hoD4:=k4 D _ ho3
 have FD:=I.has.free hD0
 have FK:=I.has.free hk0
 have H0:=I.has.keep (s':={ s with heap:=h4.push (seqObj "list" #[] 0) }) fun b o e=>k4 b o (k3 b o e)
 have H1:=FD.hide H0 hoD4
 have H2:=DD.hide (g:=g.hide D (seqObj "list" #[] e1)) ⟨FK.fz,(G.hide_ne hDk).trans FK.hid,FK.mu,FK.tab⟩ H1 hoS
 have hn:∀ b,b∈[D,kS]->g.hid b=none:=all_cons FD.hid (A8 FK.hid)
 have le:G.le [D,kS] g ((g.hide D (seqObj "list" #[] e1)).hide kS (seqObj "list" #[] 0)):=G.le.trans (g':=g.hide D (seqObj "list" #[] e1)) (.hide (.head _)) (.hide (.tail _ (.head _)))
 exact sort_keys hk nd h64 L hb I.loc hn le (I.far I.loc hn le H2) (lm.mono le.toup) (Am.mono le.toup rws) ((G.hide_ne hDk.symm).trans G.hide_self) G.hide_self hDk fun s' h=>⟨_,rfl,wpAny_pure ⟨_,rfl,h⟩⟩
theorem lam_some {t:Option (Addr×Str)} (h:t.isSome=true):∃ a q,t=some (a,q):=by
 cases t with
 | none=>exact ff_ h
 | some p=>exact ⟨p.1,p.2,rfl⟩
theorem SL.sortk (ha:SE (n+1) a ρ σ x σ₁) (hx:Ax σ₁ x=some (xs.map .d)) (nd:xs.Nodup) (h64:xs.length < 64) (hk:Au (fun w b=>SE n key (ρ.set i (some w)) σ₁ (K.kv b) σ₁) (xs.map .d) bs):SL (n+1) (.sortk rev a i key) ρ σ ((C7 rev K.lt (bs.zip xs)).map .d) σ₁:=fun c g s ex hc I =>
 hc (fun ex=>c.wp (eval ex c.env) (By c.toAr g σ₁ ((C7 rev K.lt (bs.zip xs)).map .d)) s) fun nm np z pm ap b sc lp kp k cp kp' p h1 h2 h3=>by
 refine wpAny_bind (C9 I h1 fun f hf=>?_)
 obtain rfl:f=.builtin "sorted" := hf
 have st:=(B8 a h2).star c.env []
 have L:=(lamOk_ok h3.1).2
 obtain ⟨t,q,hl⟩:=lam_some (lamOk_ok h3.1).1
 cases rev with
 | false =>
  refine PyProof.Rows.callWith_kw (e:=z) (rest:=[]) ?_ (by rw [st]; rfl) (by rw [st]; rfl)
  rw [st]
  refine spliced_cons (wpAny_mono (ha c g s z h2 I) (fun X s₁ p1=>p1 _ fun g₁ le1 a₁ r1=>spliced_nil ?_) fun _ _ h=>h)
  have I1:=I.step le1 a₁
  refine PyProof.Rows.kws_cons (wpAny_mono (lam_make L hl I1) (fun Z s2 p2=>p2 _ fun g2 le2 a₂ r2=>?_) fun _ _ h=>h)
  obtain ⟨f,rfl,lm⟩:=r2
  refine PyProof.Rows.kws_nil (wpAny_mono (sort_call hk nd h64 L h3.2 (I1.step le2 a₂) lm hx (An.mono le2.toup _ _ r1) (fun l=>ksk_s1 _ _) (fun x=>ksk_l1 _ _) (fun x=>ksk_t1 _ _)) (fun _ _ p=>p.after (le1.trans le2)) fun _ _ h=>h)
 | true =>
  refine PyProof.Rows.callWith_kw (e:=z) (rest:=[]) ?_ (by rw [st]; rfl) (by rw [st]; rfl)
  rw [st]
  refine spliced_cons (wpAny_mono (ha c g s z h2 I) (fun X s₁ p1=>p1 _ fun g₁ le1 a₁ r1=>spliced_nil ?_) fun _ _ h=>h)
  have I1:=I.step le1 a₁
  refine PyProof.Rows.kws_cons (wpAny_mono (lam_make L hl I1) (fun Z s2 p2=>p2 _ fun g2 le2 a₂ r2=>?_) fun _ _ h=>h)
  obtain ⟨f,rfl,lm⟩:=r2
  refine PyProof.Rows.kws_cons (wpAny_Constant_bool (PyProof.Rows.kws_nil (wpAny_mono (sort_call hk nd h64 L h3.2 (I1.step le2 a₂) lm hx (An.mono le2.toup _ _ r1) (fun l=>ksk_s2 _ _ _) (fun x=>ksk_l2 _ _ _) (fun x=>ksk_t2 _ _ _)) (fun _ _ p=>p.after (le1.trans le2)) fun _ _ h=>h)))
noncomputable def intK:KeyK:=⟨Int,intKey,intKey_oneLt,id,fun a b=>decide (a < b),fun _ _=>rfl,vi,fun {T g y X} r=>by obtain ⟨t,rfl⟩:=r; rfl,fun {T g bs kA} r h2=>ksk_kind (kz:=bs) (by
 generalize kA.toList=l at r
 induction bs generalizing l with
 | nil=>rw [r.nil]; exact .nil
 | cons b bs ih=>obtain ⟨X,l,rfl,⟨t,rfl⟩,r'⟩:=Au.cons r; exact .cons b t (ih l r')) h2⟩
theorem strs_are {T:Top} {g:G}:∀ {bs:List Str} {l:List Value},Am T g (vss bs) l->StrsAre l bs
 | [],l,r=>by rw [r.nil]; exact .nil
 | b::bs,l,r=>by obtain ⟨X,l,rfl,⟨t,rfl,_⟩,r'⟩:=Au.cons r; exact .cons b t (strs_are r')
noncomputable def strK:KeyK:=⟨Str,PyProof.Rows.strKind,strKind_oneLt,fun x=>x.cps.toList,AX,fun _ _=>rfl,fun x=>.d (.str x),fun {T g y X} r=>by obtain ⟨t,rfl,_⟩:=r; rfl,fun {T g bs kA} r h2=>by
 have q1:=strs_are r
 obtain ⟨v1,v2,rest,ev⟩:∃ v1 v2 rest,kA.toList=v1::v2::rest:=by
  rw [<-Array.length_toList] at h2
  generalize kA.toList=l at h2
  rcases l with _ | ⟨v1,_ | ⟨v2,rest⟩⟩
  ·exact absurd h2 (by decide)
  ·exact absurd h2 (Nat.not_succ_le_self 1)
  ·exact ⟨v1,v2,rest,rfl⟩
 have ek:kA=(v1::v2::rest).toArray:=by rw [<-ev,Array.toArray_toList]
 rw [ev] at q1
 rw [ek]
 exact keyKind_strs q1⟩
end
end Mine
namespace Mine
open PySem PySem.Calls PyProof.Rows
theorem strs_reverse {vs:List Value} {ss:List Str} (hS:StrsAre vs ss):StrsAre vs.reverse ss.reverse:=by
 have h1:=strsAre_map vs.reverse (fun v hv=>hS.all v (List.mem_reverse.mp hv))
 rwa [List.map_reverse,hS.strs] at h1
section
variable {prog:Program} {w:World} {A:Around} {E:Value->Shared->Prop} {s:Shared}
theorem list_sort_revS {a:Addr} {vs:List Value} {ss:List Str} {n:Nat} {P:PySem.Fin->Shared->Prop} (ho:s.heap.get? a=some (seqObj "list" vs.toArray n)) (hS:StrsAre vs ss) (h64:vs.length < 64)
 (h:∀ (out:Array Value) (ss':List Str),StrsAre out.toList ss'->ss'.Perm ss->sortedS ss'.reverse=true->P (.done (.ret .none)) { s with heap:=sortedHeap s.heap a vs out }) :
 wpAny (model prog w) A (Builtin.«list.sort» ⟨[.ref a],[(Str.ofString "reverse",.bool true)]⟩) P E s:=by
 rw [list_sort_rev]
 have ha:a < s.heap.objs.size:=Heap.lt_size ho
 refine wpAny_bind (listItems_at ho rfl ?_)
 refine wpAny_bind (listUpdate_at ho rfl ?_)
 obtain ⟨e1,ho1⟩:∃ e1,(s.heap.update a (Obj.mapSeq fun _=>#[])).get? a=some (seqObj "list" #[] e1):=⟨_,get?_update_seq ho (fun _=>#[])⟩
 refine wpAny_bind (seqEpoch_at ho1 rfl ?_)
 refine wpAny_bind (wpAny_newTuple ?_)
 refine wpAny_bind (wpAny_newList ?_)
 refine wpAny_holding ?_
 have ho6:(((s.heap.update a (Obj.mapSeq fun _=>#[])).push (seqObj "tuple" vs.toArray 0)).push (seqObj "list" #[] 0)).get? a=some (seqObj "list" #[] e1):=by
  rw [Heap.get?_push_ne _ _ _ (by rw [size_push',Heap.size_update]; exact Nat.ne_of_lt (Nat.lt_succ_of_lt ha)),Heap.get?_push_ne _ _ _ (by rw [Heap.size_update]; exact Nat.ne_of_lt ha)]
  exact ho1
 show wpAny (model prog w) A _ P E { s with heap:=((s.heap.update a (Obj.mapSeq fun _=>#[])).push (seqObj "tuple" vs.toArray 0)).push (seqObj "list" #[] 0) }
 have hsz:vs.toArray.size=vs.length:=List.size_toArray ..
 have fin:∀ st':SortSt,(arrOf st').Perm (pairsOf vs)->SortedToK PyProof.Rows.strKind (arrOf st') (pairsOf vs).size->P (.done (.ret .none)) { s with heap:=sortedHeap s.heap a vs ((arrOf st').map (·.2)).reverse }:=by
  intro st' hp hs
  obtain ⟨ss',h1,h2,h3⟩:=sorted_out_str hS hp hs
  exact h _ ss'.reverse (by rw [Array.toList_reverse]; exact strs_reverse h1) ((List.reverse_perm _).trans h2) (by rw [List.reverse_reverse]; exact h3)
 have hstart:(vs.toArray.zip vs.toArray).reverse.Perm (pairsOf vs):=Array.perm_iff_toList_perm.mpr (by rw [Array.toList_reverse]; exact List.reverse_perm _)
 dsimp only
 rw [if_pos rfl]
 refine wpAny_bind (wpAny_rule ?_)
 rw [if_pos rfl]
 by_cases h2:vs.toArray.size < 2
 ·rw [if_pos h2,if_pos h2]
  refine wpAny_bind (wpAny_pure ?_)
  rw [StateT.run_pure]
  refine wpAny_bind (wpAny_pure ?_)
  dsimp only
  refine wpAny_bind (seqEpoch_at ho6 rfl ?_)
  rw [if_pos rfl]
  refine wpAny_bind (listUpdate_at ho6 rfl ?_ (hsz2:=by
   rw [Array.size_reverse,Array.size_map]; show (vs.toArray.zip vs.toArray).reverse.size<=_; rw [Array.size_reverse,Array.size_zip,sizeLine_eq]; omega))
  simp only [bne_self_eq_false,Bool.false_eq_true,if_false]
  refine wpAny_pure (fin (SortSt.mk' general' (vs.toArray.zip vs.toArray).reverse #[] 7 none) hstart ?_)
  intro i j hij hj
  have:i=j:=by rw [pairsOf_size] at hj; omega
  subst this; exact KeyOrd.kle_refl _
 ·rw [if_neg h2,if_neg h2]
  obtain ⟨v1,v2,rest,rfl⟩:∃ v1 v2 rest,vs=v1::v2::rest:=by
   match vs,hsz,h2 with
   | [],_,h2=>exact absurd (Nat.zero_lt_succ _) h2
   | [_],_,h2=>exact absurd (Nat.lt_succ_self _) h2
   | v1::v2::rest,_,_=>exact ⟨v1,v2,rest,rfl⟩
  rw [keyKind_strs hS]
  refine wpAny_bind (wpAny_pure ?_)
  refine wpAny_bind (wpAny_mono (wpS_sortRunsK (κ:=PyProof.Rows.strKind) strKind_oneLt (a₀:=pairsOf (v1::v2::rest))
   (st:=SortSt.mk' oneType' ((v1::v2::rest).toArray.zip (v1::v2::rest).toArray).reverse #[] 7 none)
   (Q:=fun _ st'=>(arrOf st').Perm (pairsOf (v1::v2::rest))/\failedOf st'=none/\SortedToK PyProof.Rows.strKind (arrOf st') (pairsOf (v1::v2::rest)).size)
   hS.keysOf ⟨hstart,rfl,rfl,rfl⟩ (by rw [pairsOf_size]; exact Nat.le_add_left _ _) (by rw [pairsOf_size]; exact h64) fun st' a1 a2 a3=>⟨a1,a2,a3⟩) ?_ fun _ _ e=>e)
  rintro ⟨⟨⟩,st'⟩ s' ⟨rfl,hp,hf,hs⟩
  dsimp only
  refine wpAny_bind (seqEpoch_at ho6 rfl ?_)
  rw [if_pos rfl]
  refine wpAny_bind (listUpdate_at ho6 rfl ?_ (hsz2:=by
   rw [Array.size_reverse]
   refine Nat.le_trans (Nat.le_of_eq ((Array.size_map ..).trans (hp.size_eq.trans (pairsOf_size _)))) ?_; rw [sizeLine_eq]; omega))
  rw [hf]
  simp only [bne_self_eq_false,Bool.false_eq_true,if_false]
  exact wpAny_pure (fin st' hp hs)
theorem G0 {l:Addr} {vs:List Value} {ss:List Str} {Q:Value->Shared->Prop} (hl:s.heap.IsList l vs.toArray) (hS:StrsAre vs ss) (h64:vs.length < 64)
 (h:∀ (out:Array Value) (ss':List Str),StrsAre out.toList ss'->ss'.Perm ss->sortedS ss'.reverse=true->Q (.ref (s.heap.objs.size+1)) { s with heap:=sortedAll s.heap vs out }) :
 wpAny (model prog w) A (call (.builtin "sorted") [.ref l] [(Str.ofString "reverse",.bool true)]) Q E s:=by
 refine call_function_entry_kw kind_sorted plain_sorted entry_sorted (args_sorted_rev _ _) ?_
 unfold Builtin.«sorted»
 refine wpAny_bind (m:=checkCount "sorted" 1 1 _) (wpAny_pure ?_)
 refine wpAny_bind (collect_list hl ?_)
 refine wpAny_bind (wpAny_newList ?_)
 have hsz:((s.heap.push (seqObj "list" #[] 0)).update s.heap.objs.size (Obj.mapSeq (· ++ vs.toArray))).objs.size=s.heap.objs.size+1:=by
  rw [Heap.size_update,size_push']
 have hoL:(((s.heap.push (seqObj "list" #[] 0)).update s.heap.objs.size (Obj.mapSeq (· ++ vs.toArray))).push (seqObj "list" vs.toArray 0)).get? (s.heap.objs.size+1)=some (seqObj "list" vs.toArray 0):=by
  rw [<-hsz]; exact Heap.get?_push_size _ rfl
 show wpAny _ _ _ _ _ { s with heap:=((s.heap.push (seqObj "list" #[] 0)).update s.heap.objs.size (Obj.mapSeq (· ++ vs.toArray))).push (seqObj "list" vs.toArray 0) }
 rw [hsz]
 refine wpAny_bind (wpAny_holding (wpAny_call_entry_kw slot_list_sort ⟨_,hoL,rfl⟩ entry_list_sort (list_sort_revS hoL hS h64 fun out ss' a1 a2 a3=>⟨_,rfl,?_⟩) (args_list_sort_rev _ _)))
 exact wpAny_pure ⟨_,rfl,h out ss' a1 a2 a3⟩
end
section
variable {n:Nat} {ρ:Af} {σ σ₁:Ab} {a:E} {x:V} {ss ss':List Str}
theorem SL.sortr (ha:SE n a ρ σ x σ₁) (h:Ax σ₁ x=some (vss ss)) (hl:ss.length < 64) (hp:ss'.Perm ss) (hs:CY ss'.reverse):SL n (.sortr a) ρ σ (vss ss') σ₁:=fun c g s ex hc I =>
 hc (fun ex=>c.wp (eval ex c.env) (By c.toAr g σ₁ (vss ss')) s) fun nm np z k cp kp p h1 h2=>by
 refine wpAny_bind (C9 I h1 fun f hf=>?_)
 obtain rfl:f=.builtin "sorted" := hf
 have st:=(B8 a h2).star c.env []
 refine PyProof.Rows.callWith_kw (e:=z) (rest:=[]) ?_ (by rw [st]; rfl) (by rw [st]; rfl)
 rw [st]
 refine spliced_cons (wpAny_mono (ha c g s z h2 I) (fun X s₁ p1=>p1 _ fun g₁ le1 a₁ r1=>spliced_nil ?_) fun _ _ h=>h)
 refine PyProof.Rows.kws_cons (wpAny_Constant_bool (PyProof.Rows.kws_nil ?_))
 refine AI a₁ r1 h (R_:=fun X=>c.wp (call (.builtin "sorted") [X] [(Str.ofString "reverse",.bool true)]) (By c.toAr g σ₁ (vss ss')) s₁) fun a ys hL hr hn _=>?_
 obtain ⟨h1,h2⟩:=GP hr
 have hlen:ys.toList.length < 64:=by rw [<-hr.length,List.length_map]; exact hl
 refine G0 (vs:=ys.toList) hL h1 hlen fun out out' a1 a2 a3=>?_
 have e:out'.reverse=ss'.reverse:=Eu (CN a3) hs ((List.reverse_perm _).trans (a2.trans (hp.symm.trans (List.reverse_perm _).symm)))
 obtain rfl:out'=ss':=by rw [<-List.reverse_reverse out',e,List.reverse_reverse]
 obtain ⟨k,hk⟩:=PyProof.Rows.sortedAll_at s₁.heap ys.toList out
 exact By.after le1 (.made a₁ (fun b o e=>PyProof.Rows.sortedAll_old e) (Heap.get?_none_of_le (Nat.le_succ _)) hk (rep_strs a1 fun z hz=>h2 z (a2.mem_iff.mp hz)) (by rw [List.length_map,hp.length_eq]; exact Nat.le_trans (Nat.le_of_lt hl) (by decide)))
end
end Mine
namespace Mine
open PySem
noncomputable def noE:Expr:=.Name ("" : Str) ⟨0,0,0,0⟩
noncomputable def noS:Stmt:=.Pass ⟨0,0,0,0⟩
noncomputable def kids (x:Expr):List Expr :=
 match x with
 | .BinOp l _ r _=>[l,r]
 | .UnaryOp _ y _=>[y]
 | .BoolOp _ vs _=>vs
 | .Compare l _ rs _=>l::rs
 | .Tuple vs _ _=>vs
 | .List vs _=>vs
 | .Subscript v y _=>[v,y]
 | .Call f vs _ _=>f::vs
 | .Attribute y _ _=>[y]
 | .ListComp y gs _ _=>(match gs with | [g]=>y::g.target::g.iter::g.ifs | _=>[])
 | _=>[]
noncomputable def kE (x:Expr) (i:Nat):Expr:=(kids x)[i]?.getD noE
noncomputable def nmE (x:Expr):Str:=match x with | .Name n _=>n | _=>("" : Str)
noncomputable def numE (x:Expr):Nat:=match x with | .Constant _ k _=>k | .Tuple _ k _=>k | _=>0
noncomputable def sliE (x:Expr):Option Expr×Option Expr:=match x with | .Slice l u _ _=>(l,u) | _=>(none,none)
noncomputable def kwE (x:Expr) (i:Nat):Keyword:=match x with | .Call _ _ ks _=>ks[i]?.getD ⟨none,noE,noE.pos⟩ | _=>⟨none,noE,noE.pos⟩
noncomputable def lamE (x:Expr):Arguments×Expr×Scope:=match x with | .Lambda as b sc _=>(as,b,sc) | _=>(⟨[],[],none,[],[],none,[]⟩,noE,default)
noncomputable def argE (as:Arguments):Arg:=as.args[0]?.getD ⟨("" : Str),none,noE.pos⟩
noncomputable def scE (x:Expr):Scope:=match x with | .ListComp _ _ sc _=>sc | _=>default
noncomputable def Do (x:Expr):Expr:=.Name (nmE x) x.pos
noncomputable def kwA (x:Expr):Arg:=argE (lamE (kwE x 0).value).1
noncomputable def kwB (x:Expr):Expr:=(lamE (kwE x 0).value).2.1
noncomputable def kwS (x:Expr):Scope:=(lamE (kwE x 0).value).2.2
noncomputable def emNs (x:Expr):List Nat->Nat->List Expr
 | [],_=>[]
 | _::r,k=>Do (kE x k)::emNs x r (k+1)
noncomputable def emT (ts:List Nat) (x:Expr):Expr :=
 match ts with
 | [_]=>Do x
 | ts=>.Tuple (emNs x ts 0) (numE x) x.pos
noncomputable def em:E->(Expr->Expr)×(Expr->Nat->List Expr)
 | .cst d=>(fun x=>.Constant (toC d) (numE x) x.pos,fun _ _=>[])
 | .var _=>(Do,fun _ _=>[])
 | .ty _=>(Do,fun _ _=>[])
 | .glb _=>(Do,fun _ _=>[])
 | .bin op a b=>(fun x=>.BinOp ((em a).1 (kE x 0)) op ((em b).1 (kE x 1)) x.pos,fun _ _=>[])
 | .neg a=>(fun x=>.UnaryOp .USub ((em a).1 (kE x 0)) x.pos,fun _ _=>[])
 | .not a=>(fun x=>.UnaryOp .Not ((em a).1 (kE x 0)) x.pos,fun _ _=>[])
 | .bop op es=>(fun x=>.BoolOp op ((em es).2 x 0) x.pos,fun _ _=>[])
 | .cmp op a b=>(fun x=>.Compare ((em a).1 (kE x 0)) [op] [(em b).1 (kE x 1)] x.pos,fun _ _=>[])
 | .nil=>(id,fun _ _=>[])
 | .cons a r=>(id,fun x k=>(em a).1 (kE x k)::(em r).2 x (k+1))
 | .tup es=>(fun x=>.Tuple ((em es).2 x 0) (numE x) x.pos,fun _ _=>[])
 | .lst es=>(fun x=>.List ((em es).2 x 0) x.pos,fun _ _=>[])
 | .dct=>(fun x=>.Dict [] [] x.pos,fun _ _=>[])
 | .sub a i=>(fun x=>.Subscript ((em a).1 (kE x 0)) ((em i).1 (kE x 1)) x.pos,fun _ _=>[])
 | .slc a lo hi=>(fun x=>.Subscript ((em a).1 (kE x 0)) (.Slice (if B2 lo then none else some ((em lo).1 ((sliE (kE x 1)).1.getD noE))) (if B2 hi then none else some ((em hi).1 ((sliE (kE x 1)).2.getD noE))) none (kE x 1).pos) x.pos,fun _ _=>[])
 | .bi _ es=>(fun x=>.Call (Do (kE x 0)) ((em es).2 x 1) [] x.pos,fun _ _=>[])
 | .maxd a z=>(fun x=>.Call (Do (kE x 0)) [(em a).1 (kE x 1)] [⟨some (Str.ofString "default"),(em z).1 (kwE x 0).value,(kwE x 0).pos⟩] x.pos,fun _ _=>[])
 | .sortr a=>(fun x=>.Call (Do (kE x 0)) [(em a).1 (kE x 1)] [⟨some (Str.ofString "reverse"),.Constant (.bool true) (numE (kwE x 0).value) (kwE x 0).value.pos,(kwE x 0).pos⟩] x.pos,fun _ _=>[])
 | .sortk rev a _ key=>(fun x=>.Call (Do (kE x 0)) [(em a).1 (kE x 1)] (⟨some (Str.ofString "key"),.Lambda (Em (kwA x).arg (kwA x).pos) ((em key).1 (kwB x)) (kwS x) (kwE x 0).value.pos,(kwE x 0).pos⟩ ::
  bif rev then [⟨some (Str.ofString "reverse"),.Constant (.bool true) (numE (kwE x 1).value) (kwE x 1).value.pos,(kwE x 1).pos⟩] else []) x.pos,fun _ _=>[])
 | .fcall _ es=>(fun x=>.Call (Do (kE x 0)) ((em es).2 x 1) [] x.pos,fun _ _=>[])
 | .meth m o es=>(fun x=>.Call (.Attribute ((em o).1 (kE (kE x 0) 0)) (Str.ofString (DR m)) (kE x 0).pos) ((em es).2 x 1) [] x.pos,fun _ _=>[])
 | .attr nm o=>(fun x=>.Attribute ((em o).1 (kE x 0)) nm x.pos,fun _ _=>[])
 | .mcall nm o es=>(fun x=>.Call (.Attribute ((em o).1 (kE (kE x 0) 0)) nm (kE x 0).pos) ((em es).2 x 1) [] x.pos,fun _ _=>[])
 | .new=>(fun x=>.Call (Do (kE x 0)) [] [] x.pos,fun _ _=>[])
 | .comp elt ts it ifs=>(fun x=>.ListComp ((em elt).1 (kE x 0)) [⟨emT ts (kE x 1),(em it).1 (kE x 2),(em ifs).2 x 3,0⟩] (scE x) x.pos,fun _ _=>[])
 | .range es=>(fun x=>.Call (Do (kE x 0)) ((em es).2 x 1) [] x.pos,fun _ _=>[])
 | .zip a b=>(fun x=>.Call (Do (kE x 0)) [(em a).1 (kE x 1),(em b).1 (kE x 2)] [] x.pos,fun _ _=>[])
 | .enum a=>(fun x=>.Call (Do (kE x 0)) [(em a).1 (kE x 1)] [] x.pos,fun _ _=>[])
noncomputable def okNs (K:Kx) (x:Expr):List Nat->Nat->Bool
 | [],_=>true
 | i::r,k=>K.canWr i (nmE (kE x k))&&okNs K x r (k+1)
noncomputable def okT (K:Kx) (ts:List Nat) (x:Expr):Bool :=
 match ts with
 | [i]=>K.canWr i (nmE x)
 | ts=>okNs K x ts 0
noncomputable def no1 (_:Expr):Bool:=false
noncomputable def no2 (_:Expr) (_:Nat):Bool:=false
noncomputable def okAt (apos pos:Pos) (n:Nat):Bool:=apos.endLine == pos.line&&Nat.blt n 20
noncomputable def ok:E->Kx->(Expr->Bool)×(Expr->Nat->Bool)
 | .cst d,_=>(fun _=>cOk d,no2)
 | .var i,K=>(fun x=>K.isVar (nmE x)&&K.isAt i (nmE x),no2)
 | .ty t,K=>(fun x=>G4 K (.ty t) (nmE x),no2)
 | .glb d,K=>(fun x=>G4 K (.cst d) (nmE x),no2)
 | .bin _ a b,K=>(fun x=>(ok a K).1 (kE x 0)&&(ok b K).1 (kE x 1),no2)
 | .neg a,K=>(fun x=>(ok a K).1 (kE x 0),no2)
 | .not a,K=>(fun x=>(ok a K).1 (kE x 0),no2)
 | .bop _ es,K=>(fun x=>(ok es K).2 x 0,no2)
 | .cmp _ a b,K=>(fun x=>(ok a K).1 (kE x 0)&&(ok b K).1 (kE x 1),no2)
 | .nil,_=>(no1,fun _ _=>true)
 | .cons a r,K=>(no1,fun x k=>(ok a K).1 (kE x k)&&(ok r K).2 x (k+1))
 | .tup es,K=>(fun x=>(ok es K).2 x 0,no2)
 | .lst es,K=>(fun x=>(ok es K).2 x 0,no2)
 | .dct,_=>(fun _=>true,no2)
 | .sub a i,K=>(fun x=>(ok a K).1 (kE x 0)&&(ok i K).1 (kE x 1),no2)
 | .slc a lo hi,K=>(fun x=>(ok a K).1 (kE x 0)&&((B2 lo||(ok lo K).1 ((sliE (kE x 1)).1.getD noE))&&(B2 hi||(ok hi K).1 ((sliE (kE x 1)).2.getD noE))),no2)
 | .bi b es,K=>(fun x=>G4 K (biGV b) (nmE (kE x 0))&&(ok es K).2 x 1,no2)
 | .maxd a z,K=>(fun x=>G4 K (.bi .max) (nmE (kE x 0))&&((ok a K).1 (kE x 1)&&(ok z K).1 (kwE x 0).value),no2)
 | .sortr a,K=>(fun x=>G4 K (.bi .sorted) (nmE (kE x 0))&&(ok a K).1 (kE x 1),no2)
 | .sortk _ a i key,K=>(fun x=>G4 K (.bi .sorted) (nmE (kE x 0))&&((ok a K).1 (kE x 1)&&(lamOk K i (kwA x).arg (kwS x)&&(ok key (K.lsub (kwA x).arg (kwS x))).1 (kwB x))),no2)
 | .fcall f es,K=>(fun x=>G4 K (.fn f) (nmE (kE x 0))&&(ok es K).2 x 1,no2)
 | .meth _ o es,K=>(fun x=>(ok o K).1 (kE (kE x 0) 0)&&((ok es K).2 x 1&&okAt (kE x 0).pos x.pos ((em es).2 x 1).length),no2)
 | .attr _ o,K=>(fun x=>(ok o K).1 (kE x 0),no2)
 | .mcall _ o es,K=>(fun x=>(ok o K).1 (kE (kE x 0) 0)&&((ok es K).2 x 1&&okAt (kE x 0).pos x.pos ((em es).2 x 1).length),no2)
 | .new,K=>(fun x=>G4 K .cls (nmE (kE x 0)),no2)
 | .comp elt ts it ifs,K=>(fun x=>(ok it K).1 (kE x 2)&&((G8 K ts (scE x)&&Gi ts it)&&(okT (K.sub ts (scE x)) ts (kE x 1)&&((ok elt (K.sub ts (scE x))).1 (kE x 0)&&(ok ifs (K.sub ts (scE x))).2 x 3))),no2)
 | .range es,K=>(fun x=>G4 K (.ty "range") (nmE (kE x 0))&&(ok es K).2 x 1,no2)
 | .zip a b,K=>(fun x=>G4 K (.ty "zip") (nmE (kE x 0))&&((ok a K).1 (kE x 1)&&(ok b K).1 (kE x 2)),no2)
 | .enum a,K=>(fun x=>G4 K (.ty "enumerate") (nmE (kE x 0))&&(ok a K).1 (kE x 1),no2)
section
variable {K:Kx} {x:Expr} {k:Nat}
theorem A4 {a b:Bool} (h:(a&&b)=true):a=true:=(Bool.and_eq_true_iff.mp h).1
theorem Ak {a b:Bool} (h:(a&&b)=true):b=true:=(Bool.and_eq_true_iff.mp h).2
theorem dataIs_eq {a b:PyData} (h:FW a b=true):a=b:=by
 cases a with
 | int i=>cases b with
  | int j=>rw [eq_of_beq (show (i == j)=true from h)]
  | _=>exact ff_ h
 | str i=>cases b with
  | str j=>rw [eq_of_beq (show (i == j)=true from h)]
  | _=>exact ff_ h
 | _=>exact ff_ h
theorem gvIs_eq {v w:GV} (h:gvIs v w=true):v=w:=by
 cases v with
 | fn f=>cases w with
  | fn g=>rw [eq_of_beq (show (f == g)=true from h)]
  | _=>exact ff_ h
 | bi f=>cases w with
  | bi g=>cases f <;> cases g <;> first | rfl | exact ff_ h
  | _=>exact ff_ h
 | ty f=>cases w with
  | ty g=>rw [eq_of_beq (show (f == g)=true from h)]
  | _=>exact ff_ h
 | cst f=>cases w with
  | cst g=>rw [dataIs_eq (show FW f g=true from h)]
  | _=>exact ff_ h
 | cls=>cases w with
  | cls=>rfl
  | _=>exact ff_ h
theorem BV {v:GV} {n:Str} (h:G4 K v n=true):K.to v n:=by
 refine ⟨A4 h,?_⟩
 have h:=Ak h
 cases e:K.gl n with
 | none=>rw [e] at h; exact ff_ h
 | some w=>rw [e] at h; rw [gvIs_eq (show gvIs w v=true from h)]
theorem isAt_of {i:Nat} {n:Str} (h:K.isAt i n=true):K.vars[i]? = some n:=by
 have h:(match K.vars[i]? with | some m=>m == n | none=>false)=true:=h
 cases e:K.vars[i]? with
 | none=>rw [e] at h; exact ff_ h
 | some m=>rw [e] at h; rw [eq_of_beq (show (m == n)=true from h)]
theorem Fg:∀ {ts:List Nat} {k:Nat},okNs K x ts k=true->IsNs K ts (emNs x ts k)
 | [],_,_=>rfl
 | _::_,_,h=>fun R_ f=>f _ _ _ (A4 h) (Fg (Ak h))
theorem isT_of {ts:List Nat} (h:okT K ts x=true):IsT K ts (emT ts x):=fun R_ h1 h2=>by
 match ts,h with
 | [],h=>exact h2 _ _ _ (fun q=>nomatch q) (Fg h)
 | [i],h=>exact h1 i _ _ h
 | i::j::l,h=>exact h2 _ _ _ (fun q=>nomatch q) (Fg h)
theorem at_of {a p:Pos} {n:Nat} (h:okAt a p n=true):a.endLine=p.line/\n < 20:=⟨eq_of_beq (A4 h),Nat.blt_eq.mp (Ak h)⟩
theorem opt_of {A:Expr->Prop} {e:E} {t:Expr} {b:Bool} (h:(B2 e||b)=true) (hb:b=true->A t):(if B2 e then IsNone else IsSome A) (if B2 e then none else some t):=by
 by_cases q:B2 e=true
 ·rw [if_pos q,if_pos q]; rfl
 ·rw [if_neg q,if_neg q]
  rw [Bool.not_eq_true] at q
  rw [q] at h
  exact fun R_ k=>k _ (hb h)
end
theorem A9:∀ e:E,(∀ K x,(ok e K).1 x=true->(Is e K).1 ((em e).1 x))/\(∀ K x k,(ok e K).2 x k=true->(Is e K).2 ((em e).2 x k))
 | .cst d=>⟨fun K x h R_ k=>k _ _ h,fun _ _ _ h=>ff_ h⟩
 | .var i=>⟨fun K x h R_ k=>k _ _ ⟨A4 h,isAt_of (Ak h)⟩,fun _ _ _ h=>ff_ h⟩
 | .ty t=>⟨fun K x h R_ k=>k _ _ (BV h),fun _ _ _ h=>ff_ h⟩
 | .glb d=>⟨fun K x h R_ k=>k _ _ (BV h),fun _ _ _ h=>ff_ h⟩
 | .bin op a b=>⟨fun K x h R_ k=>k _ _ _ ((A9 a).1 K _ (A4 h)) ((A9 b).1 K _ (Ak h)),fun _ _ _ h=>ff_ h⟩
 | .neg a=>⟨fun K x h R_ k=>k _ _ ((A9 a).1 K _ h),fun _ _ _ h=>ff_ h⟩
 | .not a=>⟨fun K x h R_ k=>k _ _ ((A9 a).1 K _ h),fun _ _ _ h=>ff_ h⟩
 | .bop op es=>⟨fun K x h R_ k=>k _ _ ((A9 es).2 K _ _ h),fun _ _ _ h=>ff_ h⟩
 | .cmp op a b=>⟨fun K x h R_ k=>k _ _ _ ((A9 a).1 K _ (A4 h)) ((A9 b).1 K _ (Ak h)),fun _ _ _ h=>ff_ h⟩
 | .nil=>⟨fun _ _ h=>ff_ h,fun _ _ _ _=>rfl⟩
 | .cons a r=>⟨fun _ _ h=>ff_ h,fun K x _ h R_ k=>k _ _ ((A9 a).1 K _ (A4 h)) ((A9 r).2 K _ _ (Ak h))⟩
 | .tup es=>⟨fun K x h R_ k=>k _ _ _ ((A9 es).2 K _ _ h),fun _ _ _ h=>ff_ h⟩
 | .lst es=>⟨fun K x h R_ k=>k _ _ ((A9 es).2 K _ _ h),fun _ _ _ h=>ff_ h⟩
 | .dct=>⟨fun K x h R_ k=>k _,fun _ _ _ h=>ff_ h⟩
 | .sub a i=>⟨fun K x h R_ k=>k _ _ _ ((A9 a).1 K _ (A4 h)) ((A9 i).1 K _ (Ak h)),fun _ _ _ h=>ff_ h⟩
 | .slc a lo hi=>⟨fun K x h R_ k=>k _ _ _ _ _ ((A9 a).1 K _ (A4 h)) (opt_of (A4 (Ak h)) ((A9 lo).1 K _)) (opt_of (Ak (Ak h)) ((A9 hi).1 K _)),fun _ _ _ h=>ff_ h⟩
 | .bi b es=>⟨fun K x h R_ k=>k _ _ _ _ (BV (A4 h)) ((A9 es).2 K _ _ (Ak h)),fun _ _ _ h=>ff_ h⟩
 | .maxd a z=>⟨fun K x h R_ k=>k _ _ _ _ _ _ (BV (A4 h)) ((A9 a).1 K _ (A4 (Ak h))) ((A9 z).1 K _ (Ak (Ak h))),fun _ _ _ h=>ff_ h⟩
 | .sortr a=>⟨fun K x h R_ k=>k _ _ _ _ _ _ _ (BV (A4 h)) ((A9 a).1 K _ (Ak h)),fun _ _ _ h=>ff_ h⟩
 | .sortk rev a i key=>⟨fun K x h R_ k=>k _ _ _ _ _ _ _ _ _ _ _ _ _ (BV (A4 h)) ((A9 a).1 K _ (A4 (Ak h))) ⟨A4 (Ak (Ak h)),(A9 key).1 _ _ (Ak (Ak (Ak h)))⟩,fun _ _ _ h=>ff_ h⟩
 | .fcall f es=>⟨fun K x h R_ k=>k _ _ _ _ (BV (A4 h)) ((A9 es).2 K _ _ (Ak h)),fun _ _ _ h=>ff_ h⟩
 | .meth m o es=>⟨fun K x h R_ k=>k _ _ _ _ ((A9 o).1 K _ (A4 h)) ((A9 es).2 K _ _ (A4 (Ak h))) (at_of (Ak (Ak h))).1 (at_of (Ak (Ak h))).2,fun _ _ _ h=>ff_ h⟩
 | .attr nm o=>⟨fun K x h R_ k=>k _ _ ((A9 o).1 K _ h),fun _ _ _ h=>ff_ h⟩
 | .mcall nm o es=>⟨fun K x h R_ k=>k _ _ _ _ ((A9 o).1 K _ (A4 h)) ((A9 es).2 K _ _ (A4 (Ak h))) (at_of (Ak (Ak h))).1 (at_of (Ak (Ak h))).2,fun _ _ _ h=>ff_ h⟩
 | .new=>⟨fun K x h R_ k=>k _ _ _ _ (BV h) rfl,fun _ _ _ h=>ff_ h⟩
 | .comp elt ts it ifs=>⟨fun K x h R_ k=>k _ _ _ _ _ _ ((A9 it).1 K _ (A4 h)) ⟨A4 (A4 (Ak h)),Ak (A4 (Ak h))⟩ (isT_of (A4 (Ak (Ak h)))) ((A9 elt).1 _ _ (A4 (Ak (Ak (Ak h))))) ((A9 ifs).2 _ _ _ (Ak (Ak (Ak (Ak h))))),fun _ _ _ h=>ff_ h⟩
 | .range es=>⟨fun K x h R_ k=>k _ _ _ _ (BV (A4 h)) ((A9 es).2 K _ _ (Ak h)),fun _ _ _ h=>ff_ h⟩
 | .zip a b=>⟨fun K x h R_ k=>k _ _ _ _ (BV (A4 h)) fun R_ k=>k _ _ ((A9 a).1 K _ (A4 (Ak h))) fun R_ k=>k _ _ ((A9 b).1 K _ (Ak (Ak h))) rfl,fun _ _ _ h=>ff_ h⟩
 | .enum a=>⟨fun K x h R_ k=>k _ _ _ _ (BV (A4 h)) fun R_ k=>k _ _ ((A9 a).1 K _ (Ak h)) rfl,fun _ _ _ h=>ff_ h⟩
end Mine
namespace Mine
open PySem
noncomputable def stE (st:Stmt):List Expr :=
 match st with
 | .Assign ts v _=>v::ts
 | .Expr v _=>[v]
 | .If t _ _ _=>[t]
 | .While t _ _ _=>[t]
 | .For t i _ _ _=>[t,i]
 | .Return v _=>(match v with | some v=>[v] | none=>[])
 | _=>[]
noncomputable def stB (st:Stmt):List Stmt×List Stmt :=
 match st with
 | .If _ x y _=>(x,y)
 | .For _ _ b _ _=>(b,[])
 | .While _ b _ _=>(b,[])
 | _=>([],[])
noncomputable def sE (st:Stmt) (i:Nat):Expr:=(stE st)[i]?.getD noE
noncomputable def emS:S->(Stmt->Stmt)×(List Stmt->List Stmt)
 | .any=>(id,id)
 | .nil=>(id,fun _=>[])
 | .cons s r=>(id,fun l=>(emS s).1 (l.headD noS)::(emS r).2 l.tail)
 | .asg _ e=>(fun st=>.Assign [Do (sE st 1)] ((em e).1 (sE st 0)) st.pos,id)
 | .unp xs e=>(fun st=>.Assign [.Tuple (emNs (sE st 1) xs 0) (numE (sE st 1)) (sE st 1).pos] ((em e).1 (sE st 0)) st.pos,id)
 | .swp xs es=>(fun st=>.Assign [.Tuple (emNs (sE st 1) xs 0) (numE (sE st 1)) (sE st 1).pos] (.Tuple ((em es).2 (sE st 0) 0) (numE (sE st 0)) (sE st 0).pos) st.pos,id)
 | .set o i v=>(fun st=>.Assign [.Subscript ((em o).1 (kE (sE st 1) 0)) ((em i).1 (kE (sE st 1) 1)) (sE st 1).pos] ((em v).1 (sE st 0)) st.pos,id)
 | .exp e=>(fun st=>.Expr ((em e).1 (sE st 0)) st.pos,id)
 | .ite c a b=>(fun st=>.If ((em c).1 (sE st 0)) ((emS a).2 (stB st).1) ((emS b).2 (stB st).2) st.pos,id)
 | .for_ ts it body=>(fun st=>.For (emT ts (sE st 0)) ((em it).1 (sE st 1)) ((emS body).2 (stB st).1) [] st.pos,id)
 | .while_ c body=>(fun st=>.While ((em c).1 (sE st 0)) ((emS body).2 (stB st).1) [] st.pos,id)
 | .ret e=>(fun st=>.Return (some ((em e).1 (sE st 0))) st.pos,id)
 | .setd _ nm=>(fun st=>.Assign [.Attribute (Do (kE (sE st 1) 0)) nm (sE st 1).pos] (.Dict [] [] (sE st 0).pos) st.pos,id)
 | .swl _ _ _ es=>(fun st=>.Assign [.Tuple [Do (kE (sE st 1) 0),Do (kE (sE st 1) 1),Do (kE (sE st 1) 2)] (numE (sE st 1)) (sE st 1).pos] (.Tuple ((em es).2 (sE st 0) 0) (numE (sE st 0)) (sE st 0).pos) st.pos,id)
noncomputable def noL (_:List Stmt):Bool:=false
noncomputable def okS:S->Kx->(Stmt->Bool)×(List Stmt->Bool)
 | .any,_=>(fun _=>true,fun _=>true)
 | .nil,_=>(fun _=>false,fun _=>true)
 | .cons s r,K=>(fun _=>false,fun l=>(okS s K).1 (l.headD noS)&&(okS r K).2 l.tail)
 | .asg x e,K=>(fun st=>K.canWr x (nmE (sE st 1))&&((ok e K).1 (sE st 0)&&(bif B3 e then swapC K (nmE (sE st 1)) (sE st 1).pos ((em e).1 (sE st 0)) else true)),noL)
 | .unp xs e,K=>(fun st=>okNs K (sE st 1) xs 0&&(ok e K).1 (sE st 0),noL)
 | .swp xs es,K=>(fun st=>okNs K (sE st 1) xs 0&&((FX K (emNs (sE st 1) xs 0)&&Nat.beq xs.length 3)&&(ok es K).2 (sE st 0) 0),noL)
 | .set o i v,K=>(fun st=>(ok v K).1 (sE st 0)&&((ok o K).1 (kE (sE st 1) 0)&&(ok i K).1 (kE (sE st 1) 1)),noL)
 | .exp e,K=>(fun st=>(ok e K).1 (sE st 0),noL)
 | .ite c a b,K=>(fun st=>(ok c K).1 (sE st 0)&&((okS a K).2 (stB st).1&&(okS b K).2 (stB st).2),noL)
 | .for_ ts it body,K=>(fun st=>(okT K ts (sE st 0)&&Gi ts it)&&((ok it K).1 (sE st 1)&&(okS body K).2 (stB st).1),noL)
 | .while_ c body,K=>(fun st=>(ok c K).1 (sE st 0)&&(okS body K).2 (stB st).1,noL)
 | .ret e,K=>(fun st=>(ok e K).1 (sE st 0),noL)
 | .setd x _,K=>(fun st=>K.kd (nmE (kE (sE st 1) 0)) .local&&(K.isAt x (nmE (kE (sE st 1) 0)) && !(nmE (kE (sE st 1) 0) == ("__debug__" : Str))),noL)
 | .swl i j l es,K=>(fun st=>(K.canWr i (nmE (kE (sE st 1) 0))&&(K.canWr j (nmE (kE (sE st 1) 1))&&K.canWr l (nmE (kE (sE st 1) 2))))&&(swlOk K (nmE (kE (sE st 1) 0)) (nmE (kE (sE st 1) 1)) (nmE (kE (sE st 1) 2)) (kE (sE st 1) 0).pos (kE (sE st 1) 1).pos (kE (sE st 1) 2).pos ((em es).2 (sE st 0) 0)&&(ok es K).2 (sE st 0) 0),noL)
theorem EA:∀ (e:S),(∀ K x,(okS e K).1 x=true->(Iss e K).1 ((emS e).1 x))/\(∀ K x,(okS e K).2 x=true->(Iss e K).2 ((emS e).2 x))
 | .any=>⟨fun _ _ _=>trivial,fun _ _ _=>trivial⟩
 | .nil=>⟨fun _ _ h=>ff_ h,fun _ _ _=>rfl⟩
 | .cons s r=>⟨fun _ _ h=>ff_ h,fun K l h R_ k=>k _ _ ((EA s).1 K _ (A4 h)) ((EA r).2 K _ (Ak h))⟩
 | .asg x e=>⟨fun K st h R_ k=>k _ _ _ _ (A4 h) ((A9 e).1 K _ (A4 (Ak h))) (Ak (Ak h)),fun _ _ h=>ff_ h⟩
 | .unp xs e=>⟨fun K st h R_ k=>k _ _ _ _ _ (Fg (A4 h)) ((A9 e).1 K _ (Ak h)),fun _ _ h=>ff_ h⟩
 | .swp xs es=>⟨fun K st h R_ k=>k _ _ _ _ _ _ _ ⟨Fg (A4 h),A4 (A4 (Ak h)),Nat.eq_of_beq_eq_true (Ak (A4 (Ak h)))⟩ ((A9 es).2 K _ _ (Ak (Ak h))),fun _ _ h=>ff_ h⟩
 | .set o i v=>⟨fun K st h R_ k=>k _ _ _ _ _ ((A9 v).1 K _ (A4 h)) ((A9 o).1 K _ (A4 (Ak h))) ((A9 i).1 K _ (Ak (Ak h))),fun _ _ h=>ff_ h⟩
 | .exp e=>⟨fun K st h R_ k=>k _ _ ((A9 e).1 K _ h),fun _ _ h=>ff_ h⟩
 | .ite c a b=>⟨fun K st h R_ k=>k _ _ _ _ ((A9 c).1 K _ (A4 h)) ((EA a).2 K _ (A4 (Ak h))) ((EA b).2 K _ (Ak (Ak h))),fun _ _ h=>ff_ h⟩
 | .for_ ts it body=>⟨fun K st h R_ k=>k _ _ _ _ ⟨isT_of (A4 (A4 h)),Ak (A4 h)⟩ ((A9 it).1 K _ (A4 (Ak h))) ((EA body).2 K _ (Ak (Ak h))),fun _ _ h=>ff_ h⟩
 | .while_ c body=>⟨fun K st h R_ k=>k _ _ _ ((A9 c).1 K _ (A4 h)) ((EA body).2 K _ (Ak h)),fun _ _ h=>ff_ h⟩
 | .ret e=>⟨fun K st h R_ k=>k _ _ ((A9 e).1 K _ h),fun _ _ h=>ff_ h⟩
 | .setd x nm=>⟨fun K st h R_ k=>k _ _ _ _ _ ⟨A4 h,isAt_of (A4 (Ak h)),not_tt (Ak (Ak h))⟩,fun _ _ h=>ff_ h⟩
 | .swl i j l es=>⟨fun K st h R_ k=>k _ _ _ _ _ _ _ _ _ _ _ _ ⟨⟨A4 (A4 h),A4 (Ak (A4 h)),Ak (Ak (A4 h))⟩,A4 (Ak h)⟩ ((A9 es).2 K _ _ (Ak (Ak h))),fun _ _ h=>ff_ h⟩
noncomputable def parOk (o:Option NameKind):Bool:=match o with | some k=>k == .local||k == .cell | none=>false
structure Rc where
 params:Arguments
 body:List Stmt
 scope:Scope
noncomputable def okRc (lam:Option (Addr×Str)) (fn:Fn) (vars:List Str) (r:Rc):Bool :=
 (decide (r.scope.kind=.function)&&(!r.scope.isGenerator&&(!r.scope.isCoroutine&&(decide vars.Nodup&&((vars.take fn.np).all (fun n=>parOk (r.scope.names.lookup n))&&r.scope.names.all (fun q=>!(q.2 == .free))))))) &&
 ((r.params.posonlyargs.isEmpty&&(r.params.vararg.isNone&&(r.params.kwonlyargs.isEmpty&&(r.params.kwarg.isNone&&(decide (r.params.args.map (·.arg)=vars.take fn.np)&&Nat.ble fn.np vars.length)))))&&(okS fn.body ⟨vars,r.scope.names,vars,glP,lam⟩).2 r.body)
theorem parOk_of {o:Option NameKind} (h:parOk o=true):o=some .local\/o=some .cell:=by
 cases o with
 | none=>exact ff_ h
 | some k=>exact (Bool.or_eq_true_iff.mp (show (k == .local||k == .cell)=true from h)).imp (fun h=>by rw [eq_of_beq h]) fun h=>by rw [eq_of_beq h]
theorem nil_of {α:Type} {l:List α} (h:l.isEmpty=true):l=[]:=by cases l with | nil=>rfl | cons _ _=>exact ff_ h
theorem none_of' {α:Type} {l:Option α} (h:l.isNone=true):l=none:=by cases l with | none=>rfl | some _=>exact ff_ h
theorem fnIs_of {T:Top} {lam:Option (Addr×Str)} {fn:Fn} {vars:List Str} {r:Rc} {a:Addr} {o:Obj} {fd:FuncData} (h:okRc lam fn vars r=true) (hem:(emS fn.body).2 r.body=r.body)
 (ho:T.h0.get? a=some o) (hd:o.data=.func fd) (hc:T.h0.CodeRec fd.code fd.qualname) (hp:fd.params=r.params) (hb:fd.body=.stmts r.body) (hs:fd.scope=r.scope) (hcl:fd.closure=[]) (hg:fd.globals=mainGlobals) (hbl:fd.builtins=builtinsNs) (hdf:fd.defaults=.none) (hkd:fd.kwdefaults=.none)
 (hl:∀ t q,lam=some (t,q)->(t,q)∈T.tabs/\(fd.qualname++(".<locals>." : Str))++("<lambda>" : Str)=q/\∃ c,fd.code=.ref c/\W.CodeHd T.h0 c t):FnIs T glP fn a fd r.body o vars lam:=by
 have h1:=A4 h
 have h2:=A4 (Ak h)
 have h3:=(EA fn.body).2 _ _ (Ak (Ak h))
 rw [hem] at h3
 have k4:=of_decide_eq_true (A4 (Ak (Ak (Ak h1))))
 have p5:=of_decide_eq_true (A4 (Ak (Ak (Ak (Ak h2)))))
 have p6:=Nat.le_of_ble_eq_true (Ak (Ak (Ak (Ak (Ak h2)))))
 refine ⟨ho,hd,hc,hb,hcl,hg,hbl,by rw [hs]; exact of_decide_eq_true (A4 h1),by rw [hs]; exact not_tt (A4 (Ak h1)),by rw [hs]; exact not_tt (A4 (Ak (Ak h1))),k4,fun vals hv=>?_,fun n hn=>?_,fun p hp' e=>?_,by rw [hs]; exact h3,hl⟩
 ·have e1:=nil_of (A4 h2)
  have e2:=none_of' (A4 (Ak h2))
  have e3:=nil_of (A4 (Ak (Ak h2)))
  have e4:=none_of' (A4 (Ak (Ak (Ak h2))))
  rcases hP:r.params with ⟨po,as,va,ko,kd,kw,df⟩
  rw [hP] at e1 e2 e3 e4 p5 hp
  have e1:po=[]:=e1
  have e2:va=none:=e2
  have e3:ko=[]:=e3
  have e4:kw=none:=e4
  have p5:as.map (·.arg)=vars.take fn.np:=p5
  subst e1 e2 e3 e4
  rw [<-p5]
  refine bind_plain hp hdf hkd ?_ ?_
  ·have e5:as.length=(as.map (·.arg)).length:=(List.length_map _).symm
   rw [hv,show as.length=fn.np by rw [e5,p5,List.length_take,Nat.min_eq_left p6]]
  ·rw [p5]; exact List.Nodup.sublist (List.take_sublist _ _) k4
 ·rw [hs]; exact parOk_of (List.all_eq_true.mp (A4 (Ak (Ak (Ak (Ak h1))))) n hn)
 ·rw [hs] at hp'
  have q:=List.all_eq_true.mp (Ak (Ak (Ak (Ak (Ak h1))))) p hp'
  rw [e] at q
  exact ff_ q
end Mine
namespace Mine
open PySem PySem.Calls
section
variable {T:Top} {g g':G} {σ τ σ':Ab} {s s':Shared} {v:V} {X:Value} {m n f:Nat} {d:PyData} {xs:List V} {r:Ar}
noncomputable def G.tuck (g:G) (m:Nat) (h:Heap):G:=⟨g.fz,fun a=>if a∈g.mu.drop m then h.get? a else g.hid a,g.mu.take m⟩
theorem tuck_up {h:Heap}:G.upTo m g (g.tuck m h):=⟨fun _ _ e=>e,fun _ _ hk e=>(List.getElem?_take_of_lt hk).trans e⟩
theorem tuck_out {h:Heap} {a:Addr} (q:a∉g.mu):(g.tuck m h).hid a=g.hid a:=if_neg fun p=>q (List.mem_of_mem_drop p)
theorem Has.tuck (H:Has T g (σ++τ) s) (hl:∀ (k:Nat) o,σ[k]? = some o->FO σ.length o):Has T (g.tuck σ.length s.heap) σ s:=by
 refine ⟨H.fz,fun a o e=>?_,?_,List.Nodup.sublist (List.take_sublist _ _) H.nd,fun a ha=>H.ap a (List.mem_of_mem_take ha),fun a o e=>?_,fun k a o e1 e2 R_ kk=>?_,H.base,fun t q ht R_ kk=>H.tb t q ht R_ fun ps h1 h2 h3 h4 h5 h6=>kk ps h1 ((tuck_out h3).trans h2) (fun q=>h3 (List.mem_of_mem_take q)) h4 h5 h6,H.gens,H.os⟩
 ·have e:(if a∈g.mu.drop σ.length then s.heap.get? a else g.hid a)=some o:=e
  by_cases q:a∈g.mu.drop σ.length
  ·rw [if_pos q] at e; exact e
  ·rw [if_neg q] at e; exact H.hd a o e
 ·show (g.mu.take σ.length).length=_
  rw [List.length_take,H.len,List.length_append]; exact Nat.min_eq_left (Nat.le_add_right _ _)
 ·have e:(if a∈g.mu.drop σ.length then s.heap.get? a else g.hid a)=some o:=e
  by_cases q:a∈g.mu.drop σ.length
  ·exact ⟨H.ap a (List.mem_of_mem_drop q),fun p=>EJ H.nd p q⟩
  ·rw [if_neg q] at e; exact ⟨(H.ah a o e).1,fun p=>(H.ah a o e).2 (List.mem_of_mem_take p)⟩
 ·have hk:k < σ.length:=(List.getElem?_eq_some_iff.mp e2).1
  have e1:(g.mu.take σ.length)[k]? = some a:=e1
  rw [List.getElem?_take_of_lt hk] at e1
  exact H.ob k a o e1 ((List.getElem?_append_left hk).trans e2) R_ fun x h1 h2=>kk x h1 (rep_toO tuck_up (hl k o e2) h2)
theorem Has.untuck (H:Has T g (σ++τ) s) (hl:σ'.length=σ.length) (le:G.le [] (g.tuck σ.length s.heap) g') (H':Has T g' σ' s'):Has T ⟨g'.fz,g.hid,g.mu⟩ (σ'++τ) s':=by
 have hm:g.mu.length=σ.length+τ.length:=H.len.trans List.length_append
 have up:G.up g ⟨g'.fz,g.hid,g.mu⟩:=⟨le.fz,fun _ _ e=>e⟩
 have hid:∀ a,g'.hid a=(g.tuck σ.length s.heap).hid a:=fun a=>le.hid a List.not_mem_nil
 have hd1:∀ {a o},g.hid a=some o->g'.hid a=some o:=fun {a o} e=>(hid a).trans ((tuck_out (H.ah a o e).2).trans e)
 have hd2:∀ {a o},a∈g.mu.drop σ.length->s.heap.get? a=some o->g'.hid a=some o:=fun {a o} q e=>(hid a).trans ((if_pos q).trans e)
 have mu1:∀ {k:Nat} {a},k < σ.length->g.mu[k]? = some a->g'.mu[k]? = some a:=fun {k a} hk e=>le.mu k a ((List.getElem?_take_of_lt hk).trans e)
 have up':G.up g' ⟨g'.fz,g.hid,g.mu⟩:=⟨fun _ _ e=>e,fun k a e=>by
  have hk:k < σ.length:=hl▸H'.len▸mu_lt e
  have e2:g.mu[k]? = some (g.mu[k]'(by rw [hm]; exact Nat.lt_add_right _ hk)):=List.getElem?_eq_getElem _
  rw [e2,Av (mu1 hk e2) e]⟩
 refine ⟨H'.fz,fun a o e=>H'.hd a o (hd1 e),hm.trans (by rw [List.length_append,hl]),H.nd,fun a ha=>?_,fun a o e=>⟨(H'.ah a o (hd1 e)).1,(H.ah a o e).2⟩,fun k a o e1 e2 R_ kk=>?_,H'.base,fun t q ht R_ kk=>H.tb t q ht R_ fun _ _ h2 h3 _ _ _=>H'.tb t q ht R_ fun ps h1 _ _ h4 h5 h6=>kk ps h1 h2 h3 h4 h5 h6,H'.gens,H'.os⟩
 ·obtain ⟨k,hk,e⟩:=List.mem_iff_getElem.mp ha
  have e:g.mu[k]? = some a:=by rw [List.getElem?_eq_getElem hk,e]
  by_cases q:k < σ.length
  ·exact H'.ap a (List.mem_of_getElem? (mu1 q e))
  ·obtain ⟨o,ho⟩:=H.muAlive ha
   exact (H'.ah a o (hd2 (List.mem_of_getElem? (i:=k-σ.length) (by rw [List.getElem?_drop,Nat.add_sub_cancel' (Nat.le_of_not_lt q)]; exact e)) ho)).1
 ·by_cases q:k < σ.length
  ·rw [List.getElem?_append_left (hl▸q)] at e2
   exact H'.ob k a o (mu1 q e1) e2 R_ fun x h1 h2=>kk x h1 (D0.mono up' _ _ h2)
  ·have q:=Nat.le_of_not_lt q
   rw [List.getElem?_append_right (hl▸q),hl] at e2
   refine H.ob k a o e1 ((List.getElem?_append_right q).trans e2) R_ fun x h1 h2=>kk x (H'.hd a x (hd2 ?_ h1)) (D0.mono up _ _ h2)
   exact List.mem_of_getElem? (i:=k-σ.length) (by rw [List.getElem?_drop,Nat.add_sub_cancel' q]; exact e1)
theorem FN.tail (hf:FN n f xs σ (.d d) σ') (hl:σ'.length=σ.length) (hx:∀ x,x∈xs->low σ.length x) (hw:∀ (k:Nat) o,σ[k]? = some o->FO σ.length o):FN n f xs (σ++τ) (.d d) (σ'++τ):=fun r g s a Xs h A R =>
 wpAny_mono (hf r (g.tuck σ.length s.heap) s a Xs h ⟨A.ok,A.frames,A.top,A.depth,A.units,A.hh,A.has.tuck hw⟩ (Au.imp (fun v X hv rx=>rep_to tuck_up (hx v hv) rx) R)) (fun X s' p=>p _ fun g' le H' rX =>
  .mk ⟨g'.fz,g.hid,g.mu⟩ ⟨⟨le.fz,fun _ _ e=>e⟩,fun _ _=>rfl⟩ (A.has.untuck hl le H') rX) fun _ _ h=>h
theorem FN.any (hf:FN n f xs [] (.d d) []) (hx:∀ x,x∈xs->low 0 x):FN n f xs σ (.d d) σ:=FN.tail (σ:=[]) (σ':=[]) hf rfl hx fun k o e=>Ac e
theorem FN.more {k:Nat} (hf:FN n f xs σ v σ') (h:n<=k):FN k f xs σ v σ':=fun r g s a Xs hf' A R=>hf r g s a Xs hf' (A.less h) R
end
end Mine
namespace Mine
open PySem
noncomputable def BQ (v:V):Option Int:=match v with | .d x=>(match x with | .int i=>some i | _=>none) | _=>none
noncomputable def BC (v:V):Option Str:=match v with | .d x=>(match x with | .str s=>some s | _=>none) | _=>none
noncomputable def D9 (v:V):Option Bool:=match v with | .d x=>(match x with | .bool s=>some s | _=>none) | _=>none
noncomputable def pairD (xs:List PyData):Option (Str×Int) :=
 match xs with
 | x::y::r=>(match x with | .str a=>(match y with | .int b=>(match r with | []=>some (a,b) | _=>none) | _=>none) | _=>none)
 | _=>none
noncomputable def Ha (v:V):Option (Str×Int):=match v with | .d x=>(match x with | .tuple xs=>pairD xs | _=>none) | _=>none
noncomputable def BY {α:Type} (f:V->Option α):List V->Option (List α)
 | []=>some []
 | v::r=>(f v).bind fun x=>(BY f r).bind fun xs=>some (x::xs)
noncomputable def mkL (ws:List V):Option V:=if ws.length<=line then (Di ws).bind fun xs=>some (.d (.list xs)) else none
noncomputable def DG (σ:Ab) (v:V):Option Bool :=
 match v with
 | .d x=>(match x with | .none=>some false | .bool b=>some b | .int i=>some (i != 0) | .str s=>some (s.cps.size != 0) | .list xs=>some (!xs.isEmpty) | .tuple xs=>some (!xs.isEmpty) | _=>none)
 | .ref k=>(Cr σ[k]?).bind fun ws=>some (!ws.isEmpty)
 | _=>none
noncomputable def catL (op:Operator) (x y:V) (σ:Ab):Option (List V) :=
 match op with
 | .Add=>(Ax σ x).bind fun ws=>(Ax σ y).bind fun us=>if ws.length+us.length<=line then some (ws++us) else none
 | _=>none
noncomputable def addV (x y:V) (σ:Ab):Option V :=
 match BQ x with
 | some i=>(BQ y).bind fun j=>some (vi (i+j))
 | none=>(match BC x with
  | some a=>(BC y).bind fun b=>if a.length+b.length<=line then some (.d (.str (a++b))) else none
  | none=>(catL .Add x y σ).bind mkL)
noncomputable def arith (f:Int->Int->Option Int) (x y:V):Option V:=(BQ x).bind fun i=>(BQ y).bind fun j=>(f i j).bind fun k=>some (vi k)
noncomputable def Ft (op:Operator) (x y:V) (σ:Ab):Option V :=
 match op with
 | .Add=>addV x y σ
 | .Sub=>arith (fun i j=>some (i-j)) x y
 | .Mult=>arith (fun i j=>if (small i||small j)=true then some (i * j) else none) x y
 | .FloorDiv=>arith (fun i j=>if j=0 then none else some (i.fdiv j)) x y
 | .Mod=>arith (fun i j=>if j=0 then none else some (i.fmod j)) x y
 | _=>none
noncomputable def notO (o:Option Bool):Option Bool:=o.bind fun b=>some (!b)
noncomputable def eqV (σ:Ab) (x y:V):Option Bool:=(snap σ x).bind fun d=>(snap σ y).bind fun d'=>eqN AC d d'
noncomputable def isNo (x:V):Option Bool:=match x with | .d u=>(match u with | .none=>some true | _=>none) | _=>none
noncomputable def isV (x y:V):Option Bool:=match y with | .d z=>(match z with | .none=>bif EW x then some false else isNo x | _=>none) | _=>none
noncomputable def inSeq (σ:Ab) (x y:V):Option Bool:=(snap σ x).bind fun d=>(snap σ y).bind fun e=>(match e with | .list ds=>inD d ds | .tuple ds=>inD d ds | _=>none)
noncomputable def inO (σ:Ab) (x:V) (k:Nat) (o:Option O):Option Bool :=
 match o with
 | some o=>(match o with
  | .list _=>inSeq σ x (.ref k)
  | .dictS kvs=>(BC x).bind fun z=>some (Ao kvs z).isSome
  | .dictP kvs=>(Ha x).bind fun q=>some (Ao kvs q).isSome)
 | none=>none
noncomputable def inV (σ:Ab) (x y:V):Option Bool :=
 match y with
 | .ref k=>inO σ x k σ[k]?
 | y=>(match BC y with | some w=>(BC x).bind fun u=>some (Txt.contains w u) | none=>inSeq σ x y)
noncomputable def cmpI (f:Int->Int->Bool) (x y:V):Option Bool:=(BQ x).bind fun i=>(BQ y).bind fun j=>some (f i j)
noncomputable def geV (x y:V):Option Bool:=match BC x with | some a=>(BC y).bind fun b=>some (!AX a b) | none=>cmpI (fun i j=>decide (i ≥ j)) x y
noncomputable def BB (op:CmpOp) (x y:V) (σ:Ab):Option Bool :=
 match op with
 | .Eq=>eqV σ x y
 | .NotEq=>notO (eqV σ x y)
 | .Lt=>cmpI (fun i j=>decide (i < j)) x y
 | .LtE=>cmpI (fun i j=>decide (i<=j)) x y
 | .Gt=>cmpI (fun i j=>decide (i > j)) x y
 | .GtE=>geV x y
 | .Is=>isV x y
 | .IsNot=>notO (isV x y)
 | .In=>inV σ x y
 | .NotIn=>notO (inV σ x y)
noncomputable def nth (ws:List V) (k:Int):Option V:=if small k=true then (seqIndex? k ws.length).bind fun j=>ws[j]? else none
noncomputable def subO (σ:Ab) (y:V) (o:Option O):Option V :=
 match o with
 | some o=>(match o with
  | .list ws=>(BQ y).bind (nth ws)
  | .dictS kvs=>(BC y).bind fun z=>(Ao kvs z).bind fun d=>some (.d d)
  | .dictP kvs=>(Ha y).bind fun q=>(Ao kvs q).bind fun d=>some (.d d))
 | none=>none
noncomputable def Bk (x y:V) (σ:Ab):Option V :=
 match x with
 | .ref k=>subO σ y σ[k]?
 | x=>(match BC x with
  | some z=>(BQ y).bind fun k=>if small k=true then (Txt.charAt z k).bind fun c=>some (.d (.str (chr1 c))) else none
  | none=>(match BL x with
   | some ws=>(BQ y).bind (nth ws)
   | none=>(Ax σ x).bind fun ws=>(BQ y).bind (nth ws)))
noncomputable def cutL (σ:Ab) (x:V) (lo hi:Option Int):Option (List V):=(Ax σ x).bind fun ws=>some (Ct lo hi ws)
noncomputable def slice (σ:Ab) (x:V) (lo hi:Option Int):Option V :=
 match BC x with
 | some z=>some (.d (.str (cutS lo hi z)))
 | none=>(cutL σ x lo hi).bind mkL
noncomputable def Dr (x:Str):List Str->List Str
 | []=>[x]
 | y::r=>if AX x y then x::y::r else y::Dr x r
noncomputable def CL:List Str->List Str
 | []=>[]
 | x::r=>Dr x (CL r)
noncomputable def keysO (o:Option O):Option (List V) :=
 match o with
 | some o=>(match o with
  | .list ws=>some ws
  | .dictS kvs=>if kvs.all (fun p=>decide (p.1.length<=line))=true then some (vss (kvs.map (·.1))) else none
  | .dictP _=>none)
 | none=>none
noncomputable def toList (σ:Ab) (x:V):Option (List V):=match x with | .ref k=>keysO σ[k]? | x=>Ax σ x
noncomputable def bmake1 (b:Bi) (σ:Ab) (x:V):Option (List V) :=
 match b with
 | .list=>toList σ x
 | .sorted=>(Ax σ x).bind fun ws=>(BY BC ws).bind fun ss=>if ss.length < 64 then some (vss (CL ss)) else none
 | _=>none
noncomputable def bmake (b:Bi) (σ:Ab) (xs:List V):Option (List V):=match xs with | x::r=>(match r with | []=>bmake1 b σ x | _=>none) | []=>none
noncomputable def lenV (σ:Ab) (x:V):Option V :=
 match BC x with
 | some z=>some (vi z.cps.size)
 | none=>(match BL x with
  | some ws=>some (vi ws.length)
  | none=>(Ax σ x).bind fun ws=>some (vi ws.length))
noncomputable def bcall1 (b:Bi) (σ:Ab) (x:V):Option V :=
 match b with
 | .len=>lenV σ x
 | .str=>(BQ x).bind fun i=>if i.natAbs < 1000000000000 then some (.d (.str (strOf i))) else none
 | .all=>(Ax σ x).bind fun ws=>(BY D9 ws).bind fun bs=>some (vb (bs.all id))
 | .any=>(Ax σ x).bind fun ws=>(BY D9 ws).bind fun bs=>some (vb (bs.any id))
 | .ord=>(BC x).bind fun z=>(match z.cps.toList with | c::r=>(match r with | []=>some (vi c) | _=>none) | []=>none)
 | b=>(bmake1 b σ x).bind mkL
noncomputable def isiV (σ:Ab) (x:V) (t:String):Option Bool :=
 (tyOf σ x).bind fun u=>if u=t then (if t = "tuple"\/t = "list"\/t = "str"\/t = "int" then some true else none) else if u = "int"/\t = "bool" then some false else none
noncomputable def bcall2 (b:Bi) (σ:Ab) (x y:V):Option V :=
 match b with
 | .min=>arith (fun i j=>some (if j < i then j else i)) x y
 | .isinstance=>(match y with | .ty t=>(isiV σ x t).bind fun b=>some (vb b) | _=>none)
 | _=>none
noncomputable def Bx (b:Bi) (σ:Ab) (xs:List V):Option V :=
 match xs with
 | []=>none
 | x::r=>(match r with | []=>bcall1 b σ x | y::r=>(match r with | []=>bcall2 b σ x y | _=>none))
noncomputable def wOf (v:V):Option (PyData ⊕ Nat):=match v with | .d x=>some (.inl x) | .ref k=>some (.inr k) | _=>none
noncomputable def tupV (ws:List V):Option V :=
 if ws.length<=line then (match Di ws with
  | some ds=>some (.d (.tuple ds))
  | none=>(BY wOf ws).bind fun us=>some (.tup us)) else none
noncomputable def attNo:List Str->List Nat->Str->Option Nat
 | a::as,k::ks,nm=>if a == nm then some k else attNo as ks nm
 | _,_,_=>none
noncomputable def attV (nm:Str) (v:V):Option V:=match v with | .obj ks=>(attNo Cu ks nm).bind fun k=>some (.ref k) | _=>none
noncomputable def objV (v:V):Option (List Nat):=match v with | .obj ks=>some ks | _=>none
noncomputable def joinV (σ:Ab) (x:V) (ys:List V):Option V :=
 match ys with
 | y::r=>(match r with
  | []=>(BC x).bind fun z=>(Ax σ y).bind fun ws=>(BY BC ws).bind fun ss=>if JoinOk z ss=true then some (.d (.str (Txt.join z ss))) else none
  | _=>none)
 | []=>none
noncomputable def indexV (σ:Ab) (x:V) (ys:List V):Option V :=
 match ys with
 | y::r=>(match r with
  | []=>(match x with | .ref k=>(Cr σ[k]?).bind fun ws=>(Di ws).bind fun ds=>(isDV y).bind fun d=>(inD d ds).bind fun _=>(Fi d ds).bind fun j=>some (vi j) | _=>none)
  | _=>none)
 | []=>none
noncomputable def dgetO (o:Option O) (y z:V):Option V:=match o with | some o=>(match o with | .dictP kvs=>(Ha y).bind fun q=>some (dfl (Ao kvs q) z) | _=>none) | none=>none
noncomputable def dgetV (σ:Ab) (x:V) (ys:List V):Option V:=match ys with | y::r=>(match r with | z::r=>(match r with | []=>(match x with | .ref k=>dgetO σ[k]? y z | _=>none) | _=>none) | []=>none) | []=>none
noncomputable def methV (m:Meth) (σ:Ab) (x:V) (ys:List V):Option V:=match m with | .join=>joinV σ x ys | .index=>indexV σ x ys | .get=>dgetV σ x ys | _=>none
noncomputable def D8 (f:V->Option (Option V)):List V->Option (List V)
 | []=>some []
 | v::r=>(f v).bind fun x=>(D8 f r).bind fun xs=>some (match x with | some y=>y::xs | none=>xs)
noncomputable def bindB (ts:List Nat) (v:V):Bool:=Nat.beq ts.length 1||(match BL v with | some vs=>Nat.beq vs.length ts.length | none=>false)
noncomputable abbrev Its:=List V×List (Nat×List V)
noncomputable def Dq (σ:Ab) (v:V):Option Its:=match BC v with | some z=>if z.cps.all (· < 128)=true then some (E4 z.cps.toList,[]) else none | none=>(Ax σ v).bind fun ws=>some (ws,CA v ws)
noncomputable def range1 (xs:List V):Option Its:=match xs with | x::r=>(match r with | []=>(BQ x).bind fun k=>if k<=1000000/\-1000000<=k then some (upV 0 k.toNat,[]) else none | _=>none) | []=>none
noncomputable def listD (σ:Ab) (v:V):Option (List PyData):=(Ax σ v).bind Di
noncomputable def BU (e:E):Bool:=match e with | .var _=>true | .cst _=>true | .sub _ _=>true | .attr _ _=>true | _=>false
noncomputable def isVarE (e:E):Bool:=match e with | .var _=>true | _=>false
noncomputable def B7 (ρ:Af) (i:Nat):Option V:=match ρ[i]? with | some o=>o | none=>none
noncomputable abbrev Orc:=Nat->List V->Ab->Option V
structure Ev where
 v:Af->Ab->Option V
 nl:Af->Ab->Option (List V)
 row:Af->Ab->Option (List V)
 it:Af->Ab->Option Its
 t:Af->Ab->Option Bool
 bo:BoolOp->Af->Ab->Option V
 bt:BoolOp->Af->Ab->Option Bool
 ts:Af->Ab->Option Bool
noncomputable def Ev.no:Ev:=⟨fun _ _=>none,fun _ _=>none,fun _ _=>none,fun _ _=>none,fun _ _=>none,fun _ _ _=>none,fun _ _ _=>none,fun _ _=>none⟩
noncomputable def Ev.plain (f:Af->Ab->Option V):Ev:={ Ev.no with v:=f,it:=fun ρ σ=>(f ρ σ).bind (Dq σ),t:=fun ρ σ=>(f ρ σ).bind (DG σ) }
noncomputable def Ev.made (f:Af->Ab->Option V) (g:Af->Ab->Option (List V)):Ev:={ Ev.plain f with nl:=fun ρ σ=>(g ρ σ).bind fun ws=>if ws.length<=line then some ws else none }
noncomputable def optI (e:E) (f:Af->Ab->Option V) (ρ:Af) (σ:Ab):Option (Option Int):=if B2 e=true then some none else (f ρ σ).bind fun v=>(BQ v).bind fun i=>some (some i)
noncomputable def ev (O:Orc):E->Ev
 | .cst x=>.plain fun _ _=>some (.d x)
 | .var i=>.plain fun ρ _=>B7 ρ i
 | .ty t=>.plain fun _ _=>some (.ty t)
 | .glb x=>.plain fun _ _=>some (.d x)
 | .bin op a b=>.made (fun ρ σ=>((ev O a).v ρ σ).bind fun x=>((ev O b).v ρ σ).bind fun y=>Ft op x y σ) fun ρ σ=>((ev O a).v ρ σ).bind fun x=>((ev O b).v ρ σ).bind fun y=>catL op x y σ
 | .neg a=>.plain fun ρ σ=>((ev O a).v ρ σ).bind fun x=>(BQ x).bind fun i=>some (vi (-i))
 | .not a=>{ Ev.no with v:=fun ρ σ=>((ev O a).v ρ σ).bind fun x=>(DG σ x).bind fun t=>some (vb !t),t:=fun ρ σ=>notO ((ev O a).t ρ σ) }
 | .bop op es=>{ Ev.no with v:=(ev O es).bo op,t:=(ev O es).bt op }
 | .cmp op a b=>{ Ev.no with v:=fun ρ σ=>((ev O a).v ρ σ).bind fun x=>((ev O b).v ρ σ).bind fun y=>(BB op x y σ).bind fun t=>some (vb t),t:=fun ρ σ=>((ev O a).v ρ σ).bind fun x=>((ev O b).v ρ σ).bind fun y=>BB op x y σ }
 | .nil=>{ Ev.no with row:=fun _ _=>some [],bt:=fun op _ _=>some (!Cp op),ts:=fun _ _=>some true }
 | .cons a r=>{ Ev.no with
  row:=fun ρ σ=>((ev O a).v ρ σ).bind fun x=>((ev O r).row ρ σ).bind fun xs=>some (x::xs)
  bo:=fun op ρ σ=>bif B2 r then (ev O a).v ρ σ else ((ev O a).v ρ σ).bind fun x=>(DG σ x).bind fun t=>bif t == Cp op then some x else (ev O r).bo op ρ σ
  bt:=fun op ρ σ=>((ev O a).t ρ σ).bind fun t=>bif t == Cp op then some t else (ev O r).bt op ρ σ
  ts:=fun ρ σ=>((ev O a).t ρ σ).bind fun t=>bif t then (ev O r).ts ρ σ else some false }
 | .tup es=>.plain fun ρ σ=>((ev O es).row ρ σ).bind tupV
 | .lst es=>.made (fun ρ σ=>((ev O es).row ρ σ).bind mkL) fun ρ σ=>(ev O es).row ρ σ
 | .sub a i=>.plain fun ρ σ=>((ev O a).v ρ σ).bind fun x=>((ev O i).v ρ σ).bind fun y=>Bk x y σ
 | .slc a lo hi=>.made (fun ρ σ=>((ev O a).v ρ σ).bind fun x=>(optI lo (ev O lo).v ρ σ).bind fun l=>(optI hi (ev O hi).v ρ σ).bind fun h=>slice σ x l h) fun ρ σ=>((ev O a).v ρ σ).bind fun x=>(optI lo (ev O lo).v ρ σ).bind fun l=>(optI hi (ev O hi).v ρ σ).bind fun h=>cutL σ x l h
 | .bi b es=>.made (fun ρ σ=>((ev O es).row ρ σ).bind (Bx b σ)) fun ρ σ=>((ev O es).row ρ σ).bind (bmake b σ)
 | .maxd a z=>.plain fun ρ σ=>((ev O a).v ρ σ).bind fun x=>((ev O z).v ρ σ).bind fun y=>(BQ y).bind fun k=>(Ax σ x).bind fun ws=>(BY BQ ws).bind fun is=>some (vi (D6 k is))
 | .fcall f es=>.plain fun ρ σ=>((ev O es).row ρ σ).bind fun xs=>O f xs σ
 | .meth m o es=>.plain fun ρ σ=>bif BU o then ((ev O o).v ρ σ).bind fun x=>((ev O es).row ρ σ).bind fun ys=>methV m σ x ys else none
 | .attr nm o=>.plain fun ρ σ=>bif isVarE o then ((ev O o).v ρ σ).bind (attV nm) else none
 | .mcall nm o es=>.plain fun ρ σ=>bif BU o then ((ev O o).v ρ σ).bind fun x=>((ev O es).row ρ σ).bind fun ys=>(objV x).bind fun ks=>(mtP nm).bind fun f=>O f (.obj ks::ys) σ else none
 | .comp elt ts it ifs=>.made (fun ρ σ=>(((ev O it).it ρ σ).bind fun p=>D8 (fun v=>bif bindB ts v then ((ev O ifs).ts (Cb (AT ρ ts) ts v) σ).bind fun t=>bif t then ((ev O elt).v (Cb (AT ρ ts) ts v) σ).bind (fun u=>some (some u)) else some none else none) p.1).bind mkL)
  fun ρ σ=>((ev O it).it ρ σ).bind fun p=>D8 (fun v=>bif bindB ts v then ((ev O ifs).ts (Cb (AT ρ ts) ts v) σ).bind fun t=>bif t then ((ev O elt).v (Cb (AT ρ ts) ts v) σ).bind (fun u=>some (some u)) else some none else none) p.1
 | .range es=>{ Ev.no with it:=fun ρ σ=>((ev O es).row ρ σ).bind range1 }
 | .zip a b=>{ Ev.no with it:=fun ρ σ=>((ev O a).v ρ σ).bind fun x=>((ev O b).v ρ σ).bind fun y=>(Ax σ x).bind fun ds=>(Ax σ y).bind fun ds'=>some (E0 ds ds',CA x ds++CA y ds') }
 | .enum a=>{ Ev.no with it:=fun ρ σ=>((ev O a).v ρ σ).bind fun x=>(listD σ x).bind fun ds=>some (Go 0 ds,CA x (ds.map .d)) }
 | _=>Ev.no
end Mine
namespace Mine
open PySem
section
variable {σ:Ab} {v x y:V} {ws us:List V} {b:Bool} {i:Int} {z:Str} {lo hi:Option Int}
theorem Bh (h:BQ v=some i):v=vi i:=by
 cases v with
 | d x=>cases x with
  | int j=>rw [Option.some.inj h]
  | _=>exact Ac h
 | _=>exact Ac h
theorem Bn (h:BC v=some z):v=.d (.str z):=by
 cases v with
 | d x=>cases x with
  | str j=>rw [Option.some.inj h]
  | _=>exact Ac h
 | _=>exact Ac h
theorem boolV_eq (h:D9 v=some b):v=vb b:=by
 cases v with
 | d x=>cases x with
  | bool j=>rw [Option.some.inj h]
  | _=>exact Ac h
 | _=>exact Ac h
theorem pairD_eq {xs:List PyData} {q:Str×Int} (h:pairD xs=some q):xs=[.str q.1,.int q.2]:=by
 match xs,h with
 | [],h=>exact Ac h
 | [_],h=>exact Ac h
 | x::y::r,h=>cases x with
  | str a=>cases y with
   | int b=>cases r with
    | nil=>rw [<-Option.some.inj h]
    | cons _ _=>exact Ac h
   | _=>exact Ac h
  | _=>exact Ac h
theorem DP {q:Str×Int} (h:Ha v=some q):v=vp q:=by
 cases v with
 | d x=>cases x with
  | tuple j=>rw [pairD_eq (show pairD j=some q from h)]
  | _=>exact Ac h
 | _=>exact Ac h
theorem Dp {α:Type} {f:V->Option α} {g:α->V} (hf:∀ v x,f v=some x->v=g x):∀ {ws:List V} {xs:List α},BY f ws=some xs->ws=xs.map g
 | [],_,h=>by rw [<-Option.some.inj h]; rfl
 | v::r,xs,h=>by
  obtain ⟨x,e,h⟩:=Aa h
  obtain ⟨ys,e',h⟩:=Aa h
  rw [<-Option.some.inj h,hf v x e,Dp hf e']; rfl
theorem mkL_some (h:mkL ws=some v):∃ ds,ws=ds.map .d/\ws.length<=line/\v=.d (.list ds):=by
 unfold mkL at h
 by_cases q:ws.length<=line
 ·rw [if_pos q] at h
  obtain ⟨ds,e,h⟩:=Aa h
  exact ⟨ds,F0 e,q,(Option.some.inj h).symm⟩
 ·rw [if_neg q] at h; exact Ac h
theorem tr_cast {b':Bool} (h:Tr σ v b) (e:b=b'):Tr σ v b':=e▸h
theorem FL {α β:Type} {f:α->β} (l:List α):(!(l.map f).isEmpty) = !l.isEmpty:=by cases l <;> rfl
theorem EH (h:DG σ v=some b):Tr σ v b:=by
 cases v with
 | d x=>cases x with
  | none=>exact Option.some.inj h▸tr_none
  | bool b=>exact Option.some.inj h▸tr_bool
  | int i=>exact Option.some.inj h▸tr_int
  | str s=>exact Option.some.inj h▸tr_str
  | list xs=>exact tr_cast (tr_list (v:=.d (.list xs)) rfl) ((FL xs).trans (Option.some.inj h))
  | tuple xs=>exact tr_cast (tr_tup (v:=.d (.tuple xs)) rfl) ((FL xs).trans (Option.some.inj h))
  | _=>exact Ac h
 | ref k =>
  obtain ⟨ws,e,h⟩:=Aa h
  exact tr_cast (tr_list (v:=.ref k) e) (Option.some.inj h)
 | _=>exact Ac h
theorem catL_ok {op:Operator} (h:catL op x y σ=some ws):PrN2 (binaryOp op) x y σ ws:=by
 cases op with
 | Add =>
  obtain ⟨us,e,h⟩:=Aa h
  obtain ⟨us',e',h⟩:=Aa h
  obtain ⟨q,h⟩:=AS h
  exact h▸p_catL e e' q
 | _=>exact Ac h
theorem Ed {f:Int->Int->Option Int} {m:Value->Value->Sem Value} (hf:∀ i j k,f i j=some k->Pr2 m (vi i) (vi j) σ (vi k) σ) (h:arith f x y=some v):Pr2 m x y σ v σ:=by
 obtain ⟨i,e,h⟩:=Aa h
 obtain ⟨j,e',h⟩:=Aa h
 obtain ⟨k,e2,h⟩:=Aa h
 rw [Bh e,Bh e',<-Option.some.inj h]
 exact hf i j k e2
theorem Fh {α:Type} {c:Prop} [Decidable c] {a b:α} (h:(if c then none else some a)=some b):¬ c/\a=b:=by
 by_cases hc:c
 ·rw [if_pos hc] at h; exact Ac h
 ·rw [if_neg hc] at h; exact ⟨hc,Option.some.inj h⟩
theorem binop_ok {op:Operator} (h:Ft op x y σ=some v):Pr2 (binaryOp op) x y σ v σ\/∃ ws,catL op x y σ=some ws/\mkL ws=some v:=by
 cases op with
 | Add =>
  have h:addV x y σ=some v:=h
  unfold addV at h
  cases e:BQ x with
  | some i =>
   rw [e] at h
   obtain ⟨j,e',h⟩:=Aa h
   rw [Bh e,Bh e',<-Option.some.inj h]; exact .inl p_add
  | none =>
   rw [e] at h
   cases e':BC x with
   | some a =>
    rw [e'] at h
    obtain ⟨b,e2,h⟩:=Aa h
    obtain ⟨q,h⟩:=AS h
    rw [Bn e',Bn e2,<-h]; exact .inl (p_cat q)
   | none=>rw [e'] at h; exact .inr (Aa h)
 | Sub=>exact .inl (Ed (fun i j k e=>Option.some.inj e▸p_sub) h)
 | Mult=>exact .inl (Ed (f:=fun i j=>if (small i||small j)=true then some (i * j) else none) (fun i j k e=>(AS e).2▸p_mul (AS e).1) h)
 | FloorDiv=>exact .inl (Ed (f:=fun i j=>if j=0 then none else some (i.fdiv j)) (fun i j k e=>(Fh e).2▸p_div (Fh e).1) h)
 | Mod=>exact .inl (Ed (f:=fun i j=>if j=0 then none else some (i.fmod j)) (fun i j k e=>(Fh e).2▸p_mod (Fh e).1) h)
 | _=>exact Ac h
theorem GA {o:Option Bool} (h:notO o=some b):∃ c,o=some c/\b = !c:=by
 obtain ⟨c,e,h⟩:=Aa h
 exact ⟨c,e,(Option.some.inj h).symm⟩
theorem eqV_ok (h:eqV σ x y=some b):Pr2 (compareOp .Eq) x y σ (vb b) σ/\Pr2 (compareOp .NotEq) x y σ (vb !b) σ:=by
 obtain ⟨d,e,h⟩:=Aa h
 obtain ⟨d',e',h⟩:=Aa h
 exact ⟨p_eq e e' h,p_ne e e' h⟩
theorem isV_ok (h:isV x y=some b):Pr2 (compareOp .Is) x y σ (vb b) σ/\Pr2 (compareOp .IsNot) x y σ (vb !b) σ:=by
 cases y with
 | d z=>cases z with
  | none =>
   have h:(bif EW x then some false else isNo x)=some b:=h
   cases q:EW x with
   | true=>rw [q] at h; rw [<-Option.some.inj h]; exact p_isN q
   | false =>
    rw [q] at h
    cases x with
    | d u=>cases u with
     | none=>rw [<-Option.some.inj h]; exact p_is
     | _=>exact Ac h
    | _=>exact Ac h
  | _=>exact Ac h
 | _=>exact Ac h
theorem inSeq_ok (h:inSeq σ x y=some b):Pr2 (compareOp .In) x y σ (vb b) σ/\Pr2 (compareOp .NotIn) x y σ (vb !b) σ:=by
 obtain ⟨d,e,h⟩:=Aa h
 obtain ⟨d',e',h⟩:=Aa h
 cases d' with
 | list ds=>exact in_seq e (.inl e') h
 | tuple ds=>exact in_seq e (.inr e') h
 | _=>exact Ac h
theorem inT_ok (h:(match BC y with | some w=>(BC x).bind fun u=>some (Txt.contains w u) | none=>inSeq σ x y)=some b):Pr2 (compareOp .In) x y σ (vb b) σ/\Pr2 (compareOp .NotIn) x y σ (vb !b) σ:=by
 cases e:BC y with
 | some w =>
  rw [e] at h
  obtain ⟨u,e',h⟩:=Aa h
  rw [Bn e,Bn e',<-Option.some.inj h]; exact p_inT
 | none=>rw [e] at h; exact inSeq_ok h
theorem inV_ok (h:inV σ x y=some b):Pr2 (compareOp .In) x y σ (vb b) σ/\Pr2 (compareOp .NotIn) x y σ (vb !b) σ:=by
 cases y with
 | ref k =>
  have h:inO σ x k σ[k]? = some b:=h
  cases e:σ[k]? with
  | none=>rw [e] at h; exact Ac h
  | some o =>
   rw [e] at h
   cases o with
   | list ws=>exact inSeq_ok h
   | dictS kvs=>obtain ⟨u,e',h⟩:=Aa h; rw [Bn e',<-Option.some.inj h]; exact p_inS e
   | dictP kvs=>obtain ⟨u,e',h⟩:=Aa h; rw [DP e',<-Option.some.inj h]; exact p_inP e
 | d z=>exact inT_ok h
 | tup z=>exact inT_ok h
 | pr _ _=>exact inT_ok h
 | ty z=>exact inT_ok h
 | obj z=>exact inT_ok h
theorem GF {f:Int->Int->Bool} {m:Value->Value->Sem Value} (hf:∀ i j,Pr2 m (vi i) (vi j) σ (vb (f i j)) σ) (h:cmpI f x y=some b):Pr2 m x y σ (vb b) σ:=by
 obtain ⟨i,e,h⟩:=Aa h
 obtain ⟨j,e',h⟩:=Aa h
 rw [Bh e,Bh e',<-Option.some.inj h]
 exact hf i j
theorem cmpop_ok {op:CmpOp} (h:BB op x y σ=some b):Pr2 (compareOp op) x y σ (vb b) σ:=by
 cases op with
 | Eq=>exact (eqV_ok h).1
 | NotEq=>obtain ⟨c,e,rfl⟩:=GA h; exact (eqV_ok e).2
 | Lt=>exact GF (fun _ _=>p_lt) h
 | LtE=>exact GF (fun _ _=>p_le) h
 | Gt=>exact GF (fun _ _=>p_gt) h
 | GtE =>
  have h:geV x y=some b:=h
  unfold geV at h
  cases e:BC x with
  | some a =>
   rw [e] at h
   obtain ⟨b',e2,h⟩:=Aa h
   rw [Bn e,Bn e2,<-Option.some.inj h]; exact p_geS
  | none=>rw [e] at h; exact GF (fun _ _=>p_ge) h
 | Is=>exact (isV_ok h).1
 | IsNot=>obtain ⟨c,e,rfl⟩:=GA h; exact (isV_ok e).2
 | In=>exact (inV_ok h).1
 | NotIn=>obtain ⟨c,e,rfl⟩:=GA h; exact (inV_ok e).2
theorem nth_some {k:Int} (h:nth ws k=some v):small k=true/\∃ j,seqIndex? k ws.length=some j/\ws[j]? = some v:=by
 unfold nth at h
 by_cases q:small k=true
 ·rw [if_pos q] at h; exact ⟨q,Aa h⟩
 ·rw [if_neg q] at h; exact Ac h
theorem nthL_ok (e:Ax σ x=some ws) (h:(BQ y).bind (nth ws)=some v):PrG x y σ v:=by
 obtain ⟨k,e',h⟩:=Aa h
 obtain ⟨q,j,h1,h2⟩:=nth_some h
 rw [Bh e']; exact g_list e q h1 h2
theorem EL (h:(match BC x with
 | some z=>(BQ y).bind fun k=>if small k=true then (Txt.charAt z k).bind fun c=>some (.d (.str (chr1 c))) else none
 | none=>(match BL x with
  | some ws=>(BQ y).bind (nth ws)
  | none=>(Ax σ x).bind fun ws=>(BQ y).bind (nth ws)))=some v):PrG x y σ v:=by
 cases e:BC x with
 | some z =>
  rw [e] at h
  obtain ⟨k,e',h⟩:=Aa h
  by_cases q:small k=true
  ·rw [if_pos q] at h
   obtain ⟨c,e2,h⟩:=Aa h
   rw [Bn e,Bh e',<-Option.some.inj h]; exact g_str q e2
  ·rw [if_neg q] at h; exact Ac h
 | none =>
  rw [e] at h
  cases e2:BL x with
  | some ws =>
   rw [e2] at h
   obtain ⟨k,e',h⟩:=Aa h
   obtain ⟨q,j,h1,h2⟩:=nth_some h
   rw [Bh e']; exact g_tup e2 q h1 h2
  | none=>rw [e2] at h; obtain ⟨ws,e3,h⟩:=Aa h; exact nthL_ok e3 h
theorem F9 (h:Bk x y σ=some v):PrG x y σ v:=by
 cases x with
 | ref k =>
  have h:subO σ y σ[k]? = some v:=h
  cases e:σ[k]? with
  | none=>rw [e] at h; exact Ac h
  | some o =>
   rw [e] at h
   cases o with
   | list ws=>exact nthL_ok (x:=.ref k) (by show Cr σ[k]? = _; rw [e]; rfl) h
   | dictS kvs =>
    obtain ⟨u,e',h⟩:=Aa h
    obtain ⟨d,e2,h⟩:=Aa h
    rw [Bn e',<-Option.some.inj h]; exact g_dictS e e2
   | dictP kvs =>
    obtain ⟨u,e',h⟩:=Aa h
    obtain ⟨d,e2,h⟩:=Aa h
    rw [DP e',<-Option.some.inj h]; exact g_dictP e e2
 | d z=>exact EL h
 | tup z=>exact EL h
 | pr _ _=>exact EL h
 | ty z=>exact EL h
 | obj z=>exact EL h
theorem cutL_ok (h:cutL σ x lo hi=some ws):PrC x σ lo hi fun r g=>By r g σ ws:=by
 obtain ⟨us,e,h⟩:=Aa h
 exact Option.some.inj h▸c_list e
theorem slice_ok (h:slice σ x lo hi=some v):(PrC x σ lo hi fun r g=>Ans r g v σ)\/∃ ws,cutL σ x lo hi=some ws/\mkL ws=some v:=by
 unfold slice at h
 cases e:BC x with
 | some z=>rw [e] at h; rw [Bn e,<-Option.some.inj h]; exact .inl c_str
 | none=>rw [e] at h; exact .inr (Aa h)
theorem DW (x:Str):∀ l:List Str,(Dr x l).Perm (x::l)
 | []=>.refl _
 | y::r=>by
  show (if AX x y=true then x::y::r else y::Dr x r).Perm _
  by_cases q:AX x y=true
  ·rw [if_pos q]
  ·rw [if_neg q]; exact (List.Perm.cons y (DW x r)).trans (.swap ..)
theorem EP:∀ l:List Str,(CL l).Perm l
 | []=>.refl _
 | x::r=>(DW x _).trans (.cons x (EP r))
theorem ltStr_asym {a b:Str} (h:AX a b=true):AX b a=false:=decide_eq_false fun q=>List.lt_irrefl _ (List.lt_trans (of_decide_eq_true h) q)
theorem ltStr_of {a b c:Str} (h1:AX a b=true) (h2:AX c b=false):AX c a=false:=decide_eq_false fun q=>of_decide_eq_false h2 (List.lt_trans q (of_decide_eq_true h1))
theorem Ex (x:Str):∀ l:List Str,CY l->CY (Dr x l)
 | [],_=>List.pairwise_singleton ..
 | y::r,h=>by
  have h1:=List.pairwise_cons.mp h
  show CY (if AX x y=true then x::y::r else y::Dr x r)
  by_cases q:AX x y=true
  ·rw [if_pos q]
   refine List.pairwise_cons.mpr ⟨fun w hw=>?_,h⟩
   rcases List.mem_cons.mp hw with rfl | hw
   ·exact ltStr_asym q
   ·exact ltStr_of q (h1.1 w hw)
  ·rw [if_neg q]
   refine List.pairwise_cons.mpr ⟨fun w hw=>?_,Ex x r h1.2⟩
   rcases List.mem_cons.mp ((DW x r).mem_iff.mp hw) with rfl | hw
   ·rw [Bool.not_eq_true] at q; exact q
   ·exact h1.1 w hw
theorem CE:∀ l:List Str,CY (CL l)
 | []=>.nil
 | x::r=>Ex x _ (CE r)
theorem toList_ok (h:toList σ x=some ws):PrN1 (fun X=>call (AZ .list) [X]) x σ ws:=by
 cases x with
 | ref k =>
  have h:keysO σ[k]? = some ws:=h
  cases e:σ[k]? with
  | none=>rw [e] at h; exact Ac h
  | some o =>
   rw [e] at h
   cases o with
   | list us=>rw [<-Option.some.inj h]; exact f_list (x:=.ref k) (by show Cr σ[k]? = _; rw [e]; rfl)
   | dictS kvs =>
    obtain ⟨q,h⟩:=AS (show (if kvs.all (fun p=>decide (p.1.length<=line))=true then some (vss (kvs.map (·.1))) else none)=some ws from h)
    rw [<-h]; exact f_listD e fun p hp=>of_decide_eq_true (List.all_eq_true.mp q p hp)
   | dictP kvs=>exact Ac h
 | d z=>exact f_list h
 | tup z=>exact Ac h
 | pr _ _=>exact Ac h
 | ty z=>exact Ac h
 | obj z=>exact Ac h
theorem bmake1_ok {b:Bi} (h:bmake1 b σ x=some ws):PrN1 (fun X=>call (AZ b) [X]) x σ ws:=by
 cases b with
 | list=>exact toList_ok h
 | sorted =>
  obtain ⟨us,e,h⟩:=Aa h
  obtain ⟨ss,e',h⟩:=Aa h
  obtain ⟨q,h⟩:=AS h
  rw [<-h]
  exact f_sorted (e.trans (congrArg some (Dp (g:=fun y=>.d (.str y)) (fun _ _=>Bn) e'))) q (EP ss) (CE ss)
 | _=>exact Ac h
theorem lenV_ok (h:lenV σ x=some v):Pr1 (fun X=>call (AZ .len) [X]) x σ v σ:=by
 unfold lenV at h
 cases e:BC x with
 | some z=>rw [e] at h; rw [Bn e,<-Option.some.inj h]; exact f_lenS
 | none =>
  rw [e] at h
  cases e2:BL x with
  | some ws=>rw [e2] at h; rw [<-Option.some.inj h]; exact f_lenT e2
  | none=>rw [e2] at h; obtain ⟨ws,e3,h⟩:=Aa h; rw [<-Option.some.inj h]; exact f_len e3
theorem ord_ok {z:Str} (h:(match z.cps.toList with | c::r=>(match r with | []=>some (vi c) | _=>none) | []=>none)=some v):Pr1 (fun X=>call (AZ .ord) [X]) (.d (.str z)) σ v σ:=by
 match e:z.cps.toList,h with
 | [],h=>exact Ac h
 | [c],h =>
  rw [<-Option.some.inj h,show z=chr1 c by rw [show z=⟨z.cps⟩ from rfl,<-Array.toArray_toList (xs:=z.cps),e]; rfl]
  exact f_ord
 | _::_::_,h=>exact Ac h
theorem bcall1_ok {b:Bi} (h:bcall1 b σ x=some v):Pr1 (fun X=>call (AZ b) [X]) x σ v σ\/∃ ws,bmake1 b σ x=some ws/\mkL ws=some v:=by
 cases b with
 | len=>exact .inl (lenV_ok h)
 | str =>
  obtain ⟨i,e,h⟩:=Aa h
  obtain ⟨q,h⟩:=AS h
  rw [Bh e,<-h]; exact .inl (f_str q)
 | all =>
  obtain ⟨us,e,h⟩:=Aa h
  obtain ⟨ss,e',h⟩:=Aa h
  rw [<-Option.some.inj h]
  exact .inl (f_all (e.trans (congrArg some (Dp (g:=fun y=>.d (.bool y)) (fun _ _=>boolV_eq) e'))))
 | any =>
  obtain ⟨us,e,h⟩:=Aa h
  obtain ⟨ss,e',h⟩:=Aa h
  rw [<-Option.some.inj h]
  exact .inl (f_any (e.trans (congrArg some (Dp (g:=fun y=>.d (.bool y)) (fun _ _=>boolV_eq) e'))))
 | ord =>
  obtain ⟨z,e,h⟩:=Aa h
  rw [Bn e]; exact .inl (ord_ok h)
 | _=>exact .inr (Aa h)
theorem int_of_ty (h:tyOf σ x=some "int"):∃ i,x=vi i:=by
 cases x with
 | d y=>cases y with
  | int i=>exact ⟨i,rfl⟩
  | none=>exact Ac h
  | dict _=>exact Ac h
  | _=>exact absurd (Option.some.inj h) (by decide)
 | tup _=>exact absurd (Option.some.inj h) (by decide)
 | ref k=>obtain ⟨_,_,h⟩:=Aa h; exact absurd (Option.some.inj h) (by decide)
 | _=>exact Ac h
theorem isiV_ok {t:String} (h:isiV σ x t=some b):Pr2 (fun X Y=>call (AZ .isinstance) [X,Y]) x (.ty t) σ (vb b) σ:=by
 obtain ⟨u,e,h⟩:=Aa h
 by_cases q:u=t
 ·rw [if_pos q] at h
  obtain ⟨q',h2⟩:=AS h
  subst q
  rw [<-h2]
  rcases q' with q' | q' | q' | q'
  ·subst q'; exact f_isi e (by kernel_rfl) (by rw [isSubtype_type]; kernel_rfl)
  ·subst q'; exact f_isi e (by kernel_rfl) (by rw [isSubtype_type]; kernel_rfl)
  ·subst q'; exact f_isi e (by kernel_rfl) (by rw [isSubtype_type]; kernel_rfl)
  ·subst q'; exact f_isi e (by kernel_rfl) (by rw [isSubtype_type]; kernel_rfl)
 ·rw [if_neg q] at h
  obtain ⟨⟨q1,q2⟩,h2⟩:=AS h
  subst q1 q2
  obtain ⟨i,rfl⟩:=int_of_ty e
  rw [<-h2]; exact f_isIB
theorem bcall2_ok {b:Bi} (h:bcall2 b σ x y=some v):Pr2 (fun X Y=>call (AZ b) [X,Y]) x y σ v σ:=by
 cases b with
 | min=>exact Ed (fun i j k e=>Option.some.inj e▸f_min) h
 | isinstance =>
  cases y with
  | ty t=>obtain ⟨b,e,h⟩:=Aa h; rw [<-Option.some.inj h]; exact isiV_ok e
  | _=>exact Ac h
 | _=>exact Ac h
theorem wOf_eq {u:PyData ⊕ Nat} (h:wOf v=some u):v=wv u:=by
 cases v with
 | d x=>rw [<-Option.some.inj h]; rfl
 | ref k=>rw [<-Option.some.inj h]; rfl
 | _=>exact Ac h
theorem attNo_ok {nm:Str}:∀ {as:List Str} {ks:List Nat} {k:Nat},attNo as ks nm=some k->∃ f:Nat,as[f]? = some nm/\ks[f]? = some k
 | [],_,_,h=>Ac h
 | _::_,[],_,h=>Ac h
 | a::as,k'::ks,k,h=>by
  have h:(if (a == nm)=true then some k' else attNo as ks nm)=some k:=h
  by_cases q:(a == nm)=true
  ·rw [if_pos q] at h; exact ⟨0,by rw [eq_of_beq q]; rfl,h⟩
  ·rw [if_neg q] at h
   obtain ⟨f,h1,h2⟩:=attNo_ok h
   exact ⟨f+1,h1,h2⟩
theorem bindB_ok {ts:List Nat} (h:bindB ts v=true):Ec ts v:=by
 rcases Bool.or_eq_true_iff.mp h with q | q
 ·exact .inl (Nat.eq_of_beq_eq_true q)
 ·cases e:BL v with
  | none=>rw [e] at q; exact ff_ q
  | some vs=>rw [e] at q; exact .inr ⟨vs,e,Nat.eq_of_beq_eq_true q⟩
end
end Mine
namespace Mine
open PySem
structure Cd (n:Nat) (e:E) (w:Ev):Prop where
 v:∀ {ρ σ x},w.v ρ σ=some x->SE n e ρ σ x σ
 nl:∀ {ρ σ ws},w.nl ρ σ=some ws->SL n e ρ σ ws σ
 row:∀ {ρ σ xs},w.row ρ σ=some xs->SEs n e ρ σ xs σ
 it:∀ {ρ σ p},w.it ρ σ=some p->SI n e ρ σ p.1 p.2 σ/\BT σ p.2
 t:∀ {ρ σ b},w.t ρ σ=some b->ST n e ρ σ b σ
 bo:∀ {op ρ σ x},w.bo op ρ σ=some x->SB n op e ρ σ x σ
 bt:∀ {op ρ σ b},w.bt op ρ σ=some b->SBt n op e ρ σ b σ
 ts:∀ {ρ σ b},w.ts ρ σ=some b->SIf n e ρ σ b σ
noncomputable def isLogic (e:E):Bool:=match e with | .not _=>true | .bop _ _=>true | .cmp _ _ _=>true | _=>false
theorem truth_of (e:E) {K:Kx} {ex:Expr} (hp:isLogic e=false) (h:IsE e K ex):∀ env w,isTrue ex env w=(w>>=fun v=>standAt ex.pos>>=fun _=>holding [v] (truthy v)):=by
 cases e with
 | nil=>exact h.elim
 | cons _ _=>exact h.elim
 | not _=>exact tt_ hp
 | bop _ _=>exact tt_ hp
 | cmp _ _ _=>exact tt_ hp
 | _=>exact h (fun ex=>∀ env w,isTrue ex env w=(w>>=fun v=>standAt ex.pos>>=fun _=>holding [v] (truthy v))) (by intros; rfl)
section
variable {n:Nat} {e a b r:E} {O:Orc} {f:Af->Ab->Option V} {g:Af->Ab->Option (List V)} {ρ:Af} {σ:Ab} {ws:List V} {v x:V}
theorem Fc {v:V} {ws:List V} (h:Ax σ v=some ws):BT σ (CA v ws):=fun k us m=>by
 cases v with
 | ref j =>
  have m:(k,us)∈[(j,ws)]:=m
  obtain ⟨rfl,rfl⟩:=Prod.mk.inj (List.mem_singleton.mp m)
  exact Cg h
 | _=>exact nomatch m
theorem items_ok {p:Its} (hz:BI e=false) (h:SE n e ρ σ v σ) (hv:Dq σ v=some p):SI n e ρ σ p.1 p.2 σ/\BT σ p.2:=by
 unfold Dq at hv
 cases q:BC v with
 | some z =>
  rw [q] at hv
  obtain ⟨ha,hv⟩:=AS hv
  rw [Bn q] at h
  exact hv▸⟨SI.str h ha hz,fun _ _ m=>nomatch m⟩
 | none =>
  rw [q] at hv
  obtain ⟨ws,e1,hv⟩:=Aa hv
  exact Option.some.inj hv▸⟨.lst h e1 hz,Fc e1⟩
theorem Cd.plain (h:∀ {ρ σ x},f ρ σ=some x->SE n e ρ σ x σ) (hl:isLogic e=false:=by rfl) (hz:BI e=false:=by rfl):Cd n e (.plain f) where
 v:=h
 nl:=fun h=>Ac h
 row:=fun h=>Ac h
 it:=fun q=>by obtain ⟨x,e1,q⟩:=Aa q; exact items_ok hz (h e1) q
 t:=fun q=>by obtain ⟨x,e1,q⟩:=Aa q; exact ST.plain (fun hc=>truth_of e hl hc) (h e1) (EH q)
 bo:=fun h=>Ac h
 bt:=fun h=>Ac h
 ts:=fun h=>Ac h
theorem Cd.made (h:∀ {ρ σ x},f ρ σ=some x->SE n e ρ σ x σ) (hg:∀ {ρ σ ws},g ρ σ=some ws->ws.length<=line->SL n e ρ σ ws σ) (hl:isLogic e=false:=by rfl) (hz:BI e=false:=by rfl):Cd n e (.made f g) :=
 { Cd.plain h hl hz with nl:=fun q=>by obtain ⟨us,e1,q⟩:=Aa q; obtain ⟨q1,q2⟩:=AS q; exact q2▸hg e1 q1 }
theorem FS (h:SL n e ρ σ ws σ) (hv:mkL ws=some v):SE n e ρ σ v σ:=by
 obtain ⟨ds,e,_,rfl⟩:=mkL_some hv
 rw [e] at h
 exact SE.frz h
theorem Cd.no:Cd n e .no:=⟨fun h=>Ac h,fun h=>Ac h,fun h=>Ac h,fun h=>Ac h,fun h=>Ac h,fun h=>Ac h,fun h=>Ac h,fun h=>Ac h⟩
theorem FG {l:Option Int} (h:∀ {ρ σ x},f ρ σ=some x->SE n e ρ σ x σ) (q:optI e f ρ σ=some l):SO n e ρ σ l σ:=by
 unfold optI at q
 by_cases c:B2 e=true
 ·rw [if_pos c] at q
  rw [<-Option.some.inj q]
  cases e with
  | nil=>exact .none
  | _=>exact ff_ c
 ·rw [if_neg c] at q
  obtain ⟨y,e1,q⟩:=Aa q
  obtain ⟨i,e2,q⟩:=Aa q
  rw [<-Option.some.inj q]
  exact .some (Bool.not_eq_true _▸c) (Bh e2▸h e1)
theorem Dh (h:BU e=true):Ez e:=by
 cases e with
 | var _=>exact AK
 | cst _=>exact basic_cst
 | sub _ _=>exact basic_sub
 | attr _ _=>exact basic_attr
 | _=>exact ff_ h
theorem Fv {α:Type} {c:Bool} {o:Option α} {y:α} (h:(bif c then o else none)=some y):c=true/\o=some y:=by cases c with | true=>exact ⟨rfl,h⟩ | false=>exact Ac h
theorem Df {elt ifs:E} {ts:List Nat} {kps:List (Nat×List V)} {w1 w2:Ev} (h1:Cd n elt w1) (h2:Cd n ifs w2) (hk:BT σ kps):∀ {vs ws:List V},D8 (fun v=>bif bindB ts v then (w2.ts (Cb (AT ρ ts) ts v) σ).bind fun t=>bif t then (w1.v (Cb (AT ρ ts) ts v) σ).bind (fun u=>some (some u)) else some none else none) vs=some ws->F8 n elt ts ifs kps ρ σ vs σ ws
 | [],ws,h=>⟨hk,(Option.some.inj h).symm,rfl⟩
 | v::vs,ws,h=>by
  obtain ⟨o,e1,h⟩:=Aa h
  obtain ⟨us,e2,h⟩:=Aa h
  obtain ⟨hb,e1⟩:=Fv e1
  obtain ⟨t,e3,e1⟩:=Aa e1
  refine ⟨hk,bindB_ok hb,t,σ,h2.ts e3,fun q=>?_,fun q=>?_⟩
  ·subst q
   rw [<-Option.some.inj (show some none=some o from e1)] at h
   rw [<-Option.some.inj (show some us=some ws from h)]
   exact Df h1 h2 hk e2
  ·subst q
   obtain ⟨u,e4,e1⟩:=Aa (show (w1.v (Cb (AT ρ ts) ts v) σ).bind (fun u=>some (some u))=some o from e1)
   rw [<-Option.some.inj e1] at h
   exact ⟨u,us,σ,h1.v e4,(Option.some.inj (show some (u::us)=some ws from h)).symm,Df h1 h2 hk e2⟩
theorem listD_some {ds:List PyData} (h:listD σ v=some ds):Ax σ v=some (ds.map .d):=by
 obtain ⟨ws,e1,h⟩:=Aa h
 rw [e1,F0 h]
end
section
variable {n:Nat} {O:Orc} (hO:∀ f xs σ v,O f xs σ=some v->FN n f xs σ v σ)
include hO
theorem ev_meth {m:Meth} {o es:E} {ρ:Af} {σ:Ab} {x v:V} {ys:List V} (hb:BU o=true) (h1:SE n o ρ σ x σ) (h2:SEs n es ρ σ ys σ) (h:methV m σ x ys=some v):SE n (.meth m o es) ρ σ v σ:=by
 cases m with
 | join =>
  have h:joinV σ x ys=some v:=h
  match ys,h with
  | [],h=>exact Ac h
  | [y],h =>
   obtain ⟨z,e1,h⟩:=Aa h
   obtain ⟨ws,e2,h⟩:=Aa h
   obtain ⟨ss,e3,h⟩:=Aa h
   obtain ⟨q,h⟩:=AS h
   rw [Bn e1] at h1
   exact h▸SE.join (Dh hb) (e2.trans (congrArg some (Dp (g:=fun y=>.d (.str y)) (fun _ _=>Bn) e3))) q h1 h2
  | _::_::_,h=>exact Ac h
 | index =>
  have h:indexV σ x ys=some v:=h
  match ys,h with
  | [],h=>exact Ac h
  | [y],h =>
   cases x with
   | ref k =>
    obtain ⟨ws,e1,h⟩:=Aa (show (Cr σ[k]?).bind (fun ws=>(Di ws).bind fun ds=>(isDV y).bind fun d=>(inD d ds).bind fun _=>(Fi d ds).bind fun j=>some (vi j))=some v from h)
    obtain ⟨ds,e2,h⟩:=Aa h
    obtain ⟨d,e3,h⟩:=Aa h
    obtain ⟨q,e4,h⟩:=Aa h
    obtain ⟨j,e5,h⟩:=Aa h
    have hy:y=.d d:=by cases y with | d z=>rw [Option.some.inj e3] | _=>exact Ac e3
    rw [hy] at h2
    rw [F0 e2] at e1
    exact Option.some.inj h▸SE.lmeth (Dh hb) F.slot_list_index F.type_list_index h1 h2 (Cg e1) (Cg e1) (m_index e4 e5)
   | _=>exact Ac h
  | _::_::_,h=>exact Ac h
 | get =>
  have h:dgetV σ x ys=some v:=h
  match ys,h with
  | [],h=>exact Ac h
  | [_],h=>exact Ac h
  | [y,z],h =>
   cases x with
   | ref k =>
    have h:dgetO σ[k]? y z=some v:=h
    cases e:σ[k]? with
    | none=>rw [e] at h; exact Ac h
    | some o =>
     rw [e] at h
     cases o with
     | dictP kvs =>
      obtain ⟨q,e1,h⟩:=Aa (show (Ha y).bind (fun q=>some (dfl (Ao kvs q) z))=some v from h)
      rw [DP e1] at h2
      exact Option.some.inj h▸SE.getP (Dh hb) h1 h2 e e
     | _=>exact Ac h
   | _=>exact Ac h
  | _::_::_::_,h=>exact Ac h
 | _=>exact Ac h
theorem Ae:∀ e:E,Cd n e (ev O e)
 | .cst x=>.plain fun h=>Option.some.inj h▸.cst x
 | .var i=>.plain fun {ρ σ x} h=>.var (by
  have h:(match ρ[i]? with | some o=>o | none=>none)=some x:=h
  cases e:ρ[i]? with
  | none=>rw [e] at h; exact Ac h
  | some o=>rw [e] at h; rw [show o=some x from h])
 | .ty t=>.plain fun h=>Option.some.inj h▸.ty
 | .glb x=>.plain fun h=>Option.some.inj h▸.glb
 | .bin op a b=>.made (fun h=>by
  obtain ⟨x,e1,h⟩:=Aa h
  obtain ⟨y,e2,h⟩:=Aa h
  rcases binop_ok h with q | ⟨ws,q1,q2⟩
  ·exact .bin ((Ae a).v e1) ((Ae b).v e2) q
  ·exact FS (.bin ((Ae a).v e1) ((Ae b).v e2) (catL_ok q1)) q2) fun h hl=>by
  obtain ⟨x,e1,h⟩:=Aa h
  obtain ⟨y,e2,h⟩:=Aa h
  exact .bin ((Ae a).v e1) ((Ae b).v e2) (catL_ok h)
 | .neg a=>.plain fun h=>by
  obtain ⟨x,e1,h⟩:=Aa h
  obtain ⟨i,e2,h⟩:=Aa h
  exact Option.some.inj h▸.neg (Bh e2▸(Ae a).v e1)
 | .not a=>{ Cd.no with
  v:=fun h=>by
   obtain ⟨x,e1,h⟩:=Aa h
   obtain ⟨t,e2,h⟩:=Aa h
   exact Option.some.inj h▸.not ((Ae a).v e1) (EH e2)
  t:=fun h=>by obtain ⟨c,e1,e2⟩:=GA h; exact e2▸.not ((Ae a).t e1) }
 | .bop op es=>{ Cd.no with v:=fun h=>.bop ((Ae es).bo h),t:=fun h=>.bop ((Ae es).bt h) }
 | .cmp op a b=>{ Cd.no with
  v:=fun h=>by
   obtain ⟨x,e1,h⟩:=Aa h
   obtain ⟨y,e2,h⟩:=Aa h
   obtain ⟨t,e3,h⟩:=Aa h
   exact Option.some.inj h▸.cmp ((Ae a).v e1) ((Ae b).v e2) (cmpop_ok e3)
  t:=fun h=>by
   obtain ⟨x,e1,h⟩:=Aa h
   obtain ⟨y,e2,h⟩:=Aa h
   exact .cmp ((Ae a).v e1) ((Ae b).v e2) (cmpop_ok h) }
 | .nil=>{ Cd.no with row:=fun h=>Option.some.inj h▸.nil,bt:=fun h=>Option.some.inj h▸.nil,ts:=fun h=>Option.some.inj h▸.nil }
 | .cons a r=>{ Cd.no with
  row:=fun h=>by
   obtain ⟨x,e1,h⟩:=Aa h
   obtain ⟨xs,e2,h⟩:=Aa h
   exact Option.some.inj h▸.cons ((Ae a).v e1) ((Ae r).row e2)
  bo:=fun {op ρ σ x} h=>by
   have h:(bif B2 r then (ev O a).v ρ σ else ((ev O a).v ρ σ).bind fun x=>(DG σ x).bind fun t=>bif t == Cp op then some x else (ev O r).bo op ρ σ)=some x:=h
   cases q:B2 r with
   | true =>
    rw [q] at h
    have e:r=.nil:=by cases r with | nil=>rfl | _=>exact ff_ q
    rw [e]; exact .one ((Ae a).v h)
   | false =>
    rw [q] at h
    obtain ⟨y,e1,h⟩:=Aa (show ((ev O a).v ρ σ).bind (fun x=>(DG σ x).bind fun t=>bif t == Cp op then some x else (ev O r).bo op ρ σ)=some x from h)
    obtain ⟨t,e2,h⟩:=Aa h
    refine .more q ((Ae a).v e1) (EH e2) (fun c=>?_) fun c=>?_
    ·rw [beq_iff_eq.mpr c] at h; exact ⟨(Option.some.inj h).symm,rfl⟩
    ·rw [beq_eq_false_iff_ne.mpr c] at h; exact (Ae r).bo h
  bt:=fun {op ρ σ b} h=>by
   obtain ⟨t,e1,h⟩:=Aa h
   refine .cons ((Ae a).t e1) (fun c=>?_) fun c=>?_
   ·rw [beq_iff_eq.mpr c] at h; exact ⟨(Option.some.inj h).symm,rfl⟩
   ·rw [beq_eq_false_iff_ne.mpr c] at h; exact (Ae r).bt h
  ts:=fun {ρ σ b} h=>by
   obtain ⟨t,e1,h⟩:=Aa h
   cases t with
   | true=>exact .cons ((Ae a).t e1) ((Ae r).ts h)
   | false=>exact Option.some.inj (show some false=some b from h)▸.no ((Ae a).t e1) }
 | .tup es=>.plain fun {ρ σ x} h=>by
  obtain ⟨ws,e1,h⟩:=Aa h
  unfold tupV at h
  by_cases q:ws.length<=line
  ·rw [if_pos q] at h
   cases e2:Di ws with
   | some ds =>
    rw [e2] at h
    have e3:=F0 e2
    have e4:=(Ae es).row e1
    rw [e3] at e4 q
    rw [List.length_map] at q
    exact Option.some.inj (show some (V.d (.tuple ds))=some x from h)▸.tup e4 q
   | none =>
    rw [e2] at h
    obtain ⟨us,e3,h⟩:=Aa (show (BY wOf ws).bind (fun us=>some (V.tup us))=some x from h)
    have e4:=(Ae es).row e1
    rw [Dp (g:=wv) (fun _ _=>wOf_eq) e3] at e4 q
    rw [List.length_map] at q
    exact Option.some.inj h▸.tupR e4 q
  ·rw [if_neg q] at h; exact Ac h
 | .lst es=>.made (fun h=>by
  obtain ⟨ws,e1,h⟩:=Aa h
  obtain ⟨_,_,q,_⟩:=mkL_some h
  exact FS (.lst ((Ae es).row e1) q) h) fun h hl=>.lst ((Ae es).row h) hl
 | .sub a i=>.plain fun h=>by
  obtain ⟨x,e1,h⟩:=Aa h
  obtain ⟨y,e2,h⟩:=Aa h
  exact .sub ((Ae a).v e1) ((Ae i).v e2) (F9 h)
 | .slc a lo hi=>.made (fun h=>by
  obtain ⟨x,e1,h⟩:=Aa h
  obtain ⟨l,e2,h⟩:=Aa h
  obtain ⟨u,e3,h⟩:=Aa h
  rcases slice_ok h with q | ⟨ws,q1,q2⟩
  ·exact .slc ((Ae a).v e1) (FG (Ae lo).v e2) (FG (Ae hi).v e3) q
  ·exact FS (.slc ((Ae a).v e1) (FG (Ae lo).v e2) (FG (Ae hi).v e3) (cutL_ok q1)) q2) fun h hl=>by
  obtain ⟨x,e1,h⟩:=Aa h
  obtain ⟨l,e2,h⟩:=Aa h
  obtain ⟨u,e3,h⟩:=Aa h
  exact .slc ((Ae a).v e1) (FG (Ae lo).v e2) (FG (Ae hi).v e3) (cutL_ok h)
 | .bi b es=>.made (fun {ρ σ v} h=>by
  obtain ⟨ws,e1,h⟩:=Aa h
  match ws,e1,h with
  | [],_,h=>exact Ac h
  | [x],e1,h =>
   rcases bcall1_ok h with q | ⟨ws,q1,q2⟩
   ·exact .bi1 ((Ae es).row e1) q
   ·exact FS (.bi1 ((Ae es).row e1) (bmake1_ok q1)) q2
  | [x,y],e1,h=>exact .bi2 ((Ae es).row e1) (bcall2_ok h)
  | _::_::_::_,_,h=>exact Ac h) fun {ρ σ us} h hl=>by
  obtain ⟨ws,e1,h⟩:=Aa h
  match ws,e1,h with
  | [],_,h=>exact Ac h
  | [x],e1,h=>exact .bi1 ((Ae es).row e1) (bmake1_ok h)
  | _::_::_,_,h=>exact Ac h
 | .maxd a z=>.plain fun h=>by
  obtain ⟨x,e1,h⟩:=Aa h
  obtain ⟨y,e2,h⟩:=Aa h
  obtain ⟨k,e3,h⟩:=Aa h
  obtain ⟨ws,e4,h⟩:=Aa h
  obtain ⟨is,e5,h⟩:=Aa h
  exact Option.some.inj h▸.maxd ((Ae a).v e1) (Bh e3▸(Ae z).v e2) (e4.trans (congrArg some (Dp (g:=vi) (fun _ _=>Bh) e5)))
 | .fcall f es=>.plain fun h=>by
  obtain ⟨xs,e1,h⟩:=Aa h
  exact .fcall ((Ae es).row e1) (hO _ _ _ _ h)
 | .meth m o es=>.plain fun h=>by
  obtain ⟨q,h⟩:=Fv h
  obtain ⟨x,e1,h⟩:=Aa h
  obtain ⟨ys,e2,h⟩:=Aa h
  exact ev_meth hO q ((Ae o).v e1) ((Ae es).row e2) h
 | .attr nm o=>.plain fun {ρ σ v} h=>by
  obtain ⟨q,h⟩:=Fv h
  obtain ⟨x,e1,h⟩:=Aa h
  have e2:=(Ae o).v e1
  cases o with
  | var i =>
   cases x with
   | obj ks =>
    obtain ⟨k,e3,h⟩:=Aa (show (attNo Cu ks nm).bind (fun k=>some (V.ref k))=some v from h)
    obtain ⟨f,h1,h2⟩:=attNo_ok e3
    exact Option.some.inj h▸.attr e2 h1 h2
   | _=>exact Ac h
  | _=>exact ff_ q
 | .mcall nm o es=>.plain fun h=>by
  obtain ⟨q,h⟩:=Fv h
  obtain ⟨x,e1,h⟩:=Aa h
  obtain ⟨ys,e2,h⟩:=Aa h
  obtain ⟨ks,e3,h⟩:=Aa h
  obtain ⟨f,e4,h⟩:=Aa h
  have hx:x=.obj ks:=by cases x with | obj _=>rw [Option.some.inj e3] | _=>exact Ac e3
  exact .mcall (Dh q) e4 (hx▸(Ae o).v e1) ((Ae es).row e2) (hO _ _ _ _ h)
 | .comp elt ts it ifs=>.made (fun h=>by
  obtain ⟨ws,h1,h⟩:=Aa h
  obtain ⟨p,e1,h1⟩:=Aa h1
  obtain ⟨i1,i2⟩:=(Ae it).it e1
  obtain ⟨_,_,q,_⟩:=mkL_some h
  exact FS (.comp i1 (Df (Ae elt) (Ae ifs) i2 h1) q) h) fun h hl=>by
  obtain ⟨p,e1,h1⟩:=Aa h
  obtain ⟨i1,i2⟩:=(Ae it).it e1
  exact .comp i1 (Df (Ae elt) (Ae ifs) i2 h1) hl
 | .range es=>{ Cd.no with
  it:=fun {ρ σ p} h=>by
   obtain ⟨xs,e1,h⟩:=Aa h
   match xs,e1,h with
   | [],_,h=>exact Ac h
   | [x],e1,h =>
    obtain ⟨k,e2,h⟩:=Aa (show (BQ x).bind (fun k=>if k<=1000000/\-1000000<=k then some (upV 0 k.toNat,[]) else none)=some p from h)
    obtain ⟨q,h⟩:=AS h
    have e3:=(Ae es).row e1
    rw [Bh e2] at e3
    exact h▸⟨.range e3 q.1 q.2,fun _ _ m=>nomatch m⟩
   | _::_::_,_,h=>exact Ac h }
 | .zip a b=>{ Cd.no with
  it:=fun h=>by
   obtain ⟨x,e1,h⟩:=Aa h
   obtain ⟨y,e2,h⟩:=Aa h
   obtain ⟨ds,e3,h⟩:=Aa h
   obtain ⟨ds',e4,h⟩:=Aa h
   exact Option.some.inj h▸⟨.zip ((Ae a).v e1) ((Ae b).v e2) e3 e4,fun k us m=>(List.mem_append.mp m).elim (Fc e3 k us) (Fc e4 k us)⟩ }
 | .enum a=>{ Cd.no with
  it:=fun h=>by
   obtain ⟨x,e1,h⟩:=Aa h
   obtain ⟨ds,e3,h⟩:=Aa h
   exact Option.some.inj h▸⟨.enum ((Ae a).v e1) (listD_some e3),Fc (listD_some e3)⟩ }
 | .dct=>.no
 | .sortr _=>.no
 | .sortk _ _ _ _=>.no
 | .new=>.no
end
end Mine
namespace Mine
open PySem PySem.Calls
structure Cfg where
 n:Nat
 O:Orc
 ok:∀ f xs σ v,O f xs σ=some v->FN n f xs σ v σ
noncomputable abbrev Cfg.v (C:Cfg) (e:E):Af->Ab->Option V:=(ev C.O e).v
noncomputable abbrev Cfg.row (C:Cfg) (e:E):Af->Ab->Option (List V):=(ev C.O e).row
noncomputable abbrev Cfg.it (C:Cfg) (e:E):Af->Ab->Option Its:=(ev C.O e).it
noncomputable abbrev Cfg.nl (C:Cfg) (e:E):Af->Ab->Option (List V):=(ev C.O e).nl
noncomputable abbrev Cfg.t (C:Cfg) (e:E):Af->Ab->Option Bool:=(ev C.O e).t
noncomputable def Ah (C:Cfg) (P:Fl->Ab->Prop) (l:S) (ρ:Af) (σ:Ab):Prop:=∃ fl σ',P fl σ'/\SSs C.n l ρ σ fun f s=>f=fl/\s=σ'
noncomputable def Then (C:Cfg) (P:Fl->Ab->Prop) (r:S) (fl:Fl) (σ:Ab):Prop:=match fl with | .next ρ=>Ah C P r ρ σ | .ret v=>P (.ret v) σ
section
variable {C:Cfg} {P M:Fl->Ab->Prop} {l r a b body:S} {st:S} {ρ ρ':Af} {σ σ':Ab} {e c it:E} {x:Nat} {v:V} {t:Bool} {ws:List V} {xs ts:List Nat}
theorem Ah.mono (h:Ah C M l ρ σ) (hm:∀ fl σ,M fl σ->P fl σ):Ah C P l ρ σ:=by
 obtain ⟨fl,σ',h1,h2⟩:=h
 exact ⟨fl,σ',hm _ _ h1,h2⟩
theorem Ad (h:P (.next ρ) σ):Ah C P .nil ρ σ:=⟨_,_,h,.nil ⟨rfl,rfl⟩⟩
theorem Ca {fl:Fl} (hs:∀ Q:Fl->Ab->Prop,Q fl σ'->SS C.n st ρ σ Q) (h:Then C P r fl σ'):Ah C P (.cons st r) ρ σ:=by
 cases fl with
 | next ρ' =>
  obtain ⟨fl,σ2,h1,h2⟩:=h
  exact ⟨fl,σ2,h1,.cons (hs _ h2)⟩
 | ret v=>exact ⟨.ret v,σ',h,.cons (hs _ ⟨rfl,rfl⟩)⟩
theorem AB (hp:B3 e=false) (h:SE C.n e ρ σ v σ') (k:Ah C P r (ρ.set x (some v)) σ'):Ah C P (.cons (.asg x e) r) ρ σ:=Ca (fl:=.next (ρ.set x (some v))) (fun Q q=>.asg hp h q) k
theorem Aw (h:C.v e ρ σ=some v) (k:Ah C P r (ρ.set x (some v)) σ) (hp:B3 e=false:=by rfl):Ah C P (.cons (.asg x e) r) ρ σ:=AB hp ((Ae C.ok e).v h) k
theorem Bj (h:C.nl e ρ σ=some ws) (k:Ah C P r (ρ.set x (some (.ref σ.length))) (σ++[.list ws])) (hp:B3 e=false:=by rfl):Ah C P (.cons (.asg x e) r) ρ σ:=AB hp (SE.trk ((Ae C.ok e).nl h)) k
theorem go_asgD (k:Ah C P r (ρ.set x (some (.ref σ.length))) (σ++[.dictS []])):Ah C P (.cons (.asg x .dct) r) ρ σ:=AB rfl .dctS k
theorem go_asgP (k:Ah C P r (ρ.set x (some (.ref σ.length))) (σ++[.dictP []])):Ah C P (.cons (.asg x .dct) r) ρ σ:=AB rfl .dctP k
theorem comp_of {elt ifs:E} (h:C.nl (.comp elt ts it ifs) ρ σ=some ws):∃ vs kps,SI C.n it ρ σ vs kps σ/\F8 C.n elt ts ifs kps ρ σ vs σ ws/\ws.length<=line:=by
 obtain ⟨us,h1,q⟩:=Aa h
 obtain ⟨q1,q2⟩:=AS q
 obtain ⟨p,e1,h2⟩:=Aa h1
 obtain ⟨i1,i2⟩:=(Ae C.ok it).it e1
 exact ⟨p.1,p.2,i1,q2▸Df (Ae C.ok elt) (Ae C.ok ifs) i2 h2,q2▸q1⟩
theorem go_comp {elt ifs:E} {ds:List PyData} (h:C.nl (.comp elt ts it ifs) ρ σ=some (ds.map .d)) (k:Ah C P r (ρ.set x (some (.d (.list ds)))) σ):Ah C P (.cons (.asg x (.comp elt ts it ifs)) r) ρ σ:=by
 obtain ⟨vs,kps,h1,h2,h3⟩:=comp_of h
 exact Ca (fl:=.next (ρ.set x (some (.d (.list ds))))) (fun Q q=>.asgC h1 h2 h3 (fun n=>n.frz) q) k
theorem CQ (hp:B3 e=false) (h:SE C.n e ρ σ v σ') (k:Ah C P r ρ σ'):Ah C P (.cons (.exp e) r) ρ σ:=Ca (fl:=.next ρ) (fun Q q=>.exp hp h q) k
theorem Fk (h:SE C.n e ρ σ v σ') (k:P (.ret v) σ'):Ah C P (.cons (.ret e) r) ρ σ:=Ca (fl:=.ret v) (fun Q q=>.ret h q) k
theorem A6 (h:C.v e ρ σ=some v) (k:P (.ret v) σ):Ah C P (.cons (.ret e) r) ρ σ:=Fk ((Ae C.ok e).v h) k
theorem go_retT (h:C.nl e ρ σ=some ws) (k:P (.ret (.ref σ.length)) (σ++[.list ws])):Ah C P (.cons (.ret e) r) ρ σ:=Fk (SE.trk ((Ae C.ok e).nl h)) k
theorem DX {m:Meth} {id:String} {o es:E} {k:Nat} {us:List V} (slot:Slot "list" (Str.ofString (DR m)) id) (ty:typeOf (.builtin id)=pure (.type "method_descriptor")) (ho:C.v o ρ σ=some (.ref k)) (hes:C.row es ρ σ=some us) (h0:σ[k]? = some (.list ws)) (h:PrM id k ws us σ v σ') (hb:BU o=true) (kk:Ah C P r ρ σ'):Ah C P (.cons (.exp (.meth m o es)) r) ρ σ :=
 CQ rfl (.lmeth (Dh hb) slot ty ((Ae C.ok o).v ho) ((Ae C.ok es).row hes) h0 h0 h) kk
theorem AJ {o es:E} {k:Nat} {y:V} (ho:C.v o ρ σ=some (.ref k)) (hes:C.row es ρ σ=some [y]) (h0:σ[k]? = some (.list ws)) (hl:ws.length < line) (kk:Ah C P r ρ (σ.set k (.list (ws++[y])))) (hb:BU o=true:=by rfl):Ah C P (.cons (.exp (.meth .append o es)) r) ρ σ :=
 DX slot_list_append type_list_append ho hes h0 (m_append hl) hb kk
theorem go_insert {o es:E} {k:Nat} {y:V} {i:Int} (ho:C.v o ρ σ=some (.ref k)) (hes:C.row es ρ σ=some [vi i,y]) (h0:σ[k]? = some (.list ws)) (hl:ws.length < line) (hi:0<=i) (hj:i.toNat<=ws.length) (kk:Ah C P r ρ (σ.set k (.list (ws.take i.toNat++y::ws.drop i.toNat)))) (hb:BU o=true:=by rfl):Ah C P (.cons (.exp (.meth .insert o es)) r) ρ σ :=
 DX F.slot_list_insert F.type_list_insert ho hes h0 (m_insert hi hj hl) hb kk
theorem go_remove {o es:E} {k j:Nat} {d:PyData} {ds:List PyData} {q:Bool} (ho:C.v o ρ σ=some (.ref k)) (hes:C.row es ρ σ=some [.d d]) (h0:σ[k]? = some (.list (ds.map .d))) (h1:inD d ds=some q) (h2:Fi d ds=some j) (kk:Ah C P r ρ (σ.set k (.list ((ds.map .d).eraseIdx j)))) (hb:BU o=true:=by rfl):Ah C P (.cons (.exp (.meth .remove o es)) r) ρ σ :=
 DX F.slot_list_remove F.type_list_remove ho hes h0 (m_remove h1 h2) hb kk
theorem go_clear {o:E} {k:Nat} (ho:C.v o ρ σ=some (.ref k)) (h0:σ[k]? = some (.list ws)) (kk:Ah C P r ρ (σ.set k (.list []))) (hb:BU o=true:=by rfl):Ah C P (.cons (.exp (.meth .clear o .nil)) r) ρ σ :=
 DX F.slot_list_clear F.type_list_clear ho rfl h0 m_clear hb kk
theorem Du {o i d:E} {z y:V} {k:Nat} {kvs:List (Str×PyData)} {w:Str} {dd:PyData} (hd:C.v d ρ σ=some (.d dd)) (ho:C.v o ρ σ=some (.ref k)) (hi:C.v i ρ σ=some (.d (.str w))) (h0:σ[k]? = some (.dictS kvs)) (hl:kvs.length < line) (kk:Ah C P r ρ (σ.set k (.dictS (BD kvs w dd)))) (hp:B3 d=false:=by rfl):Ah C P (.cons (.set o i d) r) ρ σ :=
 Ca (fl:=.next ρ) (fun Q q=>.set hp ((Ae C.ok d).v hd) ((Ae C.ok o).v ho) ((Ae C.ok i).v hi) (s_dictS h0 hl) q) kk
theorem Dv {o i d:E} {k:Nat} {kvs:List ((Str×Int)×PyData)} {w:Str×Int} {dd:PyData} (hd:C.v d ρ σ=some (.d dd)) (ho:C.v o ρ σ=some (.ref k)) (hi:C.v i ρ σ=some (vp w)) (h0:σ[k]? = some (.dictP kvs)) (hl:kvs.length < line) (kk:Ah C P r ρ (σ.set k (.dictP (BD kvs w dd)))) (hp:B3 d=false:=by rfl):Ah C P (.cons (.set o i d) r) ρ σ :=
 Ca (fl:=.next ρ) (fun Q q=>.set hp ((Ae C.ok d).v hd) ((Ae C.ok o).v ho) ((Ae C.ok i).v hi) (s_dictP h0 hl) q) kk
theorem go_setL {o i d:E} {z:V} {k:Nat} {j:Int} (hd:C.v d ρ σ=some z) (ho:C.v o ρ σ=some (.ref k)) (hi:C.v i ρ σ=some (vi j)) (h0:σ[k]? = some (.list ws)) (h1:0<=j) (h2:j < ws.length) (kk:Ah C P r ρ (σ.set k (.list (ws.set j.toNat z)))) (hp:B3 d=false:=by rfl):Ah C P (.cons (.set o i d) r) ρ σ :=
 Ca (fl:=.next ρ) (fun Q q=>.set hp ((Ae C.ok d).v hd) ((Ae C.ok o).v ho) ((Ae C.ok i).v hi) (s_list h0 h1 h2) q) kk
theorem go_if (h:C.t c ρ σ=some t) (k:Ah C (Then C P r) (bif t then a else b) ρ σ):Ah C P (.cons (.ite c a b) r) ρ σ:=by
 obtain ⟨fl,σ',h1,h2⟩:=k
 refine Ca (fl:=fl) (σ':=σ') (fun Q q=>.ite ((Ae C.ok c).t h) (fun e=>?_) fun e=>?_) h1
 ·subst e; exact SSs.mono (fun f s e=>by rw [e.1,e.2]; exact q) h2
 ·subst e; exact SSs.mono (fun f s e=>by rw [e.1,e.2]; exact q) h2
theorem A3 (h:C.t c ρ σ=some t) (kt:t=true->Ah C (Then C P r) a ρ σ) (kf:t=false->Ah C (Then C P r) b ρ σ):Ah C P (.cons (.ite c a b) r) ρ σ:=go_if h (by cases t with | true=>exact kt rfl | false=>exact kf rfl)
theorem Fm (h:C.t c ρ σ=some false) (k:Ah C P r ρ σ):Ah C P (.cons (.ite c a .nil) r) ρ σ:=go_if h (Ad k)
theorem go_unp {vs:List V} (h:SE C.n e ρ σ v σ') (hs:∀ {K:Kx} {ex:Expr},IsE e K ex->∀ ts k p env,swappedStores [.Tuple ts k p] ex env=pure none) (hv:BL v=some vs) (hl:vs.length=xs.length) (k:Ah C P r (Db ρ xs vs) σ') (hp:B3 e=false:=by rfl):Ah C P (.cons (.unp xs e) r) ρ σ:=Ca (fl:=.next (Db ρ xs vs)) (fun Q q=>.unp hp hs h hv hl q) k
theorem turns {α:Type} {kps:List (Nat×List V)} (w:α->V) (J:List α->Af->Ab->Prop):∀ (q p:List α) (ρ:Af) (σ:Ab),(∀ p ρ σ,J p ρ σ->BT σ kps)->(∀ a,a∈q->Ec ts (w a))->J p ρ σ ->
 (∀ p' a q' ρ σ,p++q=p'++a::q'->J p' ρ σ->Ah C (fun fl σ'=>∃ ρ',fl=.next ρ'/\J (p'++[a]) ρ' σ') body (Cb ρ ts (w a)) σ)->∃ ρe σe,J (p++q) ρe σe/\∀ Q:Fl->Ab->Prop,Q (.next ρe) σe->ForQ C.n ts body kps Q (q.map w) ρ σ
 | [],p,ρ,σ,hk,_,hJ,_=>⟨ρ,σ,(List.append_nil p).symm▸hJ,fun Q h=>⟨hk p ρ σ hJ,h⟩⟩
 | a::q,p,ρ,σ,hk,hb,hJ,hf=>by
  obtain ⟨fl,σ₁,⟨ρ1,rfl,h1⟩,h2⟩:=hf p a q ρ σ rfl hJ
  have e:p++[a]++q=p++a::q:=by rw [List.append_assoc]; rfl
  obtain ⟨ρe,σe,h3,h4⟩:=turns w J q (p++[a]) ρ1 σ₁ hk (fun b hb'=>hb b (.tail _ hb')) h1 fun p' b q' ρ σ he=>hf p' b q' ρ σ (e.symm.trans he)
  exact ⟨ρe,σe,e▸h3,fun Q h=>⟨hk p ρ σ hJ,hb a (.head _),SSs.mono (fun f s e=>by rw [e.1,e.2]; exact h4 Q h) h2⟩⟩
theorem DY {α:Type} {l:List α} {kps:List (Nat×List V)} (w:α->V) (J:List α->Af->Ab->Prop) (hit:C.it it ρ σ=some (l.map w,kps)) (hk:∀ p ρ σ,J p ρ σ->BT σ kps) (hb:∀ a,a∈l->Ec ts (w a)) (hJ:J [] ρ σ)
 (hf:∀ p a q ρ σ,l=p++a::q->J p ρ σ->Ah C (fun fl σ'=>∃ ρ',fl=.next ρ'/\J (p++[a]) ρ' σ') body (Cb ρ ts (w a)) σ) (k:∀ ρ' σ',J l ρ' σ'->Ah C P r ρ' σ'):Ah C P (.cons (.for_ ts it body) r) ρ σ:=by
 obtain ⟨ρe,σe,h1,h2⟩:=turns (C:=C) (body:=body) (ts:=ts) w J l [] ρ σ hk hb hJ hf
 exact Ca (fl:=.next ρe) (fun Q q=>.for_ ((Ae C.ok it).it hit).1 (h2 Q q)) (k ρe σe h1)
theorem AL {α:Type} {l:List α} (w:α->V) (J:List α->Af->Ab->Prop) (hit:C.it it ρ σ=some (l.map w,[])) (hJ:J [] ρ σ)
 (hf:∀ p a q ρ σ,l=p++a::q->J p ρ σ->Ah C (fun fl σ'=>∃ ρ',fl=.next ρ'/\J (p++[a]) ρ' σ') body (ρ.set x (some (w a))) σ) (k:∀ ρ' σ',J l ρ' σ'->Ah C P r ρ' σ'):Ah C P (.cons (.for_ [x] it body) r) ρ σ :=
 DY w J hit (fun _ _ _ _ _ _ m=>nomatch m) (fun _ _=>.inl rfl) hJ hf k
theorem whiles (J:Nat->Af->Ab->Prop) (t:Nat->Bool) (ht:∀ m ρ σ,J m ρ σ->C.t c ρ σ=some (t m)) (h0:t 0=false)
 (hf:∀ m ρ σ,J (m+1) ρ σ->t (m+1)=true->Ah C (fun fl σ'=>∃ ρ',fl=.next ρ'/\J m ρ' σ') body ρ σ):∀ (m:Nat) (ρ:Af) (σ:Ab),J m ρ σ->∃ ρe σe m',J m' ρe σe/\t m'=false/\∀ Q:Fl->Ab->Prop,Q (.next ρe) σe->WhQ C.n c body Q (m+1) ρ σ
 | 0,ρ,σ,hJ=>⟨ρ,σ,0,hJ,h0,fun Q q=>⟨false,σ,(Ae C.ok c).t (h0▸ht 0 ρ σ hJ),fun _=>q,fun h=>ff_ h⟩⟩
 | m+1,ρ,σ,hJ=>by
  have h:=ht (m+1) ρ σ hJ
  cases e:t (m+1) with
  | false=>rw [e] at h; exact ⟨ρ,σ,m+1,hJ,e,fun Q q=>⟨false,σ,(Ae C.ok c).t h,fun _=>q,fun h=>ff_ h⟩⟩
  | true =>
   rw [e] at h
   obtain ⟨fl,σ₁,⟨ρ1,rfl,h1⟩,h2⟩:=hf m ρ σ hJ e
   obtain ⟨ρe,σe,m',h3,h5,h4⟩:=whiles J t ht h0 hf m ρ1 σ₁ h1
   exact ⟨ρe,σe,m',h3,h5,fun Q q=>⟨true,σ,(Ae C.ok c).t h,fun h=>tt_ h,fun _=>SSs.mono (fun f s e=>by rw [e.1,e.2]; exact h4 Q q) h2⟩⟩
theorem go_while (J:Nat->Af->Ab->Prop) (t:Nat->Bool) (m:Nat) (hJ:J m ρ σ) (ht:∀ m ρ σ,J m ρ σ->C.t c ρ σ=some (t m)) (h0:t 0=false)
 (hf:∀ m ρ σ,J (m+1) ρ σ->t (m+1)=true->Ah C (fun fl σ'=>∃ ρ',fl=.next ρ'/\J m ρ' σ') body ρ σ) (k:∀ m' ρ' σ',J m' ρ' σ'->t m'=false->Ah C P r ρ' σ'):Ah C P (.cons (.while_ c body) r) ρ σ:=by
 obtain ⟨ρe,σe,m',h1,h2,h3⟩:=whiles (C:=C) J t ht h0 hf m ρ σ hJ
 exact Ca (fl:=.next ρe) (fun Q q=>.while_ (h3 Q q)) (k m' ρe σe h1 h2)
noncomputable def GU (fl:Fl):V:=match fl with | .next _=>.d .none | .ret v=>v
theorem FN.ends {f:Nat} {fn:Fn} {zs:List V} {R:V->Ab->Prop} (hP:Pg f=some fn) (hl:zs.length=fn.np) (hn:1<=C.n) (h:Ah C (fun fl σ'=>R (GU fl) σ') fn.body (B6 fn zs) σ):∃ v σ',R v σ'/\FN (C.n+1) f zs σ v σ':=by
 obtain ⟨fl,σ',h1,h2⟩:=h
 refine ⟨_,σ',h1,.of hP hl (SSs.mono (fun f s e=>?_) h2) hn⟩
 rw [e.1,e.2]
 cases fl with
 | next _=>exact ⟨rfl,rfl⟩
 | ret _=>exact ⟨rfl,rfl⟩
end
end Mine
namespace Mine
open PySem PySem.Calls
section
variable {C:Cfg} {P:Fl->Ab->Prop} {r:S} {ρ:Af} {σ:Ab} {o es:E} {x k:Nat} {ws us:List V} {y:V}
theorem erase_last (ws:List V) (y:V):(ws++[y]).eraseIdx ((ws++[y]).length-1)=ws:=by
 rw [List.length_append,show ws.length + [y].length-1=ws.length from rfl,List.eraseIdx_append_of_length_le (Nat.le_refl _),Nat.sub_self]
 exact List.append_nil ws
theorem go_pop (ho:C.v o ρ σ=some (.ref k)) (h0:σ[k]? = some (.list (ws++[y]))) (kk:Ah C P r (ρ.set x (some y)) (σ.set k (.list ws))) (hb:BU o=true:=by rfl):Ah C P (.cons (.asg x (.meth .pop o .nil)) r) ρ σ:=by
 refine AB rfl (.lmeth (Dh hb) F.slot_list_pop F.type_list_pop ((Ae C.ok o).v ho) .nil h0 h0 (m_pop (v:=y) ?_)) ?_
 ·rw [List.length_append,show ws.length + [y].length-1=ws.length from rfl,List.getElem?_append_right (Nat.le_refl _),Nat.sub_self]; rfl
 ·rw [erase_last]; exact kk
theorem go_extend (ho:C.v o ρ σ=some (.ref k)) (hes:C.row es ρ σ=some [y]) (h0:σ[k]? = some (.list ws)) (hy:Ax σ y=some us) (hl:ws.length+us.length<=line) (kk:Ah C P r ρ (σ.set k (.list (ws++us)))) (hb:BU o=true:=by rfl):Ah C P (.cons (.exp (.meth .extend o es)) r) ρ σ :=
 DX F.slot_list_extend F.type_list_extend ho hes h0 (m_extend hy hl) hb kk
end
end Mine
namespace Mine
open PySem PySem.Calls
structure LeM (m:Nat) (own:List Addr) (g g':G):Prop where
 fz:FzLe g.fz g'.fz
 mu:∀ (k:Nat) (a:Addr),k < m->g.mu[k]? = some a->g'.mu[k]? = some a
 hid:∀ a,a∉own->g'.hid a=g.hid a
noncomputable def SF (n m:Nat) (l:S) (ρ:Af) (σ:Ab) (v:V) (σ':Ab):Prop :=
 ∀ (c:Cx) (g:G) (s:Shared) (xs:List Stmt),IsSs l c.K xs->Inv n c ρ g σ s->c.wp (execs xs c.env) (fun f s'=>∃ x g',f=.ret x/\LeM m c.own g g'/\Has c.T g' σ' s'/\(∀ a,a∈c.own->g'.hid a≠none)/\An c.T g' v x) s
noncomputable def F5 (σ:Ab) (m:Nat) (ρ ρ':Af):Prop:=∀ (i:Nat) (v':V),ρ'[i]? = some (some v')->∃ v,ρ[i]? = some (some v)/\((v=v'/\low m v)\/∃ d,v'=.d d/\Sn σ m v d)
section
variable {n m:Nat} {l r st:S} {ρ ρ':Af} {σ τ σ':Ab} {v:V} {c:Cx} {g g':G} {s:Shared} {own:List Addr} {C:Cfg} {P:V->Ab->Prop}
theorem LeM.of (le:G.le own g g'):LeM m own g g':=⟨le.fz,fun k a _ e=>le.mu k a e,le.hid⟩
theorem LeM.trans {g'':G} (x:LeM m own g g') (y:LeM m own g' g''):LeM m own g g'':=⟨fun a o e=>y.fz a o (x.fz a o e),fun k a h e=>y.mu k a h (x.mu k a h e),fun a h=>(y.hid a h).trans (x.hid a h)⟩
theorem SF.of (h:SSs n l ρ σ fun f s=>f=.ret v/\s=σ'):SF n m l ρ σ v σ':=fun c g s xs hc I=>wpAny_mono (h c g s xs hc I) (fun f s' p=>p.elim (fun ρ σ₁ g' e q le I=>nomatch q.1) fun u x σ₁ g' e q le H w r=>by
 obtain ⟨q1,rfl⟩:=q
 injection q1 with q1
 subst q1
 exact ⟨x,g',e,.of le,H,w,r⟩) fun _ _ h=>h
theorem SF.cons (h:SS n st ρ σ fun fl σ₁=>∃ ρ1,fl=.next ρ1/\SF n m r ρ1 σ₁ v σ'):SF n m (.cons st r) ρ σ v σ':=fun c g s xs hc I=>hc (fun xs=>c.wp (execs xs c.env) (fun f s'=>∃ x g',f=.ret x/\LeM m c.own g g'/\Has c.T g' σ' s'/\(∀ a,a∈c.own->g'.hid a≠none)/\An c.T g' v x) s) fun x l h1 h2=>by
 rw [execs_cons]
 refine wpAny_bind (wpAny_mono (h c g s x h1 I) (fun f s₁ p=>p.elim (fun ρ1 σ₁ g₁ e q le I1=>?_) fun v x σ₁ g₁ e q le H w r=>?_) fun _ _ h=>h)
 ·subst e
  obtain ⟨ρ2,q1,q2⟩:=q
  injection q1 with q1
  subst q1
  refine wpAny_mono (q2 c g₁ s₁ l h2 I1) (fun f s' p=>?_) fun _ _ h=>h
  obtain ⟨x,g',e1,e2,e3⟩:=p
  exact ⟨x,g',e1,LeM.trans (.of le) e2,e3⟩
 ·obtain ⟨ρ2,q1,_⟩:=q; exact nomatch q1
theorem SF.done (h:SF n σ.length l ρ σ v σ'):SSs n l ρ σ fun f s=>f=.ret v/\s=σ':=fun c g s xs hc I=>wpAny_mono (h c g s xs hc I) (fun f s' p=>by
 obtain ⟨x,g',rfl,e2,e3,e4,e5⟩:=p
 exact fun R_ _ k2=>k2 v x σ' g' ⟨rfl,rfl⟩ ⟨⟨e2.fz,fun k a e=>e2.mu k a (I.has.len▸mu_lt e) e⟩,e2.hid⟩ e3 e4 e5) fun _ _ h=>h
theorem seal_one (H:Has c.T g (σ++τ) s) (hr:F5 (σ++τ) σ.length ρ ρ') {i:Nat} {v':V} {X:V->Option Value} (e:ρ'[i]? = some (some v')) (h:∀ v,ρ[i]? = some (some v)->∃ x,X v=some x/\An c.T g v x) (hX:∀ v w,X v=X w):∃ x,X v'=some x/\An c.T (g.seal σ.length s.heap) v' x:=by
 obtain ⟨v,h1,h2⟩:=hr i v' e
 obtain ⟨x,e1,e2⟩:=h v h1
 refine ⟨x,(hX _ _).trans e1,?_⟩
 rcases h2 with ⟨rfl,q⟩ | ⟨d,rfl,q⟩
 ·exact rep_seal H q e2
 ·exact sn_rep H q e2
theorem Inv.seal (I:Inv n c ρ g (σ++τ) s) (hw:∀ (k:Nat) o,σ[k]? = some o->FO σ.length o) (hr:F5 (σ++τ) σ.length ρ ρ'):Inv n c ρ' (g.seal σ.length s.heap) σ s :=
 ⟨⟨I.ok,I.frames,I.top,I.depth,I.units,I.hh,I.has.seal hw⟩,I.cx,fun R_ k=>I.loc.ns R_ fun mm h1 h2=>k mm h1 fun i nm v' e1 e2 e3=>seal_one (X:=fun _=>mm nm) I.has hr e2 (fun v e=>h2 i nm v e1 e e3) (fun _ _=>rfl),
  fun nm hk R_ k=>I.loc.ce nm hk R_ fun a u h1 h2 h3=>k a u h1 h2 fun i v' e1 e2=>seal_one (X:=fun _=>u) I.has hr e2 (fun v e=>h3 i v e1 e) (fun _ _=>rfl),I.loc.ow⟩
theorem SF.seal (h:SF n m l ρ' σ v σ') (hm:m<=σ.length) (hw:∀ (k:Nat) o,σ[k]? = some o->FO σ.length o) (hr:F5 (σ++τ) σ.length ρ ρ'):SF n m l ρ (σ++τ) v σ':=fun c g s xs hc I=>wpAny_mono (h c _ s xs hc (I.seal hw hr)) (fun f s' p=>by
 obtain ⟨x,g',e1,e2,e3⟩:=p
 exact ⟨x,g',e1,LeM.trans ⟨C8 I.has,fun k a hk e=>seal_mu (Nat.lt_of_lt_of_le hk hm) e,fun _ _=>rfl⟩ e2,e3⟩) fun _ _ h=>h
noncomputable def Gy (C:Cfg) (m:Nat) (P:V->Ab->Prop) (l:S) (ρ:Af) (σ:Ab):Prop:=∃ v σ',P v σ'/\SF C.n m l ρ σ v σ'
theorem execs_one {x:Stmt} {env:Env}:execs [x] env=exec x env:=by
 rw [execs_cons]
 refine (bind_congr fun f=>?_).trans (bind_pure _)
 cases f with
 | next=>exact arm_execs_nil _
 | _=>rfl
theorem SS.of1 {Q:Fl->Ab->Prop} (h:SSs n (.cons st .nil) ρ σ Q):SS n st ρ σ Q:=fun c g s x hc I=>by
 have h:=h c g s [x] (fun R_ k=>k x [] hc rfl) I
 rw [execs_one] at h
 exact h
theorem goF (h:Ah C (fun fl σ₁=>∃ ρ1,fl=.next ρ1/\Gy C m P r ρ1 σ₁) (.cons st .nil) ρ σ):Gy C m P (.cons st r) ρ σ:=by
 obtain ⟨fl,σ₁,⟨ρ1,rfl,v,σ',h1,h2⟩,h3⟩:=h
 exact ⟨v,σ',h1,.cons (SS.mono (fun f s e=>⟨ρ1,e.1,by rw [e.2]; exact h2⟩) (.of1 h3))⟩
theorem goF_ret {e:E} (h:SE C.n e ρ σ v σ') (k:P v σ'):Gy C m P (.cons (.ret e) r) ρ σ:=⟨v,σ',k,.of (.cons (.ret h ⟨rfl,rfl⟩))⟩
theorem goF_seal (h:Gy C m P l ρ' σ) (hm:m<=σ.length) (hw:∀ (k:Nat) o,σ[k]? = some o->FO σ.length o) (hr:F5 (σ++τ) σ.length ρ ρ'):Gy C m P l ρ (σ++τ):=by
 obtain ⟨v,σ',h1,h2⟩:=h
 exact ⟨v,σ',h1,h2.seal hm hw hr⟩
theorem goF_end (h:Gy C σ.length P l ρ σ):Ah C (fun fl σ'=>P (GU fl) σ') l ρ σ:=by
 obtain ⟨v,σ',h1,h2⟩:=h
 exact ⟨.ret v,σ',h1,h2.done⟩
end
end Mine
namespace Mine
open PySem PySem.Calls PyProof.Rows
noncomputable abbrev Row:=Nat×Str×Fn×List Str
noncomputable def GX (p:Program) (n:Str):Option Rc:=((recsOf p).find? (·.name == n)).map fun d=>⟨d.params,d.body,d.scope⟩
noncomputable def clsP:Str:=Str.ofString "Weave"
noncomputable def clsR (p:Program) (loose:List Str):Option ClsRec:=(plainsOf p loose).find? (·.name == clsP)
noncomputable def recM (p:Program) (loose:List Str) (n:Str):Option Rc:=(clsR p loose).bind fun c=>(c.meths.find? (·.name == n)).map fun m=>⟨m.params,m.body,m.scope⟩
noncomputable def DA (o:Option Rc):List Stmt:=match o with | some r=>r.body | none=>[]
noncomputable def Hb (o:Option Rc) (lam:Option (Addr×Str)) (x:Row):Bool:=match o with | some r=>okRc lam x.2.2.1 x.2.2.2 r | none=>false
noncomputable def G2 (n:Str):Str:=(n++(".<locals>." : Str))++("<lambda>" : Str)
theorem E7 {o:Option Rc} {lam:Option (Addr×Str)} {x:Row} (h:Hb o lam x=true):∃ r,o=some r/\okRc lam x.2.2.1 x.2.2.2 r=true:=by
 cases o with
 | none=>exact ff_ h
 | some r=>exact ⟨r,rfl,h⟩
noncomputable def hide (h:Heap) (t:Addr):Heap:=h.update t fun o=>{ o with data:=.freed }
theorem hide_other {h:Heap} {t a:Addr} (hab:a≠t):(hide h t).get? a=h.get? a:=Heap.get?_update_other h _ (Ne.symm hab)
theorem hide_self {h:Heap} {t:Addr}:(hide h t).get? t=none:=by
 cases hq:h.objs[t]? with
 | none =>
  have e2:(hide h t).objs[t]? = none:=by
   show (h.objs.modify t fun o=>{ o with data:=.freed })[t]? = _
   rw [Array.getElem?_modify,if_pos rfl,hq]; rfl
  unfold Heap.get?
  rw [e2]
 | some o' =>
  have e2:(hide h t).objs[t]? = some { o' with data:=.freed }:=by
   show (h.objs.modify t fun o=>{ o with data:=.freed })[t]? = _
   rw [Array.getElem?_modify,if_pos rfl,hq]; rfl
  unfold Heap.get?
  rw [e2]
noncomputable def hides (h:Heap):List Addr->Heap
 | []=>h
 | t::r=>hide (hides h r) t
theorem FR {h:Heap} {a:Addr}:∀ {ts:List Addr},a∉ts->(hides h ts).get? a=h.get? a
 | [],_=>rfl
 | t::r,q=>(hide_other fun (e:a=t)=>q (e▸.head _)).trans (FR fun m=>q (.tail _ m))
theorem hides_in {h:Heap} {a:Addr}:∀ {ts:List Addr},a∈ts->(hides h ts).get? a=none
 | t::r,q=>by
  by_cases e:a=t
  ·rw [e]; exact hide_self
  ·exact (hide_other e).trans (hides_in ((List.mem_cons.mp q).resolve_left e))
section
variable {p:Program} {loose:List Str} {mean:ExcName->Option Value} {mg mb mN:Str->Option Value} {T:Mine.Top} {h:Heap} {ts:List Addr}
structure Hid (T:Mine.Top) (h:Heap) (ts:List Addr):Prop where
 h0:T.h0=hides h ts
 tab:∀ t,t∈ts->h.get? t=some (W.tabObj #[])
theorem Hid.get (H:Hid T h ts) {a:Addr} {o:Obj} (e:h.get? a=some o) (hd:o.data≠.fields #[]):T.h0.get? a=some o:=by
 rw [H.h0,FR fun q=>hd (by rw [H.tab a q] at e; rw [<-Option.some.inj e])]
 exact e
theorem Hid.ns (H:Hid T h ts) {a:Addr} {m:Str->Option Value} (x:h.Ns a m):T.h0.Ns a m :=
 let ⟨o,es,ep,e,d,r⟩:=x; ⟨o,es,ep,H.get e (by rw [d]; exact fun q=>nomatch q),d,r⟩
theorem Hid.code (H:Hid T h ts) {cd:Value} {q:Str} (x:h.CodeRec cd q):T.h0.CodeRec cd q :=
 let ⟨c,o,vs,t,e,g,d,r⟩:=x; ⟨c,o,vs,t,e,H.get g (fun w=>by rw [d] at w; injection w with w; rw [w] at r; exact Ac r),d,r⟩
theorem Hid.hd (H:Hid T h ts) {c t:Addr} (x:W.CodeHd h c t):W.CodeHd T.h0 c t :=
 let ⟨o,vs,file,tf,flags,tg,inF,text,tt,e,a,b,c',d,f,g,i,j,hne⟩:=x; ⟨o,vs,file,tf,flags,tg,inF,text,tt,H.get e (fun w=>by rw [b] at w; injection w with w; rw [w] at c'; exact Ac c'),a,b,c',d,f,g,i,j,hne⟩
theorem fnOk_of (Tp:PyProof.Rows.Top p loose mean mg mb h) (H:Hid T h ts) {x:Row} {lam:Option (Addr×Str)} (hk:Hb (GX p x.2.1) lam x=true) (hem:(emS x.2.2.1.body).2 (DA (GX p x.2.1))=DA (GX p x.2.1)) {a:Addr} (ha:mg x.2.1=some (.ref a))
 (hl:∀ t q,lam=some (t,q)->(t,q)∈T.tabs/\G2 x.2.1=q/\∀ o fd,h.get? a=some o->o.data=.func fd->∃ c,fd.code=.ref c/\W.CodeHd h c t):FnOk T glP x.2.2.1 a:=by
 obtain ⟨r,hr,hk⟩:=E7 hk
 rw [hr] at hem
 obtain ⟨d,hd,rfl⟩:=Option.map_eq_some_iff.mp hr
 have hm:=List.mem_of_find?_eq_some hd
 have hn:d.name=x.2.1:=eq_of_beq (show (d.name == x.2.1)=true from List.find?_some (p:=fun (y:DefRec)=>y.name == x.2.1) hd)
 obtain ⟨a',o,pm,code,doc,e1,e2,e3,e4⟩:=Tp.fn d hm
 rw [hn,ha] at e1
 obtain rfl:=Value.ref.inj (Option.some.inj e1)
 refine fun R_ k=>k _ _ o x.2.2.2 lam (fnIs_of hk hem (H.get e2 (by rw [e3]; exact fun q=>nomatch q)) e3 (H.code e4) rfl rfl rfl rfl rfl rfl rfl rfl fun t q e=>?_)
 obtain ⟨h1,h2,h3⟩:=hl t q e
 obtain ⟨c,c1,c2⟩:=h3 o _ e2 e3
 exact ⟨h1,by rw [<-h2,<-hn]; rfl,c,c1,H.hd c2⟩
theorem mtOk_of {c:ClsRec} {C N:Addr} (hc:clsR p loose=some c) (P:PlainAt h c C N mN) (H:Hid T h ts) {x:Row} (hk:Hb (recM p loose x.2.1) none x=true) (hem:(emS x.2.2.1.body).2 (DA (recM p loose x.2.1))=DA (recM p loose x.2.1)):∃ a o,mN x.2.1=some (.ref a)/\T.h0.get? a=some o/\o.cls=.type "function"/\(∃ fd,o.data=.func fd)/\FnOk T glP x.2.2.1 a:=by
 obtain ⟨r,hr,hk⟩:=E7 hk
 rw [hr] at hem
 obtain ⟨c',hc',hr⟩:=Aa hr
 obtain rfl:=Av hc hc'
 obtain ⟨m,hm,rfl⟩:=Option.map_eq_some_iff.mp hr
 have hn:m.name=x.2.1:=eq_of_beq (show (m.name == x.2.1)=true from List.find?_some (p:=fun (y:MethRec)=>y.name == x.2.1) hm)
 obtain ⟨f,o,pm,cd,doc,e1,e2,e3,e4,e5⟩:=P.meths m (List.mem_of_find?_eq_some hm)
 have ho:=H.get e2 (by rw [e4]; exact fun q=>nomatch q)
 exact ⟨f,o,hn▸e1,ho,e3,⟨_,e4⟩,fun R_ k=>k _ _ o x.2.2.2 none (fnIs_of hk hem ho e4 (H.code e5) rfl rfl rfl rfl rfl rfl rfl rfl fun t q e=>Ac e)⟩
noncomputable def freeOk (p:Program) (loose:List Str) (x:Str):Bool :=
 !startupNames.contains x&&(!loose.contains x&&(!((recsOf p).map (·.name)).contains x&&(!((litsOf p).map (·.1)).contains x&&(!((clssOf p loose).map (·.name)).contains x && !(x == ("__name__" : Str))))))
theorem El {x:Str} {l:List Str} (h:(!l.contains x)=true):x∉l:=fun hm=>by rw [List.contains_iff_mem.mpr hm] at h; exact ff_ h
theorem free_of (Tp:PyProof.Rows.Top p loose mean mg mb h) {x:Str} (hf:freeOk p loose x=true):mg x=none/\mb x=bootBuiltins x :=
 ⟨Tp.free x (El (A4 hf)) (El (A4 (Ak hf))) (El (A4 (Ak (Ak hf)))) (El (A4 (Ak (Ak (Ak hf))))) (El (A4 (Ak (Ak (Ak (Ak hf)))))),Tp.builtins x fun e=>by
  have q:=Ak (Ak (Ak (Ak (Ak hf))))
  rw [e,beq_self_eq_true] at q; exact ff_ q⟩
noncomputable def isInt (d:PyData):Bool:=match d with | .int _=>true | .str z=>Nat.ble z.length 16777216 | _=>false
noncomputable def okGl (p:Program) (loose:List Str) (e:Str×GV):Bool :=
 match e.2 with
 | .fn f=>(Dw.find? fun x=>Nat.beq x.1 f).any fun x=>x.2.1 == e.1
 | .bi b=>freeOk p loose e.1&&(bootBuiltins e.1 == some (AZ b))
 | .ty t=>freeOk p loose e.1&&(bootBuiltins e.1 == some (.type t))
 | .cst d=>isInt d&&(match valOf p e.1 with | some d'=>FW d' d | none=>false)
 | .cls=>e.1 == clsP
noncomputable def refOf (v:Value):Option Addr:=match v with | .ref a=>some a | _=>none
theorem DN {o:Option Value} {a:Addr} (h:o.bind refOf=some a):o=some (.ref a):=by
 obtain ⟨v,rfl,h⟩:=Aa h
 cases v with
 | ref b=>rw [Option.some.inj (show some b=some a from h)]
 | _=>exact Ac h
noncomputable def Gm (mg mN:Str->Option Value) (f:Nat):Option Addr :=
 match Dw.find? fun x=>Nat.beq x.1 f with
 | some x=>(mg x.2.1).bind refOf
 | none=>(match Dd.find? fun x=>Nat.beq x.1 f with | some x=>(mN x.2.1).bind refOf | none=>none)
theorem Fo {f:Nat} {x:Row} (hx:(Dw.find? fun x=>Nat.beq x.1 f)=some x):Gm mg mN f=(mg x.2.1).bind refOf:=by unfold Gm; rw [hx]
theorem fnsOf_mt {f:Nat} {x:Row} (h0:(Dw.find? fun x=>Nat.beq x.1 f)=none) (hx:(Dd.find? fun x=>Nat.beq x.1 f)=some x):Gm mg mN f=(mN x.2.1).bind refOf:=by unfold Gm; rw [h0,hx]
theorem Dy {l:List Row} {f:Nat} {x:Row} (h:(l.find? fun x=>Nat.beq x.1 f)=some x):x.1=f/\x∈l:=⟨Nat.eq_of_beq_eq_true (List.find?_some (p:=fun (x:Row)=>Nat.beq x.1 f) h),List.mem_of_find?_eq_some h⟩
theorem any_some {α:Type} {f:α->Bool} {o:Option α} (h:o.any f=true):∃ d,o=some d/\f d=true:=by
 cases o with
 | none=>exact ff_ h
 | some d=>exact ⟨d,rfl,h⟩
structure TextOk (p:Program) (loose:List Str) (lamOf:Nat->Option (Addr×Str)):Prop where
 fok:∀ x,x∈Dw->Hb (GX p x.2.1) (lamOf x.1) x=true
 fem:∀ x,x∈Dw->(emS x.2.2.1.body).2 (DA (GX p x.2.1))=DA (GX p x.2.1)
 mok:∀ x,x∈Dd->Hb (recM p loose x.2.1) none x=true
 mem:∀ x,x∈Dd->(emS x.2.2.1.body).2 (DA (recM p loose x.2.1))=DA (recM p loose x.2.1)
 gok:∀ e,e∈glsP->okGl p loose e=true
 att:∀ x,x∈Dd->x.2.1∉Cu
 apart:∀ x,x∈Dd->(Dw.find? fun y=>Nat.beq y.1 x.1)=none
 self:∀ x,x∈Dd->(Dd.find? fun y=>Nat.beq y.1 x.1)=some x
theorem prog_of {lamOf:Nat->Option (Addr×Str)} {c:ClsRec} {C N:Addr} (K:TextOk p loose lamOf) (Tp:PyProof.Rows.Top p loose mean mg mb h) (hc:clsR p loose=some c) (hst:∀ nm,nm∈Cu->nm∈c.statics) (hC:mg clsP=some (.ref C)) (P:PlainAt h c C N mN) (eC:C=T.cls) (eF:T.fn=Gm mg mN) (H:Hid T h ts) (S:h.NoSeer) (ht:T.prog.given.tree=none) (htf:∀ t q q',(t,q)∈T.tabs->(t,q')∈T.tabs->q=q')
 (hl:∀ x t q,x∈Dw->lamOf x.1=some (t,q)->(t,q)∈T.tabs/\G2 x.2.1=q/\∀ a o fd,mg x.2.1=some (.ref a)->h.get? a=some o->o.data=.func fd->∃ c,fd.code=.ref c/\W.CodeHd h c t):ProgOk T:=by
 have fnA:∀ x,x∈Dw->∃ a o fd,mg x.2.1=some (.ref a)/\h.get? a=some o/\o.data=.func fd:=fun x hx=>by
  obtain ⟨r,hr,_⟩:=E7 (K.fok x hx)
  obtain ⟨d,hd,rfl⟩:=Option.map_eq_some_iff.mp hr
  have hn:d.name=x.2.1:=eq_of_beq (show (d.name == x.2.1)=true from List.find?_some (p:=fun (y:DefRec)=>y.name == x.2.1) hd)
  obtain ⟨a',o,pm,code,doc,e1,e2,e3,e4⟩:=Tp.fn d (List.mem_of_find?_eq_some hd)
  exact ⟨a',o,_,hn▸e1,e2,e3⟩
 obtain ⟨mc,n1,n2⟩:=Tp.nolimit
 obtain ⟨mm,m1,m2⟩:=S.mods
 obtain ⟨mc',c1,c2⟩:=S.statics
 obtain ⟨mb',i1,i2⟩:=S.imp
 obtain ⟨mg',bm0,ob0,g1,g2,g3,g4⟩:=S.main
 obtain ⟨bm,ob,b1,b2,b3,b4,b5,b6⟩:=Tp.bmain
 have hob:=H.get b3 (by rw [b6]; exact fun q=>nomatch q)
 have fnD:∀ f a,T.fn f=some a->∃ o fd,T.h0.get? a=some o/\o.data=.func fd:=fun f a e=>by
  rw [eF] at e
  cases hx:Dw.find? fun x=>Nat.beq x.1 f with
  | some x =>
   rw [Fo hx] at e
   obtain ⟨a',o,fd,e1,e2,e3⟩:=fnA x (Dy hx).2
   obtain rfl:=Value.ref.inj (Av (DN e) e1)
   exact ⟨o,fd,H.get e2 (by rw [e3]; exact fun q=>nomatch q),e3⟩
  | none =>
   cases hy:Dd.find? fun x=>Nat.beq x.1 f with
   | none=>unfold Gm at e; rw [hx,hy] at e; exact Ac e
   | some x =>
    rw [fnsOf_mt hx hy] at e
    obtain ⟨a',o,e1,e2,_,⟨fd,e3⟩,_⟩:=mtOk_of hc P H (K.mok x (Dy hy).2) (K.mem x (Dy hy).2)
    obtain rfl:=Value.ref.inj (Av (DN e) e1)
    exact ⟨o,fd,e2,e3⟩
 refine ⟨⟨⟨⟨mc,H.ns n1,n2⟩,⟨⟨mc',H.ns c1,c2⟩,⟨mm,H.ns m1,m2⟩,⟨mb',H.ns i1,i2⟩,⟨mg,bm,ob,H.ns Tp.g,b1,hob,b4,b5⟩⟩,ht,?_,htf⟩,fnD,mg,mb,H.ns Tp.g,H.ns Tp.b,fun n v hv=>?_,bm,ob,b1,b2,hob,b4,b5,b6⟩,fun f fn a hP hf=>?_,N,mN,?_,P.quiet _ ?_,P.quiet _ ?_,P.quiet _ ?_,fun nm hm=>P.quiet _ (List.mem_append_right _ (hst nm hm)),fun nm f hm=>?_⟩
 ·obtain ⟨o,es,ep,e,d,r⟩:=m1
  exact ⟨o,H.get e (by rw [d]; exact fun q=>nomatch q)⟩
 ·unfold glP at hv
  have he:=K.gok (n,v) (mem_of_lookup hv)
  cases v with
  | fn f =>
   obtain ⟨x,hx,he⟩:=any_some (show (Dw.find? fun x=>Nat.beq x.1 f).any (fun x=>x.2.1 == n)=true from he)
   obtain ⟨a,o,fd,e1,_⟩:=fnA x (Dy hx).2
   have hn:x.2.1=n:=eq_of_beq he
   exact ⟨_,⟨a,by rw [eF,Fo hx,e1]; rfl,rfl⟩,.inl (hn▸e1)⟩
  | bi b =>
   have he:(freeOk p loose n&&(bootBuiltins n == some (AZ b)))=true:=he
   obtain ⟨f1,f2⟩:=free_of Tp (A4 he)
   exact ⟨_,rfl,.inr ⟨f1,by rw [f2]; exact beq_iff_eq.mp (Ak he)⟩⟩
  | ty t =>
   have he:(freeOk p loose n&&(bootBuiltins n == some (.type t)))=true:=he
   obtain ⟨f1,f2⟩:=free_of Tp (A4 he)
   exact ⟨_,rfl,.inr ⟨f1,by rw [f2]; exact beq_iff_eq.mp (Ak he)⟩⟩
  | cst d =>
   have he:(isInt d&&(match valOf p n with | some d'=>FW d' d | none=>false))=true:=he
   have h2:=Ak he
   cases e:valOf p n with
   | none=>rw [e] at h2; exact ff_ h2
   | some d' =>
    rw [e] at h2
    obtain ⟨v,v1,v2⟩:=Tp.const n d' e
    rw [dataIs_eq (show FW d' d=true from h2)] at v2
    refine ⟨v,?_,.inl v1⟩
    have h1:=A4 he
    cases d with
    | int i=>obtain ⟨t,e,_⟩:=reads_int_inv (v2 {}); exact ⟨t,e⟩
    | str z=>obtain ⟨t,e,_⟩:=reads_str_inv (v2 {}); exact ⟨t,e,Nat.le_of_ble_eq_true h1⟩
    | _=>exact ff_ h1
  | cls=>exact ⟨_,rfl,.inl (by rw [eq_of_beq (show (n == clsP)=true from he),hC,eC])⟩
 ·unfold Pg at hP
  obtain ⟨x,hx,rfl⟩:=Option.map_eq_some_iff.mp hP
  rw [List.find?_append] at hx
  rw [eF] at hf
  cases hy:Dw.find? fun x=>Nat.beq x.1 f with
  | some y =>
   rw [hy] at hx
   obtain rfl:=Option.some.inj (show some y=some x from hx)
   rw [Fo hy] at hf
   have hm:=(Dy hy).2
   exact fnOk_of Tp H (K.fok y hm) (K.fem y hm) (DN hf) fun t q e=>by
    obtain ⟨h1,h2,h3⟩:=hl y t q hm e
    exact ⟨h1,h2,fun o fd=>h3 a o fd (DN hf)⟩
  | none =>
   rw [hy] at hx
   have hx:(Dd.find? fun x=>Nat.beq x.1 f)=some x:=hx
   rw [fnsOf_mt hy hx] at hf
   obtain ⟨a',o,e1,_,_,_,e2⟩:=mtOk_of hc P H (K.mok x (Dy hx).2) (K.mem x (Dy hx).2)
   obtain rfl:=Value.ref.inj (Av (DN hf) e1)
   exact e2
 ·rw [<-eC]
  obtain ⟨nm,q,bs,sn,sub,col,dd,k0,k1,k2,k3,k5,e⟩:=P.cls.obj
  exact ⟨⟨nm,q,bs,sn,sub,col,dd,k0,k1,k2,k3,k5,H.get e (fun q=>nomatch q)⟩,H.ns P.cls.ns⟩
 ·exact List.mem_append_left _ (.tail _ (.head _))
 ·exact List.mem_append_left _ (.tail _ (.tail _ (.head _)))
 ·exact List.mem_append_left _ (.head _)
 ·unfold mtP at hm
  obtain ⟨x,hx,rfl⟩:=Option.map_eq_some_iff.mp hm
  have hn:x.2.1=nm:=eq_of_beq (show (x.2.1 == nm)=true from List.find?_some (p:=fun (y:Row)=>y.2.1 == nm) hx)
  have hxm:=List.mem_of_find?_eq_some hx
  obtain ⟨a,o,e1,e2,e3,_,_⟩:=mtOk_of hc P H (K.mok x hxm) (K.mem x hxm)
  refine ⟨hn▸K.att x hxm,a,o,?_,hn▸e1,e2,e3⟩
  rw [eF,fnsOf_mt (K.apart x hxm) (K.self x hxm),e1]; rfl
end
end Mine
namespace Mine
set_option tactic.hygienic true
set_option maxRecDepth 100000
open PySem PyProof.Rows PySem.W
noncomputable def lo08:List Str:=PySem.W.looseW view08 []
noncomputable def lam08 (t u:Addr) (f:Nat):Option (Addr×Str):=bif Nat.beq f 8 then some (t,G2 nm1) else bif Nat.beq f 20 then some (u,G2 nm2) else none
theorem Dz {α:Type} {l:List α} {f:α->Bool} (h:l.all f=true):∀ x,x∈l->f x=true:=List.all_eq_true.mp h
theorem fok08 (t u:Addr):(Dw.all fun x=>Hb (GX view08 x.2.1) (lam08 t u x.1) x)=true:=by kernel_rfl
theorem fem08:(Dw.map fun x=>(emS x.2.2.1.body).2 (DA (GX view08 x.2.1)))=Dw.map fun x=>DA (GX view08 x.2.1):=by kernel_rfl
theorem mok08:(Dd.all fun x=>Hb (recM view08 lo08 x.2.1) none x)=true:=by kernel_rfl
theorem mem08:(Dd.map fun x=>(emS x.2.2.1.body).2 (DA (recM view08 lo08 x.2.1)))=Dd.map fun x=>DA (recM view08 lo08 x.2.1):=by kernel_rfl
theorem gok08:(glsP.all fun e=>okGl view08 lo08 e)=true:=by kernel_rfl
theorem att08:(Dd.all fun x=>!Cu.contains x.2.1)=true:=by kernel_rfl
theorem ap08:(Dd.all fun x=>(Dw.find? fun y=>Nat.beq y.1 x.1).isNone)=true:=by kernel_rfl
theorem self08:(Dd.map fun x=>Dd.find? fun y=>Nat.beq y.1 x.1)=Dd.map some:=by kernel_rfl
noncomputable def cls08:ClsRec:=(clsR view08 lo08).getD ⟨clsP,none,[],[],0,[]⟩
theorem clsr08:clsR view08 lo08=some cls08:=by kernel_rfl
theorem sta08:(Cu.all fun nm=>cls08.statics.contains nm)=true:=by kernel_rfl
theorem text08 (t u:Addr):TextOk view08 lo08 (lam08 t u) where
 fok:=Dz (fok08 t u)
 fem:=List.map_inj_left.mp fem08
 mok:=Dz mok08
 mem:=List.map_inj_left.mp mem08
 gok:=Dz gok08
 att:=fun x hx=>El (Dz att08 x hx)
 apart:=fun x hx=>none_of' (Dz ap08 x hx)
 self:=List.map_inj_left.mp self08
theorem lamn08:(Dw.all fun x=>bif Nat.beq x.1 8 then x.2.1 == nm1 else bif Nat.beq x.1 20 then x.2.1 == nm2 else true)=true:=by kernel_rfl
theorem stat08:∀ nm,nm∈Cu->nm∈cls08.statics:=fun nm hm=>List.contains_iff_mem.mp (Dz sta08 nm hm)
theorem lams08 {t u a:Addr} {q:Str} {x:Row} (hx:x∈Dw) (e:lam08 t u x.1=some (a,q)):(a=t/\q=G2 nm1/\x.2.1=nm1)\/(a=u/\q=G2 nm2/\x.2.1=nm2):=by
 have h:=Dz lamn08 x hx
 unfold lam08 at e
 cases h8:Nat.beq x.1 8 with
 | true =>
  rw [h8] at e h
  obtain ⟨q1,q2⟩:=Prod.mk.inj (Option.some.inj (show some (t,G2 nm1)=some (a,q) from e))
  exact .inl ⟨q1.symm,q2.symm,eq_of_beq h⟩
 | false =>
  rw [h8] at e h
  cases h9:Nat.beq x.1 20 with
  | true =>
   rw [h9] at e h
   obtain ⟨q1,q2⟩:=Prod.mk.inj (Option.some.inj (show some (u,G2 nm2)=some (a,q) from e))
   exact .inr ⟨q1.symm,q2.symm,eq_of_beq h⟩
  | false=>rw [h9] at e; exact Ac e
end Mine
namespace Mine
set_option tactic.hygienic true
set_option maxRecDepth 100000
open PySem PySem.Calls PyProof.Rows PySem.W
theorem ints_rep {f:Addr->Option Obj} {vs:List Value} {ns:List Int} (h:IntsAre vs ns):RepDs f (ns.map .int) vs:=by
 induction h with
 | nil=>exact trivial
 | cons n t r ih=>exact ⟨⟨t,rfl⟩,ih⟩
section
variable {w:World} {s₁:Shared} {mean:ExcName->Option Value} {mg mb mN:Str->Option Value}
theorem tab08 (Tp:PyProof.Rows.Top view08 lo08 mean mg mb s₁.heap) {n:Str} {P:Addr} (hn:(GX view08 n).isSome=true) (x:TabOf mg s₁.heap n P):(∃ c,s₁.heap.TableAt c P #[])/\∀ a o fd,mg n=some (.ref a)->s₁.heap.get? a=some o->o.data=.func fd->∃ c,fd.code=.ref c/\CodeHd s₁.heap c P:=by
 cases hr:GX view08 n with
 | none=>rw [hr] at hn; exact ff_ hn
 | some r =>
  obtain ⟨d,hd,_⟩:=Option.map_eq_some_iff.mp hr
  have hdn:d.name=n:=eq_of_beq (show (d.name == n)=true from List.find?_some (p:=fun (y:DefRec)=>y.name == n) hd)
  obtain ⟨a,o,fd,c,P',h1,h2,h3,h4,h5,h6⟩:=Tp.tab d (List.mem_of_find?_eq_some hd)
  rw [hdn] at h1
  obtain ⟨a',o',fd',c',oc,vs,e1,e2,e3,e4,e5,e6,e7⟩:=x
  obtain rfl:=Value.ref.inj (Av h1 e1)
  obtain rfl:=Av h2 e2
  obtain rfl:=Data.func.inj (h3.symm.trans e3)
  obtain rfl:=Value.ref.inj (h4.symm.trans e4)
  obtain ⟨o2,vs2,f1,f2,f3,f4⟩:=h6.1
  obtain rfl:=Av e5 f1
  obtain rfl:=Data.fields.inj (e6.symm.trans f3)
  obtain rfl:=Value.ref.inj (Av e7 f4)
  refine ⟨⟨c,h6⟩,fun a' o' fd' e1 e2 e3=>?_⟩
  obtain rfl:=Value.ref.inj (Av h1 e1)
  obtain rfl:=Av h2 e2
  obtain rfl:=Data.func.inj (h3.symm.trans e3)
  exact ⟨c,h4,.of h5 h6⟩
noncomputable abbrev top08 (w:World) (s:Shared) (mg mN:Str->Option Value) (t u C:Addr):Mine.Top:=⟨PySem.Challenge.rw_uf010019_08.row.prog,w,hides s.heap [t,u],Gm mg mN,[(t,G2 nm1),(u,G2 nm2)],s.gens,s.os,C⟩
theorem law08 (run:∀ ns:List Int,ns.length<=63->∃ σ',SSs 20 Flaw.body (B6 Flaw [.d (.list (ns.map .int))]) [] (RetIs (vb true) σ'))
 (Tp:PyProof.Rows.Top view08 lo08 mean mg mb s₁.heap) (TE:TopE view08 lo08 mg s₁.heap) (AP:Ap nm1 nm2 mg s₁.heap) {fa l:Addr} {vs:List Value} {ns:List Int} (hmg:mg (Str.ofString "law")=some (.ref fa)) (hL:s₁.heap.IsList l vs.toArray) (hI:IntsAre vs ns) (hn:ns.length<=63) {Q:Value->Shared->Prop} {E:Value->Shared->Prop}
 (hQ:∀ s',OldK s₁.heap s'.heap->s'.gens=s₁.gens->s'.os=s₁.os->Q (.bool true) s') :
 wpAny (model PySem.Challenge.rw_uf010019_08.row.prog w) callerA (call (.ref fa) [.ref l]) Q E s₁:=by
 obtain ⟨t,u,t1,u1,htu⟩:=AP
 obtain ⟨⟨ct,t2⟩,t3⟩:=tab08 Tp (by kernel_rfl) t1
 obtain ⟨⟨cu,u2⟩,u3⟩:=tab08 Tp (by kernel_rfl) u1
 obtain ⟨C,N,mN,hC,P⟩:=TE.topC cls08 (List.mem_of_find?_eq_some clsr08)
 have hcn:cls08.name=clsP:=eq_of_beq (show (cls08.name == clsP)=true from List.find?_some (p:=fun (y:ClsRec)=>y.name == clsP) clsr08)
 rw [hcn] at hC
 have H:Hid (top08 w s₁ mg mN t u C) s₁.heap [t,u]:=⟨rfl,all_cons t2.2 (A8 u2.2)⟩
 have ok:ProgOk (top08 w s₁ mg mN t u C):=by
  refine prog_of (text08 t u) Tp clsr08 stat08 hC P rfl rfl H (Tp.seer (by decide +kernel)) rfl (fun a q q' h h'=>?_) fun x a q hx e=>?_
  ·rcases List.mem_cons.mp h with h | h <;> rcases List.mem_cons.mp h' with h' | h'
   ·rw [(Prod.mk.inj h).2,(Prod.mk.inj h').2]
   ·exact absurd ((Prod.mk.inj h).1.symm.trans (Prod.mk.inj (List.mem_singleton.mp h')).1) htu
   ·exact absurd ((Prod.mk.inj h').1.symm.trans (Prod.mk.inj (List.mem_singleton.mp h)).1) htu
   ·rw [(Prod.mk.inj (List.mem_singleton.mp h)).2,(Prod.mk.inj (List.mem_singleton.mp h')).2]
  ·rcases lams08 hx e with ⟨q1,q2,q3⟩ | ⟨q1,q2,q3⟩
   ·rw [q1,q2,q3]; exact ⟨.head _,rfl,t3⟩
   ·rw [q1,q2,q3]; exact ⟨.tail _ (.head _),rfl,u3⟩
 have hfa:(top08 w s₁ mg mN t u C).fn 34=some fa:=by
  show Gm mg mN 34=some fa
  rw [Fo (x:=(34,Str.ofString "law",Flaw,_)) rfl,hmg]; rfl
 obtain ⟨o,ho,hc,m,hd⟩:=hL
 have hne:∀ a,a∈[t,u]->l≠a:=all_cons (fun e=>by
  subst e
  have:=congrArg Obj.data (Av ho t2.2)
  rw [hd] at this; cases this) (A8 fun e=>by
  subst e
  have:=congrArg Obj.data (Av ho u2.2)
  rw [hd] at this; cases this)
 let g:G:=⟨fun a=>if a∈[t,u] then none else s₁.heap.get? a,fun _=>none,[]⟩
 have gne:∀ {a:Addr},a∉[t,u]->g.fz a=s₁.heap.get? a:=fun h=>if_neg h
 have geq:∀ {a:Addr},a∈[t,u]->g.fz a=none:=fun h=>if_pos h
 have gz:∀ {a:Addr} {o:Obj},g.fz a=some o->s₁.heap.get? a=some o:=fun {a o} e=>by
  by_cases q:a∈[t,u]
  ·exact Aq (geq q) e
  ·rw [gne q] at e; exact e
 have tabs:∀ a,a∈[t,u]->s₁.heap.get? a=some (tabObj #[]):=all_cons t2.2 (A8 u2.2)
 have has:Has (top08 w s₁ mg mN t u C) g [] s₁:=by
  refine ⟨fun a o e=>gz e,fun a o e=>Ac e,rfl,List.nodup_nil,(fun a h=>nomatch h),fun a o e=>Ac e,fun k a o _ e=>Ac e,fun a o e=>?_,fun a q h R_ k=>?_,rfl,rfl⟩
  ·have e:(hides s₁.heap [t,u]).get? a=some o:=e
   by_cases q:a∈[t,u]
   ·exact Aq (hides_in q) e
   ·rw [FR q] at e; exact (gne q).trans e
  ·have hm:a∈[t,u]:=by
    rcases List.mem_cons.mp h with h | h
    ·rw [(Prod.mk.inj h).1]; exact .head _
    ·rw [(Prod.mk.inj (List.mem_singleton.mp h)).1]; exact .tail _ (.head _)
   exact k #[] (geq hm) rfl ((fun h=>nomatch h)) (tabs a hm) trivial fun pos cv e=>Ac e
 have r:Am (top08 w s₁ mg mN t u C) g [.d (.list (ns.map .int))] [.ref l]:=⟨fun R_ k=>k l o vs.toArray m ((gne fun q=>hne l q rfl).trans ho) hc hd (by rw [List.toList_toArray]; exact ints_rep hI) (by rw [List.length_map]; exact Nat.le_trans hn (by decide)),trivial⟩
 obtain ⟨σ',hrun⟩:=run ns hn
 have fin:=FN.run (f:=34) (fn:=Flaw) (n:=20) (r:=⟨top08 w s₁ mg mN t u C,[],callerA⟩) (by unfold Pg; rfl) rfl hrun (by decide) hfa ok rfl (show callerA.depth+(20+1)<=600 by decide) (show callerA.units+100 * (20+1)<=9000 by decide) rfl has r
 refine wpAny_mono fin (fun x s' p=>p _ fun g' le H' rx=>?_) fun _ _ h=>h.elim
 obtain rfl:x=.bool true:=rx
 have keep:∀ b o,b∉[t,u]->s₁.heap.get? b=some o->s'.heap.get? b=some o:=fun b o q e=>H'.fz b o (le.fz b o ((gne q).trans e))
 have tab:∀ a,a∈[t,u]->∃ ps,s'.heap.get? a=some (tabObj ps):=all_cons (H'.tb t (G2 nm1) (.head _) _ fun ps _ _ _ h _ _=>⟨ps,h⟩) (A8 (H'.tb u (G2 nm2) (.tail _ (.head _)) _ fun ps _ _ _ h _ _=>⟨ps,h⟩))
 have ist:∀ a,a∈[t,u]->isCodeTable s₁.heap a:=all_cons t2.isCodeTable (A8 u2.isCodeTable)
 refine hQ s' ⟨fun b o e=>?_,fun b o e=>?_⟩ H'.gens H'.os
 ·by_cases q:b∈[t,u]
  ·obtain ⟨ps,hps⟩:=tab b q
   obtain rfl:=Av (tabs b q) e
   exact .inr (.inl ⟨ist b q,rfl,#[],ps,rfl,by rw [Array.empty_append]; exact hps⟩)
  ·exact .inl (keep b o q e)
 ·by_cases q:b∈[t,u]
  ·obtain ⟨ps,hps⟩:=tab b q; exact ⟨_,hps⟩
  ·exact ⟨o,keep b o q e⟩
end
end Mine
namespace Mine
open PySem
noncomputable def Tx (l:List Nat):Str:=⟨l.toArray⟩
theorem Tx_app (a b:List Nat):Tx a++Tx b=Tx (a++b):=by
 show Str.append _ _=_
 simp [Str.append,Tx]
theorem Gc (a:List Nat):(Tx a).length=a.length:=by simp [Str.length,Tx]
theorem Tx_size (a:List Nat):(Tx a).cps.size=a.length:=by simp [Tx]
theorem Tx_list (a:List Nat):(Tx a).cps.toList=a:=by simp [Tx]
theorem Gd {a b:List Nat} (h:Tx a=Tx b):a=b:=by
 have:=congrArg (fun s=>s.cps.toList) h
 simpa [Tx] using this
theorem Tx_eta (x:Str):Tx x.cps.toList=x:=by simp [Tx]
theorem Tx_cut (lo hi:Option Int) (a:List Nat):cutS lo hi (Tx a)=Tx (Ct lo hi a):=by simp [cutS,Tx]
theorem Tx_at (a:List Nat) (i:Int):Txt.charAt (Tx a) i=(seqIndex? i a.length).bind (a[·]?):=by
 simp [Txt.charAt,Tx,Str.length]
theorem Tx_lt (a b:List Nat):AX (Tx a) (Tx b)=decide (a < b):=by
 unfold AX; congr
theorem Tx_beq (a b:List Nat):(Tx a == Tx b)=decide (a=b):=by
 by_cases h:a=b
 ·subst h; simp
 ·have h1:Tx a≠Tx b:=fun e=>h (Gd e)
  simp [h,h1]
noncomputable abbrev vs (l:List Nat):V:=.d (.str (Tx l))
noncomputable abbrev dl (l:List (List Nat)):PyData:=.list (l.map fun t=>.str (Tx t))
section
variable {O:Orc} {ρ:Af} {σ:Ab} {a b c r i es z o elt it ifs lo hi:E} {op:Operator} {cop:CmpOp} {bop:BoolOp}
theorem v_bin:(ev O (.bin op a b)).v ρ σ=((ev O a).v ρ σ).bind fun x=>((ev O b).v ρ σ).bind fun y=>Ft op x y σ:=rfl
theorem t_not:(ev O (.not a)).t ρ σ=notO ((ev O a).t ρ σ):=rfl
theorem v_cmp:(ev O (.cmp cop a b)).v ρ σ=((ev O a).v ρ σ).bind fun x=>((ev O b).v ρ σ).bind fun y=>(BB cop x y σ).bind fun t=>some (vb t):=rfl
theorem t_cmp:(ev O (.cmp cop a b)).t ρ σ=((ev O a).v ρ σ).bind fun x=>((ev O b).v ρ σ).bind fun y=>BB cop x y σ:=rfl
theorem v_tup:(ev O (.tup es)).v ρ σ=((ev O es).row ρ σ).bind tupV:=rfl
theorem v_sub:(ev O (.sub a i)).v ρ σ=((ev O a).v ρ σ).bind fun x=>((ev O i).v ρ σ).bind fun y=>Bk x y σ:=rfl
theorem v_bi {b:Bi}:(ev O (.bi b es)).v ρ σ=((ev O es).row ρ σ).bind (Bx b σ):=rfl
theorem v_fcall {f:Nat}:(ev O (.fcall f es)).v ρ σ=((ev O es).row ρ σ).bind fun xs=>O f xs σ:=rfl
theorem r_cons:(ev O (.cons a r)).row ρ σ=((ev O a).v ρ σ).bind fun x=>((ev O r).row ρ σ).bind fun xs=>some (x::xs):=rfl
theorem t_bop:(ev O (.bop bop es)).t ρ σ=(ev O es).bt bop ρ σ:=rfl
theorem t_fcall {f:Nat}:(ev O (.fcall f es)).t ρ σ=(((ev O es).row ρ σ).bind fun xs=>O f xs σ).bind (DG σ):=rfl
theorem t_bi {b:Bi}:(ev O (.bi b es)).t ρ σ=(((ev O es).row ρ σ).bind (Bx b σ)).bind (DG σ):=rfl
theorem FY:(ev O (.cons a r)).bt bop ρ σ=((ev O a).t ρ σ).bind fun t=>bif t == Cp bop then some t else (ev O r).bt bop ρ σ:=rfl
theorem s_cons:(ev O (.cons a r)).ts ρ σ=((ev O a).t ρ σ).bind fun t=>bif t then (ev O r).ts ρ σ else some false:=rfl
theorem v_slc:(ev O (.slc a lo hi)).v ρ σ=((ev O a).v ρ σ).bind fun x=>(optI lo (ev O lo).v ρ σ).bind fun l=>(optI hi (ev O hi).v ρ σ).bind fun h=>slice σ x l h:=rfl
theorem bs {α β:Type} {a:α} {f:α->Option β}:(some a).bind f=f a:=rfl
end
section
variable {σ:Ab} {i j:Int} {x y:V}
theorem Fw (h:(small i||small j)=true):Ft .Mult (vi i) (vi j) σ=some (vi (i * j)):=by
 show (if (small i||small j)=true then some (i * j) else none).bind _=_
 rw [if_pos h]; rfl
theorem BW (h:j≠0):Ft .FloorDiv (vi i) (vi j) σ=some (vi (i.fdiv j)):=by
 show (if j=0 then none else some (i.fdiv j)).bind _=_
 rw [if_neg h]; rfl
theorem AD (h:j≠0):Ft .Mod (vi i) (vi j) σ=some (vi (i.fmod j)):=by
 show (if j=0 then none else some (i.fmod j)).bind _=_
 rw [if_neg h]; rfl
theorem b_cat (a b:List Nat) (h:a.length+b.length<=line):Ft .Add (vs a) (vs b) σ=some (vs (a++b)):=by
 show (if (Tx a).length+(Tx b).length<=line then some (V.d (.str (Tx a++Tx b))) else none)=_
 rw [if_pos (by rw [Gc,Gc]; exact h),Tx_app]
theorem CJ (l:List PyData):Di (l.map .d)=some l:=by
 induction l with
 | nil=>rfl
 | cons x r ih =>
  show (Di (r.map .d)).bind (fun xs=>some (x::xs))=_
  rw [ih]; rfl
theorem mkLT (l:List PyData) (h:l.length<=line):mkL (l.map .d)=some (.d (.list l)):=by
 unfold mkL
 rw [if_pos (by rw [List.length_map]; exact h),CJ]; rfl
theorem b_catL (a b:List PyData) (h:a.length+b.length<=line):Ft .Add (.d (.list a)) (.d (.list b)) σ=some (.d (.list (a++b))):=by
 show ((if (a.map V.d).length+(b.map V.d).length<=line then some (a.map V.d++b.map V.d) else none).bind mkL)=_
 rw [if_pos (by rw [List.length_map,List.length_map]; exact h),<-List.map_append]
 exact mkLT _ (by rw [List.length_append]; exact h)
theorem len_s {l:List Nat}:Bx .len σ [vs l]=some (vi l.length):=by
 show some (vi ((Tx l).cps.size:Nat))=_
 rw [Tx_size]
theorem Cs {l:List PyData}:Bx .len σ [.d (.list l)]=some (vi l.length):=by
 show some (vi ((l.map V.d).length:Nat))=_
 rw [List.length_map]
theorem len_r {k:Nat} {ws:List V} (h:σ[k]? = some (.list ws)):Bx .len σ [.ref k]=some (vi ws.length):=by
 show (Cr σ[k]?).bind _=_
 rw [h]; rfl
theorem lst_r {k:Nat} {ws:List V} (h:σ[k]? = some (.list ws)):Ax σ (.ref k)=some ws:=by
 show Cr σ[k]? = _
 rw [h]; rfl
theorem B5:BB .Eq (vi i) (vi j) σ=some (decide (i=j)):=by
 show some (i == j)=_
 by_cases h:i=j
 ·rw [decide_eq_true h,beq_iff_eq.mpr h]
 ·rw [decide_eq_false h,beq_eq_false_iff_ne.mpr h]
theorem EB {a b:List Nat}:BB .Eq (vs a) (vs b) σ=some (decide (a=b)):=by
 show some (Tx a == Tx b)=_
 rw [Tx_beq]
theorem FI {a b:List Nat}:BB .NotEq (vs a) (vs b) σ=some (!decide (a=b)):=by
 show notO (some (Tx a == Tx b))=_
 rw [Tx_beq]; rfl
theorem c_lt:BB .Lt (vi i) (vi j) σ=some (decide (i < j)):=rfl
theorem c_gt:BB .Gt (vi i) (vi j) σ=some (decide (i > j)):=rfl
theorem c_ge:BB .GtE (vi i) (vi j) σ=some (decide (i ≥ j)):=rfl
theorem c_nin:BB .NotIn x y σ=notO (inV σ x y):=rfl
theorem c_in:BB .In x y σ=inV σ x y:=rfl
theorem inD_str (a:List Nat) (l:List (List Nat)):inD (.str (Tx a)) (l.map fun t=>.str (Tx t))=some (decide (a∈l)):=by
 induction l with
 | nil=>rfl
 | cons b l ih =>
  show (some (Tx b == Tx a)).bind (fun x=>(inD (.str (Tx a)) (l.map fun t=>.str (Tx t))).bind fun y=>some (x||y))=_
  rw [ih,Tx_beq]
  show some (decide (b=a)||decide (a∈l))=_
  rw [<-Bool.decide_or]
  congr 1
  exact decide_eq_decide.mpr (by rw [List.mem_cons,eq_comm])
theorem Dt (a:List Nat) (l:List (List Nat)):inV σ (vs a) (.d (dl l))=some (decide (a∈l)):=inD_str a l
theorem in_ref {k:Nat} {a:List Nat} {l:List (List Nat)} (h:σ[k]? = some (.list (l.map vs))):inV σ (vs a) (.ref k)=some (decide (a∈l)):=by
 show inO σ (vs a) k σ[k]? = _
 rw [h]
 show (lstD (Cr σ[k]?)).bind _=_
 rw [h]
 show ((Di (l.map vs)).bind fun xs=>some (PyData.list xs)).bind _=_
 rw [show l.map vs=(l.map fun t=>PyData.str (Tx t)).map V.d by rw [List.map_map]; rfl,CJ]
 exact inD_str a l
theorem seqI {k:Int} {n:Nat} (h0:0<=k) (h:k < n):seqIndex? k n=some k.toNat:=by
 have h1:¬ k < 0:=by lia
 simp [seqIndex?,h1,h0,h]
theorem small_of (h1:-1000000000000 < i) (h2:i < 1000000000000):small i=true:=by simp [small]; lia
theorem nth_at {ws:List V} {v:V} (k:Int) (h0:0<=k) (hs:k < 9223372036854775808) (h:ws[k.toNat]? = some v):nth ws k=some v:=by
 have h1:k.toNat < ws.length:=(List.getElem?_eq_some_iff.mp h).1
 unfold nth
 rw [if_pos (by simp [small]; lia),seqI h0 (by lia)]
 exact h
theorem Fy {l:List PyData} {y:PyData} (k:Int) (h0:0<=k) (hs:k < 9223372036854775808) (h:l[k.toNat]? = some y):Bk (.d (.list l)) (vi k) σ=some (.d y) :=
 nth_at (ws:=l.map .d) k h0 hs (by rw [List.getElem?_map,h]; rfl)
theorem at_ref {ws:List V} {v:V} {j:Nat} (k:Int) (h0:0<=k) (hs:k < 9223372036854775808) (hj:σ[j]? = some (.list ws)) (h:ws[k.toNat]? = some v):Bk (.ref j) (vi k) σ=some v:=by
 show subO σ (vi k) σ[j]? = _
 rw [hj]; exact nth_at k h0 hs h
theorem at_text {l:List Nat} {y:Nat} (k:Int) (h0:0<=k) (hs:k < 9223372036854775808) (h:l[k.toNat]? = some y):Bk (vs l) (vi k) σ=some (vs [y]):=by
 have h1:k.toNat < l.length:=(List.getElem?_eq_some_iff.mp h).1
 show (if small k=true then (Txt.charAt (Tx l) k).bind fun c=>some (V.d (.str (chr1 c))) else none)=_
 rw [if_pos (by simp [small]; lia),Tx_at,seqI h0 (by lia)]
 show (l[k.toNat]?).bind _=_
 rw [h]; rfl
theorem nth_last {ws:List V} {v:V} (h:ws[ws.length-1]? = some v):nth ws (-1)=some v:=by
 have h1:=(List.getElem?_eq_some_iff.mp h).1
 unfold nth
 rw [if_pos (by decide)]
 have h4:(0:Int) <= -1+ws.length:=by lia
 have h5:(-1+(ws.length:Int)) < ws.length:=by lia
 have h6:(-1+(ws.length:Int)).toNat=ws.length-1:=by lia
 rw [show seqIndex? (-1) ws.length=some (ws.length-1) by simp [seqIndex?,h4,h5,h6]]
 exact h
theorem clip_nat (n k:Nat):clipAt n (k:Int)=min k n:=by
 show (max 0 (min (if (k:Int) < 0 then (k:Int)+n else k) n)).toNat=_
 rw [if_neg (Int.not_lt.mpr (Int.natCast_nonneg k))]
 rcases Nat.le_total k n with h | h
 ·rw [Int.min_eq_left (Int.ofNat_le.mpr h),Nat.min_eq_left h,Int.max_eq_right (Int.natCast_nonneg _)]; rfl
 ·rw [Int.min_eq_right (Int.ofNat_le.mpr h),Nat.min_eq_right h,Int.max_eq_right (Int.natCast_nonneg _)]; rfl
theorem cut_to {α:Type} (l:List α) (k:Nat):Ct none (some (k:Int)) l=l.take k:=by
 have:=clip_nat l.length k
 simp only [Ct,Option.elim,this,List.drop_zero,Nat.sub_zero]
 rcases Nat.le_total k l.length with h | h
 ·rw [Nat.min_eq_left h]
 ·rw [Nat.min_eq_right h,List.take_of_length_le (Nat.le_refl _),List.take_of_length_le h]
theorem cut_from {α:Type} (l:List α) (k:Nat):Ct (some (k:Int)) none l=l.drop k:=by
 have:=clip_nat l.length k
 simp only [Ct,Option.elim,this]
 rcases Nat.le_total k l.length with h | h
 ·rw [Nat.min_eq_left h,List.take_of_length_le (by simp)]
 ·rw [Nat.min_eq_right h]; simp [List.drop_eq_nil_of_le h]
theorem sl_to {a:List Nat} (k:Nat):slice σ (vs a) none (some (k:Int))=some (vs (a.take k)):=by
 show some (V.d (.str (cutS none (some (k:Int)) (Tx a))))=_
 rw [Tx_cut,cut_to]
theorem sl_from {a:List Nat} (k:Nat):slice σ (vs a) (some (k:Int)) none=some (vs (a.drop k)):=by
 show some (V.d (.str (cutS (some (k:Int)) none (Tx a))))=_
 rw [Tx_cut,cut_from]
theorem sl_toZ {a:List Nat} (h0:0<=i):slice σ (vs a) none (some i)=some (vs (a.take i.toNat)):=by
 rw [<-sl_to,Int.toNat_of_nonneg h0]
theorem sl_fromZ {a:List Nat} (h0:0<=i):slice σ (vs a) (some i) none=some (vs (a.drop i.toNat)):=by
 rw [<-sl_from,Int.toNat_of_nonneg h0]
theorem slL_fromZ {l:List PyData} (h0:0<=i) (hl:l.length<=line):slice σ (.d (.list l)) (some i) none=some (.d (.list (l.drop i.toNat))):=by
 show mkL (Ct (some i) none (l.map V.d))=_
 rw [<-Int.toNat_of_nonneg h0,cut_from,<-List.map_drop]
 exact mkLT _ (Nat.le_trans (by rw [List.length_drop]; exact Nat.sub_le _ _) hl)
theorem AG (i:Int) {j:Int} (h:0 < j):0<=i.fmod j/\i.fmod j < j:=⟨Int.fmod_nonneg_of_pos i h,Int.fmod_lt_of_pos i h⟩
theorem upV_eq (lo:Int) (n:Nat):upV lo n=(List.range n).map fun j:Nat=>vi (lo+(j:Int)):=by
 induction n generalizing lo with
 | zero=>rfl
 | succ n ih =>
  show vi lo::upV (lo+1) n=_
  rw [ih,List.range_succ_eq_map]
  simp only [List.map_cons,List.map_map]
  congr 1
  ·simp
  ·apply List.map_congr_left; intro j _; show vi (lo+1+(j:Int))=vi (lo+((j+1:Nat):Int)); rw [Int.natCast_add,Int.add_assoc,Int.add_comm 1]; rfl
theorem up0 (n:Nat):upV 0 n=(List.range n).map fun j:Nat=>vi (j:Int):=by simp [upV_eq]
end
section
variable {α:Type} {O:Orc} {ρ:Af} {σ:Ab} {e es elt ifs it:E} {t:Nat} {l:List α} {m:Int}
theorem itr (h:(ev O es).row ρ σ=some [vi m]) (h1:m<=1000000) (h2:-1000000<=m):(ev O (.range es)).it ρ σ=some ((List.range m.toNat).map (fun j:Nat=>vi (j:Int)),[]):=by
 show ((ev O es).row ρ σ).bind range1=_
 rw [h]
 show (if m<=1000000/\-1000000<=m then some (upV 0 m.toNat,[]) else none)=_
 rw [if_pos ⟨h1,h2⟩,up0]
theorem Eo {f:V->Option (Option V)} (w:α->V) (g:α->Option V):∀ (l:List α),(∀ a∈l,f (w a)=some (g a))->D8 f (l.map w)=some (l.filterMap g)
 | [],_=>rfl
 | a::l,h=>by
  show (f (w a)).bind (fun x=>(D8 f (l.map w)).bind fun xs=>some (match x with | some y=>y::xs | none=>xs))=_
  rw [h a (.head _),bs,Eo w g l fun b hb=>h b (.tail _ hb),bs,List.filterMap_cons]
  cases g a <;> rfl
theorem filt_map {β:Type} (p:α->Bool) (g:α->β):∀ l:List α,(l.filterMap fun a=>if p a then some (g a) else none)=(l.filter p).map g
 | []=>rfl
 | a::l=>by cases h:p a <;> simp [List.filterMap_cons,List.filter_cons,h,filt_map p g l]
theorem CP {kps:List (Nat×List V)} (w:α->V) (p:α->Bool) (g:α->V) (hi:(ev O it).it ρ σ=some (l.map w,kps)) (hl:l.length<=line)
 (hp:∀ a∈l,(ev O ifs).ts ((ρ.set t none).set t (some (w a))) σ=some (p a))
 (hg:∀ a∈l,p a=true->(ev O elt).v ((ρ.set t none).set t (some (w a))) σ=some (g a)):(ev O (.comp elt [t] it ifs)).nl ρ σ=some ((l.filter p).map g):=by
 show (((ev O it).it ρ σ).bind fun q=>D8 _ q.1).bind _=_
 rw [hi]
 show (D8 _ (l.map w)).bind _=_
 rw [Eo w (fun a=>if p a then some (g a) else none) l fun a ha=>?_,bs,filt_map]
 ·exact if_pos (Nat.le_trans (by rw [List.length_map]; exact List.length_filter_le _ _) hl)
 ·show ((ev O ifs).ts ((ρ.set t none).set t (some (w a))) σ).bind _=_
  rw [hp a ha,bs]
  cases h:p a with
  | true =>
   show ((ev O elt).v ((ρ.set t none).set t (some (w a))) σ).bind _=_
   rw [hg a ha h]; rfl
  | false=>rfl
theorem E8 {ds:List PyData} (h:(ev O (.comp elt [t] it ifs)).nl ρ σ=some (ds.map .d)):(ev O (.comp elt [t] it ifs)).v ρ σ=some (.d (.list ds)):=by
 obtain ⟨ws,h1,q⟩:=Aa h
 obtain ⟨q1,q2⟩:=AS q
 show (((ev O it).it ρ σ).bind fun p=>D8 _ p.1).bind mkL=_
 rw [show (((ev O it).it ρ σ).bind fun p=>D8 _ p.1)=some ws from h1,q2,bs]
 exact mkLT _ (by rw [<-List.length_map (f:=V.d),<-q2]; exact q1)
end
end Mine
namespace Mine
open PySem
section
variable {O:Orc} {ρ:Af} {σ:Ab} {a b c r i es elt it ifs:E} {op:Operator} {cop:CmpOp} {x y z u:V} {p q:Bool} {xs:List V}
theorem Ai (h1:(ev O a).v ρ σ=some x) (h2:(ev O b).v ρ σ=some y) (h3:Ft op x y σ=some z):(ev O (.bin op a b)).v ρ σ=some z:=by rw [v_bin,h1,bs,h2,bs]; exact h3
theorem Ag (h1:(ev O a).v ρ σ=some x) (h2:(ev O i).v ρ σ=some y) (h3:Bk x y σ=some z):(ev O (.sub a i)).v ρ σ=some z:=by rw [v_sub,h1,bs,h2,bs]; exact h3
theorem As (h1:(ev O a).v ρ σ=some x) (h2:(ev O b).v ρ σ=some y) (h3:BB cop x y σ=some p):(ev O (.cmp cop a b)).t ρ σ=some p:=by rw [t_cmp,h1,bs,h2,bs]; exact h3
theorem EC (h1:(ev O a).v ρ σ=some x) (h2:(ev O b).v ρ σ=some y) (h3:BB cop x y σ=some p):(ev O (.cmp cop a b)).v ρ σ=some (vb p):=by rw [v_cmp,h1,bs,h2,bs,h3]; rfl
theorem e_row (h1:(ev O a).v ρ σ=some x) (h2:(ev O r).row ρ σ=some xs):(ev O (.cons a r)).row ρ σ=some (x::xs):=by rw [r_cons,h1,bs,h2]; rfl
theorem Az (h1:(ev O a).v ρ σ=some x):(ev O (.cons a .nil)).row ρ σ=some [x]:=e_row h1 rfl
theorem Bb (h1:(ev O a).v ρ σ=some x) (h2:(ev O b).v ρ σ=some y):(ev O (.cons a (.cons b .nil))).row ρ σ=some [x,y]:=e_row h1 (Az h2)
theorem e_r3 (h1:(ev O a).v ρ σ=some x) (h2:(ev O b).v ρ σ=some y) (h3:(ev O c).v ρ σ=some z):(ev O (.cons a (.cons b (.cons c .nil)))).row ρ σ=some [x,y,z]:=e_row h1 (Bb h2 h3)
theorem AN {b:Bi} (h1:(ev O es).row ρ σ=some xs) (h2:Bx b σ xs=some z):(ev O (.bi b es)).v ρ σ=some z:=by rw [v_bi,h1,bs]; exact h2
theorem FU {f:Nat} (h1:(ev O es).row ρ σ=some xs) (h2:O f xs σ=some z):(ev O (.fcall f es)).v ρ σ=some z:=by rw [v_fcall,h1,bs]; exact h2
theorem Gp {f:Nat} (h1:(ev O es).row ρ σ=some xs) (h2:O f xs σ=some (vb p)):(ev O (.fcall f es)).t ρ σ=some p:=by rw [t_fcall,h1,bs,h2]; rfl
theorem BO (h:(ev O a).t ρ σ=some p):(ev O (.not a)).t ρ σ=some (!p):=by rw [t_not,h]; rfl
theorem BN {v:V} (h:(ev O es).row ρ σ=some xs) (h2:tupV xs=some v):(ev O (.tup es)).v ρ σ=some v:=by rw [v_tup,h,bs]; exact h2
theorem CR (h1:(ev O a).t ρ σ=some p) (h2:p=false->(ev O b).t ρ σ=some q):(ev O (.bop .Or (.cons a (.cons b .nil)))).t ρ σ=some (p||q):=by
 rw [t_bop,FY,h1,bs]
 cases p with
 | true=>rfl
 | false =>
  show (ev O (.cons b .nil)).bt .Or ρ σ=_
  rw [FY,h2 rfl,bs]
  cases q <;> rfl
theorem Ci (h1:(ev O a).t ρ σ=some p) (h2:p=true->(ev O b).t ρ σ=some q):(ev O (.bop .And (.cons a (.cons b .nil)))).t ρ σ=some (p&&q):=by
 rw [t_bop,FY,h1,bs]
 cases p with
 | false=>rfl
 | true =>
  show (ev O (.cons b .nil)).bt .And ρ σ=_
  rw [FY,h2 rfl,bs]
  cases q <;> rfl
theorem e_and3 {s:Bool} (h1:(ev O a).t ρ σ=some p) (h2:p=true->(ev O b).t ρ σ=some q) (h3:p=true->q=true->(ev O c).t ρ σ=some s):(ev O (.bop .And (.cons a (.cons b (.cons c .nil))))).t ρ σ=some (p&&(q&&s)):=by
 rw [t_bop,FY,h1,bs]
 cases p with
 | false=>rfl
 | true=>exact Ci (a:=b) (b:=c) (q:=s) (h2 rfl) fun e=>h3 rfl e
theorem e_or3 {s:Bool} (h1:(ev O a).t ρ σ=some p) (h2:p=false->(ev O b).t ρ σ=some q) (h3:p=false->q=false->(ev O c).t ρ σ=some s):(ev O (.bop .Or (.cons a (.cons b (.cons c .nil))))).t ρ σ=some (p||(q||s)):=by
 rw [t_bop,FY,h1,bs]
 cases p with
 | true=>rfl
 | false=>exact CR (a:=b) (b:=c) (q:=s) (h2 rfl) fun e=>h3 rfl e
theorem e_ts1 (h1:(ev O a).t ρ σ=some p):(ev O (.cons a .nil)).ts ρ σ=some p:=by
 rw [s_cons,h1,bs]; cases p <;> rfl
theorem e_and2v (h1:(ev O a).v ρ σ=some (vb p)) (h2:p=true->(ev O b).v ρ σ=some (vb q)):(ev O (.bop .And (.cons a (.cons b .nil)))).v ρ σ=some (vb (p&&q)):=by
 show ((ev O a).v ρ σ).bind (fun x=>(DG σ x).bind fun t=>bif t == Cp .And then some x else (ev O (.cons b .nil)).bo .And ρ σ)=_
 rw [h1,bs]
 cases p with
 | false=>rfl
 | true=>exact h2 rfl
theorem len_of' {ws:List V} (h:Ax σ x=some ws):Bx .len σ [x]=some (vi ws.length):=by
 cases x with
 | d y=>cases y with
  | list l=>rw [Cs,<-Option.some.inj h,List.length_map]
  | _=>exact Ac h
 | ref k=>exact len_r (Cg h)
 | _=>exact Ac h
theorem sub_of {ws:List V} {k:Int} (h:Ax σ x=some ws):Bk x (vi k) σ=nth ws k:=by
 cases x with
 | d y=>cases y with
  | list l=>rw [<-Option.some.inj h]; rfl
  | _=>exact Ac h
 | ref j=>show subO σ (vi k) σ[j]? = _; rw [Cg h]; rfl
 | _=>exact Ac h
theorem tr_of' {ws:List V} (h:Ax σ x=some ws):DG σ x=some (!ws.isEmpty):=by
 cases x with
 | d y=>cases y with
  | list l=>rw [<-Option.some.inj h,FL]; rfl
  | _=>exact Ac h
 | ref j=>rw [show DG σ (.ref j)=(Cr σ[j]?).bind fun ws=>some (!ws.isEmpty) from rfl,show Cr σ[j]? = some ws from h]; rfl
 | _=>exact Ac h
theorem in_of {w:List Nat} {l:List (List Nat)} (h:Ax σ x=some (l.map vs)):inV σ (vs w) x=some (decide (w∈l)):=by
 cases x with
 | d y=>cases y with
  | list l' =>
   have e:l'=l.map fun t=>PyData.str (Tx t):=by
    have h1:=congrArg (fun o=>o.bind Di) h
    have h2:Di (l'.map V.d)=Di (l.map vs):=h1
    rw [CJ,show l.map vs=(l.map fun t=>PyData.str (Tx t)).map V.d by rw [List.map_map]; rfl,CJ] at h2
    exact Option.some.inj h2
   rw [e]; exact Dt w l
  | _=>exact Ac h
 | ref j=>exact in_ref (Cg h)
 | _=>exact Ac h
end
section
variable {C:Cfg} {P:Fl->Ab->Prop} {st r:S} {ρ:Af} {σ:Ab}
theorem Cw {M:Af->Ab->Prop} (h:Ah C (fun fl σ'=>∃ ρ',fl=.next ρ'/\M ρ' σ') (.cons st .nil) ρ σ) (k:∀ ρ' σ',M ρ' σ'->Ah C P r ρ' σ'):Ah C P (.cons st r) ρ σ:=by
 obtain ⟨fl,σ',⟨ρ',rfl,h1⟩,h2⟩:=h
 exact Ca (fl:=.next ρ') (fun Q q=>SS.mono (fun f s e=>by rw [e.1,e.2]; exact q) (.of1 h2)) (k ρ' σ' h1)
end
noncomputable def Bp (c k:Int):Int:=((c+7919 * k) * 48271).fmod 2147483647
theorem sm1 (i:Int):(small 7919||small i)=true:=by rw [show small 7919=true by decide]; rfl
theorem sm2 (i:Int):(small i||small 48271)=true:=by rw [show small 48271=true by decide,Bool.or_true]
theorem sm4 (i:Int):(small 4||small i)=true:=by rw [show small 4=true by decide]; rfl
theorem smr {i j:Int} (h1:-1000000000000 < j) (h2:j < 1000000000000):(small i||small j)=true:=by rw [small_of h1 h2,Bool.or_true]
noncomputable def C0 (n:Nat):Cfg:=⟨n,fun _ _ _=>none,fun _ _ _ _ h=>Ac h⟩
theorem fn_mixed {σ:Ab} (c k:Int):FN 2 10 [vi c,vi k] σ (vi (Bp c k)) σ:=by
 obtain ⟨v,σ',⟨h1,h2⟩,h⟩:=FN.ends (C:=C0 1) (f:=10) (fn:=Fmixed) (zs:=[vi c,vi k]) (σ:=σ) (R:=fun v σ'=>v=vi (Bp c k)/\σ'=σ) (by unfold Pg; rfl) rfl (Nat.le_refl _)
  (A6 (Ai (Ai (Ai rfl (Ai rfl rfl (Fw (sm1 _))) rfl) rfl (Fw (sm2 _))) rfl (AD (by decide))) ⟨rfl,rfl⟩)
 rw [h1,h2] at h; exact h
noncomputable def mixO (xs:List V):Option V:=match xs with | x::r=>(match r with | y::r=>(match r with | []=>(BQ x).bind fun c=>(BQ y).bind fun k=>some (vi (Bp c k)) | _=>none) | []=>none) | []=>none
theorem mixO_ok {n:Nat} {σ:Ab} {xs:List V} {v:V} (hn:2<=n) (h:mixO xs=some v):FN n 10 xs σ v σ:=by
 match xs,h with
 | [],h=>exact Ac h
 | [_],h=>exact Ac h
 | [x,y],h =>
  obtain ⟨c,e1,h⟩:=Aa h
  obtain ⟨k,e2,h⟩:=Aa h
  rw [Bh e1,Bh e2,<-Option.some.inj h]
  exact (fn_mixed c k).more hn
 | _::_::_::_,h=>exact Ac h
noncomputable def Cfg.add (C:Cfg) (f:Nat) (g:List V->Ab->Option V) (h:∀ xs σ v,g xs σ=some v->FN C.n f xs σ v σ):Cfg:=⟨C.n,fun f' xs σ=>bif Nat.beq f' f then g xs σ else C.O f' xs σ,fun f' xs σ v e=>by
 cases q:Nat.beq f' f with
 | true=>rw [q] at e; rw [Nat.eq_of_beq_eq_true q]; exact h xs σ v e
 | false=>rw [q] at e; exact C.ok f' xs σ v e⟩
noncomputable def C1 (n:Nat) (hn:2<=n):Cfg:=(C0 n).add 10 (fun xs _=>mixO xs) fun _ _ _ h=>mixO_ok hn h
theorem GE {σ:Ab} (sc:List Int) (k:Int) (h0:0<=k) (hk:k < 1000):FN 2 9 [.d (.list (sc.map .int)),vi k] σ (vi (sc.getD k.toNat 0)) σ:=by
 obtain ⟨v,σ',⟨h1,h2⟩,h⟩:=FN.ends (C:=C0 1) (f:=9) (fn:=Fcell) (zs:=[.d (.list (sc.map .int)),vi k]) (σ:=σ) (R:=fun v σ'=>v=vi (sc.getD k.toNat 0)/\σ'=σ) (by unfold Pg; rfl) rfl (Nat.le_refl _) (by
  refine A3 (t:=decide (k < sc.length)) (As rfl (AN (Az rfl) (Cs.trans (by rw [List.length_map]))) c_lt) (fun h=>?_) fun h=>Ad ?_
  ·have h:=of_decide_eq_true h
   refine A6 (v:=vi (sc.getD k.toNat 0)) (Ag rfl rfl (Fy (y:=.int (sc.getD k.toNat 0)) k h0 (by omega) ?_)) ⟨rfl,rfl⟩
   have:k.toNat < sc.length:=by omega
   simp [List.getD,this]
  ·have h:=of_decide_eq_false h
   refine A6 (v:=vi (sc.getD k.toNat 0)) ?_ ⟨rfl,rfl⟩
   rw [show sc.getD k.toNat 0=0 by
    have:sc.length<=k.toNat:=by omega
    simp [List.getD,this]]
   rfl)
 rw [h1,h2] at h; exact h
end Mine
namespace Mine
open PySem
noncomputable def CM:List Nat:=[97,98,99,100,101,102,103,104,105,106,107,108,109,110,111,112,113,114,115,116,117,118,119,120,121,122,48,49,50,51,52,53,54,55,56,57]
noncomputable def Bt (t:List Nat):Bool:=!(decide ((t.length:Int) < 1)||decide ((t.length:Int) > 12))&&t.all fun c=>decide (c∈CM)
theorem k_signs:Str.ofString "abcdefghijklmnopqrstuvwxyz0123456789" = Tx CM:=by decide +kernel
theorem BS (t:List Nat):Bt t=true ↔ 1<=t.length/\t.length<=12/\∀ c∈t,c∈CM:=by
 simp only [Bt,Bool.and_eq_true,Bool.not_eq_true',Bool.or_eq_false_iff,decide_eq_false_iff_not,List.all_eq_true,decide_eq_true_eq]
 constructor
 ·rintro ⟨⟨h1,h2⟩,h3⟩; exact ⟨by lia,by lia,h3⟩
 ·rintro ⟨h1,h2,h3⟩; exact ⟨⟨by lia,by lia⟩,h3⟩
noncomputable def sg (i:Int):Nat:=CM.getD i.toNat 0
theorem sg_at (i:Int) (h0:0<=i) (h:i < 36):CM[i.toNat]? = some (sg i):=by
 have:i.toNat < CM.length:=by simp [CM]; (with_reducible assumption)
 simp [sg,List.getD,this]
theorem sg_mem (i:Int) (h0:0<=i) (h:i < 36):sg i∈CM:=List.mem_of_getElem? (sg_at i h0 h)
section
variable {σ:Ab}
theorem sub_sg {i:Int} (h0:0<=i) (h:i < 36):Bk (vs CM) (vi i) σ=some (vs [sg i]):=at_text i h0 (by lia) (sg_at i h0 h)
noncomputable def num (j:Nat):List Nat:=(strOf (j:Int)).cps.toList
theorem num_name:∀ j:Nat,j < 130->Bt (num j)=true:=by decide +kernel
theorem num_nodup:((List.range 130).map num).Nodup:=by decide +kernel
theorem num_str {i:Int} (h0:0<=i) (h:i < 130):Bx .str σ [vi i]=some (vs (num i.toNat)):=by
 show (if i.natAbs < 1000000000000 then some (V.d (.str (strOf i))) else none)=_
 rw [if_pos (by lia)]
 unfold num
 rw [Int.toNat_of_nonneg h0]
 simp only [vs,Tx_eta]
theorem GZ {β:Type} [DecidableEq β]:∀ (l m:List β),l.Nodup->(∀ x∈l,x∈m)->l.length<=m.length
 | [],m,_,_=>by exact Nat.zero_le _
 | a::l,m,hn,hs=>by
  have ha:a∈m:=hs a (by exact .head _)
  rw [List.nodup_cons] at hn
  have:=GZ l (m.erase a) hn.2 (by
   intro x hx
   have hne:x≠a:=fun e=>hn.1 (e▸hx)
   exact (List.mem_erase_of_ne hne).mpr (hs x (by exact .tail _ hx)))
  rw [List.length_erase_of_mem ha] at this
  have h0:0 < m.length:=List.length_pos_iff.mpr (fun e=>by simp [e] at ha)
  simp; omega
theorem num_free (l:List (List Nat)) (hl:l.length < 130):∃ j,j<=l.length/\num j∉l:=by
 apply Classical.byContradiction
 intro hno
 have h1:((List.range (l.length+1)).map num).Nodup:=by
  have:(List.range (l.length+1)).map num=((List.range 130).map num).take (l.length+1):=by
   rw [<-List.map_take,List.take_range]; congr 2; lia
  rw [this]
  exact List.Sublist.nodup (List.take_sublist _ _) num_nodup
 have:=GZ _ l h1 (by
  intro x hx
  simp only [List.mem_map,List.mem_range] at hx
  obtain ⟨j,h2,rfl⟩:=hx
  apply Classical.byContradiction
  intro h3; exact hno ⟨j,by (exact Nat.le_of_lt_succ ‹_›),h3⟩)
 simp at this
 (exact Nat.lt_irrefl _ ‹_›)
theorem mixed_lt (c k:Int):0<=Bp c k/\Bp c k < 2147483647:=AG _ (by decide)
theorem joinOk0 (l:List (List Nat)) (h:l.length<=1000000) (h1:∀ t∈l,t.length<=1):JoinOk (Tx []) (l.map Tx)=true:=by
 refine PyProof.Rows.joinOk_of ?_
 have h2:((l.map Tx).map (·.length)).sum<=l.length:=by
  clear h
  induction l with
  | nil=>simp
  | cons a l ih =>
   have:=h1 a (by simp)
   have:=ih (fun t ht=>h1 t (by simp [ht]))
   simp only [List.map_cons,List.sum_cons,List.length_cons,Gc]; lia
 simp only [Gc,List.length_nil,Nat.mul_zero]
 lia
theorem join0 (l:List (List Nat)):Txt.join (Tx []) (l.map Tx)=Tx l.flatten:=by
 show Builtin.Str.glued _ _=_
 rw [StrLaws.glued_eq_join]
 induction l with
 | nil=>rfl
 | cons a l ih =>
  induction l with
  | nil=>simp [Str.join]
  | cons b l =>
   simp only [List.map_cons,Str.join] at ih ⊢
   rw [ih,Tx_app,Tx_app]; simp
theorem k_nil:Str.ofString "" = Tx []:=by decide +kernel
theorem FM:∀ l:List Str,BY BC (vss l)=some l
 | []=>rfl
 | x::l=>by show (BY BC (vss l)).bind _=_; rw [FM l]; rfl
theorem e_signs {O:Orc} {ρ:Af} {elt es:E} {t:Nat} {m:Int} (g:Int->Nat) (hi:(ev O es).row ρ σ=some [vi m]) (hl:m<=1000) (hl2:-1000<=m)
 (hg:∀ i:Int,0<=i->i < m->(ev O elt).v ((ρ.set t none).set t (some (vi i))) σ=some (vs [g i])) :
 (ev O (.meth .join (.cst (.str (Str.ofString ""))) (.cons (.comp elt [t] (.range es) .nil) .nil))).v ρ σ=some (vs ((List.range m.toNat).map fun j:Nat=>g (j:Int))):=by
 have h1:=E8 (O:=O) (ρ:=ρ) (σ:=σ) (elt:=elt) (t:=t) (it:=.range es) (ifs:=.nil) (ds:=(List.range m.toNat).map fun j:Nat=>.str (Tx [g (j:Int)])) (by
  rw [CP (fun j:Nat=>vi (j:Int)) (fun _=>true) (fun j:Nat=>vs [g (j:Int)]) (itr hi (by lia) (by lia)) (by rw [List.length_range]; exact Nat.le_trans (show m.toNat<=1000 by lia) (by decide)) (fun _ _=>rfl) (fun j hj _=>hg j (Int.natCast_nonneg _) (by have:=List.mem_range.mp hj; lia)),List.filter_eq_self.mpr (fun _ _=>rfl),List.map_map]
  rfl)
 show (((ev O (.cons (.comp elt [t] (.range es) .nil) .nil)).row ρ σ).bind fun ys=>joinV σ (.d (.str (Str.ofString ""))) ys)=_
 rw [Az h1,k_nil]
 show ((BY BC (((List.range m.toNat).map fun j:Nat=>PyData.str (Tx [g (j:Int)])).map V.d)).bind fun ss=>if JoinOk (Tx []) ss=true then some (V.d (.str (Txt.join (Tx []) ss))) else none)=_
 rw [show (((List.range m.toNat).map fun j:Nat=>PyData.str (Tx [g (j:Int)])).map V.d)=vss (((List.range m.toNat).map fun j:Nat=>[g (j:Int)]).map Tx) by show _=(((List.range m.toNat).map fun j:Nat=>[g (j:Int)]).map Tx).map fun y=>V.d (.str y); rw [List.map_map,List.map_map,List.map_map]; rfl,FM,bs,if_pos (joinOk0 _ (by simp; lia) (by simp)),join0]
 congr 3
 generalize List.range m.toNat=l
 congr 1
 induction l with
 | nil=>rfl
 | cons a l ih=>simp [ih]
end
theorem name_base (m:Nat) (g:Nat->Int) (h1:1<=m) (h2:m<=12) (hg:∀ j,0<=g j/\g j < 36):Bt ((List.range m).map fun j=>sg (g j))=true:=by
 rw [BS]
 refine ⟨by simpa using h1,by simpa using h2,?_⟩
 intro x hx
 simp only [List.mem_map] at hx
 obtain ⟨j,_,rfl⟩:=hx
 exact sg_mem _ (hg j).1 (hg j).2
theorem ln_t2 {u:List Nat} {x:Nat} {i j:Nat} (h:u.length<=12):(u.take i++[x]).length+(u.drop j).length<=line/\(u.take i).length + [x].length<=line:=by simp [line]; omega
theorem nm4 {u:List Nat} {x:Nat} {a:Int} (h2:u.length<=12) (h0:0<=a) (ha:a < u.length):1<=(u.take a.toNat++[x]++u.drop (a+1).toNat).length/\(u.take a.toNat++[x]++u.drop (a+1).toNat).length<=12:=by
 simp; omega
theorem run_name {C:Cfg} {σ:Ab} {x:V} (hm:∀ c k,C.O 10 [vi c,vi k] σ=some (vi (Bp c k))) (c:Int) (tk:List (List Nat)) (hx:Ax σ x=some (tk.map vs)) (hg:∀ x∈tk,Bt x=true) (hl:tk.length < 100) :
 Ah C (fun fl σ'=>∃ r,Bt r=true/\r∉tk/\GU fl=vs r/\σ'=σ) Fname.body (B6 Fname [vi c,x]) σ:=by
 show Ah C _ _ [some (vi c),some x,none,none,none,none,none] σ
 have hlen:=len_of' hx
 rw [List.length_map] at hlen
 have htr:=tr_of' hx
 refine Aw (v:=vs CM) (congrArg (fun s=>some (V.d (.str s))) k_signs) ?_
 refine Aw (v:=vi (Bp c 5)) (FU (Bb rfl rfl) (hm _ _)) ?_
 have hL:=mixed_lt c 5
 generalize Bp c 5=L at hL
 have h12:=AG L (j:=12) (by decide)
 have h36:=AG L (j:=36) (by decide)
 refine Aw (v:=vs ((List.range (1+L.fmod 12).toNat).map fun j:Nat=>sg ((Bp c j).fmod 36))) (e_signs (fun i=>sg ((Bp c i).fmod 36)) (Az (Ai rfl (Ai rfl rfl (AD (by decide))) rfl)) (by omega) (by omega) (fun i _ _=>by
  have h:=AG (Bp c i) (j:=36) (by decide)
  exact Ag rfl (Ai (FU (Bb rfl rfl) (hm _ _)) rfl (AD (by decide))) (sub_sg h.1 h.2))) ?_
 have hf:Bt ((List.range (1+L.fmod 12).toNat).map fun j:Nat=>sg ((Bp c j).fmod 36))=true:=name_base _ (fun j=>(Bp c j).fmod 36) (by omega) (by omega) (fun j=>AG _ (by decide))
 generalize ((List.range (1+L.fmod 12).toNat).map fun j:Nat=>sg ((Bp c j).fmod 36))=f at hf
 let K:List Nat->Option V->Af:=fun f z=>[some (vi c),some x,some (vs CM),some (vi L),some (vs f),none,z]
 let M:Af->Ab->Prop:=fun ρ σ'=>(∃ f z,Bt f=true/\ρ=K f z)/\σ=σ'
 refine Cw (M:=M) ?_ ?_
 ·refine A3 (t:=decide (c.fmod 8=1)) (As (Ai rfl rfl (AD (by decide))) rfl B5) (fun h=>?_) (fun h=>?_)
  ·have hx:=AG L (j:=130) (by decide)
   exact Aw (v:=vs (num (L.fmod 130).toNat)) (AN (Az (Ai rfl rfl (AD (by decide)))) (num_str hx.1 hx.2)) (Ad (Ad ⟨_,rfl,⟨_,none,num_name _ (by omega),rfl⟩,rfl⟩))
  ·exact Ad (Ad ⟨_,rfl,⟨f,none,hf,rfl⟩,rfl⟩)
 rintro _ _ ⟨⟨f,z,hf,rfl⟩,rfl⟩
 refine Cw (M:=M) ?_ ?_
 ·refine A3 (t:=decide (c.fmod 8=2) && !(tk.map vs).isEmpty) (Ci (As (Ai rfl rfl (AD (by decide))) rfl B5) fun _=>htr) (fun h=>?_) (fun h=>?_)
  ·have hne:tk≠[]:=by
    intro e; rw [e] at h; simp at h
   have hlast:=List.getLast?_eq_some_getLast hne
   have hgl:=(BS _).mp (hg _ (List.getLast_mem hne))
   generalize tk.getLast hne=u at hlast hgl
   rw [List.getLast?_eq_getElem?] at hlast
   refine Aw (v:=vs (u.take 11++[sg (L.fmod 36)])) (Ai (x:=vs (u.take 11)) (y:=vs [sg (L.fmod 36)]) ?_ (Ag rfl (Ai rfl rfl (AD (by decide))) (sub_sg h36.1 h36.2)) (b_cat _ _ (ln_t2 (j:=0) hgl.2.1).2)) (Ad (Ad ⟨_,rfl,⟨_,z,?_,rfl⟩,rfl⟩))
   ·rw [v_slc,Ag (z:=vs u) rfl rfl ((sub_of hx).trans (nth_last (by rw [List.length_map,List.getElem?_map,hlast]; rfl))),bs]
    exact sl_to (σ:=σ) 11
   ·rw [BS]
    refine ⟨by simp,by simp; omega,?_⟩
    intro x hx
    simp only [List.mem_append,List.mem_singleton] at hx
    rcases hx with hx | rfl
    ·exact hgl.2.2 x (List.mem_of_mem_take hx)
    ·exact sg_mem _ h36.1 h36.2
  ·exact Ad (Ad ⟨_,rfl,⟨f,z,hf,rfl⟩,rfl⟩)
 clear hf f z
 rintro _ _ ⟨⟨f,z,hf,rfl⟩,rfl⟩
 refine Cw (M:=M) ?_ ?_
 ·refine A3 (t:=decide (c.fmod 8 > 4) && !(tk.map vs).isEmpty) (Ci (As (Ai rfl rfl (AD (by decide))) rfl c_gt) fun _=>htr) (fun h=>?_) (fun h=>?_)
  ·have hne:tk≠[]:=by
    intro e; rw [e] at h; simp at h
   have hpos:0 < tk.length:=List.length_pos_iff.mpr hne
   have hlt:=AG L (j:=tk.length) (by omega)
   obtain ⟨u,hu⟩:∃ u,tk[(L.fmod tk.length).toNat]? = some u:=⟨_,List.getElem?_eq_getElem (by omega)⟩
   have hgu:=(BS _).mp (hg u (List.mem_of_getElem? hu))
   refine Aw (v:=vs u) (Ag rfl (Ai rfl (AN (Az rfl) hlen) (AD (by omega))) ((sub_of hx).trans (nth_at _ hlt.1 (by omega) (by rw [List.getElem?_map,hu]; rfl)))) ?_
   have hat:=AG (L.fdiv 60) (j:=u.length) (by omega)
   refine Aw (v:=vi ((L.fdiv 60).fmod u.length)) (Ai (Ai rfl rfl (BW (by decide))) (AN (Az rfl) len_s) (AD (by omega))) ?_
   generalize (L.fdiv 60).fmod u.length=a at hat
   have hs:=AG (L.fdiv 720) (j:=36) (by decide)
   refine Aw (v:=vs (u.take a.toNat++[sg ((L.fdiv 720).fmod 36)]++u.drop (a+1).toNat)) (Ai (Ai (x:=vs (u.take a.toNat)) (y:=vs [sg ((L.fdiv 720).fmod 36)]) ?_ (Ag rfl (Ai (Ai rfl rfl (BW (by decide))) rfl (AD (by decide))) (sub_sg hs.1 hs.2)) (b_cat _ _ (ln_t2 (j:=0) hgu.2.1).2)) (y:=vs (u.drop (a+1).toNat)) ?_ (b_cat _ _ (ln_t2 hgu.2.1).1)) (Ad (Ad ⟨_,rfl,⟨_,some (vi a),?_,rfl⟩,rfl⟩))
   ·exact sl_toZ (σ:=σ) (a:=u) hat.1
   ·exact sl_fromZ (σ:=σ) (a:=u) (i:=a+1) (by omega)
   ·rw [BS]
    refine ⟨(nm4 hgu.2.1 hat.1 hat.2).1,(nm4 hgu.2.1 hat.1 hat.2).2,?_⟩
    intro x hx
    simp only [List.mem_append,List.mem_singleton] at hx
    rcases hx with (hx | rfl) | hx
    ·exact hgu.2.2 x (List.mem_of_mem_take hx)
    ·exact sg_mem _ hs.1 hs.2
    ·exact hgu.2.2 x (List.mem_of_mem_drop hx)
  ·exact Ad (Ad ⟨_,rfl,⟨f,z,hf,rfl⟩,rfl⟩)
 clear hf f z
 rintro _ _ ⟨⟨f,z,hf,rfl⟩,rfl⟩
 refine A3 (t:=!decide (f∈tk)) (As rfl rfl (by rw [c_nin,in_of hx]; rfl)) (fun h=>?_) (fun h=>Ad ?_)
 ·exact A6 (v:=vs f) rfl ⟨f,hf,by simpa using h,rfl,rfl⟩
 ·have hc:(ev C.O (.comp (.bi .str (.cons (.var 5) .nil)) [5] (.range (.cons (.bin .Add (.bi .len (.cons (.var 1) .nil)) (.cst (.int 1))) .nil)) (.cons (.cmp .NotIn (.bi .str (.cons (.var 5) .nil)) (.var 1)) .nil))).v (K f z) σ=some (.d (.list (((List.range ((tk.length:Int)+1).toNat).filter fun j=>!decide (num j∈tk)).map fun j=>.str (Tx (num j))))):=by
   refine E8 ?_
   rw [CP (fun j:Nat=>vi (j:Int)) (fun j=>!decide (num j∈tk)) (fun j=>vs (num j)) (itr (Az (Ai (AN (Az rfl) hlen) rfl rfl)) (by omega) (by omega)) (by rw [List.length_range]; exact Nat.le_trans (show ((tk.length:Int)+1).toNat<=101 by omega) (by decide)) (fun j hj=>?_) (fun j hj _=>?_),List.map_map]
   ·rfl
   ·have hj:=List.mem_range.mp hj
    exact e_ts1 (As (AN (Az rfl) (num_str (i:=(j:Int)) (by omega) (by omega))) rfl (by rw [c_nin,in_of hx]; rfl))
   ·have hj:=List.mem_range.mp hj
    exact AN (Az rfl) (num_str (i:=(j:Int)) (by omega) (by omega))
  obtain ⟨j,hj1,hj2⟩:=num_free tk (Nat.lt_trans hl (by decide))
  have hmem:j∈(List.range ((tk.length:Int)+1).toNat).filter fun j=>!decide (num j∈tk):=List.mem_filter.mpr ⟨List.mem_range.mpr (by omega),by simpa using hj2⟩
  cases hfl:(List.range ((tk.length:Int)+1).toNat).filter fun j=>!decide (num j∈tk) with
  | nil=>rw [hfl] at hmem; cases hmem
  | cons i rest =>
   have hi:i∈(List.range ((tk.length:Int)+1).toNat).filter fun j=>!decide (num j∈tk):=by rw [hfl]; exact .head _
   have hi:=List.mem_filter.mp hi
   rw [hfl] at hc
   exact A6 (v:=vs (num i)) (Ag hc rfl (Fy 0 (by decide) (by decide) rfl)) ⟨num i,num_name i (by have:=List.mem_range.mp hi.1; omega),by simpa using hi.2,rfl,rfl⟩
theorem fn_name {σ:Ab} {x:V} (c:Int) (tk:List (List Nat)) (hx:Ax σ x=some (tk.map vs)) (hg:∀ x∈tk,Bt x=true) (hl:tk.length < 100):∃ r,Bt r=true/\r∉tk/\FN 3 11 [vi c,x] σ (vs r) σ:=by
 obtain ⟨v,σ',⟨r,h1,h2,h3,h4⟩,h⟩:=FN.ends (C:=C1 2 (Nat.le_refl _)) (f:=11) (fn:=Fname) (R:=fun v σ'=>∃ r,Bt r=true/\r∉tk/\v=vs r/\σ'=σ) (by unfold Pg; rfl) rfl (show 1<=2 by decide) (run_name (fun _ _=>rfl) c tk hx hg hl)
 rw [h3,h4] at h
 exact ⟨r,h1,h2,h⟩
end Mine
namespace Mine
open PySem
noncomputable def someA:List Nat:=[32,33,34,35,36,38,39,40,41,42,43,44,45,46,47,48,49,50,51,52,53,54,55,56,57,58,59,60,61,62,63,64,65,66,67,68,69,70,71,72,73,74,75,76,77,78,79,80,81,82,83,84,85,86,87,88,89,90,91,92,93,94,95,96]
noncomputable def someB:List Nat:=[97,98,99,100,101,102,103,104,105,106,107,108,109,110,111,112,113,114,115,116,117,118,119,120,121,122,123,124,125,126]
noncomputable def GR:List Nat:=someA++someB
theorem k_someA:Str.ofString " !\"#$&'()*+,-./0123456789:;<=>?@ABCDEFGHIJKLMNOPQRSTUVWXYZ[\\]^_`" = Tx someA:=by decide +kernel
theorem k_someB:Str.ofString "abcdefghijklmnopqrstuvwxyz{|}~" = Tx someB:=by decide +kernel
theorem k_col:Str.ofString ": " = Tx [58,32]:=by decide +kernel
noncomputable def so (i:Int):Nat:=GR.getD i.toNat 0
theorem so_at (i:Int) (h0:0<=i) (h:i < 94):GR[i.toNat]? = some (so i):=by
 have:i.toNat < GR.length:=Int.toNat_lt h0 |>.mpr h
 simp [so,List.getD,this]
theorem some_ok:∀ x∈GR,32<=x/\x<=126:=by decide +kernel
structure Cz (l:List Nat):Prop where
 len:l.length<=200
 ok:∀ x∈l,32<=x/\x<=126
section
variable {σ:Ab}
theorem sub_so {i:Int} (h0:0<=i) (h:i < 94):Bk (vs GR) (vi i) σ=some (vs [so i]):=at_text i h0 (by lia) (so_at i h0 h)
theorem run_line {C:Cfg} (c:Int):Ah C (fun fl σ'=>∃ l,Cz l/\GU fl=vs l/\σ'=σ) Fline.body (B6 Fline [vi c]) σ:=by
 show Ah C _ _ [some (vi c),none,none,none,none] σ
 refine Aw (v:=vs someA) (congrArg (fun s=>some (V.d (.str s))) k_someA) ?_
 refine Aw (v:=vs GR) (Ai (y:=vs someB) rfl (congrArg (fun s=>some (V.d (.str s))) k_someB) (b_cat _ _ (by decide))) ?_
 have h4:=AG c (j:=4) (by decide)
 refine Aw (v:=vi (c.fmod 4)) (Ai rfl rfl (AD (by decide))) ?_
 refine Cw (M:=fun ρ σ'=>(∃ s:Int,0<=s/\s<=200/\ρ=[some (vi c),some (vs GR),some (vi s),none,none])/\σ=σ') ?_ ?_
 ·refine A3 (t:=decide ((c.fdiv 4).fmod 9=1)) (As (Ai (Ai rfl rfl (BW (by decide))) rfl (AD (by decide))) rfl B5) (fun h=>?_) (fun h=>?_)
  ·have h5:=AG (c.fdiv 36) (j:=201) (by decide)
   exact Aw (v:=vi ((c.fdiv 36).fmod 201)) (Ai (Ai rfl rfl (BW (by decide))) rfl (AD (by decide))) (Ad (Ad ⟨_,rfl,⟨_,h5.1,by omega,rfl⟩,rfl⟩))
  ·exact Ad (Ad ⟨_,rfl,⟨_,h4.1,by omega,rfl⟩,rfl⟩)
 rintro _ _ ⟨⟨s,hs0,hs1,rfl⟩,rfl⟩
 have h5:=AG c (j:=5) (by decide)
 refine Aw (v:=vs ((List.range s.toNat).map fun j:Nat=>so ((c.fdiv 7+j * (1+c.fmod 5)).fmod 94))) (e_signs (fun i=>so ((c.fdiv 7+i * (1+c.fmod 5)).fmod 94)) rfl (by omega) (by omega) (fun i _ _=>by
  have h:=AG (c.fdiv 7+i * (1+c.fmod 5)) (j:=94) (by decide)
  exact Ag rfl (Ai (Ai (Ai rfl rfl (BW (by decide))) (Ai rfl (Ai rfl (Ai rfl rfl (AD (by decide))) rfl) (Fw (smr (by omega) (by omega)))) rfl) rfl (AD (by decide))) (sub_so h.1 h.2))) ?_
 have hf1:((List.range s.toNat).map fun j:Nat=>so ((c.fdiv 7+j * (1+c.fmod 5)).fmod 94)).length=s.toNat:=by simp
 have hf2:∀ x∈((List.range s.toNat).map fun j:Nat=>so ((c.fdiv 7+j * (1+c.fmod 5)).fmod 94)),32<=x/\x<=126:=by
  intro x hx
  obtain ⟨j,_,rfl⟩:=List.mem_map.mp hx
  have h:=AG (c.fdiv 7+j * (1+c.fmod 5)) (j:=94) (by decide)
  exact some_ok _ (List.mem_of_getElem? (so_at _ h.1 h.2))
 generalize ((List.range s.toNat).map fun j:Nat=>so ((c.fdiv 7+j * (1+c.fmod 5)).fmod 94))=f at hf1 hf2
 refine A3 (t:=decide ((c.fdiv 3).fmod 8=1)&&decide (s < 199)) (Ci (As (Ai (Ai rfl rfl (BW (by decide))) rfl (AD (by decide))) rfl B5) (fun _=>rfl)) (fun h=>?_) (fun h=>Ad ?_)
 ·simp only [Bool.and_eq_true,decide_eq_true_eq] at h
  refine A6 (v:=vs (f.take 1++[58,32]++f.drop 1)) (Ai (Ai (x:=vs (f.take 1)) (y:=vs [58,32]) (sl_to (σ:=σ) 1) (congrArg (fun s=>some (V.d (.str s))) k_col) (b_cat _ _ (by simp [line]; omega))) (y:=vs (f.drop 1)) (sl_from (σ:=σ) 1) (b_cat _ _ (by simp [line]; omega))) ⟨_,⟨by simp; omega,?_⟩,rfl,rfl⟩
  intro x hx
  simp only [List.mem_append,List.mem_cons,List.not_mem_nil,or_false] at hx
  rcases hx with (hx | rfl | rfl) | hx
  ·exact hf2 x (List.mem_of_mem_take hx)
  ·decide
  ·decide
  ·exact hf2 x (List.mem_of_mem_drop hx)
 ·exact A6 (v:=vs f) rfl ⟨f,⟨by omega,hf2⟩,rfl,rfl⟩
end
theorem B9 (x:PyData) (m:Nat):low m (.d x):=trivial
theorem fn_line (c:Int):∃ l,Cz l/\∀ σ,FN 2 12 [vi c] σ (vs l) σ:=by
 obtain ⟨v,σ',⟨l,h1,h2,h3⟩,h⟩:=FN.ends (C:=C0 1) (f:=12) (fn:=Fline) (zs:=[vi c]) (σ:=[]) (R:=fun v σ'=>∃ l,Cz l/\v=vs l/\σ'=[]) (by unfold Pg; rfl) rfl (Nat.le_refl _) (run_line c)
 rw [h2,h3] at h
 exact ⟨l,h1,fun σ=>h.any (all_cons (B9 _ _) AR)⟩
noncomputable def Fa (c:Int):List Nat:=Classical.choose (fn_line c)
theorem lineF_ok (c:Int):Cz (Fa c):=(Classical.choose_spec (fn_line c)).1
theorem lineF_fn (c:Int) (σ:Ab):FN 2 12 [vi c] σ (vs (Fa c)) σ:=(Classical.choose_spec (fn_line c)).2 σ
noncomputable def int1 (g:Int->V) (xs:List V):Option V:=match xs with | x::r=>(match r with | []=>(BQ x).bind fun c=>some (g c) | _=>none) | []=>none
theorem int1_ok {n f:Nat} {σ:Ab} {g:Int->V} {xs:List V} {v:V} (hf:∀ c,FN n f [vi c] σ (g c) σ) (h:int1 g xs=some v):FN n f xs σ v σ:=by
 match xs,h with
 | [],h=>exact Ac h
 | [x],h =>
  obtain ⟨c,e1,h⟩:=Aa h
  rw [Bh e1,<-Option.some.inj h]
  exact hf c
 | _::_::_,h=>exact Ac h
noncomputable def C2 (n:Nat) (hn:2<=n):Cfg:=(C1 n hn).add 12 (fun xs _=>int1 (fun c=>vs (Fa c)) xs) fun _ σ _ h=>int1_ok (fun c=>(lineF_fn c σ).more hn) h
end Mine
namespace Mine
set_option tactic.hygienic true
noncomputable def DB:List Nat:=[97,100,100]
noncomputable def DV:List Nat:=[115,101,116]
set_option genInjectivity true in
structure Deed where
 word:List Nat
 mark:Option (List Nat×Int)
 text:Option (List Nat)
noncomputable abbrev Ch:=List Nat×List (List Nat)×List Deed
noncomputable abbrev Mk:=List Nat×Int
noncomputable def aft (m x:Mk):List Mk->List Mk
 | []=>[x]
 | y::r=>if y=m then y::x::r else y::aft m x r
theorem aft_eq (m x:Mk) (r:List Mk):aft m x (m::r)=m::x::r:=if_pos rfl
theorem aft_ne {m x y:Mk} {r:List Mk} (h:y≠m):aft m x (y::r)=y::aft m x r:=if_neg h
noncomputable def G3 (o:Option Mk) (x:Mk) (r:List Mk):List Mk:=match o with | none=>x::r | some m=>aft m x r
noncomputable def AH (d:Deed):Bool:=decide (d.word=DB)
noncomputable def adds:List Deed->Nat
 | []=>0
 | d::ds=>(if AH d then 1 else 0)+adds ds
noncomputable def FE (nm:List Nat):List Deed->Nat->List Mk->List Mk
 | [],_,r=>r
 | d::ds,k,r=>if AH d then FE nm ds (k+1) (G3 d.mark (nm,(k:Int)) r) else FE nm ds k r
noncomputable def GT:List Ch->List Mk->List Mk
 | [],r=>r
 | c::cs,r=>GT cs (FE c.1 c.2.2 0 r)
noncomputable def E6 (nm:List Nat) (k:Nat):Nat->List Mk
 | 0=>[]
 | n+1=>(nm,(k:Int))::E6 nm (k+1) n
theorem EV {nm:List Nat} {k n:Nat} {m:Mk}:m∈E6 nm k n ↔ m.1=nm/\(k:Int)<=m.2/\m.2 < (k:Int)+n:=by
 induction n generalizing k with
 | zero =>
  refine ⟨fun h=>(nomatch h),fun h=>?_⟩
  have h2:=h.2.2
  have h1:=h.2.1
  exact absurd h2 (by simp; omega)
 | succ n ih =>
  obtain ⟨a,b⟩:=m
  simp only [E6,List.mem_cons,ih,Prod.mk.injEq]
  constructor
  ·rintro (⟨rfl,rfl⟩ | ⟨rfl,h1,h2⟩)
   ·exact ⟨rfl,by omega,by omega⟩
   ·exact ⟨rfl,by omega,by omega⟩
  ·rintro ⟨rfl,h1,h2⟩
   by_cases e:b=k
   ·exact .inl ⟨rfl,e⟩
   ·exact .inr ⟨rfl,by omega,by omega⟩
theorem aft_perm (m x:Mk) (r:List Mk):(aft m x r).Perm (x::r):=by
 induction r with
 | nil=>exact .refl _
 | cons y r ih =>
  unfold aft
  split
  ·exact .swap ..
  ·exact (ih.cons y).trans (.swap ..)
theorem De (o:Option Mk) (x:Mk) (r:List Mk):(G3 o x r).Perm (x::r):=by
 cases o with
 | none=>exact .refl _
 | some m=>exact aft_perm m x r
theorem rowD_perm (nm:List Nat) (ds:List Deed) (k:Nat) (r:List Mk):(FE nm ds k r).Perm (E6 nm k (adds ds)++r):=by
 induction ds generalizing k r with
 | nil=>exact .refl _
 | cons d ds ih =>
  unfold FE adds
  split
  ·rw [Nat.add_comm 1]
   exact (ih (k+1) _).trans (((De ..).append_left _).trans List.perm_middle)
  ·rw [Nat.zero_add]; exact ih k r
theorem rowOf_perm (cs:List Ch) (r:List Mk):(GT cs r).Perm ((cs.flatMap fun c=>E6 c.1 0 (adds c.2.2))++r):=by
 induction cs generalizing r with
 | nil=>exact .refl _
 | cons c cs ih =>
  refine (ih _).trans (((rowD_perm c.1 c.2.2 0 r).append_left _).trans ?_)
  rw [List.flatMap_cons,<-List.append_assoc]
  exact (List.perm_append_comm).append_right _
noncomputable def Gg (q:Mk->Bool) (nm:List Nat):List Deed->Nat->List Mk->Prop
 | [],_,_=>True
 | d::ds,k,r=>if AH d then (∀ m,d.mark=some m->q m=true/\m∈r)/\Gg q nm ds (k+1) (G3 d.mark (nm,(k:Int)) r) else Gg q nm ds k r
noncomputable def DOk (nm:List Nat) (ms:List Mk):List Deed->Nat->Prop
 | [],_=>True
 | d::ds,k=>(∀ m,d.mark=some m->m∈ms\/(m.1=nm/\0<=m.2/\m.2 < (k:Int)))/\DOk nm ms ds (if AH d then k+1 else k)
theorem fit_of {q:Mk->Bool} {nm:List Nat} {ms:List Mk} (ds:List Deed) (k:Nat) (r:List Mk) (h:DOk nm ms ds k) (hq:∀ m∈ms,q m=true) (hn:∀ i:Int,q (nm,i)=true) (hm:∀ m∈ms,m∈r) (ho:∀ m:Mk,m.1=nm->0<=m.2->m.2 < (k:Int)->m∈r):Gg q nm ds k r:=by
 induction ds generalizing k r with
 | nil=>exact trivial
 | cons d ds ih =>
  unfold DOk at h
  unfold Gg
  split
  ·rename_i e
   rw [if_pos e] at h
   have sub:∀ m,m∈r->m∈G3 d.mark (nm,(k:Int)) r:=fun m hm=>(De ..).mem_iff.mpr (.tail _ hm)
   refine ⟨fun m e1=>?_,ih (k+1) _ h.2 (fun m hm'=>sub m (hm m hm')) fun m h1 h2 h3=>?_⟩
   ·rcases h.1 m e1 with h2 | h2
    ·exact ⟨hq m h2,hm m h2⟩
    ·obtain ⟨a,b⟩:=m
     have:a=nm:=h2.1
     subst this
     exact ⟨hn b,ho _ rfl h2.2.1 h2.2.2⟩
   ·by_cases e2:m.2=(k:Int)
    ·obtain ⟨a,b⟩:=m
     have q1:a=nm:=h1
     have q2:b=(k:Int):=e2
     rw [q1,q2]
     exact (De ..).mem_iff.mpr (.head _)
    ·exact sub m (ho m h1 h2 (by omega))
  ·rename_i e
   rw [if_neg e] at h
   exact ih k r h.2 hm ho
end Mine
namespace Mine
set_option tactic.hygienic true
section
variable {κ β:Type} [DecidableEq κ] {h t:List (κ×β)} {k:κ} {v:β}
theorem Be (q:κ×β) (h:List (κ×β)) (k:κ):Ao (q::h) k=if q.1=k then some q.2 else Ao h k:=by
 unfold Ao
 rw [List.find?_cons]
 by_cases e:q.1=k
 ·rw [decide_eq_true e,if_pos e]; rfl
 ·rw [decide_eq_false e,if_neg e]
theorem get_left (e:Ao h k=some v):Ao (h++t) k=some v:=by
 induction h with
 | nil=>cases e
 | cons q h ih =>
  rw [List.cons_append,Be] at *
  split at e
  ·rename_i q1; rw [if_pos q1]; exact e
  ·rename_i q1; rw [if_neg q1]; exact ih e
theorem En (e:Ao h k=none):Ao (h++t) k=Ao t k:=by
 induction h with
 | nil=>rfl
 | cons q h ih =>
  rw [Be] at e
  rw [List.cons_append,Be]
  split at e
  ·cases e
  ·rename_i q1; rw [if_neg q1]; exact ih e
theorem CB:Ao h k=none ↔ k∉h.map (·.1):=by
 induction h with
 | nil=>simp [Ao]
 | cons q h ih =>
  rw [Be,List.map_cons,List.mem_cons]
  by_cases e:q.1=k
  ·rw [if_pos e]; exact ⟨(fun q=>by cases q),fun q=>(q (.inl e.symm)).elim⟩
  ·rw [if_neg e,ih]; exact ⟨fun q1 q2=>q2.elim (fun q3=>e q3.symm) q1,fun q1 q2=>q1 (.inr q2)⟩
theorem AF:(∃ v,Ao h k=some v) ↔ k∈h.map (·.1):=by
 cases e:Ao h k with
 | none=>exact ⟨(fun ⟨v,q⟩=>by cases q),fun q=>(CB.mp e q).elim⟩
 | some v =>
  refine ⟨fun _=>?_,fun _=>⟨v,rfl⟩⟩
  by_cases q:k∈h.map (·.1)
  ·exact q
  ·rw [CB.mpr q] at e; cases e
theorem Fz:(h.any fun p=>p.1=k)=(Ao h k).isSome:=by
 induction h with
 | nil=>rfl
 | cons q h ih =>
  rw [List.any_cons,Be,ih]
  by_cases e:q.1=k
  ·rw [if_pos e,decide_eq_true e]; rfl
  ·rw [if_neg e,decide_eq_false e]; rfl
theorem ES (e:Ao h k=none):BD h k v=h++[(k,v)]:=by
 unfold BD
 rw [Fz,e]; rfl
theorem ET (k':κ):k'∈(BD h k v).map (·.1) ↔ k'=k\/k'∈h.map (·.1):=by
 unfold BD
 rw [Fz]
 cases e:Ao h k with
 | none=>simp [or_comm]
 | some d =>
  have hk:k∈h.map (·.1):=AF.mp ⟨d,e⟩
  have q1:(h.map fun p=>if p.1=k then (p.1,v) else p).map (·.1)=h.map (·.1):=by
   rw [List.map_map]
   refine List.map_congr_left fun p _=>?_
   show (if p.1=k then (p.1,v) else p).1=p.1
   split <;> rfl
  show k'∈(h.map fun p=>if p.1=k then (p.1,v) else p).map (·.1) ↔ _
  rw [q1]
  exact ⟨.inr,fun q=>q.elim (fun q=>q▸hk) id⟩
end
theorem foldl_max (l:List Int) (x:Int):x<=l.foldl (fun a b=>if a < b then b else a) x/\∀ y∈l,y<=l.foldl (fun a b=>if a < b then b else a) x:=by
 induction l generalizing x with
 | nil=>exact ⟨Int.le_refl _,fun y h=>by cases h⟩
 | cons z l ih =>
  have h:=ih (if x < z then z else x)
  rw [List.foldl_cons]
  have hx:x<=(if x < z then z else x)/\z<=(if x < z then z else x):=by split <;> omega
  refine ⟨Int.le_trans hx.1 h.1,fun y hy=>?_⟩
  rcases List.mem_cons.mp hy with rfl | hy
  ·exact Int.le_trans hx.2 h.1
  ·exact h.2 y hy
theorem max_ge (z:Int) (l:List Int):∀ y∈l,y<=D6 z l:=by
 cases l with
 | nil=>intro y h; cases h
 | cons x r =>
  intro y hy
  rcases List.mem_cons.mp hy with rfl | hy
  ·exact (foldl_max r y).1
  ·exact (foldl_max r x).2 y hy
noncomputable def hv (h:List (List Nat×Int)) (ls:List (List Nat)):Int:=D6 0 (ls.map fun l=>(Ao h l).getD 0+1)
noncomputable def hts:List (List Nat×Int)->List Ch->List (List Nat×Int)
 | h,[]=>h
 | h,c::cs=>hts (h++[(c.1,hv h c.2.1)]) cs
noncomputable def hgt (cs:List Ch) (n:List Nat):Int:=(Ao (hts [] cs) n).getD 0
theorem Fj (h:List (List Nat×Int)) (a b:List Ch):hts h (a++b)=hts (hts h a) b:=by
 induction a generalizing h with
 | nil=>rfl
 | cons c a ih=>exact ih _
theorem BF (h:List (List Nat×Int)) (cs:List Ch):(hts h cs).map (·.1)=h.map (·.1)++cs.map (·.1):=by
 induction cs generalizing h with
 | nil=>simp [hts]
 | cons c cs ih=>rw [hts,ih]; simp
theorem hts_old {h:List (List Nat×Int)} {cs:List Ch} {k:List Nat} {v:Int} (e:Ao h k=some v):Ao (hts h cs) k=some v:=by
 induction cs generalizing h with
 | nil=>exact e
 | cons c cs ih=>exact ih (get_left e)
noncomputable def DT (pre:List Ch) (ls:List (List Nat)):List Mk:=(pre.filter fun c=>decide (c.1∈ls)).flatMap fun c=>E6 c.1 0 (adds c.2.2)
structure Bd (cs:List Ch):Prop where
 nd:(cs.map (·.1)).Nodup
 ok:∀ pre c post,cs=pre++c::post->(∀ l∈c.2.1,l∈pre.map (·.1))/\DOk c.1 (DT pre c.2.1) c.2.2 0
theorem Bd.lower {cs:List Ch} (H:Bd cs) {c:Ch} (hc:c∈cs) {l:List Nat} (hl:l∈c.2.1):hgt cs l < hgt cs c.1:=by
 obtain ⟨pre,post,e⟩:=List.append_of_mem hc
 obtain ⟨h1,_⟩:=H.ok _ _ _ e
 have hk:=BF [] pre
 obtain ⟨v,hv'⟩:=AF.mpr (show l∈(hts [] pre).map (·.1) by rw [hk]; exact List.mem_append.mpr (.inr (h1 l hl)))
 have hnew:Ao (hts [] pre) c.1=none:=by
  refine CB.mpr ?_
  rw [hk]
  have hn:=H.nd
  rw [e,List.map_append,List.nodup_append] at hn
  exact fun q=>hn.2.2 c.1 (by simpa using q) c.1 (.head _) rfl
 have a1:Ao (hts [] cs) l=some v:=by rw [e,Fj]; exact hts_old hv'
 have a2:Ao (hts [] cs) c.1=some (hv (hts [] pre) c.2.1):=by
  rw [e,Fj,hts]
  refine hts_old ?_
  rw [En hnew,Be,if_pos rfl]
 unfold hgt
 rw [a1,a2]
 have:=max_ge 0 (c.2.1.map fun l=>(Ao (hts [] pre) l).getD 0+1) (v+1) (List.mem_map.mpr ⟨l,hl,by rw [hv']; rfl⟩)
 show v < hv (hts [] pre) c.2.1
 unfold hv
 omega
noncomputable def Bf (H:List Nat->Int) (a b:Ch):Prop:=H a.1 < H b.1\/(H a.1=H b.1/\b.1 < a.1)
structure IsOrd (H:List Nat->Int) (cs O:List Ch):Prop where
 perm:O.Perm cs
 bf:O.Pairwise (Bf H)
theorem bf_asym (H:List Nat->Int) (a b:Ch) (h:Bf H a b) (h':Bf H b a):False:=by
 rcases h with h | h <;> rcases h' with h' | h'
 ·omega
 ·omega
 ·omega
 ·exact List.lt_irrefl _ (List.lt_trans h.2 h'.2)
theorem IsOrd.uniq {H:List Nat->Int} {cs O O':List Ch} (h:IsOrd H cs O) (h':IsOrd H cs O'):O=O':=Cq (bf_asym H) h.bf h'.bf (h.perm.trans h'.perm.symm)
theorem ord_row {cs O:List Ch} (H:Bd cs) (ho:IsOrd (hgt cs) cs O) {A B:List Ch} {c:Ch} (e:O=A++c::B) {q:Mk->Bool} (hq:∀ m:Mk,m.1∈c.2.1->q m=true) (hn:∀ i:Int,q (c.1,i)=true):Gg q c.1 c.2.2 0 (GT A []):=by
 have hc:c∈cs:=ho.perm.mem_iff.mp (by rw [e]; simp)
 obtain ⟨pre,post,e1⟩:=List.append_of_mem hc
 obtain ⟨h1,h2⟩:=H.ok _ _ _ e1
 have lm:∀ m∈DT pre c.2.1,∃ d∈pre,d.1∈c.2.1/\m∈E6 d.1 0 (adds d.2.2):=fun m hm=>by
  obtain ⟨d,hd,hm'⟩:=List.mem_flatMap.mp hm
  have:=List.mem_filter.mp hd
  exact ⟨d,this.1,by simpa using this.2,hm'⟩
 refine fit_of c.2.2 0 _ h2 (fun m hm=>?_) hn (fun m hm=>?_) fun m _ h3 h4=>by omega
 ·obtain ⟨d,_,h3,h4⟩:=lm m hm
  exact hq m (by rw [(EV.mp h4).1]; exact h3)
 ·obtain ⟨d,h3,h4,h5⟩:=lm m hm
  have hd:d∈O:=ho.perm.mem_iff.mpr (by rw [e1]; exact List.mem_append_left _ h3)
  have low:=H.lower hc h4
  have hA:d∈A:=by
   rw [e] at hd
   rcases List.mem_append.mp hd with hd | hd
   ·exact hd
   ·rcases List.mem_cons.mp hd with rfl | hd
    ·omega
    ·have hb:=ho.bf
     rw [e,List.pairwise_append] at hb
     rcases (List.pairwise_cons.mp hb.2.1).1 d hd with h6 | h6 <;> omega
  have:=rowOf_perm A []
  rw [List.append_nil] at this
  exact this.mem_iff.mpr (List.mem_flatMap.mpr ⟨d,hA,h5⟩)
end Mine
namespace Mine
open PySem
theorem D7:Str.ofString "add" = Tx DB:=by decide +kernel
noncomputable def FQ:List Nat:=[99,117,116]
theorem k_cut:Str.ofString "cut" = Tx FQ:=by decide +kernel
theorem Fe:Str.ofString "set" = Tx DV:=by decide +kernel
theorem kne1:DV≠DB:=by decide
theorem kne2:FQ≠DB:=by decide
theorem kne3:FQ≠DV:=by decide
noncomputable def Ay (o:Option Mk):PyData:=match o with | none=>.none | some m=>.tuple [.str (Tx m.1),.int m.2]
noncomputable abbrev vm (m:Mk):V:=.d (Ay (some m))
noncomputable abbrev dms (ms:List Mk):PyData:=.list (ms.map fun m=>Ay (some m))
noncomputable def Deed.data (d:Deed):PyData:=.tuple (.str (Tx d.word)::Ay d.mark::(match d.text with | none=>[] | some l=>[.str (Tx l)]))
noncomputable abbrev dds (ds:List Deed):PyData:=.list (ds.map Deed.data)
noncomputable def Ch.data (c:Ch):PyData:=.tuple [.str (Tx c.1),dl c.2.1,dds c.2.2]
noncomputable abbrev vc (c:Ch):V:=.d (Ch.data c)
section
variable {σ:Ab}
theorem Cn (d:Deed):Bk (.d d.data) (vi 0) σ=some (vs d.word):=by
 unfold Deed.data
 cases d.text <;> rfl
theorem Co (d:Deed):Bk (.d d.data) (vi 1) σ=some (.d (Ay d.mark)):=by
 unfold Deed.data
 cases d.text <;> rfl
theorem DI (d:Deed) {l:List Nat} (h:d.text=some l):Bk (.d d.data) (vi 2) σ=some (vs l):=by
 unfold Deed.data; rw [h]; rfl
theorem Bm (c:Ch):Bk (vc c) (vi 0) σ=some (vs c.1):=rfl
theorem Cl (c:Ch):Bk (vc c) (vi 1) σ=some (.d (dl c.2.1)):=rfl
theorem BR (c:Ch):Bk (vc c) (vi 2) σ=some (.d (dds c.2.2)):=rfl
end
theorem is_mark {σ:Ab} (m:Option Mk):BB .Is (.d (Ay m)) (.d .none) σ=some m.isNone:=by cases m <;> rfl
theorem Ff {σ:Ab} (m:Option Mk):BB .IsNot (.d (Ay m)) (.d .none) σ=some (!m.isNone):=by cases m <;> rfl
structure C6 (d:Deed):Prop where
 shp:(d.word=DB/\∃ l,d.text=some l/\Cz l)\/(d.word=DV/\∃ m l,d.mark=some m/\d.text=some l/\Cz l)\/(d.word=FQ/\∃ m,d.mark=some m)
theorem GG:∀ ds:List Deed,(ds.filter fun d=>decide (d.word=DB)).length=adds ds
 | []=>rfl
 | d::ds=>by
  rw [List.filter_cons]
  show _=(if AH d then 1 else 0)+adds ds
  rw [<-GG ds]
  unfold AH
  split
  ·rw [List.length_cons,Nat.add_comm]
  ·rw [Nat.zero_add]
theorem adds_le (ds:List Deed):adds ds<=ds.length:=by rw [<-GG]; exact List.length_filter_le _ _
theorem CD:∀ (ds:List Deed) (d:Deed),adds (ds++[d])=adds ds+(if AH d then 1 else 0)
 | [],d=>by show (if AH d then 1 else 0)+0=0+_; rw [Nat.add_comm]
 | e::ds,d=>by show (if AH e then 1 else 0)+adds (ds++[d])=(if AH e then 1 else 0)+adds ds+_; rw [CD ds d,Nat.add_assoc]
theorem DOk_snoc {nm:List Nat} {ms:List Mk} {d:Deed}:∀ (ds:List Deed) (k:Nat),DOk nm ms ds k->(∀ m,d.mark=some m->m∈ms\/(m.1=nm/\0<=m.2/\m.2 < ((k+adds ds:Nat):Int)))->DOk nm ms (ds++[d]) k
 | [],k,_,h=>⟨h,trivial⟩
 | e::ds,k,⟨h1,h2⟩,h=>by
  refine ⟨h1,DOk_snoc ds _ h2 fun m hm=>?_⟩
  have:=h m hm
  have e1:(if AH e then k+1 else k)+adds ds=k+adds (e::ds):=by
   show _=k+((if AH e then 1 else 0)+adds ds)
   split <;> omega
  rw [e1]; exact this
theorem BM {α:Type} (l:List α):l.filter (fun _=>true)=l:=List.filter_eq_self.mpr fun _ _=>rfl
section
variable {O:Orc} {ρ:Af} {σ:Ab} {elt es:E} {t:Nat} {m:Int}
theorem e_compR (g:Int->PyData) (hi:(ev O es).row ρ σ=some [vi m]) (h0:0<=m) (hl:m<=1000000)
 (hg:∀ i:Int,0<=i->i < m->(ev O elt).v ((ρ.set t none).set t (some (vi i))) σ=some (.d (g i))):(ev O (.comp elt [t] (.range es) .nil)).v ρ σ=some (.d (.list ((List.range m.toNat).map fun j:Nat=>g (j:Int)))):=by
 refine E8 ?_
 rw [CP (fun j:Nat=>vi (j:Int)) (fun _=>true) (fun j:Nat=>.d (g (j:Int))) (itr hi hl (by omega)) (by rw [List.length_range]; exact Nat.le_trans (show m.toNat<=1000000 by omega) (by decide)) (fun _ _=>rfl) (fun j hj _=>hg j (Int.natCast_nonneg _) (by have:=List.mem_range.mp hj; omega)),BM,List.map_map]
 rfl
theorem CC {α:Type} {a ifs:E} {l:List α} (d:α->PyData) (p:α->Bool) (g:α->PyData) (ha:(ev O a).it ρ σ=some (l.map fun x=>.d (d x),[])) (hl:l.length<=line) (hp:∀ x∈l,(ev O ifs).ts ((ρ.set t none).set t (some (.d (d x)))) σ=some (p x))
 (hg:∀ x∈l,p x=true->(ev O elt).v ((ρ.set t none).set t (some (.d (d x)))) σ=some (.d (g x))):(ev O (.comp elt [t] a ifs)).v ρ σ=some (.d (.list ((l.filter p).map g))):=by
 refine E8 ?_
 rw [CP (fun x=>.d (d x)) p (fun x=>.d (g x)) ha hl hp hg,List.map_map]
 rfl
theorem BA {α:Type} {e:E} {l:List α} {d:α->PyData} (h:(ev O e).v ρ σ=some (.d (.list (l.map d)))) (he:(ev O e).it ρ σ=((ev O e).v ρ σ).bind (Dq σ)):(ev O e).it ρ σ=some (l.map fun x=>.d (d x),[]):=by
 rw [he,h]
 show some ((l.map d).map V.d,[])=_
 rw [List.map_map]; rfl
end
theorem own_data (t:List Nat) (k:Nat):((List.range k).map fun j:Nat=>Ay (some (t,(j:Int))))=((List.range k).map fun j:Nat=>(t,(j:Int))).map fun m=>Ay (some m):=by rw [List.map_map]; rfl
theorem ownM_range (nm:List Nat) (n k:Nat):E6 nm k n=(List.range n).map fun j:Nat=>(nm,((k+j:Nat):Int)):=by
 induction n generalizing k with
 | zero=>rfl
 | succ n ih =>
  rw [List.range_succ_eq_map,List.map_cons,List.map_map]
  show (nm,(k:Int))::E6 nm (k+1) n=_
  rw [ih]
  congr 1
  refine List.map_congr_left fun j _=>?_
  show (nm,((k+1+j:Nat):Int))=(nm,((k+(j+1):Nat):Int))
  rw [show k+1+j=k+(j+1) by omega]
theorem Ek (nm:List Nat) (n:Nat):E6 nm 0 n=(List.range n).map fun j:Nat=>(nm,(j:Int)):=by
 rw [ownM_range]; simp
theorem fn_marks {σ:Ab} (c:Ch) (hd:c.2.2.length<=100):FN 2 14 [vc c] σ (.d (dms (E6 c.1 0 (adds c.2.2)))) σ:=by
 obtain ⟨v,σ',⟨h1,h2⟩,h⟩:=FN.ends (C:=C0 1) (f:=14) (fn:=Fmarks) (zs:=[vc c]) (σ:=σ) (R:=fun v σ'=>v=.d (dms (E6 c.1 0 (adds c.2.2)))/\σ'=σ) (by unfold Pg; rfl) rfl (Nat.le_refl _) (by
  have c1:=CC (O:=(C0 1).O) (ρ:=[some (vc c),none,none,none]) (σ:=σ) (elt:=.var 2) (t:=2) (a:=.sub (.var 0) (.cst (.int 2))) (ifs:=.cons (.cmp .Eq (.sub (.var 2) (.cst (.int 0))) (.cst (.str (Str.ofString "add")))) .nil) (l:=c.2.2) Deed.data (fun d=>decide (d.word=DB)) Deed.data (BA (Ag rfl rfl (BR c)) rfl) (Nat.le_trans hd (by decide)) (fun d _=>e_ts1 (As (Ag rfl rfl (Cn d)) (congrArg (fun s=>some (V.d (.str s))) D7) EB)) (fun d _ _=>rfl)
  refine Aw (v:=vi (adds c.2.2)) (AN (Az c1) (Cs.trans (by rw [List.length_map,GG]))) ?_
  have hk:=adds_le c.2.2
  generalize adds c.2.2=k at hk
  refine A6 (e_compR (fun i=>Ay (some (c.1,i))) rfl (by omega) (by omega) (fun i _ _=>BN (Bb (Ag rfl rfl (Bm c)) rfl) rfl)) ⟨?_,rfl⟩
  show V.d (.list ((List.range (k:Int).toNat).map fun j:Nat=>Ay (some (c.1,(j:Int)))))=_
  rw [Int.toNat_natCast,own_data,Ek])
 rw [h1,h2] at h; exact h
end Mine
namespace Mine
open PySem
theorem it_rg {C:Cfg} {ρ:Af} {σ:Ab} {es:E} {m:Int} (h:(ev C.O es).row ρ σ=some [vi m]) (h1:m<=1000000) (h2:-1000000<=m):C.it (.range es) ρ σ=some ((List.range m.toNat).map (fun j:Nat=>vi (j:Int)),[]):=itr h h1 h2
structure DsAt (t:List Nat) (ms:List Mk) (p:Nat) (ds:List Deed) (own:Nat):Prop where
 own:own=adds ds
 len:ds.length=p
 dok:DOk t ms ds 0
 ok:∀ d∈ds,C6 d
theorem DsAt.snoc {t:List Nat} {ms:List Mk} {p:Nat} {ds:List Deed} {own own':Nat} {d:Deed} (h:DsAt t ms p ds own) (ho:own'=own+(if AH d then 1 else 0)) (hd:C6 d) (hm:∀ m,d.mark=some m->m∈ms\/(m.1=t/\0<=m.2/\m.2 < (own:Int))):DsAt t ms (p+1) (ds++[d]) own' :=
 ⟨by rw [ho,CD,h.own],by rw [List.length_append,h.len]; rfl,DOk_snoc ds 0 h.dok fun m e=>by rw [Nat.zero_add,<-h.own]; exact hm m e,fun e he=>by
  rcases List.mem_append.mp he with he | he
  ·exact h.ok e he
  ·rw [List.mem_singleton.mp he]; exact hd⟩
theorem run_deeds {C:Cfg} (hm:∀ c k σ,C.O 10 [vi c,vi k] σ=some (vi (Bp c k))) (hl:∀ c σ,C.O 12 [vi c] σ=some (vs (Fa c)))
 (t:List Nat) (c many:Int) (ms:List Mk) (h0:0<=many) (h1:many<=100) (hml:ms.length<=10000) :
 Ah C (fun fl σ'=>∃ ds:List Deed,ds.length=many.toNat/\DOk t ms ds 0/\(∀ d∈ds,C6 d)/\GU fl=.ref 0/\σ'=[.list (ds.map fun d=>.d d.data)]) Fdeeds.body (B6 Fdeeds [vs t,vi c,vi many,.d (dms ms)]) []:=by
 show Ah C _ _ [some (vs t),some (vi c),some (vi many),some (.d (dms ms)),none,none,none,none,none,none,none,none,none] []
 refine Bj (ws:=[]) rfl ?_
 refine Aw (v:=vi 0) rfl ?_
 let K:Nat->Option V->Option V->Option V->Option V->Option V->Option V->Option V->Af:=fun own z6 z7 z8 z9 z10 z11 z12=>[some (vs t),some (vi c),some (vi many),some (.d (dms ms)),some (.ref 0),some (vi own),z6,z7,z8,z9,z10,z11,z12]
 refine AL (l:=List.range many.toNat) (fun j:Nat=>vi (j:Int)) (fun p ρ σ=>∃ ds own,DsAt t ms p.length ds own/\(∃ z6 z7 z8 z9 z10 z11 z12,ρ=K own z6 z7 z8 z9 z10 z11 z12)/\σ=[.list (ds.map fun d=>.d d.data)])
  (it_rg rfl (by omega) (by omega)) ⟨[],0,⟨rfl,rfl,trivial,fun d h=>nomatch h⟩,⟨none,none,none,none,none,none,none,rfl⟩,rfl⟩ ?_ ?_
 ·rintro p j q ρ σ hp ⟨ds,own,D,⟨z6,z7,z8,z9,z10,z11,z12,rfl⟩,rfl⟩
  have hpl:p.length < 100:=by
   have:=congrArg List.length hp
   rw [List.length_range,List.length_append,List.length_cons] at this; omega
  have hdl:ds.length < 100:=D.len▸hpl
  have hon:own<=100:=by rw [D.own]; exact Nat.le_trans (adds_le ds) (Nat.le_of_lt hdl)
  have hll:(ds.map fun d=>V.d d.data).length < line:=by rw [List.length_map]; exact Nat.lt_trans hdl (by decide)
  have fin:∀ (d:Deed) (own':Nat) (ρ:Af),own'=own+(if AH d then 1 else 0)->C6 d->(∀ m,d.mark=some m->m∈ms\/(m.1=t/\0<=m.2/\m.2 < (own:Int)))->(∃ z6 z7 z8 z9 z10 z11 z12,ρ=K own' z6 z7 z8 z9 z10 z11 z12) ->
   ∃ ρ',Fl.next ρ=.next ρ'/\∃ ds' own,DsAt t ms (p++[j]).length ds' own/\(∃ z6 z7 z8 z9 z10 z11 z12,ρ'=K own z6 z7 z8 z9 z10 z11 z12)/\([O.list ((ds.map fun d=>V.d d.data)++[V.d d.data])]:Ab)=[O.list (ds'.map fun d=>V.d d.data)]:=fun d own' ρ ho hd hm hρ =>
   ⟨ρ,rfl,ds++[d],own',by rw [List.length_append]; exact D.snoc ho hd hm,hρ,by rw [List.map_append]; rfl⟩
  have hown:(ev C.O (.comp (.tup (.cons (.var 0) (.cons (.var 12) .nil))) [12] (.range (.cons (.var 5) .nil)) .nil)).v (K own (some (vi j)) z7 z8 z9 z10 z11 z12) [.list (ds.map fun d=>.d d.data)]=some (.d (dms ((List.range own).map fun j:Nat=>(t,(j:Int))))):=by
   rw [e_compR (fun i=>Ay (some (t,i))) (m:=own) rfl (by omega) (by omega) (fun i _ _=>BN (Bb rfl rfl) rfl),Int.toNat_natCast,own_data]
  obtain ⟨ks,hks,hks1,hks2⟩:∃ ks:List Mk,C.v (.bin .Add (.var 3) (.comp (.tup (.cons (.var 0) (.cons (.var 12) .nil))) [12] (.range (.cons (.var 5) .nil)) .nil)) (K own (some (vi j)) z7 z8 z9 z10 z11 z12) [.list (ds.map fun d=>.d d.data)]=some (.d (dms ks))/\(∀ m∈ks,m∈ms\/(m.1=t/\0<=m.2/\m.2 < (own:Int)))/\ks.length<=10100:=by
   refine ⟨ms++(List.range own).map (fun j:Nat=>(t,(j:Int))),Ai rfl hown ((b_catL _ _ ?_).trans (by rw [<-List.map_append])),?_,?_⟩
   ·simp [line]; omega
   ·intro m hm
    rcases List.mem_append.mp hm with hm | hm
    ·exact .inl hm
    ·obtain ⟨i,hi,rfl⟩:=List.mem_map.mp hm
     have:=List.mem_range.mp hi
     exact .inr ⟨rfl,Int.natCast_nonneg i,by show (i:Int) < _; omega⟩
   ·simp; omega
  refine Aw hks ?_
  refine Aw (v:=vi (Bp c j)) (FU (Bb rfl rfl) (hm _ _ _)) ?_
  generalize Bp c j=L
  have hat:=AG (L.fdiv 5) (j:=(ks.length:Int)+1) (by omega)
  have hkl:∀ σ,Bx .len σ [.d (dms ks)]=some (vi ks.length):=fun σ=>Cs.trans (by rw [List.length_map])
  refine Aw (v:=vi ((L.fdiv 5).fmod ((ks.length:Int)+1))) (Ai (Ai rfl rfl (BW (by decide))) (Ai (AN (Az rfl) (hkl _)) rfl rfl) (AD (by omega))) ?_
  generalize (L.fdiv 5).fmod ((ks.length:Int)+1)=a at hat
  refine Aw (v:=vs (Fa (L.fdiv 365))) (FU (Az (Ai rfl rfl (BW (by decide)))) (hl _ _)) ?_
  have hlo:=lineF_ok (L.fdiv 365)
  generalize Fa (L.fdiv 365)=l at hlo
  have pick:∀ i:Int,0<=i->i < ks.length->∃ m,m∈ks/\∀ σ,Bk (.d (dms ks)) (vi i) σ=some (vm m):=fun i i0 i1=>by
   obtain ⟨m,hm1⟩:∃ m,ks[i.toNat]? = some m:=⟨_,List.getElem?_eq_getElem (by omega)⟩
   exact ⟨m,List.mem_of_getElem? hm1,fun σ=>Fy _ i0 (by omega) (by rw [List.getElem?_map,hm1]; rfl)⟩
  refine A3 (t:=decide (L.fmod 5 < 3) || !(!(ks.map fun m=>Ay (some m)).isEmpty)) (CR (As (Ai rfl rfl (AD (by decide))) rfl c_lt) fun _=>rfl) (fun h=>?_) (fun h=>?_)
  ·refine Aw (v:=.d .none) rfl ?_
   refine Cw (M:=fun ρ σ'=>(∃ o:Option Mk,(∀ m,o=some m->m∈ks)/\ρ=K own (some (vi j)) (some (.d (dms ks))) (some (vi L)) (some (vi a)) (some (vs l)) (some (.d (Ay o))) z12)/\[.list (ds.map fun d=>.d d.data)]=σ') ?_ ?_
   ·refine A3 (t:=decide (a > 0)) rfl (fun h=>?_) (fun h=>?_)
    ·have h:=of_decide_eq_true h
     obtain ⟨m,hm1,hm2⟩:=pick (a-1) (by omega) (by omega)
     exact Aw (v:=vm m) (Ag rfl (Ai rfl rfl rfl) (hm2 _)) (Ad (Ad ⟨_,rfl,⟨some m,(fun m' e=>Option.some.inj e▸hm1),rfl⟩,rfl⟩))
    ·exact Ad (Ad ⟨_,rfl,⟨none,(fun m' e=>Ac e),rfl⟩,rfl⟩)
   rintro _ _ ⟨⟨o,ho,rfl⟩,rfl⟩
   refine AJ (k:=0) (y:=.d (Deed.data ⟨DB,o,some l⟩)) rfl (Az (BN (e_r3 (x:=vs DB) (congrArg (fun s=>some (V.d (.str s))) D7) rfl rfl) rfl)) rfl hll ?_
   exact Aw (v:=vi ((own:Int)+1)) rfl (Ad (Ad (fin ⟨DB,o,some l⟩ (own+1) _ rfl ⟨.inl ⟨rfl,l,rfl,hlo⟩⟩ (fun m e=>hks1 m (ho m e)) ⟨_,_,_,_,_,_,_,rfl⟩)))
  ·have h2:=(Bool.or_eq_false_iff.mp h).2
   have hpos:0 < ks.length:=by
    cases ks with
    | nil=>cases h2
    | cons _ _=>exact Nat.succ_pos _
   have hi:=AG a (j:=(ks.length:Int)) (by omega)
   obtain ⟨m,hm1,hm2⟩:=pick (a.fmod ks.length) hi.1 hi.2
   refine A3 (t:=decide (L.fmod 5=3)) (As (Ai rfl rfl (AD (by decide))) rfl B5) (fun h=>?_) (fun h=>?_)
   ·exact AJ (k:=0) (y:=.d (Deed.data ⟨FQ,some m,none⟩)) rfl (Az (BN (Bb (x:=vs FQ) (congrArg (fun s=>some (V.d (.str s))) k_cut) (Ag rfl (Ai rfl (AN (Az rfl) (hkl _)) (AD (by omega))) (hm2 _))) rfl)) rfl hll (Ad (Ad (Ad (fin ⟨FQ,some m,none⟩ own _ rfl ⟨.inr (.inr ⟨rfl,m,rfl⟩)⟩ (fun m' e=>Option.some.inj e▸hks1 m hm1) ⟨_,_,_,_,_,_,_,rfl⟩))))
   ·exact AJ (k:=0) (y:=.d (Deed.data ⟨DV,some m,some l⟩)) rfl (Az (BN (e_r3 (x:=vs DV) (congrArg (fun s=>some (V.d (.str s))) Fe) (Ag rfl (Ai rfl (AN (Az rfl) (hkl _)) (AD (by omega))) (hm2 _)) rfl) rfl)) rfl hll (Ad (Ad (Ad (fin ⟨DV,some m,some l⟩ own _ rfl ⟨.inr (.inl ⟨rfl,m,l,rfl,rfl,hlo⟩)⟩ (fun m' e=>Option.some.inj e▸hks1 m hm1) ⟨_,_,_,_,_,_,_,rfl⟩))))
 ·rintro ρ σ ⟨ds,own,D,⟨z6,z7,z8,z9,z10,z11,z12,rfl⟩,rfl⟩
  exact A6 (v:=.ref 0) rfl ⟨ds,by rw [D.len,List.length_range],D.dok,D.ok,rfl,rfl⟩
theorem fn_deeds (t:List Nat) (c many:Int) (ms:List Mk) (h0:0<=many) (h1:many<=100) (hml:ms.length<=10000):∃ ds:List Deed,ds.length=many.toNat/\DOk t ms ds 0/\(∀ d∈ds,C6 d)/\∀ σ,FN 3 15 [vs t,vi c,vi many,.d (dms ms)] σ (.d (dds ds)) σ:=by
 obtain ⟨v,σ',⟨ds,k1,k2,k3,k4,k5⟩,h⟩:=FN.ends (C:=C2 2 (Nat.le_refl _)) (f:=15) (fn:=Fdeeds) (zs:=[vs t,vi c,vi many,.d (dms ms)]) (σ:=[]) (R:=fun v σ'=>∃ ds:List Deed,ds.length=many.toNat/\DOk t ms ds 0/\(∀ d∈ds,C6 d)/\v=.ref 0/\σ'=[.list (ds.map fun d=>.d d.data)]) (by unfold Pg; rfl) rfl (show 1<=2 by decide) (run_deeds (fun _ _ _=>rfl) (fun _ _=>rfl) t c many ms h0 h1 hml)
 rw [k4,k5] at h
 exact ⟨ds,k1,k2,k3,fun σ=>(FN.seal (σ:=[]) (d:=dds ds) h ⟨_,rfl,Nat.zero_le _,by rw [List.map_map]; rfl⟩).any (all_cons (B9 _ _) (all_cons (B9 _ _) (all_cons (B9 _ _) (all_cons (B9 _ _) AR))))⟩
end Mine
namespace Mine
open PySem
noncomputable def insL (x:List Nat):List (List Nat)->List (List Nat)
 | []=>[x]
 | y::r=>if decide (x < y) then x::y::r else y::insL x r
noncomputable def Al:List (List Nat)->List (List Nat)
 | []=>[]
 | x::r=>insL x (Al r)
theorem insStr_Tx (x:List Nat) (l:List (List Nat)):Dr (Tx x) (l.map Tx)=(insL x l).map Tx:=by
 induction l with
 | nil=>rfl
 | cons y l ih =>
  show (if AX (Tx x) (Tx y)=true then Tx x::Tx y::l.map Tx else Tx y::Dr (Tx x) (l.map Tx))=(if decide (x < y)=true then x::y::l else y::insL x l).map Tx
  rw [Tx_lt,ih]
  cases decide (x < y) <;> rfl
theorem E2 (l:List (List Nat)):CL (l.map Tx)=(Al l).map Tx:=by
 induction l with
 | nil=>rfl
 | cons y l ih =>
  show Dr (Tx y) (CL (l.map Tx))=(insL y (Al l)).map Tx
  rw [ih,insStr_Tx]
theorem A1 (l:List (List Nat)):(Al l).Perm l:=by
 have ins:∀ (x:List Nat) (l:List (List Nat)),(insL x l).Perm (x::l):=by
  intro x l
  induction l with
  | nil=>exact .refl _
  | cons y l ih =>
   unfold insL
   split
   ·exact .refl _
   ·exact (ih.cons y).trans (.swap ..)
 induction l with
 | nil=>exact .refl _
 | cons y l ih=>exact (ins y _).trans (ih.cons y)
theorem BJ (l:List (List Nat)) (h:l.Nodup):(Al l).Pairwise (· < ·):=by
 have h1:=CE (l.map Tx)
 rw [E2] at h1
 have h1:((Al l).map Tx).Pairwise fun a b=>AX b a=false:=h1
 rw [List.pairwise_map] at h1
 have h2:(Al l).Nodup:=(A1 l).nodup_iff.mpr h
 refine (h1.and h2).imp fun {a b} q=>?_
 have q1:=q.1
 rw [Tx_lt] at q1
 exact Classical.byContradiction fun h=>q.2 (List.le_antisymm (List.not_lt.mp (of_decide_eq_false q1)) (List.not_lt.mp h))
theorem mapV_vs (l:List (List Nat)):BY BC (l.map vs)=some (l.map Tx):=by
 rw [show l.map vs=vss (l.map Tx) by show _=(l.map Tx).map _; rw [List.map_map]; rfl]
 exact FM _
theorem EO {σ:Ab} {x:V} {l:List (List Nat)} (hx:Ax σ x=some (l.map vs)) (h:l.length < 64):Bx .sorted σ [x]=some (.d (dl (Al l))):=by
 show (bmake1 .sorted σ x).bind mkL=_
 show ((Ax σ x).bind fun ws=>(BY BC ws).bind fun ss=>if ss.length < 64 then some (vss (CL ss)) else none).bind mkL=_
 rw [hx,bs,mapV_vs,bs,if_pos (by rw [List.length_map]; exact h),bs,E2]
 have e:vss ((Al l).map Tx)=((Al l).map fun t=>PyData.str (Tx t)).map V.d:=by
  show ((Al l).map Tx).map _=_
  rw [List.map_map,List.map_map]; rfl
 rw [e]
 exact mkLT _ (by rw [List.length_map,(A1 l).length_eq]; exact Nat.le_trans (Nat.le_of_lt h) (by decide))
theorem enumV_eq (ds:List PyData) (k:Nat):Go k ds=(ds.zipIdx k).map fun p=>V.d (.tuple [.int (p.2:Int),p.1]):=by
 induction ds generalizing k with
 | nil=>rfl
 | cons x a ih=>show _::Go (k+1) a=_; rw [ih]; rfl
theorem idx_fst:∀ (l:List Ch) (k:Nat),(l.zipIdx k).map (·.1.1)=l.map (·.1)
 | [],_=>rfl
 | _::l,k=>by rw [List.zipIdx_cons,List.map_cons,List.map_cons,idx_fst l (k+1)]
theorem listD_map {α:Type} {σ:Ab} {k:Nat} {l:List α} {d:α->PyData} (h:σ[k]? = some (.list (l.map fun a=>V.d (d a)))):listD σ (.ref k)=some (l.map d):=by
 show (Cr σ[k]?).bind Di=_
 rw [h]
 show Di (l.map fun a=>V.d (d a))=_
 rw [show (l.map fun a=>V.d (d a))=(l.map d).map V.d by rw [List.map_map]; rfl,CJ]
noncomputable abbrev lcs (cs:List Ch):O:=.list (cs.map vc)
theorem run_leans {C:Cfg} (hm:∀ c k σ,C.O 10 [vi c,vi k] σ=some (vi (Bp c k))) (c:Int) (cs:List Ch) (hcs:cs.length<=60) :
 Ah C (fun fl σ'=>∃ fs:List (List Nat),fs.Sublist (cs.map (·.1))/\GU fl=.d (dl (Al fs))/\σ'=[lcs cs,.list (fs.map vs)]) Fleans.body (B6 Fleans [vi c,.ref 0]) [lcs cs]:=by
 show Ah C _ _ [some (vi c),some (.ref 0),none,none,none,none,none] [lcs cs]
 refine Aw (v:=vi (Bp c 1)) (FU (Bb rfl rfl) (hm _ _ _)) ?_
 refine Bj (ws:=[]) rfl ?_
 let K:Int->Option V->Option V->Option V->Af:=fun L z4 z5 z6=>[some (vi c),some (.ref 0),some (vi L),some (.ref 1),z4,z5,z6]
 have hlen:∀ o,Bx .len [lcs cs,o] [.ref 0]=some (vi cs.length):=fun o=>(len_r rfl).trans (by rw [List.length_map])
 refine DY (l:=cs.zipIdx) (kps:=[(0,(cs.map Ch.data).map V.d)]) (fun p=>V.d (.tuple [.int (p.2:Int),Ch.data p.1])) (fun p ρ σ=>∃ fs:List (List Nat),fs.Sublist (p.map (·.1.1))/\(∃ L z4 z5 z6,ρ=K L z4 z5 z6)/\σ=[lcs cs,.list (fs.map vs)]) ?_ ?_ (fun _ _=>.inr ⟨_,rfl,rfl⟩) ⟨[],.refl _,⟨_,none,none,none,rfl⟩,rfl⟩ ?_ ?_
 ·show (listD [lcs cs,.list []] (.ref 0)).bind (fun ds=>some (Go 0 ds,CA (.ref 0) (ds.map .d)))=_
  rw [listD_map (l:=cs) (d:=Ch.data) rfl,bs,enumV_eq,List.zipIdx_map,List.map_map]
  rfl
 ·rintro p ρ σ ⟨fs,_,_,rfl⟩ k ws hk
  obtain ⟨rfl,rfl⟩:=Prod.mk.inj (List.mem_singleton.mp hk)
  rw [List.map_map]; rfl
 ·rintro p ⟨ch,i⟩ q ρ σ hp ⟨fs,g1,⟨L,z4,z5,z6,rfl⟩,rfl⟩
  have hfl:fs.length < 100:=by
   have h1:=g1.length_le
   have h2:=congrArg List.length hp
   simp at h1 h2; omega
  show Ah C _ _ (K L (some (vi i)) (some (vc ch)) z6) [lcs cs,.list (fs.map vs)]
  have h3:=AG c (j:=3) (by decide)
  refine Aw (v:=vb (decide ((i:Int)=cs.length-1)&&decide (c.fmod 7=3))) (e_and2v (EC rfl (Ai (AN (Az rfl) (hlen _)) rfl rfl) B5) fun _=>EC (Ai rfl rfl (AD (by decide))) rfl B5) ?_
  generalize (decide ((i:Int)=cs.length-1)&&decide (c.fmod 7=3))=last
  refine Cw (M:=fun ρ σ=>∃ fs':List (List Nat),fs'.Sublist ((p++[(ch,i)]).map (·.1.1))/\ρ=K L (some (vi i)) (some (vc ch)) (some (vb last))/\σ=[lcs cs,.list (fs'.map vs)]) ?_ ?_
  ·refine A3 (t:=last||(decide (L.fmod (2+c.fmod 3)=0)&&(decide ((cs.length:Int) < 20)||decide ((i:Int).fmod 7=(L.fdiv 4).fmod 7))))
    (CR rfl fun _=>Ci (As (Ai rfl (Ai rfl (Ai rfl rfl (AD (by decide))) rfl) (AD (by omega))) rfl B5) fun _=>CR (As (AN (Az rfl) (hlen _)) rfl c_lt) fun _=>As (Ai rfl rfl (AD (by decide))) (Ai (Ai rfl rfl (BW (by decide))) rfl (AD (by decide))) B5) (fun _=>?_) (fun _=>?_)
   ·refine AJ (k:=1) (y:=vs ch.1) rfl (Az (Ag rfl rfl (Bm ch))) rfl (by rw [List.length_map]; exact Nat.lt_trans hfl (by decide)) (Ad (Ad ⟨_,rfl,fs++[ch.1],?_,rfl,?_⟩))
    ·rw [List.map_append]; exact g1.append (.refl _)
    ·rw [List.map_append]; rfl
   ·exact Ad (Ad ⟨_,rfl,fs,by rw [List.map_append]; exact g1.trans (List.sublist_append_left _ _),rfl,rfl⟩)
  rintro _ _ ⟨fs',k1,rfl,rfl⟩
  refine Aw (v:=vi (L.fdiv 3)) (Ai rfl rfl (BW (by decide))) ?_
  refine A3 (t:=decide (L.fdiv 3 < 100)) rfl (fun _=>?_) (fun _=>?_)
  ·exact Aw (v:=vi (Bp c ((i:Int)+2))) (FU (Bb rfl rfl) (hm _ _ _)) (Ad (Ad ⟨_,rfl,fs',k1,⟨_,_,_,_,rfl⟩,rfl⟩))
  ·exact Ad (Ad ⟨_,rfl,fs',k1,⟨_,_,_,_,rfl⟩,rfl⟩)
 ·rintro ρ σ ⟨fs,g1,⟨L,z4,z5,z6,rfl⟩,rfl⟩
  have g2:fs.Sublist (cs.map (·.1)):=by rw [<-idx_fst cs 0]; exact g1
  have hl:=g2.length_le
  rw [List.length_map] at hl
  exact A6 (v:=.d (dl (Al fs))) (AN (Az rfl) (EO (x:=.ref 1) (lst_r rfl) (by omega))) ⟨fs,g2,rfl,rfl⟩
theorem low_cs (cs:List Ch):∀ (k:Nat) o,([lcs cs]:Ab)[k]? = some o->FO 1 o:=fun k o e=>by
 cases k with
 | zero =>
  rw [<-Option.some.inj (show some (lcs cs)=some o from e)]
  intro v hv
  obtain ⟨c,_,rfl⟩:=List.mem_map.mp hv
  exact trivial
 | succ k=>exact Ac e
theorem fn_leans {τ:Ab} (c:Int) (cs:List Ch) (hcs:cs.length<=60):∃ fs:List (List Nat),fs.Sublist (cs.map (·.1))/\FN 3 13 [vi c,.ref 0] (lcs cs::τ) (.d (dl (Al fs))) (lcs cs::τ):=by
 obtain ⟨v,σ',⟨fs,k1,k2,k3⟩,h⟩:=FN.ends (C:=C1 2 (Nat.le_refl _)) (f:=13) (fn:=Fleans) (zs:=[vi c,.ref 0]) (σ:=[lcs cs]) (R:=fun v σ'=>∃ fs:List (List Nat),fs.Sublist (cs.map (·.1))/\v=.d (dl (Al fs))/\σ'=[lcs cs,.list (fs.map vs)]) (by unfold Pg; rfl) rfl (show 1<=2 by decide) (run_leans (fun _ _ _=>rfl) c cs hcs)
 rw [k2,k3] at h
 exact ⟨fs,k1,FN.tail (σ:=[lcs cs]) (σ':=[lcs cs]) (FN.seal (σ:=[lcs cs]) (τ:=[.list (fs.map vs)]) h rfl) rfl (all_cons (B9 _ _) (all_cons (show 0 < 1 by decide) AR)) (low_cs cs)⟩
end Mine
namespace Mine
open PySem
structure GenCh (c:Ch):Prop where
 name:Bt c.1=true
 few:c.2.1.length<=60
 rise:c.2.1.Pairwise (· < ·)
 deeds:c.2.2.length<=20
 ok:∀ d∈c.2.2,C6 d
theorem lmarks_snoc (pre:List Ch) (c:Ch) (ls:List (List Nat)):DT (pre++[c]) ls=DT pre ls++(if c.1∈ls then E6 c.1 0 (adds c.2.2) else []):=by
 unfold DT
 rw [List.filter_append,List.flatMap_append]
 congr 1
 by_cases h:c.1∈ls
 ·rw [if_pos h,List.filter_cons_of_pos (by exact decide_eq_true h)]; simp
 ·rw [if_neg h,List.filter_cons_of_neg (by simpa using h)]; rfl
theorem Bd.snoc {cs:List Ch} {c:Ch} (H:Bd cs) (hn:c.1∉cs.map (·.1)) (hl:∀ l∈c.2.1,l∈cs.map (·.1)) (hd:DOk c.1 (DT cs c.2.1) c.2.2 0):Bd (cs++[c]):=by
 refine ⟨?_,fun pre x post e=>?_⟩
 ·rw [List.map_append,List.nodup_append]
  refine ⟨H.nd,by simp,fun a ha b hb e=>hn ?_⟩
  have:b=c.1:=by simpa using hb
  rw [<-this,<-e]; exact ha
 ·rcases List.eq_nil_or_concat post with rfl | ⟨post',y,rfl⟩
  ·have e':cs++[c]=pre++[x]:=e
   obtain ⟨rfl,e2⟩:=List.append_inj' e' rfl
   cases e2
   exact ⟨hl,hd⟩
  ·have e':cs++[c]=(pre++x::post')++[y]:=by rw [e]; simp
   obtain ⟨e1,_⟩:=List.append_inj' e' rfl
   exact H.ok _ _ _ e1
theorem k_zero:Str.ofString "0" = Tx [48]:=by decide +kernel
theorem zero_name:Bt [48]=true:=by decide
noncomputable abbrev scD (ns:List Int):PyData:=.list (ns.map .int)
theorem sub_sc {σ:Ab} {ns:List Int} (i:Int) (h0:0<=i) (h:i < ns.length) (hn:ns.length<=1000):Bk (.d (scD ns)) (vi i) σ=some (vi (ns.getD i.toNat 0)):=by
 have hi:i.toNat < ns.length:=by omega
 refine Fy i h0 (by omega) ?_
 rw [List.getElem?_map,List.getElem?_eq_getElem hi]
 show some (PyData.int ns[i.toNat])=some (.int (ns.getD i.toNat 0))
 rw [List.getD_eq_getElem?_getD,List.getElem?_eq_getElem hi]; rfl
noncomputable abbrev ltk (cs:List Ch):O:=.list (([48]::cs.map (·.1)).map vs)
noncomputable def chBody:S:=match Eh.body with | .cons _ (.cons _ (.cons (.for_ _ _ b) _))=>b | _=>.nil
theorem turn_changes {C:Cfg} (hn:3<=C.n) (ns:List Int) (most k:Int) (hns:ns.length<=1000) (h0:0<=k) (hk:4 * (k+1)<=ns.length) (cs:List Ch) (hcs:cs.length < 60) (hg:∀ c∈cs,GenCh c) (hok:Bd cs) (hnd:([48]::cs.map (·.1)).Nodup) (z5 z6 z7 z8 z9:Option V) :
 Ah C (fun fl σ'=>∃ ρ',fl=.next ρ'/\∃ (c:Ch) (z5 z6 z7 z8 z9:Option V),GenCh c/\Bd (cs++[c])/\([48]::(cs++[c]).map (·.1)).Nodup/\ρ'=[some (.d (scD ns)),some (vi most),some (.ref 0),some (.ref 1),some (vi k),z5,z6,z7,z8,z9]/\σ'=[lcs (cs++[c]),ltk (cs++[c])])
  chBody [some (.d (scD ns)),some (vi most),some (.ref 0),some (.ref 1),some (vi k),z5,z6,z7,z8,z9] [lcs cs,ltk cs]:=by
 have hnm:∀ x∈([48]::cs.map (·.1)),Bt x=true:=by
  intro x hx
  rcases List.mem_cons.mp hx with rfl | hx
  ·exact zero_name
  ·obtain ⟨c,hc,rfl⟩:=List.mem_map.mp hx
   exact (hg c hc).name
 have m4:∀ {e σ z5 z6 z7 z8 z9},(ev C.O (.bin .Mult (.cst (.int 4)) (.var 4))).v [some (.d (scD ns)),some (vi most),some (.ref 0),some (.ref 1),some (vi k),z5,z6,z7,z8,z9] σ=e ↔ some (vi (4 * k))=e:=by
  intro e σ z5 z6 z7 z8 z9
  rw [Ai rfl rfl (Fw (sm4 k))]
 have cell:∀ (j:Int) {σ z5 z6 z7 z8 z9},0<=j->j < 4->(ev C.O (.sub (.var 0) (.bin .Add (.bin .Mult (.cst (.int 4)) (.var 4)) (.cst (.int j))))).v [some (.d (scD ns)),some (vi most),some (.ref 0),some (.ref 1),some (vi k),z5,z6,z7,z8,z9] σ=some (vi (ns.getD (4 * k+j).toNat 0)):=fun j {σ z5 z6 z7 z8 z9} j0 j4 =>
  Ag rfl (Ai (m4.mpr rfl) rfl rfl) (sub_sc (4 * k+j) (by omega) (by omega) hns)
 obtain ⟨t,t1,t2,t3⟩:=fn_name (σ:=[lcs cs,ltk cs]) (x:=.ref 1) (ns.getD (4 * k).toNat 0) ([48]::cs.map (·.1)) (lst_r rfl) hnm (by rw [List.length_cons,List.length_map]; omega)
 refine AB (v:=vs t) rfl (.fcall ((Ae C.ok _).row (Bb (Ag rfl (m4.mpr rfl) (sub_sc (4 * k) (by omega) (by omega) hns)) rfl)) (t3.more hn)) ?_
 refine AJ (k:=1) (y:=vs t) rfl rfl rfl (by rw [List.length_map,List.length_cons,List.length_map]; exact Nat.lt_trans (Nat.succ_lt_succ hcs) (by decide)) ?_
 obtain ⟨fs,f1,f2⟩:=fn_leans (τ:=[.list (([48]::cs.map (·.1)).map vs++[vs t])]) (ns.getD (4 * k+1).toNat 0) cs (Nat.le_of_lt hcs)
 refine AB (v:=.d (dl (Al fs))) rfl (.fcall ((Ae C.ok _).row (Bb (cell 1 (by decide) (by decide)) rfl)) (f2.more hn)) ?_
 refine Aw (v:=.d (.list [])) rfl ?_
 have hfl:(Al fs).length<=60:=by
  rw [(A1 fs).length_eq]
  have:=f1.length_le
  rw [List.length_map] at this; omega
 refine DY (l:=cs) (kps:=[(0,cs.map vc)]) vc (fun pre ρ σ=>(∃ ms,ms=DT pre (Al fs)/\ms.length<=20 * pre.length/\∃ z8,ρ=[some (.d (scD ns)),some (vi most),some (.ref 0),some (.ref 1),some (vi k),some (vs t),some (.d (dl (Al fs))),some (.d (dms ms)),z8,z9])/\σ=[lcs cs,.list (([48]::cs.map (·.1)).map vs++[vs t])]) rfl ?_ (fun _ _=>.inl rfl) ⟨⟨[],rfl,Nat.zero_le _,_,rfl⟩,rfl⟩ ?_ ?_
 ·rintro p ρ σ ⟨_,rfl⟩ k ws hk
  obtain ⟨rfl,rfl⟩:=Prod.mk.inj (List.mem_singleton.mp hk)
  rfl
 ·rintro p c q ρ σ hp ⟨⟨ms,m1,m2,z8,rfl⟩,rfl⟩
  have hc:GenCh c:=hg c (by rw [hp]; simp)
  have hpl:p.length < 60:=by have:=congrArg List.length hp; simp at this; omega
  have hsn:=lmarks_snoc p c (Al fs)
  have hjd:=adds_le c.2.2
  have hcd:=hc.deeds
  refine A3 (t:=decide (c.1∈Al fs)) (As (Ag rfl rfl (Bm c)) rfl (Dt _ _)) (fun h=>?_) (fun h=>?_)
  ·have h:=of_decide_eq_true h
   refine AB (v:=.d (dms (ms++E6 c.1 0 (adds c.2.2)))) rfl (FS (ws:=((ms++E6 c.1 0 (adds c.2.2)).map fun m=>Ay (some m)).map V.d) (.bin ((Ae C.ok (.var 7)).v rfl) (.fcall ((Ae C.ok _).row (Az rfl)) ((fn_marks c (by omega)).more (Nat.le_trans (by decide) hn))) (catL_ok ?_)) (mkLT _ ?_)) (Ad (Ad ⟨_,rfl,⟨_,by rw [hsn,if_pos h,m1],?_,_,rfl⟩,rfl⟩))
   ·show (if _ then _ else _)=_
    rw [if_pos (by simp [line,Ek]; omega)]
    simp [List.map_append]
   ·simp [line,Ek]; omega
   ·simp [Ek]; omega
  ·exact Ad (Ad ⟨_,rfl,⟨ms,by rw [hsn,if_neg (of_decide_eq_false h),List.append_nil]; exact m1,by rw [List.length_append]; omega,_,rfl⟩,rfl⟩)
 rintro _ _ ⟨⟨ms,m1,m2,z8,rfl⟩,rfl⟩
 have h5:=AG (ns.getD (4 * k+3).toNat 0) (j:=5) (by decide)
 refine Aw (v:=vi ((ns.getD (4 * k+3).toNat 0).fmod 5)) (Ai (cell 3 (by decide) (by decide)) rfl (AD (by decide))) ?_
 refine Cw (M:=fun ρ σ=>(∃ m:Int,0<=m/\m<=20/\ρ=[some (.d (scD ns)),some (vi most),some (.ref 0),some (.ref 1),some (vi k),some (vs t),some (.d (dl (Al fs))),some (.d (dms ms)),z8,some (vi m)])/\σ=[lcs cs,.list (([48]::cs.map (·.1)).map vs++[vs t])]) ?_ ?_
 ·refine A3 (t:=decide (((ns.getD (4 * k+3).toNat 0).fdiv 5).fmod 16=1)) (As (Ai (Ai (cell 3 (by decide) (by decide)) rfl (BW (by decide))) rfl (AD (by decide))) rfl B5) (fun h=>?_) (fun h=>?_)
  ·have h16:=AG ((ns.getD (4 * k+3).toNat 0).fdiv 80) (j:=16) (by decide)
   exact Aw (v:=vi (20-((ns.getD (4 * k+3).toNat 0).fdiv 80).fmod 16)) (Ai rfl (Ai (Ai (cell 3 (by decide) (by decide)) rfl (BW (by decide))) rfl (AD (by decide))) rfl) (Ad (Ad ⟨_,rfl,⟨_,by omega,by omega,rfl⟩,rfl⟩))
  ·exact Ad (Ad ⟨_,rfl,⟨_,h5.1,by omega,rfl⟩,rfl⟩)
 rintro _ _ ⟨⟨m,hm0,hm1,rfl⟩,rfl⟩
 obtain ⟨ds,d1,d2,d3,d4⟩:=fn_deeds t (ns.getD (4 * k+2).toNat 0) m ms hm0 (by omega) (by omega)
 refine CQ (v:=AO) (σ':=[.list (cs.map vc++[vc (t,Al fs,ds)]),.list (([48]::cs.map (·.1)).map vs++[vs t])]) rfl (.lmeth (k:=0) (ws:=cs.map vc) AK slot_list_append type_list_append ((Ae C.ok (.var 2)).v rfl) (.cons (.tup (ds:=[.str (Tx t),dl (Al fs),dds ds]) (.cons ((Ae C.ok (.var 5)).v rfl) (.cons ((Ae C.ok (.var 6)).v rfl) (.cons (.fcall ((Ae C.ok _).row (e_row rfl (e_r3 (cell 2 (by decide) (by decide)) rfl rfl))) ((d4 _).more hn)) .nil))) (show 3<=line by decide)) .nil) rfl rfl (m_append (by rw [List.length_map]; exact Nat.lt_trans hcs (by decide)))) ?_
 have hfn:∀ l∈Al fs,l∈cs.map (·.1):=fun l hl=>f1.subset ((A1 fs).mem_iff.mp hl)
 have hcn:t∉cs.map (·.1):=fun h=>t2 (.tail _ h)
 refine Ad ⟨_,rfl,(t,Al fs,ds),some (vs t),some (.d (dl (Al fs))),some (.d (dms ms)),z8,some (vi m),⟨t1,hfl,BJ fs (f1.nodup hok.nd),by rw [d1]; omega,d3⟩,hok.snoc hcn hfn (m1▸d2),?_,rfl,?_⟩
 ·have:[48]::(cs++[(t,Al fs,ds)]).map (·.1)=([48]::cs.map (·.1))++[t]:=by simp
  rw [this,List.nodup_append]
  exact ⟨hnd,by simp,fun a ha b hb e=>t2 (by rw [<-List.mem_singleton.mp hb,<-e]; exact ha)⟩
 ·simp [lcs,ltk,List.map_append]
theorem min1 (m:Nat) (most:Int) (hm:m<=1000) (h0:0<=most) (h1:most<=60):0<=(if most < (m:Int).fdiv 4 then most else (m:Int).fdiv 4)/\(if most < (m:Int).fdiv 4 then most else (m:Int).fdiv 4)<=most/\4 * (if most < (m:Int).fdiv 4 then most else (m:Int).fdiv 4)<=m:=by
 rw [Int.fdiv_eq_ediv_of_nonneg _ (by decide)]
 split <;> omega
theorem run_changes {C:Cfg} (hn:3<=C.n) (ns:List Int) (most:Int) (hns:ns.length<=1000) (h0:0<=most) (h1:most<=60) :
 Ah C (fun fl σ'=>∃ cs:List Ch,(cs.length:Int)<=most/\(∀ c∈cs,GenCh c)/\Bd cs/\[48]∉cs.map (·.1)/\GU fl=.ref 0/\σ'=[lcs cs,ltk cs]) Eh.body (B6 Eh [.d (scD ns),vi most]) []:=by
 show Ah C _ (.cons _ (.cons _ (.cons (.for_ [4] _ chBody) _))) [some (.d (scD ns)),some (vi most),none,none,none,none,none,none,none,none] []
 refine Bj (ws:=[]) rfl ?_
 refine Bj (ws:=[vs [48]]) (by show (ev C.O (.lst _)).nl _ _=_; exact congrArg (fun s=>some [V.d (.str s)]) k_zero) ?_
 obtain ⟨m0,m1,m2⟩:=min1 ns.length most hns h0 h1
 have hr:(ev C.O (.cons (.bi .min (.cons (.bin .FloorDiv (.bi .len (.cons (.var 0) .nil)) (.cst (.int 4))) (.cons (.var 1) .nil))) .nil)).row [some (.d (scD ns)),some (vi most),some (.ref 0),some (.ref 1),none,none,none,none,none,none] [.list [],.list [vs [48]]]=some [vi (if most < (ns.length:Int).fdiv 4 then most else (ns.length:Int).fdiv 4)] :=
  Az (AN (Bb (Ai (AN (Az rfl) (Cs.trans (by rw [List.length_map]))) rfl (BW (by decide))) rfl) rfl)
 generalize (if most < (ns.length:Int).fdiv 4 then most else (ns.length:Int).fdiv 4)=m at m0 m1 m2 hr
 refine AL (l:=List.range m.toNat) (fun j:Nat=>vi (j:Int)) (fun pre ρ σ=>∃ cs:List Ch,cs.length=pre.length/\(∀ c∈cs,GenCh c)/\Bd cs/\([48]::cs.map (·.1)).Nodup/\(∃ z4 z5 z6 z7 z8 z9,ρ=[some (.d (scD ns)),some (vi most),some (.ref 0),some (.ref 1),z4,z5,z6,z7,z8,z9])/\σ=[lcs cs,ltk cs])
  (it_rg hr (by omega) (by omega)) ⟨[],rfl,(fun c h=>nomatch h),⟨List.nodup_nil,fun pre c post e=>by simp at e⟩,by simp,⟨none,none,none,none,none,none,rfl⟩,rfl⟩ ?_ ?_
 ·rintro p j q ρ σ hp ⟨cs,g0,g1,g2,g3,⟨z4,z5,z6,z7,z8,z9,rfl⟩,rfl⟩
  have hj:j < m.toNat:=by
   have:j∈List.range m.toNat:=by rw [hp]; simp
   exact List.mem_range.mp this
  have hl:p.length < 60:=by
   have:=congrArg List.length hp
   simp at this; omega
  refine (turn_changes hn ns most (j:Int) hns (Int.natCast_nonneg _) (by omega) cs (by omega) g1 g2 g3 z5 z6 z7 z8 z9).mono fun fl σ' h=>?_
  obtain ⟨ρ',e,c,y5,y6,y7,y8,y9,k1,k2,k3,k4,k5⟩:=h
  refine ⟨ρ',e,cs++[c],by rw [List.length_append,List.length_append,g0]; rfl,fun x hx=>?_,k2,k3,⟨_,_,_,_,_,_,k4⟩,k5⟩
  rcases List.mem_append.mp hx with hx | hx
  ·exact g1 x hx
  ·rw [List.mem_singleton.mp hx]; exact k1
 ·rintro ρ σ ⟨cs,g0,g1,g2,g3,⟨z4,z5,z6,z7,z8,z9,rfl⟩,rfl⟩
  refine A6 (v:=.ref 0) rfl ⟨cs,?_,g1,g2,(List.nodup_cons.mp g3).1,rfl,rfl⟩
  rw [List.length_range] at g0; omega
theorem fn_changes (ns:List Int) (most:Int) (hns:ns.length<=1000) (h0:0<=most) (h1:most<=60):∃ cs:List Ch,(cs.length:Int)<=most/\(∀ c∈cs,GenCh c)/\Bd cs/\[48]∉cs.map (·.1)/\∀ σ,FN 4 16 [.d (scD ns),vi most] σ (.d (.list (cs.map Ch.data))) σ:=by
 obtain ⟨v,σ',⟨cs,k1,k2,k3,k6,k4,k5⟩,h⟩:=FN.ends (C:=C0 3) (f:=16) (fn:=Eh) (zs:=[.d (scD ns),vi most]) (σ:=[]) (R:=fun v σ'=>∃ cs:List Ch,(cs.length:Int)<=most/\(∀ c∈cs,GenCh c)/\Bd cs/\[48]∉cs.map (·.1)/\v=.ref 0/\σ'=[lcs cs,ltk cs]) (by unfold Pg; rfl) rfl (show 1<=3 by decide) (run_changes (Nat.le_refl _) ns most hns h0 h1)
 rw [k4,k5] at h
 exact ⟨cs,k1,k2,k3,k6,fun σ=>(FN.seal (σ:=[]) (d:=.list (cs.map Ch.data)) h ⟨_,rfl,Nat.zero_le _,by rw [List.map_map]; rfl⟩).any (all_cons (B9 _ _) (all_cons (B9 _ _) AR))⟩
end Mine
namespace Mine
open PySem
theorem DQ {σ:Ab} {i j:Int}:BB .NotEq (vi i) (vi j) σ=some (!decide (i=j)):=by
 show notO (BB .Eq (vi i) (vi j) σ)=_
 rw [B5]; rfl
noncomputable abbrev lints (ns:List Int):O:=.list (ns.map vi)
theorem len_sc {σ:Ab} (ns:List Int):Bx .len σ [.d (scD ns)]=some (vi ns.length):=Cs.trans (by rw [List.length_map])
theorem run_wide {C:Cfg} (hm:∀ c k σ,C.O 10 [vi c,vi k] σ=some (vi (Bp c k))) (ns:List Int) (flag:Int) (hns:ns.length<=1000) :
 Ah C (fun fl σ'=>∃ ns':List Int,ns'.length<=1000/\((GU fl=.d (scD ns')/\σ'=[])\/(GU fl=.ref 0/\σ'=[lints ns']))) Fwide.body (B6 Fwide [.d (scD ns),vi flag,vi 10]) []:=by
 show Ah C _ _ [some (.d (scD ns)),some (vi flag),some (vi 10),none,none] []
 refine A3 (t:=decide ((ns.length:Int) < 4) || !decide (flag.fmod 12=5)) (CR (As (AN (Az rfl) (len_sc ns)) rfl c_lt) fun _=>As (Ai rfl rfl (AD (by decide))) rfl DQ) (fun h=>?_) (fun h=>Ad ?_)
 ·exact A6 (v:=.d (scD ns)) rfl ⟨ns,hns,.inl ⟨rfl,rfl⟩⟩
 ·have h4:=of_decide_eq_false (Bool.or_eq_false_iff.mp h).1
  refine Bj (ws:=[]) rfl ?_
  have hq:=AG (flag.fdiv 12) (j:=51) (by decide)
  refine AL (l:=List.range (4 * (10+(flag.fdiv 12).fmod 51)).toNat) (fun j:Nat=>vi (j:Int)) (fun p ρ σ=>∃ ns':List Int,ns'.length=p.length/\(∃ z,ρ=[some (.d (scD ns)),some (vi flag),some (vi 10),some (.ref 0),z])/\σ=[lints ns'])
   (it_rg (Az (Ai rfl (Ai rfl (Ai (y:=vi 51) (Ai rfl rfl (BW (by decide))) rfl (AD (by decide))) rfl) (Fw (sm4 _)))) (by omega) (by omega)) ⟨[],rfl,⟨none,rfl⟩,rfl⟩ ?_ ?_
  ·rintro p j q ρ σ hp ⟨ns',g0,⟨z,rfl⟩,rfl⟩
   have hj:p.length=j/\j < 244:=by
    have h1:(List.range (4 * (10+(flag.fdiv 12).fmod 51)).toNat)[p.length]? = some j:=by rw [hp]; simp
    obtain ⟨h2,h3⟩:=List.getElem?_eq_some_iff.mp h1
    rw [List.getElem_range] at h3
    rw [List.length_range] at h2
    omega
   have hi:=AG (j:Int) (j:=(ns.length:Int)) (by omega)
   refine AJ (k:=0) (y:=vi (Bp (ns.getD ((j:Int).fmod ns.length).toNat 0) j)) rfl (Az (FU (Bb (Ag rfl (Ai rfl (AN (Az rfl) (len_sc ns)) (AD (by omega))) (sub_sc _ hi.1 hi.2 hns)) rfl) (hm _ _ _))) rfl (by rw [List.length_map,g0,hj.1]; exact Nat.lt_trans hj.2 (by decide)) ?_
   generalize Bp (ns.getD ((j:Int).fmod ns.length).toNat 0) j=M
   have hx:(ns'.map vi++[vi M])[(j:Int).toNat]? = some (vi M):=by
    rw [Int.toNat_natCast,List.getElem?_append_right (by rw [List.length_map,g0,hj.1]; exact Nat.le_refl _),List.length_map,g0,hj.1,Nat.sub_self]; rfl
   refine A3 (t:=decide ((j:Int).fmod 4=1)&&decide ((flag.fdiv 12).fmod 2=1)) (Ci (As (Ai rfl rfl (AD (by decide))) rfl B5) fun _=>As (Ai (Ai rfl rfl (BW (by decide))) rfl (AD (by decide))) rfl B5) (fun h=>?_) (fun h=>?_)
   ·refine go_setL (k:=0) (j:=(j:Int)) (z:=vi (M.fdiv 7 * 7+3)) (Ai (Ai (Ai (Ag rfl rfl (at_ref (j:Int) (by omega) (by omega) rfl hx)) rfl (BW (by decide))) rfl (Fw (smr (by decide) (by decide)))) rfl rfl) rfl rfl rfl (by omega) (by rw [List.length_append,List.length_map,g0,hj.1]; show (j:Int) < ((j+1:Nat):Int); omega) (Ad (Ad ⟨_,rfl,ns'++[M.fdiv 7 * 7+3],by rw [List.length_append,List.length_append,g0]; rfl,⟨_,rfl⟩,?_⟩))
    show [O.list ((ns'.map vi++[vi M]).set (j:Int).toNat (vi (M.fdiv 7 * 7+3)))]=_
    rw [Int.toNat_natCast,List.set_append_right _ _ (by rw [List.length_map,g0,hj.1]; exact Nat.le_refl _),List.length_map,g0,hj.1,Nat.sub_self,lints,List.map_append]; rfl
   ·exact Ad (Ad ⟨_,rfl,ns'++[M],by rw [List.length_append,List.length_append,g0]; rfl,⟨_,rfl⟩,by show _=[O.list ((ns'++[M]).map vi)]; rw [List.map_append]; rfl⟩)
  ·rintro ρ σ ⟨ns',g0,⟨z,rfl⟩,rfl⟩
   exact A6 (v:=.ref 0) rfl ⟨ns',by rw [g0,List.length_range]; omega,.inr ⟨rfl,rfl⟩⟩
theorem fn_wide (ns:List Int) (flag:Int) (hns:ns.length<=1000):∃ ns':List Int,ns'.length<=1000/\∀ σ,FN 3 33 [.d (scD ns),vi flag,vi 10] σ (.d (scD ns')) σ:=by
 obtain ⟨v,σ',⟨ns',k1,k2⟩,h⟩:=FN.ends (C:=C1 2 (Nat.le_refl _)) (f:=33) (fn:=Fwide) (zs:=[.d (scD ns),vi flag,vi 10]) (σ:=[]) (R:=fun v σ'=>∃ ns':List Int,ns'.length<=1000/\((v=.d (scD ns')/\σ'=[])\/(v=.ref 0/\σ'=[lints ns']))) (by unfold Pg; rfl) rfl (show 1<=2 by decide) (run_wide (fun _ _ _=>rfl) ns flag hns)
 refine ⟨ns',k1,fun σ=>?_⟩
 refine FN.any (d:=scD ns') ?_ (all_cons (B9 _ _) (all_cons (B9 _ _) (all_cons (B9 _ _) AR)))
 rcases k2 with ⟨k2,k3⟩ | ⟨k2,k3⟩
 ·rw [k2,k3] at h; exact h
 ·rw [k2,k3] at h
  exact FN.seal (σ:=[]) h ⟨_,rfl,Nat.zero_le _,by rw [List.map_map]; rfl⟩
theorem list_d {σ:Ab} {l:List PyData} (h:l.length<=line):Bx .list σ [.d (.list l)]=some (.d (.list l)):=mkLT l h
theorem fn_copy {σ:Ab} (c:Ch) (hc:c.2.1.length<=line) (hd:c.2.2.length<=line):FN 2 17 [vc c] σ (vc c) σ:=by
 obtain ⟨v,σ',⟨h1,h2⟩,h⟩:=FN.ends (C:=C0 1) (f:=17) (fn:=Fcopy) (zs:=[vc c]) (σ:=σ) (R:=fun v σ'=>v=vc c/\σ'=σ) (by unfold Pg; rfl) rfl (Nat.le_refl _)
  (A6 (v:=vc c) (BN (e_r3 (Ag rfl rfl (Bm c)) (AN (Az (Ag rfl rfl (Cl c))) (list_d (by rw [List.length_map]; exact hc))) (AN (Az (Ag rfl rfl (BR c))) (list_d (by rw [List.length_map]; exact hd)))) rfl) ⟨rfl,rfl⟩)
 rw [h1,h2] at h; exact h
end Mine
namespace Mine
open PySem
theorem Fp (n:Nat) (a b:List Nat):eqN n (.str (Tx a)) (.str (Tx b))=some (decide (a=b)):=by
 rw [<-Tx_beq]
 cases n <;> rfl
theorem eqn_int (n:Nat) (a b:Int):eqN n (.int a) (.int b)=some (decide (a=b)):=by
 have h:(a == b)=decide (a=b):=by
  by_cases e:a=b
  ·rw [decide_eq_true e,beq_iff_eq.mpr e]
  ·rw [decide_eq_false e,beq_eq_false_iff_ne.mpr e]
 rw [<-h]
 cases n <;> rfl
noncomputable def EqT {α:Type} (f:PyData->PyData->Option Bool) (g:α->PyData):Prop:=∀ a b,∃ r,f (g a) (g b)=some r/\(a=b->r=true)
theorem eqs_map {α:Type} {f:PyData->PyData->Option Bool} {g:α->PyData} (h:EqT f g):∀ l l':List α,∃ r,Ea f (l.map g) (l'.map g)=some r/\(l=l'->r=true)
 | [],[]=>⟨true,rfl,fun _=>rfl⟩
 | [],_::_=>⟨false,rfl,fun e=>nomatch e⟩
 | _::_,[]=>⟨false,rfl,fun e=>nomatch e⟩
 | a::l,b::l'=>by
  obtain ⟨r,h1,h2⟩:=h a b
  obtain ⟨r',h3,h4⟩:=eqs_map h l l'
  refine ⟨r&&r',?_,fun e=>?_⟩
  ·show (f (g a) (g b)).bind _=_
   rw [h1,bs,h3]; rfl
  ·obtain ⟨e1,e2⟩:=List.cons.inj e
   rw [h2 e1,h4 e2]; rfl
theorem eqt_list {α:Type} {n:Nat} {g:α->PyData} (h:EqT (eqN n) g):EqT (eqN (n+1)) fun l:List α=>.list (l.map g):=fun l l'=>by
 show ∃ r,(if (l.map g).length=(l'.map g).length then Ea (eqN n) (l.map g) (l'.map g) else some false)=some r/\_
 obtain ⟨r,h1,h2⟩:=eqs_map h l l'
 by_cases e:(l.map g).length=(l'.map g).length
 ·rw [if_pos e]; exact ⟨r,h1,h2⟩
 ·rw [if_neg e]; exact ⟨false,rfl,fun q=>absurd (congrArg (fun l=>(l.map g).length) q) e⟩
theorem eqt_str (n:Nat):EqT (eqN n) fun t:List Nat=>.str (Tx t):=fun a b=>⟨_,Fp n a b,fun e=>decide_eq_true e⟩
theorem eqn_mk (n:Nat) (a b:Mk):eqN (n+1) (Ay (some a)) (Ay (some b))=some (decide (a=b)):=by
 show (eqN n (.str (Tx a.1)) (.str (Tx b.1))).bind (fun x=>((eqN n (.int a.2) (.int b.2)).bind fun y=>(some true).bind fun z=>some (y&&z)).bind fun y=>some (x&&y))=_
 rw [Fp,eqn_int]
 show some (decide (a.1=b.1)&&(decide (a.2=b.2)&&true))=_
 congr 1
 rw [Bool.and_true,<-Bool.decide_and]
 exact decide_eq_decide.mpr Prod.ext_iff.symm
theorem eqt_mark (n:Nat):EqT (eqN (n+1)) Ay:=fun a b=>by
 cases a with
 | none=>cases b with
  | none=>exact ⟨true,rfl,fun _=>rfl⟩
  | some b=>exact ⟨false,rfl,fun e=>nomatch e⟩
 | some a=>cases b with
  | none=>exact ⟨false,rfl,fun e=>nomatch e⟩
  | some b=>exact ⟨_,eqn_mk n a b,fun e=>decide_eq_true (Option.some.inj e)⟩
theorem eqt_deed (n:Nat):EqT (eqN (n+2)) Deed.data:=fun a b=>by
 obtain ⟨r,h1,h2⟩:=eqt_mark n a.mark b.mark
 have key:∀ (x y:List PyData) (r':Bool),Ea (eqN (n+1)) x y=some r'->eqN (n+2) (.tuple (.str (Tx a.word)::Ay a.mark::x)) (.tuple (.str (Tx b.word)::Ay b.mark::y))=some (decide (a.word=b.word)&&(r&&r')):=fun x y r' e=>by
  show (eqN (n+1) (.str (Tx a.word)) (.str (Tx b.word))).bind (fun p=>((eqN (n+1) (Ay a.mark) (Ay b.mark)).bind fun q=>(Ea (eqN (n+1)) x y).bind fun z=>some (q&&z)).bind fun q=>some (p&&q))=_
  rw [Fp,h1,e]; rfl
 unfold Deed.data
 cases ha:a.text with
 | none=>cases hb:b.text with
  | none=>exact ⟨_,key [] [] true rfl,fun e=>by rw [decide_eq_true (congrArg Deed.word e),h2 (congrArg Deed.mark e)]; rfl⟩
  | some l=>exact ⟨_,key [] [_] false rfl,fun e=>by rw [e,hb] at ha; cases ha⟩
 | some k=>cases hb:b.text with
  | none=>exact ⟨_,key [_] [] false rfl,fun e=>by rw [e,hb] at ha; cases ha⟩
  | some l=>exact ⟨_,key [.str (Tx k)] [.str (Tx l)] (decide (k=l)&&true) (by
   show (eqN (n+1) (.str (Tx k)) (.str (Tx l))).bind (fun a=>(some true).bind fun b=>some (a&&b))=_
   rw [Fp]; rfl),fun e=>by
   rw [decide_eq_true (congrArg Deed.word e),h2 (congrArg Deed.mark e)]
   have:k=l:=by rw [e,hb] at ha; exact (Option.some.inj ha).symm
   rw [decide_eq_true this]; rfl⟩
theorem eqn_ch (a b:Ch):∃ r,eqN AC (Ch.data a) (Ch.data b)=some r/\(a=b->r=true)/\(a.1≠b.1->r=false):=by
 obtain ⟨r,h1,h2⟩:=eqt_list (eqt_str 38) a.2.1 b.2.1
 obtain ⟨r',h3,h4⟩:=eqt_list (eqt_deed 36) a.2.2 b.2.2
 refine ⟨decide (a.1=b.1)&&(r&&(r'&&true)),?_,fun e=>?_,fun e=>?_⟩
 ·show (eqN 39 (.str (Tx a.1)) (.str (Tx b.1))).bind (fun p=>((eqN 39 (dl a.2.1) (dl b.2.1)).bind fun q=>((eqN 39 (dds a.2.2) (dds b.2.2)).bind fun u=>(some true).bind fun w=>some (u&&w)).bind fun u=>some (q&&u)).bind fun q=>some (p&&q))=_
  rw [Fp,h1,h3]; rfl
 ·rw [decide_eq_true (congrArg (·.1) e),h2 (congrArg (·.2.1) e),h4 (congrArg (·.2.2) e)]; rfl
 ·rw [decide_eq_false e]; rfl
theorem in_chs (c:Ch):∀ l:List Ch,∃ q,inD (Ch.data c) (l.map Ch.data)=some q
 | []=>⟨false,rfl⟩
 | a::l=>by
  obtain ⟨r,h1,_⟩:=eqn_ch a c
  obtain ⟨q,h2⟩:=in_chs c l
  exact ⟨r||q,by show (eqN AC (Ch.data a) (Ch.data c)).bind _=_; rw [h1,bs,h2]; rfl⟩
noncomputable def oth (c:Ch) (l:List Ch):List Ch:=l.filter fun x=>!decide (x.1=c.1)
theorem oth_self {c:Ch} {l:List Ch} (h:c.1∉l.map (·.1)):oth c (c::l)=l:=by
 unfold oth
 rw [List.filter_cons_of_neg (by simp)]
 refine List.filter_eq_self.mpr fun x hx=>?_
 have:x.1≠c.1:=fun q=>h (by rw [<-q]; exact List.mem_map_of_mem hx)
 simp [this]
theorem oth_ne {a c:Ch} {l:List Ch} (h:a.1≠c.1):oth c (a::l)=a::oth c l:=by
 unfold oth
 exact List.filter_cons_of_pos (by simp [h])
theorem idx_chs (c:Ch):∀ l:List Ch,c∈l->(l.map (·.1)).Nodup->(∃ j,Fi (Ch.data c) (l.map Ch.data)=some j/\l.eraseIdx j=oth c l)/\(c::oth c l).Perm l
 | [],h,_=>nomatch h
 | a::l,h,nd=>by
  obtain ⟨r,h1,h2,h3⟩:=eqn_ch a c
  have nd':=List.nodup_cons.mp nd
  by_cases e:a=c
  ·subst e
   have e2:=oth_self (c:=a) nd'.1
   refine ⟨⟨0,?_,?_⟩,by rw [e2]⟩
   ·show (eqN AC (Ch.data a) (Ch.data a)).bind _=_
    rw [h1,bs,h2 rfl]; rfl
   ·rw [e2]; rfl
  ·have hc:c∈l:=(List.mem_cons.mp h).resolve_left fun q=>e q.symm
   have hne:a.1≠c.1:=fun q=>nd'.1 (by show a.1∈l.map (·.1); rw [q]; exact List.mem_map_of_mem hc)
   obtain ⟨⟨j,j1,j2⟩,j3⟩:=idx_chs c l hc nd'.2
   refine ⟨⟨j+1,?_,?_⟩,by rw [oth_ne hne]; exact (List.Perm.swap ..).trans (j3.cons a)⟩
   ·show (eqN AC (Ch.data a) (Ch.data c)).bind _=_
    rw [h1,bs,h3 hne]
    show (Fi (Ch.data c) (l.map Ch.data)).bind _=_
    rw [j1]; rfl
   ·rw [List.eraseIdx_cons_succ,j2,oth_ne hne]
theorem all_bools (bl:List Bool) (σ:Ab):Bx .all σ [.d (.list (bl.map .bool))]=some (vb (bl.all id)):=by
 have h:BY D9 ((bl.map PyData.bool).map V.d)=some bl:=by
  induction bl with
  | nil=>rfl
  | cons a l ih=>show (BY D9 ((l.map PyData.bool).map V.d)).bind _=_; rw [ih]; rfl
 show (BY D9 ((bl.map PyData.bool).map V.d)).bind _=_
 rw [h]; rfl
noncomputable def Cy (cs:List Ch):Prop:=∀ pre c post,cs=pre++c::post->∀ l∈c.2.1,l∈pre.map (·.1)
theorem Cy.snoc {cs:List Ch} {c:Ch} (h:Cy cs) (hc:∀ l∈c.2.1,l∈cs.map (·.1)):Cy (cs++[c]):=fun pre x post e=>by
 rcases List.eq_nil_or_concat post with rfl | ⟨post',y,rfl⟩
 ·have e':cs++[c]=pre++[x]:=e
  obtain ⟨rfl,e2⟩:=List.append_inj' e' rfl
  rw [<-(List.cons.inj e2).1]; exact hc
 ·have e':cs++[c]=(pre++x::post')++[y]:=by rw [e]; simp
  obtain ⟨e1,_⟩:=List.append_inj' e' rfl
  exact h _ _ _ e1
structure Ge (cs L F:List Ch):Prop where
 sub:L.Sublist cs
 perm:(F++L).Perm cs
 topo:Cy F
theorem Ge.ready {cs:List Ch} (H:Bd cs) {c:Ch} {L F:List Ch} (h:Ge cs (c::L) F):∀ l∈c.2.1,l∈F.map (·.1):=fun l hl=>by
 have hc:c∈cs:=h.sub.subset (.head _)
 obtain ⟨pre,post,rfl⟩:=List.append_of_mem hc
 obtain ⟨x,hx,rfl⟩:=List.mem_map.mp ((H.ok pre c post rfl).1 l hl)
 have nd:(pre++c::post).Nodup:=(List.pairwise_map.mp H.nd).imp fun h e=>h (congrArg (·.1) e)
 have nd':=List.nodup_append.mp nd
 rcases List.mem_append.mp (h.perm.mem_iff.mpr (List.mem_append_left _ hx)) with q | q
 ·exact List.mem_map_of_mem q
 ·exfalso
  have hs:(c::L).Sublist (c::post):=by
   rcases List.sublist_append_iff.mp h.sub with ⟨l1,l2,e,s1,s2⟩
   cases l1 with
   | nil=>rw [show c::L=l2 from e]; exact s2
   | cons y l1 =>
    obtain ⟨e1,_⟩:=List.cons.inj (show c::L=y::(l1++l2) from e)
    exact absurd rfl (nd'.2.2 c (e1▸s1.subset (.head _)) c (.head _))
  exact nd'.2.2 x hx x (hs.subset q) rfl
theorem Ge.take {cs L F:List Ch} (hn:(cs.map (·.1)).Nodup) (h:Ge cs L F) {c:Ch} (hc:c∈L) (hl:∀ l∈c.2.1,l∈F.map (·.1)):Ge cs (oth c L) (F++[c])/\(oth c L).length+1=L.length:=by
 have hp:=(idx_chs c L hc ((h.sub.map _).nodup hn)).2
 refine ⟨⟨List.filter_sublist.trans h.sub,?_,h.topo.snoc hl⟩,hp.length_eq⟩
 rw [List.append_assoc]
 exact (hp.append_left F).trans h.perm
end Mine
namespace Mine
open PySem
theorem CS {O:Orc} {ρ:Af} {σ:Ab} {es:E} {xs:List V} {b:Bi} {p:Bool} (h1:(ev O es).row ρ σ=some xs) (h2:Bx b σ xs=some (vb p)):(ev O (.bi b es)).t ρ σ=some p:=by rw [t_bi,h1,bs,h2]; rfl
noncomputable def isPos (m:Nat):Bool:=match m with | 0=>false | _+1=>true
theorem erase_map {α β:Type} (f:α->β):∀ (l:List α) (j:Nat),(l.map f).eraseIdx j=(l.eraseIdx j).map f
 | [],_=>rfl
 | _::_,0=>rfl
 | a::l,j+1=>congrArg (f a :: ·) (erase_map f l j)
noncomputable def rdy (F:List Ch) (c:Ch):Bool:=(c.2.1.map fun l=>decide (l∈F.map (·.1))).all id
theorem rdy_iff {F:List Ch} {c:Ch}:rdy F c=true ↔ ∀ l∈c.2.1,l∈F.map (·.1):=by
 unfold rdy
 rw [List.all_map,List.all_eq_true]
 exact forall_congr' fun l=>forall_congr' fun _=>decide_eq_true_iff
theorem run_turned {C:Cfg} (hm:∀ c k σ,C.O 10 [vi c,vi k] σ=some (vi (Bp c k))) (cs:List Ch) (cell:Int) (hcs:cs.length<=60) (hg:∀ c∈cs,GenCh c) (H:Bd cs) :
 Ah C (fun fl σ'=>∃ F,F.Perm cs/\Cy F/\GU fl=.ref 2/\σ'=[lcs [],.list ((F.map (·.1)).map vs),lcs F]) GH.body (B6 GH [.d (.list (cs.map Ch.data)),vi cell]) []:=by
 show Ah C _ _ [some (.d (.list (cs.map Ch.data))),some (vi cell),none,none,none,none,none,none] []
 refine Bj (ws:=cs.map vc) ?_ ?_
 ·show (some ((cs.map Ch.data).map V.d)).bind (fun ws=>if ws.length<=line then some ws else none)=_
  rw [bs,if_pos (by simp [line]; omega),List.map_map]; rfl
 refine Bj (ws:=[]) rfl ?_
 refine Bj (ws:=[]) rfl ?_
 let K:Option V->Option V->Option V->Af:=fun z5 z6 z7=>[some (.d (.list (cs.map Ch.data))),some (vi cell),some (.ref 0),some (.ref 1),some (.ref 2),z5,z6,z7]
 let St:List Ch->List Ch->Ab:=fun L F=>[lcs L,.list ((F.map (·.1)).map vs),lcs F]
 refine go_while (fun m ρ σ=>∃ L F,L.length=m/\Ge cs L F/\(∃ z5 z6 z7,ρ=K z5 z6 z7)/\σ=St L F) isPos cs.length ⟨cs,[],rfl,⟨.refl _,.refl _,fun pre c post e=>by simp at e⟩,⟨none,none,none,rfl⟩,rfl⟩ ?_ rfl ?_ ?_
 ·rintro m ρ σ ⟨L,F,rfl,T,⟨z5,z6,z7,rfl⟩,rfl⟩
  show some (!(L.map vc).isEmpty)=_
  cases L <;> rfl
 ·rintro m ρ σ ⟨L,F,hL,T,⟨z5,z6,z7,rfl⟩,rfl⟩ _
  have hLl:L.length<=60:=Nat.le_trans T.sub.length_le hcs
  have hFl:F.length<=60:=by have:=T.perm.length_eq; rw [List.length_append] at this; omega
  refine go_comp (ds:=(L.filter (rdy F)).map Ch.data) ?_ ?_
  ·rw [show C.nl _ _ _=some ((L.filter (rdy F)).map vc) from CP (l:=L) (kps:=[(0,L.map vc)]) vc (rdy F) vc rfl (Nat.le_trans hLl (by decide)) (fun c hc=>?_) (fun c _ _=>rfl),List.map_map]
   ·rfl
   ·have hcl:c.2.1.length<=line:=Nat.le_trans (hg c (T.sub.subset hc)).few (by decide)
    refine e_ts1 (CS (Az (CC (l:=c.2.1) (fun t=>.str (Tx t)) (fun _=>true) (fun l=>.bool (decide (l∈F.map (·.1)))) (BA (Ag rfl rfl (Cl c)) rfl) hcl (fun _ _=>rfl) (fun l _ _=>EC rfl rfl (show inV (St L F) (vs l) (.ref 1)=_ from in_ref (l:=F.map (·.1)) rfl)))) ?_)
    rw [BM,show (c.2.1.map fun l=>PyData.bool (decide (l∈F.map (·.1))))=(c.2.1.map fun l=>decide (l∈F.map (·.1))).map PyData.bool by rw [List.map_map]; rfl]
    exact all_bools _ _
  have hpos:0 < (L.filter (rdy F)).length:=by
   cases L with
   | nil=>cases hL
   | cons c L=>rw [List.filter_cons_of_pos (rdy_iff.mpr (T.ready H))]; exact Nat.succ_pos _
  have hrl:∀ σ,Bx .len σ [.d (.list ((L.filter (rdy F)).map Ch.data))]=some (vi (L.filter (rdy F)).length):=fun σ=>Cs.trans (by rw [List.length_map])
  have hat:=AG (Bp cell L.length) (j:=((L.filter (rdy F)).length:Int)) (by omega)
  obtain ⟨c,hc⟩:∃ c,(L.filter (rdy F))[((Bp cell L.length).fmod (L.filter (rdy F)).length).toNat]? = some c:=⟨_,List.getElem?_eq_getElem (by omega)⟩
  have hfl:(L.filter (rdy F)).length<=60:=Nat.le_trans (List.length_filter_le _ _) hLl
  have hlen:Bx .len (St L F) [.ref 0]=some (vi L.length):=(len_r rfl).trans (by rw [List.length_map])
  refine Aw (v:=vc c) (Ag rfl (Ai (FU (Bb rfl (AN (Az rfl) hlen)) (hm _ _ _)) (AN (Az rfl) (hrl _)) (AD (by omega))) (Fy _ hat.1 (by omega) (by rw [List.getElem?_map,hc]; rfl))) ?_
  have hcm:=List.mem_filter.mp (List.mem_of_getElem? hc)
  have hnL:(L.map (·.1)).Nodup:=(T.sub.map _).nodup H.nd
  obtain ⟨q,hq⟩:=in_chs c L
  obtain ⟨⟨j,j1,j2⟩,_⟩:=idx_chs c L hcm.1 hnL
  obtain ⟨T',hl'⟩:=T.take H.nd hcm.1 (rdy_iff.mp hcm.2)
  refine go_remove (k:=0) (d:=Ch.data c) (ds:=L.map Ch.data) rfl rfl (by show some (lcs L)=_; rw [List.map_map]; rfl) hq j1 ?_
  rw [show (((L.map Ch.data).map V.d).eraseIdx j)=(oth c L).map vc by rw [List.map_map,<-j2]; exact erase_map _ _ _]
  refine AJ (k:=1) (y:=vs c.1) rfl (Az (Ag rfl rfl (Bm c))) rfl (by simp [line]; omega) ?_
  refine AJ (k:=2) (y:=vc c) rfl rfl rfl (by simp [line]; omega) (Ad ⟨_,rfl,oth c L,F++[c],by omega,T',⟨_,_,_,rfl⟩,?_⟩)
  simp [St,lcs,List.map_append]
 ·rintro m ρ σ ⟨L,F,rfl,T,⟨z5,z6,z7,rfl⟩,rfl⟩ h
  cases L with
  | cons _ _=>cases h
  | nil=>exact A6 (v:=.ref 2) rfl ⟨F,by have:=T.perm; rwa [List.append_nil] at this,T.topo,rfl,rfl⟩
theorem fn_turned (cs:List Ch) (cell:Int) (hcs:cs.length<=60) (hg:∀ c∈cs,GenCh c) (H:Bd cs):∃ F,F.Perm cs/\Cy F/\∀ σ,FN 3 18 [.d (.list (cs.map Ch.data)),vi cell] σ (.d (.list (F.map Ch.data))) σ:=by
 obtain ⟨v,σ',⟨F,k1,k2,k3,k4⟩,h⟩:=FN.ends (C:=C1 2 (Nat.le_refl _)) (f:=18) (fn:=GH) (zs:=[.d (.list (cs.map Ch.data)),vi cell]) (σ:=[]) (R:=fun v σ'=>∃ F,F.Perm cs/\Cy F/\v=.ref 2/\σ'=[lcs [],.list ((F.map (·.1)).map vs),lcs F]) (by unfold Pg; rfl) rfl (show 1<=2 by decide) (run_turned (fun _ _ _=>rfl) cs cell hcs hg H)
 rw [k3,k4] at h
 exact ⟨F,k1,k2,fun σ=>(FN.seal (σ:=[]) (d:=.list (F.map Ch.data)) h ⟨_,rfl,Nat.zero_le _,by show some (lcs F)=_; rw [List.map_map]; rfl⟩).any (all_cons (B9 _ _) (all_cons (B9 _ _) AR))⟩
end Mine
namespace Mine
open PySem
theorem B4 {C:Cfg} {P:Fl->Ab->Prop} {r a:S} {ρ:Af} {σ:Ab} {c:E} {t:Bool} (h:C.t c ρ σ=some t) (e:t=false) (k:Ah C P r ρ σ):Ah C P (.cons (.ite c a .nil) r) ρ σ:=Fm (e▸h) k
theorem contains1 (l:List Nat) (c:Nat):Txt.contains (Tx l) (Tx [c])=decide (c∈l):=by
 have h:=StrLaws.found_one (Tx l) c
 rw [Tx_list] at h
 exact h
theorem signsV_eq:∀ l:List Nat,E4 l=l.map fun c=>vs [c]
 | []=>rfl
 | c::l=>by show _::E4 l=_; rw [signsV_eq l]; rfl
theorem it_text {C:Cfg} {ρ:Af} {σ:Ab} {i:Nat} {l:List Nat} (h:B7 ρ i=some (vs l)) (ha:∀ c∈l,c < 128):C.it (.var i) ρ σ=some (l.map fun c=>vs [c],[]):=by
 show (B7 ρ i).bind (Dq σ)=_
 rw [h]
 show (if (Tx l).cps.all (· < 128)=true then some (E4 (Tx l).cps.toList,[]) else none)=_
 rw [if_pos,Tx_list,signsV_eq]
 show l.toArray.all (· < 128)=true
 rw [List.all_toArray,List.all_eq_true]
 exact fun c hc=>decide_eq_true (ha c hc)
theorem Gl {C:Cfg} {ρ:Af} {σ:Ab} {i:Nat} {α:Type} {l:List α} {d:α->PyData} (h:B7 ρ i=some (.d (.list (l.map d)))):C.it (.var i) ρ σ=some (l.map fun a=>.d (d a),[]):=BA h rfl
theorem signs_lt:∀ c∈CM,c < 128:=by decide +kernel
theorem fn_isname {σ:Ab} (t:List Nat) (h:Bt t=true):FN 2 2 [vs t] σ (vb true) σ:=by
 obtain ⟨n1,n2,n3⟩:=(BS t).mp h
 obtain ⟨v,σ',⟨h1,h2⟩,h⟩:=FN.ends (C:=C0 1) (f:=2) (fn:=Fis_name) (zs:=[vs t]) (σ:=σ) (R:=fun v σ'=>v=vb true/\σ'=σ) (by unfold Pg; rfl) rfl (Nat.le_refl _) (by
  show Ah _ _ _ [some (vs t),none] σ
  refine B4 (CR (As (AN (Az rfl) len_s) rfl c_lt) fun _=>As (AN (Az rfl) len_s) rfl c_gt) (by rw [decide_eq_false (by omega),decide_eq_false (by omega)]; rfl) ?_
  ·refine AL (fun c=>vs [c]) (fun _ ρ σ'=>(∃ z,ρ=[some (vs t),z])/\σ=σ') (it_text rfl fun c hc=>signs_lt c (n3 c hc)) ⟨⟨none,rfl⟩,rfl⟩ ?_ ?_
   ·rintro p c q ρ _ hp ⟨⟨z,rfl⟩,rfl⟩
    exact B4 (t:=!Txt.contains (Tx CM) (Tx [c])) (As (y:=vs CM) rfl (congrArg (fun s=>some (V.d (.str s))) k_signs) rfl) (by rw [contains1,decide_eq_true (n3 c (by rw [hp]; simp))]; rfl) (Ad ⟨_,rfl,⟨_,rfl⟩,rfl⟩)
   ·rintro ρ _ ⟨⟨z,rfl⟩,rfl⟩
    exact A6 (v:=vb true) rfl ⟨rfl,rfl⟩)
 rw [h1,h2] at h; exact h
theorem fn_isline {σ:Ab} (t:List Nat) (h:Cz t):FN 2 3 [vs t] σ (vb true) σ:=by
 obtain ⟨v,σ',⟨h1,h2⟩,h⟩:=FN.ends (C:=C0 1) (f:=3) (fn:=Fis_line) (zs:=[vs t]) (σ:=σ) (R:=fun v σ'=>v=vb true/\σ'=σ) (by unfold Pg; rfl) rfl (Nat.le_refl _) (by
  show Ah _ _ _ [some (vs t),none] σ
  refine B4 (As (AN (Az rfl) len_s) rfl c_gt) (decide_eq_false (by have:=h.len; omega)) ?_
  ·refine AL (fun c=>vs [c]) (fun _ ρ σ'=>(∃ z,ρ=[some (vs t),z])/\σ=σ') (it_text rfl fun c hc=>by have:=h.ok c hc; omega) ⟨⟨none,rfl⟩,rfl⟩ ?_ ?_
   ·rintro p c q ρ _ hp ⟨⟨z,rfl⟩,rfl⟩
    have hc:=h.ok c (by rw [hp]; simp)
    exact B4 (CR (As (x:=vi c) (AN (Az rfl) rfl) rfl c_lt) fun _=>As (x:=vi c) (AN (Az rfl) rfl) rfl c_gt) (by rw [decide_eq_false (by omega),decide_eq_false (by omega)]; rfl) (Ad ⟨_,rfl,⟨_,rfl⟩,rfl⟩)
   ·rintro ρ _ ⟨⟨z,rfl⟩,rfl⟩
    exact A6 (v:=vb true) rfl ⟨rfl,rfl⟩)
 rw [h1,h2] at h; exact h
noncomputable def yesO (P:List Nat->Prop) (xs:List V):Option V:=match xs with | x::r=>(match r with | []=>(BC x).bind fun z=>@ite _ (P z.cps.toList) (Classical.propDecidable _) (some (vb true)) none | _=>none) | []=>none
theorem yesO_ok {n f:Nat} {σ:Ab} {P:List Nat->Prop} {xs:List V} {v:V} (hf:∀ t,P t->FN n f [vs t] σ (vb true) σ) (h:yesO P xs=some v):FN n f xs σ v σ:=by
 match xs,h with
 | [],h=>exact Ac h
 | [x],h =>
  obtain ⟨z,e1,h⟩:=Aa h
  obtain ⟨q,h⟩:=@AS _ _ _ _ (Classical.propDecidable _) h
  rw [Bn e1,<-h,<-Tx_eta z]
  exact hf _ q
 | _::_::_,h=>exact Ac h
theorem yesO_eq {P:List Nat->Prop} {t:List Nat} (h:P t):yesO P [vs t]=some (vb true):=by
 show @ite _ (P (Tx t).cps.toList) (Classical.propDecidable _) (some (vb true)) none=_
 rw [Tx_list]; exact @if_pos _ (Classical.propDecidable _) h _ _ _
noncomputable def C3 (n:Nat) (hn:2<=n):Cfg:=(C0 n).add 2 (fun xs _=>yesO (Bt · = true) xs) fun _ _ _ h=>yesO_ok (fun t ht=>(fn_isname t ht).more hn) h
noncomputable def C4 (n:Nat) (hn:2<=n):Cfg:=(C0 n).add 3 (fun xs _=>yesO Cz xs) fun _ _ _ h=>yesO_ok (fun t ht=>(fn_isline t ht).more hn) h
theorem GK {α β:Type} (d:α->PyData) (d':β->PyData):∀ (l:List α) (m:List β),E0 ((l.map d).map .d) ((m.map d').map .d)=(l.zip m).map fun p=>V.d (.tuple [d p.1,d' p.2])
 | [],_=>rfl
 | _::_,[]=>rfl
 | a::l,b::m=>by show _::E0 ((l.map d).map .d) ((m.map d').map .d)=_; rw [GK d d' l m]; rfl
theorem fn_leansok {σ:Ab} (t:List Nat) (ls:List (List Nat)) (ht:Bt t=true) (hl:∀ l∈ls,Bt l=true) (hr:ls.Pairwise (· < ·)) (hn:t∉ls) (hlen:ls.length<=1000):FN 3 4 [vs t,.d (dl ls)] σ AO σ:=by
 obtain ⟨v,σ',⟨h1,h2⟩,h⟩:=FN.ends (C:=C3 2 (Nat.le_refl _)) (f:=4) (fn:=F6) (zs:=[vs t,.d (dl ls)]) (σ:=σ) (R:=fun v σ'=>v=AO/\σ'=σ) (by unfold Pg; rfl) rfl (show 1<=2 by decide) (by
  show Ah _ _ _ [some (vs t),some (.d (dl ls)),none,none,none] σ
  refine Fm (BO (p:=true) (Gp (Az rfl) (yesO_eq (P:=(Bt · = true)) ht))) ?_
  refine AL (l:=ls) (fun l=>vs l) (fun _ ρ σ'=>(∃ z2,ρ=[some (vs t),some (.d (dl ls)),z2,none,none])/\σ=σ') (Gl rfl) ⟨⟨none,rfl⟩,rfl⟩ ?_ ?_
  ·rintro p l q ρ _ hp ⟨⟨z,rfl⟩,rfl⟩
   exact Fm (BO (p:=true) (Gp (Az rfl) (yesO_eq (P:=(Bt · = true)) (hl l (by rw [hp]; simp))))) (Ad ⟨_,rfl,⟨_,rfl⟩,rfl⟩)
  rintro ρ _ ⟨⟨z2,rfl⟩,rfl⟩
  refine DY (l:=ls.zip (ls.drop 1)) (kps:=[]) (fun p=>V.d (.tuple [.str (Tx p.1),.str (Tx p.2)])) (fun _ ρ σ'=>(∃ z3 z4,ρ=[some (vs t),some (.d (dl ls)),z2,z3,z4])/\σ=σ') ?_ (fun _ _ _ _ _ _ m=>nomatch m) (fun _ _=>.inr ⟨_,rfl,rfl⟩) ⟨⟨none,none,rfl⟩,rfl⟩ ?_ ?_
  ·have hs:(ev (C3 2 (Nat.le_refl _)).O (.slc (.var 1) (.cst (.int 1)) .nil)).v [some (vs t),some (.d (dl ls)),z2,none,none] σ=some (.d (dl (ls.drop 1))):=(slL_fromZ (σ:=σ) (i:=1) (l:=ls.map fun t=>PyData.str (Tx t)) (by decide) (by rw [List.length_map]; exact Nat.le_trans hlen (by decide))).trans (by rw [<-List.map_drop]; rfl)
   show ((ev (C3 2 (Nat.le_refl _)).O (.slc (.var 1) (.cst (.int 1)) .nil)).v [some (vs t),some (.d (dl ls)),z2,none,none] σ).bind (fun y=>(Ax σ (.d (dl ls))).bind fun ds=>(Ax σ y).bind fun ds'=>some (E0 ds ds',CA (.d (dl ls)) ds++CA y ds'))=_
   rw [hs,bs]
   show some (E0 ((ls.map fun t=>PyData.str (Tx t)).map V.d) (((ls.drop 1).map fun t=>PyData.str (Tx t)).map V.d),_)=_
   rw [GK]; rfl
  ·rintro p ⟨a,b⟩ q ρ _ hp ⟨⟨z3,z4,rfl⟩,rfl⟩
   refine Fm ?_ (Ad ⟨_,rfl,⟨_,_,rfl⟩,rfl⟩)
   have hab:a < b:=by
    have hm:(a,b)∈ls.zip (ls.drop 1):=by rw [hp]; simp
    obtain ⟨j,hj⟩:=List.mem_iff_getElem?.mp hm
    obtain ⟨j1,j2⟩:=List.getElem?_zip_eq_some.mp hj
    rw [List.getElem?_drop] at j2
    obtain ⟨k1,k2⟩:=List.getElem?_eq_some_iff.mp j1
    obtain ⟨k3,k4⟩:=List.getElem?_eq_some_iff.mp j2
    have k2:ls[j]=a:=k2
    have k4:ls[1+j]=b:=k4
    rw [<-k2,<-k4]
    exact List.pairwise_iff_getElem.mp hr j (1+j) k1 k3 (by omega)
   show some (!AX (Tx a) (Tx b))=_
   rw [Tx_lt,decide_eq_true hab]; rfl
  rintro ρ _ ⟨⟨z3,z4,rfl⟩,rfl⟩
  refine Fm (As rfl rfl ((Dt t ls).trans (by rw [decide_eq_false hn]))) (Ad ⟨rfl,rfl⟩))
 rw [h1,h2] at h; exact h
theorem fn_deedok {σ:Ab} (d:Deed) (h:C6 d):FN 3 5 [.d d.data] σ AO σ:=by
 obtain ⟨v,σ',⟨h1,h2⟩,h⟩:=FN.ends (C:=C4 2 (Nat.le_refl _)) (f:=5) (fn:=Gv) (zs:=[.d d.data]) (σ:=σ) (R:=fun v σ'=>v=AO/\σ'=σ) (by unfold Pg; rfl) rfl (show 1<=2 by decide) (by
  show Ah _ _ _ [some (.d d.data)] σ
  have w:∀ {s:String} {k:List Nat},Str.ofString s=Tx k->(ev (C4 2 (Nat.le_refl _)).O (.cmp .NotEq (.sub (.var 0) (.cst (.int 0))) (.cst (.str (Str.ofString s))))).t [some (.d d.data)] σ=some (!decide (d.word=k)):=fun {s k} e=>As (Ag rfl rfl (Cn d)) (congrArg (fun s=>some (V.d (.str s))) e) FI
  have hm:(ev (C4 2 (Nat.le_refl _)).O (.cmp .Is (.sub (.var 0) (.cst (.int 1))) (.cst .none))).t [some (.d d.data)] σ=some d.mark.isNone:=As (Ag rfl rfl (Co d)) rfl (is_mark d.mark)
  refine B4 (e_and3 (w D7) (fun _=>w k_cut) (fun _ _=>w Fe)) (by rcases h.shp with ⟨e,_⟩ | ⟨e,_⟩ | ⟨e,_⟩ <;> rw [e] <;> rfl) ?_
  refine B4 (Ci (w D7) (fun _=>hm)) (by rcases h.shp with ⟨e,_⟩ | ⟨e,m,l,e2,_⟩ | ⟨e,m,e2⟩ <;> rw [e] <;> first | rfl | (rw [e2]; rfl)) ?_
  have hl:∀ l,d.text=some l->Cz l->(ev (C4 2 (Nat.le_refl _)).O (.not (.fcall 3 (.cons (.sub (.var 0) (.cst (.int 2))) .nil)))).t [some (.d d.data)] σ=some false:=fun l e ok=>BO (p:=true) (Gp (Az (Ag rfl rfl (DI d e))) (yesO_eq ok))
  have hc:d.word=FQ\/∃ l,d.text=some l/\Cz l:=by
   rcases h.shp with ⟨_,l,e,k⟩ | ⟨_,m,l,_,e,k⟩ | ⟨e,_⟩
   ·exact .inr ⟨l,e,k⟩
   ·exact .inr ⟨l,e,k⟩
   ·exact .inl e
  exact B4 (Ci (q:=false) (w k_cut) fun q=>hc.elim (fun e=>by rw [decide_eq_true e] at q; cases q) fun ⟨l,e,k⟩=>hl l e k) (Bool.and_false _) (Ad ⟨rfl,rfl⟩))
 rw [h1,h2] at h; exact h
end Mine
namespace Mine
open PySem
section
variable {κ κ' α β:Type} [DecidableEq κ] [DecidableEq κ'] (φ:κ->κ') (f:α->β)
noncomputable def AM (kvs:List (κ×α)):List (κ'×β):=kvs.map fun p=>(φ p.1,f p.2)
theorem Bq (kvs:List (κ×α)):(AM φ f kvs).length=kvs.length:=List.length_map ..
theorem mapK_app (a b:List (κ×α)):AM φ f (a++b)=AM φ f a++AM φ f b:=List.map_append ..
variable {φ} (hφ:∀ a b,φ a=φ b->a=b)
include hφ
theorem AY (kvs:List (κ×α)) (k:κ):Ao (AM φ f kvs) (φ k)=(Ao kvs k).map f:=by
 induction kvs with
 | nil=>rfl
 | cons q r ih =>
  show Ao ((φ q.1,f q.2)::AM φ f r) (φ k)=_
  rw [Be,Be,ih]
  by_cases e:q.1=k
  ·rw [if_pos e,if_pos (congrArg φ e)]; rfl
  ·rw [if_neg e,if_neg (fun h=>e (hφ _ _ h))]
theorem Bo (kvs:List (κ×α)) (k:κ) (v:α):BD (AM φ f kvs) (φ k) (f v)=AM φ f (BD kvs k v):=by
 unfold BD
 have h:((AM φ f kvs).any fun p=>p.1=φ k)=kvs.any fun p=>p.1=k:=by
  rw [Fz,Fz,AY f hφ]; cases Ao kvs k <;> rfl
 rw [h]
 split
 ·unfold AM
  rw [List.map_map,List.map_map]
  refine List.map_congr_left fun p _=>?_
  show (if (φ p.1)=φ k then (φ p.1,f v) else (φ p.1,f p.2))=(φ (if p.1=k then (p.1,v) else p).1,f (if p.1=k then (p.1,v) else p).2)
  by_cases e:p.1=k
  ·rw [if_pos e,if_pos (congrArg φ e)]
  ·rw [if_neg e,if_neg (fun h=>e (hφ _ _ h))]
 ·rw [mapK_app]; rfl
end
noncomputable def mk2 (m:Mk):Str×Int:=(Tx m.1,m.2)
theorem Cc:∀ a b:List Nat,Tx a=Tx b->a=b:=fun _ _=>Gd
theorem CH:∀ a b:Mk,mk2 a=mk2 b->a=b:=fun ⟨a,i⟩ ⟨b,j⟩ h=>by
 have h1:=congrArg Prod.fst h
 have h2:=congrArg Prod.snd h
 rw [Gd (show Tx a=Tx b from h1),(show i=j from h2)]
theorem put_nodup {κ β:Type} [DecidableEq κ] {h:List (κ×β)} {k:κ} {v:β} (nd:(h.map (·.1)).Nodup):((BD h k v).map (·.1)).Nodup:=by
 unfold BD
 split
 ·rw [List.map_map,show ((fun x:κ×β=>x.1)∘fun p=>if p.1=k then (p.1,v) else p)=fun x=>x.1 from funext fun p=>by show (if p.1=k then (p.1,v) else p).1=p.1; split <;> rfl]
  exact nd
 ·rename_i q
  rw [List.map_append,List.nodup_append]
  refine ⟨nd,List.nodup_cons.mpr ⟨List.not_mem_nil,List.nodup_nil⟩,fun a ha b hb e=>q ?_⟩
  obtain ⟨p,hp,rfl⟩:=List.mem_map.mp ha
  exact List.any_eq_true.mpr ⟨p,hp,decide_eq_true (e.trans (List.mem_singleton.mp hb))⟩
section
variable {σ:Ab} {k:Nat}
theorem CV {kvs:List (Str×PyData)} {a:List Nat} {d:PyData} (hk:σ[k]? = some (.dictS kvs)) (hd:Ao kvs (Tx a)=some d):Bk (.ref k) (vs a) σ=some (.d d):=by
 show subO σ (vs a) σ[k]? = _
 rw [hk]
 show (Ao kvs (Tx a)).bind _=_
 rw [hd]; rfl
theorem in_dS {kvs:List (Str×PyData)} {a:List Nat} (hk:σ[k]? = some (.dictS kvs)):inV σ (vs a) (.ref k)=some (Ao kvs (Tx a)).isSome:=by
 show inO σ (vs a) k σ[k]? = _
 rw [hk]; rfl
theorem sub_dP {kvs:List ((Str×Int)×PyData)} {m:Mk} {d:PyData} (hk:σ[k]? = some (.dictP kvs)) (hd:Ao kvs (mk2 m)=some d):Bk (.ref k) (vm m) σ=some (.d d):=by
 show subO σ (vm m) σ[k]? = _
 rw [hk]
 show (Ao kvs (mk2 m)).bind _=_
 rw [hd]; rfl
theorem in_dP {kvs:List ((Str×Int)×PyData)} {m:Mk} (hk:σ[k]? = some (.dictP kvs)):inV σ (vm m) (.ref k)=some (Ao kvs (mk2 m)).isSome:=by
 show inO σ (vm m) k σ[k]? = _
 rw [hk]; rfl
end
theorem idx_aft (m x:Mk):∀ r:List Mk,m∈r->∃ j,Fi (Ay (some m)) (r.map fun m=>Ay (some m))=some j/\j < r.length/\r.take (j+1)++x::r.drop (j+1)=aft m x r
 | [],h=>by cases h
 | y::r,h=>by
  have e0:eqN AC (Ay (some y)) (Ay (some m))=some (decide (y=m)):=eqn_mk 39 y m
  by_cases e:y=m
  ·subst e
   refine ⟨0,?_,Nat.succ_pos _,?_⟩
   ·show (eqN AC (Ay (some y)) (Ay (some y))).bind _=_
    rw [e0,decide_eq_true rfl]; rfl
   ·rw [aft_eq]; rfl
  ·obtain ⟨j,h1,h2,h3⟩:=idx_aft m x r ((List.mem_cons.mp h).resolve_left fun q=>e q.symm)
   refine ⟨j+1,?_,Nat.succ_lt_succ h2,?_⟩
   ·show (eqN AC (Ay (some y)) (Ay (some m))).bind _=_
    rw [e0,decide_eq_false e]
    show (Fi (Ay (some m)) (r.map fun m=>Ay (some m))).bind _=_
    rw [h1]; rfl
   ·rw [aft_ne e,<-h3]; rfl
theorem in_mks (m:Mk):∀ r:List Mk,∃ q,inD (Ay (some m)) (r.map fun m=>Ay (some m))=some q
 | []=>⟨false,rfl⟩
 | y::r=>by
  obtain ⟨q,h⟩:=in_mks m r
  have e0:eqN AC (Ay (some y)) (Ay (some m))=some (decide (y=m)):=eqn_mk 39 y m
  exact ⟨decide (y=m)||q,by show (eqN AC (Ay (some y)) (Ay (some m))).bind _=_; rw [e0,bs,h]; rfl⟩
theorem allD_marks (r:List Mk):Di (r.map vm)=some (r.map fun m=>Ay (some m)):=by
 have:=CJ (r.map fun m=>Ay (some m))
 rw [List.map_map] at this; exact this
theorem idx_ref {σ:Ab} {k j:Nat} {r:List Mk} {m:Mk} (hk:σ[k]? = some (.list (r.map vm))) (hj:Fi (Ay (some m)) (r.map fun m=>Ay (some m))=some j):indexV σ (.ref k) [vm m]=some (vi j):=by
 obtain ⟨q,hq⟩:=in_mks m r
 show (Cr σ[k]?).bind _=_
 rw [hk]
 show (Di (r.map vm)).bind _=_
 rw [allD_marks,bs]
 show (inD (Ay (some m)) (r.map fun m=>Ay (some m))).bind _=_
 rw [hq,bs,hj]; rfl
structure ChkOk (c:Ch):Prop extends GenCh c where
 lnm:∀ l∈c.2.1,Bt l=true
 self:c.1∉c.2.1
 mks:∀ d∈c.2.2,∀ m,d.mark=some m->m.1=c.1\/m.1∈c.2.1
theorem go_swl {C:Cfg} {P:Fl->Ab->Prop} {r:S} {ρ:Af} {σ:Ab} {es:E} {i j l:Nat} {u w z:V} {v:V} (h:C.v (.tup es) ρ σ=some v) (hv:BL v=some [u,w,z]) (k:Ah C P r (((ρ.set l (some z)).set j (some w)).set i (some u)) σ):Ah C P (.cons (.swl i j l es) r) ρ σ :=
 Ca (fl:=.next (((ρ.set l (some z)).set j (some w)).set i (some u))) (fun Q q=>.swl ((Ae C.ok (.tup es)).v h) hv q) k
theorem fn_check {σ:Ab} (c:Ch) (h:ChkOk c):FN 4 6 [vc c] σ AO σ:=by
 obtain ⟨v,σ',⟨h1,h2⟩,h⟩:=FN.ends (C:=C0 3) (f:=6) (fn:=Fcheck) (zs:=[vc c]) (σ:=σ) (R:=fun v σ'=>v=AO/\σ'=σ) (by unfold Pg; rfl) rfl (show 1<=3 by decide) (by
  show Ah _ _ _ [some (vc c),none,none,none,none] σ
  refine go_swl (BN (e_r3 (Ag rfl rfl (Bm c)) (Ag rfl rfl (Cl c)) (Ag rfl rfl (BR c))) rfl) rfl ?_
  refine CQ (v:=AO) rfl (.fcall ((Ae (C0 3).ok _).row rfl) (fn_leansok c.1 c.2.1 h.name h.lnm h.rise h.self (Nat.le_trans h.few (by decide)))) ?_
  refine B4 (As (AN (Az rfl) (Cs.trans (by rw [List.length_map]))) rfl c_gt) (decide_eq_false (by have:=h.deeds; omega)) ?_
  refine AL (l:=c.2.2) (fun d=>.d d.data) (fun _ ρ σ'=>(∃ z,ρ=[some (vc c),some (vs c.1),some (.d (dl c.2.1)),some (.d (dds c.2.2)),z])/\σ=σ') (Gl rfl) ⟨⟨none,rfl⟩,rfl⟩ ?_ ?_
  ·rintro p d q ρ _ hp ⟨⟨z,rfl⟩,rfl⟩
   exact CQ (v:=AO) rfl (.fcall ((Ae (C0 3).ok _).row rfl) (fn_deedok d (h.ok d (by rw [hp]; simp)))) (Ad ⟨_,rfl,⟨_,rfl⟩,rfl⟩)
  rintro ρ _ ⟨⟨z,rfl⟩,rfl⟩
  refine AL (l:=c.2.2) (fun d=>.d d.data) (fun _ ρ σ'=>(∃ z,ρ=[some (vc c),some (vs c.1),some (.d (dl c.2.1)),some (.d (dds c.2.2)),z])/\σ=σ') (Gl rfl) ⟨⟨z,rfl⟩,rfl⟩ ?_ ?_
  ·rintro p d q ρ _ hp ⟨⟨z,rfl⟩,rfl⟩
   have hm:=Ag (O:=(C0 3).O) (ρ:=[some (vc c),some (vs c.1),some (.d (dl c.2.1)),some (.d (dds c.2.2)),some (.d d.data)]) (σ:=σ) (a:=.var 4) (i:=.cst (.int 1)) rfl rfl (Co d)
   refine B4 (e_and3 (q:=!decide ((d.mark.getD ([],0)).1=c.1)) (s:=false) (As hm rfl (Ff d.mark)) (fun q=>?_) fun q q'=>?_) (by rw [Bool.and_false,Bool.and_false]) (Ad ⟨_,rfl,⟨_,rfl⟩,rfl⟩)
   ·cases e:d.mark with
    | none=>rw [e] at q; cases q
    | some m =>
     rw [e] at hm
     exact As (Ag hm rfl rfl) rfl FI
   ·cases e:d.mark with
    | none=>rw [e] at q; cases q
    | some m =>
     rw [e] at hm q'
     have hl:m.1∈c.2.1:=(h.mks d (by rw [hp]; simp) m e).resolve_left fun e2=>by
      have q':(!decide (m.1=c.1))=true:=q'
      rw [decide_eq_true e2] at q'; cases q'
     exact As (x:=vs m.1) (Ag hm rfl rfl) rfl (by rw [c_nin,Dt,decide_eq_true hl]; rfl)
  ·rintro ρ _ ⟨⟨z,rfl⟩,rfl⟩
   exact Ad ⟨rfl,rfl⟩)
 rw [h1,h2] at h; exact h
theorem fn_adds {σ:Ab} (c:Ch) (hd:c.2.2.length<=100):FN 2 7 [vc c] σ (.d (dds (c.2.2.filter fun d=>decide (d.word=DB)))) σ:=by
 obtain ⟨v,σ',⟨h1,h2⟩,h⟩:=FN.ends (C:=C0 1) (f:=7) (fn:=Fadds_of) (zs:=[vc c]) (σ:=σ) (R:=fun v σ'=>v=.d (dds (c.2.2.filter fun d=>decide (d.word=DB)))/\σ'=σ) (by unfold Pg; rfl) rfl (Nat.le_refl _)
  (A6 (CC (l:=c.2.2) Deed.data (fun d=>decide (d.word=DB)) Deed.data (BA (Ag rfl rfl (BR c)) rfl) (Nat.le_trans hd (by decide)) (fun d _=>e_ts1 (As (Ag rfl rfl (Cn d)) (congrArg (fun s=>some (V.d (.str s))) D7) EB)) (fun d _ _=>rfl)) ⟨rfl,rfl⟩)
 rw [h1,h2] at h; exact h
end Mine
namespace Mine
open PySem
inductive Blw (F:List Ch):List Nat->List Nat->Prop
 | one {c:Ch} {l:List Nat} (hc:c∈F) (hl:l∈c.2.1):Blw F c.1 l
 | more {c:Ch} {l m:List Nat} (hc:c∈F) (hl:l∈c.2.1) (h:Blw F l m):Blw F c.1 m
theorem G7 {F:List Ch} (nd:(F.map (·.1)).Nodup) {a b:Ch} (ha:a∈F) (hb:b∈F) (e:a.1=b.1):a=b:=by
 induction F with
 | nil=>cases ha
 | cons x F ih =>
  have nd:=List.nodup_cons.mp nd
  rcases List.mem_cons.mp ha with q | q <;> rcases List.mem_cons.mp hb with r | r
  ·rw [q,r]
  ·exact absurd (List.mem_map_of_mem (f:=(·.1)) r) (by rw [<-e,q]; exact nd.1)
  ·exact absurd (List.mem_map_of_mem (f:=(·.1)) q) (by rw [e,r]; exact nd.1)
  ·exact ih nd.2 q r
section
variable {F G:List Ch} {a b m:List Nat} {c:Ch}
theorem Blw.mono (h:∀ c∈F,c∈G) (x:Blw F a b):Blw G a b:=by
 induction x with
 | one hc hl=>exact .one (h _ hc) hl
 | more hc hl _ ih=>exact .more (h _ hc) hl ih
theorem Blw.step (nd:(F.map (·.1)).Nodup) (hc:c∈F):Blw F c.1 m ↔ ∃ l∈c.2.1,m=l\/Blw F l m:=by
 refine ⟨fun h=>?_,fun ⟨l,hl,h⟩=>h.elim (fun e=>e▸.one hc hl) (.more hc hl)⟩
 generalize en:c.1=n at h
 cases h with
 | one hc' hl=>exact ⟨_,G7 nd hc' hc en.symm▸hl,.inl rfl⟩
 | more hc' hl h=>exact ⟨_,G7 nd hc' hc en.symm▸hl,.inr h⟩
theorem Cy.lean (ht:Cy F) (hc:c∈F) {l:List Nat} (hl:l∈c.2.1):l∈F.map (·.1):=by
 obtain ⟨p,q,e⟩:=List.append_of_mem hc
 rw [e,List.map_append]
 exact List.mem_append_left _ (ht p c q e l hl)
theorem Blw.names (ht:Cy F) (x:Blw F a b):b∈F.map (·.1):=by
 induction x with
 | one hc hl=>exact ht.lean hc hl
 | more _ _ _ ih=>exact ih
theorem Blw.snoc (ht:Cy F) (hn:c.1∉F.map (·.1)) (ha:a∈F.map (·.1)):Blw (F++[c]) a b ↔ Blw F a b:=by
 refine ⟨fun x=>?_,Blw.mono fun x hx=>List.mem_append_left _ hx⟩
 have inF:∀ {c':Ch},c'∈F++[c]->c'.1∈F.map (·.1)->c'∈F:=fun {c'} h1 h2=>(List.mem_append.mp h1).elim id fun q=>by
  rw [List.mem_singleton.mp q] at h2; exact absurd h2 hn
 induction x with
 | one hc hl=>exact .one (inF hc ha) hl
 | more hc hl _ ih=>exact .more (inF hc ha) hl (ih (ht.lean (inF hc ha) hl))
end
end Mine
namespace Mine
open PySem
noncomputable abbrev hK (F:List Ch):List (List Nat×Ch):=F.map fun c=>(c.1,c)
noncomputable abbrev oH (F:List Ch):O:=.dictS (AM Tx Ch.data (hK F))
noncomputable abbrev oG (gs:List (List Nat×List (List Nat))):O:=.dictS (AM Tx dl gs)
noncomputable abbrev oT (hs:List (List Nat×Int)):O:=.dictS (AM Tx PyData.int hs)
noncomputable abbrev W (F:List Ch) (gs:List (List Nat×List (List Nat))) (hs:List (List Nat×Int)):Ab:=[oH F,oG gs,oT hs]
noncomputable abbrev self:V:=.obj [0,1,2]
theorem hK_keys (F:List Ch):(hK F).map (·.1)=F.map (·.1):=by rw [List.map_map]; rfl
theorem getH {F:List Ch} (nd:(F.map (·.1)).Nodup) {c:Ch} (hc:c∈F):Ao (hK F) c.1=some c:=by
 induction F with
 | nil=>cases hc
 | cons a F ih =>
  have nd':=List.nodup_cons.mp nd
  show Ao ((a.1,a)::hK F) c.1=_
  rw [Be]
  rcases List.mem_cons.mp hc with rfl | hc
  ·exact if_pos rfl
  ·rw [if_neg fun e=>nd'.1 (by show a.1∈F.map (·.1); rw [show a.1=c.1 from e]; exact List.mem_map_of_mem hc)]
   exact ih nd'.2 hc
theorem inH {F:List Ch} (n:List Nat):(Ao (AM Tx Ch.data (hK F)) (Tx n)).isSome=decide (n∈F.map (·.1)):=by
 rw [AY Ch.data Cc]
 have h:=AF (h:=hK F) (k:=n)
 rw [hK_keys] at h
 cases e:Ao (hK F) n with
 | none=>exact (decide_eq_false fun q=>by obtain ⟨v,hv⟩:=h.mpr q; rw [e] at hv; cases hv).symm
 | some c=>exact (decide_eq_true (h.mp ⟨c,e⟩)).symm
theorem go_yes {C:Cfg} {P:Fl->Ab->Prop} {r a b:S} {ρ:Af} {σ:Ab} {c:E} {t:Bool} (h:C.t c ρ σ=some t) (e:t=true) (k:Ah C (Then C P r) a ρ σ):Ah C P (.cons (.ite c a b) r) ρ σ:=go_if (t:=true) (e▸h) k
section
variable {O:Orc} {ρ:Af} {σ:Ab}
theorem Ef (h:B7 ρ 0=some self):(ev O (.attr (Str.ofString "held") (.var 0))).v ρ σ=some (.ref 0):=by
 show (B7 ρ 0).bind (attV (Str.ofString "held"))=_
 rw [h]; kernel_rfl
theorem Gb (h:B7 ρ 0=some self):(ev O (.attr (Str.ofString "grounds") (.var 0))).v ρ σ=some (.ref 1):=by
 show (B7 ρ 0).bind (attV (Str.ofString "grounds"))=_
 rw [h]; kernel_rfl
theorem Ga (h:B7 ρ 0=some self):(ev O (.attr (Str.ofString "heights") (.var 0))).v ρ σ=some (.ref 2):=by
 show (B7 ρ 0).bind (attV (Str.ofString "heights"))=_
 rw [h]; kernel_rfl
end
noncomputable def MksOk (F:List Ch) (c:Ch):Prop:=∀ pre d post,c.2.2=pre++d::post->∀ m,d.mark=some m->(m.1=c.1/\0<=m.2/\m.2 < (adds pre:Int))\/(m.1≠c.1/\∃ c'∈F,c'.1=m.1/\0<=m.2/\m.2 < (adds c'.2.2:Int))
theorem fn_marksok {F:List Ch} {gs:List (List Nat×List (List Nat))} {hs:List (List Nat×Int)} (nd:(F.map (·.1)).Nodup) (hg:∀ c∈F,c.2.2.length<=100) (c:Ch) (hm:MksOk F c):FN 3 37 [self,vc c] (W F gs hs) AO (W F gs hs):=by
 obtain ⟨v,σ',⟨h1,h2⟩,h⟩:=FN.ends (C:=C0 2) (f:=37) (fn:=CK) (zs:=[self,vc c]) (σ:=W F gs hs) (R:=fun v σ'=>v=AO/\σ'=W F gs hs) (by unfold Pg; rfl) rfl (show 1<=2 by decide) (by
  show Ah _ _ _ [some self,some (vc c),none,none,none,none] (W F gs hs)
  refine Aw (v:=vi 0) rfl ?_
  let K:Int->Option V->Option V->Option V->Af:=fun own z3 z4 z5=>[some self,some (vc c),some (vi own),z3,z4,z5]
  refine AL (l:=c.2.2) (fun d=>.d d.data) (fun p ρ σ'=>(∃ z3 z4 z5,ρ=K (adds p) z3 z4 z5)/\W F gs hs=σ') (BA (Ag rfl rfl (BR c)) rfl) ⟨⟨none,none,none,rfl⟩,rfl⟩ ?_ ?_
  ·rintro p d q ρ _ hp ⟨⟨z3,z4,z5,rfl⟩,rfl⟩
   show Ah _ _ _ (K (adds p) (some (.d d.data)) z4 z5) _
   refine Aw (v:=.d (Ay d.mark)) (Ag rfl rfl (Co d)) ?_
   refine Cw (M:=fun ρ σ'=>(∃ z5,ρ=K (adds p) (some (.d d.data)) (some (.d (Ay d.mark))) z5)/\W F gs hs=σ') ?_ ?_
   ·refine A3 (t:=!d.mark.isNone) (As rfl rfl (Ff d.mark)) (fun e=>?_) fun e=>Ad (Ad ⟨_,rfl,⟨_,rfl⟩,rfl⟩)
    cases em:d.mark with
    | none=>rw [em] at e; cases e
    | some m =>
     show Ah _ _ _ (K (adds p) (some (.d d.data)) (some (vm m)) z5) _
     refine Aw (v:=vi (adds p)) rfl ?_
     have s0:∀ {z5 σ},(ev (C0 2).O (.sub (.var 4) (.cst (.int 0)))).v (K (adds p) (some (.d d.data)) (some (vm m)) z5) σ=some (vs m.1):=Ag rfl rfl rfl
     have s1:∀ {z5 σ},(ev (C0 2).O (.sub (.var 4) (.cst (.int 1)))).v (K (adds p) (some (.d d.data)) (some (vm m)) z5) σ=some (vi m.2):=Ag rfl rfl rfl
     have fin:∀ n:Nat,0<=m.2->m.2 < (n:Int)->Ah (C0 2) (Then (C0 2) (fun fl σ'=>∃ ρ',fl=.next ρ'/\(∃ z5,ρ'=K (adds p) (some (.d d.data)) (some (vm m)) z5)/\W F gs hs=σ') .nil) (.cons (.ite (.bop .Or (.cons (.cmp .Lt (.sub (.var 4) (.cst (.int 1))) (.cst (.int 0))) (.cons (.cmp .GtE (.sub (.var 4) (.cst (.int 1))) (.var 5)) .nil))) .any .nil) .nil) (K (adds p) (some (.d d.data)) (some (vm m)) (some (vi n))) (W F gs hs):=fun n n0 n1 =>
      B4 (CR (As s1 rfl c_lt) fun _=>As s1 rfl c_ge) (by rw [decide_eq_false (by omega),decide_eq_false (by omega)]; rfl) (Ad (Ad ⟨_,rfl,⟨_,rfl⟩,rfl⟩))
     rcases hm p d q hp m em with ⟨m1,m2,m3⟩ | ⟨m1,c',hc',m2,m3,m4⟩
     ·exact B4 (As s0 (Ag rfl rfl (Bm c)) FI) (by rw [decide_eq_true m1]; rfl) (fin _ m2 m3)
     ·refine go_yes (As s0 (Ag rfl rfl (Bm c)) FI) (by rw [decide_eq_false m1]; rfl) ?_
      have hh:Bk (.ref 0) (vs m.1) (W F gs hs)=some (vc c'):=CV rfl (by rw [AY Ch.data Cc,<-m2,getH nd hc']; rfl)
      refine AB (v:=vi (adds c'.2.2)) rfl (.bi1 (.cons (.fcall (.cons ((Ae (C0 2).ok _).v (Ag (Ef rfl) s0 hh)) .nil) (fn_adds c' (hg c' hc'))) .nil) (lenV_ok ?_)) (Ad (fin _ m3 m4))
      exact (Cs (σ:=W F gs hs)).trans (by rw [List.length_map,GG])
   ·rintro _ _ ⟨⟨z5,rfl⟩,rfl⟩
    refine A3 (t:=decide (d.word=DB)) (As (Ag rfl rfl (Cn d)) (congrArg (fun s=>some (V.d (.str s))) D7) EB) (fun e=>?_) fun e=>?_
    ·exact Aw (v:=vi ((adds p:Int)+1)) rfl (Ad (Ad ⟨_,rfl,⟨_,_,_,by rw [CD,show AH d=true from e]; rfl⟩,rfl⟩))
    ·exact Ad (Ad ⟨_,rfl,⟨_,_,_,by rw [CD,show AH d=false from e]; rfl⟩,rfl⟩)
  ·rintro ρ _ ⟨⟨z3,z4,z5,rfl⟩,rfl⟩
   exact Ad ⟨rfl,rfl⟩)
 rw [h1,h2] at h; exact h
theorem in_held {F:List Ch} {τ:Ab} (n:List Nat):BB .In (vs n) (.ref 0) (oH F::τ)=some (decide (n∈F.map (·.1))):=by
 show inV (oH F::τ) (vs n) (.ref 0)=_
 rw [in_dS (kvs:=AM Tx Ch.data (hK F)) rfl,inH]
theorem nin_held {F:List Ch} {τ:Ab} (n:List Nat):BB .NotIn (vs n) (.ref 0) (oH F::τ)=some (!decide (n∈F.map (·.1))):=by
 show notO (BB .In (vs n) (.ref 0) (oH F::τ))=_
 rw [in_held]; rfl
structure WvOk (F:List Ch) (gs:List (List Nat×List (List Nat))):Prop where
 nd:(F.map (·.1)).Nodup
 topo:Cy F
 gen:∀ c∈F,GenCh c
 len:F.length<=60
 gk:gs.map (·.1)=F.map (·.1)
 gin:∀ p∈gs,p.2.length<=60/\∀ l,l∈p.2 ↔ Blw F p.1 l
structure AddOk (F:List Ch) (c:Ch):Prop extends ChkOk c where
 new:c.1∉F.map (·.1)
 lin:∀ l∈c.2.1,l∈F.map (·.1)
 mrk:MksOk F c
 room:F.length < 60
theorem max_shift:∀ (l:List Int) (b:Int),l.foldl (fun a b=>if a < b then b else a) b+1=(l.map (· + 1)).foldl (fun a b=>if a < b then b else a) (b+1)
 | [],_=>rfl
 | x::l,b=>by
  rw [List.map_cons,List.foldl_cons,List.foldl_cons,max_shift l]
  congr 1
  split <;> split <;> omega
theorem max_one (l:List Int):1+D6 (-1) l=D6 0 (l.map (· + 1)):=by
 cases l with
 | nil=>rfl
 | cons x l =>
  show 1+l.foldl _ x=(l.map (· + 1)).foldl _ (x+1)
  rw [Int.add_comm,max_shift]
theorem mapV_ints (l:List Int):BY BQ (l.map vi)=some l:=by
 induction l with
 | nil=>rfl
 | cons x l ih=>show (BY BQ (l.map vi)).bind _=_; rw [ih]; rfl
structure GdOk (F:List Ch) (gd:List (List Nat×Bool)):Prop where
 nd:(gd.map (·.1)).Nodup
 sub:∀ n∈gd.map (·.1),n∈F.map (·.1)
noncomputable def GdIs (F:List Ch) (ls:List (List Nat)) (gd:List (List Nat×Bool)):Prop:=∀ n,n∈gd.map (·.1) ↔ ∃ l∈ls,n=l\/Blw F l n
theorem GdOk.put {F:List Ch} {gd:List (List Nat×Bool)} (h:GdOk F gd) {n:List Nat} (hn:n∈F.map (·.1)):GdOk F (BD gd n true) :=
 ⟨put_nodup h.nd,fun k hk=>((ET k).mp hk).elim (fun e=>e▸hn) (h.sub k)⟩
theorem GdOk.len {F:List Ch} {gd:List (List Nat×Bool)} (h:GdOk F gd):gd.length<=F.length:=by
 have:=GZ _ _ h.nd h.sub
 rwa [List.length_map,List.length_map] at this
noncomputable abbrev oB (gd:List (List Nat×Bool)):O:=.dictS (AM Tx PyData.bool gd)
theorem keys_B {σ:Ab} {k:Nat} {gd:List (List Nat×Bool)} (hk:σ[k]? = some (oB gd)) (hl:∀ n∈gd.map (·.1),n.length<=12) (h:gd.length<=60):Bx .list σ [.ref k]=some (.d (dl (gd.map (·.1)))):=by
 show (keysO σ[k]?).bind mkL=_
 rw [hk]
 show ((if (AM Tx PyData.bool gd).all (fun p=>decide (p.1.length<=line))=true then some (vss ((AM Tx PyData.bool gd).map (·.1))) else none).bind mkL)=_
 rw [if_pos,bs]
 ·have e:vss ((AM Tx PyData.bool gd).map (·.1))=((gd.map (·.1)).map fun t=>PyData.str (Tx t)).map V.d:=by
   show ((AM Tx PyData.bool gd).map (·.1)).map _=_
   unfold AM
   rw [List.map_map,List.map_map,List.map_map,List.map_map]; rfl
  rw [e]
  exact mkLT _ (by rw [List.length_map,List.length_map]; exact Nat.le_trans h (by decide))
 ·rw [List.all_eq_true]
  intro p hp
  obtain ⟨q,hq,rfl⟩:=List.mem_map.mp hp
  refine decide_eq_true ?_
  show (Tx q.1).length<=line
  rw [Gc]; exact Nat.le_trans (hl q.1 (List.mem_map_of_mem hq)) (by decide)
theorem run_add {F:List Ch} {gs:List (List Nat×List (List Nat))} (w:WvOk F gs) (c:Ch) (h:AddOk F c) :
 Ah (C0 4) (fun fl σ'=>∃ gd,(GdOk F gd/\GdIs F c.2.1 gd)/\GU fl=AO/\σ'=W (F++[c]) (gs++[(c.1,Al (gd.map (·.1)))]) (hts [] (F++[c]))++[oB gd]) D5.body (B6 D5 [self,vc c]) (W F gs (hts [] F)):=by
 have hnm:∀ n∈F.map (·.1),n.length<=12:=fun n hn=>by
  obtain ⟨x,hx,rfl⟩:=List.mem_map.mp hn
  exact ((BS _).mp (w.gen x hx).name).2.1
 show Ah _ _ _ [some self,some (vc c),none,none,none,none] _
 refine CQ (v:=AO) rfl (.fcall ((Ae (C0 4).ok _).row rfl) (fn_check c h.toChkOk)) ?_
 refine Aw (v:=vs c.1) (Ag rfl rfl (Bm c)) ?_
 refine B4 (As (y:=.ref 0) rfl (Ef rfl) (in_held c.1)) (decide_eq_false h.new) ?_
 refine AL (l:=c.2.1) (fun l=>vs l) (fun _ ρ σ'=>(∃ z,ρ=[some self,some (vc c),some (vs c.1),z,none,none])/\W F gs (hts [] F)=σ') (BA (Ag rfl rfl (Cl c)) rfl) ⟨⟨none,rfl⟩,rfl⟩ ?_ ?_
 ·rintro p l q ρ _ hp ⟨⟨z,rfl⟩,rfl⟩
  exact B4 (As (y:=.ref 0) rfl (Ef rfl) (nin_held l)) (by rw [decide_eq_true (h.lin l (by rw [hp]; simp))]; rfl) (Ad ⟨_,rfl,⟨_,rfl⟩,rfl⟩)
 rintro ρ _ ⟨⟨z3,rfl⟩,rfl⟩
 refine CQ (v:=AO) rfl (.mcall (f:=37) AK (by unfold mtP; kernel_rfl) ((Ae (C0 4).ok (.var 0)).v rfl) ((Ae (C0 4).ok _).row rfl) ((fn_marksok w.nd (fun x hx=>Nat.le_trans (w.gen x hx).deeds (by decide)) c h.mrk).more (by decide))) ?_
 have hF:=w.len
 refine Du (z:=AO) (y:=AO) (k:=0) (w:=Tx c.1) (dd:=Ch.data c) (kvs:=AM Tx Ch.data (hK F)) (BN (e_r3 rfl (AN (Az (Ag rfl rfl (Cl c))) (list_d (by rw [List.length_map]; exact Nat.le_trans h.few (by decide)))) (AN (Az (Ag rfl rfl (BR c))) (list_d (by rw [List.length_map]; exact Nat.le_trans h.deeds (by decide))))) rfl) (Ef rfl) rfl rfl (by rw [Bq,List.length_map]; exact Nat.lt_of_le_of_lt hF (by decide)) ?_
 have eH:BD (AM Tx Ch.data (hK F)) (Tx c.1) (Ch.data c)=AM Tx Ch.data (hK (F++[c])):=by
  rw [Bo Ch.data Cc,ES (CB.mpr (by rw [hK_keys]; exact h.new))]
  show AM Tx Ch.data (F.map (fun c=>(c.1,c))++[(c.1,c)])=AM Tx Ch.data ((F++[c]).map fun c=>(c.1,c))
  rw [List.map_append]; rfl
 show Ah _ _ _ _ [.dictS (BD (AM Tx Ch.data (hK F)) (Tx c.1) (Ch.data c)),oG gs,oT (hts [] F)]
 rw [eH]
 refine go_asgD ?_
 let St:List (List Nat×Bool)->Ab:=fun gd=>[oH (F++[c]),oG gs,oT (hts [] F),oB gd]
 let K:Option V->Option V->Af:=fun z3 z5=>[some self,some (vc c),some (vs c.1),z3,some (.ref 3),z5]
 refine AL (l:=c.2.1) (fun l=>vs l) (fun p ρ σ'=>∃ gd,(GdOk F gd/\GdIs F p gd)/\(∃ z3 z5,ρ=K z3 z5)/\St gd=σ') (BA (Ag rfl rfl (Cl c)) rfl) ⟨[],⟨⟨List.nodup_nil,(fun n h=>nomatch h)⟩,fun n=>⟨(fun h=>nomatch h),fun ⟨l,h,_⟩=>nomatch h⟩⟩,⟨z3,none,rfl⟩,rfl⟩ ?_ ?_
 ·rintro p l q ρ _ hp ⟨gd,⟨G,GI⟩,⟨z3,z5,rfl⟩,rfl⟩
  have hl:=h.lin l (by rw [hp]; simp)
  have hgl:=G.len
  refine Du (z:=AO) (y:=AO) (k:=3) (w:=Tx l) (dd:=.bool true) (kvs:=AM Tx PyData.bool gd) rfl rfl rfl rfl (by rw [Bq]; exact Nat.lt_of_le_of_lt (Nat.le_trans hgl hF) (by decide)) ?_
  rw [Bo PyData.bool Cc]
  obtain ⟨ls,hls⟩:=AF.mpr (show l∈gs.map (·.1) by rw [w.gk]; exact hl)
  obtain ⟨pr,hpr,epr,epl⟩:∃ pr∈gs,pr.2=ls/\pr.1=l:=by
   unfold Ao at hls
   obtain ⟨pr,e1,e2⟩:=Option.map_eq_some_iff.mp hls
   exact ⟨pr,List.mem_of_find?_eq_some e1,e2,by simpa using List.find?_some e1⟩
  have hin:=w.gin pr hpr
  rw [epr,epl] at hin
  show Ah _ _ _ (K (some (vs l)) z5) (St (BD gd l true))
  refine AL (l:=ls) (fun l=>vs l) (fun p' ρ σ'=>∃ gd,(GdOk F gd/\∀ n,n∈gd.map (·.1) ↔ (∃ l∈p,n=l\/Blw F l n)\/n=l\/n∈p')/\(∃ z5,ρ=K (some (vs l)) z5)/\St gd=σ') (BA (Ag (Gb rfl) rfl (CV (kvs:=AM Tx dl gs) rfl (by rw [AY dl Cc,hls]; rfl))) rfl) ⟨_,⟨G.put hl,fun n=>by rw [ET,GI n]; simp [or_comm]⟩,⟨z5,rfl⟩,rfl⟩ ?_ ?_
  ·rintro p' l' q' ρ _ hp' ⟨gd,⟨G,GJ⟩,⟨z5,rfl⟩,rfl⟩
   have hgl:=G.len
   refine Du (z:=AO) (y:=AO) (k:=3) (w:=Tx l') (dd:=.bool true) (kvs:=AM Tx PyData.bool gd) rfl rfl rfl rfl (by rw [Bq]; exact Nat.lt_of_le_of_lt (Nat.le_trans hgl hF) (by decide)) (Ad ⟨_,rfl,BD gd l' true,⟨G.put (((hin.2 l').mp (by rw [hp']; simp)).names w.topo),fun n=>by
    rw [ET,GJ n,List.mem_append,List.mem_singleton]
    constructor
    ·rintro (h | h | h | h)
     ·exact .inr (.inr (.inr h))
     ·exact .inl h
     ·exact .inr (.inl h)
     ·exact .inr (.inr (.inl h))
    ·rintro (h | h | h | h)
     ·exact .inr (.inl h)
     ·exact .inr (.inr (.inl h))
     ·exact .inr (.inr (.inr h))
     ·exact .inl h⟩,⟨_,rfl⟩,?_⟩)
   rw [Bo PyData.bool Cc]; rfl
  ·rintro ρ _ ⟨gd,⟨G,GJ⟩,⟨z5,rfl⟩,rfl⟩
   refine Ad ⟨_,rfl,gd,⟨G,fun n=>?_⟩,⟨_,_,rfl⟩,rfl⟩
   rw [GJ n,hin.2 n]
   constructor
   ·rintro (⟨x,hx,h⟩ | h)
    ·exact ⟨x,List.mem_append_left _ hx,h⟩
    ·exact ⟨l,List.mem_append_right _ (.head _),h⟩
   ·rintro ⟨x,hx,h⟩
    rcases List.mem_append.mp hx with hx | hx
    ·exact .inl ⟨x,hx,h⟩
    ·exact .inr (List.mem_singleton.mp hx▸h)
 rintro ρ _ ⟨gd,⟨G,GI⟩,⟨z3',z5,rfl⟩,rfl⟩
 have hgl:=Nat.le_trans G.len hF
 have hkeys:=keys_B (σ:=St gd) (k:=3) rfl (fun n hn=>hnm n (G.sub n hn)) hgl
 have hgs:gs.length<=60:=by have:=congrArg List.length w.gk; rw [List.length_map,List.length_map] at this; omega
 refine Du (z:=AO) (y:=AO) (k:=1) (w:=Tx c.1) (dd:=dl (Al (gd.map (·.1)))) (kvs:=AM Tx dl gs) (AN (Az (AN (Az rfl) hkeys)) (EO (by show some (((gd.map (·.1)).map fun t=>PyData.str (Tx t)).map V.d)=_; rw [List.map_map]; rfl) (by rw [List.length_map]; omega))) (Gb rfl) rfl rfl (by rw [Bq]; exact Nat.lt_of_le_of_lt hgs (by decide)) ?_
 rw [Bo dl Cc,ES (CB.mpr (by rw [w.gk]; exact h.new))]
 have hhl:(hts [] F).length<=60:=by have:=congrArg List.length (BF [] F); rw [List.length_map,List.length_append,List.length_map] at this; simp at this; omega
 have hget:∀ l∈c.2.1,Ao (hts [] F) l=some ((Ao (hts [] F) l).getD 0):=fun l hl=>by
  obtain ⟨v,hv⟩:=AF.mpr (show l∈(hts [] F).map (·.1) by rw [BF]; exact h.lin l hl)
  rw [hv]; rfl
 have hcomp:(ev (C0 4).O (.comp (.sub (.attr (Str.ofString "heights") (.var 0)) (.var 3)) [3] (.sub (.var 1) (.cst (.int 1))) .nil)).v (K z3' z5) [oH (F++[c]),oG (gs++[(c.1,Al (gd.map (·.1)))]),oT (hts [] F),oB gd]=some (.d (.list (c.2.1.map fun l=>.int ((Ao (hts [] F) l).getD 0)))):=by
  rw [CC (l:=c.2.1) (fun t=>.str (Tx t)) (fun _=>true) (fun l=>.int ((Ao (hts [] F) l).getD 0)) (BA (Ag rfl rfl (Cl c)) rfl) (Nat.le_trans h.few (by decide)) (fun _ _=>rfl) (fun l hl _=>Ag (Ga rfl) rfl (CV (k:=2) (kvs:=AM Tx PyData.int (hts [] F)) rfl (by rw [AY PyData.int Cc,hget l hl]; rfl))),BM]
 have hmax:(ev (C0 4).O (.maxd (.comp (.sub (.attr (Str.ofString "heights") (.var 0)) (.var 3)) [3] (.sub (.var 1) (.cst (.int 1))) .nil) (.neg (.cst (.int 1))))).v (K z3' z5) [oH (F++[c]),oG (gs++[(c.1,Al (gd.map (·.1)))]),oT (hts [] F),oB gd]=some (vi (D6 (-1) (c.2.1.map fun l=>(Ao (hts [] F) l).getD 0))):=by
  show ((ev (C0 4).O (.comp _ _ _ _)).v _ _).bind _=_
  rw [hcomp,bs]
  show (BY BQ ((c.2.1.map fun l=>PyData.int ((Ao (hts [] F) l).getD 0)).map V.d)).bind _=_
  rw [show (c.2.1.map fun l=>PyData.int ((Ao (hts [] F) l).getD 0)).map V.d=(c.2.1.map fun l=>(Ao (hts [] F) l).getD 0).map vi by rw [List.map_map,List.map_map]; rfl,mapV_ints]
  rfl
 refine Du (z:=AO) (y:=AO) (k:=2) (w:=Tx c.1) (dd:=.int (hv (hts [] F) c.2.1)) (kvs:=AM Tx PyData.int (hts [] F)) ((Ai rfl hmax rfl).trans ?_) (Ga rfl) rfl rfl (by rw [Bq]; exact Nat.lt_of_le_of_lt hhl (by decide)) (Ad ⟨gd,⟨G,GI⟩,rfl,?_⟩)
 ·rw [max_one,List.map_map]; rfl
 ·rw [Bo PyData.int Cc,ES (CB.mpr (by rw [BF]; exact h.new)),Fj]; rfl
end Mine
namespace Mine
open PySem
theorem Gk {F:List Ch} {gs:List (List Nat×List (List Nat))} {hs:List (List Nat×Int)} (m k:Nat) (o:O) (e:(W F gs hs)[k]? = some o):FO m o:=by
 match k,e with
 | 0,e=>rw [<-Option.some.inj (show some (oH F)=some o from e)]; exact trivial
 | 1,e=>rw [<-Option.some.inj (show some (oG gs)=some o from e)]; exact trivial
 | 2,e=>rw [<-Option.some.inj (show some (oT hs)=some o from e)]; exact trivial
 | k+3,e=>exact Ac e
theorem DS:low 3 self:=fun k hk=>by
 have:k∈[0,1,2]:=hk
 simp at this; omega
theorem fn_add {F:List Ch} {gs:List (List Nat×List (List Nat))} (w:WvOk F gs) (c:Ch) (h:AddOk F c):∃ gs',WvOk (F++[c]) gs'/\∀ τ,FN 5 36 [self,vc c] (W F gs (hts [] F)++τ) AO (W (F++[c]) gs' (hts [] (F++[c]))++τ):=by
 obtain ⟨v,σ',⟨gd,⟨G,GI⟩,k1,k2⟩,hf⟩:=FN.ends (C:=C0 4) (f:=36) (fn:=D5) (zs:=[self,vc c]) (σ:=W F gs (hts [] F)) (R:=fun v σ'=>∃ gd,(GdOk F gd/\GdIs F c.2.1 gd)/\v=AO/\σ'=W (F++[c]) (gs++[(c.1,Al (gd.map (·.1)))]) (hts [] (F++[c]))++[oB gd]) (by unfold Pg; rfl) rfl (show 1<=4 by decide) (run_add w c h)
 rw [k1,k2] at hf
 have sub:∀ l,l∈F.map (·.1)->l∈(F++[c]).map (·.1):=fun l hl=>by rw [List.map_append]; exact List.mem_append_left _ hl
 have nd':((F++[c]).map (·.1)).Nodup:=by
  rw [List.map_append,List.nodup_append]
  exact ⟨w.nd,List.nodup_cons.mpr ⟨List.not_mem_nil,List.nodup_nil⟩,fun a ha b hb e=>h.new (by have hb:b=c.1:=List.mem_singleton.mp hb; rw [<-hb,<-e]; exact ha)⟩
 refine ⟨gs++[(c.1,Al (gd.map (·.1)))],⟨nd',w.topo.snoc h.lin,fun x hx=>?_,?_,?_,fun p hp=>?_⟩,fun τ=>?_⟩
 ·rcases List.mem_append.mp hx with hx | hx
  ·exact w.gen x hx
  ·rw [List.mem_singleton.mp hx]; exact h.toGenCh
 ·rw [List.length_append]; exact h.room
 ·rw [List.map_append,List.map_append,w.gk]; rfl
 ·rcases List.mem_append.mp hp with hp | hp
  ·have hp1:p.1∈F.map (·.1):=by rw [<-w.gk]; exact List.mem_map_of_mem hp
   exact ⟨(w.gin p hp).1,fun l=>((w.gin p hp).2 l).trans (Blw.snoc w.topo h.new hp1).symm⟩
  ·rw [List.mem_singleton.mp hp]
   refine ⟨?_,fun l=>?_⟩
   ·show (Al _).length<=60
    rw [(A1 _).length_eq,List.length_map]; exact Nat.le_trans G.len w.len
   ·show l∈Al _ ↔ Blw (F++[c]) c.1 l
    rw [(A1 _).mem_iff,GI l,Blw.step (F:=F++[c]) nd' (List.mem_append_right _ (.head _))]
    refine exists_congr fun x=>and_congr_right fun hx=>or_congr Iff.rfl (Blw.snoc w.topo h.new (h.lin x hx)).symm
 ·exact FN.tail (FN.seal' (σ:=W F gs (hts [] F)) (τ:=[oB gd]) (d:=.none) hf rfl (Gk 3) rfl) rfl (all_cons DS (all_cons (B9 _ _) AR)) (Gk 3)
theorem DOk_at {nm:List Nat} {ms:List Mk}:∀ {ds:List Deed} {k:Nat},DOk nm ms ds k->∀ pre d post,ds=pre++d::post->∀ m,d.mark=some m->m∈ms\/(m.1=nm/\0<=m.2/\m.2 < ((k+adds pre:Nat):Int))
 | [],_,_,pre,d,post,e=>by simp at e
 | a::ds,k,h,[],d,post,e=>by
  obtain ⟨rfl,_⟩:=List.cons.inj e
  exact h.1
 | a::ds,k,h,b::pre,d,post,e=>by
  obtain ⟨rfl,e2⟩:=List.cons.inj e
  intro m hm
  have:=DOk_at h.2 pre d post e2 m hm
  have e1:(if AH a then k+1 else k)+adds pre=k+adds (a::pre):=by
   show _=k+((if AH a then 1 else 0)+adds pre)
   split <;> omega
  rw [e1] at this; exact this
theorem name_uniq {cs:List Ch} (nd:(cs.map (·.1)).Nodup) {a b:Ch} (ha:a∈cs) (hb:b∈cs) (e:a.1=b.1):a=b:=by
 have h1:=getH nd ha
 rw [e,getH nd hb] at h1
 exact (Option.some.inj h1).symm
theorem E9 {pre:List Ch} {ls:List (List Nat)} {m:Mk} (h:m∈DT pre ls):∃ c'∈pre,c'.1∈ls/\c'.1=m.1/\0<=m.2/\m.2 < (adds c'.2.2:Int):=by
 obtain ⟨c',h1,h2⟩:=List.mem_flatMap.mp h
 have h1:=List.mem_filter.mp h1
 have h3:=EV.mp h2
 exact ⟨c',h1.1,of_decide_eq_true h1.2,h3.1.symm,by have:=h3.2.1; simpa using this,by have:=h3.2.2; simpa using this⟩
theorem add_ok {cs F pre post:List Ch} {c:Ch} (H:Bd cs) (hg:∀ c∈cs,GenCh c) (hl:cs.length<=60) (hp:F.Perm cs) (ht:Cy F) (e:F=pre++c::post):AddOk pre c:=by
 have hc:c∈cs:=hp.mem_iff.mp (by rw [e]; simp)
 have hpre:∀ x∈pre,x∈cs:=fun x hx=>hp.mem_iff.mp (by rw [e]; exact List.mem_append_left _ hx)
 obtain ⟨a,b,ec⟩:=List.append_of_mem hc
 obtain ⟨h1,h2⟩:=H.ok a c b ec
 have ha:∀ x∈a,x∈cs:=fun x hx=>by rw [ec]; exact List.mem_append_left _ hx
 have ndF:(F.map (·.1)).Nodup:=(hp.map _).nodup_iff.mpr H.nd
 have lin:=ht pre c post e
 have self':c.1∉c.2.1:=fun q=>by
  have nd:=H.nd
  rw [ec,List.map_append,List.map_cons,List.nodup_append] at nd
  exact nd.2.2 c.1 (h1 c.1 q) c.1 (.head _) rfl
 refine ⟨⟨hg c hc,fun l hl=>?_,self',fun d hd m hm=>?_⟩,?_,lin,fun p d q ed m hm=>?_,?_⟩
 ·obtain ⟨x,hx,rfl⟩:=List.mem_map.mp (lin l hl)
  exact (hg x (hpre x hx)).name
 ·obtain ⟨p,q,ed⟩:=List.append_of_mem hd
  rcases DOk_at h2 p d q ed m hm with q | q
  ·obtain ⟨c',_,k1,k2,_⟩:=E9 q
   exact .inr (k2▸k1)
  ·exact .inl q.1
 ·rw [e,List.map_append,List.map_cons,List.nodup_append] at ndF
  exact fun q=>ndF.2.2 c.1 q c.1 (.head _) rfl
 ·rcases DOk_at h2 p d q ed m hm with q | q
  ·obtain ⟨c',k0,k1,k2,k3,k4⟩:=E9 q
   obtain ⟨x,hx,ex⟩:=List.mem_map.mp (lin c'.1 k1)
   obtain rfl:=name_uniq H.nd (hpre x hx) (ha c' k0) ex
   exact .inr ⟨fun q=>self' (by rw [<-q,<-k2]; exact k1),x,hx,k2,k3,k4⟩
  ·exact .inl ⟨q.1,q.2.1,by have:=q.2.2; rwa [Nat.zero_add] at this⟩
 ·have:=hp.length_eq
  rw [e,List.length_append,List.length_cons] at this; omega
theorem fn_woven {cs F:List Ch} (H:Bd cs) (hg:∀ c∈cs,GenCh c) (hl:cs.length<=60) (hp:F.Perm cs) (ht:Cy F):∃ gs,WvOk F gs/\FN 6 27 [.d (.list (F.map Ch.data))] [] self (W F gs (hts [] F)):=by
 obtain ⟨v,σ',⟨gs,k1,k2,k3⟩,h⟩:=FN.ends (C:=C0 5) (f:=27) (fn:=Fwoven) (zs:=[.d (.list (F.map Ch.data))]) (σ:=[]) (R:=fun v σ'=>∃ gs,WvOk F gs/\v=self/\σ'=W F gs (hts [] F)) (by unfold Pg; rfl) rfl (show 1<=5 by decide) (by
  show Ah _ _ _ [some (.d (.list (F.map Ch.data))),none,none] []
  refine AB (v:=self) (σ':=W [] [] []) rfl (.new (f:=35) (nv:=1) (by unfold mtP; kernel_rfl) (by unfold Pg; rfl)) ?_
  refine AL (l:=F) vc (fun p ρ σ=>∃ gs,WvOk p gs/\(∃ z,ρ=[some (.d (.list (F.map Ch.data))),some self,z])/\W p gs (hts [] p)=σ) (Gl rfl) ⟨[],⟨List.nodup_nil,fun pre c post e=>by simp at e,(fun c h=>nomatch h),Nat.zero_le _,rfl,fun p h=>nomatch h⟩,⟨none,rfl⟩,rfl⟩ ?_ ?_
  ·rintro p c q ρ _ e ⟨gs,w,⟨z,rfl⟩,rfl⟩
   have A:=add_ok H hg hl hp ht e
   obtain ⟨gs',w',hf⟩:=fn_add w c A
   exact CQ (v:=AO) rfl (.mcall (f:=36) AK (by unfold mtP; kernel_rfl) ((Ae (C0 5).ok (.var 1)).v rfl) (.cons (.fcall ((Ae (C0 5).ok _).row rfl) ((fn_copy c (Nat.le_trans A.few (by decide)) (Nat.le_trans A.deeds (by decide))).more (by decide))) .nil) (hf [])) (Ad ⟨_,rfl,gs',w',⟨_,rfl⟩,(List.append_nil _).symm⟩)
  ·rintro ρ _ ⟨gs,w,⟨z,rfl⟩,rfl⟩
   exact A6 (v:=self) rfl ⟨gs,w,rfl,rfl⟩)
 rw [k2,k3] at h
 exact ⟨gs,k1,h⟩
end Mine
namespace Mine
open PySem
noncomputable def ltI (a b:Int):Bool:=decide (a < b)
theorem DK {κ κ' α α':Type} {lt:κ->κ->Bool} {lt':κ'->κ'->Bool} (f:κ×α->κ'×α') (h:∀ p q,lt' (f p).1 (f q).1=lt p.1 q.1) (l:List (κ×α)):A5 lt' (l.map f)=(A5 lt l).map f:=by
 have ins:∀ (p:κ×α) (l:List (κ×α)),BZ lt' (f p) (l.map f)=(BZ lt p l).map f:=by
  intro p l
  induction l with
  | nil=>rfl
  | cons q r ih =>
   show (if lt' (f q).1 (f p).1 then f q::BZ lt' (f p) (r.map f) else f p::f q::r.map f)=(if lt q.1 p.1 then q::BZ lt p r else p::q::r).map f
   rw [h,ih]
   split <;> rfl
 induction l with
 | nil=>rfl
 | cons p r ih =>
  show BZ lt' (f p) (A5 lt' (r.map f))=(BZ lt p (A5 lt r)).map f
  rw [ih,ins]
noncomputable def ltN (a b:List Nat):Bool:=decide (a < b)
theorem linN:LinB ltN:=⟨fun a=>decide_eq_false (List.lt_irrefl a),fun a b c h h'=>decide_eq_true (List.lt_trans (of_decide_eq_true h) (of_decide_eq_true h')),fun a b h h'=>List.le_antisymm (List.not_lt.mp (of_decide_eq_false h')) (List.not_lt.mp (of_decide_eq_false h))⟩
theorem linI:LinB ltI:=⟨fun a=>decide_eq_false (Int.lt_irrefl a),fun a b c h h'=>decide_eq_true (Int.lt_trans (of_decide_eq_true h) (of_decide_eq_true h')),fun a b h h'=>by have:=of_decide_eq_false h; have:=of_decide_eq_false h'; omega⟩
noncomputable def A7 (cs:List Ch):List Ch:=((A5 ltN (cs.map fun c=>(c.1,c)).reverse).reverse).map (·.2)
noncomputable def Aj (cs:List Ch):List Ch:=(A5 ltI ((A7 cs).map fun c=>(hgt cs c.1,c))).map (·.2)
theorem Eb (cs:List Ch):(A7 cs).Perm cs:=by
 have h:=((List.reverse_perm _).trans ((Bc (lt:=ltN) (cs.map fun c=>(c.1,c)).reverse).trans (List.reverse_perm _))).map (·.2)
 rw [List.map_map,show ((fun x:List Nat×Ch=>x.2)∘fun c:Ch=>(c.1,c))=id from rfl,List.map_id] at h
 exact h
theorem Fs {cs:List Ch} (hn:(cs.map (·.1)).Nodup):(A7 cs).Pairwise fun a b=>b.1 < a.1:=by
 have h0:(cs.map fun c=>(c.1,c)).reverse.Pairwise fun a b:List Nat×Ch=>a.1≠b.1:=by
  rw [List.pairwise_reverse,List.pairwise_map]
  have:=hn
  rw [List.Nodup,List.pairwise_map] at this
  exact this.imp fun h e=>h e.symm
 have h1:=DJ linN _ h0
 unfold A7
 rw [List.pairwise_map,List.pairwise_reverse]
 refine h1.imp_of_mem fun {a b} ha hb h=>?_
 have key:∀ x:List Nat×Ch,x∈A5 ltN (cs.map fun c=>(c.1,c)).reverse->x.1=x.2.1:=fun x hx=>by
  have:=List.mem_reverse.mp ((Bc _).mem_iff.mp hx)
  obtain ⟨c,_,rfl⟩:=List.mem_map.mp this
  rfl
 rcases h with h | h
 ·rw [<-key a ha,<-key b hb]; exact of_decide_eq_true h
 ·exact (h.2 h.1).elim
theorem Cm {cs:List Ch} (hn:(cs.map (·.1)).Nodup):IsOrd (hgt cs) cs (Aj cs):=by
 have h0:((A7 cs).map fun c=>(hgt cs c.1,c)).Pairwise fun a b:Int×Ch=>b.2.1 < a.2.1:=by
  rw [List.pairwise_map]; exact Fs hn
 refine ⟨?_,?_⟩
 ·have h:=(Bc (lt:=ltI) ((A7 cs).map fun c=>(hgt cs c.1,c))).map (·.2)
  rw [List.map_map,show ((fun x:Int×Ch=>x.2)∘fun c:Ch=>(hgt cs c.1,c))=id from rfl,List.map_id] at h
  have h2:(Aj cs).Perm (A7 cs):=h
  exact h2.trans (Eb cs)
 ·have h1:=DJ linI _ h0
  unfold Aj
  rw [List.pairwise_map]
  refine h1.imp_of_mem fun {a b} ha hb h=>?_
  have key:∀ x:Int×Ch,x∈A5 ltI ((A7 cs).map fun c=>(hgt cs c.1,c))->x.1=hgt cs x.2.1:=fun x hx=>by
   obtain ⟨c,_,rfl⟩:=List.mem_map.mp ((Bc _).mem_iff.mp hx)
   rfl
  unfold Bf
  rw [<-key a ha,<-key b hb]
  exact h.imp of_decide_eq_true id
theorem hgt_rec {F:List Ch} (nd:(F.map (·.1)).Nodup) (ht:Cy F) {c:Ch} (hc:c∈F):hgt F c.1=D6 0 (c.2.1.map fun l=>hgt F l+1):=by
 obtain ⟨pre,post,rfl⟩:=List.append_of_mem hc
 have nd':=nd
 rw [List.map_append,List.map_cons,List.nodup_append] at nd'
 have hn:Ao (hts [] pre) c.1=none:=CB.mpr (by rw [BF]; exact fun q=>nd'.2.2 c.1 q c.1 (.head _) rfl)
 have old:∀ {n v},Ao (hts [] pre++[(c.1,hv (hts [] pre) c.2.1)]) n=some v->hgt (pre++c::post) n=v:=fun {n v} e=>by
  unfold hgt
  rw [Fj,hts,hts_old e]; rfl
 rw [old (v:=hv (hts [] pre) c.2.1) (by rw [En hn,Be,if_pos rfl])]
 unfold hv
 congr 1
 refine List.map_congr_left fun l hl=>?_
 obtain ⟨v,hv'⟩:=AF.mpr (show l∈(hts [] pre).map (·.1) by rw [BF]; exact ht pre c post rfl l hl)
 rw [old (get_left hv'),hv']; rfl
theorem hgt_same {F G:List Ch} (nd:(F.map (·.1)).Nodup) (hp:G.Perm F) (hF:Cy F) (hG:Cy G):∀ c∈F,hgt F c.1=hgt G c.1:=by
 have ndG:(G.map (·.1)).Nodup:=(hp.map _).nodup_iff.mpr nd
 have key:∀ (post pre:List Ch),F=pre++post->(∀ c∈pre,hgt F c.1=hgt G c.1)->∀ c∈F,hgt F c.1=hgt G c.1:=by
  intro post
  induction post with
  | nil=>intro pre e h; rw [List.append_nil] at e; rw [e] at h ⊢; exact h
  | cons x post ih =>
   intro pre e h
   refine ih (pre++[x]) (by rw [List.append_assoc]; exact e) fun c hc=>?_
   rcases List.mem_append.mp hc with hc | hc
   ·exact h c hc
   ·rw [List.mem_singleton.mp hc]
    have hx:x∈F:=by rw [e]; simp
    rw [hgt_rec nd hF hx,hgt_rec ndG hG (hp.mem_iff.mpr hx)]
    congr 1
    refine List.map_congr_left fun l hl=>?_
    obtain ⟨y,hy,rfl⟩:=List.mem_map.mp (hF pre x post e l hl)
    rw [h y hy]
 exact key F [] rfl fun c h=>nomatch h
theorem Bd.topo {cs:List Ch} (H:Bd cs):Cy cs:=fun pre c post e=>(H.ok pre c post e).1
theorem ord_same {F G:List Ch} (nd:(F.map (·.1)).Nodup) (hp:G.Perm F) (hF:Cy F) (hG:Cy G):Aj G=Aj F:=by
 have ndG:(G.map (·.1)).Nodup:=(hp.map _).nodup_iff.mpr nd
 have h1:=Cm nd
 have h2:=Cm ndG
 refine IsOrd.uniq (H:=hgt F) (cs:=F) ⟨h2.perm.trans hp,h2.bf.imp_of_mem fun {a b} ha hb h=>?_⟩ h1
 have ea:=hgt_same nd hp hF hG a (hp.mem_iff.mp (h2.perm.mem_iff.mp ha))
 have eb:=hgt_same nd hp hF hG b (hp.mem_iff.mp (h2.perm.mem_iff.mp hb))
 unfold Bf at h ⊢
 rw [ea,eb]; exact h
end Mine
namespace Mine
open PySem
theorem GD {C:Cfg} {P:Fl->Ab->Prop} {r body:S} {ρ:Af} {σ σ₁:Ab} {it:E} {x:Nat} {α:Type} {l:List α} (w:α->V) (J:List α->Af->Ab->Prop) (hit:SI C.n it ρ σ (l.map w) [] σ₁) (hJ:J [] ρ σ₁)
 (hf:∀ p a q ρ σ,l=p++a::q->J p ρ σ->Ah C (fun fl σ'=>∃ ρ',fl=.next ρ'/\J (p++[a]) ρ' σ') body (ρ.set x (some (w a))) σ) (k:∀ ρ' σ',J l ρ' σ'->Ah C P r ρ' σ'):Ah C P (.cons (.for_ [x] it body) r) ρ σ:=by
 obtain ⟨ρe,σe,h1,h2⟩:=turns (C:=C) (body:=body) (ts:=[x]) (kps:=[]) w J l [] ρ σ₁ (fun _ _ _ _ _ _ m=>nomatch m) (fun _ _=>.inl rfl) hJ hf
 exact Ca (fl:=.next ρe) (fun Q q=>.for_ hit (h2 Q q)) (k ρe σe h1)
theorem fn_heights (cs:List Ch) (hg:∀ c∈cs,c.2.1.length<=60) (hl:cs.length<=60) (nd:(cs.map (·.1)).Nodup) (ht:Cy cs):FN 2 19 [.d (.list (cs.map Ch.data))] [] (.ref 0) [oT (hts [] cs)]:=by
 obtain ⟨v,σ',⟨k2,k3⟩,h⟩:=FN.ends (C:=C0 1) (f:=19) (fn:=Fheights) (zs:=[.d (.list (cs.map Ch.data))]) (σ:=[]) (R:=fun v σ'=>v=.ref 0/\σ'=[oT (hts [] cs)]) (by unfold Pg; rfl) rfl (Nat.le_refl _) (by
  show Ah _ _ _ [some (.d (.list (cs.map Ch.data))),none,none,none] []
  refine go_asgD ?_
  refine AL (l:=cs) vc (fun p ρ σ=>(∃ z2 z3,ρ=[some (.d (.list (cs.map Ch.data))),some (.ref 0),z2,z3])/\[oT (hts [] p)]=σ) (Gl rfl) ⟨⟨none,none,rfl⟩,rfl⟩ ?_ ?_
  ·rintro p c q ρ _ e ⟨⟨z2,z3,rfl⟩,rfl⟩
   have hc:c∈cs:=by rw [e]; simp
   have hget:∀ l∈c.2.1,Ao (hts [] p) l=some ((Ao (hts [] p) l).getD 0):=fun l hl=>by
    obtain ⟨v,hv⟩:=AF.mpr (show l∈(hts [] p).map (·.1) by rw [BF]; exact ht p c q e l hl)
    rw [hv]; rfl
   have hcomp:(ev (C0 1).O (.comp (.bin .Add (.sub (.var 1) (.var 3)) (.cst (.int 1))) [3] (.sub (.var 2) (.cst (.int 1))) .nil)).v [some (.d (.list (cs.map Ch.data))),some (.ref 0),some (vc c),z3] [oT (hts [] p)]=some (.d (.list (c.2.1.map fun l=>.int ((Ao (hts [] p) l).getD 0+1)))):=by
    rw [CC (l:=c.2.1) (fun t=>.str (Tx t)) (fun _=>true) (fun l=>.int ((Ao (hts [] p) l).getD 0+1)) (BA (Ag rfl rfl (Cl c)) rfl) (Nat.le_trans (hg c hc) (by decide)) (fun _ _=>rfl) (fun l hl _=>Ai (Ag rfl rfl (CV (k:=0) (kvs:=AM Tx PyData.int (hts [] p)) rfl (by rw [AY PyData.int Cc,hget l hl]; rfl))) rfl rfl),BM]
   have hmax:(ev (C0 1).O (.maxd (.comp (.bin .Add (.sub (.var 1) (.var 3)) (.cst (.int 1))) [3] (.sub (.var 2) (.cst (.int 1))) .nil) (.cst (.int 0)))).v [some (.d (.list (cs.map Ch.data))),some (.ref 0),some (vc c),z3] [oT (hts [] p)]=some (vi (hv (hts [] p) c.2.1)):=by
    show ((ev (C0 1).O (.comp _ _ _ _)).v _ _).bind _=_
    rw [hcomp,bs]
    show (BY BQ ((c.2.1.map fun l=>PyData.int ((Ao (hts [] p) l).getD 0+1)).map V.d)).bind _=_
    rw [show (c.2.1.map fun l=>PyData.int ((Ao (hts [] p) l).getD 0+1)).map V.d=(c.2.1.map fun l=>(Ao (hts [] p) l).getD 0+1).map vi by rw [List.map_map,List.map_map]; rfl,mapV_ints]
    rfl
   have hpl:(hts [] p).length<=60:=by
    have h1:=congrArg List.length (BF [] p)
    have h2:=congrArg List.length e
    simp at h1 h2; omega
   refine Du (z:=AO) (y:=AO) (k:=0) (w:=Tx c.1) (dd:=.int (hv (hts [] p) c.2.1)) (kvs:=AM Tx PyData.int (hts [] p)) hmax rfl (Ag rfl rfl (Bm c)) rfl (by rw [Bq]; exact Nat.lt_of_le_of_lt hpl (by decide)) (Ad ⟨_,rfl,⟨_,_,rfl⟩,?_⟩)
   rw [Bo PyData.int Cc,ES (CB.mpr ?_),Fj]
   ·rfl
   ·rw [BF]
    rw [e,List.map_append,List.map_cons,List.nodup_append] at nd
    exact fun q=>nd.2.2 c.1 q c.1 (.head _) rfl
  ·rintro ρ _ ⟨⟨z2,z3,rfl⟩,rfl⟩
   exact A6 (v:=.ref 0) rfl ⟨rfl,rfl⟩)
 rw [k2,k3] at h
 exact h
noncomputable abbrev Sm:=List Mk×List (Mk×List Nat)×List (Mk×Bool)
noncomputable def stD (nm:List Nat) (k:Nat) (d:Deed) (s:Sm):Sm :=
 if AH d then (G3 d.mark (nm,(k:Int)) s.1,BD s.2.1 (nm,(k:Int)) (d.text.getD []),s.2.2)
 else if d.word=DV then (s.1,BD s.2.1 (d.mark.getD ([],0)) (d.text.getD []),s.2.2) else (s.1,s.2.1,BD s.2.2 (d.mark.getD ([],0)) true)
noncomputable def EN (nm:List Nat):List Deed->Nat->Sm->Sm
 | [],_,s=>s
 | d::ds,k,s=>EN nm ds (if AH d then k+1 else k) (stD nm k d s)
noncomputable def stC (s:Sm) (c:Ch):Sm:=EN c.1 c.2.2 0 s
noncomputable def A0 (O:List Ch):Sm:=O.foldl stC ([],[],[])
theorem Da (nm:List Nat) (d:Deed):∀ (D:List Deed) (k:Nat) (s:Sm),EN nm (D++[d]) k s=stD nm (k+adds D) d (EN nm D k s)
 | [],k,s=>rfl
 | e::D,k,s=>by
  show EN nm (D++[d]) (if AH e then k+1 else k) (stD nm k e s)=stD nm (k+((if AH e then 1 else 0)+adds D)) d (EN nm D (if AH e then k+1 else k) (stD nm k e s))
  rw [Da nm d D]
  congr 1
  split <;> omega
theorem stD_row (nm:List Nat) (k:Nat) (d:Deed) (s:Sm):(stD nm k d s).1=if AH d then G3 d.mark (nm,(k:Int)) s.1 else s.1:=by
 unfold stD
 split
 ·rfl
 ·split <;> rfl
theorem EM (nm:List Nat):∀ (ds:List Deed) (k:Nat) (s:Sm),(EN nm ds k s).1=FE nm ds k s.1
 | [],_,_=>rfl
 | d::ds,k,s=>by
  show (EN nm ds _ (stD nm k d s)).1=if AH d then FE nm ds (k+1) (G3 d.mark (nm,(k:Int)) s.1) else FE nm ds k s.1
  rw [EM,stD_row]
  split <;> rfl
theorem GQ (O:List Ch) (c:Ch):A0 (O++[c])=stC (A0 O) c:=by
 unfold A0
 rw [List.foldl_append]; rfl
theorem stAll_row (O:List Ch):(A0 O).1=GT O []:=by
 have key:∀ (O:List Ch) (s:Sm),(O.foldl stC s).1=GT O s.1:=by
  intro O
  induction O with
  | nil=>exact fun _=>rfl
  | cons c O ih =>
   intro s
   show (O.foldl stC (stC s c)).1=GT O (FE c.1 c.2.2 0 s.1)
   rw [ih,show (stC s c).1=FE c.1 c.2.2 0 s.1 from EM ..]
 exact key O _
theorem has_put {κ β:Type} [DecidableEq κ] {h:List (κ×β)} {k k':κ} {v:β} (e:k'=k\/∃ l,Ao h k'=some l):∃ l,Ao (BD h k v) k'=some l:=by
 rw [AF,ET]
 rcases e with e | e
 ·exact .inl e
 ·exact .inr (AF.mp e)
structure CX (B:Nat) (s:Sm):Prop where
 row:s.1.length<=B
 wd:s.2.1.length<=B
 gn:s.2.2.length<=B
 has:∀ m∈s.1,∃ l,Ao s.2.1 m=some l
theorem CX.step {B:Nat} {s:Sm} (h:CX B s) (nm:List Nat) (k:Nat) (d:Deed):CX (B+1) (stD nm k d s):=by
 unfold stD
 split
 ·refine ⟨?_,Nat.le_trans (Ej _ _ _) (Nat.succ_le_succ h.wd),Nat.le_succ_of_le h.gn,fun m hm=>?_⟩
  ·show (G3 _ _ _).length<=_
   rw [(De ..).length_eq,List.length_cons]; exact Nat.succ_le_succ h.row
  ·rcases List.mem_cons.mp ((De ..).mem_iff.mp hm) with q | q
   ·exact has_put (.inl q)
   ·exact has_put (.inr (h.has m q))
 ·split
  ·exact ⟨Nat.le_succ_of_le h.row,Nat.le_trans (Ej _ _ _) (Nat.succ_le_succ h.wd),Nat.le_succ_of_le h.gn,fun m hm=>has_put (.inr (h.has m hm))⟩
  ·exact ⟨Nat.le_succ_of_le h.row,Nat.le_succ_of_le h.wd,Nat.le_trans (Ej _ _ _) (Nat.succ_le_succ h.gn),h.has⟩
noncomputable abbrev E1 (l:List Nat):PyData:=.str (Tx l)
noncomputable abbrev oR (r:List Mk):O:=.list (r.map vm)
noncomputable abbrev oW (wd:List (Mk×List Nat)):O:=.dictP (AM mk2 E1 wd)
noncomputable abbrev oN (gn:List (Mk×Bool)):O:=.dictP (AM mk2 PyData.bool gn)
noncomputable abbrev Bz (s:Sm):Ab:=[oR s.1,oW s.2.1,oN s.2.2]
theorem fit_at {q:Mk->Bool} {nm:List Nat} {d:Deed} {D2:List Deed} (hd:AH d=true):∀ (D1:List Deed) (k:Nat) (r:List Mk),Gg q nm (D1++d::D2) k r->∀ m,d.mark=some m->m∈FE nm D1 k r
 | [],k,r,h,m,hm=>by
  have h:(if AH d then (∀ m,d.mark=some m->q m=true/\m∈r)/\Gg q nm D2 (k+1) (G3 d.mark (nm,(k:Int)) r) else Gg q nm D2 k r):=h
  rw [if_pos hd] at h
  exact (h.1 m hm).2
 | e::D1,k,r,h,m,hm=>by
  have h:(if AH e then (∀ m,e.mark=some m->q m=true/\m∈r)/\Gg q nm (D1++d::D2) (k+1) (G3 e.mark (nm,(k:Int)) r) else Gg q nm (D1++d::D2) k r):=h
  show m∈if AH e then FE nm D1 (k+1) (G3 e.mark (nm,(k:Int)) r) else FE nm D1 k r
  by_cases he:AH e=true
  ·rw [if_pos he] at h ⊢
   exact fit_at hd D1 _ _ h.2 m hm
  ·rw [if_neg he] at h ⊢
   exact fit_at hd D1 _ _ h m hm
theorem deed_cases {d:Deed} (h:C6 d):(AH d=true/\d.word=DB/\∃ l,d.text=some l)\/(AH d=false/\d.word=DV/\∃ m l,d.mark=some m/\d.text=some l)\/(AH d=false/\d.word=FQ/\∃ m,d.mark=some m):=by
 rcases h.shp with ⟨e,l,e2,_⟩ | ⟨e,m,l,e2,e3,_⟩ | ⟨e,m,e2⟩
 ·exact .inl ⟨decide_eq_true e,e,l,e2⟩
 ·exact .inr (.inl ⟨decide_eq_false (by rw [e]; exact kne1),e,m,l,e2,e3⟩)
 ·exact .inr (.inr ⟨decide_eq_false (by rw [e]; exact kne2),e,m,e2⟩)
theorem ins_at {m:Option Mk} {x:Mk} {row:List Mk} (hm:∀ k,m=some k->k∈row):∃ a:Nat,a<=row.length/\row.take a++x::row.drop a=G3 m x row/\(m=none->a=0)/\∀ k,m=some k->∃ j,a=j+1/\Fi (Ay (some k)) (row.map fun m=>Ay (some m))=some j:=by
 cases m with
 | none=>exact ⟨0,Nat.zero_le _,rfl,fun _=>rfl,fun k e=>Ac e⟩
 | some k =>
  obtain ⟨j,j1,j2,j3⟩:=idx_aft k x row (hm k rfl)
  exact ⟨j+1,j2,j3,fun e=>some_ne e,fun k' e=>Option.some.inj e▸⟨j,rfl,j1⟩⟩
end Mine
namespace Mine
open PySem
noncomputable def mBody:S:=match Fmodel.body with | .cons _ (.cons _ (.cons _ (.cons (.for_ _ _ b) _)))=>b | _=>.nil
noncomputable def mDeed:S:=match mBody with | .cons _ (.cons (.for_ _ _ b) _)=>b | _=>.nil
theorem e_idx {O:Orc} {ρ:Af} {σ:Ab} {i:Nat} {es:E} {k:Nat} {ys:List V} {v:V} (h1:B7 ρ i=some (.ref k)) (h2:(ev O es).row ρ σ=some ys) (h3:indexV σ (.ref k) ys=some v):(ev O (.meth .index (.var i) es)).v ρ σ=some v:=by
 show ((B7 ρ i).bind fun x=>((ev O es).row ρ σ).bind fun ys=>indexV σ x ys)=_
 rw [h1,bs,h2,bs]; exact h3
section
variable {C:Cfg} {o0:O} {a0 a1 a2 z9 z10 z11:Option V} {c:Ch} {d:Deed} {s:Sm} {own B:Nat}
theorem turn_mdeed (hd:C6 d) (hm:AH d=true->∀ m,d.mark=some m->m∈s.1) (hs:CX B s) (hB:B<=10000) :
 Ah C (fun fl σ'=>∃ ρ',fl=.next ρ'/\(∃ z10,ρ'=[a0,a1,a2,some (vc c),some (.ref 1),some (.ref 2),some (.ref 3),some (vi ((own+(if AH d then 1 else 0):Nat):Int)),some (.d d.data),z9,z10,z11])/\σ'=o0::Bz (stD c.1 own d s))
  mDeed [a0,a1,a2,some (vc c),some (.ref 1),some (.ref 2),some (.ref 3),some (vi own),some (.d d.data),z9,z10,z11] (o0::Bz s):=by
 obtain ⟨row,wd,gn⟩:=s
 have hx:∀ {ρ:Af} {σ:Ab},B7 ρ 8=some (.d d.data)->(ev C.O (.sub (.var 8) (.cst (.int 1)))).v ρ σ=some (.d (Ay d.mark)):=fun h=>Ag h rfl (Co d)
 have hw:∀ {ρ:Af} {σ:Ab} {s:String} {k:List Nat},Str.ofString s=Tx k->B7 ρ 8=some (.d d.data)->C.t (.cmp .Eq (.sub (.var 8) (.cst (.int 0))) (.cst (.str (Str.ofString s)))) ρ σ=some (decide (d.word=k)):=fun e h=>As (Ag h rfl (Cn d)) (congrArg (fun s=>some (V.d (.str s))) e) EB
 have htup:∀ {z10:Option V} {σ:Ab},(ev C.O (.tup (.cons (.sub (.var 3) (.cst (.int 0))) (.cons (.var 7) .nil)))).v [a0,a1,a2,some (vc c),some (.ref 1),some (.ref 2),some (.ref 3),some (vi own),some (.d d.data),z9,z10,z11] σ=some (vm (c.1,(own:Int))):=BN (Bb (Ag rfl rfl (Bm c)) rfl) rfl
 have hwl:wd.length < line:=Nat.lt_of_le_of_lt (Nat.le_trans hs.wd hB) (by decide)
 have hgl:gn.length < line:=Nat.lt_of_le_of_lt (Nat.le_trans hs.gn hB) (by decide)
 have hrl:row.length < line:=Nat.lt_of_le_of_lt (Nat.le_trans hs.row hB) (by decide)
 rcases deed_cases hd with ⟨ia,e1,l,e2⟩ | ⟨ia,e1,m,l,e2,e3⟩ | ⟨ia,e1,m,e2⟩
 ·refine go_yes (hw D7 rfl) (decide_eq_true e1) ?_
  refine Aw (v:=vi 0) rfl ?_
  obtain ⟨a,h1,h2,h3,h4⟩:=ins_at (x:=(c.1,(own:Int))) (hm ia)
  refine Cw (M:=fun ρ σ'=>ρ=[a0,a1,a2,some (vc c),some (.ref 1),some (.ref 2),some (.ref 3),some (vi own),some (.d d.data),z9,some (vi (a:Int)),z11]/\σ'=o0::Bz (row,wd,gn)) ?_ ?_
  ·refine A3 (t:=!d.mark.isNone) (As (hx rfl) rfl (Ff d.mark)) (fun e=>?_) fun e=>?_
   ·cases em:d.mark with
    | none=>rw [em] at e; cases e
    | some k =>
     obtain ⟨j,j1,j2⟩:=h4 k em
     refine Aw (v:=vi (a:Int)) ((Ai (e_idx (k:=1) rfl (Az (x:=vm k) ((hx rfl).trans (by rw [em]))) (idx_ref rfl j2)) rfl rfl).trans (by rw [j1]; rfl)) (Ad (Ad ⟨_,rfl,rfl,rfl⟩))
   ·have em:d.mark=none:=by
     cases em:d.mark with
     | none=>rfl
     | some k=>rw [em] at e; cases e
    rw [h3 em]; exact Ad (Ad ⟨_,rfl,rfl,rfl⟩)
  rintro _ _ ⟨rfl,rfl⟩
  refine go_insert (k:=1) (i:=(a:Int)) (y:=vm (c.1,(own:Int))) rfl (Bb rfl htup) rfl (by rw [List.length_map]; exact hrl) (Int.natCast_nonneg _) (by rw [List.length_map]; exact h1) ?_
  refine Dv (k:=2) (w:=mk2 (c.1,(own:Int))) (dd:=E1 l) (kvs:=AM mk2 E1 wd) (Ag rfl rfl (DI d e2)) rfl htup rfl (by rw [Bq]; exact hwl) ?_
  refine Aw (v:=vi ((own:Int)+1)) rfl (Ad (Ad ⟨_,rfl,⟨_,by rw [if_pos ia]; rfl⟩,?_⟩))
  unfold stD
  rw [if_pos ia,Bo E1 CH,e2]
  show [o0,O.list ((row.map vm).take (a:Int).toNat++vm (c.1,(own:Int))::(row.map vm).drop (a:Int).toNat),oW (BD wd (c.1,(own:Int)) l),oN gn]=_
  rw [Int.toNat_natCast,<-List.map_take,<-List.map_drop,<-List.map_cons (f:=vm),<-List.map_append,h2]; rfl
 ·refine A3 (hw D7 rfl) (fun e=>absurd (of_decide_eq_true e) (by rw [e1]; exact kne1)) fun _=>?_
  refine go_yes (hw Fe rfl) (decide_eq_true e1) ?_
  refine Dv (k:=2) (w:=mk2 m) (dd:=E1 l) (kvs:=AM mk2 E1 wd) (Ag rfl rfl (DI d e3)) rfl ((hx rfl).trans (by rw [e2]; rfl)) rfl (by rw [Bq]; exact hwl) (Ad (Ad (Ad ⟨_,rfl,⟨_,by rw [ia]; rfl⟩,?_⟩)))
  unfold stD
  rw [if_neg (by rw [ia]; decide),if_pos e1,Bo E1 CH,e2,e3]; rfl
 ·refine A3 (hw D7 rfl) (fun e=>absurd (of_decide_eq_true e) (by rw [e1]; exact kne2)) fun _=>?_
  refine A3 (hw Fe rfl) (fun e=>absurd (of_decide_eq_true e) (by rw [e1]; exact kne3)) fun _=>?_
  refine Dv (k:=3) (w:=mk2 m) (dd:=.bool true) (kvs:=AM mk2 PyData.bool gn) rfl rfl ((hx rfl).trans (by rw [e2]; rfl)) rfl (by rw [Bq]; exact hgl) (Ad (Ad (Ad ⟨_,rfl,⟨_,by rw [ia]; rfl⟩,?_⟩)))
  unfold stD
  rw [if_neg (by rw [ia]; decide),if_neg (by rw [e1]; exact kne3),Bo PyData.bool CH,e2]; rfl
end
end Mine
namespace Mine
open PySem
theorem F4 {α β γ:Type} {R:β->γ->Prop} {f:α->β} {g:α->γ}:∀ {l:List α},(∀ a∈l,R (f a) (g a))->Au R (l.map f) (l.map g)
 | [],_=>trivial
 | _::_,h=>⟨h _ (.head _),F4 fun b hb=>h b (.tail _ hb)⟩
theorem EF {α β γ:Type} (f:α->β) (g:α->γ):∀ l:List α,(l.map f).zip (l.map g)=l.map fun a=>(f a,g a)
 | []=>rfl
 | a::l=>congrArg ((f a,g a) :: ·) (EF f g l)
theorem data_inj {a b:Ch} (h:Ch.data a=Ch.data b):a.1=b.1:=by
 unfold Ch.data at h
 injection h with h
 injection h with h
 injection h with h
 exact Gd h
theorem data_nodup {cs:List Ch} (nd:(cs.map (·.1)).Nodup):(cs.map Ch.data).Nodup:=by
 rw [List.Nodup,List.pairwise_map] at nd ⊢
 exact nd.imp fun h e=>h (data_inj e)
theorem sort_name (cs:List Ch):C7 true AX ((cs.map fun c=>Tx c.1).zip (cs.map Ch.data))=(A7 cs).map Ch.data:=by
 rw [EF]
 show (A5 AX (cs.map fun c=>(Tx c.1,Ch.data c)).reverse).reverse.map (·.2)=(((A5 ltN (cs.map fun c=>(c.1,c)).reverse).reverse).map (·.2)).map Ch.data
 rw [show (cs.map fun c=>(Tx c.1,Ch.data c)).reverse=((cs.map fun c=>(c.1,c)).reverse).map fun p=>(Tx p.1,Ch.data p.2) by rw [<-List.map_reverse,<-List.map_reverse,List.map_map]; rfl,DK (lt:=ltN) (fun p=>(Tx p.1,Ch.data p.2)) (fun p q=>Tx_lt ..),<-List.map_reverse,List.map_map,List.map_map]
 rfl
theorem sort_hgt (cs:List Ch):C7 false intK.lt (((A7 cs).map fun c=>hgt cs c.1).zip ((A7 cs).map Ch.data))=(Aj cs).map Ch.data:=by
 rw [EF]
 show (A5 ltI ((A7 cs).map fun c=>(hgt cs c.1,Ch.data c))).map (·.2)=((A5 ltI ((A7 cs).map fun c=>(hgt cs c.1,c))).map (·.2)).map Ch.data
 rw [show ((A7 cs).map fun c=>(hgt cs c.1,Ch.data c))=((A7 cs).map fun c=>(hgt cs c.1,c)).map fun p=>(p.1,Ch.data p.2) by rw [List.map_map]; rfl,DK (lt:=ltI) (fun p:Int×Ch=>(p.1,Ch.data p.2)) (fun p q=>rfl),List.map_map,List.map_map]
 rfl
theorem hgt_get {cs:List Ch} {n:List Nat} (h:n∈cs.map (·.1)):Ao (hts [] cs) n=some (hgt cs n):=by
 obtain ⟨v,hv⟩:=AF.mpr (show n∈(hts [] cs).map (·.1) by rw [BF]; exact h)
 unfold hgt
 rw [hv]; rfl
noncomputable abbrev Pr:=Mk×List Nat
noncomputable def prD (x:Pr):PyData:=.tuple [Ay (some x.1),.str (Tx x.2)]
noncomputable def Ba (s:Sm):List Pr:=(s.1.filter fun m=>(Ao s.2.2 m).isNone).map fun m=>(m,(Ao s.2.1 m).getD [])
theorem CX.foldl {s:Sm} (nm:List Nat):∀ (ds:List Deed) {B:Nat},CX B s->CX (B+ds.length) (EN nm ds 0 s):=by
 have key:∀ (ds:List Deed) (k B:Nat) (s:Sm),CX B s->CX (B+ds.length) (EN nm ds k s):=by
  intro ds
  induction ds with
  | nil=>exact fun _ _ _ h=>h
  | cons d ds ih =>
   intro k B s h
   have:=ih (if AH d then k+1 else k) (B+1) _ (h.step nm k d)
   rw [Nat.add_assoc,Nat.add_comm 1] at this
   exact this
 exact fun ds {B} h=>key ds 0 B s h
theorem EI {s:Sm}:(Ba s).length<=s.1.length:=by
 unfold Ba
 rw [List.length_map]; exact List.length_filter_le _ _
theorem nl_told {C:Cfg} {ρ:Af} {σ:Ab} {iv iw ig k:Nat} {t:Nat} {s:Sm} {B:Nat} (hs:CX B s) (hB:B<=10000) (h1:B7 ρ iv=some (.ref k)) (hr:σ[k]? = some (oR s.1))
 (hin:∀ m,C.t (.cmp .NotIn (.var t) (.var ig)) ((ρ.set t none).set t (some (vm m))) σ=some (Ao s.2.2 m).isNone)
 (hel:∀ m l,Ao s.2.1 m=some l->C.v (.tup (.cons (.var t) (.cons (.sub (.var iw) (.var t)) .nil))) ((ρ.set t none).set t (some (vm m))) σ=some (.d (prD (m,l)))) :
 C.nl (.comp (.tup (.cons (.var t) (.cons (.sub (.var iw) (.var t)) .nil))) [t] (.var iv) (.cons (.cmp .NotIn (.var t) (.var ig)) .nil)) ρ σ=some ((Ba s).map fun x=>.d (prD x)):=by
 have hit:(ev C.O (.var iv)).it ρ σ=some (s.1.map vm,[(k,s.1.map vm)]):=by
  show (B7 ρ iv).bind (Dq σ)=_
  rw [h1]
  show (Cr σ[k]?).bind _=_
  rw [hr]; rfl
 rw [show C.nl _ _ _=_ from CP vm (fun m=>(Ao s.2.2 m).isNone) (fun m=>.d (prD (m,(Ao s.2.1 m).getD []))) hit (Nat.le_trans (Nat.le_trans hs.row hB) (by decide)) (fun m _=>e_ts1 (hin m)) (fun m hm _=>?_)]
 ·unfold Ba
  rw [List.map_map]; rfl
 ·obtain ⟨l,hl⟩:=hs.has m hm
  rw [hl]; exact hel m l hl
theorem nin_gn {σ:Ab} {k:Nat} {gn:List (Mk×Bool)} {m:Mk} (hk:σ[k]? = some (oN gn)):BB .NotIn (vm m) (.ref k) σ=some (Ao gn m).isNone:=by
 rw [c_nin,in_dP hk,AY PyData.bool CH]
 cases Ao gn m <;> rfl
theorem turn_mch {C:Cfg} {o0:O} {a0 a1 a2 z7 z8 z9 z10 z11:Option V} {c:Ch} {s:Sm} {B:Nat} (hg:GenCh c) (hf:Gg (fun _=>true) c.1 c.2.2 0 s.1) (hs:CX B s) (hB:B<=9900) :
 Ah C (fun fl σ'=>∃ ρ',fl=.next ρ'/\(∃ z7 z8 z10,ρ'=[a0,a1,a2,some (vc c),some (.ref 1),some (.ref 2),some (.ref 3),z7,z8,z9,z10,z11])/\σ'=o0::Bz (stC s c)) mBody [a0,a1,a2,some (vc c),some (.ref 1),some (.ref 2),some (.ref 3),z7,z8,z9,z10,z11] (o0::Bz s):=by
 show Ah C _ (.cons _ (.cons (.for_ [8] _ mDeed) _)) _ _
 refine Aw (v:=vi 0) rfl ?_
 refine AL (l:=c.2.2) (fun d=>.d d.data) (fun p ρ σ=>CX (B+p.length) (EN c.1 p 0 s)/\(∃ z8 z10,ρ=[a0,a1,a2,some (vc c),some (.ref 1),some (.ref 2),some (.ref 3),some (vi (adds p)),z8,z9,z10,z11])/\σ=o0::Bz (EN c.1 p 0 s)) (BA (Ag rfl rfl (BR c)) rfl) ⟨hs,⟨_,_,rfl⟩,rfl⟩ ?_ ?_
 ·rintro p d q ρ σ e ⟨h1,⟨z8,z10,rfl⟩,rfl⟩
  have hpl:p.length < 20:=by
   have h:=congrArg List.length e
   have:=hg.deeds
   rw [List.length_append,List.length_cons] at h; omega
  refine (turn_mdeed (B:=B+p.length) (own:=adds p) (hg.ok d (by rw [e]; simp)) (fun ia m hm=>?_) h1 (by omega)).mono fun fl σ' h=>?_
  ·rw [EM]; exact fit_at ia p 0 s.1 (e▸hf) m hm
  ·obtain ⟨ρ',e1,⟨z10,e2⟩,e3⟩:=h
   refine ⟨ρ',e1,?_,⟨_,z10,by rw [e2,CD]⟩,?_⟩
   ·rw [Da,List.length_append]; exact h1.step _ _ _
   ·rw [e3,Da,Nat.zero_add]
 ·rintro ρ σ ⟨h1,⟨z8,z10,rfl⟩,rfl⟩
  exact Ad ⟨_,rfl,⟨_,_,_,rfl⟩,rfl⟩
end Mine
namespace Mine
open PySem
theorem fit_ord {cs A B:List Ch} {c:Ch} (H:Bd cs) (e:Aj cs=A++c::B):Gg (fun _=>true) c.1 c.2.2 0 (GT A []):=ord_row H (Cm H.nd) e (fun _ _=>rfl) (fun _=>rfl)
theorem Ee {A:List Ch} (hg:∀ c∈A,GenCh c):CX (20 * A.length) (A0 A):=by
 have key:∀ (A:List Ch) (B:Nat) (s:Sm),(∀ c∈A,GenCh c)->CX B s->CX (B+20 * A.length) (A.foldl stC s):=by
  intro A
  induction A with
  | nil=>exact fun _ _ _ h=>h
  | cons c A ih =>
   intro B s hg h
   have h1:CX (B+c.2.2.length) (stC s c):=CX.foldl c.1 c.2.2 h
   have hd:=(hg c (.head _)).deeds
   have h2:CX (B+20) (stC s c):=⟨Nat.le_trans h1.row (by omega),Nat.le_trans h1.wd (by omega),Nat.le_trans h1.gn (by omega),h1.has⟩
   have:=ih (B+20) _ (fun x hx=>hg x (.tail _ hx)) h2
   rw [List.length_cons,Nat.mul_add,Nat.mul_one,Nat.add_comm (20 * A.length),<-Nat.add_assoc]
   exact this
 have:=key A 0 ([],[],[]) hg ⟨Nat.le_refl _,Nat.le_refl _,Nat.le_refl _,fun m h=>nomatch h⟩
 rw [Nat.zero_add] at this
 exact this
section
variable {n:Nat} {cs:List Ch} {ρ:Af} {σ:Ab}
theorem se_byname (hl:cs.length<=60) (nd:(cs.map (·.1)).Nodup) {i:Nat} {a:E} (ha:SE (n+1) a ρ σ (.d (.list (cs.map Ch.data))) σ) (hi:i < ρ.length):SE (n+1) (.sortk true a i (.sub (.var i) (.cst (.int 0)))) ρ σ (.d (.list ((A7 cs).map Ch.data))) σ:=by
 rw [<-sort_name]
 refine SE.frz (SL.sortk (K:=strK) (bs:=cs.map fun c=>Tx c.1) (xs:=cs.map Ch.data) ha rfl (data_nodup nd) (by rw [List.length_map]; omega) ?_)
 rw [List.map_map]
 refine F4 fun c hc=>(Ae (C0 n).ok _).v (Ag (x:=vc c) ?_ rfl (Bm c))
 show B7 (ρ.set i (some (vc c))) i=_
 unfold B7
 rw [List.getElem?_set_self hi]
theorem se_byhgt (hl:cs.length<=60) (nd:(cs.map (·.1)).Nodup) {i j k:Nat} {a:E} (ha:SE (n+1) a ρ σ (.d (.list ((A7 cs).map Ch.data))) σ) (hi:i < ρ.length) (hj:B7 ρ j=some (.ref k)) (hij:j≠i) (hk:σ[k]? = some (oT (hts [] cs))) :
 SE (n+1) (.sortk false a i (.sub (.var j) (.sub (.var i) (.cst (.int 0))))) ρ σ (.d (.list ((Aj cs).map Ch.data))) σ:=by
 have hp:=Eb cs
 have hk':Au (fun w b=>SE n (.sub (.var j) (.sub (.var i) (.cst (.int 0)))) (ρ.set i (some w)) σ (intK.kv b) σ) (((A7 cs).map Ch.data).map .d) ((A7 cs).map fun c=>hgt cs c.1):=by
  rw [List.map_map]
  refine F4 fun c hc=>(Ae (C0 n).ok _).v (Ag (x:=.ref k) (y:=vs c.1) ?_ (Ag (x:=vc c) ?_ rfl (Bm c)) (CV hk ?_))
  ·show B7 (ρ.set i (some (vc c))) j=_
   unfold B7 at hj ⊢
   rw [List.getElem?_set_ne (Ne.symm hij)]; exact hj
  ·show B7 (ρ.set i (some (vc c))) i=_
   unfold B7
   rw [List.getElem?_set_self hi]
  ·rw [AY PyData.int Cc,hgt_get (List.mem_map_of_mem (hp.mem_iff.mp hc))]; rfl
 have h:=SL.sortk (K:=intK) (rev:=false) ha rfl (data_nodup ((hp.map _).nodup_iff.mpr nd)) (by rw [List.length_map,hp.length_eq]; omega) hk'
 exact SE.frz ((congrArg (fun l:List PyData=>SL (n+1) (.sortk false a i (.sub (.var j) (.sub (.var i) (.cst (.int 0))))) ρ σ (l.map V.d) σ) (sort_hgt cs)).mp h)
end
noncomputable abbrev rowD' (s:Sm):PyData:=dms s.1
noncomputable abbrev CZ (s:Sm):PyData:=.list ((Ba s).map prD)
theorem go_swp {C:Cfg} {P:Fl->Ab->Prop} {r:S} {ρ:Af} {σ σ₁:Ab} {es:E} {xs:List Nat} {ws:List V} {v:V} (h:SE C.n (.tup es) ρ σ v σ₁) (hv:BL v=some ws) (hl:ws.length=xs.length) (k:Ah C P r (Db ρ xs ws) σ₁):Ah C P (.cons (.swp xs es) r) ρ σ :=
 Ca (fl:=.next (Db ρ xs ws)) (fun Q q=>.swp h hv hl q) k
theorem fn_model {cs:List Ch} (H:Bd cs) (hg:∀ c∈cs,GenCh c) (hl:cs.length<=60):∀ σ,FN 4 20 [.d (.list (cs.map Ch.data))] σ (.d (.tuple [rowD' (A0 (Aj cs)),CZ (A0 (Aj cs))])) σ:=by
 have hO:=Cm H.nd
 have hgo:∀ c∈Aj cs,GenCh c:=fun c hc=>hg c (hO.perm.mem_iff.mp hc)
 obtain ⟨v,σ',⟨k2,k3⟩,h⟩:=FN.ends (C:=C0 3) (f:=20) (fn:=Fmodel) (zs:=[.d (.list (cs.map Ch.data))]) (σ:=[]) (R:=fun v σ'=>v=.tup [.inr 1,.inl (CZ (A0 (Aj cs)))]/\σ'=oT (hts [] cs)::Bz (A0 (Aj cs))) (by unfold Pg; rfl) rfl (show 1<=3 by decide) (by
  show Ah _ _ (.cons _ (.cons _ (.cons _ (.cons (.for_ [3] _ mBody) _)))) [some (.d (.list (cs.map Ch.data))),none,none,none,none,none,none,none,none,none,none,none] []
  refine AB (v:=.ref 0) (σ':=[oT (hts [] cs)]) rfl (.fcall ((Ae (C0 3).ok _).row rfl) ((fn_heights cs (fun c hc=>(hg c hc).few) hl H.nd H.topo).more (by decide))) ?_
  refine AB rfl (se_byname (n:=2) hl H.nd ((Ae (C0 3).ok (.var 0)).v rfl) (show 3 < 12 by decide)) ?_
  refine go_swp (v:=.tup [.inr 1,.inr 2,.inr 3]) (σ₁:=oT (hts [] cs)::Bz ([],[],[])) (.tupR (.cons (SE.trk (.lst .nil (Nat.zero_le _))) (.cons .dctP (.cons .dctP .nil))) (show 3<=line by decide)) rfl rfl ?_
  let K:Option V->Option V->Option V->Option V->Af:=fun z3 z7 z8 z10=>[some (.d (.list (cs.map Ch.data))),some (.ref 0),some (.d (.list ((A7 cs).map Ch.data))),z3,some (.ref 1),some (.ref 2),some (.ref 3),z7,z8,none,z10,none]
  refine GD (l:=Aj cs) vc (fun p ρ σ=>(∃ z3 z7 z8 z10,ρ=K z3 z7 z8 z10)/\σ=oT (hts [] cs)::Bz (A0 p)) (SI.lst (se_byhgt (n:=2) (j:=1) (k:=0) hl H.nd ((Ae (C0 3).ok (.var 2)).v rfl) (show 9 < 12 by decide) rfl (by decide) rfl) (by show some (((Aj cs).map Ch.data).map V.d)=_; rw [List.map_map]; rfl)) ⟨⟨none,none,none,none,rfl⟩,rfl⟩ ?_ ?_
  ·rintro p c q ρ σ e ⟨⟨z3,z7,z8,z10,rfl⟩,rfl⟩
   have hpl:p.length < 60:=by
    have h1:=congrArg List.length e
    rw [hO.perm.length_eq,List.length_append,List.length_cons] at h1; omega
   refine (turn_mch (B:=20 * p.length) (hgo c (by rw [e]; simp)) (by rw [stAll_row]; exact fit_ord H e) (Ee fun x hx=>hgo x (by rw [e]; exact List.mem_append_left _ hx)) (by omega)).mono fun fl σ' h=>?_
   obtain ⟨ρ',e1,⟨z7,z8,z10,e2⟩,e3⟩:=h
   exact ⟨ρ',e1,⟨_,z7,z8,z10,e2⟩,by rw [e3,GQ]⟩
  ·rintro ρ σ ⟨⟨z3,z7,z8,z10,rfl⟩,rfl⟩
   have hs:=Ee hgo
   have hol:(Aj cs).length<=60:=by rw [hO.perm.length_eq]; exact hl
   have ht:=nl_told (C:=C0 3) (ρ:=K z3 z7 z8 z10) (σ:=oT (hts [] cs)::Bz (A0 (Aj cs))) (iv:=4) (iw:=5) (ig:=6) (k:=1) (t:=11) hs (by omega) rfl rfl (fun m=>As rfl rfl (nin_gn rfl)) (fun m l hl=>BN (Bb rfl (Ag rfl rfl (sub_dP rfl (by rw [AY E1 CH,hl]; rfl)))) rfl)
   refine A6 (v:=.tup [.inr 1,.inl (CZ (A0 (Aj cs)))]) (BN (Bb rfl (E8 (ds:=(Ba (A0 (Aj cs))).map prD) (ht.trans (by rw [List.map_map]; rfl)))) rfl) ⟨rfl,rfl⟩)
 rw [k2,k3] at h
 refine fun σ=>(FN.seal (σ:=[]) (τ:=oT (hts [] cs)::Bz (A0 (Aj cs))) (d:=.tuple [rowD' (A0 (Aj cs)),CZ (A0 (Aj cs))]) h ⟨_,rfl,⟨⟨_,rfl,Nat.zero_le _,?_⟩,rfl,trivial⟩⟩).any (all_cons (B9 _ _) AR)
 show some (oR _)=_
 rw [List.map_map]; rfl
end Mine
namespace Mine
open PySem
noncomputable abbrev nms (F:List Ch):List (List Nat):=F.map (·.1)
theorem sort_hgtN (cs:List Ch):C7 false intK.lt (((A7 cs).map fun c=>hgt cs c.1).zip ((A7 cs).map fun c=>PyData.str (Tx c.1)))=(Aj cs).map fun c=>PyData.str (Tx c.1):=by
 rw [EF]
 show (A5 ltI ((A7 cs).map fun c=>(hgt cs c.1,PyData.str (Tx c.1)))).map (·.2)=((A5 ltI ((A7 cs).map fun c=>(hgt cs c.1,c))).map (·.2)).map fun c=>PyData.str (Tx c.1)
 rw [show ((A7 cs).map fun c=>(hgt cs c.1,PyData.str (Tx c.1)))=((A7 cs).map fun c=>(hgt cs c.1,c)).map fun p=>(p.1,PyData.str (Tx p.2.1)) by rw [List.map_map]; rfl,DK (lt:=ltI) (fun p:Int×Ch=>(p.1,PyData.str (Tx p.2.1))) (fun p q=>rfl),List.map_map,List.map_map]
 rfl
theorem str_nodup {cs:List Ch} (nd:(cs.map (·.1)).Nodup):(cs.map fun c=>PyData.str (Tx c.1)).Nodup:=by
 rw [List.Nodup,List.pairwise_map] at nd ⊢
 exact nd.imp fun h e=>h (by injection e with e; exact Gd e)
theorem fn_ordered {F:List Ch} {σ:Ab} (hl:F.length<=60) (nd:(F.map (·.1)).Nodup) (hk:σ[2]? = some (oT (hts [] F))):FN 3 8 [.d (dl (nms F)),.ref 2] σ (.d (dl (nms (Aj F)))) σ:=by
 have hp:=Eb F
 obtain ⟨v,σ',⟨h1,h2⟩,h⟩:=FN.ends (C:=C0 2) (f:=8) (fn:=Fordered) (zs:=[.d (dl (nms F)),.ref 2]) (σ:=σ) (R:=fun v σ'=>v=.d (dl (nms (Aj F)))/\σ'=σ) (by unfold Pg; rfl) rfl (show 1<=2 by decide) (by
  show Ah _ _ _ [some (.d (dl (nms F))),some (.ref 2),none,none] σ
  have e1:vss ((A7 F).map fun c=>Tx c.1)=((A7 F).map fun c=>PyData.str (Tx c.1)).map V.d:=by
   show ((A7 F).map fun c=>Tx c.1).map _=_
   rw [List.map_map,List.map_map]; rfl
  have hs1:SL 2 (.sortr (.var 0)) [some (.d (dl (nms F))),some (.ref 2),none,none] σ (vss ((A7 F).map fun c=>Tx c.1)) σ:=by
   refine SL.sortr (ss:=F.map fun c=>Tx c.1) ((Ae (C0 2).ok (.var 0)).v rfl) ?_ (by rw [List.length_map]; omega) (hp.map _) ?_
   ·show some ((((F.map (·.1)).map fun t=>PyData.str (Tx t))).map V.d)=some ((F.map fun c=>Tx c.1).map _)
    rw [List.map_map,List.map_map,List.map_map]; rfl
   ·show (((A7 F).map fun c=>Tx c.1).reverse).Pairwise fun a b=>AX b a=false
    rw [List.pairwise_reverse,List.pairwise_map]
    exact (Fs nd).imp fun {a b} h=>by rw [Tx_lt]; exact decide_eq_false fun q=>List.lt_irrefl _ (List.lt_trans q h)
  rw [e1] at hs1
  refine AB (v:=.d (.list ((A7 F).map fun c:Ch=>PyData.str (Tx c.1)))) rfl (SE.frz (n:=2) (ds:=(A7 F).map fun c:Ch=>PyData.str (Tx c.1)) hs1) ?_
  have hk':Au (fun w b=>SE 1 (.sub (.var 1) (.var 3)) (([some (.d (dl (nms F))),some (.ref 2),some (.d (.list ((A7 F).map fun c=>PyData.str (Tx c.1)))),none]:Af).set 3 (some w)) σ (intK.kv b) σ) (((A7 F).map fun c=>PyData.str (Tx c.1)).map .d) ((A7 F).map fun c=>hgt F c.1):=by
   rw [List.map_map]
   refine F4 fun c hc=>(Ae (C0 1).ok _).v (Ag (x:=.ref 2) (y:=vs c.1) rfl rfl (CV hk ?_))
   rw [AY PyData.int Cc,hgt_get (List.mem_map_of_mem (hp.mem_iff.mp hc))]; rfl
  have h:=SL.sortk (n:=1) (K:=intK) (rev:=false) (a:=.var 2) ((Ae (C0 2).ok (.var 2)).v rfl) rfl (str_nodup ((hp.map _).nodup_iff.mpr nd)) (by rw [List.length_map,hp.length_eq]; omega) hk'
  refine Fk (v:=.d (dl (nms (Aj F)))) (SE.frz (ds:=(Aj F).map fun c=>PyData.str (Tx c.1)) ((congrArg (fun l:List PyData=>SL 2 (.sortk false (.var 2) 3 (.sub (.var 1) (.var 3))) _ σ (l.map V.d) σ) (sort_hgtN F)).mp h) |> fun q=>?_) ⟨rfl,rfl⟩
  show SE 2 _ _ _ (.d (.list ((nms (Aj F)).map fun t=>.str (Tx t)))) _
  rw [List.map_map]; exact q)
 rw [h1,h2] at h; exact h
noncomputable def gBody:S:=match D4.body with | .cons _ (.cons _ (.cons _ (.cons (.for_ _ _ b) _)))=>b | _=>.nil
noncomputable def gDeed:S:=match gBody with | .cons _ (.cons (.for_ _ _ b) _)=>b | _=>.nil
section
variable {C:Cfg} {F:List Ch} {gs:List (List Nat×List (List Nat))} {hs:List (List Nat×Int)} {z7 z8:Option V} {c:Ch} {d:Deed} {s:Sm} {own B:Nat}
noncomputable abbrev gK (c:Ch) (z5 z6 z7 z8:Option V):Af:=[some self,some (.ref 3),some (.ref 4),some (.ref 5),some (vs c.1),z5,z6,z7,z8]
theorem turn_gdeed (hd:C6 d) (hm:AH d=true->∀ m,d.mark=some m->m∈s.1) (hs':CX B s) (hB:B<=10000) :
 Ah C (fun fl σ'=>∃ ρ',fl=.next ρ'/\(∃ z7 z8,ρ'=gK c (some (vi ((own+(if AH d then 1 else 0):Nat):Int))) (some (.d d.data)) z7 z8)/\σ'=W F gs hs++Bz (stD c.1 own d s))
  gDeed (gK c (some (vi own)) (some (.d d.data)) z7 z8) (W F gs hs++Bz s):=by
 obtain ⟨row,wd,gn⟩:=s
 have hx:∀ {ρ:Af} {σ:Ab},B7 ρ 6=some (.d d.data)->(ev C.O (.sub (.var 6) (.cst (.int 1)))).v ρ σ=some (.d (Ay d.mark)):=fun h=>Ag h rfl (Co d)
 have hw:∀ {ρ:Af} {σ:Ab} {s:String} {k:List Nat},Str.ofString s=Tx k->B7 ρ 6=some (.d d.data)->C.t (.cmp .Eq (.sub (.var 6) (.cst (.int 0))) (.cst (.str (Str.ofString s)))) ρ σ=some (decide (d.word=k)):=fun e h=>As (Ag h rfl (Cn d)) (congrArg (fun s=>some (V.d (.str s))) e) EB
 have hwl:wd.length < line:=Nat.lt_of_le_of_lt (Nat.le_trans hs'.wd hB) (by decide)
 have hgl:gn.length < line:=Nat.lt_of_le_of_lt (Nat.le_trans hs'.gn hB) (by decide)
 have hrl:row.length < line:=Nat.lt_of_le_of_lt (Nat.le_trans hs'.row hB) (by decide)
 rcases deed_cases hd with ⟨ia,e1,l,e2⟩ | ⟨ia,e1,m,l,e2,e3⟩ | ⟨ia,e1,m,e2⟩
 ·refine go_yes (hw D7 rfl) (decide_eq_true e1) ?_
  refine Aw (v:=vm (c.1,(own:Int))) (BN (Bb rfl rfl) rfl) ?_
  refine Aw (v:=vi ((own:Int)+1)) rfl ?_
  refine Aw (v:=vi 0) rfl ?_
  obtain ⟨a,h1,h2,h3,h4⟩:=ins_at (x:=(c.1,(own:Int))) (hm ia)
  refine Cw (M:=fun ρ σ'=>ρ=gK c (some (vi ((own:Int)+1))) (some (.d d.data)) (some (vm (c.1,(own:Int)))) (some (vi (a:Int)))/\σ'=W F gs hs++Bz (row,wd,gn)) ?_ ?_
  ·refine A3 (t:=!d.mark.isNone) (As (hx rfl) rfl (Ff d.mark)) (fun e=>?_) fun e=>?_
   ·cases em:d.mark with
    | none=>rw [em] at e; cases e
    | some k =>
     obtain ⟨j,j1,j2⟩:=h4 k em
     exact Aw (v:=vi (a:Int)) ((Ai (e_idx (k:=3) rfl (Az (x:=vm k) ((hx rfl).trans (by rw [em]))) (idx_ref rfl j2)) rfl rfl).trans (by rw [j1]; rfl)) (Ad (Ad ⟨_,rfl,rfl,rfl⟩))
   ·have em:d.mark=none:=by
     cases em:d.mark with
     | none=>rfl
     | some k=>rw [em] at e; cases e
    rw [h3 em]; exact Ad (Ad ⟨_,rfl,rfl,rfl⟩)
  rintro _ _ ⟨rfl,rfl⟩
  refine go_insert (k:=3) (i:=(a:Int)) (y:=vm (c.1,(own:Int))) rfl (Bb rfl rfl) rfl (by rw [List.length_map]; exact hrl) (Int.natCast_nonneg _) (by rw [List.length_map]; exact h1) ?_
  refine Dv (k:=4) (w:=mk2 (c.1,(own:Int))) (dd:=E1 l) (kvs:=AM mk2 E1 wd) (Ag rfl rfl (DI d e2)) rfl rfl rfl (by rw [Bq]; exact hwl) (Ad (Ad ⟨_,rfl,⟨_,_,by rw [if_pos ia]; rfl⟩,?_⟩))
  unfold stD
  rw [if_pos ia,Bo E1 CH,e2]
  show W F gs hs++[O.list ((row.map vm).take (a:Int).toNat++vm (c.1,(own:Int))::(row.map vm).drop (a:Int).toNat),oW (BD wd (c.1,(own:Int)) l),oN gn]=_
  rw [Int.toNat_natCast,<-List.map_take,<-List.map_drop,<-List.map_cons (f:=vm),<-List.map_append,h2]; rfl
 ·refine A3 (hw D7 rfl) (fun e=>absurd (of_decide_eq_true e) (by rw [e1]; exact kne1)) fun _=>?_
  refine go_yes (hw Fe rfl) (decide_eq_true e1) ?_
  refine Dv (k:=4) (w:=mk2 m) (dd:=E1 l) (kvs:=AM mk2 E1 wd) (Ag rfl rfl (DI d e3)) rfl ((hx rfl).trans (by rw [e2]; rfl)) rfl (by rw [Bq]; exact hwl) (Ad (Ad (Ad ⟨_,rfl,⟨_,_,by rw [ia]; rfl⟩,?_⟩)))
  unfold stD
  rw [if_neg (by rw [ia]; decide),if_pos e1,Bo E1 CH,e2,e3]; rfl
 ·refine A3 (hw D7 rfl) (fun e=>absurd (of_decide_eq_true e) (by rw [e1]; exact kne2)) fun _=>?_
  refine A3 (hw Fe rfl) (fun e=>absurd (of_decide_eq_true e) (by rw [e1]; exact kne3)) fun _=>?_
  refine Dv (k:=5) (w:=mk2 m) (dd:=.bool true) (kvs:=AM mk2 PyData.bool gn) rfl rfl ((hx rfl).trans (by rw [e2]; rfl)) rfl (by rw [Bq]; exact hgl) (Ad (Ad (Ad ⟨_,rfl,⟨_,_,by rw [ia]; rfl⟩,?_⟩)))
  unfold stD
  rw [if_neg (by rw [ia]; decide),if_neg (by rw [e1]; exact kne3),Bo PyData.bool CH,e2]; rfl
end
end Mine
namespace Mine
open PySem
structure Wov (cs F:List Ch) (gs:List (List Nat×List (List Nat))):Prop where
 H:Bd cs
 gen:∀ c∈cs,GenCh c
 len:cs.length<=60
 perm:F.Perm cs
 w:WvOk F gs
theorem Wov.ord {cs F:List Ch} {gs:List (List Nat×List (List Nat))} (h:Wov cs F gs):Aj F=Aj cs:=ord_same h.H.nd h.perm h.H.topo h.w.topo
theorem keys_H {σ:Ab} {k:Nat} {F:List Ch} (hk:σ[k]? = some (oH F)) (hl:∀ n∈nms F,n.length<=12) (h:F.length<=60):Bx .list σ [.ref k]=some (.d (dl (nms F))):=by
 show (keysO σ[k]?).bind mkL=_
 rw [hk]
 show ((if (AM Tx Ch.data (hK F)).all (fun p=>decide (p.1.length<=line))=true then some (vss ((AM Tx Ch.data (hK F)).map (·.1))) else none).bind mkL)=_
 rw [if_pos,bs]
 ·have e:vss ((AM Tx Ch.data (hK F)).map (·.1))=((nms F).map fun t=>PyData.str (Tx t)).map V.d:=by
   show ((AM Tx Ch.data (hK F)).map (·.1)).map _=_
   unfold AM
   rw [List.map_map,List.map_map,List.map_map,List.map_map,List.map_map]; rfl
  rw [e]
  exact mkLT _ (by rw [List.length_map,List.length_map]; exact Nat.le_trans h (by decide))
 ·rw [List.all_eq_true]
  intro p hp
  obtain ⟨q,hq,rfl⟩:=List.mem_map.mp hp
  obtain ⟨c,hc,rfl⟩:=List.mem_map.mp hq
  refine decide_eq_true ?_
  show (Tx c.1).length<=line
  rw [Gc]; exact Nat.le_trans (hl c.1 (List.mem_map_of_mem hc)) (by decide)
section
variable {C:Cfg} {F:List Ch} {gs:List (List Nat×List (List Nat))} {hs:List (List Nat×Int)} {z5 z6 z7 z8:Option V} {c:Ch} {s:Sm} {B:Nat}
theorem turn_gch (nd:(F.map (·.1)).Nodup) (hc:c∈F) (hg:GenCh c) (hf:Gg (fun _=>true) c.1 c.2.2 0 s.1) (hs':CX B s) (hB:B<=9900) :
 Ah C (fun fl σ'=>∃ ρ',fl=.next ρ'/\(∃ z5 z6 z7 z8,ρ'=gK c z5 z6 z7 z8)/\σ'=W F gs hs++Bz (stC s c)) gBody (gK c z5 z6 z7 z8) (W F gs hs++Bz s):=by
 show Ah C _ (.cons _ (.cons (.for_ [6] _ gDeed) _)) _ _
 refine Aw (v:=vi 0) rfl ?_
 refine AL (l:=c.2.2) (fun d=>.d d.data) (fun p ρ σ=>CX (B+p.length) (EN c.1 p 0 s)/\(∃ z6 z7 z8,ρ=gK c (some (vi (adds p))) z6 z7 z8)/\σ=W F gs hs++Bz (EN c.1 p 0 s)) (BA (Ag (Ag (Ef rfl) rfl (CV (a:=c.1) (kvs:=AM Tx Ch.data (hK F)) rfl (by rw [AY Ch.data Cc,getH nd hc]; rfl))) rfl (BR c)) rfl) ⟨hs',⟨_,_,_,rfl⟩,rfl⟩ ?_ ?_
 ·rintro p d q ρ σ e ⟨h1,⟨z6,z7,z8,rfl⟩,rfl⟩
  have hpl:p.length < 20:=by
   have h:=congrArg List.length e
   have:=hg.deeds
   rw [List.length_append,List.length_cons] at h; omega
  refine (turn_gdeed (B:=B+p.length) (own:=adds p) (hg.ok d (by rw [e]; simp)) (fun ia m hm=>?_) h1 (by omega)).mono fun fl σ' h=>?_
  ·rw [EM]; exact fit_at ia p 0 s.1 (e▸hf) m hm
  ·obtain ⟨ρ',e1,⟨z7,z8,e2⟩,e3⟩:=h
   refine ⟨ρ',e1,?_,⟨_,z7,z8,by rw [e2,CD]⟩,?_⟩
   ·rw [Da,List.length_append]; exact h1.step _ _ _
   ·rw [e3,Da,Nat.zero_add]
 ·rintro ρ σ ⟨h1,⟨z6,z7,z8,rfl⟩,rfl⟩
  exact Ad ⟨_,rfl,⟨_,_,_,_,rfl⟩,rfl⟩
end
theorem fn_grown {cs F:List Ch} {gs:List (List Nat×List (List Nat))} (h:Wov cs F gs):FN 4 45 [self] (W F gs (hts [] F)) (.tup [.inr 3,.inr 4,.inr 5]) (W F gs (hts [] F)++Bz (A0 (Aj cs))):=by
 have hO:=Cm h.H.nd
 have hgo:∀ c∈Aj cs,GenCh c:=fun c hc=>h.gen c (hO.perm.mem_iff.mp hc)
 have hnm:∀ n∈nms F,n.length<=12:=fun n hn=>by
  obtain ⟨x,hx,rfl⟩:=List.mem_map.mp hn
  exact ((BS _).mp (h.w.gen x hx).name).2.1
 obtain ⟨v,σ',⟨k2,k3⟩,hf⟩:=FN.ends (C:=C0 3) (f:=45) (fn:=D4) (zs:=[self]) (σ:=W F gs (hts [] F)) (R:=fun v σ'=>v=.tup [.inr 3,.inr 4,.inr 5]/\σ'=W F gs (hts [] F)++Bz (A0 (Aj cs))) (by unfold Pg; rfl) rfl (show 1<=3 by decide) (by
  show Ah _ _ (.cons _ (.cons _ (.cons _ (.cons (.for_ [4] _ gBody) _)))) [some self,none,none,none,none,none,none,none,none] (W F gs (hts [] F))
  refine Bj (ws:=[]) rfl ?_
  refine go_asgP ?_
  refine go_asgP ?_
  let K:Option V->Option V->Option V->Option V->Option V->Af:=fun z4 z5 z6 z7 z8=>[some self,some (.ref 3),some (.ref 4),some (.ref 5),z4,z5,z6,z7,z8]
  show Ah _ _ _ (K none none none none none) (W F gs (hts [] F)++Bz ([],[],[]))
  refine GD (l:=Aj cs) (fun c=>vs c.1) (fun p ρ σ=>(∃ z4 z5 z6 z7 z8,ρ=K z4 z5 z6 z7 z8)/\σ=W F gs (hts [] F)++Bz (A0 p)) (SI.lst (.fcall ((Ae (C0 3).ok _).row (Bb (AN (Az (Ef rfl)) (keys_H rfl hnm h.w.len)) (Ga rfl))) (fn_ordered h.w.len h.w.nd rfl)) (by
   rw [h.ord]
   show some (((nms (Aj cs)).map fun t=>PyData.str (Tx t)).map V.d)=_
   rw [List.map_map,List.map_map]; rfl)) ⟨⟨_,_,_,_,_,rfl⟩,rfl⟩ ?_ ?_
  ·rintro p c q ρ σ e ⟨⟨z4,z5,z6,z7,z8,rfl⟩,rfl⟩
   have hpl:p.length < 60:=by
    have h1:=congrArg List.length e
    have:=h.len
    rw [hO.perm.length_eq,List.length_append,List.length_cons] at h1; omega
   have hc:c∈Aj cs:=by rw [e]; simp
   refine (turn_gch (B:=20 * p.length) h.w.nd (h.perm.mem_iff.mpr (hO.perm.mem_iff.mp hc)) (hgo c hc) (by rw [stAll_row]; exact fit_ord h.H e) (Ee fun x hx=>hgo x (by rw [e]; exact List.mem_append_left _ hx)) (by omega)).mono fun fl σ' h=>?_
   obtain ⟨ρ',e1,⟨z5,z6,z7,z8,e2⟩,e3⟩:=h
   exact ⟨ρ',e1,⟨_,z5,z6,z7,z8,e2⟩,by rw [e3,GQ]⟩
  ·rintro ρ σ ⟨⟨z4,z5,z6,z7,z8,rfl⟩,rfl⟩
   exact A6 (v:=.tup [.inr 3,.inr 4,.inr 5]) rfl ⟨rfl,rfl⟩)
 rw [k2,k3] at hf
 exact hf
end Mine
namespace Mine
open PySem
theorem isort_same {a b:List (List Nat)} (h:a.Perm b) (nd:a.Nodup):Al a=Al b:=Cq (fun x y p q=>List.lt_irrefl _ (List.lt_trans p q)) (BJ a nd) (BJ b (h.nodup_iff.mp nd)) ((A1 a).trans (h.trans (A1 b).symm))
section
variable {cs F:List Ch} {gs:List (List Nat×List (List Nat))}
theorem fn_row (h:Wov cs F gs):FN 5 46 [self] (W F gs (hts [] F)) (.ref 3) (W F gs (hts [] F)++Bz (A0 (Aj cs))):=by
 obtain ⟨v,σ',⟨k2,k3⟩,hf⟩:=FN.ends (C:=C0 4) (f:=46) (fn:=FWeave_row) (zs:=[self]) (σ:=W F gs (hts [] F)) (R:=fun v σ'=>v=.ref 3/\σ'=W F gs (hts [] F)++Bz (A0 (Aj cs))) (by unfold Pg; rfl) rfl (show 1<=4 by decide) (by
  show Ah _ _ _ [some self] (W F gs (hts [] F))
  exact Fk (v:=.ref 3) (.sub (.mcall (f:=45) AK (by unfold mtP; kernel_rfl) ((Ae (C0 4).ok (.var 0)).v rfl) .nil (fn_grown h)) ((Ae (C0 4).ok (.cst (.int 0))).v rfl) (F9 rfl)) ⟨rfl,rfl⟩)
 rw [k2,k3] at hf
 exact hf
theorem fn_told (h:Wov cs F gs):FN 5 47 [self] (W F gs (hts [] F)) (.ref 6) (W F gs (hts [] F)++(Bz (A0 (Aj cs))++[.list ((Ba (A0 (Aj cs))).map fun x=>.d (prD x))])):=by
 have hO:=Cm h.H.nd
 have hs:=Ee (A:=Aj cs) fun c hc=>h.gen c (hO.perm.mem_iff.mp hc)
 have hol:(Aj cs).length<=60:=by rw [hO.perm.length_eq]; exact h.len
 obtain ⟨v,σ',⟨k2,k3⟩,hf⟩:=FN.ends (C:=C0 4) (f:=47) (fn:=Gw) (zs:=[self]) (σ:=W F gs (hts [] F)) (R:=fun v σ'=>v=.ref 6/\σ'=W F gs (hts [] F)++(Bz (A0 (Aj cs))++[.list ((Ba (A0 (Aj cs))).map fun x=>.d (prD x))])) (by unfold Pg; rfl) rfl (show 1<=4 by decide) (by
  show Ah _ _ _ [some self,none,none,none,none] (W F gs (hts [] F))
  refine go_unp (.mcall (f:=45) AK (by unfold mtP; kernel_rfl) ((Ae (C0 4).ok (.var 0)).v rfl) .nil (fn_grown h)) (fun {K ex} hc ts k p env=>hc (fun ex=>swappedStores [.Tuple ts k p] ex env=pure none) (by intros; rfl)) (vs:=[.ref 3,.ref 4,.ref 5]) rfl rfl ?_
  exact go_retT (nl_told (C:=C0 4) (ρ:=[some self,some (.ref 3),some (.ref 4),some (.ref 5),none]) (σ:=W F gs (hts [] F)++Bz (A0 (Aj cs))) (iv:=1) (iw:=2) (ig:=3) (k:=3) (t:=4) hs (by omega) rfl rfl (fun m=>As rfl rfl (nin_gn rfl)) (fun m l hl=>BN (Bb rfl (Ag rfl rfl (sub_dP rfl (by rw [AY E1 CH,hl]; rfl)))) rfl)) ⟨rfl,rfl⟩)
 rw [k2,k3] at hf
 exact hf
theorem fn_told' (h:Wov cs F gs):FN 5 47 [self] (W F gs (hts [] F)) (.d (CZ (A0 (Aj cs)))) (W F gs (hts [] F)) :=
 FN.seal' (σ':=W F gs (hts [] F)) (fn_told h) rfl (Gk 3) ⟨_,rfl,(show 3<=6 by decide),by
  show some (O.list _)=_
  rw [List.map_map]; rfl⟩
theorem fn_names (h:Wov cs F gs):FN 2 40 [self] (W F gs (hts [] F)) (.ref 3) (W F gs (hts [] F)++[.list ((Al (nms cs)).map vs)]):=by
 have hnm:∀ n∈nms F,n.length<=12:=fun n hn=>by
  obtain ⟨x,hx,rfl⟩:=List.mem_map.mp hn
  exact ((BS _).mp (h.w.gen x hx).name).2.1
 have hlen:=h.w.len
 obtain ⟨v,σ',⟨k2,k3⟩,hf⟩:=FN.ends (C:=C0 1) (f:=40) (fn:=F7) (zs:=[self]) (σ:=W F gs (hts [] F)) (R:=fun v σ'=>v=.ref 3/\σ'=W F gs (hts [] F)++[.list ((Al (nms F)).map vs)]) (by unfold Pg; rfl) rfl (Nat.le_refl _) (by
  show Ah _ _ _ [some self] (W F gs (hts [] F))
  refine go_retT (ws:=(Al (nms F)).map vs) ?_ ⟨rfl,rfl⟩
  show (((ev (C0 1).O (.cons _ .nil)).row _ _).bind (bmake .sorted _)).bind _=_
  rw [Az (AN (Az (Ef rfl)) (keys_H rfl hnm h.w.len)),bs]
  show ((BY BC (((nms F).map fun t=>PyData.str (Tx t)).map V.d)).bind fun ss=>if ss.length < 64 then some (vss (CL ss)) else none).bind _=_
  rw [show ((nms F).map fun t=>PyData.str (Tx t)).map V.d=(nms F).map vs by rw [List.map_map]; rfl,mapV_vs,bs,if_pos (by rw [List.length_map,List.length_map]; omega),bs,E2]
  have e:vss ((Al (nms F)).map Tx)=(Al (nms F)).map vs:=by
   show ((Al (nms F)).map Tx).map _=_
   rw [List.map_map]; rfl
  rw [e,if_pos]
  rw [List.length_map,(A1 _).length_eq,List.length_map]
  exact Nat.le_trans hlen (by decide))
 rw [k2,k3,isort_same (h.perm.map _) h.w.nd] at hf
 exact hf
theorem fn_text (h:Wov cs F gs):FN 6 48 [self] (W F gs (hts [] F)) (.ref 3) (W F gs (hts [] F)++[.list ((Ba (A0 (Aj cs))).map fun x=>vs x.2)]):=by
 have hO:=Cm h.H.nd
 have hs:=Ee (A:=Aj cs) fun c hc=>h.gen c (hO.perm.mem_iff.mp hc)
 have hol:(Aj cs).length<=60:=by rw [hO.perm.length_eq]; exact h.len
 have ht:(Ba (A0 (Aj cs))).length<=line:=Nat.le_trans EI (Nat.le_trans hs.row (Nat.le_trans (show 20 * (Aj cs).length<=10000 by omega) (by decide)))
 obtain ⟨v,σ',⟨k2,k3⟩,hf⟩:=FN.ends (C:=C0 5) (f:=48) (fn:=Gx) (zs:=[self]) (σ:=W F gs (hts [] F)) (R:=fun v σ'=>v=.ref 3/\σ'=W F gs (hts [] F)++[.list ((Ba (A0 (Aj cs))).map fun x=>vs x.2)]) (by unfold Pg; rfl) rfl (show 1<=5 by decide) (by
  show Ah _ _ _ [some self,none] (W F gs (hts [] F))
  refine Fk (v:=.ref 3) (SE.trk (SL.comp (vs:=(Ba (A0 (Aj cs))).map fun x=>V.d (prD x)) (kps:=[]) (ws:=(Ba (A0 (Aj cs))).map fun x=>vs x.2) (SI.lst (.mcall (f:=47) AK (by unfold mtP; kernel_rfl) ((Ae (C0 5).ok (.var 0)).v rfl) .nil (fn_told' h)) (by
   show some (((Ba (A0 (Aj cs))).map prD).map V.d)=_
   rw [List.map_map]; rfl)) (Df (kps:=[]) (Ae (C0 5).ok _) (Ae (C0 5).ok _) (fun _ _ m=>nomatch m) ?_) (by rw [List.length_map]; exact ht))) ⟨rfl,rfl⟩
  rw [Eo (fun x:Pr=>V.d (prD x)) (fun x=>some (vs x.2)) _ (fun x _=>rfl),List.filterMap_eq_map'])
 rw [k2,k3] at hf
 exact hf
end
end Mine
namespace Mine
open PySem
noncomputable def CU (σ:Ab) (x:V) (ds:List PyData):Prop:=x=.d (.list ds)\/∃ k,x=.ref k/\σ[k]? = some (.list (ds.map .d))
section
variable {σ:Ab} {x:V} {ds:List PyData}
theorem CU.lst (h:CU σ x ds):Ax σ x=some (ds.map .d):=by
 rcases h with rfl | ⟨k,rfl,h⟩
 ·rfl
 ·show Cr σ[k]? = _
  rw [h]; rfl
theorem CU.snap (h:CU σ x ds):snap σ x=some (.list ds):=by
 rcases h with rfl | ⟨k,rfl,h⟩
 ·rfl
 ·show lstD (Cr σ[k]?)=_
  rw [h]
  show (Di (ds.map V.d)).bind _=_
  rw [CJ]; rfl
theorem CU.isi (h:CU σ x ds):Bx .isinstance σ [x,.ty "list"]=some (vb true):=by
 rcases h with rfl | ⟨k,rfl,h⟩
 ·rfl
 ·show ((tyOf σ (.ref k)).bind _).bind _=_
  rw [show tyOf σ (.ref k)=some "list" by show (Cr σ[k]?).bind _=_; rw [h]; rfl]
  rfl
theorem CU.len (h:CU σ x ds):Bx .len σ [x]=some (vi ds.length):=(len_of' h.lst).trans (by rw [List.length_map])
theorem CU.keep (h:CU σ x ds):BT σ (CA x (ds.map .d)):=Fc h.lst
theorem isi_str (l:List Nat):Bx .isinstance σ [vs l,.ty "str"]=some (vb true):=rfl
end
theorem eqn_pair (q:Str×Int):eqN AC (.tuple [.str q.1,.int q.2]) (.tuple [.str q.1,.int q.2])=some true:=by
 have:=eqn_mk 39 (q.1.cps.toList,q.2) (q.1.cps.toList,q.2)
 rw [decide_eq_true rfl] at this
 have e:Tx q.1.cps.toList=q.1:=Tx_eta q.1
 unfold Ay at this
 show eqN AC _ _=_
 rw [<-e]; exact this
theorem fn_marklike {σ:Ab} (q:Str×Int):FN 2 21 [vp q,vp q] σ (vb true) σ:=by
 obtain ⟨v,σ',⟨h1,h2⟩,h⟩:=FN.ends (C:=C0 1) (f:=21) (fn:=Fmark_like) (zs:=[vp q,vp q]) (σ:=σ) (R:=fun v σ'=>v=vb true/\σ'=σ) (by unfold Pg; rfl) rfl (Nat.le_refl _) (by
  show Ah _ _ _ [some (vp q),some (vp q)] σ
  refine B4 (e_or3 (p:=false) (q:=false) (s:=false) (BO (p:=true) (CS (Bb rfl rfl) rfl)) (fun _=>As (AN (Az rfl) rfl) rfl DQ) fun _ _=>BO (p:=true) (CS (Bb (x:=.d (.str q.1)) (Ag rfl rfl rfl) rfl) rfl)) rfl ?_
  refine B4 (CR (p:=false) (q:=false) (BO (p:=true) (CS (Bb (x:=vi q.2) (Ag rfl rfl rfl) rfl) rfl)) fun _=>CS (Bb (x:=vi q.2) (Ag rfl rfl rfl) rfl) rfl) rfl ?_
  exact A6 (EC (p:=true) rfl rfl (eqn_pair q)) ⟨rfl,rfl⟩)
 rw [h1,h2] at h; exact h
noncomputable def likeO (xs:List V):Option V:=match xs with | x::r=>(match r with | y::r=>(match r with | []=>(Ha x).bind fun p=>(Ha y).bind fun q=>if p=q then some (vb true) else none | _=>none) | []=>none) | []=>none
theorem likeO_ok {n:Nat} {σ:Ab} {xs:List V} {v:V} (hn:2<=n) (h:likeO xs=some v):FN n 21 xs σ v σ:=by
 match xs,h with
 | [],h=>exact Ac h
 | [_],h=>exact Ac h
 | [x,y],h =>
  obtain ⟨c,e1,h⟩:=Aa h
  obtain ⟨k,e2,h⟩:=Aa h
  obtain ⟨e3,h⟩:=AS h
  rw [DP e1,DP e2,<-h,<-e3]
  exact (fn_marklike c).more hn
 | _::_::_::_,h=>exact Ac h
theorem FP (m:Mk):likeO [vm m,vm m]=some (vb true):=by
 show (if mk2 m=mk2 m then some (vb true) else none)=_
 exact if_pos rfl
noncomputable def C5 (n:Nat) (hn:2<=n):Cfg:=(C0 n).add 21 (fun xs _=>likeO xs) fun _ _ _ h=>likeO_ok hn h
theorem zip_self {α:Type}:∀ l:List α,l.zip l=l.map fun a=>(a,a)
 | []=>rfl
 | a::l=>congrArg ((a,a) :: ·) (zip_self l)
theorem it_zipS {C:Cfg} {ρ:Af} {σ:Ab} {x:V} {α:Type} {l:List α} {d:α->PyData} (h1:B7 ρ 0=some x) (h2:B7 ρ 1=some (.d (.list (l.map d)))) (hx:CU σ x (l.map d)):C.it (.zip (.var 0) (.var 1)) ρ σ=some (l.map (fun a=>V.d (.tuple [d a,d a])),CA x ((l.map d).map .d)):=by
 show ((B7 ρ 0).bind fun x=>(B7 ρ 1).bind fun y=>(Ax σ x).bind fun ds=>(Ax σ y).bind fun ds'=>some (E0 ds ds',CA x ds++CA y ds'))=_
 rw [h1,bs,h2,bs,hx.lst,bs]
 show some (E0 ((l.map d).map V.d) ((l.map d).map V.d),_)=_
 rw [GK,zip_self,List.map_map]
 show some (_,CA x ((l.map d).map .d)++[])=_
 rw [List.append_nil]; rfl
theorem all_true {σ:Ab} {α:Type} (l:List α):Bx .all σ [.d (.list (l.map fun _=>PyData.bool true))]=some (vb true):=by
 show (BY D9 ((l.map fun _=>PyData.bool true).map V.d)).bind _=_
 have:BY D9 ((l.map fun _=>PyData.bool true).map V.d)=some (l.map fun _=>true):=by
  induction l with
  | nil=>rfl
  | cons a l ih=>show (BY D9 ((l.map fun _=>PyData.bool true).map V.d)).bind _=_; rw [ih]; rfl
 rw [this,bs]
 congr 2
 rw [List.all_eq_true.mpr fun x hx=>?_]
 obtain ⟨_,_,rfl⟩:=List.mem_map.mp hx; rfl
theorem fn_rowlike {σ:Ab} {x:V} (r:List Mk) (hx:CU σ x (r.map fun m=>Ay (some m))) (hl:r.length<=10000):FN 3 22 [x,.d (dms r)] σ (vb true) σ:=by
 have hl':r.length<=line:=Nat.le_trans hl (by decide)
 obtain ⟨v,σ',⟨h1,h2⟩,h⟩:=FN.ends (C:=C5 2 (Nat.le_refl _)) (f:=22) (fn:=Frow_like) (zs:=[x,.d (dms r)]) (σ:=σ) (R:=fun v σ'=>v=vb true/\σ'=σ) (by unfold Pg; rfl) rfl (show 1<=2 by decide) (by
  show Ah _ _ _ [some x,some (.d (dms r)),none,none] σ
  refine B4 (CR (p:=false) (q:=false) (BO (p:=true) (CS (Bb rfl rfl) hx.isi)) (fun _=>(As (AN (Az rfl) hx.len) (AN (Az rfl) Cs) DQ).trans (by rw [decide_eq_true rfl]; rfl))) rfl ?_
  have hit:=it_zipS (C:=C5 2 (Nat.le_refl _)) (ρ:=[some x,some (.d (dms r)),none,none]) rfl rfl hx
  refine A6 (AN (Az (x:=.d (.list (r.map fun _=>PyData.bool true))) ?_) (all_true r)) ⟨rfl,rfl⟩
  show (((ev (C5 2 (Nat.le_refl _)).O (.zip (.var 0) (.var 1))).it _ _).bind fun q=>D8 _ q.1).bind mkL=_
  rw [show (ev (C5 2 (Nat.le_refl _)).O (.zip (.var 0) (.var 1))).it _ _=_ from hit]
  show (D8 _ (r.map _)).bind mkL=_
  rw [Eo (fun m:Mk=>V.d (.tuple [Ay (some m),Ay (some m)])) (fun _=>some (vb true)) r (fun m _=>?_),bs,List.filterMap_eq_map']
  ·rw [show (r.map fun _=>vb true)=(r.map fun _=>PyData.bool true).map V.d by rw [List.map_map]; rfl]
   exact mkLT _ (by rw [List.length_map]; exact hl')
  ·show ((ev (C5 2 (Nat.le_refl _)).O (.fcall 21 (.cons (.var 2) (.cons (.var 3) .nil)))).v [some x,some (.d (dms r)),some (vm m),some (vm m)] σ).bind _=_
   rw [FU (Bb rfl rfl) (FP m)]; rfl)
 rw [h1,h2] at h; exact h
theorem fn_toldlike {σ:Ab} {x:V} (r:List Pr) (hx:CU σ x (r.map prD)) (hl:r.length<=10000):FN 3 23 [x,.d (.list (r.map prD))] σ (vb true) σ:=by
 have hl':r.length<=line:=Nat.le_trans hl (by decide)
 obtain ⟨v,σ',⟨h1,h2⟩,h⟩:=FN.ends (C:=C5 2 (Nat.le_refl _)) (f:=23) (fn:=Ftold_like) (zs:=[x,.d (.list (r.map prD))]) (σ:=σ) (R:=fun v σ'=>v=vb true/\σ'=σ) (by unfold Pg; rfl) rfl (show 1<=2 by decide) (by
  show Ah _ _ _ [some x,some (.d (.list (r.map prD))),none,none] σ
  refine B4 (CR (p:=false) (q:=false) (BO (p:=true) (CS (Bb rfl rfl) hx.isi)) (fun _=>(As (AN (Az rfl) hx.len) (AN (Az rfl) Cs) DQ).trans (by rw [decide_eq_true rfl]; rfl))) rfl ?_
  have hit:=it_zipS (C:=C5 2 (Nat.le_refl _)) (ρ:=[some x,some (.d (.list (r.map prD))),none,none]) rfl rfl hx
  refine DY (l:=r) (fun a=>V.d (.tuple [prD a,prD a])) (fun _ ρ σ'=>(∃ z2 z3,ρ=[some x,some (.d (.list (r.map prD))),z2,z3])/\σ=σ') hit (fun _ _ _ h=>h.2▸hx.keep) (fun _ _=>.inr ⟨_,rfl,rfl⟩) ⟨⟨none,none,rfl⟩,rfl⟩ ?_ ?_
  ·rintro p a q ρ _ hp ⟨⟨z2,z3,rfl⟩,rfl⟩
   show Ah _ _ _ [some x,some (.d (.list (r.map prD))),some (.d (prD a)),some (.d (prD a))] σ
   refine B4 (e_or3 (p:=false) (q:=false) (s:=false) (BO (p:=true) (CS (Bb rfl rfl) rfl)) (fun _=>As (AN (Az rfl) rfl) rfl DQ) fun _ _=>BO (p:=true) (CS (Bb (x:=vs a.2) (Ag rfl rfl rfl) rfl) rfl)) rfl ?_
   refine B4 (CR (p:=false) (q:=false) (BO (p:=true) (Gp (Bb (x:=vm a.1) (y:=vm a.1) (Ag rfl rfl rfl) (Ag rfl rfl rfl)) (FP a.1))) fun _=>(As (x:=vs a.2) (y:=vs a.2) (Ag rfl rfl rfl) (Ag rfl rfl rfl) FI).trans (by rw [decide_eq_true rfl]; rfl)) rfl (Ad ⟨_,rfl,⟨_,_,rfl⟩,rfl⟩)
  ·rintro ρ _ ⟨⟨z2,z3,rfl⟩,rfl⟩
   exact A6 (v:=vb true) rfl ⟨rfl,rfl⟩)
 rw [h1,h2] at h; exact h
theorem Dx {σ:Ab} {x:V} (r:List (List Nat)) (hx:CU σ x (r.map fun t=>.str (Tx t))) (hl:r.length<=10000):FN 2 24 [x,.d (dl r)] σ (vb true) σ:=by
 have hl':r.length<=line:=Nat.le_trans hl (by decide)
 obtain ⟨v,σ',⟨h1,h2⟩,h⟩:=FN.ends (C:=C0 1) (f:=24) (fn:=Gs) (zs:=[x,.d (dl r)]) (σ:=σ) (R:=fun v σ'=>v=vb true/\σ'=σ) (by unfold Pg; rfl) rfl (Nat.le_refl _) (by
  show Ah _ _ _ [some x,some (.d (dl r)),none] σ
  refine B4 (CR (p:=false) (q:=false) (BO (p:=true) (CS (Bb rfl rfl) hx.isi)) (fun _=>(As (AN (Az rfl) hx.len) (AN (Az rfl) Cs) DQ).trans (by rw [decide_eq_true rfl]; rfl))) rfl ?_
  refine A6 (e_and2v (p:=true) (q:=true) (AN (Az (x:=.d (.list (r.map fun _=>PyData.bool true))) ?_) (all_true r)) fun _=>EC rfl rfl ?_) ⟨rfl,rfl⟩
  ·have hit:(ev (C0 1).O (.var 0)).it [some x,some (.d (dl r)),none] σ=some (r.map vs,CA x ((r.map fun t=>PyData.str (Tx t)).map .d)):=by
    show Dq σ x=_
    have e:Dq σ x=(Ax σ x).bind fun ws=>some (ws,CA x ws):=by rcases hx with rfl | ⟨k,rfl,_⟩ <;> rfl
    rw [e,hx.lst,bs,List.map_map]; rfl
   refine E8 ?_
   rw [CP (t:=2) vs (fun _=>true) (fun _=>vb true) hit hl' (fun _ _=>rfl) (fun a _ _=>AN (Bb rfl rfl) (isi_str a)),BM,List.map_map]; rfl
  ·show (snap σ x).bind (fun d=>(snap σ (.d (dl r))).bind fun d'=>eqN AC d d')=_
   rw [hx.snap,bs]
   obtain ⟨q,q1,q2⟩:=eqt_list (eqt_str 39) r r
   exact (show eqN AC (dl r) (dl r)=some q from q1).trans (by rw [q2 rfl]))
 rw [h1,h2] at h; exact h
end Mine
namespace Mine
open PySem
theorem set_W {F:List Ch} {gs:List (List Nat×List (List Nat))} {hs:List (List Nat×Int)} {τ:Ab} {k:Nat} {o:O}:(W F gs hs++τ).set (k+3) o=W F gs hs++τ.set k o:=rfl
section
variable {cs F:List Ch} {gs:List (List Nat×List (List Nat))}
theorem fn_onestands (h:Wov cs F gs) (a:Int):FN 7 25 [self,.d (dms (A0 (Aj cs)).1),.d (CZ (A0 (Aj cs))),.d (dl (Al (nms cs))),vi a] (W F gs (hts [] F)) (vb true) (W F gs (hts [] F)):=by
 have hO:=Cm h.H.nd
 have hs:=Ee (A:=Aj cs) fun c hc=>h.gen c (hO.perm.mem_iff.mp hc)
 have hol:(Aj cs).length<=60:=by rw [hO.perm.length_eq]; exact h.len
 have hr:(A0 (Aj cs)).1.length<=10000:=Nat.le_trans hs.row (by omega)
 have ht:(Ba (A0 (Aj cs))).length<=10000:=Nat.le_trans EI hr
 have hn:(Al (nms cs)).length<=10000:=by rw [(A1 _).length_eq,List.length_map]; exact Nat.le_trans h.len (by decide)
 obtain ⟨v,σ',⟨k2,τ,k3⟩,hf⟩:=FN.ends (C:=C0 6) (f:=25) (fn:=Gu) (zs:=[self,.d (dms (A0 (Aj cs)).1),.d (CZ (A0 (Aj cs))),.d (dl (Al (nms cs))),vi a]) (σ:=W F gs (hts [] F)) (R:=fun v σ'=>v=vb true/\∃ τ,σ'=W F gs (hts [] F)++τ) (by unfold Pg; rfl) rfl (show 1<=6 by decide) (by
  let K:Option V->Option V->Option V->Af:=fun z5 z6 z7=>[some self,some (.d (dms (A0 (Aj cs)).1)),some (.d (CZ (A0 (Aj cs)))),some (.d (dl (Al (nms cs)))),some (vi a),z5,z6,z7]
  show Ah _ _ _ (K none none none) (W F gs (hts [] F))
  refine Cw (M:=fun ρ σ'=>∃ k τ ws,ρ=K (some (.ref (k+3))) (some (vb true)) none/\(W F gs (hts [] F)++τ)[k+3]? = some (.list ws)/\W F gs (hts [] F)++τ=σ') ?_ ?_
  ·refine A3 (As rfl rfl B5) (fun _=>?_) fun _=>?_
   ·refine AB (v:=.ref 3) rfl (.mcall (f:=46) AK (by unfold mtP; kernel_rfl) ((Ae (C0 6).ok (.var 0)).v rfl) .nil ((fn_row h).more (by decide))) ?_
    refine AB (v:=vb true) rfl (.fcall ((Ae (C0 6).ok _).row rfl) ((fn_rowlike (A0 (Aj cs)).1 (.inr ⟨3,rfl,?_⟩) hr).more (by decide))) (Ad (Ad ⟨_,rfl,0,_,_,rfl,rfl,rfl⟩))
    show some (oR _)=_
    rw [List.map_map]; rfl
   refine A3 (As rfl rfl B5) (fun _=>?_) fun _=>?_
   ·refine AB (v:=.ref 6) rfl (.mcall (f:=47) AK (by unfold mtP; kernel_rfl) ((Ae (C0 6).ok (.var 0)).v rfl) .nil ((fn_told h).more (by decide))) ?_
    refine AB (v:=vb true) rfl (.fcall ((Ae (C0 6).ok _).row rfl) ((fn_toldlike (Ba (A0 (Aj cs))) (.inr ⟨6,rfl,?_⟩) ht).more (by decide))) (Ad (Ad (Ad ⟨_,rfl,3,_,_,rfl,rfl,rfl⟩)))
    show some (O.list _)=_
    rw [List.map_map]; rfl
   refine A3 (As rfl rfl B5) (fun _=>?_) fun _=>?_
   ·refine AB (v:=.ref 3) rfl (.mcall (f:=40) AK (by unfold mtP; kernel_rfl) ((Ae (C0 6).ok (.var 0)).v rfl) .nil ((fn_names h).more (by decide))) ?_
    refine AB (v:=vb true) rfl (.fcall ((Ae (C0 6).ok _).row rfl) ((Dx (Al (nms cs)) (.inr ⟨3,rfl,?_⟩) hn).more (by decide))) (Ad (Ad (Ad (Ad ⟨_,rfl,0,_,_,rfl,rfl,rfl⟩))))
    show some (O.list _)=_
    rw [List.map_map]; rfl
   ·refine AB (v:=.ref 3) rfl (.mcall (f:=48) AK (by unfold mtP; kernel_rfl) ((Ae (C0 6).ok (.var 0)).v rfl) .nil ((fn_text h).more (by decide))) ?_
    refine AB (v:=vb true) rfl (.fcall ((Ae (C0 6).ok _).row (Bb (x:=.ref 3) (y:=.d (dl ((Ba (A0 (Aj cs))).map (·.2)))) rfl ?_)) ((Dx ((Ba (A0 (Aj cs))).map (·.2)) (.inr ⟨3,rfl,?_⟩) (by rw [List.length_map]; exact ht)).more (by decide))) (Ad (Ad (Ad (Ad ⟨_,rfl,0,_,_,rfl,rfl,rfl⟩))))
    ·rw [CC (l:=Ba (A0 (Aj cs))) prD (fun _=>true) (fun x=>.str (Tx x.2)) (BA rfl rfl) (Nat.le_trans ht (by decide)) (fun _ _=>rfl) (fun x _ _=>Ag rfl rfl rfl),BM]
     show some (V.d (.list _))=some (V.d (.list (((Ba (A0 (Aj cs))).map (·.2)).map fun t=>.str (Tx t))))
     rw [List.map_map]; rfl
    ·show some (O.list _)=_
     rw [List.map_map,List.map_map]; rfl
  ·rintro ρ _ ⟨k,τ,ws,rfl,hk,rfl⟩
   exact go_if (t:=true) rfl (go_clear (k:=k+3) rfl hk (Ad (A6 (v:=vb true) rfl ⟨rfl,τ.set k (.list []),set_W⟩))))
 rw [k2,k3] at hf
 exact FN.seal (d:=.bool true) hf rfl
end
end Mine
namespace Mine
open PySem
noncomputable def Cfg.know (C:Cfg) (f:Nat) (v:V) (P:List V->Ab->Prop) (h:∀ xs σ,P xs σ->FN C.n f xs σ v σ):Cfg:=C.add f (fun xs σ=>@ite _ (P xs σ) (Classical.propDecidable _) (some v) none) fun xs σ u e=>by
 obtain ⟨q,e⟩:=@AS _ _ _ _ (Classical.propDecidable _) e
 rw [<-e]; exact h xs σ q
theorem GC {C:Cfg} {f:Nat} {v:V} {P:List V->Ab->Prop} {hk:∀ xs σ,P xs σ->FN C.n f xs σ v σ} {xs:List V} {σ:Ab} (h:P xs σ):(C.know f v P hk).O f xs σ=some v:=by
 show (bif Nat.beq f f then @ite _ (P xs σ) (Classical.propDecidable _) (some v) none else C.O f xs σ)=_
 rw [Nat.beq_refl f]
 exact @if_pos _ (Classical.propDecidable _) h _ _ _
section
variable {cs F:List Ch} {gs:List (List Nat×List (List Nat))}
theorem fn_stands (h:Wov cs F gs):FN 8 26 [self,.d (.list (cs.map Ch.data))] (W F gs (hts [] F)) (vb true) (W F gs (hts [] F)):=by
 let C:Cfg:=(C0 7).know 25 (vb true) (fun xs σ=>(∃ a,xs=[self,.d (dms (A0 (Aj cs)).1),.d (CZ (A0 (Aj cs))),.d (dl (Al (nms cs))),vi a])/\σ=W F gs (hts [] F)) (by rintro _ _ ⟨⟨a,rfl⟩,rfl⟩; exact fn_onestands h a)
 obtain ⟨v,σ',⟨k2,k3⟩,hf⟩:=FN.ends (C:=C) (f:=26) (fn:=Fstands) (zs:=[self,.d (.list (cs.map Ch.data))]) (σ:=W F gs (hts [] F)) (R:=fun v σ'=>v=vb true/\σ'=W F gs (hts [] F)) (by unfold Pg; rfl) rfl (show 1<=7 by decide) (by
  show Ah _ _ _ [some self,some (.d (.list (cs.map Ch.data))),none,none,none,none,none,none] (W F gs (hts [] F))
  refine go_unp (.fcall ((Ae C.ok _).row rfl) ((fn_model h.H h.gen h.len _).more (show 4<=7 by decide))) (fun {K ex} hc ts k p env=>hc (fun ex=>swappedStores [.Tuple ts k p] ex env=pure none) (by intros; rfl)) (vs:=[.d (dms (A0 (Aj cs)).1),.d (CZ (A0 (Aj cs)))]) rfl rfl ?_
  let K:Option V->Option V->Option V->Af:=fun z4 z6 z7=>[some self,some (.d (.list (cs.map Ch.data))),some (.d (dms (A0 (Aj cs)).1)),some (.d (CZ (A0 (Aj cs)))),z4,none,z6,z7]
  show Ah _ _ _ (K none none none) _
  have hc:(ev C.O (.comp (.sub (.var 5) (.cst (.int 0))) [5] (.var 1) .nil)).v (K none none none) (W F gs (hts [] F))=some (.d (dl (nms cs))):=by
   rw [CC (l:=cs) Ch.data (fun _=>true) (fun c=>.str (Tx c.1)) (BA rfl rfl) (Nat.le_trans h.len (by decide)) (fun _ _=>rfl) (fun c _ _=>Ag rfl rfl (Bm c)),BM]
   show some (V.d (.list _))=some (V.d (.list ((nms cs).map fun t=>.str (Tx t))))
   rw [List.map_map]; rfl
  refine Aw (v:=.d (dl (Al (nms cs)))) (AN (Az hc) (EO (by show some (((nms cs).map fun t=>PyData.str (Tx t)).map V.d)=_; rw [List.map_map]; rfl) (by rw [List.length_map]; have:=h.len; omega))) ?_
  refine AL (l:=List.range 5) (fun j:Nat=>vi (j:Int)) (fun _ ρ σ=>(∃ z6 z7,ρ=K (some (.d (dl (Al (nms cs))))) z6 z7)/\W F gs (hts [] F)=σ) (itr (m:=5) rfl (by decide) (by decide)) ⟨⟨_,_,rfl⟩,rfl⟩ ?_ ?_
  ·rintro p j q ρ _ e ⟨⟨z6,z7,rfl⟩,rfl⟩
   have hj:j < 5:=List.mem_range.mp (by rw [e]; simp)
   refine Aw (Ai (Ai (Ai rfl (Ai rfl (Ai (Ai (AN (Az rfl) Cs) rfl (AD (by decide))) rfl (Fw (smr (by decide) (by decide)))) rfl) (Fw (by rw [small_of (by omega) (by omega)]; rfl))) (AN (Az rfl) Cs) rfl) rfl (AD (by decide))) ?_
   exact go_if (t:=false) (BO (p:=true) (Gp (xs:=[self,.d (dms (A0 (Aj cs)).1),.d (CZ (A0 (Aj cs))),.d (dl (Al (nms cs))),vi _]) rfl (GC (C:=C0 7) ⟨⟨_,rfl⟩,rfl⟩))) (Ad (Ad ⟨_,rfl,⟨_,_,rfl⟩,rfl⟩))
  ·rintro ρ _ ⟨⟨z6,z7,rfl⟩,rfl⟩
   exact A6 (v:=vb true) rfl ⟨rfl,rfl⟩)
 rw [k2,k3] at hf
 exact hf
end
end Mine
namespace Mine
open PySem
theorem go_forT {C:Cfg} {P:Fl->Ab->Prop} {r body:S} {ρ:Af} {σ σ₁:Ab} {it:E} {ts:List Nat} {α:Type} {l:List α} (w:α->V) (J:List α->Af->Ab->Prop) (hit:SI C.n it ρ σ (l.map w) [] σ₁) (hb:∀ a,a∈l->Ec ts (w a)) (hJ:J [] ρ σ₁)
 (hf:∀ p a q ρ σ,l=p++a::q->J p ρ σ->Ah C (fun fl σ'=>∃ ρ',fl=.next ρ'/\J (p++[a]) ρ' σ') body (Cb ρ ts (w a)) σ) (k:∀ ρ' σ',J l ρ' σ'->Ah C P r ρ' σ'):Ah C P (.cons (.for_ ts it body) r) ρ σ:=by
 obtain ⟨ρe,σe,h1,h2⟩:=turns (C:=C) (body:=body) (ts:=ts) (kps:=[]) w J l [] ρ σ₁ (fun _ _ _ _ _ _ m=>nomatch m) hb hJ hf
 exact Ca (fl:=.next ρe) (fun Q q=>.for_ hit (h2 Q q)) (k ρe σe h1)
theorem e_nlst {O:Orc} {ρ:Af} {σ:Ab} {es:E} {ws:List V} (h:(ev O es).row ρ σ=some ws) (hl:ws.length<=line):(ev O (.lst es)).nl ρ σ=some ws:=by
 show ((ev O es).row ρ σ).bind (fun ws=>if ws.length<=line then some ws else none)=_
 rw [h,bs,if_pos hl]
theorem e_nlb {O:Orc} {ρ:Af} {σ:Ab} {es:E} {b:Bi} {xs ws:List V} (h:(ev O es).row ρ σ=some xs) (h2:bmake b σ xs=some ws) (hl:ws.length<=line):(ev O (.bi b es)).nl ρ σ=some ws:=by
 show (((ev O es).row ρ σ).bind (bmake b σ)).bind (fun ws=>if ws.length<=line then some ws else none)=_
 rw [h,bs,h2,bs,if_pos hl]
structure Gq (d:Deed):Prop where
 ok:C6 d
 no:AH d=false
 mrk:∃ i:Int,0<=i/\i < 3/\d.mark=some ([48],i)
theorem k_0:Str.ofString "0" = Tx [48]:=k_zero
theorem fn_setmore (c:Ch) (cell:Int) (hl:c.2.1.length<=58) (hd:c.2.2.length<=20):∃ ds,(∀ d∈ds,Gq d)/\(c.2.2++ds).length<=20/\∀ σ,FN 3 29 [vc c,vi cell] σ (vc (c.1,Al (c.2.1++[[48]]),c.2.2++ds)) σ:=by
 let C:=C2 2 (Nat.le_refl _)
 obtain ⟨v,σ',⟨ds,k0,k1,k2,k3⟩,h⟩:=FN.ends (C:=C) (f:=29) (fn:=Fset_more) (zs:=[vc c,vi cell]) (σ:=[]) (R:=fun v σ'=>∃ ds,(∀ d∈ds,Gq d)/\(c.2.2++ds).length<=20/\v=.tup [.inl (.str (Tx c.1)),.inl (dl (Al (c.2.1++[[48]]))),.inr 0]/\σ'=[.list ((c.2.2++ds).map fun d=>.d d.data)]) (by unfold Pg; rfl) rfl (show 1<=2 by decide) (by
  let K:Option V->Option V->Option V->Af:=fun z2 z3 z4=>[some (vc c),some (vi cell),z2,z3,z4]
  show Ah C _ _ (K none none none) []
  refine Bj (ws:=c.2.2.map fun d=>.d d.data) (e_nlb (Az (Ag rfl rfl (BR c))) (by show some ((c.2.2.map Deed.data).map V.d)=_; rw [List.map_map]; rfl) (by rw [List.length_map]; exact Nat.le_trans hd (by decide))) ?_
  have hk:=AG cell (j:=4) (by decide)
  let J:List Deed->Ab:=fun ds=>[.list ((c.2.2++ds).map fun d=>.d d.data)]
  have fin:∀ (ds:List Deed) (d:Deed) (hds:∀ d∈ds,Gq d) (h:Gq d),∀ x∈ds++[d],Gq x:=fun ds d hds h x hx=>(List.mem_append.mp hx).elim (hds x) fun q=>by rw [List.mem_singleton.mp q]; exact h
  have stp:∀ (ds:List Deed) (d:Deed),(J ds).set 0 (O.list ((c.2.2++ds).map (fun d=>V.d d.data)++[V.d d.data]))=J (ds++[d]):=fun ds d=>by
   show [O.list ((c.2.2++ds).map (fun d:Deed=>V.d d.data)++[V.d d.data])]=[O.list ((c.2.2++(ds++[d])).map fun d:Deed=>V.d d.data)]
   rw [<-List.append_assoc,List.map_append (l₁:=c.2.2++ds)]; rfl
  have hlen:∀ {ds:List Deed} {σ:Ab},σ[0]? = some (.list ((c.2.2++ds).map fun d=>.d d.data))->Bx .len σ [.ref 0]=some (vi ((c.2.2++ds).length:Nat)):=fun h=>(len_r h).trans (by rw [List.length_map])
  refine AL (l:=List.range (cell.fmod 4).toNat) (fun j:Nat=>vi (j:Int)) (fun _ ρ σ=>∃ ds,(∀ d∈ds,Gq d)/\(c.2.2++ds).length<=20/\(∃ z3 z4,ρ=K (some (.ref 0)) z3 z4)/\σ=J ds) (it_rg (Az (Ai rfl rfl (AD (by decide)))) (by omega) (by omega)) ⟨[],(fun d h=>nomatch h),by rw [List.append_nil]; exact hd,⟨_,_,rfl⟩,by show _=[O.list ((c.2.2++[]).map fun d:Deed=>V.d d.data)]; rw [List.append_nil]; rfl⟩ ?_ ?_
  ·rintro p j q ρ _ e ⟨ds,h1,h2,⟨z3,z4,rfl⟩,rfl⟩
   refine Aw (v:=vi (Bp cell j)) (FU (Bb rfl rfl) rfl) ?_
   generalize Bp cell j=L
   refine A3 (t:=decide (((c.2.2++ds).length:Int) < 19)) (As (AN (Az rfl) (hlen rfl)) rfl c_lt) (fun hh=>?_) fun _=>Ad (Ad ⟨_,rfl,ds,h1,h2,⟨_,_,rfl⟩,rfl⟩)
   have hh:=of_decide_eq_true hh
   have h3:=AG L (j:=3) (by decide)
   refine AJ (k:=0) (y:=.d (Deed.data ⟨DV,some ([48],L.fmod 3),some (Fa (L.fdiv 3))⟩)) rfl (Az (BN (e_r3 (x:=vs DV) (y:=vm ([48],L.fmod 3)) (congrArg (fun s=>some (V.d (.str s))) Fe) (BN (Bb (x:=vs [48]) (congrArg (fun s=>some (V.d (.str s))) k_0) (Ai rfl rfl (AD (by decide)))) rfl) (FU (Az (Ai rfl rfl (BW (by decide)))) rfl)) rfl)) rfl (by rw [List.length_map]; exact Nat.lt_of_le_of_lt h2 (by decide)) (Ad (Ad ⟨_,rfl,ds++[(⟨DV,some ([48],L.fmod 3),some (Fa (L.fdiv 3))⟩:Deed)],fin ds _ h1 ⟨⟨.inr (.inl ⟨rfl,_,_,rfl,rfl,lineF_ok _⟩)⟩,rfl,_,h3.1,h3.2,rfl⟩,?_,⟨_,_,rfl⟩,stp ds ⟨DV,some ([48],L.fmod 3),some (Fa (L.fdiv 3))⟩⟩))
   rw [<-List.append_assoc,List.length_append (as:=c.2.2++ds)]; show (c.2.2++ds).length+1<=20; omega
  ·rintro ρ _ ⟨ds,h1,h2,⟨z3,z4,rfl⟩,rfl⟩
   refine Cw (M:=fun ρ σ=>∃ ds,(∀ d∈ds,Gq d)/\(c.2.2++ds).length<=20/\(∃ z3 z4,ρ=K (some (.ref 0)) z3 z4)/\σ=J ds) ?_ ?_
   ·refine A3 (t:=decide ((cell.fdiv 4).fmod 9=1)&&decide (((c.2.2++ds).length:Int) < 20)) (Ci (As (Ai (Ai rfl rfl (BW (by decide))) rfl (AD (by decide))) rfl B5) fun _=>As (AN (Az rfl) (hlen rfl)) rfl c_lt) (fun hh=>?_) fun _=>Ad (Ad ⟨_,rfl,ds,h1,h2,⟨_,_,rfl⟩,rfl⟩)
    have hh:=of_decide_eq_true (Bool.and_eq_true_iff.mp hh).2
    have h3:=AG (cell.fdiv 36) (j:=3) (by decide)
    refine AJ (k:=0) (y:=.d (Deed.data ⟨FQ,some ([48],(cell.fdiv 36).fmod 3),none⟩)) rfl (Az (BN (Bb (x:=vs FQ) (y:=vm ([48],(cell.fdiv 36).fmod 3)) (congrArg (fun s=>some (V.d (.str s))) k_cut) (BN (Bb (x:=vs [48]) (congrArg (fun s=>some (V.d (.str s))) k_0) (Ai (Ai rfl rfl (BW (by decide))) rfl (AD (by decide)))) rfl)) rfl)) rfl (by rw [List.length_map]; exact Nat.lt_of_le_of_lt h2 (by decide)) (Ad (Ad ⟨_,rfl,ds++[(⟨FQ,some ([48],(cell.fdiv 36).fmod 3),none⟩:Deed)],fin ds _ h1 ⟨⟨.inr (.inr ⟨rfl,_,rfl⟩)⟩,rfl,_,h3.1,h3.2,rfl⟩,?_,⟨_,_,rfl⟩,stp ds ⟨FQ,some ([48],(cell.fdiv 36).fmod 3),none⟩⟩))
    rw [<-List.append_assoc,List.length_append (as:=c.2.2++ds)]; show (c.2.2++ds).length+1<=20; omega
   ·rintro ρ _ ⟨ds,h1,h2,⟨z3,z4,rfl⟩,rfl⟩
    refine A6 (v:=.tup [.inl (.str (Tx c.1)),.inl (dl (Al (c.2.1++[[48]]))),.inr 0]) (BN (e_r3 (Ag rfl rfl (Bm c)) (AN (Az (x:=.d (dl (c.2.1++[[48]]))) (Ai (Ag rfl rfl (Cl c)) (y:=.d (dl [[48]])) ?_ ((b_catL _ _ ?_).trans (by rw [<-List.map_append])))) (EO (by show some (((c.2.1++[[48]]).map fun t=>PyData.str (Tx t)).map V.d)=_; rw [List.map_map]; rfl) (by rw [List.length_append]; simp; omega))) rfl) rfl) ⟨ds,h1,h2,rfl,rfl⟩
    ·show (ev C.O (.lst (.cons (.cst (.str (Str.ofString "0"))) .nil))).v _ _=_
     exact congrArg (fun s=>some (V.d (.list [.str s]))) k_0
    ·rw [List.length_map,List.length_map]; exact Nat.le_trans (show c.2.1.length+1<=100 by omega) (by decide))
 rw [k2,k3] at h
 refine ⟨ds,k0,k1,fun σ=>(FN.seal (σ:=[]) (d:=Ch.data (c.1,Al (c.2.1++[[48]]),c.2.2++ds)) h ⟨_,rfl,rfl,rfl,⟨_,rfl,Nat.zero_le _,?_⟩,trivial⟩).any (all_cons (B9 _ _) (all_cons (B9 _ _) AR))⟩
 show some (O.list _)=_
 rw [List.map_map]; rfl
end Mine
namespace Mine
open PySem
noncomputable def ch0:Ch:=([48],[],[⟨DB,none,some [120]⟩,⟨DB,some ([48],0),some []⟩,⟨DB,none,some [120]⟩])
theorem ch0_data:Ch.data ch0=.tuple [.str (Str.ofString "0"),.list [],.list [.tuple [.str (Str.ofString "add"),.none,.str (Str.ofString "x")],.tuple [.str (Str.ofString "add"),.tuple [.str (Str.ofString "0"),.int 0],.str (Str.ofString "")],.tuple [.str (Str.ofString "add"),.none,.str (Str.ofString "x")]]]:=by kernel_rfl
theorem FZ:∀ (ds es:List Deed),(∀ d∈es,AH d=false)->adds (ds++es)=adds ds
 | [],[],_=>rfl
 | [],e::es,h=>by
  show (if AH e then 1 else 0)+adds es=0
  rw [h e (.head _)]
  exact (Nat.zero_add _).trans (FZ [] es fun d hd=>h d (.tail _ hd))
 | d::ds,es,h=>congrArg ((if AH d then 1 else 0) + ·) (FZ ds es h)
theorem DOk.mono {nm:List Nat} {ms ms':List Mk} (hm:∀ m∈ms,m∈ms'):∀ {ds:List Deed} {k:Nat},DOk nm ms ds k->DOk nm ms' ds k
 | [],_,_=>trivial
 | _::_,_,h=>⟨fun m e=>(h.1 m e).imp (hm m) id,DOk.mono hm h.2⟩
theorem DOk.app {nm:List Nat} {ms:List Mk}:∀ {ds es:List Deed} {k:Nat},DOk nm ms ds k->(∀ d∈es,∀ m,d.mark=some m->m∈ms)->DOk nm ms (ds++es) k
 | [],[],_,_,_=>trivial
 | [],e::es,_,h,he=>⟨fun m q=>.inl (he e (.head _) m q),DOk.app (ds:=[]) trivial fun d hd=>he d (.tail _ hd)⟩
 | _::_,_,_,h,he=>⟨h.1,DOk.app h.2 he⟩
structure SetRel (p cs':List Ch):Prop where
 nm:nms cs'=nms p
 rel:∀ x∈p,∃ x'∈cs',x'.1=x.1/\adds x'.2.2=adds x.2.2
theorem ch0_ok:Bd [ch0]:=Bd.snoc (cs:=[]) (c:=ch0) ⟨List.nodup_nil,fun pre c post e=>by simp at e⟩ List.not_mem_nil (fun l h=>nomatch h) ⟨(fun m e=>Ac e),fun m e=>.inr (by rw [<-Option.some.inj (show some ([48],0)=some m from e)]; exact ⟨rfl,by decide,by decide⟩),(fun m e=>Ac e),trivial⟩
theorem ch0_gen:GenCh ch0:=⟨zero_name,by decide,List.Pairwise.nil,by decide,by
 have l1:Cz [120]:=⟨by decide,fun x hx=>by rw [List.mem_singleton.mp hx]; decide⟩
 have l2:Cz []:=⟨by decide,fun x hx=>nomatch hx⟩
 exact all_cons ⟨.inl ⟨rfl,_,rfl,l1⟩⟩ (all_cons ⟨.inl ⟨rfl,_,rfl,l2⟩⟩ (all_cons ⟨.inl ⟨rfl,_,rfl,l1⟩⟩ AR))⟩
section
variable {cs p q cs':List Ch} {c:Ch} {ds:List Deed}
theorem CF {l:List (List Nat)} (h:l.Pairwise (· < ·)):l.Nodup:=h.imp fun {a b} (h:a < b) (e:a=b)=>List.lt_irrefl b (by rw [e] at h; exact h)
theorem leans_few (H:Bd cs) (hg:GenCh c) (e:cs=p++c::q) (hl:cs.length<=59):c.2.1.length<=58:=by
 have h1:=GZ c.2.1 (nms p) (CF hg.rise) (H.ok p c q e).1
 have h2:=congrArg List.length e
 rw [List.length_append,List.length_cons] at h2
 rw [List.length_map] at h1; omega
theorem set_step (H:Bd cs) (hg:GenCh c) (h0:[48]∉nms cs) (e:cs=p++c::q) (hl:cs.length<=59) (H':Bd (ch0::cs')) (R:SetRel p cs') (hm:∀ d∈ds,Gq d) (hd:(c.2.2++ds).length<=20) :
 Bd (ch0::(cs'++[(c.1,Al (c.2.1++[[48]]),c.2.2++ds)]))/\GenCh (c.1,Al (c.2.1++[[48]]),c.2.2++ds)/\SetRel (p++[c]) (cs'++[(c.1,Al (c.2.1++[[48]]),c.2.2++ds)]):=by
 obtain ⟨h1,h2⟩:=H.ok p c q e
 have hc:c.1∈nms cs:=by rw [e]; exact List.mem_map_of_mem (by simp)
 have sub:∀ l∈nms p,l∈nms cs:=fun l hl=>by rw [e,nms,List.map_append]; exact List.mem_append_left _ hl
 have no0:[48]∉c.2.1:=fun q=>h0 (sub _ (h1 _ q))
 have ln:∀ l∈Al (c.2.1++[[48]]),l∈c.2.1\/l=[48]:=fun l hl=>(List.mem_append.mp ((A1 _).mem_iff.mp hl)).imp id List.mem_singleton.mp
 have adn:adds (c.2.2++ds)=adds c.2.2:=FZ _ _ fun d hd=>(hm d hd).no
 have mem:∀ l,l∈c.2.1\/l=[48]->l∈Al (c.2.1++[[48]]):=fun l hl=>(A1 _).mem_iff.mpr (List.mem_append.mpr (hl.imp id List.mem_singleton.mpr))
 refine ⟨?_,⟨hg.name,?_,BJ _ ?_,hd,fun d hd=>(List.mem_append.mp hd).elim (hg.ok d) fun q=>(hm d q).ok⟩,?_,fun x hx=>?_⟩
 ·refine Bd.snoc (cs:=ch0::cs') H' (fun hq=>?_) (fun l hl=>?_) ?_
  ·rcases List.mem_cons.mp (show c.1∈[48]::nms cs' from hq) with q | q
   ·exact h0 (q▸hc)
   ·rw [R.nm] at q
    have nd:=H.nd
    rw [e,List.map_append,List.map_cons,List.nodup_append] at nd
    exact nd.2.2 c.1 q c.1 (.head _) rfl
  ·rcases ln l hl with q | q
   ·exact .tail _ (by show l∈nms cs'; rw [R.nm]; exact h1 l q)
   ·rw [q]; exact .head _
  ·refine DOk.app (DOk.mono (fun m hm=>?_) h2) fun d hd m em=>?_
   ·obtain ⟨x,hx,k1,k2,k3,k4⟩:=E9 hm
    obtain ⟨x',hx',e1,e2⟩:=R.rel x hx
    refine List.mem_flatMap.mpr ⟨x',List.mem_filter.mpr ⟨.tail _ hx',decide_eq_true (mem _ (.inl (e1▸k1)))⟩,EV.mpr ⟨by rw [e1,k2],by simpa using k3,by rw [e2]; simpa using k4⟩⟩
   ·obtain ⟨i,i0,i1,i2⟩:=(hm d hd).mrk
    rw [i2] at em
    rw [<-Option.some.inj em]
    refine List.mem_flatMap.mpr ⟨ch0,List.mem_filter.mpr ⟨.head _,decide_eq_true (mem _ (.inr rfl))⟩,EV.mpr ⟨rfl,by simpa using i0,?_⟩⟩
    show i < ((0:Nat):Int)+((3:Nat):Int)
    omega
 ·show (Al _).length<=60
  rw [(A1 _).length_eq,List.length_append]
  have:=leans_few H hg e hl
  show _+1<=60
  omega
 ·exact List.nodup_append.mpr ⟨CF hg.rise,List.nodup_cons.mpr ⟨List.not_mem_nil,List.nodup_nil⟩,fun a ha b hb q=>no0 (by rw [<-List.mem_singleton.mp hb,<-q]; exact ha)⟩
 ·rw [nms,List.map_append,nms,List.map_append,show cs'.map (·.1)=p.map (·.1) from R.nm]; rfl
 ·rcases List.mem_append.mp hx with hx | hx
  ·obtain ⟨x',k1,k2⟩:=R.rel x hx
   exact ⟨x',List.mem_append_left _ k1,k2⟩
  ·rw [List.mem_singleton.mp hx]
   exact ⟨_,List.mem_append_right _ (.head _),rfl,adn⟩
end
theorem fn_setting (ns:List Int) (hns:ns.length<=63):∃ cs:List Ch,cs.length<=60/\(∀ c∈cs,GenCh c)/\Bd cs/\∀ σ,FN 5 30 [.d (scD ns)] σ (.d (.list (cs.map Ch.data))) σ:=by
 obtain ⟨ns',w1,w2⟩:=fn_wide (ns.drop 3) (ns.getD 2 0) (by rw [List.length_drop]; omega)
 obtain ⟨cs,c1,c2,H,z0,c4⟩:=fn_changes ns' 59 w1 (by decide) (by decide)
 have cl:cs.length<=59:=by omega
 let C:=C0 4
 have hslc:∀ {ρ σ},B7 ρ 0=some (.d (scD ns))->(ev C.O (.slc (.var 0) (.cst (.int 3)) .nil)).v ρ σ=some (.d (scD (ns.drop 3))):=fun {ρ σ} h=>by
  show ((B7 ρ 0).bind fun x=>slice σ x (some 3) none)=_
  rw [h,bs,slL_fromZ (by decide) (by rw [List.length_map]; exact Nat.le_trans hns (by decide)),<-List.map_drop]; rfl
 obtain ⟨v,σ',⟨cs',g1,g2,g3,k2,k3⟩,h⟩:=FN.ends (C:=C) (f:=30) (fn:=Fsetting) (zs:=[.d (scD ns)]) (σ:=[]) (R:=fun v σ'=>∃ cs':List Ch,cs'.length<=59/\(∀ c∈cs',GenCh c)/\Bd (ch0::cs')/\v=.ref 0/\σ'=[lcs (ch0::cs')]) (by unfold Pg; rfl) rfl (show 1<=4 by decide) (by
  let K:Option V->Option V->Option V->Option V->Af:=fun z1 z2 z3 z4=>[some (.d (scD ns)),z1,z2,z3,z4]
  show Ah C _ _ (K none none none none) []
  refine Aw (v:=vc ch0) (show some (V.d (.tuple _))=some (V.d (Ch.data ch0)) by rw [ch0_data]) ?_
  refine Bj (ws:=[vc ch0]) (e_nlst (Az rfl) (show 1<=line by decide)) ?_
  refine go_forT (l:=cs.zipIdx) (fun p=>V.d (.tuple [.int (p.2:Int),Ch.data p.1])) (fun p ρ σ=>∃ cs':List Ch,cs'.length=p.length/\(∀ c∈cs',GenCh c)/\Bd (ch0::cs')/\SetRel (p.map (·.1)) cs'/\(∃ z3 z4,ρ=K (some (vc ch0)) (some (.ref 0)) z3 z4)/\σ=[lcs (ch0::cs')])
   ((congrArg (fun l=>SI C.n _ _ _ l _ _) ?_).mp (SI.enum (v:=.d (.list (cs.map Ch.data))) (ds:=cs.map Ch.data) (.fcall (.cons (.fcall (.cons ((Ae C.ok _).v (hslc rfl)) (.cons (.fcall ((Ae C.ok _).row rfl) ((GE ns 2 (by decide) (by decide)).more (show 2<=4 by decide))) (.cons (.cst _) .nil))) ((w2 _).more (show 3<=4 by decide))) (.cons (.cst _) .nil)) (c4 _)) rfl)) (fun _ _=>.inr ⟨_,rfl,rfl⟩) ⟨[],rfl,(fun c h=>nomatch h),ch0_ok,⟨rfl,fun x h=>nomatch h⟩,⟨_,_,rfl⟩,rfl⟩ ?_ ?_
  ·rw [enumV_eq,List.zipIdx_map,List.map_map]; rfl
  ·rintro p ⟨c,i⟩ q ρ _ e ⟨cs',g0,g1,g2,R,⟨z3,z4,rfl⟩,rfl⟩
   have ei:i=p.length:=by
    have h1:(cs.zipIdx)[p.length]? = some (c,i):=by rw [e,List.getElem?_append_right (Nat.le_refl _),Nat.sub_self]; rfl
    rw [List.getElem?_zipIdx] at h1
    obtain ⟨_,_,h3⟩:=Option.map_eq_some_iff.mp h1
    have:=congrArg Prod.snd h3
    simpa using this.symm
   have e':cs=p.map (·.1)++c::q.map (·.1):=by
    have:=congrArg (List.map (·.1)) e
    rw [List.map_append,List.map_cons,List.zipIdx_map_fst] at this; exact this
   have hpl:p.length < 59:=by
    have:=congrArg List.length e'
    rw [List.length_append,List.length_cons,List.length_map] at this; omega
   have hg:=c2 c (by rw [e']; simp)
   obtain ⟨ds,d1,d2,d3⟩:=fn_setmore c (Bp (ns.getD (4 * (i:Int)+6).toNat 0+(i:Int)) 11) (leans_few H hg e' cl) hg.deeds
   obtain ⟨s1,s2,s3⟩:=set_step H hg z0 e' cl g2 R d1 d2
   refine CQ (v:=AO) (σ':=[.list ((ch0::cs').map vc++[vc (c.1,Al (c.2.1++[[48]]),c.2.2++ds)])]) rfl (.lmeth (k:=0) (ws:=(ch0::cs').map vc) AK slot_list_append type_list_append ((Ae C.ok (.var 2)).v rfl) (.cons (.fcall (.cons ((Ae C.ok (.var 4)).v rfl) (.cons (.fcall (.cons (.bin (.fcall (.cons ((Ae C.ok (.var 0)).v rfl) (.cons ((Ae C.ok _).v (Ai (Ai rfl rfl (Fw (sm4 _))) rfl rfl)) .nil)) ((GE ns (4 * (i:Int)+6) (by omega) (by omega)).more (show 2<=4 by decide))) ((Ae C.ok (.var 3)).v rfl) p_add) (.cons (.cst _) .nil)) ((fn_mixed _ _).more (show 2<=4 by decide))) .nil)) ((d3 _).more (show 3<=4 by decide))) .nil) rfl rfl (m_append (by rw [List.length_map,List.length_cons,g0]; exact Nat.lt_trans (Nat.succ_lt_succ hpl) (by decide)))) (Ad ⟨_,rfl,cs'++[(c.1,Al (c.2.1++[[48]]),c.2.2++ds)],by rw [List.length_append,List.length_append,g0]; rfl,fun x hx=>(List.mem_append.mp hx).elim (g1 x) (fun q=>by rw [List.mem_singleton.mp q]; exact s2),s1,by rw [List.map_append]; exact s3,⟨_,_,rfl⟩,?_⟩)
   show [O.list _]=[O.list ((ch0::(cs'++[_])).map vc)]
   rw [List.map_cons,List.map_cons,List.map_append]; rfl
  ·rintro ρ _ ⟨cs',g0,g1,g2,R,⟨z3,z4,rfl⟩,rfl⟩
   exact A6 (v:=.ref 0) rfl ⟨cs',by rw [g0,List.length_zipIdx]; exact cl,g1,g2,rfl,rfl⟩)
 rw [k2,k3] at h
 refine ⟨ch0::cs',Nat.succ_le_succ g1,fun c hc=>(List.mem_cons.mp hc).elim (fun q=>q▸ch0_gen) (g2 c),g3,fun σ=>(FN.seal (σ:=[]) (d:=.list ((ch0::cs').map Ch.data)) h ⟨_,rfl,Nat.zero_le _,?_⟩).any (all_cons (B9 _ _) AR)⟩
 show some (O.list _)=_
 rw [List.map_map]; rfl
end Mine
namespace Mine
open PySem
section
variable {C:Cfg} {P:Fl->Ab->Prop} {c:E} {body r:S} {ρ:Af} {σ:Ab}
theorem whilesB (J:Nat->Af->Ab->Prop) (B:Af->Ab->Bool) (ht:∀ m ρ σ,J m ρ σ->C.t c ρ σ=some (B ρ σ)) (h0:∀ ρ σ,J 0 ρ σ->B ρ σ=false)
 (hf:∀ m ρ σ,J (m+1) ρ σ->B ρ σ=true->Ah C (fun fl σ'=>∃ ρ',fl=.next ρ'/\J m ρ' σ') body ρ σ):∀ (m:Nat) (ρ:Af) (σ:Ab),J m ρ σ->∃ ρe σe m',J m' ρe σe/\B ρe σe=false/\∀ Q:Fl->Ab->Prop,Q (.next ρe) σe->WhQ C.n c body Q (m+1) ρ σ
 | 0,ρ,σ,hJ=>⟨ρ,σ,0,hJ,h0 ρ σ hJ,fun Q q=>⟨false,σ,(Ae C.ok c).t (h0 ρ σ hJ▸ht 0 ρ σ hJ),fun _=>q,fun h=>ff_ h⟩⟩
 | m+1,ρ,σ,hJ=>by
  have h:=ht (m+1) ρ σ hJ
  cases e:B ρ σ with
  | false=>rw [e] at h; exact ⟨ρ,σ,m+1,hJ,e,fun Q q=>⟨false,σ,(Ae C.ok c).t h,fun _=>q,fun h=>ff_ h⟩⟩
  | true =>
   rw [e] at h
   obtain ⟨fl,σ₁,⟨ρ1,rfl,h1⟩,h2⟩:=hf m ρ σ hJ e
   obtain ⟨ρe,σe,m',h3,h5,h4⟩:=whilesB J B ht h0 hf m ρ1 σ₁ h1
   exact ⟨ρe,σe,m',h3,h5,fun Q q=>⟨true,σ,(Ae C.ok c).t h,fun h=>tt_ h,fun _=>SSs.mono (fun f s e=>by rw [e.1,e.2]; exact h4 Q q) h2⟩⟩
theorem go_whileB (J:Nat->Af->Ab->Prop) (B:Af->Ab->Bool) (m:Nat) (hJ:J m ρ σ) (ht:∀ m ρ σ,J m ρ σ->C.t c ρ σ=some (B ρ σ)) (h0:∀ ρ σ,J 0 ρ σ->B ρ σ=false)
 (hf:∀ m ρ σ,J (m+1) ρ σ->B ρ σ=true->Ah C (fun fl σ'=>∃ ρ',fl=.next ρ'/\J m ρ' σ') body ρ σ) (k:∀ m' ρ' σ',J m' ρ' σ'->B ρ' σ'=false->Ah C P r ρ' σ'):Ah C P (.cons (.while_ c body) r) ρ σ:=by
 obtain ⟨ρe,σe,m',h1,h2,h3⟩:=whilesB (C:=C) J B ht h0 hf m ρ σ hJ
 exact Ca (fl:=.next ρe) (fun Q q=>.while_ (h3 Q q)) (k m' ρe σe h1 h2)
end
theorem Blw.trans {F:List Ch} {a b c:List Nat} (x:Blw F a b) (y:Blw F b c):Blw F a c:=by
 induction x with
 | one hc hl=>exact .more hc hl y
 | more hc hl _ ih=>exact .more hc hl (ih y)
noncomputable def rem (fs:List (List Nat)):List Ch->Nat
 | []=>0
 | c::cs=>(if c.1∈fs then 0 else c.2.1.length)+rem fs cs
theorem rem_same (fs:List (List Nat)) (n:List Nat):∀ cs:List Ch,n∉nms cs->rem (fs++[n]) cs=rem fs cs
 | [],_=>rfl
 | c::cs,h=>by
  have h1:c.1≠n:=fun e=>h (e▸.head _)
  show (if c.1∈fs++[n] then 0 else c.2.1.length)+rem (fs++[n]) cs=(if c.1∈fs then 0 else c.2.1.length)+rem fs cs
  rw [rem_same fs n cs fun q=>h (.tail _ q)]
  congr 1
  have:(c.1∈fs++[n]) ↔ c.1∈fs:=by rw [List.mem_append,List.mem_singleton]; exact ⟨fun q=>q.resolve_right h1,.inl⟩
  simp only [this]
theorem rem_add {fs:List (List Nat)} {c:Ch} (hf:c.1∉fs):∀ {cs:List Ch},(nms cs).Nodup->c∈cs->rem fs cs=c.2.1.length+rem (fs++[c.1]) cs
 | a::cs,nd,hc=>by
  have nd:=List.nodup_cons.mp nd
  show (if a.1∈fs then 0 else a.2.1.length)+rem fs cs=c.2.1.length+((if a.1∈fs++[c.1] then 0 else a.2.1.length)+rem (fs++[c.1]) cs)
  rcases List.mem_cons.mp hc with e | hc
  ·subst e
   rw [if_neg hf,if_pos (List.mem_append_right _ (.head _)),rem_same fs c.1 cs nd.1,Nat.zero_add]
  ·have h1:a.1≠c.1:=fun e=>nd.1 (show a.1∈nms cs by rw [e]; exact List.mem_map_of_mem hc)
   rw [rem_add hf nd.2 hc]
   have:(a.1∈fs++[c.1]) ↔ a.1∈fs:=by rw [List.mem_append,List.mem_singleton]; exact ⟨fun q=>q.resolve_right h1,.inl⟩
   simp only [this]; omega
theorem rem_le (fs:List (List Nat)):∀ cs:List Ch,(∀ c∈cs,c.2.1.length<=60)->rem fs cs<=60 * cs.length
 | [],_=>Nat.le_refl _
 | c::cs,h=>by
  have:=rem_le fs cs fun x hx=>h x (.tail _ hx)
  have:=h c (.head _)
  show (if c.1∈fs then 0 else c.2.1.length)+rem fs cs<=60 * (cs.length+1)
  split <;> omega
structure G6 (cs:List Ch) (ns fs wt:List (List Nat)):Prop where
 nd:fs.Nodup
 sub:∀ n,n∈fs\/n∈wt->∃ o∈ns,n=o\/Blw cs o n
 all:∀ o∈ns,o∈fs\/o∈wt
 cov:∀ c∈cs,c.1∈fs->∀ l∈c.2.1,l∈fs\/l∈wt
section
variable {cs:List Ch} {ns fs wt:List (List Nat)}
theorem G6.names (h:G6 cs ns fs wt) (ht:Cy cs) (hn:∀ n∈ns,n∈nms cs) {n:List Nat} (q:n∈fs\/n∈wt):n∈nms cs:=by
 obtain ⟨o,ho,e | e⟩:=h.sub n q
 ·rw [e]; exact hn o ho
 ·exact e.names ht
theorem G6.skip {n:List Nat} (h:G6 cs ns fs (wt++[n])) (hn:n∈fs):G6 cs ns fs wt:=by
 have drop:∀ {x},x∈fs\/x∈wt++[n]->x∈fs\/x∈wt:=fun {x} q=>q.elim .inl fun q=>(List.mem_append.mp q).elim .inr fun q=>.inl (List.mem_singleton.mp q▸hn)
 exact ⟨h.nd,fun x q=>h.sub x (q.imp id (List.mem_append_left _)),fun o ho=>drop (h.all o ho),fun c hc hf l hl=>drop (h.cov c hc hf l hl)⟩
theorem G6.take {c:Ch} (nd:(nms cs).Nodup) (h:G6 cs ns fs (wt++[c.1])) (hc:c∈cs) (hn:c.1∉fs):G6 cs ns (fs++[c.1]) (wt++c.2.1):=by
 have mv:∀ {x},x∈fs\/x∈wt++[c.1]->x∈fs++[c.1]\/x∈wt++c.2.1:=fun {x} q=>q.elim (fun q=>.inl (List.mem_append_left _ q)) fun q=>(List.mem_append.mp q).elim (fun q=>.inr (List.mem_append_left _ q)) fun q=>.inl (List.mem_append_right _ q)
 have here:c.1∈fs\/c.1∈wt++[c.1]:=.inr (List.mem_append_right _ (.head _))
 refine ⟨List.nodup_append.mpr ⟨h.nd,List.nodup_cons.mpr ⟨List.not_mem_nil,List.nodup_nil⟩,fun a ha b hb e=>hn (by rw [<-List.mem_singleton.mp hb,<-e]; exact ha)⟩,fun x q=>?_,fun o ho=>mv (h.all o ho),fun d hd hf l hl=>?_⟩
 ·rcases q with q | q
  ·rcases List.mem_append.mp q with q | q
   ·exact h.sub x (.inl q)
   ·rw [List.mem_singleton.mp q]; exact h.sub _ here
  ·rcases List.mem_append.mp q with q | q
   ·exact h.sub x (.inr (List.mem_append_left _ q))
   ·obtain ⟨o,ho,e⟩:=h.sub _ here
    refine ⟨o,ho,.inr ?_⟩
    rcases e with e | e
    ·rw [<-e]; exact .one hc q
    ·exact Blw.trans e (.one hc q)
 ·rcases List.mem_append.mp hf with hf | hf
  ·exact mv (h.cov d hd hf l hl)
  ·rw [G7 nd hd hc (List.mem_singleton.mp hf)] at hl
   exact .inr (List.mem_append_right _ hl)
theorem G6.done (h:G6 cs ns fs []) {n:List Nat}:n∈fs ↔ ∃ o∈ns,n=o\/Blw cs o n:=by
 have up:∀ {a b:List Nat},Blw cs a b->a∈fs->b∈fs:=fun x=>by
  induction x with
  | one hc hl=>exact fun q=>(h.cov _ hc q _ hl).resolve_right List.not_mem_nil
  | more hc hl _ ih=>exact fun q=>ih ((h.cov _ hc q _ hl).resolve_right List.not_mem_nil)
 refine ⟨fun q=>h.sub n (.inl q),fun ⟨o,ho,e⟩=>?_⟩
 have h1:=(h.all o ho).resolve_right List.not_mem_nil
 exact e.elim (fun e=>e▸h1) fun e=>up e h1
end
end Mine
namespace Mine
open PySem
noncomputable abbrev lnK (cs:List Ch):List (List Nat×List (List Nat)):=cs.map fun c=>(c.1,c.2.1)
noncomputable abbrev oL (cs:List Ch):O:=.dictS (AM Tx dl (lnK cs))
theorem getL {F:List Ch} (nd:(F.map (·.1)).Nodup) {c:Ch} (hc:c∈F):Ao (lnK F) c.1=some c.2.1:=by
 induction F with
 | nil=>cases hc
 | cons a F ih =>
  have nd':=List.nodup_cons.mp nd
  show Ao ((a.1,a.2.1)::lnK F) c.1=_
  rw [Be]
  rcases List.mem_cons.mp hc with rfl | hc
  ·exact if_pos rfl
  ·rw [if_neg fun e=>nd'.1 (by show a.1∈F.map (·.1); rw [show a.1=c.1 from e]; exact List.mem_map_of_mem hc)]
   exact ih nd'.2 hc
theorem fn_ground {cs:List Ch} (nd:(nms cs).Nodup) (ht:Cy cs) (hl:cs.length<=60) (hg:∀ c∈cs,c.2.1.length<=60) {ns:List (List Nat)} (hn:∀ n∈ns,n∈nms cs) (hnl:ns.length<=100):∃ fs:List (List Nat),fs.Nodup/\(∀ n,n∈fs ↔ ∃ o∈ns,n=o\/Blw cs o n)/\∀ σ,FN 2 28 [.d (.list (cs.map Ch.data)),.d (dl ns)] σ (.d (dl fs)) σ:=by
 let C:=C0 1
 obtain ⟨v,σ',⟨fs,wt,g1,g2,k2,k3⟩,h⟩:=FN.ends (C:=C) (f:=28) (fn:=Fground) (zs:=[.d (.list (cs.map Ch.data)),.d (dl ns)]) (σ:=[]) (R:=fun v σ'=>∃ fs wt,G6 cs ns fs wt/\wt=[]/\v=.ref 1/\σ'=[oL cs,.list (fs.map vs),.list (wt.map vs)]) (by unfold Pg; rfl) rfl (Nat.le_refl _) (by
  let K:Option V->Option V->Option V->Option V->Option V->Af:=fun z2 z3 z4 z5 z6=>[some (.d (.list (cs.map Ch.data))),some (.d (dl ns)),z2,z3,z4,z5,z6]
  show Ah C _ _ (K none none none none none) []
  refine go_asgD ?_
  refine AL (l:=cs) vc (fun p ρ σ=>(∃ z3,ρ=K (some (.ref 0)) z3 none none none)/\[oL p]=σ) (Gl rfl) ⟨⟨none,rfl⟩,rfl⟩ ?_ ?_
  ·rintro p c q ρ _ e ⟨⟨z3,rfl⟩,rfl⟩
   have hpl:(lnK p).length<=60:=by
    have h2:=congrArg List.length e
    rw [List.length_append,List.length_cons] at h2
    rw [List.length_map]; omega
   refine Du (z:=AO) (y:=AO) (k:=0) (w:=Tx c.1) (dd:=dl c.2.1) (kvs:=AM Tx dl (lnK p)) (Ag rfl rfl (Cl c)) rfl (Ag rfl rfl (Bm c)) rfl (by rw [Bq]; exact Nat.lt_of_le_of_lt hpl (by decide)) (Ad ⟨_,rfl,⟨_,rfl⟩,?_⟩)
   rw [Bo dl Cc,ES (CB.mpr ?_),oL,lnK,lnK,List.map_append]
   ·rfl
   ·rw [lnK,List.map_map]
    show c.1∉p.map (·.1)
    rw [e,nms,List.map_append,List.map_cons,List.nodup_append] at nd
    exact fun q=>nd.2.2 c.1 q c.1 (.head _) rfl
  rintro ρ _ ⟨⟨z3,rfl⟩,rfl⟩
  refine Bj (ws:=[]) rfl ?_
  refine Bj (ws:=ns.map vs) (e_nlb (Az rfl) (by show some ((ns.map fun t=>PyData.str (Tx t)).map V.d)=_; rw [List.map_map]; rfl) (by rw [List.length_map]; exact Nat.le_trans hnl (by decide))) ?_
  let St:List (List Nat)->List (List Nat)->Ab:=fun fs wt=>[oL cs,.list (fs.map vs),.list (wt.map vs)]
  have hr:=rem_le [] cs hg
  refine go_whileB (fun m ρ σ=>m<=10000/\∃ fs wt,G6 cs ns fs wt/\wt.length+rem fs cs=m/\(∃ z6,ρ=K (some (.ref 0)) z3 (some (.ref 1)) (some (.ref 2)) z6)/\St fs wt=σ) (fun ρ σ=>match σ with | [_,_,.list ws]=>!ws.isEmpty | _=>false) (ns.length+rem [] cs) ⟨by omega,[],ns,⟨List.nodup_nil,fun n q=>⟨n,q.resolve_left List.not_mem_nil,.inl rfl⟩,fun o ho=>.inr ho,fun c _ q=>nomatch q⟩,rfl,⟨_,rfl⟩,rfl⟩ ?_ ?_ ?_ ?_
  ·rintro m ρ _ ⟨_,fs,wt,_,_,⟨z6,rfl⟩,rfl⟩
   exact tr_of' (σ:=St fs wt) (x:=.ref 2) (ws:=wt.map vs) rfl
  ·rintro ρ _ ⟨_,fs,wt,_,e,_,rfl⟩
   have:wt=[]:=List.length_eq_zero_iff.mp (by omega)
   subst this; rfl
  ·rintro m ρ _ ⟨hm,fs,wt,G,e,⟨z6,rfl⟩,rfl⟩ hB
   rcases List.eq_nil_or_concat wt with rfl | ⟨wt,y,rfl⟩
   ·cases hB
   rw [List.concat_eq_append] at G e ⊢
   rw [List.length_append] at e
   have e:wt.length+1+rem fs cs=m+1:=e
   have hy:y∈nms cs:=G.names ht hn (.inr (List.mem_append_right _ (.head _)))
   obtain ⟨c,hc,rfl⟩:=List.mem_map.mp hy
   have hfl:fs.length<=60:=by
    have:=GZ fs (nms cs) G.nd fun n q=>G.names ht hn (.inl q)
    rw [List.length_map] at this; omega
   refine go_pop (k:=2) (ws:=wt.map vs) (y:=vs c.1) rfl (by show some (O.list ((wt++[c.1]).map vs))=_; rw [List.map_append]; rfl) ?_
   show Ah _ _ _ (K (some (.ref 0)) z3 (some (.ref 1)) (some (.ref 2)) (some (vs c.1))) (St fs wt)
   refine A3 (t:=!decide (c.1∈fs)) (As rfl rfl (by rw [c_nin,in_of (l:=fs) (x:=.ref 1) (lst_r rfl)]; rfl)) (fun q=>?_) fun q=>?_
   ·have q:c.1∉fs:=fun h=>by rw [decide_eq_true h] at q; cases q
    have er:=rem_add q nd hc
    refine AJ (k:=1) (ws:=fs.map vs) (y:=vs c.1) rfl rfl rfl (by rw [List.length_map]; exact Nat.lt_of_le_of_lt hfl (by decide)) ?_
    refine go_extend (k:=2) (ws:=wt.map vs) (us:=c.2.1.map vs) (y:=.d (dl c.2.1)) rfl (Az (Ag rfl rfl (CV (k:=0) (kvs:=AM Tx dl (lnK cs)) rfl (by rw [AY dl Cc,getL nd hc]; rfl)))) rfl (by show some ((c.2.1.map fun t=>PyData.str (Tx t)).map V.d)=_; rw [List.map_map]; rfl) (by rw [List.length_map,List.length_map]; exact Nat.le_trans (show wt.length+c.2.1.length<=10100 by have:=hg c hc; omega) (by decide)) (Ad (Ad ⟨_,rfl,by omega,fs++[c.1],wt++c.2.1,G.take nd hc q,by rw [List.length_append]; omega,⟨_,rfl⟩,?_⟩))
    show [oL cs,O.list ((fs++[c.1]).map vs),O.list ((wt++c.2.1).map vs)]=[oL cs,O.list (fs.map vs++[vs c.1]),O.list (wt.map vs++c.2.1.map vs)]
    rw [List.map_append,List.map_append]; rfl
   ·have q:c.1∈fs:=of_decide_eq_true (by cases h:decide (c.1∈fs) with | true=>rfl | false=>rw [h] at q; cases q)
    exact Ad (Ad ⟨_,rfl,by omega,fs,wt,G.skip q,by omega,⟨_,rfl⟩,rfl⟩)
  ·rintro m ρ _ ⟨_,fs,wt,G,e,⟨z6,rfl⟩,rfl⟩ hB
   have:wt=[]:=by
    cases wt with
    | nil=>rfl
    | cons _ _=>cases hB
   exact A6 (v:=.ref 1) rfl ⟨fs,wt,G,this,rfl,rfl⟩)
 rw [k2,k3] at h
 subst g2
 refine ⟨fs,g1.nd,fun n=>g1.done,fun σ=>(FN.seal (σ:=[]) (d:=dl fs) h ⟨_,rfl,Nat.zero_le _,?_⟩).any (all_cons (B9 _ _) (all_cons (B9 _ _) AR))⟩
 show some (O.list _)=_
 rw [List.map_map]; rfl
end Mine
namespace Mine
open PySem
noncomputable def Cfg.knowF (C:Cfg) (f:Nat) {α:Type} (arg:α->List V) (out:α->V) (h:∀ a σ,FN C.n f (arg a) σ (out a) σ):Cfg:=C.add f (fun xs _=>@dite _ (∃ a,arg a=xs) (Classical.propDecidable _) (fun q=>some (out (Classical.choose q))) fun _=>none) fun xs σ v e=>by
 by_cases q:∃ a,arg a=xs
 ·rw [dif_pos q] at e
  rw [<-Option.some.inj e]
  have:=h (Classical.choose q) σ
  rw [Classical.choose_spec q] at this; exact this
 ·rw [dif_neg q] at e; exact Ac e
theorem knowF_eq {C:Cfg} {f:Nat} {α:Type} {arg:α->List V} {out:α->V} {h:∀ a σ,FN C.n f (arg a) σ (out a) σ} (inj:∀ a b,arg a=arg b->out a=out b) (a:α) (σ:Ab):(C.knowF f arg out h).O f (arg a) σ=some (out a):=by
 have q:∃ b,arg b=arg a:=⟨a,rfl⟩
 show (bif Nat.beq f f then @dite _ (∃ b,arg b=arg a) (Classical.propDecidable _) (fun q=>some (out (Classical.choose q))) fun _=>none else C.O f (arg a) σ)=_
 rw [Nat.beq_refl f]
 show @dite _ (∃ b,arg b=arg a) (Classical.propDecidable _) (fun q=>some (out (Classical.choose q))) (fun _=>none)=_
 rw [dif_pos q,inj _ _ (Classical.choose_spec q)]
theorem nl_compW {O:Orc} {ρ:Af} {σ:Ab} {α:Type} {l:List α} {elt ifs:E} {i k t:Nat} (w:α->V) (p:α->Bool) (g:α->V) (h1:B7 ρ i=some (.ref k)) (h2:σ[k]? = some (.list (l.map w))) (hl:l.length<=line)
 (hp:∀ a∈l,(ev O ifs).ts ((ρ.set t none).set t (some (w a))) σ=some (p a)) (hg:∀ a∈l,p a=true->(ev O elt).v ((ρ.set t none).set t (some (w a))) σ=some (g a)):(ev O (.comp elt [t] (.var i) ifs)).nl ρ σ=some ((l.filter p).map g):=by
 refine CP (kps:=[(k,l.map w)]) w p g ?_ hl hp hg
 show (B7 ρ i).bind (Dq σ)=_
 rw [h1]
 show (Cr σ[k]?).bind _=_
 rw [h2]; rfl
theorem any_bools {σ:Ab} {α:Type} (f:α->Bool) (l:List α):Bx .any σ [.d (.list (l.map fun a=>PyData.bool (f a)))]=some (vb (l.any f)):=by
 show (BY D9 ((l.map fun a=>PyData.bool (f a)).map V.d)).bind _=_
 have:BY D9 ((l.map fun a=>PyData.bool (f a)).map V.d)=some (l.map f):=by
  induction l with
  | nil=>rfl
  | cons a l ih=>show (BY D9 ((l.map fun a=>PyData.bool (f a)).map V.d)).bind _=_; rw [ih]; rfl
 rw [this,bs,List.any_map]; rfl
theorem eqn_mo (a:Option Mk) (m:Mk):eqN AC (Ay a) (Ay (some m))=some (decide (a=some m)):=by
 cases a with
 | none=>rfl
 | some a =>
  have:decide (a=m)=decide (some a=some m):=decide_eq_decide.mpr ⟨fun e=>e▸rfl,Option.some.inj⟩
  rw [<-this]; exact eqn_mk 39 a m
noncomputable def Dm (m:Mk) (d:Deed):Bool:=decide (d.word=DV)&&decide (d.mark=some m)
noncomputable def E5 (m:Mk) (c:Ch):Bool:=c.2.2.any (Dm m)
noncomputable def Bs (cs:List Ch) (m:Mk):List (List Nat):=nms (cs.filter (E5 m))
structure Opn (cs:List Ch) (m:Mk) (us:List (List Nat)):Prop where
 rise:us.Pairwise (· < ·)
 mem:∀ n,n∈us ↔ n∈Bs cs m/\¬ ∃ o∈Bs cs m,Blw cs o n
theorem Opn.uniq {cs:List Ch} {m:Mk} {us us':List (List Nat)} (h:Opn cs m us) (h':Opn cs m us'):us=us' :=
 Cq (fun x y p q=>List.lt_irrefl _ (List.lt_trans p q)) h.rise h'.rise ((List.perm_ext_iff_of_nodup (CF h.rise) (CF h'.rise)).mpr fun n=>(h.mem n).trans (h'.mem n).symm)
theorem Blw.lower {F:List Ch} (nd:(F.map (·.1)).Nodup) (ht:Cy F) {a b:List Nat} (x:Blw F a b):hgt F b < hgt F a:=by
 have one:∀ {c:Ch} {l:List Nat},c∈F->l∈c.2.1->hgt F l < hgt F c.1:=fun {c l} hc hl=>by
  rw [hgt_rec nd ht hc]
  have:=max_ge 0 (c.2.1.map fun l=>hgt F l+1) (hgt F l+1) (List.mem_map_of_mem hl)
  omega
 induction x with
 | one hc hl=>exact one hc hl
 | more hc hl _ ih=>have:=one hc hl; omega
theorem Dc {cs:List Ch} {m:Mk} {n:List Nat} (h:n∈Bs cs m):n∈nms cs:=by
 obtain ⟨c,hc,rfl⟩:=List.mem_map.mp h
 exact List.mem_map_of_mem (List.mem_filter.mp hc).1
theorem setN_len (cs:List Ch) (m:Mk):(Bs cs m).length<=cs.length:=by
 rw [Bs,List.length_map]; exact List.length_filter_le _ _
theorem fn_unsettled {cs:List Ch} (nd:(nms cs).Nodup) (ht:Cy cs) (hl:cs.length<=60) (hg:∀ c∈cs,GenCh c) (m:Mk):∃ us:List (List Nat),Opn cs m us/\us.length<=60/\∀ σ,FN 3 31 [.d (.list (cs.map Ch.data)),vm m] σ (.d (dl us)) σ:=by
 have hgr:∀ n:{n // n∈nms cs},∃ fs:List (List Nat),(∀ x,x∈fs ↔ x=n.1\/Blw cs n.1 x)/\∀ σ,FN 2 28 [.d (.list (cs.map Ch.data)),.d (dl [n.1])] σ (.d (dl fs)) σ:=fun n=>by
  obtain ⟨fs,_,h2,h3⟩:=fn_ground nd ht hl (fun c hc=>(hg c hc).few) (ns:=[n.1]) (fun x hx=>by rw [List.mem_singleton.mp hx]; exact n.2) (show 1<=100 by decide)
  refine ⟨fs,fun x=>(h2 x).trans ⟨fun ⟨o,ho,e⟩=>?_,fun e=>⟨n.1,.head _,e⟩⟩,h3⟩
  rw [List.mem_singleton.mp ho] at e; exact e
 obtain ⟨gr,hgr⟩:=Classical.axiomOfChoice hgr
 let C:Cfg:=(C0 2).knowF 28 (fun n:{n // n∈nms cs}=>[.d (.list (cs.map Ch.data)),.d (dl [n.1])]) (fun n=>.d (dl (gr n))) (fun n σ=>(hgr n).2 σ)
 have hgO:∀ (n:{n // n∈nms cs}) σ,C.O 28 [.d (.list (cs.map Ch.data)),.d (dl [n.1])] σ=some (.d (dl (gr n))):=fun n σ=>knowF_eq (C:=C0 2) (fun a b e=>by
  injection e with _ e
  injection e with e _
  injection e with e
  injection e with e
  injection e with e _
  injection e with e
  rw [Subtype.ext (Gd e)]) n σ
 have hsl:(Bs cs m).length<=60:=Nat.le_trans (setN_len cs m) hl
 let gi:List Nat->List Nat->Bool:=fun o n=>@decide (∃ h:o∈nms cs,n∈gr ⟨o,h⟩) (Classical.propDecidable _)
 have gi_eq:∀ (o:List Nat) (h:o∈nms cs) (n:List Nat),gi o n=decide (n∈gr ⟨o,h⟩):=fun o h n=>by
  by_cases q:n∈gr ⟨o,h⟩
  ·rw [decide_eq_true q]; exact @decide_eq_true _ (Classical.propDecidable _) ⟨h,q⟩
  ·rw [decide_eq_false q]; exact @decide_eq_false _ (Classical.propDecidable _) fun ⟨_,r⟩=>q r
 let op:List Nat->Bool:=fun n=>!((Bs cs m).filter fun o=>!decide (o=n)).any fun o=>gi o n
 obtain ⟨v,σ',⟨k2,k3⟩,h⟩:=FN.ends (C:=C) (f:=31) (fn:=Funsettled) (zs:=[.d (.list (cs.map Ch.data)),vm m]) (σ:=[]) (R:=fun v σ'=>v=.d (dl (Al ((Bs cs m).filter op)))/\σ'=[.list ((Bs cs m).map vs),.list (((Bs cs m).filter op).map vs)]) (by unfold Pg; rfl) rfl (show 1<=2 by decide) (by
  let K:Option V->Option V->Option V->Option V->Af:=fun z2 z3 z5 z6=>[some (.d (.list (cs.map Ch.data))),some (vm m),z2,z3,none,z5,z6,none]
  show Ah C _ _ (K none none none none) []
  refine Bj (ws:=[]) rfl ?_
  refine AL (l:=cs) vc (fun p ρ σ=>(∃ z3,ρ=K (some (.ref 0)) z3 none none)/\[.list ((Bs p m).map vs)]=σ) (Gl rfl) ⟨⟨none,rfl⟩,rfl⟩ ?_ ?_
  ·rintro p c q ρ _ e ⟨⟨z3,rfl⟩,rfl⟩
   have hc:c∈cs:=by rw [e]; simp
   have hpl:(Bs p m).length<=60:=by
    have h1:=setN_len p m
    have h2:=congrArg List.length e
    rw [List.length_append,List.length_cons] at h2; omega
   have hsn:Bs (p++[c]) m=if E5 m c then Bs p m++[c.1] else Bs p m:=by
    unfold Bs nms
    rw [List.filter_append,List.filter_cons]
    cases E5 m c with
    | true=>rw [List.map_append]; rfl
    | false=>exact congrArg _ (List.append_nil _)
   have hcomp:(ev C.O (.comp (.var 4) [4] (.sub (.var 3) (.cst (.int 2))) (.cons (.bop .And (.cons (.cmp .Eq (.sub (.var 4) (.cst (.int 0))) (.cst (.str (Str.ofString "set")))) (.cons (.cmp .Eq (.sub (.var 4) (.cst (.int 1))) (.var 1)) .nil))) .nil))).v (K (some (.ref 0)) (some (vc c)) none none) [.list ((Bs p m).map vs)]=some (.d (.list ((c.2.2.filter (Dm m)).map Deed.data))) :=
    CC (l:=c.2.2) Deed.data (Dm m) Deed.data (BA (Ag rfl rfl (BR c)) rfl) (Nat.le_trans (hg c hc).deeds (by decide)) (fun d _=>e_ts1 (Ci (As (Ag rfl rfl (Cn d)) (congrArg (fun s=>some (V.d (.str s))) Fe) EB) fun _=>As (Ag rfl rfl (Co d)) rfl (eqn_mo d.mark m))) (fun d _ _=>rfl)
   have hs:decide (((c.2.2.filter (Dm m)).length:Int) > 0)=E5 m c:=by
    unfold E5
    cases h:c.2.2.any (Dm m) with
    | true =>
     obtain ⟨d,h1,h2⟩:=List.any_eq_true.mp h
     have:=List.length_pos_of_mem (List.mem_filter.mpr ⟨h1,h2⟩)
     exact decide_eq_true (by omega)
    | false =>
     rw [List.filter_eq_nil_iff.mpr fun d hd=>List.any_eq_false.mp h d hd]; rfl
   refine A3 (t:=E5 m c) ((As (AN (Az hcomp) (Cs.trans (by rw [List.length_map]))) rfl c_gt).trans (congrArg some hs)) (fun h=>?_) fun h=>?_
   ·refine AJ (k:=0) (ws:=(Bs p m).map vs) (y:=vs c.1) rfl (Az (Ag rfl rfl (Bm c))) rfl (by rw [List.length_map]; exact Nat.lt_of_le_of_lt hpl (by decide)) (Ad (Ad ⟨_,rfl,⟨_,rfl⟩,?_⟩))
    rw [hsn,if_pos h,List.map_append]; rfl
   ·refine Ad (Ad ⟨_,rfl,⟨_,rfl⟩,?_⟩)
    rw [hsn,if_neg (by rw [h]; exact Bool.false_ne_true)]
  rintro ρ _ ⟨⟨z3,rfl⟩,rfl⟩
  refine Bj (ws:=[]) rfl ?_
  let St:List (List Nat)->Ab:=fun fs=>[.list ((Bs cs m).map vs),.list (fs.map vs)]
  refine DY (l:=Bs cs m) (kps:=[(0,(Bs cs m).map vs)]) (ts:=[6]) vs (fun p ρ σ=>(∃ z6,ρ=K (some (.ref 0)) z3 (some (.ref 1)) z6)/\St (p.filter op)=σ) rfl ?_ (fun _ _=>.inl rfl) ⟨⟨none,rfl⟩,rfl⟩ ?_ ?_
  ·rintro p ρ _ ⟨_,rfl⟩ k ws hk
   obtain ⟨rfl,rfl⟩:=Prod.mk.inj (List.mem_singleton.mp hk)
   rfl
  ·rintro p n q ρ _ e ⟨⟨z6,rfl⟩,rfl⟩
   show Ah C _ _ (K (some (.ref 0)) z3 (some (.ref 1)) (some (vs n))) (St (p.filter op))
   have hpl:(p.filter op).length<=60:=by
    have h1:=List.length_filter_le op p
    have h2:=congrArg List.length e
    rw [List.length_append,List.length_cons] at h2; omega
   have hcomp:(ev C.O (.comp (.cmp .In (.var 6) (.fcall 28 (.cons (.var 0) (.cons (.lst (.cons (.var 7) .nil)) .nil)))) [7] (.var 2) (.cons (.cmp .NotEq (.var 7) (.var 6)) .nil))).v (K (some (.ref 0)) z3 (some (.ref 1)) (some (vs n))) (St (p.filter op))=some (.d (.list (((Bs cs m).filter fun o=>!decide (o=n)).map fun o=>.bool (gi o n)))):=by
    refine E8 ?_
    rw [nl_compW (k:=0) (l:=Bs cs m) vs (fun o=>!decide (o=n)) (fun o=>vb (gi o n)) rfl rfl (Nat.le_trans hsl (by decide)) (fun o _=>e_ts1 (As rfl rfl FI)) (fun o ho _=>?_),List.map_map]
    ·rfl
    ·have hon:=Dc ho
     refine EC (x:=vs n) (y:=.d (dl (gr ⟨o,hon⟩))) rfl (FU (Bb rfl (y:=.d (dl [o])) rfl) (hgO ⟨o,hon⟩ _)) ?_
     rw [c_in,Dt,gi_eq o hon n]
   refine A3 (t:=op n) (BO (CS (Az hcomp) (any_bools _ _))) (fun h=>?_) fun h=>?_
   ·refine AJ (k:=1) (ws:=(p.filter op).map vs) (y:=vs n) rfl rfl rfl (by rw [List.length_map]; exact Nat.lt_of_le_of_lt hpl (by decide)) (Ad (Ad ⟨_,rfl,⟨_,rfl⟩,?_⟩))
    show St ((p++[n]).filter op)=_
    rw [List.filter_append,List.filter_cons_of_pos h]
    show [_,O.list ((p.filter op++[n]).map vs)]=_
    rw [List.map_append]; rfl
   ·refine Ad (Ad ⟨_,rfl,⟨_,rfl⟩,?_⟩)
    show St ((p++[n]).filter op)=_
    rw [List.filter_append,List.filter_cons_of_neg (by rw [h]; exact Bool.false_ne_true)]
    show St (p.filter op++[])=_
    rw [List.append_nil]
  ·rintro ρ _ ⟨⟨z6,rfl⟩,rfl⟩
   exact A6 (v:=.d (dl (Al ((Bs cs m).filter op)))) (AN (Az rfl) (EO (x:=.ref 1) (lst_r rfl) (by have:=List.length_filter_le op (Bs cs m); omega))) ⟨rfl,rfl⟩)
 rw [k2,k3] at h
 have nds:(Bs cs m).Nodup:=List.Nodup.sublist ((List.filter_sublist (p:=E5 m) (l:=cs)).map (fun c:Ch=>c.1)) nd
 refine ⟨Al ((Bs cs m).filter op),⟨BJ _ (nds.filter _),fun n=>?_⟩,by rw [(A1 _).length_eq]; exact Nat.le_trans (List.length_filter_le _ _) hsl,fun σ=>(FN.seal (σ:=[]) (d:=dl (Al ((Bs cs m).filter op))) h rfl).any (all_cons (B9 _ _) (all_cons (B9 _ _) AR))⟩
 rw [(A1 _).mem_iff,List.mem_filter]
 refine and_congr_right fun hn=>?_
 show (!((Bs cs m).filter fun o=>!decide (o=n)).any fun o=>gi o n)=true ↔ _
 rw [Bool.not_eq_true',List.any_eq_false]
 constructor
 ·rintro h ⟨o,ho,hb⟩
  have hne:o≠n:=fun e=>by rw [e] at hb; exact absurd (hb.lower nd ht) (Int.lt_irrefl _)
  refine h o (List.mem_filter.mpr ⟨ho,by rw [decide_eq_false hne]; rfl⟩) ((gi_eq o (Dc ho) n).trans (decide_eq_true (((hgr ⟨o,Dc ho⟩).1 n).mpr (.inr hb))))
 ·intro h o ho q
  obtain ⟨h1,h2⟩:=List.mem_filter.mp ho
  have h3:=Dc h1
  have h4:=of_decide_eq_true ((gi_eq o h3 n).symm.trans q)
  have hne:o≠n:=fun e=>by rw [decide_eq_true e] at h2; cases h2
  exact h ⟨o,h1,(((hgr ⟨o,h3⟩).1 n).mp h4).resolve_left fun e=>hne e.symm⟩
end Mine
namespace Mine
open PySem
theorem get_put {κ β:Type} [DecidableEq κ] (h:List (κ×β)) (k k':κ) (v:β):Ao (BD h k v) k'=if k'=k then some v else Ao h k':=by
 unfold BD
 rw [Fz]
 cases e:Ao h k with
 | none =>
  show Ao (h++[(k,v)]) k'=_
  by_cases q:k'=k
  ·subst q
   rw [if_pos rfl,En e,Be,if_pos rfl]
  ·rw [if_neg q]
   cases e':Ao h k' with
   | none=>rw [En e',Be,if_neg fun r=>q r.symm]; rfl
   | some x=>exact get_left e'
 | some d =>
  show Ao (h.map fun p=>if p.1=k then (p.1,v) else p) k'=_
  have key:∀ h:List (κ×β),Ao (h.map fun p=>if p.1=k then (p.1,v) else p) k'=if k'=k then (Ao h k').map fun _=>v else Ao h k':=by
   intro h
   induction h with
   | nil=>show none=_; split <;> rfl
   | cons p h ih =>
    rw [List.map_cons,Be,Be,ih]
    by_cases q:k'=k
    ·subst q
     rw [if_pos rfl,if_pos rfl]
     by_cases r:p.1=k'
     ·rw [if_pos r,if_pos r,if_pos r]; rfl
     ·rw [if_neg r,if_neg r,if_neg r]
    ·rw [if_neg q,if_neg q]
     by_cases r:p.1=k
     ·rw [if_pos r,if_neg fun s=>q (s.symm.trans r),if_neg fun s=>q (s.symm.trans r)]
     ·rw [if_neg r]
  rw [key h]
  by_cases q:k'=k
  ·subst q
   rw [if_pos rfl,if_pos rfl,e]; rfl
  ·rw [if_neg q,if_neg q]
section
variable {O:Orc} {ρ:Af} {σ:Ab} {es:E} {i k:Nat} {kvs:List ((Str×Int)×PyData)} {m:Mk} {z:V}
theorem e_get (h1:B7 ρ i=some (.ref k)) (h2:(ev O es).row ρ σ=some [vm m,z]) (h3:σ[k]? = some (.dictP kvs)):(ev O (.meth .get (.var i) es)).v ρ σ=some (dfl (Ao kvs (mk2 m)) z):=by
 show ((B7 ρ i).bind fun x=>((ev O es).row ρ σ).bind fun ys=>dgetV σ x ys)=_
 rw [h1,bs,h2,bs]
 show dgetO σ[k]? (vm m) z=_
 rw [h3]; rfl
end
noncomputable abbrev oS (st:List (Mk×List (List Nat))):O:=.dictP (AM mk2 dl st)
theorem dfl_st (st:List (Mk×List (List Nat))) (m:Mk):dfl (Ao (AM mk2 dl st) (mk2 m)) (.d (.list []))=.d (dl ((Ao st m).getD [])):=by
 rw [AY dl CH]
 cases Ao st m <;> rfl
section
variable {cs F:List Ch} {gs:List (List Nat×List (List Nat))}
theorem fn_namesD (h:Wov cs F gs) (τ:Ab):FN 2 40 [self] (W F gs (hts [] F)++τ) (.d (dl (Al (nms cs)))) (W F gs (hts [] F)++τ) :=
 FN.tail (FN.seal' (σ':=W F gs (hts [] F)) (fn_names h) rfl (Gk 3) ⟨_,rfl,Nat.le_refl _,by
  show some (O.list _)=_
  rw [List.map_map]; rfl⟩) rfl (all_cons DS AR) (Gk 3)
theorem fn_toldD (h:Wov cs F gs) (τ:Ab):FN 5 47 [self] (W F gs (hts [] F)++τ) (.d (CZ (A0 (Aj cs)))) (W F gs (hts [] F)++τ):=FN.tail (fn_told' h) rfl (all_cons DS AR) (Gk 3)
structure StOk (sn:Mk->List Nat->Bool) (p:List (List Nat)) (n:List Nat) (pd:List Deed) (B:Nat) (st:List (Mk×List (List Nat))):Prop where
 get:∀ m,(Ao st m).getD []=p.filter (sn m)++(if pd.any (Dm m) then [n] else [])
 len:st.length<=B
theorem fn_setters (h:Wov cs F gs) (τ:Ab):∃ st:List (Mk×List (List Nat)),(∀ m,(Ao st m).getD []=(Al (nms cs)).filter fun n=>decide (n∈Bs cs m))/\FN 3 49 [self] (W F gs (hts [] F)++τ) (.ref (W F gs (hts [] F)++τ).length) ((W F gs (hts [] F)++τ)++[oS st]):=by
 let σ0:=W F gs (hts [] F)++τ
 let sn:Mk->List Nat->Bool:=fun m n=>decide (n∈Bs cs m)
 have ndL:(Al (nms cs)).Nodup:=CF (BJ _ h.H.nd)
 have hLl:(Al (nms cs)).length<=60:=by rw [(A1 _).length_eq,List.length_map]; exact h.len
 let C:=C0 2
 have at0:∀ {o:O},(σ0++[o])[σ0.length]? = some o:=fun {o}=>by rw [List.getElem?_append_right (Nat.le_refl _),Nat.sub_self]; rfl
 have set0:∀ {o o':O},(σ0++[o]).set σ0.length o'=σ0++[o']:=fun {o o'}=>by rw [List.set_append_right _ _ (Nat.le_refl _),Nat.sub_self]; rfl
 obtain ⟨v,σ',⟨st,k1,k2,k3⟩,hf⟩:=FN.ends (C:=C) (f:=49) (fn:=Ei) (zs:=[self]) (σ:=σ0) (R:=fun v σ'=>∃ st:List (Mk×List (List Nat)),(∀ m,(Ao st m).getD []=(Al (nms cs)).filter (sn m))/\v=.ref σ0.length/\σ'=σ0++[oS st]) (by unfold Pg; rfl) rfl (show 1<=2 by decide) (by
  let K:Option V->Option V->Af:=fun z2 z3=>[some self,some (.ref σ0.length),z2,z3]
  show Ah C _ _ [some self,none,none,none] σ0
  refine go_asgP ?_
  refine GD (l:=Al (nms cs)) vs (fun p ρ σ=>∃ st,StOk sn p [] [] (20 * p.length) st/\(∃ z2 z3,ρ=K z2 z3)/\σ=σ0++[oS st]) (SI.lst (.mcall (f:=40) AK (by unfold mtP; kernel_rfl) ((Ae C.ok (.var 0)).v rfl) .nil (fn_namesD h (τ++[.dictP []]))) (by show some (((Al (nms cs)).map fun t=>PyData.str (Tx t)).map V.d)=_; rw [List.map_map]; rfl)) ⟨[],⟨fun m=>rfl,Nat.zero_le _⟩,⟨none,none,rfl⟩,rfl⟩ ?_ ?_
  ·rintro p n q ρ _ e ⟨st,S,⟨z2,z3,rfl⟩,rfl⟩
   have hn:n∈nms cs:=(A1 _).mem_iff.mp (by rw [e]; simp)
   have hnp:n∉p:=fun r=>by rw [e,List.nodup_append] at ndL; exact ndL.2.2 n r n (.head _) rfl
   obtain ⟨c,hc,rfl⟩:=List.mem_map.mp hn
   have hcF:c∈F:=h.perm.mem_iff.mpr hc
   have hg:=h.gen c hc
   have hpl:p.length<=60:=by
    have:=congrArg List.length e
    rw [List.length_append,List.length_cons] at this; omega
   show Ah C _ _ (K (some (vs c.1)) z3) (σ0++[oS st])
   refine AL (l:=c.2.2) (fun d=>.d d.data) (fun pd ρ σ=>∃ st,StOk sn p c.1 pd (20 * p.length+pd.length) st/\(∃ z3,ρ=K (some (vs c.1)) z3)/\σ=σ0++[oS st]) (BA (Ag (Ag (Ef rfl) rfl (CV (a:=c.1) (kvs:=AM Tx Ch.data (hK F)) rfl (by rw [AY Ch.data Cc,getH h.w.nd hcF]; rfl))) rfl (BR c)) rfl) ⟨st,⟨fun m=>(S.get m).trans rfl,S.len⟩,⟨_,rfl⟩,rfl⟩ ?_ ?_
   ·rintro pd d qd ρ _ ed ⟨st,S,⟨z3,rfl⟩,rfl⟩
    have hw:C.t (.cmp .Eq (.sub (.var 3) (.cst (.int 0))) (.cst (.str (Str.ofString "set")))) (K (some (vs c.1)) (some (.d d.data))) (σ0++[oS st])=some (decide (d.word=DV)):=As (Ag rfl rfl (Cn d)) (congrArg (fun s=>some (V.d (.str s))) Fe) EB
    have any_sn:∀ m,(pd++[d]).any (Dm m)=(pd.any (Dm m)||Dm m d):=fun m=>by rw [List.any_append]; congr 1; exact Bool.or_false _
    have hlen:20 * p.length+(pd++[d]).length=20 * p.length+pd.length+1:=by rw [List.length_append]; rfl
    have hget:∀ {m:Mk},d.mark=some m->(ev C.O (.meth .get (.var 1) (.cons (.sub (.var 3) (.cst (.int 1))) (.cons (.lst .nil) .nil)))).v (K (some (vs c.1)) (some (.d d.data))) (σ0++[oS st])=some (.d (dl ((Ao st m).getD []))):=fun {m} em=>by
     rw [e_get (k:=σ0.length) (m:=m) (z:=.d (.list [])) (kvs:=AM mk2 dl st) rfl (Bb ((Ag rfl rfl (Co d)).trans (by rw [em])) rfl) at0,dfl_st]
    by_cases ew:d.word=DV
    ·obtain ⟨m,em⟩:∃ m,d.mark=some m:=by
      rcases (hg.ok d (by rw [ed]; simp)).shp with ⟨e1,_⟩ | ⟨_,m,l,e2,_⟩ | ⟨e1,m,e2⟩
      ·exact absurd (ew.symm.trans e1) (by decide)
      ·exact ⟨m,e2⟩
      ·exact ⟨m,e2⟩
     have sd:∀ m',Dm m' d=decide (m=m'):=fun m'=>by
      unfold Dm
      rw [decide_eq_true ew,em,Bool.true_and]
      exact decide_eq_decide.mpr ⟨fun e=>Option.some.inj e,fun e=>e▸rfl⟩
     have hin:(c.1∈(Ao st m).getD []) ↔ pd.any (Dm m)=true:=by
      rw [S.get m,List.mem_append]
      constructor
      ·rintro (r | r)
       ·exact absurd (List.mem_filter.mp r).1 hnp
       ·by_cases q:pd.any (Dm m)=true
        ·exact q
        ·rw [if_neg q] at r; cases r
      ·intro r
       rw [if_pos r]; exact .inr (.head _)
     refine A3 (t:=decide (d.word=DV) && !decide (c.1∈(Ao st m).getD [])) (Ci hw fun _=>As rfl (hget em) (by rw [c_nin,Dt]; rfl)) (fun hh=>?_) fun hh=>?_
     ·have hh:c.1∉(Ao st m).getD []:=of_decide_eq_false (by have:=(Bool.and_eq_true_iff.mp hh).2; rw [Bool.not_eq_true'] at this; exact this)
      have hno:pd.any (Dm m)=false:=by
       cases q:pd.any (Dm m) with
       | false=>rfl
       | true=>exact absurd (hin.mpr q) hh
      have hgl:((Ao st m).getD []).length<=60:=by
       rw [S.get m,hno,if_neg (by decide),List.append_nil]
       exact Nat.le_trans (List.length_filter_le _ _) hpl
      have hdl:c.2.2.length<=20:=hg.deeds
      have hpd:pd.length<=20:=by
       have:=congrArg List.length ed
       rw [List.length_append,List.length_cons] at this; omega
      have hsl:=S.len
      refine Dv (k:=σ0.length) (w:=mk2 m) (dd:=dl ((Ao st m).getD []++[c.1])) (kvs:=AM mk2 dl st) (Ai (hget em) (y:=.d (dl [c.1])) rfl ((b_catL _ _ ?_).trans (by rw [<-List.map_append]))) rfl ((Ag rfl rfl (Co d)).trans (by rw [em]; rfl)) at0 (by rw [Bq]; exact Nat.lt_of_le_of_lt (show st.length<=10000 by omega) (by decide)) (Ad (Ad ⟨_,rfl,BD st m ((Ao st m).getD []++[c.1]),⟨fun m'=>?_,?_⟩,⟨_,rfl⟩,?_⟩))
      ·rw [List.length_map,List.length_map]; exact Nat.le_trans (show _+1<=100 by omega) (by decide)
      ·rw [get_put,any_sn,sd]
       by_cases q:m'=m
       ·subst q
        rw [if_pos rfl,decide_eq_true rfl,Bool.or_true,if_pos rfl]
        show (Ao st m').getD []++[c.1]=_
        rw [S.get m',hno,if_neg (by decide),List.append_nil]
       ·rw [if_neg q,decide_eq_false fun r=>q r.symm,Bool.or_false]; exact S.get m'
      ·rw [hlen]; exact Nat.le_trans (Ej _ _ _) (Nat.succ_le_succ S.len)
      ·rw [Bo dl CH,set0]
     ·have hh:c.1∈(Ao st m).getD []:=by
       rw [decide_eq_true ew,Bool.true_and] at hh
       exact of_decide_eq_true (by cases r:decide (c.1∈(Ao st m).getD []) with | true=>rfl | false=>rw [r] at hh; cases hh)
      refine Ad (Ad ⟨_,rfl,st,⟨fun m'=>?_,by rw [hlen]; exact Nat.le_succ_of_le S.len⟩,⟨_,rfl⟩,rfl⟩)
      rw [any_sn,sd,S.get m']
      by_cases q:m=m'
      ·subst q
       rw [hin.mp hh]; rfl
      ·rw [decide_eq_false q,Bool.or_false]
    ·refine B4 (Ci (q:=true) hw (fun q=>absurd (of_decide_eq_true q) ew)) (by rw [decide_eq_false ew]; rfl) (Ad ⟨_,rfl,st,⟨fun m=>?_,by rw [hlen]; exact Nat.le_succ_of_le S.len⟩,⟨_,rfl⟩,rfl⟩)
     rw [any_sn,show Dm m d=false by unfold Dm; rw [decide_eq_false ew]; rfl,Bool.or_false]
     exact S.get m
   ·rintro ρ _ ⟨st,S,⟨z3,rfl⟩,rfl⟩
    refine Ad ⟨_,rfl,st,⟨fun m=>?_,?_⟩,⟨_,_,rfl⟩,rfl⟩
    ·rw [S.get m,List.filter_append]
     show _=(p.filter (sn m)++[c.1].filter (sn m))++[]
     rw [List.append_nil,List.filter_cons]
     have:sn m c.1=c.2.2.any (Dm m):=by
      by_cases q:c.2.2.any (Dm m)=true
      ·rw [q]; exact decide_eq_true (List.mem_map_of_mem (List.mem_filter.mpr ⟨hc,q⟩))
      ·rw [Bool.not_eq_true] at q
       rw [q]
       refine decide_eq_false fun r=>?_
       obtain ⟨c',hc',e'⟩:=List.mem_map.mp r
       obtain ⟨h1,h2⟩:=List.mem_filter.mp hc'
       rw [G7 h.H.nd h1 hc e'] at h2
       exact Bool.false_ne_true (q.symm.trans h2)
     rw [this]; rfl
    ·have:=hg.deeds
     have:=S.len
     rw [List.length_append,show [c.1].length=1 from rfl]; omega
  ·rintro ρ _ ⟨st,S,⟨z2,z3,rfl⟩,rfl⟩
   exact A6 (v:=.ref σ0.length) rfl ⟨st,fun m=>(S.get m).trans (List.append_nil _),rfl,rfl⟩)
 rw [k2,k3] at hf
 exact ⟨st,k1,hf⟩
end
end Mine
namespace Mine
open PySem
noncomputable abbrev gdL (gs:List (List Nat×List (List Nat))) (o:List Nat):List (List Nat):=(Ao gs o).getD []
noncomputable def opB (gs:List (List Nat×List (List Nat))) (ns:List (List Nat)) (n:List Nat):Bool:=!ns.any fun o=>decide (n∈gdL gs o)
section
variable {cs F:List Ch} {gs:List (List Nat×List (List Nat))}
theorem fn_open {σ:Ab} (hσ:σ[1]? = some (oG gs)) {ns:List (List Nat)} (hn:∀ n∈ns,n∈gs.map (·.1)) (hl:ns.length<=60):FN 2 50 [self,.d (dl ns)] σ (.ref σ.length) (σ++[.list ((ns.filter (opB gs ns)).map vs)]):=by
 let C:=C0 1
 have at0:∀ {o:O},(σ++[o])[σ.length]? = some o:=fun {o}=>by rw [List.getElem?_append_right (Nat.le_refl _),Nat.sub_self]; rfl
 have set0:∀ {o o':O},(σ++[o]).set σ.length o'=σ++[o']:=fun {o o'}=>by rw [List.set_append_right _ _ (Nat.le_refl _),Nat.sub_self]; rfl
 have at1:∀ {o:O},(σ++[o])[1]? = some (oG gs):=fun {o}=>(List.getElem?_append_left (List.getElem?_eq_some_iff.mp hσ).1).trans hσ
 obtain ⟨v,σ',⟨k2,k3⟩,hf⟩:=FN.ends (C:=C) (f:=50) (fn:=Dk) (zs:=[self,.d (dl ns)]) (σ:=σ) (R:=fun v σ'=>v=.ref σ.length/\σ'=σ++[.list ((ns.filter (opB gs ns)).map vs)]) (by unfold Pg; rfl) rfl (Nat.le_refl _) (by
  let K:Option V->Af:=fun z3=>[some self,some (.d (dl ns)),some (.ref σ.length),z3,none]
  show Ah C _ _ [some self,some (.d (dl ns)),none,none,none] σ
  refine Bj (ws:=[]) rfl ?_
  refine AL (l:=ns) vs (fun p ρ σ'=>(∃ z3,ρ=K z3)/\σ++[.list ((p.filter (opB gs ns)).map vs)]=σ') (Gl rfl) ⟨⟨none,rfl⟩,rfl⟩ ?_ ?_
  ·rintro p n q ρ _ e ⟨⟨z3,rfl⟩,rfl⟩
   have hpl:(p.filter (opB gs ns)).length<=60:=by
    have h1:=List.length_filter_le (opB gs ns) p
    have h2:=congrArg List.length e
    rw [List.length_append,List.length_cons] at h2; omega
   have hcomp:(ev C.O (.comp (.cmp .In (.var 3) (.sub (.attr (Str.ofString "grounds") (.var 0)) (.var 4))) [4] (.var 1) .nil)).v (K (some (vs n))) (σ++[.list ((p.filter (opB gs ns)).map vs)])=some (.d (.list (ns.map fun o=>.bool (decide (n∈gdL gs o))))):=by
    rw [CC (l:=ns) (fun t=>.str (Tx t)) (fun _=>true) (fun o=>.bool (decide (n∈gdL gs o))) (BA rfl rfl) (Nat.le_trans hl (by decide)) (fun _ _=>rfl) (fun o ho _=>?_),BM]
    obtain ⟨ls,hls⟩:=AF.mpr (hn o ho)
    refine EC (x:=vs n) (y:=.d (dl (gdL gs o))) rfl (Ag (Gb rfl) rfl (CV (a:=o) at1 (by rw [AY dl Cc,gdL,hls]; rfl))) ?_
    rw [c_in,Dt]
   refine A3 (t:=opB gs ns n) (BO (CS (Az hcomp) (any_bools _ _))) (fun h=>?_) fun h=>?_
   ·refine AJ (k:=σ.length) (ws:=(p.filter (opB gs ns)).map vs) (y:=vs n) rfl rfl at0 (by rw [List.length_map]; exact Nat.lt_of_le_of_lt hpl (by decide)) (Ad (Ad ⟨_,rfl,⟨_,rfl⟩,?_⟩))
    rw [set0,List.filter_append,List.filter_cons_of_pos h,List.map_append]; rfl
   ·refine Ad (Ad ⟨_,rfl,⟨_,rfl⟩,?_⟩)
    rw [List.filter_append,List.filter_cons_of_neg (by rw [h]; exact Bool.false_ne_true)]
    show σ++[O.list ((p.filter (opB gs ns)++[]).map vs)]=_
    rw [List.append_nil]
  ·rintro ρ _ ⟨⟨z3,rfl⟩,rfl⟩
   exact A6 (v:=.ref σ.length) rfl ⟨rfl,rfl⟩)
 rw [k2,k3] at hf
 exact hf
noncomputable def onF (cs:List Ch) (gs:List (List Nat×List (List Nat))) (m:Mk):List (List Nat):=((Al (nms cs)).filter fun n=>decide (n∈Bs cs m)).filter (opB gs ((Al (nms cs)).filter fun n=>decide (n∈Bs cs m)))
theorem on_len (h:Wov cs F gs) (m:Mk):(onF cs gs m).length<=60:=by
 have h1:=List.length_filter_le (opB gs ((Al (nms cs)).filter fun n=>decide (n∈Bs cs m))) ((Al (nms cs)).filter fun n=>decide (n∈Bs cs m))
 have h2:=List.length_filter_le (fun n=>decide (n∈Bs cs m)) (Al (nms cs))
 rw [(A1 _).length_eq,List.length_map] at h2
 exact Nat.le_trans h1 (Nat.le_trans h2 h.len)
theorem on_opn (h:Wov cs F gs) (m:Mk):Opn cs m (onF cs gs m):=by
 have mem:∀ o,o∈((Al (nms cs)).filter fun n=>decide (n∈Bs cs m)) ↔ o∈Bs cs m:=fun o=>by
  rw [List.mem_filter,(A1 _).mem_iff]
  exact ⟨fun q=>of_decide_eq_true q.2,fun q=>⟨Dc q,decide_eq_true q⟩⟩
 have ground:∀ o∈Bs cs m,∀ n,n∈gdL gs o ↔ Blw cs o n:=fun o ho n=>by
  have hoF:o∈gs.map (·.1):=by rw [h.w.gk]; exact (h.perm.map _).mem_iff.mpr (Dc ho)
  obtain ⟨ls,hls⟩:=AF.mpr hoF
  obtain ⟨pr,hpr,epr,epl⟩:∃ pr∈gs,pr.2=ls/\pr.1=o:=by
   unfold Ao at hls
   obtain ⟨pr,e1,e2⟩:=Option.map_eq_some_iff.mp hls
   exact ⟨pr,List.mem_of_find?_eq_some e1,e2,by simpa using List.find?_some e1⟩
  have:=(h.w.gin pr hpr).2 n
  rw [epr,epl] at this
  rw [gdL,hls]
  exact this.trans ⟨Blw.mono fun c hc=>h.perm.mem_iff.mp hc,Blw.mono fun c hc=>h.perm.mem_iff.mpr hc⟩
 refine ⟨((BJ _ h.H.nd).filter _).filter _,fun n=>?_⟩
 unfold onF
 rw [List.mem_filter,mem]
 refine and_congr_right fun hn=>?_
 unfold opB
 rw [Bool.not_eq_true',List.any_eq_false]
 constructor
 ·rintro q ⟨o,ho,hb⟩
  exact q o ((mem o).mpr ho) (decide_eq_true ((ground o ho n).mpr hb))
 ·intro q o ho r
  have ho:=(mem o).mp ho
  exact q ⟨o,ho,(ground o ho n).mp (of_decide_eq_true r)⟩
noncomputable def itm (on:Mk->List (List Nat)):List Pr->Nat->List V
 | [],_=>[]
 | x::p,j=>(if 1 < (on x.1).length then [.tup [.inl (Ay (some x.1)),.inr j]] else [])++itm on p (j+1)
theorem itm_snoc (on:Mk->List (List Nat)) (x:Pr):∀ (p:List Pr) (j:Nat),itm on (p++[x]) j=itm on p j++(if 1 < (on x.1).length then [.tup [.inl (Ay (some x.1)),.inr (j+p.length)]] else [])
 | [],j=>by show (if _ then _ else _)++[]=_; rw [List.append_nil]; rfl
 | y::p,j=>by
  show _++itm on (p++[x]) (j+1)=(_++itm on p (j+1))++_
  rw [itm_snoc on x p (j+1),List.append_assoc,show j+1+p.length=j+(y::p).length by rw [List.length_cons]; omega]
theorem itm_len (on:Mk->List (List Nat)):∀ (p:List Pr) (j:Nat),(itm on p j).length<=p.length
 | [],_=>Nat.le_refl _
 | x::p,j=>by
  have:=itm_len on p (j+1)
  show ((if _ then _ else _)++itm on p (j+1)).length<=p.length+1
  rw [List.length_append]
  split
  ·show 1+_<=_; omega
  ·show 0+_<=_; omega
noncomputable abbrev lsO (on:Mk->List (List Nat)) (p:List Pr):Ab:=p.map fun x=>.list ((on x.1).map vs)
theorem fn_questions (h:Wov cs F gs) (τ:Ab):∃ st,FN 6 51 [self] (W F gs (hts [] F)++τ) (.ref (W F gs (hts [] F)++τ).length) ((W F gs (hts [] F)++τ)++(.list (itm (onF cs gs) (Ba (A0 (Aj cs))) ((W F gs (hts [] F)++τ).length+2))::oS st::lsO (onF cs gs) (Ba (A0 (Aj cs))))):=by
 let σ0:=W F gs (hts [] F)++τ
 let on:=onF cs gs
 let T:=Ba (A0 (Aj cs))
 have hO:=Cm h.H.nd
 have hs:=Ee (A:=Aj cs) fun c hc=>h.gen c (hO.perm.mem_iff.mp hc)
 have hol:(Aj cs).length<=60:=by rw [hO.perm.length_eq]; exact h.len
 have hT:T.length<=10000:=Nat.le_trans EI (Nat.le_trans hs.row (by omega))
 obtain ⟨st,s1,s2⟩:=fn_setters h (τ++[.list []])
 let C:=C0 5
 let St:List Pr->Ab:=fun p=>σ0++(.list (itm on p (σ0.length+2))::oS st::lsO on p)
 have at0:∀ {o:O} {r:Ab},(σ0++(o::r))[σ0.length]? = some o:=fun {o r}=>by rw [List.getElem?_append_right (Nat.le_refl _),Nat.sub_self]; rfl
 have set0:∀ {o o':O} {r:Ab},(σ0++(o::r)).set σ0.length o'=σ0++(o'::r):=fun {o o' r}=>by rw [List.set_append_right _ _ (Nat.le_refl _),Nat.sub_self]; rfl
 have at1:∀ {o o':O} {r:Ab},(σ0++(o::o'::r))[σ0.length+1]? = some o':=fun {o o' r}=>by rw [List.getElem?_append_right (Nat.le_succ _),show σ0.length.succ-σ0.length=1 by omega]; rfl
 have Sl:∀ p,(St p).length=σ0.length+2+p.length:=fun p=>by
  show (σ0++(_::_::lsO on p)).length=_
  rw [List.length_append,List.length_cons,List.length_cons,List.length_map]; omega
 refine ⟨st,?_⟩
 obtain ⟨v,σ',⟨k2,k3⟩,hf⟩:=FN.ends (C:=C) (f:=51) (fn:=Dj) (zs:=[self]) (σ:=σ0) (R:=fun v σ'=>v=.ref σ0.length/\σ'=St T) (by unfold Pg; rfl) rfl (show 1<=5 by decide) (by
  let K:Option V->Option V->Af:=fun z3 z4=>[some self,some (.ref σ0.length),some (.ref (σ0.length+1)),z3,z4]
  show Ah C _ _ [some self,none,none,none,none] σ0
  refine Bj (ws:=[]) rfl ?_
  refine AB (v:=.ref (σ0.length+1)) (σ':=St []) rfl ?_ ?_
  ·have hm:SE C.n (.mcall (Str.ofString "setters") (.var 0) .nil) [some self,some (.ref σ0.length),none,none,none] (σ0++[O.list []]) (.ref (W F gs (hts [] F)++(τ++[O.list []])).length) ((W F gs (hts [] F)++(τ++[O.list []]))++[oS st]):=.mcall (f:=49) AK (by unfold mtP; kernel_rfl) ((Ae C.ok (.var 0)).v rfl) .nil (s2.more (show 3<=5 by decide))
   have e1:(W F gs (hts [] F)++(τ++[O.list []])).length=σ0.length+1:=by
    show ((W F gs (hts [] F)++τ)++[O.list []]).length=_
    rw [List.length_append]; rfl
   have e2:(W F gs (hts [] F)++(τ++[O.list []]))++[oS st]=St []:=by
    show (σ0++[O.list []])++[oS st]=σ0++[O.list [],oS st]
    rw [List.append_assoc]; rfl
   rw [e1,e2] at hm; exact hm
  refine GD (l:=T) (fun x=>.d (prD x)) (fun p ρ σ=>(∃ z3 z4,ρ=K z3 z4)/\σ=St p) (SI.lst (.mcall (f:=47) AK (by unfold mtP; kernel_rfl) ((Ae C.ok (.var 0)).v rfl) .nil (fn_toldD h (τ++(.list []::oS st::[])))) (by show some ((T.map prD).map V.d)=_; rw [List.map_map]; rfl)) ⟨⟨none,none,rfl⟩,rfl⟩ ?_ ?_
  ·rintro p x q ρ _ e ⟨⟨z3,z4,rfl⟩,rfl⟩
   have hpl:p.length<=10000:=by
    have h2:=congrArg List.length e
    rw [List.length_append,List.length_cons] at h2; omega
   have hsub:∀ n∈((Al (nms cs)).filter fun n=>decide (n∈Bs cs x.1)),n∈gs.map (·.1):=fun n hn=>by
    rw [h.w.gk]
    exact (h.perm.map _).mem_iff.mpr ((A1 _).mem_iff.mp (List.mem_filter.mp hn).1)
   have hsl:((Al (nms cs)).filter fun n=>decide (n∈Bs cs x.1)).length<=60:=by
    have h2:=List.length_filter_le (fun n=>decide (n∈Bs cs x.1)) (Al (nms cs))
    rw [(A1 _).length_eq,List.length_map] at h2
    exact Nat.le_trans h2 h.len
   have hx:∀ {z4:Option V} {σ:Ab},(ev C.O (.sub (.var 3) (.cst (.int 0)))).v (K (some (.d (prD x))) z4) σ=some (vm x.1):=Ag rfl rfl rfl
   have hget:(ev C.O (.meth .get (.var 2) (.cons (.sub (.var 3) (.cst (.int 0))) (.cons (.lst .nil) .nil)))).v (K (some (.d (prD x))) z4) (St p)=some (.d (dl ((Al (nms cs)).filter fun n=>decide (n∈Bs cs x.1)))):=by
    rw [e_get (k:=σ0.length+1) (m:=x.1) (z:=.d (.list [])) (kvs:=AM mk2 dl st) rfl (Bb hx rfl) at1,dfl_st,s1]
   refine AB (v:=.ref (St p).length) (σ':=St p++[O.list ((onF cs gs x.1).map vs)]) rfl (.mcall (f:=50) AK (by unfold mtP; kernel_rfl) ((Ae C.ok (.var 0)).v rfl) ((Ae C.ok _).row (Az hget)) ((fn_open (gs:=gs) (σ:=St p) rfl hsub hsl).more (show 2<=5 by decide))) ?_
   have hon:=on_len h x.1
   have eS:∀ o:O,(St p++[o])=σ0++(.list (itm on p (σ0.length+2))::oS st::(lsO on p++[o])):=fun o=>List.append_assoc _ _ _
   have atL:(St p++[O.list ((on x.1).map vs)])[(St p).length]? = some (.list ((on x.1).map vs)):=by rw [List.getElem?_append_right (Nat.le_refl _),Nat.sub_self]; rfl
   have fin:∀ L:List V,L=itm on (p++[x]) (σ0.length+2)->σ0++(O.list L::oS st::(lsO on p++[O.list ((on x.1).map vs)]))=St (p++[x]):=fun L eL=>by
    show _=σ0++(O.list (itm on (p++[x]) (σ0.length+2))::oS st::lsO on (p++[x]))
    rw [eL,lsO,lsO,List.map_append]; rfl
   show Ah C _ _ (K (some (.d (prD x))) (some (.ref (St p).length))) _
   refine A3 (t:=decide (((on x.1).length:Int) > 1)) (As (AN (Az rfl) ((len_r atL).trans (by rw [List.length_map]))) rfl c_gt) (fun hh=>?_) fun hh=>?_
   ·have hh:=of_decide_eq_true hh
    refine AJ (k:=σ0.length) (ws:=itm on p (σ0.length+2)) (y:=.tup [.inl (Ay (some x.1)),.inr (St p).length]) rfl (Az (BN (Bb hx rfl) rfl)) (by rw [eS]; exact at0) (Nat.lt_of_le_of_lt (Nat.le_trans (itm_len on p _) hpl) (by decide)) (Ad (Ad ⟨_,rfl,⟨_,_,rfl⟩,?_⟩))
    rw [eS,set0]
    exact fin _ (by rw [itm_snoc,if_pos (by omega),Sl])
   ·have hh:=of_decide_eq_false hh
    refine Ad (Ad ⟨_,rfl,⟨_,_,rfl⟩,?_⟩)
    rw [eS]
    exact fin _ (by rw [itm_snoc,if_neg (by omega),List.append_nil])
  ·rintro ρ _ ⟨⟨z3,z4,rfl⟩,rfl⟩
   exact A6 (v:=.ref σ0.length) rfl ⟨rfl,rfl⟩)
 rw [k2,k3] at hf
 exact hf
end
end Mine
namespace Mine
open PySem
section
variable {on:Mk->List (List Nat)}
noncomputable def qix (on:Mk->List (List Nat)):List Pr->Nat->List (Mk×Nat)
 | [],_=>[]
 | x::p,j=>(if 1 < (on x.1).length then [(x.1,j)] else [])++qix on p (j+1)
noncomputable abbrev itV (y:Mk×Nat):V:=.tup [.inl (Ay (some y.1)),.inr y.2]
noncomputable abbrev duV (on:Mk->List (List Nat)) (m:Mk):PyData:=.tuple [Ay (some m),dl (on m)]
theorem itm_eq:∀ (p:List Pr) (j:Nat),itm on p j=(qix on p j).map itV
 | [],_=>rfl
 | x::p,j=>by
  show _++itm on p (j+1)=((if _ then _ else _)++qix on p (j+1)).map itV
  rw [List.map_append,itm_eq p (j+1)]
  congr 1
  split <;> rfl
noncomputable abbrev duL (on:Mk->List (List Nat)) (p:List Pr):List PyData:=(p.filter fun x=>decide (1 < (on x.1).length)).map fun x=>duV on x.1
theorem du_eq:∀ (p:List Pr) (j:Nat),(qix on p j).map (fun y=>duV on y.1)=duL on p
 | [],_=>rfl
 | x::p,j=>by
  show ((if _ then _ else _)++qix on p (j+1)).map _=(List.filter _ (x::p)).map _
  rw [List.map_append,du_eq p (j+1),List.filter_cons]
  by_cases q:1 < (on x.1).length
  ·rw [if_pos q,if_pos (decide_eq_true q)]; rfl
  ·rw [if_neg q,if_neg (by rw [decide_eq_false q]; exact Bool.false_ne_true)]; rfl
theorem qix_at {σ:Ab}:∀ {p:List Pr} {j:Nat} {y:Mk×Nat},y∈qix on p j->(∀ i x,p[i]? = some x->σ[j+i]? = some (.list ((on x.1).map vs)))->j<=y.2/\σ[y.2]? = some (.list ((on y.1).map vs))
 | [],_,_,h,_=>nomatch h
 | x::p,j,y,h,hs=>by
  rcases List.mem_append.mp (show y∈(if 1 < (on x.1).length then [(x.1,j)] else [])++qix on p (j+1) from h) with h | h
  ·by_cases q:1 < (on x.1).length
   ·rw [if_pos q] at h
    rw [List.mem_singleton.mp h]
    exact ⟨Nat.le_refl _,hs 0 x rfl⟩
   ·rw [if_neg q] at h; cases h
  ·obtain ⟨h1,h2⟩:=qix_at h fun i x' e=>by
    have:=hs (i+1) x' e
    rw [show j+1+i=j+(i+1) by omega]; exact this
   exact ⟨by omega,h2⟩
theorem zipV_pr:∀ Y:List (Mk×Nat),E0 (Y.map itV) ((Y.map fun y=>duV on y.1).map .d)=Y.map fun y=>V.pr (itV y) (.d (duV on y.1))
 | []=>rfl
 | y::Y=>congrArg (V.pr (itV y) (.d (duV on y.1)) :: ·) (zipV_pr Y)
theorem isi_ref {σ:Ab} {k:Nat} {ws:List V} (h:σ[k]? = some (.list ws)):Bx .isinstance σ [.ref k,.ty "list"]=some (vb true):=by
 show ((tyOf σ (.ref k)).bind _).bind _=_
 rw [show tyOf σ (.ref k)=some "list" by show (Cr σ[k]?).bind _=_; rw [h]; rfl]
 rfl
theorem fn_asked {σ:Ab} {k:Nat} {Y:List (Mk×Nat)} (h0:σ[k]? = some (.list (Y.map itV))) (hY:∀ y∈Y,σ[y.2]? = some (.list ((on y.1).map vs))/\(on y.1).length<=60):FN 4 32 [.ref k,.d (.list (Y.map fun y=>duV on y.1))] σ (vb true) σ:=by
 let C:Cfg:=(C5 3 (by decide)).know 24 (vb true) (fun xs σ'=>σ'=σ/\∃ y∈Y,xs=[.ref y.2,.d (dl (on y.1))]) (by
  rintro _ _ ⟨rfl,y,hy,rfl⟩
  refine (Dx (on y.1) (.inr ⟨y.2,rfl,?_⟩) (Nat.le_trans (hY y hy).2 (by decide))).more (show 2<=3 by decide)
  rw [(hY y hy).1,List.map_map]; rfl)
 obtain ⟨v,σ',⟨h1,h2⟩,h⟩:=FN.ends (C:=C) (f:=32) (fn:=Fasked) (zs:=[.ref k,.d (.list (Y.map fun y=>duV on y.1))]) (σ:=σ) (R:=fun v σ'=>v=vb true/\σ'=σ) (by unfold Pg; rfl) rfl (show 1<=3 by decide) (by
  let K:Option V->Option V->Af:=fun z2 z3=>[some (.ref k),some (.d (.list (Y.map fun y=>duV on y.1))),z2,z3]
  show Ah C _ _ (K none none) σ
  refine B4 (CR (p:=false) (q:=false) (BO (p:=true) (CS (Bb rfl rfl) (isi_ref h0))) (fun _=>(As (AN (Az rfl) (len_r h0)) (AN (Az rfl) Cs) DQ).trans (by rw [List.length_map,List.length_map,decide_eq_true rfl]; rfl))) rfl ?_
  refine DY (l:=Y) (kps:=[(k,Y.map itV)]) (fun y=>V.pr (itV y) (.d (duV on y.1))) (fun _ ρ σ'=>(∃ z2 z3,ρ=K z2 z3)/\σ=σ') ?_ ?_ (fun _ _=>.inr ⟨_,rfl,rfl⟩) ⟨⟨none,none,rfl⟩,rfl⟩ ?_ ?_
  ·show (Ax σ (.ref k)).bind (fun ds=>(Ax σ (.d (.list (Y.map fun y=>duV on y.1)))).bind fun ds'=>some (E0 ds ds',CA (.ref k) ds++CA (.d (.list (Y.map fun y=>duV on y.1))) ds'))=_
   rw [show Ax σ (.ref k)=some (Y.map itV) by show Cr σ[k]? = _; rw [h0]; rfl,bs]
   show some (E0 (Y.map itV) ((Y.map fun y=>duV on y.1).map .d),_)=_
   rw [zipV_pr]; rfl
  ·rintro p ρ _ ⟨_,rfl⟩ k' ws hk
   obtain ⟨rfl,rfl⟩:=Prod.mk.inj (List.mem_singleton.mp hk)
   exact h0
  ·rintro p y q ρ _ e ⟨⟨z2,z3,rfl⟩,rfl⟩
   show Ah C _ _ (K (some (itV y)) (some (.d (duV on y.1)))) σ
   refine B4 (e_or3 (p:=false) (q:=false) (s:=false) (BO (p:=true) (CS (Bb rfl rfl) rfl)) (fun _=>As (AN (Az rfl) rfl) rfl DQ) fun _ _=>BO (p:=true) (Gp (Bb (x:=vm y.1) (y:=vm y.1) (Ag rfl rfl rfl) (Ag rfl rfl rfl)) (FP y.1))) rfl ?_
   exact B4 (BO (p:=true) (Gp (Bb (x:=.ref y.2) (y:=.d (dl (on y.1))) (Ag rfl rfl rfl) (Ag rfl rfl rfl)) (GC (C:=C5 3 (by decide)) ⟨rfl,y,by rw [e]; simp,rfl⟩))) rfl (Ad ⟨_,rfl,⟨_,_,rfl⟩,rfl⟩)
  ·rintro ρ _ ⟨⟨z2,z3,rfl⟩,rfl⟩
   exact A6 (v:=vb true) rfl ⟨rfl,rfl⟩)
 rw [h1,h2] at h; exact h
end
theorem go_noS {C:Cfg} {P:Fl->Ab->Prop} {r a:S} {ρ:Af} {σ:Ab} {c:E} (h:ST C.n c ρ σ false σ) (k:Ah C P r ρ σ):Ah C P (.cons (.ite c a .nil) r) ρ σ :=
 Ca (fl:=.next ρ) (fun Q q=>.ite h (fun e=>ff_ e) fun _=>.nil q) k
end Mine
namespace Mine
open PySem
noncomputable def Sh (σ:Ab) (m:Nat) (a b:Option V):Prop:=∀ v',b=some v'->∃ v,a=some v/\((v=v'/\low m v)\/∃ d,v'=.d d/\Sn σ m v d)
section
variable {σ:Ab} {m:Nat} {a b:Option V} {ρ ρ':Af}
theorem F5.nil:F5 σ m [] []:=fun i v e=>Ac e
theorem F5.cons (h:Sh σ m a b) (t:F5 σ m ρ ρ'):F5 σ m (a::ρ) (b::ρ'):=fun i v' e=>by
 cases i with
 | zero =>
  obtain ⟨v,h1,h2⟩:=h v' (Option.some.inj e)
  exact ⟨v,congrArg some h1,h2⟩
 | succ i=>exact t i v' e
theorem Sh.d (d:PyData):Sh σ m (some (.d d)) (some (.d d)):=fun v' e=>⟨_,rfl,.inl ⟨Option.some.inj e,trivial⟩⟩
theorem Sh.no:Sh σ m a none:=fun v' e=>Ac e
theorem Sh.low {v:V} (h:low m v):Sh σ m (some v) (some v):=fun v' e=>⟨_,rfl,.inl ⟨Option.some.inj e,h⟩⟩
theorem Sh.frz {v:V} {d:PyData} (h:Sn σ m v d):Sh σ m (some v) (some (.d d)):=fun v' e=>⟨_,rfl,.inr ⟨d,(Option.some.inj e).symm,h⟩⟩
end
theorem duL_snoc (on:Mk->List (List Nat)) (p:List Pr) (x:Pr):duL on (p++[x])=if 1 < (on x.1).length then duL on p++[duV on x.1] else duL on p:=by
 unfold duL
 rw [List.filter_append,List.filter_cons,List.map_append]
 by_cases q:1 < (on x.1).length
 ·rw [if_pos q,if_pos (decide_eq_true q)]; rfl
 ·rw [if_neg q,if_neg (by rw [decide_eq_false q]; exact Bool.false_ne_true)]; exact List.append_nil _
structure LpOk (Y:List (Mk×Nat)) (b B:Nat) (σ:Ab):Prop where
 lst:σ[b]? = some (.list (Y.map itV))
 its:∀ y∈Y,b < y.2/\∃ ws,σ[y.2]? = some (.list ws)/\ws.length<=B
theorem LpOk.step {Y:List (Mk×Nat)} {b B:Nat} {σ:Ab} (h:LpOk Y b B σ) {y:Mk×Nat} (hy:y∈Y) {ws:List V} (e:σ[y.2]? = some (.list ws)) (hl:ws.length<=B) (v:V):LpOk Y b (B+1) (σ.set y.2 (.list (ws++[v]))):=by
 refine ⟨?_,fun z hz=>⟨(h.its z hz).1,?_⟩⟩
 ·rw [List.getElem?_set_ne (by have:=(h.its y hy).1; omega)]; exact h.lst
 ·obtain ⟨_,us,e2,hl2⟩:=h.its z hz
  by_cases q:y.2=z.2
  ·rw [<-q]
   exact ⟨ws++[v],List.getElem?_set_self (List.getElem?_eq_some_iff.mp e).1,by rw [List.length_append]; exact Nat.succ_le_succ hl⟩
  ·exact ⟨us,(List.getElem?_set_ne q).trans e2,Nat.le_succ_of_le hl2⟩
theorem run08 (ns:List Int) (hns:ns.length<=63):∃ σ',SSs 20 Flaw.body (B6 Flaw [.d (.list (ns.map .int))]) [] (RetIs (vb true) σ'):=by
 obtain ⟨cs,cl,c2,H,c4⟩:=fn_setting ns hns
 obtain ⟨F,hp,ht,f3⟩:=fn_turned cs (ns.getD 0 0) cl c2 H
 obtain ⟨gs,wv,f4⟩:=fn_woven H c2 cl hp ht
 have wov:Wov cs F gs:=⟨H,c2,cl,hp,wv⟩
 let W0:=W F gs (hts [] F)
 let on:=onF cs gs
 let T:=Ba (A0 (Aj cs))
 have hun:∀ m σ,FN 3 31 [.d (.list (cs.map Ch.data)),vm m] σ (.d (dl (on m))) σ:=fun m σ=>by
  obtain ⟨us,u1,_,u3⟩:=fn_unsettled H.nd H.topo cl c2 m
  have:=u3 σ
  rw [u1.uniq (on_opn wov m)] at this; exact this
 have hO:=Cm H.nd
 have hs:=Ee (A:=Aj cs) fun c hc=>c2 c (hO.perm.mem_iff.mp hc)
 have hol:(Aj cs).length<=60:=by rw [hO.perm.length_eq]; exact cl
 have hT:T.length<=10000:=Nat.le_trans EI (Nat.le_trans hs.row (by omega))
 have hst:∀ τ,FN 8 26 [self,.d (.list (cs.map Ch.data))] (W0++τ) (vb true) (W0++τ):=fun τ=>FN.tail (fn_stands wov) rfl (all_cons DS (all_cons (B9 _ _) AR)) (Gk 3)
 have hk26:∀ xs σ,(xs=[self,.d (.list (cs.map Ch.data))]/\σ=W0)->FN (C0 20).n 26 xs σ (vb true) σ:=by rintro _ _ ⟨rfl,rfl⟩; exact (fn_stands wov).more (show 8<=20 by decide)
 let C1:Cfg:=(C0 20).know 26 (vb true) (fun xs σ=>xs=[self,.d (.list (cs.map Ch.data))]/\σ=W0) hk26
 have o26:C1.O 26 [self,.d (.list (cs.map Ch.data))] W0=some (vb true):=GC (C:=C0 20) ⟨rfl,rfl⟩
 have hk9:∀ xs (σ:Ab),(xs=[.d (scD ns),vi 1])->FN C1.n 9 xs σ (vi (ns.getD 1 0)) σ:=by rintro _ σ rfl; exact (GE ns 1 (by decide) (by decide)).more (show 2<=20 by decide)
 let C:Cfg:=C1.know 9 (vi (ns.getD 1 0)) (fun xs _=>xs=[.d (scD ns),vi 1]) hk9
 have o9:∀ σ,C.O 9 [.d (scD ns),vi 1] σ=some (vi (ns.getD 1 0)):=fun σ=>GC (C:=C1) rfl
 have o26':C.O 26 [self,.d (.list (cs.map Ch.data))] W0=some (vb true):=o26
 obtain ⟨rD,hmod⟩:∃ rD,∀ σ,FN 4 20 [.d (.list (cs.map Ch.data))] σ (.d (.tuple [rD,.list (T.map prD)])) σ:=⟨_,fn_model H c2 cl⟩
 have hmi:∀ {ρ:Af} {σ:Ab},B7 ρ 1=some (.d (.list (cs.map Ch.data)))->SI C.n (.sub (.fcall 20 (.cons (.var 1) .nil)) (.cst (.int 1))) ρ σ (T.map fun x=>.d (prD x)) [] σ:=fun {ρ σ} h=>by
  have h1:SE C.n (.sub (.fcall 20 (.cons (.var 1) .nil)) (.cst (.int 1))) ρ σ (.d (.list (T.map prD))) σ:=.sub (.fcall ((Ae C.ok _).row (Az h)) ((hmod σ).more (show 4<=20 by decide))) (.cst _) (F9 (show Bk (.d (.tuple [rD,.list (T.map prD)])) (vi 1) σ=some (.d (.list (T.map prD))) from rfl))
  have h2:=SI.lst h1 (ws:=(T.map prD).map V.d) rfl
  rw [List.map_map] at h2; exact h2
 have hE:Gy C 0 (fun v _=>v=vb true) Flaw.body (B6 Flaw [.d (.list (ns.map .int))]) []:=by
  let K:Option V->Option V->Option V->Option V->Option V->Option V->Option V->Option V->Option V->Af:=fun z1 z2 z3 z4 z5 z6 z7 z8 z9=>[some (.d (scD ns)),z1,z2,z3,z4,z5,z6,z7,z8,z9]
  show Gy C 0 _ _ (K none none none none none none none none none) []
  refine goF (AB (v:=.d (.list (cs.map Ch.data))) rfl (.fcall ((Ae C.ok _).row rfl) ((c4 []).more (show 5<=20 by decide))) (Ad ⟨_,rfl,?_⟩))
  refine goF (AB (v:=self) (σ':=W0) rfl (.fcall (.cons (.fcall (.cons ((Ae C.ok (.var 1)).v rfl) (.cons (.fcall ((Ae C.ok _).row rfl) ((GE ns 0 (by decide) (by decide)).more (show 2<=20 by decide))) .nil)) ((f3 []).more (show 3<=20 by decide))) .nil) (f4.more (show 6<=20 by decide))) (Ad ⟨_,rfl,?_⟩))
  refine goF (B4 (t:=decide ((ns.getD 1 0).fmod 2=0)&&false) (Ci (As (Ai (FU (z:=vi (ns.getD 1 0)) rfl (o9 _)) rfl (AD (by decide))) rfl B5) fun _=>BO (p:=true) (Gp rfl o26')) (Bool.and_false _) (Ad ⟨_,rfl,?_⟩))
  refine goF (Bj (ws:=[]) rfl (Ad ⟨_,rfl,?_⟩))
  refine goF (go_forT (l:=T) (fun x=>.d (prD x)) (fun p ρ σ=>(∃ z4 z5 z6,ρ=K (some (.d (.list (cs.map Ch.data)))) (some self) (some (.ref 3)) z4 z5 z6 none none none)/\W0++[.list ((duL on p).map .d)]=σ) (hmi rfl) (fun _ _=>.inr ⟨_,rfl,rfl⟩) ⟨⟨none,none,none,rfl⟩,rfl⟩ ?_ ?_)
  ·rintro p x q ρ _ e ⟨⟨z4,z5,z6,rfl⟩,rfl⟩
   have hpl:(duL on p).length<=10000:=by
    have h1:=List.length_filter_le (fun x:Pr=>decide (1 < (on x.1).length)) p
    have h2:=congrArg List.length e
    rw [List.length_append,List.length_cons] at h2
    rw [List.length_map]; omega
   show Ah C _ _ (K (some (.d (.list (cs.map Ch.data)))) (some self) (some (.ref 3)) (some (vm x.1)) (some (vs x.2)) z6 none none none) _
   refine AB (v:=.d (dl (on x.1))) rfl (.fcall ((Ae C.ok _).row rfl) ((hun x.1 _).more (show 3<=20 by decide))) ?_
   refine A3 (t:=decide (((on x.1).length:Int) > 1)) (As (AN (Az rfl) (Cs.trans (by rw [List.length_map]))) rfl c_gt) (fun hh=>?_) fun hh=>?_
   ·have hh:=of_decide_eq_true hh
    refine AJ (k:=3) (ws:=(duL on p).map .d) (y:=.d (duV on x.1)) rfl (Az (BN (Bb rfl rfl) rfl)) rfl (by rw [List.length_map]; exact Nat.lt_of_le_of_lt hpl (by decide)) (Ad (Ad ⟨_,rfl,⟨_,_,_,rfl⟩,?_⟩))
    show W0++[O.list ((duL on (p++[x])).map .d)]=W0++[O.list ((duL on p).map .d++[V.d (duV on x.1)])]
    rw [duL_snoc,if_pos (by omega),List.map_append]; rfl
   ·have hh:=of_decide_eq_false hh
    refine Ad (Ad ⟨_,rfl,⟨_,_,_,rfl⟩,?_⟩)
    show W0++[O.list ((duL on (p++[x])).map .d)]=W0++[O.list ((duL on p).map .d)]
    rw [duL_snoc,if_neg (by omega)]
  rintro ρ _ ⟨⟨z4,z5,z6,rfl⟩,rfl⟩
  refine Ad ⟨_,rfl,?_⟩
  let K':Option V->Option V->Option V->Af:=fun z7 z8 z9=>K (some (.d (.list (cs.map Ch.data)))) (some self) (some (.d (.list (duL on T)))) none none none z7 z8 z9
  refine goF_seal (σ:=W0) (ρ':=K' none none none) ?_ (Nat.zero_le _) (Gk 3) ?_
  rotate_left
  ·exact .cons (.d _) (.cons (.d _) (.cons (.low DS) (.cons (.frz ⟨_,rfl,Nat.le_refl _,rfl⟩) (.cons .no (.cons .no (.cons .no (.cons .no (.cons .no (.cons .no .nil)))))))))
  refine goF (AL (l:=List.range 2) (fun j:Nat=>vi (j:Int)) (fun _ ρ σ=>(∃ z7 z8 z9,ρ=K' z7 z8 z9)/\∃ τ,W0++τ=σ) (itr (m:=2) rfl (by decide) (by decide)) ⟨⟨none,none,none,rfl⟩,[],rfl⟩ ?_ ?_)
  ·rintro p j q ρ _ e ⟨⟨z7,z8,z9,rfl⟩,τ,rfl⟩
   let σ0:=W0++τ
   obtain ⟨st,hq⟩:=fn_questions wov τ
   let σ1:=σ0++(.list (itm on T (σ0.length+2))::oS st::lsO on T)
   let Y:=qix on T (σ0.length+2)
   refine AB (v:=.ref σ0.length) (σ':=σ1) rfl (.mcall (f:=51) AK (by unfold mtP; kernel_rfl) ((Ae C.ok (.var 2)).v rfl) .nil (hq.more (show 6<=20 by decide))) ?_
   show Ah C _ _ (K' (some (vi j)) (some (.ref σ0.length)) z9) σ1
   have at0:σ1[σ0.length]? = some (.list (Y.map itV)):=by
    show (σ0++(_::_))[σ0.length]? = _
    rw [List.getElem?_append_right (Nat.le_refl _),Nat.sub_self]
    show some (O.list (itm on T (σ0.length+2)))=_
    rw [itm_eq]
   have atY:∀ y∈Y,σ0.length+2<=y.2/\σ1[y.2]? = some (.list ((on y.1).map vs)):=fun y hy=>qix_at hy fun i x e=>by
    show (σ0++(_::_::lsO on T))[σ0.length+2+i]? = _
    rw [List.getElem?_append_right (by omega),show σ0.length+2+i-σ0.length=i+2 by omega]
    show (lsO on T)[i]? = _
    rw [List.getElem?_map,e]; rfl
   have hask:=fn_asked (on:=on) (σ:=σ1) (k:=σ0.length) (Y:=Y) at0 fun y hy=>⟨(atY y hy).2,on_len wov y.1⟩
   rw [du_eq] at hask
   refine go_noS (ST.not (t:=true) (ST.plain (fun hc=>truth_of (.fcall 32 _) rfl hc) (.fcall ((Ae C.ok _).row (Bb (x:=.ref σ0.length) (y:=.d (.list (duL on T))) rfl rfl)) (hask.more (show 4<=20 by decide))) (EH rfl))) ?_
   have hYl:Y.length<=10000:=by
    have h1:=congrArg List.length (du_eq (on:=on) T (σ0.length+2))
    have h2:=List.length_filter_le (fun x:Pr=>decide (1 < (on x.1).length)) T
    rw [List.length_map,List.length_map] at h1
    exact Nat.le_trans (Nat.le_of_eq h1) (Nat.le_trans h2 hT)
   refine DY (l:=Y) (kps:=[(σ0.length,Y.map itV)]) (ts:=[9]) itV (fun p ρ σ=>(∃ z9,ρ=K' (some (vi j)) (some (.ref σ0.length)) z9)/\LpOk Y σ0.length (60+p.length) σ/\∃ τ,W0++τ=σ) ?_ ?_ (fun _ _=>.inl rfl) ⟨⟨_,rfl⟩,⟨at0,fun y hy=>⟨by have:=(atY y hy).1; omega,_,(atY y hy).2,by rw [List.length_map]; exact Nat.le_trans (on_len wov y.1) (by decide)⟩⟩,_,rfl⟩ ?_ ?_
   ·show (Ax σ1 (.ref σ0.length)).bind _=_
    rw [show Ax σ1 (.ref σ0.length)=some (Y.map itV) by show Cr σ1[σ0.length]? = _; rw [at0]; rfl]; rfl
   ·rintro p ρ σ ⟨_,hL,_⟩ k' ws hk
    obtain ⟨rfl,rfl⟩:=Prod.mk.inj (List.mem_singleton.mp hk)
    exact hL.lst
   ·rintro p y q ρ _ e' ⟨⟨z9,rfl⟩,hL,τ',rfl⟩
    have hy:y∈Y:=by rw [e']; simp
    obtain ⟨hb,ws,h0,hwl⟩:=hL.its y hy
    have hpl:p.length<=10000:=by
     have h2:=congrArg List.length e'
     rw [List.length_append,List.length_cons] at h2; omega
    have hσ0:3<=σ0.length:=by show 3<=(W0++τ).length; rw [List.length_append]; exact Nat.le_add_right 3 _
    obtain ⟨k',ek⟩:∃ k',y.2=k' + 3:=⟨y.2-3,by omega⟩
    refine AJ (k:=y.2) (ws:=ws) (y:=.d (.str (Str.ofString "a"))) (Ag rfl rfl rfl) rfl h0 (Nat.lt_of_le_of_lt (show ws.length<=20000 by omega) (by decide)) (Ad ⟨_,rfl,⟨_,rfl⟩,?_,τ'.set k' (.list (ws++[.d (.str (Str.ofString "a"))])),?_⟩)
    ·have:=hL.step hy h0 hwl (.d (.str (Str.ofString "a")))
     rw [show 60+p.length+1=60+(p++[y]).length by rw [List.length_append]; rfl] at this
     exact this
    ·rw [ek]; rfl
   ·rintro ρ _ ⟨⟨z9,rfl⟩,hL,τ',rfl⟩
    have hσ0:3<=σ0.length:=by show 3<=(W0++τ).length; rw [List.length_append]; exact Nat.le_add_right 3 _
    obtain ⟨k',ek⟩:∃ k',σ0.length=k' + 3:=⟨σ0.length-3,by omega⟩
    refine go_clear (k:=σ0.length) rfl hL.lst (Ad ⟨_,rfl,⟨_,_,_,rfl⟩,τ'.set k' (.list []),?_⟩)
    rw [ek]; rfl
  rintro ρ _ ⟨⟨z7,z8,z9,rfl⟩,τ,rfl⟩
  exact Ad ⟨_,rfl,goF_ret (v:=vb true) (σ':=W0++τ) (.fcall ((Ae C.ok _).row rfl) ((hst τ).more (show 8<=20 by decide))) rfl⟩
 obtain ⟨fl,σ',h1,h2⟩:=goF_end (σ:=[]) hE
 refine ⟨σ',SSs.mono (fun f s e=>?_) h2⟩
 rw [e.1,e.2]
 cases fl with
 | next _=>exact ⟨h1.symm,rfl⟩
 | ret _=>exact ⟨h1.symm,rfl⟩
end Mine
open PySem PySem.W PyProof.Rows
set_option tactic.hygienic true in
set_option backward.match.sparseCases true in
set_option genInjectivity true in
set_option maxRecDepth 100000 in
set_option maxHeartbeats 8000000 in
theorem PySem.Challenge.cw_uf010019_08_holds : PySem.Challenge.rw_uf010019_08.Holds := by
 refine holds_law Mine.said08 fun said=>?_
 refine W.holds_open (q:=Mine.view08) (loose:=[]) (Xt:=Mine.xt08) (XP:=Mine.XP08) (Yf:=Hook.obs Mine.hook08) (Ya:=Hook.val Mine.hook08) (YP:=Hook.says Mine.hook08) (N:=5300) Mine.left08 (Hook.of Mine.hook08) (Hook.keeps Mine.hook08) Mine.xt08_of Mine.XP08.keeps (by rfl) (by rfl) (by rfl) (fun s e=>recFacts_of (Bool.and_eq_true_iff.mp (Bool.and_eq_true_iff.mp e).1).2) (by rfl) said (by decide +kernel) ⟨rfl,rfl,rfl,rfl,rfl,by decide +kernel⟩ ?hw ?hc
 case hw=>w_witness2
 intro w s₀ s₁ mg mb G Y fa o pm cd doc dV kV ho hd hcd hD hmg hg args vals as hpre hlay hrd hwl hlo
 have AP:=(Ground.X G).2
 refine Ground.open G ?_
 intro T B D TE TW
 clear hd hcd hD ho
 wrow_args hpre hlay hrd hwl hlo
 rename_i sc _ _ _ _ _ _ _ l vs _ hL _ _ _ hI _ hlen _
 refine Mine.law08 Mine.run08 (w:=w) T TE AP hmg hL hI (by omega) ?_
 intro s' hk hgens hos
 refine ⟨.inl ⟨.bool true,.bool true,[],rfl,?_,.bool true,?_,?_⟩,hk,hos,?_⟩
 ·intro cls; rfl
 ·wrow_post
 ·exact fun _=>⟨List.nodup_nil,fun a h=>by cases h⟩
 ·exact AllBare.of_eq (hgens.trans hg)