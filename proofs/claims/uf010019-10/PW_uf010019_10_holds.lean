import PyProof.Rows.All
import Wide.Line
import Wide.Tac
import Wide.Loose
import Open.Line
import OpenK.KWalk
import PyProof.TupleKey
import PyProof.DictFindH
import PyProof.Ns1
import PyProof.StrWalks
import PyProof.Rows.TopObj
import PyProof.Rows.PlainObj
import PyProof.Rows.PlainNoArg
import PyProof.Rows.PlainEq
import PyProof.ObjNew
import PyProof.ListStr
import PyProof.InstStoreFacts
import PyProof.DictWalks
import KE.KSortKey
import KE.KMinKey
import KE.KLam
import PyProof.ReprRoads
import PyProof.ReprLen
import PyProof.StrLawsRepr
import PyProof.RaisesMany
import PySem.Challenge.RW_uf010019_10
set_option Elab.async false
set_option autoImplicit false
set_option genSizeOf false
set_option bootstrap.genMatcherCode false
set_option linter.all false
set_option tactic.hygienic false
set_option genInjectivity false
set_option genCtorIdx false
set_option backward.match.sparseCases false
open Option.some renaming inj → AAA
open List renaming length_map → AAB, map_map → AAE, length_append → AAF, mem_singleton → AAJ, getElem?_eq_some_iff → AAM, getElem?_eq_getElem → AAN, mem_map → AAP, map_append → AAQ, mem_cons → AAR, mem_append_left → AAU, append_nil → AAV, mem_append_right → AAW, length_filter_le → AAX, mem_map_of_mem → AAZ, mem_append → AA0, not_mem_nil → AA1, length_cons → AA2, mem_filter → AA4, mem_of_getElem? → AA5, getElem?_append_right → AA6, getElem?_append_left → ABE, mem_of_find?_eq_some → ABH, getElem?_map → ABI, filter_append → ABN, map_cons → ABP, append_assoc → ABQ, length_range → ABV, nodup_append → ABW, nodup_cons → ABX, nodup_nil → ABY, mem_range → ABZ, length_set → AB0, getElem?_set_self → AB1, filter_filter → AB2, filter_map → AB3, append_of_mem → AB7, filter_eq_append_iff → AB8, filter_eq_cons_iff → AB9
open Nat renaming le_trans → AAC, le_refl → AAL, lt_of_le_of_lt → AAS, le_add_right → AA9, zero_le → ABF, succ_le_succ → ABS, lt_trans → ABT, lt_irrefl → ABU, le_succ_of_le → AB4, le_of_lt_succ → ACA
open PySem renaming wpAny_bind → AAD, wpAny_mono → AAO, wpAny_pure → AAY, wpAny_standAt → AA7, wpAny_holding → AA8
open Bool renaming and_eq_true_iff → AAH, false_ne_true → ABB, or_eq_true_iff → ABC
open PySem.Heap renaming get?_push_of_some → AAK, get?_push_size → AA3, get?_update_other → ABD, get?_none_of_le → ABO
open Array renaming length_toList → ABA, getElem?_toList → ABJ, getElem?_eq_getElem → AB5
open Prod.mk renaming inj → ABK
open Option renaming map_eq_some_iff → ABL
open LawfulBEq renaming eq_of_beq → ABM
open PySem.Value.ref renaming inj → ABR
open Int renaming natCast_nonneg → AB6
namespace Mine
set_option tactic.hygienic true
set_option maxRecDepth 100000
open PySem PySem.W PyProof.Rows
noncomputable abbrev ACB:=Str.ofString
noncomputable def view10:Program:={ PySem.Challenge.pw_uf010019_10 with main:={ PySem.Challenge.pw_uf010019_10.main with body:=PySem.Challenge.pw_uf010019_10.main.body.filter fun st=>match st with | .Assign [.Name x _] _ _=>x != ACB "__name__" | _=>true } }
theorem said10:PySem.Challenge.rw_uf010019_10.wellSaid=true:=by kernel_rfl
noncomputable def hook10:Hook:=⟨Bool,fun _=>true,fun _=>true,fun _ _=>True,fun _ _ _=>trivial,fun _ _ _ _ _=>trivial⟩
noncomputable def Ss (vs:Array Value):Option Addr:=match vs[11]? with | some v=>(match v with | .ref P=>some P | _=>none) | none=>none
noncomputable def UA (o:Option Obj):Option Addr:=match o with | some oc=>(match oc.data with | .fields vs=>Ss vs | _=>none) | none=>none
noncomputable def VW (h:Heap) (cd:Value):Option Addr:=match cd with | .ref c=>UA (h.get? c) | _=>none
noncomputable def O5 (h:Heap) (n:Str):Option Addr:=match h.fnAt mainGlobals n with | some x=>VW h x.2.2.code | none=>none
noncomputable def apB (n m:Str) (s:Shared):Bool:=match O5 s.heap n with | some p=>(match O5 s.heap m with | some q=>!(p == q) | none=>false) | none=>false
def IO (mg:Str->Option Value) (h:Heap) (n:Str) (P:Addr):Prop:=∃ a o fd c oc vs,mg n=some (.ref a)/\h.get? a=some o/\o.data=.func fd/\fd.code=.ref c/\h.get? c=some oc/\oc.data=.fields vs/\vs[11]? = some (.ref P)
def Ap (n m:Str) (mg:Str->Option Value) (h:Heap):Prop:=∃ P Q,IO mg h n P/\IO mg h m Q/\P≠Q
theorem Sr {vs:Array Value} {P:Addr} (e:Ss vs=some P):vs[11]? = some (.ref P):=by
 unfold Ss at e
 cases h5:vs[11]? with
 | none=>rw [h5] at e; cases e
 | some v =>
  rw [h5] at e
  cases v with
  | ref Q=>cases e; rfl
  | _=>cases e
theorem Sv {o:Option Obj} {P:Addr} (e:UA o=some P):∃ oc vs,o=some oc/\oc.data=.fields vs/\vs[11]? = some (.ref P):=by
 cases o with
 | none=>cases e
 | some oc =>
  have e:(match oc.data with | .fields vs=>Ss vs | _=>none)=some P:=e
  cases h4:oc.data with
  | fields vs=>rw [h4] at e; exact ⟨oc,vs,rfl,h4,Sr e⟩
  | _=>rw [h4] at e; cases e
theorem Su {h:Heap} {cd:Value} {P:Addr} (e:VW h cd=some P):∃ c,cd=.ref c/\UA (h.get? c)=some P:=by
 cases cd with
 | ref c=>exact ⟨c,rfl,e⟩
 | _=>cases e
theorem Ni {h:Heap} {n:Str} {P:Addr} (e:O5 h n=some P):IO (h.nsMap mainGlobals) h n P:=by
 unfold O5 at e
 cases h1:h.fnAt mainGlobals n with
 | none=>rw [h1] at e; cases e
 | some x =>
  obtain ⟨a,o,fd⟩:=x
  rw [h1] at e
  obtain ⟨e1,e2,e3⟩:=Heap.fnAt_spec h1
  obtain ⟨c,h2,e⟩:=Su e
  obtain ⟨oc,vs,h3,h4,h5⟩:=Sv e
  exact ⟨a,o,fd,c,oc,vs,e1,e2,e3,h2,h3,h4,h5⟩
theorem V9 {n m:Str} {s:Shared} (e:apB n m s=true):Ap n m (s.heap.nsMap mainGlobals) s.heap:=by
 unfold apB at e
 cases h1:O5 s.heap n with
 | none=>rw [h1] at e; cases e
 | some P =>
  rw [h1] at e
  cases h2:O5 s.heap m with
  | none=>rw [h2] at e; cases e
  | some Q =>
   rw [h2] at e
   refine ⟨P,Q,Ni h1,Ni h2,fun q=>?_⟩
   subst q
   have e:(!(P == P))=true:=e
   rw [beq_self_eq_true] at e; cases e
theorem IO.keeps {mg:Str->Option Value} {h h':Heap} {n:Str} {P:Addr} (x:IO mg h n P) (hk:∀ b o,h.get? b=some o->h'.get? b=some o):IO mg h' n P:=by
 obtain ⟨a,o,fd,c,oc,vs,e1,e2,e3,e4,e5,r⟩:=x; exact ⟨a,o,fd,c,oc,vs,e1,hk _ _ e2,e3,e4,hk _ _ e5,r⟩
noncomputable def nm1:Str:=ACB "ordered"
noncomputable def nm2:Str:=ACB "_law_model"
def XP10 (mg:Str->Option Value) (h:Heap):Prop:=XL view10 [] mg h/\Ap nm1 nm2 mg h
theorem XP10.keeps (mg:Str->Option Value) (h h':Heap) (x:XP10 mg h) (hk:∀ b o,h.get? b=some o->h'.get? b=some o):XP10 mg h':=by
 obtain ⟨P,Q,a,b,c⟩:=x.2; exact ⟨XL.keeps mg h h' x.1 hk,P,Q,a.keeps hk,b.keeps hk,c⟩
noncomputable def xt10 (s:Shared):Bool:=(xlAt view10 [] s&&recOk (RowW.records (OpenRow.toRowW (PySem.Challenge.rw_uf010019_10.row))) s)&&apB nm1 nm2 s
theorem xt10_of (s:Shared) (e:xt10 s=true):XP10 (s.heap.nsMap mainGlobals) s.heap:=⟨xl_of s (AAH.mp (AAH.mp e).1).1,V9 (AAH.mp e).2⟩
theorem X8 {α β1 β2 β3 β4 β5:Type} {o:Option α} {f1:α->β1} {f2:α->β2} {f3:α->β3} {f4:α->β4} {f5:α->β5} {b1:β1} {b2:β2} {b3:β3} {b4:β4} {b5:β5} (h₁:o.map (fun s=>(f1 s,f2 s))=some (b1,b2)) (h2:o.map f3=some b3) (h₃:o.map (fun s=>(f4 s,f5 s))=some (b4,b5)):o.map (fun s=>((f1 s,f2 s,f3 s,f4 s),f5 s))=some ((b1,b2,b3,b4),b5):=by
 cases o with
 | none=>cases h2
 | some s =>
  obtain ⟨e₁,e2⟩:=ABK (AAA h₁)
  obtain ⟨e4,e5⟩:=ABK (AAA h₃)
  have e3:=AAA h2
  show some ((f1 s,f2 s,f3 s,f4 s),f5 s)=_
  rw [e₁,e2,e3,e4,e5]
theorem SZ:∀ w,(openEnds treeTable PySem.Challenge.rw_uf010019_10.row.toRowW.prog w 5300).map (fun s=>(seen ((recsOf view10).map (·.name)) (ownsOf view10) [] { s with gens:=#[] },s.heap.bltView))=some (expectedOf view10,bltViewBooted):=by
 intro w; kernel_rfl
theorem SY:∀ w,(openEnds treeTable PySem.Challenge.rw_uf010019_10.row.toRowW.prog w 5300).map (fun s=>(openSeen view10 [] (importedModules PySem.Challenge.rw_uf010019_10.row.toRowW.prog.main.body) xt10 true s).2.2.1)=some true:=by
 intro w; kernel_rfl
theorem SW:∀ w,(openEnds treeTable PySem.Challenge.rw_uf010019_10.row.toRowW.prog w 5300).map (fun s=>((openSeen view10 [] (importedModules PySem.Challenge.rw_uf010019_10.row.toRowW.prog.main.body) xt10 true s).2.2.2,Hook.obs hook10 s))=some ((openGood view10 []).2.2.2,Hook.val hook10 w):=by
 intro w; kernel_rfl
theorem left10:LeftO PySem.Challenge.rw_uf010019_10.row.toRowW.prog view10 [] xt10 (Hook.obs hook10) (Hook.val hook10) 5300:=fun w=>by
 have h:=X8 (SZ w) (SY w) (SW w)
 exact h
end Mine
namespace Mine
set_option tactic.hygienic true
set_option backward.match.sparseCases true
set_option genInjectivity true
open PySem
section
variable {prog:Program} {w:World} {A:Around} {E:Value->Shared->Prop} {s:Shared}
theorem IB {a:Str} {b:Int} {t u:Tok} {Q:Bool->Shared->Prop} (h:Q false s):wpAny (model prog w) A (eqBool (.str a t) (.int b u)) Q E s:=by
 unfold eqBool
 refine AA8 ?_
 rw [if_neg (show ¬ ((Value.str a t == Value.int b u)=true) from fun q=>nomatch ABM q)]
 show wpAny _ _ (compareOp .Eq (.str a t) (.int b u)>>=fun r=>truthOfDropped r) Q E s
 exact AAD (EqMixed.eq_str_int (wpAny_truthy_bool h))
theorem IC {a:Str} {b:Int} {t u:Tok} {Q:Bool->Shared->Prop} (h:Q false s):wpAny (model prog w) A (eqBool (.int b u) (.str a t)) Q E s:=by
 unfold eqBool
 refine AA8 ?_
 rw [if_neg (show ¬ ((Value.int b u == Value.str a t)=true) from fun q=>nomatch ABM q)]
 show wpAny _ _ (compareOp .Eq (.int b u) (.str a t)>>=fun r=>truthOfDropped r) Q E s
 exact AAD (EqMixed.eq_int_str (wpAny_truthy_bool h))
end
noncomputable def BS (prog:Program) (w:World):KeyKind prog w (Str ⊕ Int) where
 is:=fun k v=>match k with | .inl x=>Value.isStrOf x v | .inr i=>Value.isInt i v
 hash:=fun k=>match k with | .inl x=>hashStr w x | .inr i=>hashInt i
 inj:=fun v a b ha hb=>by
  cases a with
  | inl x =>
   obtain ⟨t,rfl⟩:=Value.isStrOf_shape ha
   cases b with
   | inl y=>exact congrArg _ (Value.isStrOf_inj _ _ _ ha hb)
   | inr j=>obtain ⟨t',e⟩:=Value.isInt_shape hb; cases e
  | inr i =>
   obtain ⟨t,rfl⟩:=Value.isInt_shape ha
   cases b with
   | inl y=>obtain ⟨t',e⟩:=Value.isStrOf_shape hb; cases e
   | inr j=>exact congrArg _ (Value.isInt_inj _ _ _ ha hb)
 byValue:=fun k v h=>by
  cases k with
  | inl x=>obtain ⟨t,rfl⟩:=Value.isStrOf_shape h; rfl
  | inr i=>obtain ⟨t,rfl⟩:=Value.isInt_shape h; rfl
 pyHash:=fun {A E s k v Q} hv h=>by
  cases k with
  | inl x=>obtain ⟨t,rfl⟩:=Value.isStrOf_shape hv; exact wpAny_pyHash_str h
  | inr i=>obtain ⟨t,rfl⟩:=Value.isInt_shape hv; exact wpAny_pyHash_int h
 eqBool:=fun {A E s a b u v Q} hu hv h=>by
  cases a with
  | inl x =>
   obtain ⟨t,rfl⟩:=Value.isStrOf_shape hu
   cases b with
   | inl y=>obtain ⟨t',rfl⟩:=Value.isStrOf_shape hv; exact wpAny_eqBool_str (by simpa using h)
   | inr j=>obtain ⟨t',rfl⟩:=Value.isInt_shape hv; exact IB (by simpa using h)
  | inr i =>
   obtain ⟨t,rfl⟩:=Value.isInt_shape hu
   cases b with
   | inl y=>obtain ⟨t',rfl⟩:=Value.isStrOf_shape hv; exact IC (by simpa using h)
   | inr j=>obtain ⟨t',rfl⟩:=Value.isInt_shape hv; rw [show decide ((Sum.inr i:Str ⊕ Int)=Sum.inr j)=decide (i=j) by simp] at h; exact wpAny_eqBool_int h
 «strs»:=fun k x t v h=>by
  cases k with
  | inl y=>exact (strKind prog w).«strs» y x t v h
  | inr i=>obtain ⟨t',e⟩:=Value.isInt_shape h; cases e
end Mine
namespace Mine
open PySem
set_option genCtorIdx true in
inductive V where
 | d (x:PyData)
 | ref (k:Nat)
 | tup (ws:List (PyData ⊕ Nat))
 | ty (t:String)
 | obj (ks:List Nat)
 | pr (x y:V)
set_option genCtorIdx true in
inductive O where
 | list (vs:List V)
 | dictS (kvs:List (Str×PyData))
 | dictP (kvs:List ((Str×Int)×PyData))
noncomputable abbrev Aa:=List O
noncomputable abbrev Ah:=List (Option V)
noncomputable def line:Nat:=16777216
section
variable {α β:Type} {a b:α} {l:List α} {P:Prop}
theorem Ac (h:none=some a):P:=nomatch h
theorem Ho (h:some a=none):P:=nomatch h
theorem ff_ (h:false=true):P:=nomatch h
theorem tt_ (h:true=false):P:=nomatch h
theorem TJ (h:a::l=[]):P:=nomatch h
theorem C7 {m n:Nat} (h:m=n) (e:Nat.beq m n=false):P:=by rw [h,Nat.beq_refl] at e; cases e
theorem Am {o:Option α} (h:o=none) (e:o=some a):P:=Ac (h.symm.trans e)
theorem Av {o:Option α} (h:o=some a) (e:o=some b):a=b:=AAA (h.symm.trans e)
theorem Ab {o:Option α} {f:α->Option β} {y:β} (h:o.bind f=some y):∃ x,o=some x/\f x=some y:=by
 cases o with
 | none=>exact Ac h
 | some x=>exact ⟨x,rfl,h⟩
theorem Ba {c:Prop} [Decidable c] (h:(if c then some a else none)=some b):c/\a=b:=by
 by_cases hc:c
 ·rw [if_pos hc] at h; exact ⟨hc,AAA h⟩
 ·rw [if_neg hc] at h; exact Ac h
end
structure Top where
 prog:Program
 w:World
 h0:Heap
 fn:Nat->Option Addr
 tabs:List (Addr×Str)
 gens:Array GenState
 os:OsState
 cls:Addr
 exc:Nat->Option Addr
structure G where
 fz:Addr->Option Obj
 hid:Addr->Option Obj
 mu:List Addr
def Cg (fz:Addr->Option Obj) (cl:String) (x:Value) (P:List Value->Prop) (n:Nat):Prop :=
 ∀ R_:Value->Prop,(∀ (a:Addr) (o:Obj) (vs:Array Value) (m:Nat),fz a=some o->o.cls=.type cl->o.data=.seq vs m->P vs.toList->n<=line->R_ (.ref a))->R_ x
mutual
noncomputable def A5 (fz:Addr->Option Obj):PyData->Value->Prop
 | .none,x=>x=.none
 | .bool b,x=>x=.bool b
 | .int i,x=>∃ t,x=.int i t
 | .str s,x=>∃ t,x=.str s t/\s.length<=line
 | .list ds,x=>Cg fz "list" x (fun vs=>RepDs fz ds vs) ds.length
 | .tuple ds,x=>Cg fz "tuple" x (fun vs=>RepDs fz ds vs) ds.length
 | .dict _,_=>False
noncomputable def RepDs (fz:Addr->Option Obj):List PyData->List Value->Prop
 | [],[]=>True
 | d::ds,v::vs=>A5 fz d v/\RepDs fz ds vs
 | _,_=>False
end
noncomputable def Aw {α β:Type} (R:α->β->Prop):List α->List β->Prop
 | [],[]=>True
 | a::as,b::bs=>R a b/\Aw R as bs
 | _,_=>False
section
variable {α β:Type} {R S:α->β->Prop}
theorem Aw.mono (h:∀ a b,R a b->S a b):∀ {as:List α} {bs:List β},Aw R as bs->Aw S as bs
 | [],[],_=>trivial
 | _::_,_::_,x=>⟨h _ _ x.1,Aw.mono h x.2⟩
 | [],_::_,x=>x
 | _::_,[],x=>x
theorem Aw.length:∀ {as:List α} {bs:List β},Aw R as bs->as.length=bs.length
 | [],[],_=>rfl
 | _::_,_::_,x=>congrArg (· + 1) (Aw.length x.2)
 | [],_::_,x=>x.elim
 | _::_,[],x=>x.elim
theorem Aw.get:∀ {as:List α} {bs:List β},Aw R as bs->∀ {k:Nat} {a:α},as[k]? = some a->∃ b,bs[k]? = some b/\R a b
 | _::_,b::_,x,0,_,e=>⟨b,rfl,AAA e▸x.1⟩
 | _::_,_::_,x,k+1,a,e=>Aw.get x.2 (k:=k) (a:=a) e
 | [],[],_,_,_,e=>Ac e
 | [],_::_,x,_,_,_=>x.elim
 | _::_,[],x,_,_,_=>x.elim
theorem Aw.append:∀ {as as':List α} {bs bs':List β},Aw R as bs->Aw R as' bs'->Aw R (as++as') (bs++bs')
 | [],_,[],_,_,y=>y
 | _::_,_,_::_,_,x,y=>⟨x.1,Aw.append x.2 y⟩
 | [],_,_::_,_,x,_=>x.elim
 | _::_,_,[],_,x,_=>x.elim
theorem Aw.drop:∀ (n:Nat) {as:List α} {bs:List β},Aw R as bs->Aw R (as.drop n) (bs.drop n)
 | 0,_,_,h=>h
 | _+1,[],[],_=>trivial
 | n+1,_::_,_::_,h=>Aw.drop n h.2
 | _+1,[],_::_,h=>h.elim
 | _+1,_::_,[],h=>h.elim
theorem Aw.take:∀ (n:Nat) {as:List α} {bs:List β},Aw R as bs->Aw R (as.take n) (bs.take n)
 | 0,_,_,_=>trivial
 | _+1,[],[],_=>trivial
 | n+1,_::_,_::_,h=>⟨h.1,Aw.take n h.2⟩
 | _+1,[],_::_,h=>h.elim
 | _+1,_::_,[],h=>h.elim
theorem Aw.set:∀ (j:Nat) {as:List α} {bs:List β} {a:α} {b:β},Aw R as bs->R a b->Aw R (as.set j a) (bs.set j b)
 | _,[],[],_,_,_,_=>trivial
 | 0,_::_,_::_,_,_,h,r=>⟨r,h.2⟩
 | j+1,_::_,_::_,_,_,h,r=>⟨h.1,Aw.set j h.2 r⟩
 | _,[],_::_,_,_,h,_=>h.elim
 | _,_::_,[],_,_,h,_=>h.elim
theorem Aw.cons {a:α} {as:List α} {bs:List β} (h:Aw R (a::as) bs):∃ b r,bs=b::r/\R a b/\Aw R as r:=by
 cases bs with
 | nil=>exact h.elim
 | cons b r=>exact ⟨b,r,rfl,h.1,h.2⟩
theorem Aw.nil {bs:List β} (h:Aw R [] bs):bs=[]:=by
 cases bs with
 | nil=>rfl
 | cons b r=>exact h.elim
theorem Aw.one {a:α} {bs:List β} (h:Aw R [a] bs):∃ b,bs=[b]/\R a b:=by
 obtain ⟨b,r,e,h1,h2⟩:=h.cons
 exact ⟨b,by rw [e,h2.nil],h1⟩
theorem Aw.two {a a':α} {bs:List β} (h:Aw R [a,a'] bs):∃ b b',bs=[b,b']/\R a b/\R a' b':=by
 obtain ⟨b,r,e,h1,h2⟩:=h.cons
 obtain ⟨b',e',h3⟩:=h2.one
 exact ⟨b,b',by rw [e,e'],h1,h3⟩
end
noncomputable def GK (g:G):PyData ⊕ Nat->Value->Prop
 | .inl x,v=>A5 g.fz x v
 | .inr k,v=>∃ a,g.mu[k]? = some a/\v=.ref a
noncomputable def CK:List Str:=[ACB "held",ACB "grounds",ACB "heights"]
def TU (f:Addr->Option Obj) (a:Addr) (m:Str->Option Value):Prop:=∃ o es ep,f a=some o/\o.data=.dict es ep/\StrKeys es/\UniqKeys es/\∀ name,nsFind es name=m name
def WQ (T:Top) (g:G) (v:Value) (ks:List Nat):Prop :=
 ∀ R_:Value->Prop,(∀ (a d:Addr) (o:Obj) (mA:Str->Option Value),g.fz a=some o->o.cls=.ref T.cls->(∀ c,o.data≠.cls c)->o.dict=some d->d≠a->TU g.fz d mA->(∀ nm,nm∉CK->mA nm=none)->Aw (fun (k:Nat) (nm:Str)=>∃ a,g.mu[k]? = some a/\mA nm=some (.ref a)) ks CK->R_ (.ref a))->R_ v
noncomputable def As (T:Top) (g:G):V->Value->Prop
 | .d x,v=>A5 g.fz x v
 | .ref k,v=>∃ a,g.mu[k]? = some a/\v=.ref a
 | .tup ws,v=>Cg g.fz "tuple" v (fun xs=>Aw (GK g) ws xs) ws.length
 | .ty t,v=>v=.type t
 | .obj ks,v=>WQ T g v ks
 | .pr x y,v=>Cg g.fz "tuple" v (fun xs=>∃ a b,xs=[a,b]/\As T g x a/\As T g y b) 2
def VF (o:Obj) (P:List Value->Prop) (n:Nat):Prop :=
 ∀ R_:Obj->Prop,(∀ (xs:Array Value) (m:Nat),P xs.toList->n<=line->R_ { cls:=.type "list",dict:=none,data:=.seq xs m,slots:=#[] })->R_ o
def XC (T:Top) (fz:Addr->Option Obj) (o:Obj) (kvs:List (Str×PyData)):Prop :=
 ∀ R_:Prop,(∀ (es:Array DictEntry) (ep:Nat) (ws:List (Str×Value)),o.ExactDict->o.data=.dict es ep->KeysOf (strKind T.prog T.w) es->Pairs (strKind T.prog T.w) es.toList ws->(ws.map (·.1)).Nodup->Aw (fun (d:Str×PyData) (v:Str×Value)=>d.1=v.1/\A5 fz d.2 v.2) kvs ws->kvs.length<=line->R_)->R_
noncomputable def FO (k:Str×Int):List (Str ⊕ Int):=[.inl k.1,.inr k.2]
def XD (T:Top) (fz:Addr->Option Obj) (o:Obj) (kvs:List ((Str×Int)×PyData)):Prop :=
 ∀ R_:Prop,(∀ (es:Array DictEntry) (ep:Nat) (ws:List (List (Str ⊕ Int)×Addr×Value)),o.ExactDict->o.data=.dict es ep->es.toList=ws.map (entryOfKey (tupleKind (BS T.prog T.w)))->(ws.map (·.1)).Nodup ->
  Aw (fun (d:(Str×Int)×PyData) (v:List (Str ⊕ Int)×Addr×Value)=>FO d.1=v.1/\A5 fz (.tuple [.str d.1.1,.int d.1.2]) (.ref v.2.1)/\A5 fz d.2 v.2.2) kvs ws->kvs.length<=line->R_)->R_
noncomputable def Dp (T:Top) (g:G):O->Obj->Prop
 | .list vs,o=>VF o (fun xs=>Aw (As T g) vs xs) vs.length
 | .dictS kvs,o=>XC T g.fz o kvs
 | .dictP kvs,o=>XD T g.fz o kvs
def K1 (f f':Addr->Option Obj):Prop:=∀ a o,f a=some o->f' a=some o
structure G.up (g g':G):Prop where
 fz:K1 g.fz g'.fz
 mu:∀ (k:Nat) (a:Addr),g.mu[k]? = some a->g'.mu[k]? = some a
structure G.le (own:List Addr) (g g':G):Prop extends G.up g g' where
 hid:∀ a,a∉own->g'.hid a=g.hid a
theorem G.up.refl (g:G):G.up g g:=⟨fun _ _ e=>e,fun _ _ e=>e⟩
theorem G.up.trans {g g' g'':G} (x:G.up g g') (y:G.up g' g''):G.up g g'':=⟨fun a o e=>y.fz a o (x.fz a o e),fun k a e=>y.mu k a (x.mu k a e)⟩
theorem G.le.refl (own:List Addr) (g:G):G.le own g g:=⟨.refl g,fun _ _=>rfl⟩
theorem G.le.trans {own:List Addr} {g g' g'':G} (x:G.le own g g') (y:G.le own g' g''):G.le own g g'':=⟨x.toup.trans y.toup,fun a h=>(y.hid a h).trans (x.hid a h)⟩
theorem G.le.toO {own:List Addr} {g g':G} (x:G.le [] g g'):G.le own g g':=⟨x.toup,fun a _=>x.hid a AA1⟩
theorem Cg.mono {f f':Addr->Option Obj} {cl:String} {x:Value} {P P':List Value->Prop} {n:Nat} (h:K1 f f') (hp:∀ vs,P vs->P' vs) (r:Cg f cl x P n):Cg f' cl x P' n :=
 fun R_ k=>r R_ fun a o vs m hf hc hd hr hl=>k a o vs m (h a o hf) hc hd (hp _ hr) hl
mutual
theorem A5.mono {f f':Addr->Option Obj} (h:K1 f f'):∀ (d:PyData) (v:Value),A5 f d v->A5 f' d v
 | .none,_,x=>x
 | .bool _,_,x=>x
 | .int _,_,x=>x
 | .str _,_,x=>x
 | .list ds,_,x=>Cg.mono h (fun vs=>RepDs.mono h ds vs) x
 | .tuple ds,_,x=>Cg.mono h (fun vs=>RepDs.mono h ds vs) x
 | .dict _,_,x=>x
theorem RepDs.mono {f f':Addr->Option Obj} (h:K1 f f'):∀ (ds:List PyData) (vs:List Value),RepDs f ds vs->RepDs f' ds vs
 | [],[],_=>trivial
 | d::ds,v::vs,x=>⟨A5.mono h d v x.1,RepDs.mono h ds vs x.2⟩
 | [],_::_,x=>x
 | _::_,[],x=>x
end
theorem RepDs.all {f:Addr->Option Obj}:∀ {ds:List PyData} {vs:List Value},RepDs f ds vs->Aw (A5 f) ds vs
 | [],[],_=>trivial
 | _::_,_::_,x=>⟨x.1,RepDs.all x.2⟩
 | [],_::_,x=>x.elim
 | _::_,[],x=>x.elim
theorem RepDs.of {f:Addr->Option Obj}:∀ {ds:List PyData} {vs:List Value},Aw (A5 f) ds vs->RepDs f ds vs
 | [],[],_=>trivial
 | _::_,_::_,x=>⟨x.1,RepDs.of x.2⟩
 | [],_::_,x=>x.elim
 | _::_,[],x=>x.elim
theorem TU.to {f f':Addr->Option Obj} {a:Addr} {m:Str->Option Value} (x:TU f a m) (h:K1 f f'):TU f' a m:=x.imp fun o x=>x.imp fun _ x=>x.imp fun _ x=>⟨h a o x.1,x.2⟩
section
variable {T:Top} {g g':G}
theorem GK.mono (h:G.up g g'):∀ (w:PyData ⊕ Nat) (v:Value),GK g w v->GK g' w v
 | .inl x,v,r=>A5.mono h.fz x v r
 | .inr k,v,r=>by obtain ⟨a,e,q⟩:=r; exact ⟨a,h.mu k a e,q⟩
theorem As.mono (h:G.up g g'):∀ (w:V) (v:Value),As T g w v->As T g' w v
 | .d x,v,r=>A5.mono h.fz x v r
 | .ref k,v,r=>by obtain ⟨a,e,q⟩:=r; exact ⟨a,h.mu k a e,q⟩
 | .tup ws,v,r=>Cg.mono h.fz (fun vs=>Aw.mono (GK.mono h)) r
 | .ty _,_,r=>r
 | .obj ks,v,r=>fun R_ k=>r R_ fun a d o mA h1 h2 h3 h4 h5 h6 h7 h8=>k a d o mA (h.fz _ _ h1) h2 h3 h4 h5 (h6.to h.fz) h7 (Aw.mono (fun _ _=>fun ⟨a,e,q⟩=>⟨a,h.mu _ a e,q⟩) h8)
 | .pr x y,v,r=>Cg.mono h.fz (fun vs=>fun ⟨a,b,e,h1,h2⟩=>⟨a,b,e,As.mono h x a h1,As.mono h y b h2⟩) r
noncomputable abbrev Au (T:Top) (g:G):List V->List Value->Prop:=Aw (As T g)
theorem Au.mono (h:G.up g g') {ws:List V} {vs:List Value} (r:Au T g ws vs):Au T g' ws vs:=Aw.mono (As.mono h) r
theorem As.eta {hd:Addr->Option Obj} {w:V} {v:Value} (r:As T g w v):As T ⟨g.fz,hd,g.mu⟩ w v:=As.mono (g:=g) (g':=⟨g.fz,hd,g.mu⟩) ⟨fun _ _ e=>e,fun _ _ e=>e⟩ w v r
theorem Au.eta {hd:Addr->Option Obj} {ws:List V} {vs:List Value} (r:Au T g ws vs):Au T ⟨g.fz,hd,g.mu⟩ ws vs:=Aw.mono (fun _ _=>As.eta) r
theorem Dp.mono (h:G.up g g'):∀ (o:O) (x:Obj),Dp T g o x->Dp T g' o x
 | .list vs,_,r=>fun R_ k=>r R_ fun xs m hr hl=>k xs m (Au.mono h hr) hl
 | .dictS kvs,_,r=>fun R_ k=>r R_ fun es ep ws ho hd hk hp hn hr hl=>k es ep ws ho hd hk hp hn (Aw.mono (fun d v r=>⟨r.1,A5.mono h.fz _ _ r.2⟩) hr) hl
 | .dictP kvs,_,r=>fun R_ k=>r R_ fun es ep ws ho hd he hn hr hl=>k es ep ws ho hd he hn (Aw.mono (fun d v r=>⟨r.1,A5.mono h.fz _ _ r.2.1,A5.mono h.fz _ _ r.2.2⟩) hr) hl
theorem Au.ofD:∀ {ds:List PyData} {vs:List Value},RepDs g.fz ds vs->Au T g (ds.map .d) vs
 | [],[],_=>trivial
 | _::_,_::_,x=>⟨x.1,Au.ofD x.2⟩
 | [],_::_,x=>x.elim
 | _::_,[],x=>x.elim
theorem Au.toD:∀ {ds:List PyData} {vs:List Value},Au T g (ds.map .d) vs->RepDs g.fz ds vs
 | [],[],_=>trivial
 | _::_,_::_,x=>⟨x.1,Au.toD x.2⟩
 | [],_::_,x=>x.elim
 | _::_,[],x=>x.elim
end
def RW (g:G) (h:Heap) (t:Addr) (q:Str):Prop :=
 ∀ R_:Prop,(∀ ps:Array Value,g.fz t=none->g.hid t=none->t∉g.mu->h.get? t=some { cls:=.none,data:=.fields ps } -> TriplesOk ps.toList ->
  (∀ pos cv,codeAmong pos ps.toList=some cv->∃ c o vs u,cv=.ref c/\g.fz c=some o/\o.data=.fields vs/\vs[1]? = some (.str q u))->R_)->R_
noncomputable def frC:Value:=.type "#frame"
def Hd (h:Heap) (a:Addr) (o:Obj):Prop:=∃ o',h.get? a=some o'/\o'.data=o.data/\(o.cls≠frC->o'=o)
theorem Hd.of {h:Heap} {a:Addr} {o:Obj} (e:h.get? a=some o):Hd h a o:=⟨o,e,rfl,fun _=>rfl⟩
theorem Hd.keep {h h':Heap} {a:Addr} {o:Obj} (x:Hd h a o) (k:∀ o,h.get? a=some o->h'.get? a=some o):Hd h' a o:=x.imp fun _ x=>⟨k _ x.1,x.2⟩
theorem Hd.ex {h:Heap} {a:Addr} {o:Obj} (x:Hd h a o) (n:o.cls≠frC):h.get? a=some o:=let ⟨_,e,_,q⟩:=x; q n▸e
noncomputable def frO (o:Obj):Obj:={ o with cls:=frC }
theorem Hd.fr {h:Heap} {a:Addr} {o:Obj} (e:h.get? a=some o):Hd h a (frO o):=⟨o,e,rfl,fun q=>absurd rfl q⟩
theorem AZ {o:Obj} {t:String} (h:o.cls=.type t) (n:(t == "#frame")=false):o.cls≠frC:=fun q=>ABB (n.symm.trans (beq_iff_eq.mpr (Value.type.inj (h.symm.trans q))))
structure Has (T:Top) (g:G) (σ:Aa) (s:Shared):Prop where
 fz:∀ a o,g.fz a=some o->s.heap.get? a=some o
 hd:∀ a o,g.hid a=some o->Hd s.heap a o
 len:g.mu.length=σ.length
 nd:g.mu.Nodup
 ap:∀ a,a∈g.mu->g.fz a=none
 ah:∀ a o,g.hid a=some o->g.fz a=none/\a∉g.mu
 ob:∀ (k:Nat) (a:Addr) (o:O),g.mu[k]? = some a->σ[k]? = some o->∀ R_:Prop,(∀ x,s.heap.get? a=some x->Dp T g o x->R_)->R_
 base:∀ a o,T.h0.get? a=some o->g.fz a=some o
 tb:∀ t q,(t,q)∈T.tabs->RW g s.heap t q
 gens:s.gens=T.gens
 os:s.os=T.os
def BX (T:Top) (own:List Addr) (g:G) (σ':Aa) (R:G->Prop) (s':Shared):Prop:=∀ R_:Prop,(∀ g',G.le own g g'->Has T g' σ' s'->R g'->R_)->R_
theorem BX.mk {T:Top} {own:List Addr} {g:G} {σ':Aa} {R:G->Prop} {s':Shared} (g':G) (le:G.le own g g') (h:Has T g' σ' s') (r:R g'):BX T own g σ' R s':=fun _ k=>k g' le h r
theorem BX.after {T:Top} {own:List Addr} {g g₁:G} {σ':Aa} {R:G->Prop} {s':Shared} (le:G.le own g g₁) (h:BX T own g₁ σ' R s'):BX T own g σ' R s':=fun R_ k=>h R_ fun g' l a r=>k g' (le.trans l) a r
end Mine
namespace Mine
open PySem
theorem Bm (h:Heap):h.get? h.objs.size=none:=ABO (AAL _)
theorem AR:line=sizeLine:=by unfold sizeLine; rfl
structure Dl (T:Top) (g:G) (a:Addr):Prop where
 fz:g.fz a=none
 hid:g.hid a=none
 mu:a∉g.mu
 tab:∀ q,(a,q)∉T.tabs
section
variable {T:Top} {own:List Addr} {g g':G} {σ σ':Aa} {s s':Shared} {a:Addr} {o:Obj}
theorem Has.muAlive (H:Has T g σ s) (h:a∈g.mu):∃ o,s.heap.get? a=some o:=by
 obtain ⟨k,hk,e⟩:=List.mem_iff_getElem.mp h
 have hσ:k < σ.length:=H.len▸hk
 exact H.ob k a σ[k] (by rw [AAN hk,e]) (AAN hσ) _ fun x hx _=>⟨x,hx⟩
theorem DQ {α:Type} {o:Option α} (h:∀ a,o=some a->False):o=none:=by
 cases o with
 | none=>rfl
 | some a=>exact (h a rfl).elim
theorem RW.at {h:Heap} {t:Addr} {q:Str} (x:RW g h t q):∃ o,h.get? t=some o:=x _ fun _ _ _ _ ho _ _=>⟨_,ho⟩
theorem Has.free (H:Has T g σ s) (h:s.heap.get? a=none):Dl T g a :=
 ⟨DQ fun o e=>Am h (H.fz a o e),DQ fun o e=>let ⟨_,q,_⟩:=H.hd a o e; Am h q,fun q=>by obtain ⟨o,e⟩:=H.muAlive q; exact Am h e,fun q m=>by obtain ⟨o,e⟩:=(H.tb _ _ m).at; exact Am h e⟩
theorem Has.hidTab (H:Has T g σ s) (e:g.hid a=some o) (q:Str):(a,q)∉T.tabs:=fun m=>H.tb _ _ m _ fun _ _ h2 _ _ _ _=>Am h2 e
theorem Has.re (H:Has T g σ s) (hd:Addr->Option Obj) (hh:∀ a o,hd a=some o->Hd s'.heap a o/\g.fz a=none/\a∉g.mu/\∀ q,(a,q)∉T.tabs)
 (kf:∀ b o,g.fz b=some o->s.heap.get? b=some o->s'.heap.get? b=some o) (km:∀ b o,b∈g.mu->s.heap.get? b=some o->s'.heap.get? b=some o) (kt:∀ t q o,(t,q)∈T.tabs->s.heap.get? t=some o->s'.heap.get? t=some o)
 (hg:s'.gens=s.gens) (ho:s'.os=s.os):Has T ⟨g.fz,hd,g.mu⟩ σ s':=by
 have up:G.up g ⟨g.fz,hd,g.mu⟩:=⟨fun _ _ e=>e,fun _ _ e=>e⟩
 refine ⟨fun a o e=>kf a o e (H.fz a o e),fun a o e=>(hh a o e).1,H.len,H.nd,H.ap,fun a o e=>⟨(hh a o e).2.1,(hh a o e).2.2.1⟩,fun k a o e1 e2 R_ r=>H.ob k a o e1 e2 R_ fun x h1 h2=>r x (km a x (AA5 e1) h1) (Dp.mono up _ _ h2),H.base,
  fun t q m R_ r=>H.tb t q m R_ fun ps h1 h2 h3 h4 h5 h6=>r ps h1 (DQ fun o e=>(hh _ o e).2.2.2 q m) h3 (kt t q _ m h4) h5 h6,hg.trans H.gens,ho.trans H.os⟩
theorem Has.keep (H:Has T g σ s) (k:∀ b o,s.heap.get? b=some o->s'.heap.get? b=some o) (hg:s'.gens=s.gens:=by rfl) (ho:s'.os=s.os:=by rfl):Has T g σ s' :=
 H.re g.hid (fun a o e=>⟨(H.hd a o e).keep (k _),(H.ah a o e).1,(H.ah a o e).2,H.hidTab e⟩) (fun b o _ e=>k b o e) (fun b o _ e=>k b o e) (fun t q o _ e=>k _ o e) hg ho
theorem Has.tok (H:Has T g σ s) (h:s'.heap=s.heap:=by rfl) (hg:s'.gens=s.gens:=by rfl) (ho:s'.os=s.os:=by rfl):Has T g σ s':=H.keep (fun b o e=>h▸e) hg ho
noncomputable def G.hide (g:G) (a:Addr) (o:Obj):G:=⟨g.fz,fun b=>if b=a then some o else g.hid b,g.mu⟩
theorem G.hide_self {g:G}:(g.hide a o).hid a=some o:=if_pos rfl
theorem G.hide_ne {g:G} {b:Addr} (h:b≠a):(g.hide a o).hid b=g.hid b:=if_neg h
theorem G.le.hide (h:a∈own):G.le own g (g.hide a o):=⟨⟨fun _ _ e=>e,fun _ _ e=>e⟩,fun b hb=>G.hide_ne fun q=>hb (q▸h)⟩
theorem Has.hideH (H:Has T g σ s) (h1:g.fz a=none) (h2:a∉g.mu) (h3:∀ q,(a,q)∉T.tabs) (k:∀ b x,b≠a->s.heap.get? b=some x->s'.heap.get? b=some x) (h:Hd s'.heap a o) (hg:s'.gens=s.gens:=by rfl) (ho:s'.os=s.os:=by rfl):Has T (g.hide a o) σ s':=by
 refine H.re _ (fun b x e=>?_) (fun b x e e'=>k b x (fun q=>Am h1 (q▸e)) e') (fun b x e e'=>k b x (fun q=>h2 (q▸e)) e') (fun t q x m e=>k _ x (fun e'=>h3 q (e'▸m)) e) hg ho
 by_cases q:b=a
 ·rw [if_pos q] at e; rw [q,<-AAA e]; exact ⟨h,h1,h2,h3⟩
 ·rw [if_neg q] at e
  exact ⟨(H.hd b x e).keep fun x=>k b x q,(H.ah b x e).1,(H.ah b x e).2,H.hidTab e⟩
theorem Has.hide (H:Has T g σ s) (h1:g.fz a=none) (h2:a∉g.mu) (h3:∀ q,(a,q)∉T.tabs) (k:∀ b x,b≠a->s.heap.get? b=some x->s'.heap.get? b=some x) (h:s'.heap.get? a=some o) (hg:s'.gens=s.gens:=by rfl) (ho:s'.os=s.os:=by rfl):Has T (g.hide a o) σ s':=H.hideH h1 h2 h3 k (.of h) hg ho
theorem Dl.hide (F:Dl T g a) (H:Has T g σ s) (h:s.heap.get? a=some o):Has T (g.hide a o) σ s:=H.hide F.fz F.mu F.tab (fun _ _ _ e=>e) h
theorem Has.rehideH {o₀:Obj} (H:Has T g σ s) (e:g.hid a=some o₀) (k:∀ b x,b≠a->s.heap.get? b=some x->s'.heap.get? b=some x) (h:Hd s'.heap a o) (hg:s'.gens=s.gens:=by rfl) (ho:s'.os=s.os:=by rfl):Has T (g.hide a o) σ s':=H.hideH (H.ah a _ e).1 (H.ah a _ e).2 (H.hidTab e) k h hg ho
theorem Has.rehide {o₀:Obj} (H:Has T g σ s) (e:g.hid a=some o₀) (k:∀ b x,b≠a->s.heap.get? b=some x->s'.heap.get? b=some x) (h:s'.heap.get? a=some o) (hg:s'.gens=s.gens:=by rfl) (ho:s'.os=s.os:=by rfl):Has T (g.hide a o) σ s' :=
 H.hide (H.ah a _ e).1 (H.ah a _ e).2 (H.hidTab e) k h hg ho
theorem Has.back {its:List Addr} (H:Has T g' σ s) (le:G.le (its++own) g g') (hn:∀ c,c∈its->g.hid c=none) (k:∀ c o,c∉its->s.heap.get? c=some o->s'.heap.get? c=some o) (hf:∀ c,c∈its->g'.fz c=none/\c∉g'.mu/\∀ q,(c,q)∉T.tabs)
 (hg:s'.gens=s.gens:=by rfl) (ho:s'.os=s.os:=by rfl):∃ hd,Has T ⟨g'.fz,hd,g'.mu⟩ σ s'/\G.le own g ⟨g'.fz,hd,g'.mu⟩/\∀ c,c∉its->hd c=g'.hid c:=by
 refine ⟨fun c=>@ite _ (c∈its) (Classical.propDecidable _) none (g'.hid c),H.re _ (fun a o e=>?_) (fun b o e e'=>k b o (fun q=>Am (hf b q).1 e) e') (fun b o e e'=>k b o (fun q=>(hf b q).2.1 e) e') (fun t q o m e=>k _ o (fun h=>(hf _ h).2.2 q m) e) hg ho,⟨⟨le.fz,le.mu⟩,fun c hc=>?_⟩,fun c hc=>if_neg hc⟩
 ·by_cases q:a∈its
  ·rw [if_pos q] at e; exact Ac e
  ·rw [if_neg q] at e
   exact ⟨(H.hd a o e).keep fun o=>k a o q,(H.ah a o e).1,(H.ah a o e).2,H.hidTab e⟩
 ·show @ite _ (c∈its) (Classical.propDecidable _) none (g'.hid c)=_
  by_cases q:c∈its
  ·rw [if_pos q,hn c q]
  ·rw [if_neg q]; exact le.hid c fun h=>(AA0.mp h).elim q hc
noncomputable def G.put (g:G) (a:Addr) (o:Obj):G:=⟨fun b=>if b=a then some o else g.fz b,g.hid,g.mu⟩
theorem G.put_self {g:G}:(g.put a o).fz a=some o:=if_pos rfl
theorem G.le.put (h:g.fz a=none):G.le own g (g.put a o) :=
 ⟨⟨fun b x e=>by show (if b=a then some o else g.fz b)=some x; rw [if_neg (fun q=>by rw [q,h] at e; exact Ac e)]; exact e,fun _ _ e=>e⟩,fun _ _=>rfl⟩
theorem Dl.put (F:Dl T g a) (H:Has T g σ s) (h:s.heap.get? a=some o):Has T (g.put a o) σ s:=by
 have le:G.le [] g (g.put a o):=.put F.fz
 have ne:∀ {b:Addr},b≠a->(g.put a o).fz b=g.fz b:=fun q=>if_neg q
 refine ⟨fun b x e=>?_,H.hd,H.len,H.nd,fun b hb=>(ne fun q=>F.mu (q▸hb)).trans (H.ap b hb),fun b x e=>⟨(ne fun q=>Am F.hid (q▸e)).trans (H.ah b x e).1,(H.ah b x e).2⟩,fun k b x e1 e2 R_ r=>H.ob k b x e1 e2 R_ fun y h1 h2=>r y h1 (Dp.mono le.toup _ _ h2),fun b x e=>le.fz b x (H.base b x e),fun t q m R_ r=>H.tb t q m R_ fun ps h1 h2 h3 h4 h5 h6=>r ps ((ne fun e=>F.tab q (e▸m)).trans h1) h2 h3 h4 h5 fun pos cv e=>?_,H.gens,H.os⟩
 ·by_cases q:b=a
  ·rw [q] at e ⊢; rw [<-AAA (G.put_self.symm.trans e)]; exact h
  ·rw [ne q] at e; exact H.fz b x e
 ·obtain ⟨c,o,vs,t,q1,q2,q3⟩:=h6 pos cv e
  exact ⟨c,o,vs,t,q1,le.fz _ _ q2,q3⟩
noncomputable def G.add (g:G) (a:Addr):G:=⟨g.fz,g.hid,g.mu++[a]⟩
theorem G.le.add:G.le own g (g.add a) :=
 ⟨⟨fun _ _ e=>e,fun k b e=>by show (g.mu++[a])[k]? = some b; rw [ABE (AAM.mp e).1]; exact e⟩,fun _ _=>rfl⟩
theorem Has.addAt (H:Has T g σ s):(g.add a).mu[σ.length]? = some a:=by
 show (g.mu++[a])[σ.length]? = some a
 rw [<-H.len,AA6 (AAL _),Nat.sub_self]; rfl
theorem FL {α:Type} {l:List α} {a b:α} (h:b∈l++[a]):b∈l\/b=a:=(AA0.mp h).imp id AAJ.mp
theorem Dl.add {ob:O} (F:Dl T g a) (H:Has T g σ s) (h:s.heap.get? a=some o) (hr:Dp T (g.add a) ob o):Has T (g.add a) (σ++[ob]) s:=by
 refine ⟨H.fz,H.hd,by show (g.mu++[a]).length=_; rw [AAF,AAF,H.len]; rfl,?_,fun b hb=>(FL hb).elim (H.ap b) fun q=>q▸F.fz,fun b x e=>⟨(H.ah b x e).1,fun hb=>(FL hb).elim (H.ah b x e).2 fun q=>Am F.hid (q▸e)⟩,fun k b y e1 e2 R_ r=>?_,H.base,fun t q m R_ r=>H.tb t q m R_ fun ps h1 h2 h3 h4 h5 h6=>r ps h1 h2 (fun h=>(FL h).elim h3 fun e=>F.tab q (e▸m)) h4 h5 h6,H.gens,H.os⟩
 ·show (g.mu++[a]).Nodup
  exact ABW.mpr ⟨H.nd,ABX.mpr ⟨AA1,ABY⟩,fun x hx y hy q=>F.mu (AAJ.mp hy▸q▸hx)⟩
 ·have e1':(g.mu++[a])[k]? = some b:=e1
  by_cases hkl:k < σ.length
  ·rw [ABE (H.len.symm▸hkl)] at e1'
   rw [ABE hkl] at e2
   exact H.ob k b y e1' e2 R_ fun z h1 h2=>r z h1 (Dp.mono (G.le.add (own:=[])).toup _ _ h2)
  ·have hk':k=σ.length:=by
    have:=(AAM.mp e2).1
    rw [AAF] at this
    exact Nat.le_antisymm (ACA this) (Nat.le_of_not_lt hkl)
   rw [hk'] at e1 e2
   have e3:(σ++[ob])[σ.length]? = some ob:=List.getElem?_concat_length
   rw [<-Av H.addAt e1,<-Av e3 e2] at r
   exact r o h hr
theorem Has.turn {k:Nat} {ob:O} (H:Has T g σ s) (hk:g.mu[k]? = some a) (hs:∀ b x,b≠a->s.heap.get? b=some x->s'.heap.get? b=some x) (hx:s'.heap.get? a=some o) (hr:Dp T g ob o) (hg:s'.gens=s.gens:=by rfl) (ho:s'.os=s.os:=by rfl):Has T g (σ.set k ob) s':=by
 have hm:a∈g.mu:=AA5 hk
 refine ⟨fun b x e=>hs b x (fun q=>Am (H.ap a hm) (q▸e)) (H.fz b x e),fun b x e=>(H.hd b x e).keep fun y=>hs b y fun q=>(H.ah b x e).2 (q▸hm),by rw [AB0]; exact H.len,H.nd,H.ap,H.ah,fun j b y e1 e2 R_ r=>?_,H.base,fun t q m R_ r=>H.tb t q m R_ fun ps h1 h2 h3 h4 h5 h6=>r ps h1 h2 h3 (hs _ _ (fun q=>h3 (q▸hm)) h4) h5 h6,hg.trans H.gens,ho.trans H.os⟩
 ·by_cases q:j=k
  ·rw [q] at e1 e2
   have hkl:k < σ.length:=H.len▸(AAM.mp hk).1
   rw [<-Av hk e1,<-Av (AB1 hkl) e2] at r
   exact r o hx hr
  ·rw [List.getElem?_set_ne (fun h=>q h.symm)] at e2
   refine H.ob j b y e1 e2 R_ fun z h1 h2=>r z (hs b z (fun q'=>q ?_) h1) h2
   obtain ⟨l1,m1⟩:=AAM.mp e1
   obtain ⟨l2,m2⟩:=AAM.mp hk
   exact (List.getElem_inj H.nd).mp (m1.trans (q'.trans m2.symm))
end
end Mine
namespace Mine
open PySem
set_option genCtorIdx true in
inductive MV where
 | append | join | index | insert | pop | extend | remove | clear | get
set_option genCtorIdx true in
inductive Bi where
 | len | sorted | min | isinstance | str | all | any | list | max | ord | int | repr
inductive E where
 | cst (x:PyData)
 | var (i:Nat)
 | ty (t:String)
 | glb (x:PyData)
 | bin (op:Operator) (a b:E)
 | neg (a:E)
 | not (a:E)
 | bop (op:BoolOp) (es:E)
 | cmp (op:CmpOp) (a b:E)
 | nil
 | cons (a r:E)
 | tup (es:E)
 | lst (es:E)
 | dct
 | sub (a i:E)
 | slc (a lo hi:E)
 | bi (b:Bi) (es:E)
 | maxd (a z:E)
 | sortr (a:E)
 | sortk (rev:Bool) (a:E) (i:Nat) (key:E)
 | fcall (f:Nat) (es:E)
 | meth (m:MV) (o es:E)
 | attr (nm:Str) (o:E)
 | mcall (nm:Str) (o es:E)
 | new
 | comp (elt:E) (ts:List Nat) (it ifs:E)
 | range (es:E)
 | zip (a b:E)
 | enum (a:E)
inductive S where
 | any
 | nil
 | cons (s r:S)
 | asg (x:Nat) (e:E)
 | unp (xs:List Nat) (e:E)
 | swp (xs:List Nat) (es:E)
 | set (o i v:E)
 | exp (e:E)
 | ite (c:E) (a b:S)
 | for_ (ts:List Nat) (it:E) (body:S)
 | while_ (c:E) (body:S)
 | ret (e:E)
 | setd (x:Nat) (nm:Str)
 | swl (i j l:Nat) (es:E)
 | rse (k:Nat) (es:E)
 | try_ (b:S) (k:Nat) (h:S)
set_option genCtorIdx true in
inductive GV where
 | fn (f:Nat)
 | bi (b:Bi)
 | ty (t:String)
 | cst (x:PyData)
 | cls
 | exc (k:Nat)
structure Kx where
 vars:List Str
 names:List (Str×NameKind)
 wr:List Str
 gl:Str->Option GV
 lam:Option (Addr×Str)
noncomputable def Kx.kd (K:Kx) (n:Str) (k:NameKind):Bool:=decide (K.names.lookup n=some k)
noncomputable def Kx.isVar (K:Kx) (n:Str):Bool:=(K.kd n .local||(K.kd n .cell||K.kd n .free)) && !(n == ("__debug__" : Str)) && !(n == ("__classdict__" : Str))
noncomputable def Kx.isGl (K:Kx) (n:Str):Bool:=K.kd n .globalImplicit && !(n == ("__debug__" : Str))
noncomputable def Kx.canWr (K:Kx) (i:Nat) (n:Str):Bool:=decide (K.vars[i]? = some n)&&K.wr.contains n&&(K.kd n .local||K.kd n .cell)
theorem AAG:type_of% @of_decide_eq_true:=@of_decide_eq_true
theorem Kx.kd_eq {K:Kx} {n:Str} {k:NameKind} (h:K.kd n k=true):K.names.lookup n=some k:=AAG h
noncomputable def Kx.isAt (K:Kx) (i:Nat) (n:Str):Bool:=match K.vars[i]? with | some m=>m == n | none=>false
noncomputable def toC (x:PyData):Const:=match x with | .bool b=>.bool b | .int i=>.int i | .str t=>.str t | _=>.none
noncomputable def cOk (x:PyData):Bool:=match x with | .none=>true | .bool _=>true | .int _=>true | .str t=>decide (t.cps.size<=16777216) | _=>false
noncomputable def GE (x y:PyData):Bool :=
 match x with
 | .int a=>(match y with | .int b=>a == b | _=>false)
 | .str a=>(match y with | .str b=>a == b | _=>false)
 | _=>false
noncomputable def Vn (v w:GV):Bool :=
 match v with
 | .fn f=>(match w with | .fn f'=>f == f' | _=>false)
 | .bi f=>(match w with | .bi f'=>Nat.beq f.ctorIdx f'.ctorIdx | _=>false)
 | .ty f=>(match w with | .ty f'=>f == f' | _=>false)
 | .cst x=>(match w with | .cst y=>GE x y | _=>false)
 | .cls=>(match w with | .cls=>true | _=>false)
 | .exc f=>(match w with | .exc f'=>f == f' | _=>false)
noncomputable def FZ (K:Kx) (v:GV) (n:Str):Bool:=K.isGl n&&(match K.gl n with | some w=>Vn w v | none=>false)
noncomputable def E1:MV->String
 | .append => "append" | .join => "join" | .index => "index" | .insert => "insert" | .pop => "pop" | .extend => "extend" | .remove => "remove" | .clear => "clear" | .get => "get"
noncomputable def Bz (e:E):Bool:=match e with | .comp _ _ _ _=>true | _=>false
noncomputable def Da (env:List (Str×NameKind)) (names:List (Str×NameKind)):List (Str×NameKind) :=
 names.map fun (n,k)=>if (k == .free&&env.lookup n == some .cell) then (n,.cell) else (n,k)
noncomputable def Mt (K:Kx) (ts:List Nat) (p:Str×NameKind):Bool :=
 (decide (p.2=.local)&&(p.1 == (".0" : Str)||ts.any fun i=>decide (K.vars[i]? = some p.1)))||((decide (p.2=.free)&&(K.kd p.1 .cell||K.kd p.1 .free))||decide (p.2=.globalImplicit))
noncomputable def Hp (K:Kx) (ts:List Nat) (sc:Scope):Bool :=
 decide (sc.kind=.function)&&sc.names.all (Mt K ts) &&
 sc.names.all (fun p=>decide (sc.names.lookup p.1=some p.2)) &&
 !K.vars.contains (".0" : Str) &&
 ts.all (fun i=>match K.vars[i]? with | some m=>decide (sc.names.lookup m=some .local) | none=>false)
noncomputable def Kx.sub (K:Kx) (ts:List Nat) (sc:Scope):Kx:={ K with names:=Da K.names sc.names,wr:=ts.filterMap (fun i=>K.vars[i]?),lam:=none }
noncomputable def N5 (K:Kx) (nm:Str) (p:Str×NameKind):Bool :=
 (decide (p.2=.local)&&p.1 == nm)||((decide (p.2=.free)&&(K.kd p.1 .cell||K.kd p.1 .free))||decide (p.2=.globalImplicit))
noncomputable def QD (K:Kx) (i:Nat) (nm:Str) (sc:Scope):Bool :=
 K.lam.isSome&&(K.isAt i nm&&(decide (sc.kind=.function)&&(!sc.isGenerator&&(!sc.isCoroutine&&(sc.names.all (N5 K nm)&&(sc.names.all (fun p=>decide (sc.names.lookup p.1=some p.2))&&decide (sc.names.lookup nm=some .local)))))))
noncomputable def Kx.lsub (K:Kx) (nm:Str) (sc:Scope):Kx:={ K with names:=sc.names,wr:=[nm],lam:=none }
noncomputable def EN (nm:Str) (ap:Pos):Arguments:=⟨[],[⟨nm,none,ap⟩],none,[],[],none,[]⟩
noncomputable def V7 (b:Bi):GV:=match b with | .str=>.ty "str" | .list=>.ty "list" | .int=>.ty "int" | b=>.bi b
def Xi (x:PyData) (x_:Expr):Prop:=∀ R_:Expr->Prop,(∀ (k:Nat) (p:Pos),cOk x=true->R_ (.Constant (toC x) k p))->R_ x_
def VI (P:Str->Prop) (x_:Expr):Prop:=∀ R_:Expr->Prop,(∀ (n:Str) (p:Pos),P n->R_ (.Name n p))->R_ x_
def Xl (op:Operator) (A B:Expr->Prop) (x_:Expr):Prop:=∀ R_:Expr->Prop,(∀ (l r:Expr) (p:Pos),A l->B r->R_ (.BinOp l op r p))->R_ x_
def WS (op:UnaryOp) (A:Expr->Prop) (x_:Expr):Prop:=∀ R_:Expr->Prop,(∀ (x:Expr) (p:Pos),A x->R_ (.UnaryOp op x p))->R_ x_
def Xk (op:BoolOp) (A:List Expr->Prop) (x_:Expr):Prop:=∀ R_:Expr->Prop,(∀ (vs:List Expr) (p:Pos),A vs->R_ (.BoolOp op vs p))->R_ x_
def Xj (op:CmpOp) (A B:Expr->Prop) (x_:Expr):Prop:=∀ R_:Expr->Prop,(∀ (l r:Expr) (p:Pos),A l->B r->R_ (.Compare l [op] [r] p))->R_ x_
def WT (A:List Expr->Prop) (x_:Expr):Prop:=∀ R_:Expr->Prop,(∀ (vs:List Expr) (k:Nat) (p:Pos),A vs->R_ (.Tuple vs k p))->R_ x_
def Xd (A:List Expr->Prop) (x_:Expr):Prop:=∀ R_:Expr->Prop,(∀ (vs:List Expr) (p:Pos),A vs->R_ (.List vs p))->R_ x_
def Xh (x_:Expr):Prop:=∀ R_:Expr->Prop,(∀ (p:Pos),R_ (.Dict [] [] p))->R_ x_
def Xc (P:Str->Prop) (A Z:Expr->Prop) (x_:Expr):Prop:=∀ R_:Expr->Prop,(∀ (n:Str) (np:Pos) (x y:Expr) (kp p:Pos),P n->A x->Z y->R_ (.Call (.Name n np) [x] [⟨some (ACB "default"),y,kp⟩] p))->R_ x_
def TY (P:Str->Prop) (A:Expr->Prop) (x_:Expr):Prop:=∀ R_:Expr->Prop,(∀ (n:Str) (np:Pos) (x:Expr) (k:Nat) (cp kp p:Pos),P n->A x->R_ (.Call (.Name n np) [x] [⟨some (ACB "reverse"),.Constant (.bool true) k cp,kp⟩] p))->R_ x_
def VG (P:Str->Prop) (A:Expr->Prop) (B:Str->Scope->Expr->Prop) (rev:Bool) (x_:Expr):Prop:=∀ R_:Expr->Prop,(∀ (n:Str) (np:Pos) (x:Expr) (nm:Str) (ap:Pos) (b:Expr) (sc:Scope) (lp kp:Pos) (k:Nat) (cp kp' p:Pos),P n->A x->B nm sc b->R_ (.Call (.Name n np) [x] (⟨some (ACB "key"),.Lambda (EN nm ap) b sc lp,kp⟩::bif rev then [⟨some (ACB "reverse"),.Constant (.bool true) k cp,kp'⟩] else []) p))->R_ x_
def WX (A B:Expr->Prop) (x_:Expr):Prop:=∀ R_:Expr->Prop,(∀ (v x:Expr) (p:Pos),A v->B x->R_ (.Subscript v x p))->R_ x_
def WY (A:Expr->Prop) (B C:Option Expr->Prop) (x_:Expr):Prop:=∀ R_:Expr->Prop,(∀ (v:Expr) (l u:Option Expr) (q p:Pos),A v->B l->C u->R_ (.Subscript v (.Slice l u none q) p))->R_ x_
def Fw (P:Str->Prop) (A:List Expr->Prop) (x_:Expr):Prop:=∀ R_:Expr->Prop,(∀ (n:Str) (np:Pos) (vs:List Expr) (p:Pos),P n->A vs->R_ (.Call (.Name n np) vs [] p))->R_ x_
def RZ (m:Str) (A:Expr->Prop) (B:List Expr->Prop) (x_:Expr):Prop:=∀ R_:Expr->Prop,(∀ (x:Expr) (ap:Pos) (vs:List Expr) (p:Pos),A x->B vs->ap.endLine=p.line->vs.length < 20->R_ (.Call (.Attribute x m ap) vs [] p))->R_ x_
def VK (m:Str) (A:Expr->Prop) (x_:Expr):Prop:=∀ R_:Expr->Prop,(∀ (x:Expr) (p:Pos),A x->R_ (.Attribute x m p))->R_ x_
def VJ (A:Expr->Prop) (S:Scope->Prop) (P X:Scope->Expr->Prop) (F:Scope->List Expr->Prop) (x_:Expr):Prop:=∀ R_:Expr->Prop,(∀ (x t i:Expr) (cs:List Expr) (sc:Scope) (p:Pos),A i->S sc->P sc t->X sc x->F sc cs->R_ (.ListComp x [⟨t,i,cs,0⟩] sc p))->R_ x_
def LS {α:Type} (x_:List α):Prop:=x_=[]
def Kz (A:Expr->Prop) (B:List Expr->Prop) (x_:List Expr):Prop:=∀ R_:List Expr->Prop,(∀ (e:Expr) (l:List Expr),A e->B l->R_ (e::l))->R_ x_
def Ky (x_:Option Expr):Prop:=x_=none
def Kw (A:Expr->Prop) (x_:Option Expr):Prop:=∀ R_:Option Expr->Prop,(∀ (e:Expr),A e->R_ (some e))->R_ x_
noncomputable def LR (K:Kx):List Nat->List Expr->Prop
 | [],l=>l=[]
 | i::r,l=>∀ R_:List Expr->Prop,(∀ (n:Str) (p:Pos) (t:List Expr),K.canWr i n=true->LR K r t->R_ (.Name n p::t))->R_ l
def IsT (K:Kx) (ts:List Nat) (x_:Expr):Prop:=∀ R_:List Nat->Expr->Prop,(∀ (i:Nat) (n:Str) (p:Pos),K.canWr i n=true->R_ [i] (.Name n p))->(∀ (es:List Expr) (k:Nat) (p:Pos),ts.length≠1->LR K ts es->R_ ts (.Tuple es k p))->R_ ts x_
noncomputable def GF (K:Kx) (ts:List Expr):Bool:=ts.any fun e=>match e with | .Name n _=>!K.kd n .local | _=>false
noncomputable abbrev Kx.to (K:Kx) (v:GV) (n:Str):Prop:=K.isGl n=true/\K.gl n=some v
noncomputable def BT (it:E):Bool:=match it with | .zip _ _=>true | .enum _=>true | _=>false
noncomputable def GN (ts:List Nat) (it:E):Bool:=if BT it=true then decide (ts.length≠1) else true
noncomputable def B9 (e:E):Bool:=match e with | .nil=>true | _=>false
noncomputable def Is:E->Kx->(Expr->Prop)×(List Expr->Prop)
 | .cst x,_=>(Xi x,fun _=>False)
 | .var i,K=>(VI fun n=>K.isVar n=true/\K.vars[i]? = some n,fun _=>False)
 | .ty t,K=>(VI (K.to (.ty t)),fun _=>False)
 | .glb x,K=>(VI (K.to (.cst x)),fun _=>False)
 | .bin op a b,K=>(Xl op (Is a K).1 (Is b K).1,fun _=>False)
 | .neg a,K=>(WS .USub (Is a K).1,fun _=>False)
 | .not a,K=>(WS .Not (Is a K).1,fun _=>False)
 | .bop op es,K=>(Xk op (Is es K).2,fun _=>False)
 | .cmp op a b,K=>(Xj op (Is a K).1 (Is b K).1,fun _=>False)
 | .nil,_=>(fun _=>False,LS)
 | .cons a r,K=>(fun _=>False,Kz (Is a K).1 (Is r K).2)
 | .tup es,K=>(WT (Is es K).2,fun _=>False)
 | .lst es,K=>(Xd (Is es K).2,fun _=>False)
 | .dct,_=>(Xh,fun _=>False)
 | .sub a i,K=>(WX (Is a K).1 (Is i K).1,fun _=>False)
 | .slc a lo hi,K=>(WY (Is a K).1 (if B9 lo then Ky else Kw (Is lo K).1) (if B9 hi then Ky else Kw (Is hi K).1),fun _=>False)
 | .bi b es,K=>(Fw (K.to (V7 b)) (Is es K).2,fun _=>False)
 | .maxd a z,K=>(Xc (K.to (.bi .max)) (Is a K).1 (Is z K).1,fun _=>False)
 | .sortr a,K=>(TY (K.to (.bi .sorted)) (Is a K).1,fun _=>False)
 | .sortk rev a i key,K=>(VG (K.to (.bi .sorted)) (Is a K).1 (fun nm sc b=>QD K i nm sc=true/\(Is key (K.lsub nm sc)).1 b) rev,fun _=>False)
 | .fcall f es,K=>(Fw (K.to (.fn f)) (Is es K).2,fun _=>False)
 | .meth m o es,K=>(RZ (Str.ofString (E1 m)) (Is o K).1 (Is es K).2,fun _=>False)
 | .attr nm o,K=>(VK nm (Is o K).1,fun _=>False)
 | .mcall nm o es,K=>(RZ nm (Is o K).1 (Is es K).2,fun _=>False)
 | .new,K=>(Fw (K.to .cls) LS,fun _=>False)
 | .comp elt ts it ifs,K=>(VJ (Is it K).1 (fun sc=>Hp K ts sc=true/\GN ts it=true) (fun sc=>IsT (K.sub ts sc) ts) (fun sc=>(Is elt (K.sub ts sc)).1) (fun sc=>(Is ifs (K.sub ts sc)).2),fun _=>False)
 | .range es,K=>(Fw (K.to (.ty "range")) (Is es K).2,fun _=>False)
 | .zip a b,K=>(Fw (K.to (.ty "zip")) (Kz (Is a K).1 (Kz (Is b K).1 LS)),fun _=>False)
 | .enum a,K=>(Fw (K.to (.ty "enumerate")) (Kz (Is a K).1 LS),fun _=>False)
noncomputable abbrev IsE (e:E) (K:Kx):Expr->Prop:=(Is e K).1
noncomputable abbrev EU (e:E) (K:Kx):List Expr->Prop:=(Is e K).2
noncomputable def Nk (K:Kx) (n:Str) (p:Pos) (v:Expr):Bool :=
 match v with
 | .ListComp _ _ sc vp=>decide (K.names.lookup n=some .local)&&(decide (p.line=vp.line) && !(sc.names.any fun q=>q.1 == n&&(q.2 == .local||q.2 == .cell)))
 | _=>false
def Xm (P:Str->Prop) (A:Expr->Prop) (W:Str->Pos->Expr->Bool) (x_:Stmt):Prop:=∀ R_:Stmt->Prop,(∀ (n:Str) (p:Pos) (v:Expr) (p':Pos),P n->A v->W n p v=true->R_ (.Assign [.Name n p] v p'))->R_ x_
def WR (P:List Expr->Prop) (A:Expr->Prop) (x_:Stmt):Prop:=∀ R_:Stmt->Prop,(∀ (ts:List Expr) (k:Nat) (p:Pos) (v:Expr) (p':Pos),P ts->A v->R_ (.Assign [.Tuple ts k p] v p'))->R_ x_
def WV (P A:List Expr->Prop) (x_:Stmt):Prop:=∀ R_:Stmt->Prop,(∀ (ts:List Expr) (k:Nat) (p:Pos) (vs:List Expr) (k':Nat) (p' pos:Pos),P ts->A vs->R_ (.Assign [.Tuple ts k p] (.Tuple vs k' p') pos))->R_ x_
def WZ (A B C:Expr->Prop) (x_:Stmt):Prop:=∀ R_:Stmt->Prop,(∀ (o i:Expr) (p:Pos) (v:Expr) (p':Pos),A v->B o->C i->R_ (.Assign [.Subscript o i p] v p'))->R_ x_
def Xg (A:Expr->Prop) (x_:Stmt):Prop:=∀ R_:Stmt->Prop,(∀ (v:Expr) (p:Pos),A v->R_ (.Expr v p))->R_ x_
def Xe (A:Expr->Prop) (B C:List Stmt->Prop) (x_:Stmt):Prop:=∀ R_:Stmt->Prop,(∀ (t:Expr) (x y:List Stmt) (p:Pos),A t->B x->C y->R_ (.If t x y p))->R_ x_
def Xf (P A:Expr->Prop) (B:List Stmt->Prop) (x_:Stmt):Prop:=∀ R_:Stmt->Prop,(∀ (t i:Expr) (b:List Stmt) (p:Pos),P t->A i->B b->R_ (.For t i b [] p))->R_ x_
def TX (A:Expr->Prop) (B:List Stmt->Prop) (x_:Stmt):Prop:=∀ R_:Stmt->Prop,(∀ (t:Expr) (b:List Stmt) (p:Pos),A t->B b->R_ (.While t b [] p))->R_ x_
def Xb (A:Expr->Prop) (x_:Stmt):Prop:=∀ R_:Stmt->Prop,(∀ (v:Expr) (p:Pos),A v->R_ (.Return (some v) p))->R_ x_
def VH (P:Str->Prop) (nm:Str) (x_:Stmt):Prop:=∀ R_:Stmt->Prop,(∀ (n:Str) (p1 p2 p3 p4:Pos),P n->R_ (.Assign [.Attribute (.Name n p1) nm p2] (.Dict [] [] p3) p4))->R_ x_
noncomputable def P7 (K:Kx) (a b c:Str) (pa pb pc:Pos) (vs:List Expr):Bool :=
 K.kd a .local&&K.kd b .local&&K.kd c .local&&pb.line == pa.line&&pc.line == pa.line&&[a,b,c].eraseDups.length == 3&&vs.length == 3 && !vs.all (foldedForSure 8) && !vs.all (constantsAlone 8)
def WW (P:Str->Str->Str->Pos->Pos->Pos->List Expr->Prop) (A:List Expr->Prop) (x_:Stmt):Prop:=∀ R_:Stmt->Prop,(∀ (a b c:Str) (pa pb pc:Pos) (k:Nat) (p:Pos) (vs:List Expr) (k':Nat) (p' pos:Pos),P a b c pa pb pc vs->A vs->R_ (.Assign [.Tuple [.Name a pa,.Name b pb,.Name c pc] k p] (.Tuple vs k' p') pos))->R_ x_
def Xa (P:Str->Prop) (A:List Expr->Prop) (x_:Stmt):Prop:=∀ R_:Stmt->Prop,(∀ (n:Str) (np:Pos) (vs:List Expr) (cp p:Pos),P n->A vs->vs.length < 20->R_ (.Raise (some (.Call (.Name n np) vs [] cp)) none p))->R_ x_
def WU (P:Str->Prop) (A B:List Stmt->Prop) (x_:Stmt):Prop:=∀ R_:Stmt->Prop,(∀ (b:List Stmt) (n:Str) (np:Pos) (y:Stmt) (ys:List Stmt) (hp p:Pos),A b->P n->B (y::ys)->R_ (.Try b [.ExceptHandler (some (.Name n np)) none (y::ys) hp] [] [] p))->R_ x_
def TZ (A:Stmt->Prop) (B:List Stmt->Prop) (x_:List Stmt):Prop:=∀ R_:List Stmt->Prop,(∀ (x:Stmt) (t:List Stmt),A x->B t->R_ (x::t))->R_ x_
noncomputable def Iss:S->Kx->(Stmt->Prop)×(List Stmt->Prop)
 | .any,_=>(fun _=>True,fun _=>True)
 | .nil,_=>(fun _=>False,LS)
 | .cons s r,K=>(fun _=>False,TZ (Iss s K).1 (Iss r K).2)
 | .asg x e,K=>(Xm (fun n=>K.canWr x n=true) (IsE e K) (fun n p v=>bif Bz e then Nk K n p v else true),fun _=>False)
 | .unp xs e,K=>(WR (LR K xs) (IsE e K),fun _=>False)
 | .swp xs es,K=>(WV (fun ts=>LR K xs ts/\(GF K ts=true/\xs.length=3)) (EU es K),fun _=>False)
 | .set o i v,K=>(WZ (IsE v K) (IsE o K) (IsE i K),fun _=>False)
 | .exp e,K=>(Xg (IsE e K),fun _=>False)
 | .ite c a b,K=>(Xe (IsE c K) (Iss a K).2 (Iss b K).2,fun _=>False)
 | .for_ ts it body,K=>(Xf (fun t=>IsT K ts t/\GN ts it=true) (IsE it K) (Iss body K).2,fun _=>False)
 | .while_ c body,K=>(TX (IsE c K) (Iss body K).2,fun _=>False)
 | .ret e,K=>(Xb (IsE e K),fun _=>False)
 | .swl i j l es,K=>(WW (fun a b c pa pb pc vs=>(K.canWr i a=true/\K.canWr j b=true/\K.canWr l c=true)/\P7 K a b c pa pb pc vs=true) (EU es K),fun _=>False)
 | .rse k es,K=>(Xa (K.to (.exc k)) (EU es K),fun _=>False)
 | .try_ b k h,K=>(WU (K.to (.exc k)) (Iss b K).2 (Iss h K).2,fun _=>False)
 | .setd x nm,K=>(VH (fun n=>K.kd n .local=true/\K.vars[x]? = some n/\(n == ("__debug__" : Str))=false) nm,fun _=>False)
noncomputable abbrev IsS (e:S) (K:Kx):Stmt->Prop:=(Iss e K).1
noncomputable abbrev MW (e:S) (K:Kx):List Stmt->Prop:=(Iss e K).2
structure Fn where
 np:Nat
 nv:Nat
 body:S
end Mine
namespace Mine
open PySem
noncomputable def LU:Fn:=⟨1,2,
 (.cons (.ite (.bop .Or (.cons (.cmp .Lt (.bi .len (.cons (.var 0) .nil)) (.cst (.int 1))) (.cons (.cmp .Gt (.bi .len (.cons (.var 0) .nil)) (.glb (.int 12))) .nil)))
  (.cons (.ret (.cst (.bool false)))
   .nil)
  .nil)
  (.cons (.for_ [1] (.var 0)
   (.cons (.ite (.cmp .NotIn (.var 1) (.glb (.str (ACB "abcdefghijklmnopqrstuvwxyz0123456789"))))
    (.cons (.ret (.cst (.bool false)))
     .nil)
    .nil)
    .nil))
  (.cons (.ret (.cst (.bool true)))
  .nil)))⟩
noncomputable def LV:Fn:=⟨1,2,
 (.cons (.ite (.cmp .Gt (.bi .len (.cons (.var 0) .nil)) (.glb (.int 200)))
  (.cons (.ret (.cst (.bool false)))
   .nil)
  .nil)
  (.cons (.for_ [1] (.var 0)
   (.cons (.ite (.bop .Or (.cons (.cmp .Lt (.bi .ord (.cons (.var 1) .nil)) (.cst (.int 32))) (.cons (.cmp .Gt (.bi .ord (.cons (.var 1) .nil)) (.cst (.int 126))) .nil)))
    (.cons (.ret (.cst (.bool false)))
     .nil)
    .nil)
    .nil))
  (.cons (.ret (.cst (.bool true)))
  .nil)))⟩
noncomputable def Gq:Fn:=⟨2,5,
 (.cons (.ite (.not (.fcall 2 (.cons (.var 0) .nil)))
  .any
  .nil)
  (.cons (.for_ [2] (.var 1)
   (.cons (.ite (.not (.fcall 2 (.cons (.var 2) .nil)))
    .any
    .nil)
    .nil))
  (.cons (.for_ [3,4] (.zip (.var 1) (.slc (.var 1) (.cst (.int 1)) .nil))
   (.cons (.ite (.cmp .GtE (.var 3) (.var 4))
    .any
    .nil)
    .nil))
  (.cons (.ite (.cmp .In (.var 0) (.var 1))
   .any
   .nil)
  .nil))))⟩
noncomputable def Ha:Fn:=⟨1,1,
 (.cons (.ite (.bop .And (.cons (.cmp .NotEq (.sub (.var 0) (.cst (.int 0))) (.cst (.str (ACB "add")))) (.cons (.cmp .NotEq (.sub (.var 0) (.cst (.int 0))) (.cst (.str (ACB "cut")))) (.cons (.cmp .NotEq (.sub (.var 0) (.cst (.int 0))) (.cst (.str (ACB "set")))) .nil))))
  .any
  .nil)
  (.cons (.ite (.bop .And (.cons (.cmp .NotEq (.sub (.var 0) (.cst (.int 0))) (.cst (.str (ACB "add")))) (.cons (.cmp .Is (.sub (.var 0) (.cst (.int 1))) (.cst .none)) .nil)))
   .any
   .nil)
  (.cons (.ite (.bop .And (.cons (.cmp .NotEq (.sub (.var 0) (.cst (.int 0))) (.cst (.str (ACB "cut")))) (.cons (.not (.fcall 3 (.cons (.sub (.var 0) (.cst (.int 2))) .nil))) .nil)))
   .any
   .nil)
  .nil)))⟩
noncomputable def Sf:Fn:=⟨1,5,
 (.cons (.swl 1 2 3 (.cons (.sub (.var 0) (.cst (.int 0))) (.cons (.sub (.var 0) (.cst (.int 1))) (.cons (.sub (.var 0) (.cst (.int 2))) .nil))))
  (.cons (.exp (.fcall 4 (.cons (.var 1) (.cons (.var 2) .nil))))
  (.cons (.ite (.cmp .Gt (.bi .len (.cons (.var 3) .nil)) (.glb (.int 20)))
   .any
   .nil)
  (.cons (.for_ [4] (.var 3)
   (.cons (.exp (.fcall 5 (.cons (.var 4) .nil)))
    .nil))
  (.cons (.for_ [4] (.var 3)
   (.cons (.ite (.bop .And (.cons (.cmp .IsNot (.sub (.var 4) (.cst (.int 1))) (.cst .none)) (.cons (.cmp .NotEq (.sub (.sub (.var 4) (.cst (.int 1))) (.cst (.int 0))) (.var 1)) (.cons (.cmp .NotIn (.sub (.sub (.var 4) (.cst (.int 1))) (.cst (.int 0))) (.var 2)) .nil))))
    .any
    .nil)
    .nil))
  .nil)))))⟩
noncomputable def LX:Fn:=⟨1,2,
 (.cons (.ret (.comp (.var 1) [1] (.sub (.var 0) (.cst (.int 2))) (.cons (.cmp .Eq (.sub (.var 1) (.cst (.int 0))) (.cst (.str (ACB "add")))) .nil)))
  .nil)⟩
noncomputable def LT:Fn:=⟨2,4,
 (.cons (.asg 2 (.sortr (.var 0)))
  (.cons (.ret (.sortk false (.var 2) 3 (.sub (.var 1) (.var 3))))
  .nil))⟩
noncomputable def LY:Fn:=⟨1,1,
 (.cons (.setd 0 (ACB "held"))
  (.cons (.setd 0 (ACB "grounds"))
  (.cons (.setd 0 (ACB "heights"))
  .nil)))⟩
noncomputable def Ee:Fn:=⟨2,6,
 (.cons (.exp (.fcall 6 (.cons (.var 1) .nil)))
  (.cons (.asg 2 (.sub (.var 1) (.cst (.int 0))))
  (.cons (.ite (.cmp .In (.var 2) (.attr (ACB "held") (.var 0)))
   .any
   .nil)
  (.cons (.for_ [3] (.sub (.var 1) (.cst (.int 1)))
   (.cons (.ite (.cmp .NotIn (.var 3) (.attr (ACB "held") (.var 0)))
    .any
    .nil)
    .nil))
  (.cons (.exp (.mcall (ACB "check_marks") (.var 0) (.cons (.var 1) .nil)))
  (.cons (.set (.attr (ACB "held") (.var 0)) (.var 2) (.tup (.cons (.var 2) (.cons (.bi .list (.cons (.sub (.var 1) (.cst (.int 1))) .nil)) (.cons (.bi .list (.cons (.sub (.var 1) (.cst (.int 2))) .nil)) .nil)))))
  (.cons (.asg 4 (.dct))
  (.cons (.for_ [3] (.sub (.var 1) (.cst (.int 1)))
   (.cons (.set (.var 4) (.var 3) (.cst (.bool true)))
    (.cons (.for_ [5] (.sub (.attr (ACB "grounds") (.var 0)) (.var 3))
     (.cons (.set (.var 4) (.var 5) (.cst (.bool true)))
      .nil))
    .nil)))
  (.cons (.set (.attr (ACB "grounds") (.var 0)) (.var 2) (.bi .sorted (.cons (.bi .list (.cons (.var 4) .nil)) .nil)))
  (.cons (.set (.attr (ACB "heights") (.var 0)) (.var 2) (.bin .Add (.cst (.int 1)) (.maxd (.comp (.sub (.attr (ACB "heights") (.var 0)) (.var 3)) [3] (.sub (.var 1) (.cst (.int 1))) .nil) (.neg (.cst (.int 1))))))
  .nil))))))))))⟩
noncomputable def Dm:Fn:=⟨2,6,
 (.cons (.asg 2 (.cst (.int 0)))
  (.cons (.for_ [3] (.sub (.var 1) (.cst (.int 2)))
   (.cons (.asg 4 (.sub (.var 3) (.cst (.int 1))))
    (.cons (.ite (.cmp .IsNot (.var 4) (.cst .none))
     (.cons (.asg 5 (.var 2))
      (.cons (.ite (.cmp .NotEq (.sub (.var 4) (.cst (.int 0))) (.sub (.var 1) (.cst (.int 0))))
       (.cons (.asg 5 (.bi .len (.cons (.fcall 7 (.cons (.sub (.attr (ACB "held") (.var 0)) (.sub (.var 4) (.cst (.int 0)))) .nil)) .nil)))
        .nil)
       .nil)
      (.cons (.ite (.bop .Or (.cons (.cmp .Lt (.sub (.var 4) (.cst (.int 1))) (.cst (.int 0))) (.cons (.cmp .GtE (.sub (.var 4) (.cst (.int 1))) (.var 5)) .nil)))
       .any
       .nil)
      .nil)))
     .nil)
    (.cons (.ite (.cmp .Eq (.sub (.var 3) (.cst (.int 0))) (.cst (.str (ACB "add"))))
     (.cons (.asg 2 (.bin .Add (.var 2) (.cst (.int 1))))
      .nil)
     .nil)
    .nil))))
  .nil))⟩
noncomputable def EI:Fn:=⟨2,2,
 (.cons (.ite (.cmp .NotIn (.var 1) (.attr (ACB "held") (.var 0)))
  (.cons (.rse 5 (.cons (.cst (.str (ACB "no change has this name"))) .nil))
   .nil)
  .nil)
  .nil)⟩
noncomputable def EG:Fn:=⟨2,4,
 (.cons (.exp (.mcall (ACB "need") (.var 0) (.cons (.var 1) .nil)))
  (.cons (.asg 2 (.bi .sorted (.cons (.bin .Add (.mcall (ACB "leaning") (.var 0) (.cons (.var 1) .nil)) (.lst (.cons (.var 1) .nil))) .nil)))
  (.cons (.for_ [3] (.var 2)
   (.cons (.exp (.meth .pop (.attr (ACB "held") (.var 0)) (.cons (.var 3) .nil)))
    (.cons (.exp (.meth .pop (.attr (ACB "grounds") (.var 0)) (.cons (.var 3) .nil)))
    (.cons (.exp (.meth .pop (.attr (ACB "heights") (.var 0)) (.cons (.var 3) .nil)))
    .nil))))
  (.cons (.ret (.var 2))
  .nil))))⟩
noncomputable def Gr:Fn:=⟨1,1,
 (.cons (.ret (.bi .sorted (.cons (.bi .list (.cons (.attr (ACB "held") (.var 0)) .nil)) .nil)))
  .nil)⟩
noncomputable def Ff:Fn:=⟨2,3,
 (.cons (.exp (.mcall (ACB "need") (.var 0) (.cons (.var 1) .nil)))
  (.cons (.asg 2 (.sub (.attr (ACB "held") (.var 0)) (.var 1)))
  (.cons (.ret (.tup (.cons (.var 1) (.cons (.bi .list (.cons (.sub (.var 2) (.cst (.int 1))) .nil)) (.cons (.bi .list (.cons (.sub (.var 2) (.cst (.int 2))) .nil)) .nil)))))
  .nil)))⟩
noncomputable def D7:Fn:=⟨2,2,
 (.cons (.exp (.mcall (ACB "need") (.var 0) (.cons (.var 1) .nil)))
  (.cons (.ret (.sub (.attr (ACB "heights") (.var 0)) (.var 1)))
  .nil))⟩
noncomputable def Fe:Fn:=⟨2,2,
 (.cons (.exp (.mcall (ACB "need") (.var 0) (.cons (.var 1) .nil)))
  (.cons (.ret (.bi .list (.cons (.sub (.attr (ACB "grounds") (.var 0)) (.var 1)) .nil)))
  .nil))⟩
noncomputable def EJ:Fn:=⟨2,3,
 (.cons (.exp (.mcall (ACB "need") (.var 0) (.cons (.var 1) .nil)))
  (.cons (.ret (.comp (.var 2) [2] (.mcall (ACB "names") (.var 0) .nil) (.cons (.cmp .In (.var 1) (.sub (.attr (ACB "grounds") (.var 0)) (.var 2))) .nil)))
  .nil))⟩
noncomputable def Ed:Fn:=⟨1,9,
 (.cons (.asg 1 (.lst .nil))
  (.cons (.asg 2 (.dct))
  (.cons (.asg 3 (.dct))
  (.cons (.for_ [4] (.fcall 8 (.cons (.bi .list (.cons (.attr (ACB "held") (.var 0)) .nil)) (.cons (.attr (ACB "heights") (.var 0)) .nil)))
   (.cons (.asg 5 (.cst (.int 0)))
    (.cons (.for_ [6] (.sub (.sub (.attr (ACB "held") (.var 0)) (.var 4)) (.cst (.int 2)))
     (.cons (.ite (.cmp .Eq (.sub (.var 6) (.cst (.int 0))) (.cst (.str (ACB "add"))))
      (.cons (.asg 7 (.tup (.cons (.var 4) (.cons (.var 5) .nil))))
       (.cons (.asg 5 (.bin .Add (.var 5) (.cst (.int 1))))
       (.cons (.asg 8 (.cst (.int 0)))
       (.cons (.ite (.cmp .IsNot (.sub (.var 6) (.cst (.int 1))) (.cst .none))
        (.cons (.asg 8 (.bin .Add (.meth .index (.var 1) (.cons (.sub (.var 6) (.cst (.int 1))) .nil)) (.cst (.int 1))))
         .nil)
        .nil)
       (.cons (.exp (.meth .insert (.var 1) (.cons (.var 8) (.cons (.var 7) .nil))))
       (.cons (.set (.var 2) (.var 7) (.sub (.var 6) (.cst (.int 2))))
       .nil))))))
      (.cons (.ite (.cmp .Eq (.sub (.var 6) (.cst (.int 0))) (.cst (.str (ACB "set"))))
       (.cons (.set (.var 2) (.sub (.var 6) (.cst (.int 1))) (.sub (.var 6) (.cst (.int 2))))
        .nil)
       (.cons (.set (.var 3) (.sub (.var 6) (.cst (.int 1))) (.cst (.bool true)))
        .nil))
       .nil))
      .nil))
    .nil)))
  (.cons (.ret (.tup (.cons (.var 1) (.cons (.var 2) (.cons (.var 3) .nil)))))
  .nil)))))⟩
noncomputable def IW:Fn:=⟨1,1,
 (.cons (.ret (.sub (.mcall (ACB "grown") (.var 0) .nil) (.cst (.int 0))))
  .nil)⟩
noncomputable def Hb:Fn:=⟨1,5,
 (.cons (.unp [1,2,3] (.mcall (ACB "grown") (.var 0) .nil))
  (.cons (.ret (.comp (.tup (.cons (.var 4) (.cons (.sub (.var 2) (.var 4)) .nil))) [4] (.var 1) (.cons (.cmp .NotIn (.var 4) (.var 3)) .nil)))
  .nil))⟩
noncomputable def Hc:Fn:=⟨1,2,
 (.cons (.ret (.comp (.sub (.var 1) (.cst (.int 1))) [1] (.mcall (ACB "told") (.var 0) .nil) .nil))
  .nil)⟩
noncomputable def EH:Fn:=⟨1,4,
 (.cons (.asg 1 (.dct))
  (.cons (.for_ [2] (.mcall (ACB "names") (.var 0) .nil)
   (.cons (.for_ [3] (.sub (.sub (.attr (ACB "held") (.var 0)) (.var 2)) (.cst (.int 2)))
    (.cons (.ite (.bop .And (.cons (.cmp .Eq (.sub (.var 3) (.cst (.int 0))) (.cst (.str (ACB "set")))) (.cons (.cmp .NotIn (.var 2) (.meth .get (.var 1) (.cons (.sub (.var 3) (.cst (.int 1))) (.cons (.lst .nil) .nil)))) .nil)))
     (.cons (.set (.var 1) (.sub (.var 3) (.cst (.int 1))) (.bin .Add (.meth .get (.var 1) (.cons (.sub (.var 3) (.cst (.int 1))) (.cons (.lst .nil) .nil))) (.lst (.cons (.var 2) .nil))))
      .nil)
     .nil)
     .nil))
    .nil))
  (.cons (.ret (.var 1))
  .nil)))⟩
noncomputable def DM:Fn:=⟨2,5,
 (.cons (.asg 2 (.lst .nil))
  (.cons (.for_ [3] (.var 1)
   (.cons (.ite (.not (.bi .any (.cons (.comp (.cmp .In (.var 3) (.sub (.attr (ACB "grounds") (.var 0)) (.var 4))) [4] (.var 1) .nil) .nil)))
    (.cons (.exp (.meth .append (.var 2) (.cons (.var 3) .nil)))
     .nil)
    .nil)
    .nil))
  (.cons (.ret (.var 2))
  .nil)))⟩
noncomputable def DL:Fn:=⟨1,5,
 (.cons (.asg 1 (.lst .nil))
  (.cons (.asg 2 (.mcall (ACB "setters") (.var 0) .nil))
  (.cons (.for_ [3] (.mcall (ACB "told") (.var 0) .nil)
   (.cons (.asg 4 (.mcall (ACB "open_ones") (.var 0) (.cons (.meth .get (.var 2) (.cons (.sub (.var 3) (.cst (.int 0))) (.cons (.lst .nil) .nil))) .nil)))
    (.cons (.ite (.cmp .Gt (.bi .len (.cons (.var 4) .nil)) (.cst (.int 1)))
     (.cons (.exp (.meth .append (.var 1) (.cons (.tup (.cons (.sub (.var 3) (.cst (.int 0))) (.cons (.var 4) .nil))) .nil)))
      .nil)
     .nil)
    .nil)))
  (.cons (.ret (.var 1))
  .nil))))⟩
noncomputable def Uw:Fn:=⟨2,2,
 (.cons (.ite (.cmp .Lt (.var 1) (.bi .len (.cons (.var 0) .nil)))
  (.cons (.ret (.sub (.var 0) (.var 1)))
   .nil)
  .nil)
  (.cons (.ret (.cst (.int 0)))
  .nil))⟩
noncomputable def Sc:Fn:=⟨2,2,
 (.cons (.ret (.bin .Mod (.bin .Mult (.bin .Add (.var 0) (.bin .Mult (.cst (.int 7919)) (.var 1))) (.cst (.int 48271))) (.cst (.int 2147483647))))
  .nil)⟩
noncomputable def Ow:Fn:=⟨2,7,
 (.cons (.asg 2 (.cst (.str (ACB "abcdefghijklmnopqrstuvwxyz0123456789"))))
  (.cons (.asg 3 (.fcall 10 (.cons (.var 0) (.cons (.cst (.int 5)) .nil))))
  (.cons (.asg 4 (.meth .join (.cst (.str (ACB ""))) (.cons (.comp (.sub (.var 2) (.bin .Mod (.fcall 10 (.cons (.var 0) (.cons (.var 5) .nil))) (.cst (.int 36)))) [5] (.range (.cons (.bin .Add (.cst (.int 1)) (.bin .Mod (.var 3) (.cst (.int 12)))) .nil)) .nil) .nil)))
  (.cons (.ite (.cmp .Eq (.bin .Mod (.var 0) (.cst (.int 8))) (.cst (.int 1)))
   (.cons (.asg 4 (.bi .str (.cons (.bin .Mod (.var 3) (.cst (.int 130))) .nil)))
    .nil)
   .nil)
  (.cons (.ite (.bop .And (.cons (.cmp .Eq (.bin .Mod (.var 0) (.cst (.int 8))) (.cst (.int 2))) (.cons (.var 1) .nil)))
   (.cons (.asg 4 (.bin .Add (.slc (.sub (.var 1) (.neg (.cst (.int 1)))) .nil (.cst (.int 11))) (.sub (.var 2) (.bin .Mod (.var 3) (.cst (.int 36))))))
    .nil)
   .nil)
  (.cons (.ite (.bop .And (.cons (.cmp .Gt (.bin .Mod (.var 0) (.cst (.int 8))) (.cst (.int 4))) (.cons (.var 1) .nil)))
   (.cons (.asg 4 (.sub (.var 1) (.bin .Mod (.var 3) (.bi .len (.cons (.var 1) .nil)))))
    (.cons (.asg 6 (.bin .Mod (.bin .FloorDiv (.var 3) (.cst (.int 60))) (.bi .len (.cons (.var 4) .nil))))
    (.cons (.asg 4 (.bin .Add (.bin .Add (.slc (.var 4) .nil (.var 6)) (.sub (.var 2) (.bin .Mod (.bin .FloorDiv (.var 3) (.cst (.int 720))) (.cst (.int 36))))) (.slc (.var 4) (.bin .Add (.var 6) (.cst (.int 1))) .nil)))
    .nil)))
   .nil)
  (.cons (.ite (.cmp .NotIn (.var 4) (.var 1))
   (.cons (.ret (.var 4))
    .nil)
   .nil)
  (.cons (.ret (.sub (.comp (.bi .str (.cons (.var 5) .nil)) [5] (.range (.cons (.bin .Add (.bi .len (.cons (.var 1) .nil)) (.cst (.int 1))) .nil)) (.cons (.cmp .NotIn (.bi .str (.cons (.var 5) .nil)) (.var 1)) .nil)) (.cst (.int 0))))
  .nil))))))))⟩
noncomputable def Ox:Fn:=⟨1,5,
 (.cons (.asg 1 (.cst (.str (ACB " !\"#$&'()*+,-./0123456789:;<=>?\x40ABCDEFGHIJKLMNOPQRSTUVWXYZ[\\]^_`"))))
  (.cons (.asg 1 (.bin .Add (.var 1) (.cst (.str (ACB "abcdefghijklmnopqrstuvwxyz{|}~")))))
  (.cons (.asg 2 (.bin .Mod (.var 0) (.cst (.int 4))))
  (.cons (.ite (.cmp .Eq (.bin .Mod (.bin .FloorDiv (.var 0) (.cst (.int 4))) (.cst (.int 9))) (.cst (.int 1)))
   (.cons (.asg 2 (.bin .Mod (.bin .FloorDiv (.var 0) (.cst (.int 36))) (.cst (.int 201))))
    .nil)
   .nil)
  (.cons (.asg 3 (.meth .join (.cst (.str (ACB ""))) (.cons (.comp (.sub (.var 1) (.bin .Mod (.bin .Add (.bin .FloorDiv (.var 0) (.cst (.int 7))) (.bin .Mult (.var 4) (.bin .Add (.cst (.int 1)) (.bin .Mod (.var 0) (.cst (.int 5)))))) (.cst (.int 94)))) [4] (.range (.cons (.var 2) .nil)) .nil) .nil)))
  (.cons (.ite (.bop .And (.cons (.cmp .Eq (.bin .Mod (.bin .FloorDiv (.var 0) (.cst (.int 3))) (.cst (.int 8))) (.cst (.int 1))) (.cons (.cmp .Lt (.var 2) (.cst (.int 199))) .nil)))
   (.cons (.ret (.bin .Add (.bin .Add (.slc (.var 3) .nil (.cst (.int 1))) (.cst (.str (ACB ": ")))) (.slc (.var 3) (.cst (.int 1)) .nil)))
    .nil)
   .nil)
  (.cons (.ret (.var 3))
  .nil)))))))⟩
noncomputable def K2:Fn:=⟨2,7,
 (.cons (.asg 2 (.fcall 10 (.cons (.var 0) (.cons (.cst (.int 1)) .nil))))
  (.cons (.asg 3 (.lst .nil))
  (.cons (.for_ [4,5] (.enum (.var 1))
   (.cons (.asg 6 (.bop .And (.cons (.cmp .Eq (.var 4) (.bin .Sub (.bi .len (.cons (.var 1) .nil)) (.cst (.int 1)))) (.cons (.cmp .Eq (.bin .Mod (.var 0) (.cst (.int 7))) (.cst (.int 3))) .nil))))
    (.cons (.ite (.bop .Or (.cons (.var 6) (.cons (.bop .And (.cons (.cmp .Eq (.bin .Mod (.var 2) (.bin .Add (.cst (.int 2)) (.bin .Mod (.var 0) (.cst (.int 3))))) (.cst (.int 0))) (.cons (.bop .Or (.cons (.cmp .Lt (.bi .len (.cons (.var 1) .nil)) (.cst (.int 20))) (.cons (.cmp .Eq (.bin .Mod (.var 4) (.cst (.int 7))) (.bin .Mod (.bin .FloorDiv (.var 2) (.cst (.int 4))) (.cst (.int 7)))) .nil))) .nil))) .nil)))
     (.cons (.exp (.meth .append (.var 3) (.cons (.sub (.var 5) (.cst (.int 0))) .nil)))
      .nil)
     .nil)
    (.cons (.asg 2 (.bin .FloorDiv (.var 2) (.cst (.int 3))))
    (.cons (.ite (.cmp .Lt (.var 2) (.cst (.int 100)))
     (.cons (.asg 2 (.fcall 10 (.cons (.var 0) (.cons (.bin .Add (.var 4) (.cst (.int 2))) .nil))))
      .nil)
     .nil)
    .nil)))))
  (.cons (.ret (.bi .sorted (.cons (.var 3) .nil)))
  .nil))))⟩
noncomputable def Sd:Fn:=⟨1,4,
 (.cons (.asg 1 (.bi .len (.cons (.comp (.var 2) [2] (.sub (.var 0) (.cst (.int 2))) (.cons (.cmp .Eq (.sub (.var 2) (.cst (.int 0))) (.cst (.str (ACB "add")))) .nil)) .nil)))
  (.cons (.ret (.comp (.tup (.cons (.sub (.var 0) (.cst (.int 0))) (.cons (.var 3) .nil))) [3] (.range (.cons (.var 1) .nil)) .nil))
  .nil))⟩
noncomputable def K4:Fn:=⟨4,13,
 (.cons (.asg 4 (.lst .nil))
  (.cons (.asg 5 (.cst (.int 0)))
  (.cons (.for_ [6] (.range (.cons (.var 2) .nil))
   (.cons (.asg 7 (.bin .Add (.var 3) (.comp (.tup (.cons (.var 0) (.cons (.var 12) .nil))) [12] (.range (.cons (.var 5) .nil)) .nil)))
    (.cons (.asg 8 (.fcall 10 (.cons (.var 1) (.cons (.var 6) .nil))))
    (.cons (.asg 9 (.bin .Mod (.bin .FloorDiv (.var 8) (.cst (.int 5))) (.bin .Add (.bi .len (.cons (.var 7) .nil)) (.cst (.int 1)))))
    (.cons (.asg 10 (.fcall 12 (.cons (.bin .FloorDiv (.var 8) (.cst (.int 365))) .nil)))
    (.cons (.ite (.bop .Or (.cons (.cmp .Lt (.bin .Mod (.var 8) (.cst (.int 5))) (.cst (.int 3))) (.cons (.not (.var 7)) .nil)))
     (.cons (.asg 11 (.cst .none))
      (.cons (.ite (.cmp .Gt (.var 9) (.cst (.int 0)))
       (.cons (.asg 11 (.sub (.var 7) (.bin .Sub (.var 9) (.cst (.int 1)))))
        .nil)
       .nil)
      (.cons (.exp (.meth .append (.var 4) (.cons (.tup (.cons (.cst (.str (ACB "add"))) (.cons (.var 11) (.cons (.var 10) .nil)))) .nil)))
      (.cons (.asg 5 (.bin .Add (.var 5) (.cst (.int 1))))
      .nil))))
     (.cons (.ite (.cmp .Eq (.bin .Mod (.var 8) (.cst (.int 5))) (.cst (.int 3)))
      (.cons (.exp (.meth .append (.var 4) (.cons (.tup (.cons (.cst (.str (ACB "cut"))) (.cons (.sub (.var 7) (.bin .Mod (.var 9) (.bi .len (.cons (.var 7) .nil)))) .nil))) .nil)))
       .nil)
      (.cons (.exp (.meth .append (.var 4) (.cons (.tup (.cons (.cst (.str (ACB "set"))) (.cons (.sub (.var 7) (.bin .Mod (.var 9) (.bi .len (.cons (.var 7) .nil)))) (.cons (.var 10) .nil)))) .nil)))
       .nil))
      .nil))
    .nil))))))
  (.cons (.ret (.var 4))
  .nil))))⟩
noncomputable def EF:Fn:=⟨2,10,
 (.cons (.asg 2 (.lst .nil))
  (.cons (.asg 3 (.lst (.cons (.cst (.str (ACB "0"))) .nil)))
  (.cons (.for_ [4] (.range (.cons (.bi .min (.cons (.bin .FloorDiv (.bi .len (.cons (.var 0) .nil)) (.cst (.int 4))) (.cons (.var 1) .nil))) .nil))
   (.cons (.asg 5 (.fcall 11 (.cons (.sub (.var 0) (.bin .Mult (.cst (.int 4)) (.var 4))) (.cons (.var 3) .nil))))
    (.cons (.exp (.meth .append (.var 3) (.cons (.var 5) .nil)))
    (.cons (.asg 6 (.fcall 13 (.cons (.sub (.var 0) (.bin .Add (.bin .Mult (.cst (.int 4)) (.var 4)) (.cst (.int 1)))) (.cons (.var 2) .nil))))
    (.cons (.asg 7 (.lst .nil))
    (.cons (.for_ [8] (.var 2)
     (.cons (.ite (.cmp .In (.sub (.var 8) (.cst (.int 0))) (.var 6))
      (.cons (.asg 7 (.bin .Add (.var 7) (.fcall 14 (.cons (.var 8) .nil))))
       .nil)
      .nil)
      .nil))
    (.cons (.asg 9 (.bin .Mod (.sub (.var 0) (.bin .Add (.bin .Mult (.cst (.int 4)) (.var 4)) (.cst (.int 3)))) (.cst (.int 5))))
    (.cons (.ite (.cmp .Eq (.bin .Mod (.bin .FloorDiv (.sub (.var 0) (.bin .Add (.bin .Mult (.cst (.int 4)) (.var 4)) (.cst (.int 3)))) (.cst (.int 5))) (.cst (.int 16))) (.cst (.int 1)))
     (.cons (.asg 9 (.bin .Sub (.cst (.int 20)) (.bin .Mod (.bin .FloorDiv (.sub (.var 0) (.bin .Add (.bin .Mult (.cst (.int 4)) (.var 4)) (.cst (.int 3)))) (.cst (.int 80))) (.cst (.int 16)))))
      .nil)
     .nil)
    (.cons (.exp (.meth .append (.var 2) (.cons (.tup (.cons (.var 5) (.cons (.var 6) (.cons (.fcall 15 (.cons (.var 5) (.cons (.sub (.var 0) (.bin .Add (.bin .Mult (.cst (.int 4)) (.var 4)) (.cst (.int 2)))) (.cons (.var 9) (.cons (.var 7) .nil))))) .nil)))) .nil)))
    .nil)))))))))
  (.cons (.ret (.var 2))
  .nil))))⟩
noncomputable def Uv:Fn:=⟨1,1,
 (.cons (.ret (.tup (.cons (.sub (.var 0) (.cst (.int 0))) (.cons (.bi .list (.cons (.sub (.var 0) (.cst (.int 1))) .nil)) (.cons (.bi .list (.cons (.sub (.var 0) (.cst (.int 2))) .nil)) .nil)))))
  .nil)⟩
noncomputable def Hy:Fn:=⟨2,8,
 (.cons (.asg 2 (.bi .list (.cons (.var 0) .nil)))
  (.cons (.asg 3 (.lst .nil))
  (.cons (.asg 4 (.lst .nil))
  (.cons (.while_ (.var 2)
   (.cons (.asg 5 (.comp (.var 6) [6] (.var 2) (.cons (.bi .all (.cons (.comp (.cmp .In (.var 7) (.var 3)) [7] (.sub (.var 6) (.cst (.int 1))) .nil) .nil)) .nil)))
    (.cons (.asg 6 (.sub (.var 5) (.bin .Mod (.fcall 10 (.cons (.var 1) (.cons (.bi .len (.cons (.var 2) .nil)) .nil))) (.bi .len (.cons (.var 5) .nil)))))
    (.cons (.exp (.meth .remove (.var 2) (.cons (.var 6) .nil)))
    (.cons (.exp (.meth .append (.var 3) (.cons (.sub (.var 6) (.cst (.int 0))) .nil)))
    (.cons (.exp (.meth .append (.var 4) (.cons (.var 6) .nil)))
    .nil))))))
  (.cons (.ret (.var 4))
  .nil)))))⟩
noncomputable def LW:Fn:=⟨1,4,
 (.cons (.asg 1 (.dct))
  (.cons (.for_ [2] (.var 0)
   (.cons (.set (.var 1) (.sub (.var 2) (.cst (.int 0))) (.maxd (.comp (.bin .Add (.sub (.var 1) (.var 3)) (.cst (.int 1))) [3] (.sub (.var 2) (.cst (.int 1))) .nil) (.cst (.int 0))))
    .nil))
  (.cons (.ret (.var 1))
  .nil)))⟩
noncomputable def MX:Fn:=⟨1,12,
 (.cons (.asg 1 (.fcall 19 (.cons (.var 0) .nil)))
  (.cons (.asg 2 (.sortk true (.var 0) 3 (.sub (.var 3) (.cst (.int 0)))))
  (.cons (.swp [4,5,6] (.cons (.lst .nil) (.cons (.dct) (.cons (.dct) .nil))))
  (.cons (.for_ [3] (.sortk false (.var 2) 9 (.sub (.var 1) (.sub (.var 9) (.cst (.int 0)))))
   (.cons (.asg 7 (.cst (.int 0)))
    (.cons (.for_ [8] (.sub (.var 3) (.cst (.int 2)))
     (.cons (.ite (.cmp .Eq (.sub (.var 8) (.cst (.int 0))) (.cst (.str (ACB "add"))))
      (.cons (.asg 10 (.cst (.int 0)))
       (.cons (.ite (.cmp .IsNot (.sub (.var 8) (.cst (.int 1))) (.cst .none))
        (.cons (.asg 10 (.bin .Add (.meth .index (.var 4) (.cons (.sub (.var 8) (.cst (.int 1))) .nil)) (.cst (.int 1))))
         .nil)
        .nil)
       (.cons (.exp (.meth .insert (.var 4) (.cons (.var 10) (.cons (.tup (.cons (.sub (.var 3) (.cst (.int 0))) (.cons (.var 7) .nil))) .nil))))
       (.cons (.set (.var 5) (.tup (.cons (.sub (.var 3) (.cst (.int 0))) (.cons (.var 7) .nil))) (.sub (.var 8) (.cst (.int 2))))
       (.cons (.asg 7 (.bin .Add (.var 7) (.cst (.int 1))))
       .nil)))))
      (.cons (.ite (.cmp .Eq (.sub (.var 8) (.cst (.int 0))) (.cst (.str (ACB "set"))))
       (.cons (.set (.var 5) (.sub (.var 8) (.cst (.int 1))) (.sub (.var 8) (.cst (.int 2))))
        .nil)
       (.cons (.set (.var 6) (.sub (.var 8) (.cst (.int 1))) (.cst (.bool true)))
        .nil))
       .nil))
      .nil))
    .nil)))
  (.cons (.ret (.tup (.cons (.var 4) (.cons (.comp (.tup (.cons (.var 11) (.cons (.sub (.var 5) (.var 11)) .nil))) [11] (.var 4) (.cons (.cmp .NotIn (.var 11) (.var 6)) .nil)) .nil))))
  .nil)))))⟩
noncomputable def IV:Fn:=⟨2,2,
 (.cons (.ite (.bop .Or (.cons (.not (.bi .isinstance (.cons (.var 0) (.cons (.ty "tuple") .nil)))) (.cons (.cmp .NotEq (.bi .len (.cons (.var 0) .nil)) (.cst (.int 2))) (.cons (.not (.bi .isinstance (.cons (.sub (.var 0) (.cst (.int 0))) (.cons (.ty "str") .nil)))) .nil))))
  (.cons (.ret (.cst (.bool false)))
   .nil)
  .nil)
  (.cons (.ite (.bop .Or (.cons (.not (.bi .isinstance (.cons (.sub (.var 0) (.cst (.int 1))) (.cons (.ty "int") .nil)))) (.cons (.bi .isinstance (.cons (.sub (.var 0) (.cst (.int 1))) (.cons (.ty "bool") .nil))) .nil)))
   (.cons (.ret (.cst (.bool false)))
    .nil)
   .nil)
  (.cons (.ret (.cmp .Eq (.var 0) (.var 1)))
  .nil)))⟩
noncomputable def JF:Fn:=⟨2,4,
 (.cons (.ite (.bop .Or (.cons (.not (.bi .isinstance (.cons (.var 0) (.cons (.ty "list") .nil)))) (.cons (.cmp .NotEq (.bi .len (.cons (.var 0) .nil)) (.bi .len (.cons (.var 1) .nil))) .nil)))
  (.cons (.ret (.cst (.bool false)))
   .nil)
  .nil)
  (.cons (.ret (.bi .all (.cons (.comp (.fcall 21 (.cons (.var 2) (.cons (.var 3) .nil))) [2,3] (.zip (.var 0) (.var 1)) .nil) .nil)))
  .nil))⟩
noncomputable def IT:Fn:=⟨2,4,
 (.cons (.ite (.bop .Or (.cons (.not (.bi .isinstance (.cons (.var 0) (.cons (.ty "list") .nil)))) (.cons (.cmp .NotEq (.bi .len (.cons (.var 0) .nil)) (.bi .len (.cons (.var 1) .nil))) .nil)))
  (.cons (.ret (.cst (.bool false)))
   .nil)
  .nil)
  (.cons (.for_ [2,3] (.zip (.var 0) (.var 1))
   (.cons (.ite (.bop .Or (.cons (.not (.bi .isinstance (.cons (.var 2) (.cons (.ty "tuple") .nil)))) (.cons (.cmp .NotEq (.bi .len (.cons (.var 2) .nil)) (.cst (.int 2))) (.cons (.not (.bi .isinstance (.cons (.sub (.var 2) (.cst (.int 1))) (.cons (.ty "str") .nil)))) .nil))))
    (.cons (.ret (.cst (.bool false)))
     .nil)
    .nil)
    (.cons (.ite (.bop .Or (.cons (.not (.fcall 21 (.cons (.sub (.var 2) (.cst (.int 0))) (.cons (.sub (.var 3) (.cst (.int 0))) .nil)))) (.cons (.cmp .NotEq (.sub (.var 2) (.cst (.int 1))) (.sub (.var 3) (.cst (.int 1)))) .nil)))
     (.cons (.ret (.cst (.bool false)))
      .nil)
     .nil)
    .nil)))
  (.cons (.ret (.cst (.bool true)))
  .nil)))⟩
noncomputable def GY:Fn:=⟨2,3,
 (.cons (.ite (.bop .Or (.cons (.not (.bi .isinstance (.cons (.var 0) (.cons (.ty "list") .nil)))) (.cons (.cmp .NotEq (.bi .len (.cons (.var 0) .nil)) (.bi .len (.cons (.var 1) .nil))) .nil)))
  (.cons (.ret (.cst (.bool false)))
   .nil)
  .nil)
  (.cons (.ret (.bop .And (.cons (.bi .all (.cons (.comp (.bi .isinstance (.cons (.var 2) (.cons (.ty "str") .nil))) [2] (.var 0) .nil) .nil)) (.cons (.cmp .Eq (.var 0) (.var 1)) .nil))))
  .nil))⟩
noncomputable def GZ:Fn:=⟨5,8,
 (.cons (.ite (.cmp .Eq (.var 4) (.cst (.int 0)))
  (.cons (.asg 5 (.mcall (ACB "row") (.var 0) .nil))
   (.cons (.asg 6 (.fcall 22 (.cons (.var 5) (.cons (.var 1) .nil))))
   .nil))
  (.cons (.ite (.cmp .Eq (.var 4) (.cst (.int 1)))
   (.cons (.asg 5 (.mcall (ACB "told") (.var 0) .nil))
    (.cons (.asg 6 (.fcall 23 (.cons (.var 5) (.cons (.var 2) .nil))))
    .nil))
   (.cons (.ite (.cmp .Eq (.var 4) (.cst (.int 2)))
    (.cons (.asg 5 (.mcall (ACB "names") (.var 0) .nil))
     (.cons (.asg 6 (.fcall 24 (.cons (.var 5) (.cons (.var 3) .nil))))
     .nil))
    (.cons (.asg 5 (.mcall (ACB "text") (.var 0) .nil))
     (.cons (.asg 6 (.fcall 24 (.cons (.var 5) (.cons (.comp (.sub (.var 7) (.cst (.int 1))) [7] (.var 2) .nil) .nil))))
     .nil)))
    .nil))
   .nil))
  (.cons (.ite (.var 6)
   (.cons (.exp (.meth .clear (.var 5) .nil))
    .nil)
   .nil)
  (.cons (.ret (.var 6))
  .nil)))⟩
noncomputable def Ov:Fn:=⟨2,8,
 (.cons (.unp [2,3] (.fcall 20 (.cons (.var 1) .nil)))
  (.cons (.asg 4 (.bi .sorted (.cons (.comp (.sub (.var 5) (.cst (.int 0))) [5] (.var 1) .nil) .nil)))
  (.cons (.for_ [6] (.range (.cons (.cst (.int 5)) .nil))
   (.cons (.asg 7 (.bin .Mod (.bin .Add (.bin .Mult (.var 6) (.bin .Add (.cst (.int 1)) (.bin .Mult (.bin .Mod (.bi .len (.cons (.var 2) .nil)) (.cst (.int 2))) (.cst (.int 2))))) (.bi .len (.cons (.var 3) .nil))) (.cst (.int 4))))
    (.cons (.ite (.not (.fcall 25 (.cons (.var 0) (.cons (.var 2) (.cons (.var 3) (.cons (.var 4) (.cons (.var 7) .nil)))))))
     (.cons (.ret (.cst (.bool false)))
      .nil)
     .nil)
    .nil)))
  (.cons (.ret (.cst (.bool true)))
  .nil))))⟩
noncomputable def Sa:Fn:=⟨1,3,
 (.cons (.asg 1 (.new))
  (.cons (.for_ [2] (.var 0)
   (.cons (.exp (.mcall (ACB "add") (.var 1) (.cons (.fcall 17 (.cons (.var 2) .nil)) .nil)))
    .nil))
  (.cons (.ret (.var 1))
  .nil)))⟩
noncomputable def Oy:Fn:=⟨2,7,
 (.cons (.asg 2 (.dct))
  (.cons (.for_ [3] (.var 0)
   (.cons (.set (.var 2) (.sub (.var 3) (.cst (.int 0))) (.sub (.var 3) (.cst (.int 1))))
    .nil))
  (.cons (.asg 4 (.lst .nil))
  (.cons (.asg 5 (.bi .list (.cons (.var 1) .nil)))
  (.cons (.while_ (.var 5)
   (.cons (.asg 6 (.meth .pop (.var 5) .nil))
    (.cons (.ite (.cmp .NotIn (.var 6) (.var 4))
     (.cons (.exp (.meth .append (.var 4) (.cons (.var 6) .nil)))
      (.cons (.exp (.meth .extend (.var 5) (.cons (.sub (.var 2) (.var 6)) .nil)))
      .nil))
     .nil)
    .nil)))
  (.cons (.ret (.var 4))
  .nil))))))⟩
noncomputable def IS:Fn:=⟨2,8,
 (.cons (.asg 2 (.lst .nil))
  (.cons (.for_ [3] (.var 0)
   (.cons (.ite (.cmp .Gt (.bi .len (.cons (.comp (.var 4) [4] (.sub (.var 3) (.cst (.int 2))) (.cons (.bop .And (.cons (.cmp .Eq (.sub (.var 4) (.cst (.int 0))) (.cst (.str (ACB "set")))) (.cons (.cmp .Eq (.sub (.var 4) (.cst (.int 1))) (.var 1)) .nil))) .nil)) .nil)) (.cst (.int 0)))
    (.cons (.exp (.meth .append (.var 2) (.cons (.sub (.var 3) (.cst (.int 0))) .nil)))
     .nil)
    .nil)
    .nil))
  (.cons (.asg 5 (.lst .nil))
  (.cons (.for_ [6] (.var 2)
   (.cons (.ite (.not (.bi .any (.cons (.comp (.cmp .In (.var 6) (.fcall 28 (.cons (.var 0) (.cons (.lst (.cons (.var 7) .nil)) .nil)))) [7] (.var 2) (.cons (.cmp .NotEq (.var 7) (.var 6)) .nil)) .nil)))
    (.cons (.exp (.meth .append (.var 5) (.cons (.var 6) .nil)))
     .nil)
    .nil)
    .nil))
  (.cons (.ret (.bi .sorted (.cons (.var 5) .nil)))
  .nil)))))⟩
noncomputable def IU:Fn:=⟨1,5,
 (.cons (.asg 1 (.lst .nil))
  (.cons (.for_ [2,3] (.sub (.fcall 20 (.cons (.var 0) .nil)) (.cst (.int 1)))
   (.cons (.asg 4 (.fcall 31 (.cons (.var 0) (.cons (.var 2) .nil))))
    (.cons (.ite (.cmp .Gt (.bi .len (.cons (.var 4) .nil)) (.cst (.int 1)))
     (.cons (.exp (.meth .append (.var 1) (.cons (.tup (.cons (.var 2) (.cons (.var 4) .nil))) .nil)))
      .nil)
     .nil)
    .nil)))
  (.cons (.ret (.var 1))
  .nil)))⟩
noncomputable def Se:Fn:=⟨3,10,
 (.cons (.ite (.bop .And (.cons (.cmp .Eq (.bin .Mod (.var 2) (.cst (.int 2))) (.cst (.int 1))) (.cons (.cmp .NotEq (.mcall (ACB "questions") (.var 0) .nil) (.fcall 60 (.cons (.var 1) .nil))) .nil)))
  (.cons (.ret (.cst (.bool false)))
   .nil)
  .nil)
  (.cons (.asg 3 (.fcall 19 (.cons (.var 1) .nil)))
  (.cons (.for_ [4] (.range (.cons (.bi .min (.cons (.cst (.int 4)) (.cons (.bi .len (.cons (.var 1) .nil)) .nil))) .nil))
   (.cons (.asg 5 (.sub (.var 1) (.bin .Mod (.bin .Add (.var 2) (.var 4)) (.bi .len (.cons (.var 1) .nil)))))
    (.cons (.asg 6 (.sub (.var 5) (.cst (.int 0))))
    (.cons (.asg 7 (.bi .sorted (.cons (.fcall 28 (.cons (.var 1) (.cons (.lst (.cons (.var 6) .nil)) .nil))) .nil)))
    (.cons (.asg 8 (.comp (.sub (.var 9) (.cst (.int 0))) [9] (.var 1) (.cons (.cmp .In (.var 6) (.fcall 28 (.cons (.var 1) (.cons (.lst (.cons (.sub (.var 9) (.cst (.int 0))) .nil)) .nil)))) .nil)))
    (.cons (.ite (.bop .And (.cons (.cmp .Eq (.bin .Mod (.bin .FloorDiv (.var 2) (.cst (.int 2))) (.cst (.int 2))) (.cst (.int 1))) (.cons (.cmp .NotEq (.bi .sorted (.cons (.bin .Add (.mcall (ACB "leaning") (.var 0) (.cons (.var 6) .nil)) (.lst (.cons (.var 6) .nil))) .nil)) (.bi .sorted (.cons (.var 8) .nil))) .nil)))
     (.cons (.ret (.cst (.bool false)))
      .nil)
     .nil)
    (.cons (.ite (.bop .Or (.cons (.cmp .NotEq (.mcall (ACB "height") (.var 0) (.cons (.var 6) .nil)) (.sub (.var 3) (.var 6))) (.cons (.cmp .NotEq (.mcall (ACB "change") (.var 0) (.cons (.var 6) .nil)) (.var 5)) .nil)))
     (.cons (.ret (.cst (.bool false)))
      .nil)
     .nil)
    (.cons (.ite (.cmp .NotEq (.bi .sorted (.cons (.bin .Add (.mcall (ACB "ground") (.var 0) (.cons (.var 6) .nil)) (.lst (.cons (.var 6) .nil))) .nil)) (.var 7))
     (.cons (.ret (.cst (.bool false)))
      .nil)
     .nil)
    (.cons (.ite (.cmp .NotEq (.bi .sorted (.cons (.bin .Add (.mcall (ACB "leaning") (.var 0) (.cons (.var 6) .nil)) (.lst (.cons (.var 6) .nil))) .nil)) (.bi .sorted (.cons (.var 8) .nil)))
     (.cons (.ret (.cst (.bool false)))
      .nil)
     .nil)
    .nil)))))))))
  (.cons (.ret (.cmp .Eq (.mcall (ACB "questions") (.var 0) .nil) (.fcall 60 (.cons (.var 1) .nil))))
  .nil))))⟩
noncomputable def Gp:Fn:=⟨3,3,
 (.cons (.ite (.bop .And (.cons (.cmp .Eq (.bin .Mod (.bin .FloorDiv (.var 2) (.cst (.int 4))) (.cst (.int 2))) (.cst (.int 1))) (.cons (.not (.fcall 61 (.cons (.var 0) (.cons (.var 1) (.cons (.var 2) .nil))))) .nil)))
  (.cons (.ret (.cst (.bool false)))
   .nil)
  .nil)
  (.cons (.ret (.bop .And (.cons (.fcall 26 (.cons (.var 0) (.cons (.var 1) .nil))) (.cons (.fcall 61 (.cons (.var 0) (.cons (.var 1) (.cons (.var 2) .nil)))) .nil))))
  .nil))⟩
noncomputable def Ou:Fn:=⟨3,5,
 (.cons (.ite (.bop .Or (.cons (.cmp .Lt (.bi .len (.cons (.var 0) .nil)) (.cst (.int 4))) (.cons (.cmp .NotEq (.bin .Mod (.var 1) (.cst (.int 12))) (.cst (.int 5))) .nil)))
  (.cons (.ret (.var 0))
   .nil)
  .nil)
  (.cons (.asg 3 (.lst .nil))
  (.cons (.for_ [4] (.range (.cons (.bin .Mult (.cst (.int 4)) (.bin .Add (.var 2) (.bin .Mod (.bin .FloorDiv (.var 1) (.cst (.int 12))) (.bin .Sub (.cst (.int 61)) (.var 2))))) .nil))
   (.cons (.exp (.meth .append (.var 3) (.cons (.fcall 10 (.cons (.sub (.var 0) (.bin .Mod (.var 4) (.bi .len (.cons (.var 0) .nil)))) (.cons (.var 4) .nil))) .nil)))
    (.cons (.ite (.bop .And (.cons (.cmp .Eq (.bin .Mod (.var 4) (.cst (.int 4))) (.cst (.int 1))) (.cons (.cmp .Eq (.bin .Mod (.bin .FloorDiv (.var 1) (.cst (.int 12))) (.cst (.int 2))) (.cst (.int 1))) .nil)))
     (.cons (.set (.var 3) (.var 4) (.bin .Add (.bin .Mult (.bin .FloorDiv (.sub (.var 3) (.var 4)) (.cst (.int 7))) (.cst (.int 7))) (.cst (.int 3))))
      .nil)
     .nil)
    .nil)))
  (.cons (.ret (.var 3))
  .nil))))⟩
noncomputable def Sb:Fn:=⟨2,3,
 (.cons (.ret (.bi .sorted (.cons (.comp (.sub (.var 2) (.cst (.int 0))) [2] (.var 0) (.cons (.cmp .In (.var 1) (.fcall 28 (.cons (.var 0) (.cons (.lst (.cons (.sub (.var 2) (.cst (.int 0))) .nil)) .nil)))) .nil)) .nil)))
  .nil)⟩
noncomputable def Ut:Fn:=⟨2,3,
 (.cons (.for_ [2] (.lst (.cons (.mcall (ACB "row") (.var 0) .nil) (.cons (.mcall (ACB "told") (.var 0) .nil) (.cons (.mcall (ACB "names") (.var 0) .nil) (.cons (.mcall (ACB "text") (.var 0) .nil) (.cons (.mcall (ACB "questions") (.var 0) .nil) .nil))))))
  (.cons (.exp (.meth .append (.var 1) (.cons (.tup (.cons (.var 2) (.cons (.bi .repr (.cons (.var 2) .nil)) .nil))) .nil)))
   .nil))
  .nil)⟩
noncomputable def Uu:Fn:=⟨1,3,
 (.cons (.ret (.bi .all (.cons (.comp (.cmp .Eq (.bi .repr (.cons (.var 1) .nil)) (.var 2)) [1,2] (.var 0) .nil) .nil)))
  .nil)⟩
noncomputable def Ux:Fn:=⟨2,3,
 (.cons (.asg 2 (.cst (.int 0)))
  (.cons (.try_
   (.cons (.exp (.mcall (ACB "take") (.var 0) (.cons (.var 1) .nil)))
    .nil)
   5
   (.cons (.asg 2 (.bin .Add (.var 2) (.cst (.int 1))))
    .nil))
  (.cons (.try_
   (.cons (.exp (.mcall (ACB "height") (.var 0) (.cons (.var 1) .nil)))
    .nil)
   5
   (.cons (.asg 2 (.bin .Add (.var 2) (.cst (.int 1))))
    .nil))
  (.cons (.ret (.cmp .Eq (.var 2) (.cst (.int 2))))
  .nil))))⟩
noncomputable def K3:Fn:=⟨1,11,
 (.cons (.asg 1 (.fcall 16 (.cons (.fcall 33 (.cons (.slc (.var 0) (.cst (.int 7)) .nil) (.cons (.fcall 9 (.cons (.var 0) (.cons (.cst (.int 6)) .nil))) (.cons (.cst (.int 10)) .nil)))) (.cons (.cst (.int 60)) .nil))))
  (.cons (.asg 2 (.fcall 27 (.cons (.fcall 18 (.cons (.var 1) (.cons (.fcall 9 (.cons (.var 0) (.cons (.cst (.int 0)) .nil))) .nil))) .nil)))
  (.cons (.asg 3 (.var 1))
  (.cons (.asg 4 (.lst .nil))
  (.cons (.for_ [5] (.range (.cons (.bin .Add (.cst (.int 1)) (.bin .Mod (.fcall 9 (.cons (.var 0) (.cons (.cst (.int 1)) .nil))) (.cst (.int 3)))) .nil))
   (.cons (.ite (.var 3)
    (.cons (.asg 6 (.sub (.sub (.var 3) (.bin .Mod (.fcall 9 (.cons (.var 0) (.cons (.bin .Add (.cst (.int 2)) (.var 5)) .nil))) (.bi .len (.cons (.var 3) .nil)))) (.cst (.int 0))))
     (.cons (.asg 7 (.fcall 63 (.cons (.var 3) (.cons (.var 6) .nil))))
     (.cons (.exp (.fcall 64 (.cons (.var 2) (.cons (.var 4) .nil))))
     (.cons (.asg 8 (.mcall (ACB "take") (.var 2) (.cons (.var 6) .nil)))
     (.cons (.ite (.not (.fcall 24 (.cons (.var 8) (.cons (.var 7) .nil))))
      (.cons (.ret (.cst (.bool false)))
       .nil)
      .nil)
     (.cons (.exp (.meth .append (.var 4) (.cons (.tup (.cons (.var 8) (.cons (.bi .repr (.cons (.var 8) .nil)) .nil))) .nil)))
     (.cons (.ite (.not (.fcall 66 (.cons (.var 2) (.cons (.var 6) .nil))))
      (.cons (.ret (.cst (.bool false)))
       .nil)
      .nil)
     (.cons (.asg 3 (.comp (.var 9) [9] (.var 3) (.cons (.cmp .NotIn (.sub (.var 9) (.cst (.int 0))) (.var 7)) .nil)))
     .nil))))))))
    .nil)
    (.cons (.ite (.not (.fcall 62 (.cons (.var 2) (.cons (.var 3) (.cons (.fcall 9 (.cons (.var 0) (.cons (.bin .Add (.cst (.int 2)) (.var 5)) .nil))) .nil)))))
     (.cons (.ret (.cst (.bool false)))
      .nil)
     .nil)
    (.cons (.ite (.not (.fcall 26 (.cons (.fcall 27 (.cons (.var 3) .nil)) (.cons (.var 3) .nil))))
     (.cons (.ret (.cst (.bool false)))
      .nil)
     .nil)
    .nil))))
  (.cons (.asg 10 (.comp (.sub (.var 9) (.cst (.int 0))) [9] (.var 3) .nil))
  (.cons (.for_ [9] (.fcall 18 (.cons (.var 1) (.cons (.fcall 9 (.cons (.var 0) (.cons (.cst (.int 5)) .nil))) .nil)))
   (.cons (.ite (.cmp .NotIn (.sub (.var 9) (.cst (.int 0))) (.var 10))
    (.cons (.exp (.mcall (ACB "add") (.var 2) (.cons (.fcall 17 (.cons (.var 9) .nil)) .nil)))
     .nil)
    .nil)
    .nil))
  (.cons (.ret (.bop .And (.cons (.fcall 65 (.cons (.var 4) .nil)) (.cons (.fcall 62 (.cons (.var 2) (.cons (.var 1) (.cons (.fcall 9 (.cons (.var 0) (.cons (.cst (.int 5)) .nil))) .nil)))) .nil))))
  .nil))))))))⟩
noncomputable def DY:List (Nat×Str×Fn×List Str):=[
 (2,ACB "is_name",LU,[ACB "thing",ACB "sign"]),
 (3,ACB "is_line",LV,[ACB "thing",ACB "sign"]),
 (4,ACB "check_leans",Gq,[ACB "name",ACB "leans",ACB "lean",ACB "one",ACB "other"]),
 (5,ACB "check_deed",Ha,[ACB "deed"]),
 (6,ACB "check",Sf,[ACB "change",ACB "name",ACB "leans",ACB "deeds",ACB "deed"]),
 (7,ACB "adds_of",LX,[ACB "change",ACB "deed"]),
 (8,ACB "ordered",LT,[ACB "names",ACB "heights",ACB "falling",ACB "name"]),
 (9,ACB "_law_cell",Uw,[ACB "_law_script",ACB "_law_k"]),
 (10,ACB "_law_mixed",Sc,[ACB "_law_cell_here",ACB "_law_k"]),
 (11,ACB "_law_name",Ow,[ACB "_law_cell_here",ACB "_law_taken_here",ACB "_law_signs",ACB "_law_left",ACB "_law_found",ACB "_law_j",ACB "_law_at"]),
 (12,ACB "_law_line",Ox,[ACB "_law_cell_here",ACB "_law_some",ACB "_law_size",ACB "_law_found",ACB "_law_j"]),
 (13,ACB "_law_leans",K2,[ACB "_law_cell_here",ACB "_law_ahead",ACB "_law_left",ACB "_law_found",ACB "_law_k",ACB "_law_change",ACB "_law_last"]),
 (14,ACB "_law_marks",Sd,[ACB "_law_change",ACB "_law_many",ACB "_law_deed",ACB "_law_j"]),
 (15,ACB "_law_deeds",K4,[ACB "_law_name_here",ACB "_law_cell_here",ACB "_law_many",ACB "_law_marks_here",ACB "_law_deeds_here",ACB "_law_own",ACB "_law_k",ACB "_law_known_here",ACB "_law_left",ACB "_law_at",ACB "_law_line_here",ACB "_law_mark",ACB "_law_j"]),
 (16,ACB "_law_changes",EF,[ACB "_law_cells",ACB "_law_most",ACB "_law_found",ACB "_law_taken_here",ACB "_law_k",ACB "_law_name_here",ACB "_law_leans_here",ACB "_law_marks_here",ACB "_law_change",ACB "_law_many"]),
 (17,ACB "_law_copy",Uv,[ACB "_law_change"]),
 (18,ACB "_law_turned",Hy,[ACB "_law_changes_here",ACB "_law_cell_here",ACB "_law_left",ACB "_law_there",ACB "_law_found",ACB "_law_ready",ACB "_law_change",ACB "_law_lean"]),
 (19,ACB "_law_heights",LW,[ACB "_law_changes_here",ACB "_law_found",ACB "_law_change",ACB "_law_lean"]),
 (20,ACB "_law_model",MX,[ACB "_law_changes_here",ACB "_law_height",ACB "_law_order",ACB "_law_change",ACB "_law_row",ACB "_law_words",ACB "_law_gone",ACB "_law_own",ACB "_law_deed",ACB "_law_one",ACB "_law_at",ACB "_law_mark"]),
 (21,ACB "_law_mark_like",IV,[ACB "_law_found",ACB "_law_due"]),
 (22,ACB "_law_row_like",JF,[ACB "_law_found",ACB "_law_due",ACB "_law_one",ACB "_law_other"]),
 (23,ACB "_law_told_like",IT,[ACB "_law_found",ACB "_law_due",ACB "_law_one",ACB "_law_other"]),
 (24,ACB "_law_texts_like",GY,[ACB "_law_found",ACB "_law_due",ACB "_law_one"]),
 (25,ACB "_law_one_stands",GZ,[ACB "_law_weave",ACB "_law_row",ACB "_law_told",ACB "_law_names",ACB "_law_at",ACB "_law_found",ACB "_law_good",ACB "_law_pair"]),
 (26,ACB "_law_stands",Ov,[ACB "_law_weave",ACB "_law_changes_here",ACB "_law_row",ACB "_law_told",ACB "_law_names",ACB "_law_change",ACB "_law_turn",ACB "_law_at"]),
 (27,ACB "_law_woven",Sa,[ACB "_law_changes_here",ACB "_law_weave",ACB "_law_change"]),
 (28,ACB "_law_ground",Oy,[ACB "_law_changes_here",ACB "_law_names",ACB "_law_leans_here",ACB "_law_change",ACB "_law_found",ACB "_law_waiting",ACB "_law_name_here"]),
 (31,ACB "_law_unsettled",IS,[ACB "_law_changes_here",ACB "_law_mark",ACB "_law_names",ACB "_law_change",ACB "_law_deed",ACB "_law_found",ACB "_law_name_here",ACB "_law_one"]),
 (60,ACB "_law_questions",IU,[ACB "_law_changes_here",ACB "_law_found",ACB "_law_mark",ACB "_law_words",ACB "_law_names"]),
 (61,ACB "_law_known",Se,[ACB "_law_weave",ACB "_law_changes_here",ACB "_law_cell_here",ACB "_law_height",ACB "_law_k",ACB "_law_change",ACB "_law_name_here",ACB "_law_ground_here",ACB "_law_leaning",ACB "_law_one"]),
 (62,ACB "_law_known_first",Gp,[ACB "_law_weave",ACB "_law_changes_here",ACB "_law_cell_here"]),
 (33,ACB "_law_wide",Ou,[ACB "_law_cells",ACB "_law_flag",ACB "_law_most",ACB "_law_found",ACB "_law_j"]),
 (63,ACB "_law_taken",Sb,[ACB "_law_changes_here",ACB "_law_name_here",ACB "_law_change"]),
 (64,ACB "_law_hold",Ut,[ACB "_law_weave",ACB "_law_held_here",ACB "_law_some"]),
 (65,ACB "_law_held",Uu,[ACB "_law_held_here",ACB "_law_one",ACB "_law_other"]),
 (66,ACB "_law_away",Ux,[ACB "_law_weave",ACB "_law_name_here",ACB "_law_missing"]),
 (34,ACB "law",K3,[ACB "_law_script",ACB "_law_changes_here",ACB "_law_weave",ACB "_law_left",ACB "_law_held_here",ACB "_law_turn",ACB "_law_name_here",ACB "_law_due",ACB "_law_found",ACB "_law_change",ACB "_law_there"])]
noncomputable def DE:List (Nat×Str×Fn×List Str):=[
 (35,ACB "__init__",LY,[ACB "self"]),
 (36,ACB "add",Ee,[ACB "self",ACB "change",ACB "name",ACB "lean",ACB "ground",ACB "other"]),
 (37,ACB "check_marks",Dm,[ACB "self",ACB "change",ACB "own",ACB "deed",ACB "mark",ACB "many"]),
 (38,ACB "need",EI,[ACB "self",ACB "name"]),
 (39,ACB "take",EG,[ACB "self",ACB "name",ACB "out",ACB "one"]),
 (40,ACB "names",Gr,[ACB "self"]),
 (41,ACB "change",Ff,[ACB "self",ACB "name",ACB "held"]),
 (42,ACB "height",D7,[ACB "self",ACB "name"]),
 (43,ACB "ground",Fe,[ACB "self",ACB "name"]),
 (44,ACB "leaning",EJ,[ACB "self",ACB "name",ACB "one"]),
 (45,ACB "grown",Ed,[ACB "self",ACB "row",ACB "words",ACB "gone",ACB "name",ACB "number",ACB "deed",ACB "mark",ACB "at"]),
 (46,ACB "row",IW,[ACB "self"]),
 (47,ACB "told",Hb,[ACB "self",ACB "row",ACB "words",ACB "gone",ACB "mark"]),
 (48,ACB "text",Hc,[ACB "self",ACB "pair"]),
 (49,ACB "setters",EH,[ACB "self",ACB "found",ACB "name",ACB "deed"]),
 (50,ACB "open_ones",DM,[ACB "self",ACB "names",ACB "found",ACB "name",ACB "other"]),
 (51,ACB "questions",DL,[ACB "self",ACB "found",ACB "setters",ACB "pair",ACB "names"])]
noncomputable def Vs:List (Str×GV):=[
 (ACB "is_name",.fn 2),
 (ACB "is_line",.fn 3),
 (ACB "check_leans",.fn 4),
 (ACB "check_deed",.fn 5),
 (ACB "check",.fn 6),
 (ACB "adds_of",.fn 7),
 (ACB "ordered",.fn 8),
 (ACB "_law_cell",.fn 9),
 (ACB "_law_mixed",.fn 10),
 (ACB "_law_name",.fn 11),
 (ACB "_law_line",.fn 12),
 (ACB "_law_leans",.fn 13),
 (ACB "_law_marks",.fn 14),
 (ACB "_law_deeds",.fn 15),
 (ACB "_law_changes",.fn 16),
 (ACB "_law_copy",.fn 17),
 (ACB "_law_turned",.fn 18),
 (ACB "_law_heights",.fn 19),
 (ACB "_law_model",.fn 20),
 (ACB "_law_mark_like",.fn 21),
 (ACB "_law_row_like",.fn 22),
 (ACB "_law_told_like",.fn 23),
 (ACB "_law_texts_like",.fn 24),
 (ACB "_law_one_stands",.fn 25),
 (ACB "_law_stands",.fn 26),
 (ACB "_law_woven",.fn 27),
 (ACB "_law_ground",.fn 28),
 (ACB "_law_unsettled",.fn 31),
 (ACB "_law_questions",.fn 60),
 (ACB "_law_known",.fn 61),
 (ACB "_law_known_first",.fn 62),
 (ACB "_law_wide",.fn 33),
 (ACB "_law_taken",.fn 63),
 (ACB "_law_hold",.fn 64),
 (ACB "_law_held",.fn 65),
 (ACB "_law_away",.fn 66),
 (ACB "MOST_DEEDS",.cst (.int 20)),
 (ACB "MOST_LINE",.cst (.int 200)),
 (ACB "MOST_NAME",.cst (.int 12)),
 (ACB "Missing",.exc 5),
 (ACB "NAME_SIGNS",.cst (.str (ACB "abcdefghijklmnopqrstuvwxyz0123456789"))),
 (ACB "Weave",.cls),
 (ACB "all",.bi .all),
 (ACB "any",.bi .any),
 (ACB "bool",.ty "bool"),
 (ACB "enumerate",.ty "enumerate"),
 (ACB "int",.ty "int"),
 (ACB "isinstance",.bi .isinstance),
 (ACB "len",.bi .len),
 (ACB "list",.ty "list"),
 (ACB "max",.bi .max),
 (ACB "min",.bi .min),
 (ACB "ord",.bi .ord),
 (ACB "range",.ty "range"),
 (ACB "repr",.bi .repr),
 (ACB "sorted",.bi .sorted),
 (ACB "str",.ty "str"),
 (ACB "tuple",.ty "tuple"),
 (ACB "zip",.ty "zip")]
noncomputable def MG:List (Nat×Str):=[(5,ACB "Missing")]
@[irreducible] noncomputable def Pg (f:Nat):Option Fn:=((DY++DE).find? fun x=>Nat.beq x.1 f).map (·.2.2.1)
@[irreducible] noncomputable def glP (n:Str):Option GV:=Vs.lookup n
@[irreducible] noncomputable def mtP (n:Str):Option Nat:=(DE.find? fun x=>x.2.1 == n).map (·.1)
end Mine
namespace Mine
open PySem PySem.Calls
structure WM (T:Top):Prop where
 nolimit:T.h0.NoLimit
 seer:T.h0.NoSeer
 tree:T.prog.given.tree=none
 mods:∃ o,T.h0.get? sysModules=some o
 tf:∀ t q q',(t,q)∈T.tabs->(t,q')∈T.tabs->q=q'
noncomputable def Bd:Bi->Value
 | .len=>.builtin "len"
 | .sorted=>.builtin "sorted"
 | .min=>.builtin "min"
 | .isinstance=>.builtin "isinstance"
 | .str=>.type "str"
 | .all=>.builtin "all"
 | .any=>.builtin "any"
 | .max=>.builtin "max"
 | .list=>.type "list"
 | .ord=>.builtin "ord"
 | .int=>.type "int"
 | .repr=>.builtin "repr"
noncomputable def VM (T:Top):GV->Value->Prop
 | .fn f,x=>∃ a,T.fn f=some a/\x=.ref a
 | .bi b,x=>x=Bd b
 | .ty t,x=>x=.type t
 | .cst d,x=>A5 T.h0.get? d x
 | .cls,x=>x=.ref T.cls
 | .exc k,x=>∃ a,T.exc k=some a/\x=.ref a
structure Ready (T:Top) (gl:Str->Option GV):Prop where
 ok:WM T
 fnob:∀ f a,T.fn f=some a->∃ o fd,T.h0.get? a=some o/\o.data=.func fd
 ns:∃ mg mb,T.h0.Ns mainGlobals mg/\T.h0.Ns builtinsNs mb/\(∀ n v,gl n=some v->∃ x,VM T v x/\(mg n=some x\/(mg n=none/\mb n=some x))) ∧
  ∃ bm ob,mg "__builtins__" = some (.ref bm)/\bm≠builtinsNs/\T.h0.get? bm=some ob/\ob.cls=.type "module"/\ob.dict=some builtinsNs/\ob.data=.plain
structure VO (T:Top) (gl:Str->Option GV) (fn:Fn) (a:Addr) (fd:FuncData) (body:List Stmt) (o:Obj) (vars:List Str) (lam:Option (Addr×Str)):Prop where
 ob:T.h0.get? a=some o
 data:o.data=.func fd
 code:T.h0.CodeRec fd.code fd.qualname
 bd:fd.body=.stmts body
 clo:fd.closure=[]
 glob:fd.globals=mainGlobals
 blt:fd.builtins=builtinsNs
 kind:fd.scope.kind=.function
 gen:fd.scope.isGenerator=false
 cor:fd.scope.isCoroutine=false
 nd:vars.Nodup
 bind:∀ vals:List Value,vals.length=fn.np->bindArgs fd ⟨vals,[]⟩=pure ((vars.take fn.np).zip vals)
 par:∀ n,n∈vars.take fn.np->fd.scope.names.lookup n=some .local\/fd.scope.names.lookup n=some .cell
 nof:∀ p,p∈fd.scope.names->p.2≠.free
 is:MW fn.body ⟨vars,fd.scope.names,vars,gl,lam⟩ body
 lam:∀ t q,lam=some (t,q)->(t,q)∈T.tabs/\(fd.qualname++(".<locals>." : Str))++("<lambda>" : Str)=q/\∃ c,fd.code=.ref c/\W.CodeHd T.h0 c t
def VN (T:Top) (gl:Str->Option GV) (fn:Fn) (a:Addr):Prop:=∀ R_:Prop,(∀ fd body o vars lam,VO T gl fn a fd body o vars lam->R_)->R_
structure Oz (T:Top) (mN:Str->Option Value):Prop where
 ga:mN "__getattribute__" = none
 ge:mN "__getattr__" = none
 se:mN "__setattr__" = none
 att:∀ nm,nm∈CK->mN nm=none
 mt:∀ nm f,mtP nm=some f->nm∉CK/\∃ a o,T.fn f=some a/\mN nm=some (.ref a)/\T.h0.get? a=some o/\o.cls=.type "function"
def Xn (T:Top) (C:Addr):Prop:=∃ (x:Str) (bm:List Value) (newId B initId:String) (mg:Str->Option Value),PyProof.Rows.OwnCls x C bm newId mg T.h0/\ExcBaseFacts B newId initId bm
structure IP (T:Top):Prop extends Ready T glP where
 fns:∀ f fn a,Pg f=some fn->T.fn f=some a->VN T glP fn a
 cls:∃ N mN,PyProof.Rows.ClsAt T.h0 T.cls N mN/\Oz T mN
 excs:∀ k C,T.exc k=some C->Xn T C
structure Ar where
 T:Top
 fe:List Env
 A:Around
noncomputable abbrev Ar.wp {α:Type} (r:Ar) (m:Sem α) (Q:α->Shared->Prop) (s:Shared):Prop:=wpAny (model r.T.prog r.T.w) r.A m Q (fun _ _=>False) s
structure Os (e:Env):Prop where
 kind:e.scope.kind≠.module
 gen:e.scope.isGenerator=false
 cor:e.scope.isCoroutine=false
 blt:e.builtins=builtinsNs
 glob:e.globals=mainGlobals
def HOk (_:G) (A:Around):Prop:=A.handled=none/\A.guards=some []
def BJ (g:G) (fe:List Env):Prop:=∀ e,e∈fe->Os e/\∃ L o es ep,e.frame=some L/\g.hid L=some o/\o.cls=frC/\o.data=.dict es ep
theorem BJ.mono {g g':G} {fe:List Env} (x:BJ g fe) (h:∀ a,g'.hid a=g.hid a):BJ g' fe:=fun e he=>⟨(x e he).1,by obtain ⟨L,o,es,ep,h1,h2,h3⟩:=(x e he).2; exact ⟨L,o,es,ep,h1,(h L).trans h2,h3⟩⟩
theorem BJ.hideF {g:G} {fe:List Env} {a:Addr} {o:Obj} {es:Array DictEntry} {ep:Nat} (x:BJ g fe) (h:o.cls=frC) (d:o.data=.dict es ep):BJ (g.hide a o) fe:=fun e he=>⟨(x e he).1,by
 obtain ⟨L,o',es',ep',h1,h2,h3⟩:=(x e he).2
 by_cases q:L=a
 ·exact ⟨L,o,es,ep,h1,if_pos q,h,d⟩
 ·exact ⟨L,o',es',ep',h1,(if_neg q).trans h2,h3⟩⟩
structure At (n:Nat) (r:Ar) (g:G) (σ:Aa) (s:Shared):Prop where
 ok:IP r.T
 frames:r.A.frames=some r.fe
 top:∃ e l,r.fe=e::l/\Os e
 depth:r.A.depth+n<=600
 units:r.A.units+100 * n<=9000
 hh:HOk g r.A
 frs:BJ g r.fe
 has:Has r.T g σ s
theorem HOk.mono {g g':G} {A:Around} (h:HOk g A) (le:G.up g g'):HOk g' A:=h
section
variable {n m:Nat} {r:Ar} {g g':G} {σ σ':Aa} {s s':Shared} {own:List Addr}
theorem At.step (x:At n r g σ s) (le:G.le [] g g') (h:Has r.T g' σ' s'):At n r g' σ' s':=⟨x.ok,x.frames,x.top,x.depth,x.units,x.hh.mono le.toup,x.frs.mono fun a=>le.hid a AA1,h⟩
theorem At.stepF (x:At n r g σ s) (le:G.up g g') (f:BJ g' r.fe) (h:Has r.T g' σ' s'):At n r g' σ' s':=⟨x.ok,x.frames,x.top,x.depth,x.units,x.hh.mono le,f,h⟩
theorem At.less (x:At n r g σ s) (h:m<=n):At m r g σ s:=⟨x.ok,x.frames,x.top,AAC (Nat.add_le_add_left h _) x.depth,AAC (Nat.add_le_add_left (Nat.mul_le_mul_left _ h) _) x.units,x.hh,x.frs,x.has⟩
theorem At.nolimit (x:At n r g σ s):s.heap.NoLimit:=x.ok.ok.nolimit.keeps fun b o e=>x.has.fz b o (x.has.base b o e)
theorem At.pylong (x:At n r g σ s):PylongRoom (model r.T.prog r.T.w) r.A s:=by
 obtain ⟨e,l,hf,t⟩:=x.top
 exact PylongRoom.of x.nolimit (AAS (Nat.add_le_add_right (AAC (AA9 _ _) x.depth) 100) (show 600+100 < 1000 by decide)) (SeerAt.of (x.ok.ok.seer.keeps fun b o e=>x.has.fz b o (x.has.base b o e)) x.ok.ok.tree (hf▸x.frames) t.gen t.cor t.blt t.glob)
theorem At.room (x:At n r g σ s):r.A.units+41 < cLine:=AAS (Nat.add_le_add_right (AAC (AA9 _ _) x.units) 41) (show 9000+41 < 9900 by decide)
end
noncomputable abbrev Ans (r:Ar) (g:G) (v:V) (σ':Aa) (x:Value) (s':Shared):Prop:=BX r.T [] g σ' (fun g'=>As r.T g' v x) s'
def Pr1 (m:Value->Sem Value) (x:V) (σ:Aa) (v:V) (σ':Aa):Prop :=
 ∀ (r:Ar) (g:G) (s:Shared) (X:Value),At 0 r g σ s->As r.T g x X->r.wp (m X) (Ans r g v σ') s
def Pr2 (m:Value->Value->Sem Value) (x y:V) (σ:Aa) (v:V) (σ':Aa):Prop :=
 ∀ (r:Ar) (g:G) (s:Shared) (X Y:Value),At 0 r g σ s->As r.T g x X->As r.T g y Y->r.wp (m X Y) (Ans r g v σ') s
def PrL (m:List Value->Sem Value) (xs:List V) (σ:Aa) (v:V) (σ':Aa):Prop :=
 ∀ (r:Ar) (g:G) (s:Shared) (Xs:List Value),At 0 r g σ s->Au r.T g xs Xs->r.wp (m Xs) (Ans r g v σ') s
def FN (n f:Nat) (xs:List V) (σ:Aa) (v:V) (σ':Aa):Prop :=
 ∀ (r:Ar) (g:G) (s:Shared) (a:Addr) (Xs:List Value),r.T.fn f=some a->At n r g σ s->Au r.T g xs Xs->r.wp (call (.ref a) Xs) (Ans r g v σ') s
def NsF (f:Addr->Option Obj) (a:Addr) (m:Str->Option Value):Prop:=∃ o es ep,f a=some o/\o.data=.dict es ep/\StrKeys es/\∀ name,nsFind es name=m name
def Fg (f:Addr->Option Obj) (c:Addr) (v:Option Value):Prop:=∃ o,f c=some o/\o.data=.cell v
structure Cx extends Ar where
 K:Kx
 env:Env
 own:List Addr
structure Ma (n:Nat) (c:Cx):Prop where
 rd:Ready c.T c.K.gl
 names:c.env.scope.names=c.K.names
 kind:c.env.scope.kind=.function
 glob:c.env.globals=mainGlobals
 blt:c.env.builtins=builtinsNs
 hfr:∃ e l,c.fe=e::l/\c.env.frame=e.frame
 cinj:∀ m m' a,c.env.cells.lookup m=some a->c.env.cells.lookup m'=some a->m=m'
 nd:c.K.vars.Nodup
 oloc:c.env.locals∈c.own
 ocell:∀ m,m∈c.K.wr->∀ a,c.env.kindOf m=some .cell->c.env.cells.lookup m=some a->a∈c.own
 lamc:∀ t q,c.K.lam=some (t,q)->1<=n/\(t,q)∈c.T.tabs/\c.env.qual++("<lambda>" : Str)=q/\∃ a,c.env.code=.ref a/\W.CodeHd c.T.h0 a t
structure Loc (c:Cx) (ρ:Ah) (g:G):Prop where
 ns:∀ R_:Prop,(∀ m,NsF g.hid c.env.locals m->(∀ (i:Nat) (nm:Str) (v:V),c.K.vars[i]? = some nm->ρ[i]? = some (some v)->c.env.kindOf nm=some .local->∃ x,m nm=some x/\As c.T g v x)->R_)->R_
 ce:∀ nm,c.env.kindOf nm=some .cell\/c.env.kindOf nm=some .free->∀ R_:Prop,(∀ a u,c.env.cells.lookup nm=some a->Fg g.hid a u->(∀ (i:Nat) (v:V),c.K.vars[i]? = some nm->ρ[i]? = some (some v)->∃ x,u=some x/\As c.T g v x)->R_)->R_
 ow:∀ a,a∈c.own->g.hid a≠none
structure Inv (n:Nat) (c:Cx) (ρ:Ah) (g:G) (σ:Aa) (s:Shared):Prop extends At n c.toAr g σ s where
 cx:Ma n c
 loc:Loc c ρ g
def SE (n:Nat) (e:E) (ρ:Ah) (σ:Aa) (v:V) (σ':Aa):Prop :=
 ∀ (c:Cx) (g:G) (s:Shared) (ex:Expr),IsE e c.K ex->Inv n c ρ g σ s->c.wp (eval ex c.env) (Ans c.toAr g v σ') s
def ST (n:Nat) (e:E) (ρ:Ah) (σ:Aa) (b:Bool) (σ':Aa):Prop :=
 ∀ (c:Cx) (g:G) (s:Shared) (ex:Expr),IsE e c.K ex->Inv n c ρ g σ s->c.wp (isTrue ex c.env (eval ex c.env)) (fun x s'=>BX c.T [] g σ' (fun _=>x=b) s') s
def SEs (n:Nat) (e:E) (ρ:Ah) (σ:Aa) (vs:List V) (σ':Aa):Prop :=
 ∀ (c:Cx) (g:G) (s:Shared) (xs:List Expr) (pos:Pos),EU e c.K xs->Inv n c ρ g σ s->c.wp (spliced (backTo pos (starEach xs c.env))) (fun xs s'=>BX c.T [] g σ' (fun g'=>Au c.T g' vs xs) s') s
set_option genCtorIdx true in
inductive Fl where
 | next (ρ:Ah)
 | ret (v:V)
def Bv (n:Nat) (c:Cx) (g:G) (Q:Fl->Aa->Prop) (f:Flow) (s':Shared):Prop :=
 ∀ R_:Flow->Prop,(∀ (ρ:Ah) (σ':Aa) (g':G),Q (.next ρ) σ'->G.le c.own g g'->Inv n c ρ g' σ' s'->R_ .next) ->
  (∀ (v:V) (x:Value) (σ':Aa) (g':G),Q (.ret v) σ'->G.le c.own g g'->Has c.T g' σ' s'->(∀ a,a∈c.own->g'.hid a≠none)->As c.T g' v x->R_ (.ret x))->R_ f
def SS (n:Nat) (st:S) (ρ:Ah) (σ:Aa) (Q:Fl->Aa->Prop):Prop :=
 ∀ (c:Cx) (g:G) (s:Shared) (x:Stmt),IsS st c.K x->Inv n c ρ g σ s->c.wp (exec x c.env) (Bv n c g Q) s
def SSs (n:Nat) (st:S) (ρ:Ah) (σ:Aa) (Q:Fl->Aa->Prop):Prop :=
 ∀ (c:Cx) (g:G) (s:Shared) (xs:List Stmt),MW st c.K xs->Inv n c ρ g σ s->c.wp (execs xs c.env) (Bv n c g Q) s
section
variable {n:Nat} {c:Cx} {ρ ρ':Ah} {g g':G} {σ σ':Aa} {s s':Shared}
theorem NsF.to {f f':Addr->Option Obj} {a:Addr} {m:Str->Option Value} (x:NsF f a m) (h:∀ o,f a=some o->f' a=some o):NsF f' a m:=x.imp fun o x=>x.imp fun _ x=>x.imp fun _ x=>⟨h o x.1,x.2⟩
theorem Fg.to {f f':Addr->Option Obj} {a:Addr} {u:Option Value} (x:Fg f a u) (h:∀ o,f a=some o->f' a=some o):Fg f' a u:=x.imp fun o x=>⟨h o x.1,x.2⟩
theorem Has.ns {T:Top} {a:Addr} {m:Str->Option Value} (H:Has T g σ s) (h:NsF g.hid a m):NsF s.heap.get? a m:=by
 obtain ⟨o,es,ep,e,d,k⟩:=h
 obtain ⟨o',e',d',_⟩:=H.hd a o e
 exact ⟨o',es,ep,e',d'.trans d,k⟩
theorem Has.cell {T:Top} {a:Addr} {u:Option Value} (H:Has T g σ s) (h:Fg g.hid a u):Fg s.heap.get? a u:=by
 obtain ⟨o,e,d⟩:=h
 obtain ⟨o',e',d',_⟩:=H.hd a o e
 exact ⟨o',e',d'.trans d⟩
theorem BJ.hideC {fe:List Env} {a:Addr} {o:Obj} {u:Option Value} (x:BJ g fe) (h:Fg g.hid a u):BJ (g.hide a o) fe:=fun e he=>⟨(x e he).1,by
 obtain ⟨L,o',es',ep',h1,h2,h3,h4⟩:=(x e he).2
 obtain ⟨o2,e2,d2⟩:=h
 refine ⟨L,o',es',ep',h1,(if_neg fun q=>?_).trans h2,h3,h4⟩
 rw [q,e2] at h2
 rw [AAA h2,h4] at d2
 cases d2⟩
theorem BP {T:Top} {v:V} {o:Option Value} (up:G.up g g') (h:∃ x,o=some x/\As T g v x):∃ x,o=some x/\As T g' v x:=h.imp fun _ h=>⟨h.1,As.mono up _ _ h.2⟩
theorem Loc.step (x:Loc c ρ g) (up:G.up g g') (hd:∀ a,g'.hid a=g.hid a):Loc c ρ g' :=
 ⟨fun R_ k=>x.ns R_ fun m h1 h2=>k m (h1.to fun o e=>(hd _).trans e) fun i nm v e1 e2 e3=>BP up (h2 i nm v e1 e2 e3),
  fun nm hk R_ k=>x.ce nm hk R_ fun a u h1 h2 h3=>k a u h1 (h2.to fun o e=>(hd _).trans e) fun i v e1 e2=>BP up (h3 i v e1 e2),fun a h=>hd a▸x.ow a h⟩
theorem Inv.step (x:Inv n c ρ g σ s) (le:G.le [] g g') (h:Has c.T g' σ' s'):Inv n c ρ g' σ' s':=⟨x.toAt.step le h,x.cx,x.loc.step le.toup fun a=>le.hid a AA1⟩
theorem Inv.at0 (x:Inv n c ρ g σ s):At 0 c.toAr g σ s:=x.toAt.less (ABF _)
theorem BX.refl {T:Top} {own:List Addr} {R:G->Prop} (h:Has T g σ s) (r:R g):BX T own g σ R s:=.mk g (.refl _ _) h r
theorem B7 {α β:Type} {r:Ar} {g:G} {σ₁:Aa} {s:Shared} {R:α->G->Prop} {m:Sem α} {k:α->Sem β} {Q:β->Shared->Prop} (h:r.wp m (fun x s'=>BX r.T [] g σ₁ (R x) s') s)
 (hk:∀ x g₁ s₁,G.le [] g g₁->Has r.T g₁ σ₁ s₁->R x g₁->r.wp (k x) Q s₁):r.wp (m>>=k) Q s :=
 AAD (AAO h (fun x s' p=>p _ fun g' le hs hr=>hk x g' s' le hs hr) fun _ _ h=>h)
theorem B0 {α:Type} {r:Ar} {g g₁:G} {σ':Aa} {s:Shared} {R:α->G->Prop} {m:Sem α} (le:G.le [] g g₁) (h:r.wp m (fun x s'=>BX r.T [] g₁ σ' (R x) s') s):r.wp m (fun x s'=>BX r.T [] g σ' (R x) s') s :=
 AAO h (fun _ _ p=>p.after le) fun _ _ h=>h
theorem Op {r:Ar} {m:Sem Value} {v:V} (a:Has r.T g σ s) (h:∀ Q:Value->Shared->Prop,(∀ x k,As r.T g v x->Q x { s with toks:=k })->wpAny (model r.T.prog r.T.w) r.A m Q (fun _ _=>False) s):r.wp m (Ans r g v σ) s :=
 h _ fun x k rx=>.refl a.tok rx
end
end Mine
namespace Mine
open PySem PySem.Calls
noncomputable abbrev vi (i:Int):V:=.d (.int i)
noncomputable abbrev vb (b:Bool):V:=.d (.bool b)
def Tr (σ:Aa) (v:V) (b:Bool):Prop:=∀ (r:Ar) (g:G) (s:Shared) (X:Value),At 0 r g σ s->As r.T g v X->r.wp (truthy X) (fun x s'=>BX r.T [] g σ (fun _=>x=b) s') s
section
variable {n:Nat} {c:Cx} {ρ:Ah} {g g':G} {σ σ₁ σ₂ σ3:Aa} {s s':Shared} {e a b:E} {x y v:V}
theorem AM {env:Env} {K:Kx} (h:env.scope.names=K.names) (nm:Str):env.kindOf nm=K.names.lookup nm:=by unfold Env.kindOf; rw [h]
theorem Ii {env:Env} {K:Kx} (h:env.scope.names=K.names) {nm:Str} (hv:K.isVar nm=true) :
 (env.kindOf nm=some .local\/env.kindOf nm=some .cell\/env.kindOf nm=some .free)/\(nm == ("__debug__" : Str))=false/\(nm == ("__classdict__" : Str))=false:=by
 rw [AM h]
 unfold Kx.isVar at hv
 simp only [Bool.and_eq_true,Bool.not_eq_true',Bool.or_eq_true] at hv
 exact ⟨hv.1.1.imp Kx.kd_eq (Or.imp Kx.kd_eq Kx.kd_eq),hv.1.2,hv.2⟩
theorem OT {env:Env} {K:Kx} (h:env.scope.names=K.names) {nm:Str} (hv:K.isGl nm=true):env.kindOf nm=some .globalImplicit/\(nm == ("__debug__" : Str))=false:=by
 rw [AM h]
 unfold Kx.isGl at hv
 simp only [Bool.and_eq_true,Bool.not_eq_true'] at hv
 exact ⟨Kx.kd_eq hv.1,hv.2⟩
theorem Inv.base (I:Inv n c ρ g σ s):∀ b o,c.T.h0.get? b=some o->s.heap.get? b=some o:=fun b o e=>I.has.fz b o (I.has.base b o e)
theorem Cn {A':Around} {p:Pos} {nm:Str} {v:GV} {Q:Value->Shared->Prop} {E:Value->Shared->Prop} (I:Inv n c ρ g σ s) (hv:c.K.to v nm) (h:∀ x,VM c.T v x->Q x s):wpAny (model c.T.prog c.T.w) A' (eval (.Name nm p) c.env) Q E s:=by
 obtain ⟨mg,mb,hg,hb,ht,_⟩:=I.cx.rd.ns
 obtain ⟨hk,hd⟩:=OT I.cx.names hv.1
 have hg':s.heap.Ns c.env.globals mg:=by rw [I.cx.glob]; exact hg.keeps I.base
 obtain ⟨x,hx,h1⟩:=ht nm v hv.2
 refine Name_function_global I.cx.kind hk ?_ hd
 rcases h1 with h1 | ⟨h1,h2⟩
 ·exact loadGlobal_global hg' h1 (h x hx)
 ·exact loadGlobal_builtin hg' h1 (by rw [I.cx.blt]; exact hb.keeps I.base) h2 (h x hx)
theorem V5 {x:PyData} {r:Ar} {m:Nat} {p:Pos} {env:Env} (a:Has r.T g σ s) (hc:cOk x=true):r.wp (eval (.Constant (toC x) m p) env) (Ans r g (.d x) σ) s:=by
 refine Op a fun Q h=>?_
 cases x with
 | none=>exact wpAny_Constant_none (h _ s.toks rfl)
 | bool b=>exact wpAny_Constant_bool (h _ s.toks rfl)
 | int b=>exact wpAny_Constant_int (h _ _ ⟨s.toks,rfl⟩)
 | str b=>exact wpAny_Constant_str (h _ _ ⟨s.toks,rfl,AAG hc⟩)
 | _=>exact ff_ hc
theorem SE.cst (x:PyData):SE n (.cst x) ρ σ (.d x) σ:=fun c g s ex hc I=>hc (fun ex=>c.wp (eval ex c.env) (Ans c.toAr g (.d x) σ) s) fun m p hc=>V5 I.has hc
theorem SE.var {i:Nat} (hv:ρ[i]? = some (some v)):SE n (.var i) ρ σ v σ:=by
 refine fun c g s ex hc I=>hc (fun ex=>c.wp (eval ex c.env) (Ans c.toAr g v σ) s) fun nm p h=>?_
 have hq:=Ii I.cx.names h.1
 refine wpAny_Name ?_ hq.2.1
 rcases hq.1 with hk | hk
 ·refine I.loc.ns _ fun m hm hs=>?_
  obtain ⟨x,e,r⟩:=hs i nm v h.2 hv hk
  exact wpAny_loadName_local I.cx.kind hk (I.has.ns hm) e (.refl I.has r)
 ·refine I.loc.ce nm hk _ fun a u e hu hs=>?_
  obtain ⟨x,rfl,r⟩:=hs i v h.2 hv
  rcases hk with hk | hk
  ·exact wpAny_loadName_cell I.cx.kind hk e (I.has.cell hu) (.refl I.has r)
  ·exact wpAny_loadName_free I.cx.kind hk e (I.has.cell hu) (.refl I.has r) hq.2.2
theorem SE.ty {t:String}:SE n (.ty t) ρ σ (.ty t) σ:=fun c g s ex hc I=>hc (fun ex=>c.wp (eval ex c.env) (Ans c.toAr g (.ty t) σ) s) fun nm p hc=>Cn I hc fun x r=>.refl I.has r
theorem SE.glb {x:PyData}:SE n (.glb x) ρ σ (.d x) σ:=fun c g s ex hc I=>hc (fun ex=>c.wp (eval ex c.env) (Ans c.toAr g (.d x) σ) s) fun nm p hc=>Cn I hc fun x r=>.refl I.has (A5.mono I.has.base _ _ r)
theorem Bc {α:Type} {r:Ar} {m m':Sem α} {Q:α->Shared->Prop} (e:m=m') (h:r.wp m' Q s):r.wp m Q s:=e▸h
theorem B1 {α:Type} {ex:Expr} {Q:α->Shared->Prop} {k:Value->Sem α} (ha:SE n a ρ σ x σ₁) (h1:IsE a c.K ex) (I:Inv n c ρ g σ s) (hk:∀ X g₁ s₁,G.le [] g g₁->Inv n c ρ g₁ σ₁ s₁->As c.T g₁ x X->c.wp (k X) Q s₁):c.wp (eval ex c.env>>=k) Q s :=
 B7 (ha c g s ex h1 I) fun X g₁ s₁ le a r=>hk X g₁ s₁ le (I.step le a) r
theorem Em {α:Type} {l r:Expr} {Q:α->Shared->Prop} {k:Value->Value->Sem α} (ha:SE n a ρ σ x σ₁) (hb:SE n b ρ σ₁ y σ₂) (h1:IsE a c.K l) (h2:IsE b c.K r) (I:Inv n c ρ g σ s)
 (hk:∀ X Y g₁ s₁,G.le [] g g₁->Inv n c ρ g₁ σ₂ s₁->As c.T g₁ x X->As c.T g₁ y Y->c.wp (k X Y) Q s₁):c.wp (eval l c.env>>=fun X=>holding [X] (eval r c.env)>>=fun Y=>k X Y) Q s :=
 B1 ha h1 I fun X g₁ s₁ le1 I1 r1=>B7 (AA8 (hb c g₁ s₁ r h2 I1)) fun Y g2 s2 le2 a₂ r2=>hk X Y g2 s2 (le1.trans le2) (I1.step le2 a₂) (As.mono le2.toup _ _ r1) r2
theorem SE.bin {op:Operator} (ha:SE n a ρ σ x σ₁) (hb:SE n b ρ σ₁ y σ₂) (h:Pr2 (binaryOp op) x y σ₂ v σ3):SE n (.bin op a b) ρ σ v σ3:=by
 refine fun c g s ex hc I=>hc (fun ex=>c.wp (eval ex c.env) (Ans c.toAr g v σ3) s) fun l r p h1 h2=>?_
 exact Bc (arm_eval_BinOp ..) (Em ha hb h1 h2 I fun X Y g2 s2 le I2 r1 r2=>AAD (AA7 (wpAny_operating (B0 le (h c.toAr g2 s2 X Y I2.at0 r1 r2)))))
theorem SE.neg {i:Int} (ha:SE n a ρ σ (vi i) σ₁):SE n (.neg a) ρ σ (vi (-i)) σ₁:=by
 refine fun c g s ex hc I=>hc (fun ex=>c.wp (eval ex c.env) (Ans c.toAr g (vi (-i)) σ₁) s) fun z p hc=>?_
 refine Bc (arm_eval_UnaryOp ..) (B1 ha hc I fun X g₁ s₁ le I1 r1=>AAD (AA7 (AA8 ?_)))
 obtain ⟨t,rfl⟩:=r1
 exact B0 le (Op (r:=c.toAr) I1.has fun Q h=>P.neg_int (h _ _ ⟨_,rfl⟩))
theorem UT {X:Value}:unaryOp .Not X=holding [X] (truthy X>>=fun b=>pure (Value.bool (!b))):=by unfold unaryOp; rfl
theorem SE.not {t:Bool} (ha:SE n a ρ σ x σ₁) (ht:Tr σ₁ x t):SE n (.not a) ρ σ (vb !t) σ₁:=by
 refine fun c g s ex hc I=>hc (fun ex=>c.wp (eval ex c.env) (Ans c.toAr g (vb !t) σ₁) s) fun z p hc=>?_
 exact Bc (arm_eval_UnaryOp ..) (B1 ha hc I fun X g₁ s₁ le1 I1 r1=>AAD (AA7 (AA8 (Bc UT (AA8 (B7 (ht c.toAr g₁ s₁ X I1.at0 r1) fun b g2 s2 le2 a₂ r2=>AAY (.mk g2 (le1.trans le2) a₂ (congrArg (fun b=>Value.bool (!b)) r2))))))))
theorem ST.not {t:Bool} (ha:ST n a ρ σ t σ₁):ST n (.not a) ρ σ (!t) σ₁:=by
 exact fun c g s ex hc I=>hc (fun ex=>c.wp (isTrue ex c.env (eval ex c.env)) (fun x s'=>BX c.T [] g σ₁ (fun _=>x = !t) s') s) fun z p hc =>
  Bc (arm_isTrue_UnaryOp ..) (B7 (ha c g s z hc I) fun b g₁ s₁ le1 a₁ r1=>AAY (.mk g₁ le1 a₁ (congrArg Bool.not r1)))
structure JD (x:Expr):Prop where
 star:∀ env r,starEach (x::r) env=(false,eval x env)::starEach r env
 marks:∀ op t,markedBehindIn op x t=t
 fold:∀ env y,foldedSetIterable x env y=pure y
theorem BK (e:E) {K:Kx} {ex:Expr} (h:IsE e K ex):JD ex:=by
 cases e with
 | nil=>exact h.elim
 | cons _ _=>exact h.elim
 | _=>exact h JD (by intros; exact ⟨fun _ _=>rfl,fun _ _=>rfl,fun _ _=>rfl⟩)
theorem D9 (e:E) {K:Kx} {ex:Expr} (hp:Bz e=false) (h:IsE e K ex) (t:Option Expr) (l:Nat) (env:Env):swapsWith ex t l env=pure false:=by
 cases e with
 | nil=>exact h.elim
 | cons _ _=>exact h.elim
 | comp _ _ _ _=>exact tt_ hp
 | _=>exact h (fun ex=>swapsWith ex t l env=pure false) (by intros; rfl)
theorem Nh {t:Bool}:Tr σ (vb t) t:=fun r g s X A h=>by
 obtain rfl:X=.bool t:=h
 exact wpAny_truthy_bool (.refl A.has rfl)
theorem TL {l r:Expr} {op:CmpOp} {p:Pos} {env:Env} (h:JD r):eval (.Compare l [op] [r] p) env=(eval l env>>=fun X=>holding [X] (eval r env)>>=fun Y=>standAt p>>=fun _=>operate [X,Y] (compareOp op X Y)):=by
 rw [arm_eval_Compare]
 show (eval l env>>=fun X=>holding [X] (markedBehindIn op r (eval r env))>>=_)=_
 rw [h.marks]
theorem RE {l r:Expr} {op:CmpOp} {p:Pos} {env:Env} {w:Sem Value} (h:JD r):isTrue (.Compare l [op] [r] p) env w=(eval l env>>=fun X=>holding [X] (eval r env)>>=fun Y=>standAt p>>=fun _=>operate [X,Y] (compareOp op X Y)>>=fun z=>holding [z] (truthy z)):=by
 rw [arm_isTrue_Compare]
 show (eval l env>>=fun X=>holding [X] (markedBehindIn op r (eval r env))>>=_)=_
 rw [h.marks]
theorem SE.cmp {op:CmpOp} (ha:SE n a ρ σ x σ₁) (hb:SE n b ρ σ₁ y σ₂) (h:Pr2 (compareOp op) x y σ₂ v σ3):SE n (.cmp op a b) ρ σ v σ3:=by
 refine fun c g s ex hc I=>hc (fun ex=>c.wp (eval ex c.env) (Ans c.toAr g v σ3) s) fun l r p h1 h2=>?_
 exact Bc (TL (BK b h2)) (Em ha hb h1 h2 I fun X Y g2 s2 le I2 r1 r2=>AAD (AA7 (wpAny_operating (B0 le (h c.toAr g2 s2 X Y I2.at0 r1 r2)))))
theorem ST.cmp {op:CmpOp} {t:Bool} (ha:SE n a ρ σ x σ₁) (hb:SE n b ρ σ₁ y σ₂) (h:Pr2 (compareOp op) x y σ₂ (vb t) σ3):ST n (.cmp op a b) ρ σ t σ3:=by
 refine fun c g s ex hc I=>hc (fun ex=>c.wp (isTrue ex c.env (eval ex c.env)) (fun x s'=>BX c.T [] g σ3 (fun _=>x=t) s') s) fun l r p h1 h2=>?_
 exact Bc (RE (BK b h2)) (Em ha hb h1 h2 I fun X Y g2 s2 le2 I2 r1 r2=>AAD (AA7 (B7 (r:=c.toAr) (wpAny_operating (h c.toAr g2 s2 X Y I2.at0 r1 r2)) fun z g3 s3 le3 a3 r3=>AA8
  (B0 (le2.trans le3) (Nh c.toAr g3 s3 z (I2.step le3 a3).at0 r3)))))
theorem ST.plain {t:Bool} (hp:∀ {K:Kx} {ex:Expr},IsE e K ex->∀ env w,isTrue ex env w=(w>>=fun v=>standAt ex.pos>>=fun _=>holding [v] (truthy v))) (h:SE n e ρ σ x σ₁) (ht:Tr σ₁ x t):ST n e ρ σ t σ₁:=by
 intro c g s ex hc I
 exact Bc (hp hc c.env _) (B1 h hc I fun X g₁ s₁ le I1 r1=>AAD (AA7 (AA8 (B0 le (ht c.toAr g₁ s₁ X I1.at0 r1)))))
theorem SEs.nil:SEs n .nil ρ σ [] σ:=by
 intro c g s xs pos hc I
 obtain rfl:xs=[]:=hc
 exact spliced_nil (.refl I.has trivial)
theorem SEs.cons {xs:List V} (h1:SE n a ρ σ x σ₁) (h2:SEs n b ρ σ₁ xs σ₂):SEs n (.cons a b) ρ σ (x::xs) σ₂:=by
 refine fun c g s l pos hc I=>hc (fun l=>c.wp (spliced (backTo pos (starEach l c.env))) (fun Xs s'=>BX c.T [] g σ₂ (fun g'=>Au c.T g' (x::xs) Xs) s') s) fun z l c1 c3=>?_
 rw [(BK a c1).star]
 refine spliced_cons (AAO (h1 c g s z c1 I) (fun X s₁ p=>p _ fun g₁ le1 a₁ r1=>?_) fun _ _ h=>h)
 exact AAO (h2 c g₁ s₁ l pos c3 (I.step le1 a₁)) (fun Xs s2 p=>p _ fun g2 le2 a₂ r2=>.mk g2 (le1.trans le2) a₂ ⟨As.mono le2.toup _ _ r1,r2⟩) fun _ _ h=>h
def SB (n:Nat) (op:BoolOp) (e:E) (ρ:Ah) (σ:Aa) (v:V) (σ':Aa):Prop :=
 ∀ (c:Cx) (g:G) (s:Shared) (xs:List Expr) (pos:Pos),EU e c.K xs->Inv n c ρ g σ s->c.wp (boolOp pos op (evalEach xs c.env)) (Ans c.toAr g v σ') s
def SBt (n:Nat) (op:BoolOp) (e:E) (ρ:Ah) (σ:Aa) (b:Bool) (σ':Aa):Prop :=
 ∀ (c:Cx) (g:G) (s:Shared) (xs:List Expr),EU e c.K xs->Inv n c ρ g σ s->c.wp (allTrue op xs c.env) (fun x s'=>BX c.T [] g σ' (fun _=>x=b) s') s
noncomputable def CG (op:BoolOp):Bool:=match op with | .And=>false | .Or=>true
variable {op:BoolOp} {r:E}
theorem SB.one (h:SE n a ρ σ x σ₁):SB n op (.cons a .nil) ρ σ x σ₁ :=
 fun c g s xs pos hc I=>hc (fun xs=>c.wp (boolOp pos op (evalEach xs c.env)) (Ans c.toAr g x σ₁) s) fun z l c1 c3=>by
  obtain rfl:l=[]:=c3
  exact h c g s z c1 I
set_option backward.match.sparseCases true in
theorem LE (pos:Pos) (op:BoolOp) (x y:Sem Value) (r:List (Sem Value)):boolOp pos op (x::y::r)=(x>>=fun v=>standAt pos>>=fun _=>holding [v] (truthy v)>>=fun t=>if t=CG op then pure v else boolOp pos op (y::r)):=by
 rw [boolOp]
 ·congr 1; funext v; congr 1; funext _; congr 1; funext t
  cases op <;> cases t <;> rfl
 ·intro q; exact TJ q
theorem PR (r:E) {K:Kx} {l:List Expr} (hn:B9 r=false) (h:EU r K l):∃ y l',l=y::l':=by
 cases r with
 | nil=>exact tt_ hn
 | cons a b=>exact h (fun l=>∃ y l',l=y::l') fun y l _ _=>⟨y,l,rfl⟩
 | _=>exact h.elim
theorem SB.more {t:Bool} (hr:B9 r=false) (h:SE n a ρ σ x σ₁) (ht:Tr σ₁ x t) (hs:t=CG op->v=x/\σ₂=σ₁) (hg:t≠CG op->SB n op r ρ σ₁ v σ₂):SB n op (.cons a r) ρ σ v σ₂:=by
 refine fun c g s xs pos hc I=>hc (fun xs=>c.wp (boolOp pos op (evalEach xs c.env)) (Ans c.toAr g v σ₂) s) fun z l c1 hl=>?_
 have k:c.wp (eval z c.env>>=fun v=>standAt pos>>=fun _=>holding [v] (truthy v)>>=fun t=>if t=CG op then pure v else boolOp pos op (evalEach l c.env)) (Ans c.toAr g v σ₂) s:=by
  refine B1 h c1 I fun X g₁ s₁ le1 I1 r1=>AAD (AA7 (B7 (AA8 (ht c.toAr g₁ s₁ X I1.at0 r1)) fun b' g2 s2 le2 a₂ r2=>?_))
  obtain rfl:b'=t:=r2
  by_cases q:b'=CG op
  ·exact Bc (if_pos q) (AAY (.mk g2 (le1.trans le2) ((hs q).2▸a₂) ((hs q).1▸As.mono le2.toup _ _ r1)))
  ·exact Bc (if_neg q) (B0 (le1.trans le2) (hg q c g2 s2 _ pos hl (I1.step le2 a₂)))
 obtain ⟨y,l',rfl⟩:=PR r hr hl
 exact Bc (LE ..) k
theorem SE.bop (h:SB n op e ρ σ v σ₁):SE n (.bop op e) ρ σ v σ₁:=fun c g s ex hc I=>hc (fun ex=>c.wp (eval ex c.env) (Ans c.toAr g v σ₁) s) fun vs p h1=>Bc (arm_eval_BoolOp ..) (h c g s vs p h1 I)
theorem LM {op:BoolOp} {z:Expr} {l:List Expr} {env:Env}:allTrue op (z::l) env=(isTrue z env (eval z env)>>=fun t=>if t=CG op then pure t else allTrue op l env):=by
 rw [arm_allTrue_cons]
 congr 1; funext t
 cases op <;> cases t <;> rfl
theorem SBt.nil:SBt n op .nil ρ σ (!CG op) σ:=by
 intro c g s xs hc I
 obtain rfl:xs=[]:=hc
 exact Bc (by cases op <;> rfl) (AAY (.refl I.has rfl))
theorem SBt.cons {t q:Bool} (h:ST n a ρ σ t σ₁) (hs:t=CG op->q=t/\σ₂=σ₁) (hg:t≠CG op->SBt n op r ρ σ₁ q σ₂):SBt n op (.cons a r) ρ σ q σ₂:=by
 refine fun c g s xs hc I=>hc (fun xs=>c.wp (allTrue op xs c.env) (fun x s'=>BX c.T [] g σ₂ (fun _=>x=q) s') s) fun z l c1 hl=>?_
 refine Bc LM (B7 (h c g s z c1 I) fun b' g₁ s₁ le1 a₁ r1=>?_)
 obtain rfl:b'=t:=r1
 by_cases e:b'=CG op
 ·exact Bc (if_pos e) (AAY (.mk g₁ le1 ((hs e).2▸a₁) (hs e).1.symm))
 ·exact Bc (if_neg e) (B0 le1 (hg e c g₁ s₁ l hl (I.step le1 a₁)))
theorem ST.bop {t:Bool} (h:SBt n op e ρ σ t σ₁):ST n (.bop op e) ρ σ t σ₁ :=
 fun c g s ex hc I=>hc (fun ex=>c.wp (isTrue ex c.env (eval ex c.env)) (fun x s'=>BX c.T [] g σ₁ (fun _=>x=t) s') s) fun vs p h1=>Bc (arm_isTrue_BoolOp ..) (h c g s vs h1 I)
end
end Mine
namespace Mine
open PySem PySem.Calls PySem.SeqAt
theorem E4 {n:Nat} (h:n<=line):n < 9223372036854775808:=AAS h (by decide)
noncomputable def IA (a b:PyData):Option Bool :=
 match a with
 | .none=>(match b with | .none=>some true | .str _=>some false | .tuple _=>some false | _=>none)
 | .bool x=>(match b with | .bool y=>some (x == y) | _=>none)
 | .int x=>(match b with | .int y=>some (x == y) | _=>none)
 | .str x=>(match b with | .str y=>some (x == y) | .none=>some false | _=>none)
 | .tuple _=>(match b with | .none=>some false | _=>none)
 | _=>none
noncomputable def Dg (f:PyData->PyData->Option Bool):List PyData->List PyData->Option Bool
 | [],ys=>(match ys with | []=>some true | _::_=>some false)
 | x::xs,ys=>(match ys with
  | []=>some false
  | y::ys=>(f x y).bind fun a=>(Dg f xs ys).bind fun b=>some (a&&b))
noncomputable def Uo (f:PyData->PyData->Option Bool) (a b:PyData):Option Bool :=
 match a with
 | .list xs=>(match b with | .list ys=>if xs.length=ys.length then Dg f xs ys else some false | _=>none)
 | .tuple xs=>(match b with | .tuple ys=>Dg f xs ys | _=>IA a b)
 | _=>IA a b
noncomputable def eqN:Nat->PyData->PyData->Option Bool
 | 0,a,b=>IA a b
 | n+1,a,b=>Uo (eqN n) a b
noncomputable def A6:Nat:=40
noncomputable def U9:PyData->Nat
 | .none=>0 | .bool _=>1 | .int _=>2 | .str _=>3 | .list _=>4 | .tuple _=>5 | .dict _=>6
noncomputable def Mf (f:Addr->Option Obj):Value->Nat
 | .none=>0 | .bool _=>1 | .int _ _=>2 | .str _ _=>3
 | .ref a=>(match f a with | some o=>if o.cls == .type "list" then 4 else 5 | none=>7)
 | _=>7
theorem Es {f:Addr->Option Obj} {d:PyData} {x:Value} (h:A5 f d x):Mf f x=U9 d:=by
 cases d with
 | none=>exact congrArg (Mf f) h
 | bool b=>exact congrArg (Mf f) h
 | int i=>exact h.elim fun t h=>congrArg (Mf f) h
 | str s=>exact h.elim fun t h=>congrArg (Mf f) h.1
 | list xs=>exact h (fun x=>Mf f x=4) fun a o vs m hf hc _ _ _=>by show (match f a with | some o=>_ | none=>_)=_; rw [hf]; exact if_pos (by rw [hc]; rfl)
 | tuple xs=>exact h (fun x=>Mf f x=5) fun a o vs m hf hc _ _ _=>by show (match f a with | some o=>_ | none=>_)=_; rw [hf]; exact if_neg (by rw [hc]; decide)
 | dict es=>exact h.elim
theorem Jm {f:Addr->Option Obj} {cl:String} {x:Value} {P Q:List Value->Prop} {n m:Nat} {α:Prop} (k:∀ vs,P vs->Q vs->α) (h:Cg f cl x P n) (h':Cg f cl x Q m):α:=by
 refine h (fun x=>Cg f cl x Q m->α) (fun a o vs n e2 _ e4 e5 _ h'=>?_) h'
 refine h' (fun y=>y=.ref a->α) (fun a' o' vs' n' e2' _ e4' e5' _ e=>?_) rfl
 obtain rfl:=Av e2 (show f a=some o' from (PySem.Value.ref.inj e)▸e2')
 rw [e4] at e4'; cases e4'
 exact k _ e5 e5'
mutual
theorem A5.inj {f:Addr->Option Obj}:∀ (d d':PyData) (x:Value),U9 d'=U9 d->A5 f d x->A5 f d' x->d=d'
 | .none,d',x,t,h,h'=>by cases d' <;> first | rfl | exact C7 t rfl
 | .bool a,d',x,t,h,h'=>by
  cases d' <;> first | exact C7 t rfl | (cases (show Value.bool a=.bool _ from Eq.trans (Eq.symm h) h'); rfl)
 | .int a,d',x,t,h,h'=>by
  cases d' <;> first | exact C7 t rfl | (obtain ⟨_,h⟩:=h; obtain ⟨_,h'⟩:=h'; cases h.symm.trans h'; rfl)
 | .str a,d',x,t,h,h'=>by
  cases d' <;> first | exact C7 t rfl | (obtain ⟨_,h,_⟩:=h; obtain ⟨_,h',_⟩:=h'; cases h.symm.trans h'; rfl)
 | .list xs,d',x,t,h,h'=>by
  cases d' <;> first | exact C7 t rfl | exact congrArg _ (Jm (RepDs.inj xs _) h h')
 | .tuple xs,d',x,t,h,h'=>by
  cases d' <;> first | exact C7 t rfl | exact congrArg _ (Jm (RepDs.inj xs _) h h')
 | .dict _,_,_,_,h,_=>h.elim
theorem RepDs.inj {f:Addr->Option Obj}:∀ (ds ds':List PyData) (xs:List Value),RepDs f ds xs->RepDs f ds' xs->ds=ds'
 | [],[],_,_,_=>rfl
 | d::ds,d'::ds',x::xs,h,h'=>by rw [A5.inj d d' x ((Es h'.1).symm.trans (Es h.1)) h.1 h'.1,RepDs.inj ds ds' xs h.2 h'.2]
 | [],_::_,[],_,h=>h.elim
 | [],_::_,_::_,h,_=>h.elim
 | _::_,[],[],h,_=>h.elim
 | _::_,[],_::_,_,h=>h.elim
 | _::_,_::_,[],h,_=>h.elim
end
theorem I9 {f:PyData->PyData->Option Bool} (hf:∀ d b,f d d=some b->b=true) (l:List PyData):∀ (b:Bool),Dg f l l=some b->b=true:=by
 induction l with
 | nil=>exact fun b h=>(AAA h).symm
 | cons x xs ih =>
  intro b h
  obtain ⟨c,e,h⟩:=Ab h
  obtain ⟨c',e',h⟩:=Ab h
  rw [<-AAA h,hf x c e,ih c' e']; rfl
theorem GS (d:PyData) (b:Bool) (h:IA d d=some b):b=true:=by
 cases d with
 | none=>exact (AAA h).symm
 | bool x=>rw [<-AAA h]; exact beq_self_eq_true x
 | int x=>rw [<-AAA h]; exact beq_self_eq_true x
 | str x=>rw [<-AAA h]; exact beq_self_eq_true x
 | _=>exact Ac h
theorem R2 (n:Nat):∀ (d:PyData) (b:Bool),eqN n d d=some b->b=true:=by
 induction n with
 | zero=>exact GS
 | succ n ih =>
  intro d b h
  have hl:=GS d b
  cases d with
  | list xs =>
   have h:(if xs.length=xs.length then Dg (eqN n) xs xs else some false)=some b:=h
   rw [if_pos rfl] at h
   exact I9 ih xs b h
  | tuple xs=>exact I9 ih xs b h
  | _=>exact hl h
section
variable {A:Around} {s:Shared}
structure GM (A:Around) (s:Shared) (x y:Value) (b:Bool):Prop where
 eq:EqAt A s x y b
 rc:RcAt A s x y b
 ne:RcNeAt A s x y (!b)
theorem MJ {n:Nat} {A:Around} (ih:∀ (d d':PyData) (x x':Value) (b:Bool),A5 s.heap.get? d x->A5 s.heap.get? d' x'->eqN n d d'=some b->GM A s x x' b) (ds:List PyData) :
 ∀ (ds':List PyData) (xs xs':List Value) (b:Bool),Aw (A5 s.heap.get?) ds xs->Aw (A5 s.heap.get?) ds' xs'->Dg (eqN n) ds ds'=some b ->
  ∃ e:Nat->Bool,(∀ j x x',xs[j]? = some x->xs'[j]? = some x'->EqAt A s x x' (e j))/\b=((List.range (min xs.length xs'.length)).all e&&xs.length == xs'.length):=by
 induction ds with
 | nil =>
  intro ds' xs xs' b r r' h
  rw [r.nil]
  refine ⟨fun _=>true,fun j x x' h=>Ac h,?_⟩
  rw [<-r'.length]
  cases ds' <;> exact (AAA h).symm
 | cons d ds ihl =>
  intro ds' xs xs' b r r' h
  obtain ⟨x,xs,rfl,r1,r2⟩:=r.cons
  cases ds' with
  | nil =>
   rw [r'.nil]
   exact ⟨fun _=>true,fun j x x' _ h=>Ac h,(AAA h).symm⟩
  | cons d' ds' =>
   obtain ⟨x',xs',rfl,r1',r2'⟩:=r'.cons
   obtain ⟨c,e,h⟩:=Ab h
   obtain ⟨c',e',h⟩:=Ab h
   obtain ⟨f,h1,h2⟩:=ihl ds' xs xs' c' r2 r2' e'
   refine ⟨fun j=>if j=0 then c else f (j-1),fun j y y' hy hy'=>?_,?_⟩
   ·cases j with
    | zero=>rw [<-AAA hy,<-AAA hy']; exact (ih d d' x x' c r1 r1' e).eq
    | succ j=>exact h1 j y y' hy hy'
   ·rw [<-AAA h,h2,AA2,AA2,Nat.add_min_add_right,List.range_succ_eq_map,List.all_cons,List.all_map]
    simp [Function.comp_def,Bool.and_assoc]
theorem GD {d d':PyData} {x x':Value} {b:Bool} (hu:A.units < cLine) (r:A5 s.heap.get? d x) (r':A5 s.heap.get? d' x') (h:IA d d'=some b):GM A s x x' b:=by
 have tn:∀ ds x,A5 s.heap.get? (.tuple ds) x->GM A s .none x false/\GM A s x .none false:=fun ds x r=>r (fun x=>GM A s .none x false/\GM A s x .none false) fun a o vs k q1 q2 q3 q4 _ =>
  ⟨⟨EqAt.none_tuple ⟨_,q1,q2,_,q3⟩ hu,RcAt.none_tuple ⟨_,q1,q2,_,q3⟩ hu,RcNeAt.none_tuple ⟨_,q1,q2,_,q3⟩ hu⟩,EqAt.tuple_none ⟨_,q1,q2,_,q3⟩ hu,RcAt.tuple_none ⟨_,q1,q2,_,q3⟩ hu,RcNeAt.tuple_none ⟨_,q1,q2,_,q3⟩ hu⟩
 cases d with
 | none =>
  obtain rfl:x=.none:=r
  cases d' with
  | none=>obtain rfl:x'=.none:=r'; rw [<-AAA h]; exact ⟨EqAt.same _,RcAt.none_none,RcNeAt.none_none⟩
  | str _=>obtain ⟨t,rfl,_⟩:=r'; rw [<-AAA h]; exact ⟨EqAt.none_str _ _,RcAt.none_str _ _,RcNeAt.none_str _ _⟩
  | tuple _=>rw [<-AAA h]; exact (tn _ _ r').1
  | _=>exact Ac h
 | bool a=>cases d' with
  | bool c=>obtain rfl:x=.bool a:=r; obtain rfl:x'=.bool c:=r'; rw [<-AAA h]; exact ⟨EqAt.bool_bool _ _,RcAt.bool_bool _ _,RcNeAt.bool_bool _ _⟩
  | _=>exact Ac h
 | int a=>cases d' with
  | int c=>obtain ⟨t,rfl⟩:=r; obtain ⟨t',rfl⟩:=r'; rw [<-AAA h]; exact ⟨EqAt.int_int _ _ _ _,RcAt.int_int _ _ _ _,RcNeAt.int_int _ _ _ _⟩
  | _=>exact Ac h
 | str a=>obtain ⟨t,rfl,_⟩:=r; cases d' with
  | none=>obtain rfl:x'=.none:=r'; rw [<-AAA h]; exact ⟨EqAt.str_none _ _,RcAt.str_none _ _,RcNeAt.str_none _ _⟩
  | str c=>obtain ⟨t',rfl,_⟩:=r'; rw [<-AAA h]; exact ⟨EqAt.str_str _ _ _ _,RcAt.str_str _ _ _ _,RcNeAt.str_str _ _ _ _⟩
  | _=>exact Ac h
 | tuple _=>cases d' with
  | none=>obtain rfl:x'=.none:=r'; rw [<-AAA h]; exact (tn _ _ r).2
  | _=>exact Ac h
 | _=>exact Ac h
theorem Oa {n:Nat} {d d':PyData} {a a':Addr} {b:Bool} (rr:A5 s.heap.get? d (.ref a)) (rr':A5 s.heap.get? d' (.ref a')) (h:eqN n d d'=some b) (rc:RcAt A s (.ref a) (.ref a') b/\RcNeAt A s (.ref a) (.ref a') (!b)):GM A s (.ref a) (.ref a') b:=by
 refine ⟨?_,rc.1,rc.2⟩
 by_cases ha:a=a'
 ·subst ha
  rw [<-A5.inj _ _ _ ((Es rr').symm.trans (Es rr)) rr rr'] at h
  rw [R2 n d b h]
  exact EqAt.same _
 ·exact EqAt.of_refs ha rc.1
theorem R3 (n:Nat):∀ (A:Around),A.units+n < cLine->∀ (d d':PyData) (x x':Value) (b:Bool),A5 s.heap.get? d x->A5 s.heap.get? d' x'->eqN n d d'=some b->GM A s x x' b:=by
 induction n with
 | zero=>exact fun A hu d d' x x' b r r' h=>GD hu r r' h
 | succ n ih =>
  intro A hu d d' x x' b r r' h
  have hu':A.units < cLine:=AAS (AA9 _ _) hu
  have hu1:A.in1.units+n < cLine:=by show A.units+1+n < cLine; rw [Nat.add_assoc,Nat.add_comm 1]; exact hu
  have it:=MJ (s:=s) (ih A.in1 hu1)
  have hL:Uo (eqN n) d d'=some b:=h
  cases d with
  | list ds=>cases d' with
   | list ds' =>
    refine r (fun x=>A5 s.heap.get? (.list ds) x->GM A s x x' b) (fun a o vs k q1 q2 q3 q4 _ rr=>r' (fun x'=>A5 s.heap.get? (.list ds') x'->GM A s (.ref a) x' b) (fun a' o' vs' k' p1 p2 p3 p4 _ rr'=>Oa rr rr' h ?_) r') r
    have hl:s.heap.IsList a vs:=⟨_,q1,q2,_,q3⟩
    have hl':s.heap.IsList a' vs':=⟨_,p1,p2,_,p3⟩
    have l1:ds.length=vs.size:=q4.all.length
    have l2:ds'.length=vs'.size:=p4.all.length
    have hL:(if ds.length=ds'.length then Dg (eqN n) ds ds' else some false)=some b:=hL
    by_cases hsz:ds.length=ds'.length
    ·rw [if_pos hsz] at hL
     obtain ⟨e,h1,h2⟩:=it ds ds' vs.toList vs'.toList b q4.all p4.all hL
     have hsz':vs.size=vs'.size:=l1.symm.trans (hsz.trans l2)
     have hb:b=(List.range vs.size).all e:=by rw [h2]; simp [hsz']
     rw [hb]
     exact ⟨RcAt.lists hl hl' hsz' hu' fun j j1 j2=>h1 j _ _ (by simp [j1]) (by simp [j2]),RcNeAt.lists hl hl' hsz' hu' fun j j1 j2=>h1 j _ _ (by simp [j1]) (by simp [j2])⟩
    ·rw [if_neg hsz] at hL
     rw [<-AAA hL]
     have hsz':(vs.size != vs'.size)=true:=bne_iff_ne.mpr fun q=>hsz (l1.trans (q.trans l2.symm))
     exact ⟨RcAt.lists_lengths hl hl' hsz' hu',RcNeAt.lists_lengths hl hl' hsz' hu'⟩
   | _=>exact Ac hL
  | tuple ds=>cases d' with
   | tuple ds' =>
    refine r (fun x=>A5 s.heap.get? (.tuple ds) x->GM A s x x' b) (fun a o vs k q1 q2 q3 q4 _ rr=>r' (fun x'=>A5 s.heap.get? (.tuple ds') x'->GM A s (.ref a) x' b) (fun a' o' vs' k' p1 p2 p3 p4 _ rr'=>Oa rr rr' h ?_) r') r
    have hl:s.heap.IsTuple a vs:=⟨_,q1,q2,_,q3⟩
    have hl':s.heap.IsTuple a' vs':=⟨_,p1,p2,_,p3⟩
    obtain ⟨e,h1,h2⟩:=it ds ds' vs.toList vs'.toList b q4.all p4.all hL
    have hb:b=((List.range (min vs.size vs'.size)).all e&&vs.size == vs'.size):=h2
    rw [hb]
    exact ⟨RcAt.tuples hl hl' hu' fun j j1 j2=>h1 j _ _ (by simp [j1]) (by simp [j2]),RcNeAt.tuples hl hl' hu' fun j j1 j2=>h1 j _ _ (by simp [j1]) (by simp [j2])⟩
   | _=>exact GD hu' r r' hL
  | _=>exact GD hu' r r' hL
end
end Mine
namespace Mine
open PySem PySem.Calls PySem.SeqAt
noncomputable def wv:PyData ⊕ Nat->V:=Sum.elim .d .ref
noncomputable def CQ (o:Option O):Option (List V):=match o with | some o=>(match o with | .list vs=>some vs | _=>none) | none=>none
noncomputable def A2 (σ:Aa) (v:V):Option (List V) :=
 match v with
 | .d x=>(match x with | .list xs=>some (xs.map .d) | _=>none)
 | .ref k=>CQ σ[k]?
 | _=>none
noncomputable def BY (v:V):Option (List V) :=
 match v with
 | .d x=>(match x with | .tuple xs=>some (xs.map .d) | _=>none)
 | .tup ws=>some (ws.map wv)
 | .pr x y=>some [x,y]
 | _=>none
noncomputable def Vl (v:V):Option PyData:=match v with | .d x=>some x | _=>none
noncomputable def DJ:List V->Option (List PyData)
 | []=>some []
 | v::r=>(Vl v).bind fun x=>(DJ r).bind fun xs=>some (x::xs)
noncomputable def Q1 (o:Option (List V)):Option PyData:=o.bind fun vs=>(DJ vs).bind fun xs=>some (.list xs)
noncomputable def PE (σ:Aa):List (PyData ⊕ Nat)->Option (List PyData)
 | []=>some []
 | w::r=>(match w with | .inl x=>some x | .inr k=>Q1 (CQ σ[k]?)).bind fun x=>(PE σ r).bind fun xs=>some (x::xs)
noncomputable def snap (σ:Aa) (v:V):Option PyData :=
 match v with
 | .d x=>some x
 | .ref k=>Q1 (CQ σ[k]?)
 | .tup ws=>(PE σ ws).bind fun xs=>some (.tuple xs)
 | _=>none
theorem Gl {vs:List V}:∀ {xs:List PyData},DJ vs=some xs->vs=xs.map .d:=by
 induction vs with
 | nil=>exact fun h=>by rw [<-AAA h]; rfl
 | cons v vs ih =>
  intro xs h
  obtain ⟨x,e,h'⟩:=Ab h
  obtain ⟨ys,e',h''⟩:=Ab h'
  cases v with
  | d y=>rw [<-AAA h'',ih e',AAA e]; rfl
  | _=>exact Ac e
theorem C8 {o:Option O} {vs:List V} (h:CQ o=some vs):o=some (.list vs):=by
 cases o with
 | none=>exact Ac h
 | some o=>cases o with
  | list ws=>rw [AAA h]
  | _=>exact Ac h
section
variable {T:Top} {r:Ar} {g:G} {σ:Aa} {s:Shared} {v:V} {X:Value} {ws:List V}
theorem AQ (H:Has T g σ s) (rx:As T g v X) (e:A2 σ v=some ws) {R_:Value->Prop} (k:∀ a xs,s.heap.IsList a xs->Au T g ws xs.toList->ws.length=xs.size->xs.size<=line->R_ (.ref a)):R_ X:=by
 cases v with
 | d y=>cases y with
  | list ds =>
   obtain rfl:ds.map .d=ws:=AAA e
   exact rx R_ fun a o vs n h1 h2 h3 h4 h5=>k a vs ⟨o,H.fz _ _ h1,h2,n,h3⟩ (.ofD h4) (Au.ofD (T:=T) h4).length (by rw [<-ABA,<-h4.all.length]; exact h5)
  | _=>exact Ac e
 | ref j =>
  obtain ⟨a,e1,rfl⟩:=rx
  exact H.ob j a _ e1 (C8 e) _ fun o ho ro=>ro (fun o=>s.heap.get? a=some o->R_ (.ref a)) (fun xs m hr hl ho=>k a xs ⟨_,ho,rfl,m,rfl⟩ hr hr.length (by rw [<-ABA,<-hr.length]; exact hl)) ho
 | _=>exact Ac e
theorem GK.wv {xs:List Value} {ws:List (PyData ⊕ Nat)} (h:Aw (GK g) ws xs):Au T g (ws.map wv) xs:=by
 induction ws generalizing xs with
 | nil=>rw [h.nil]; exact trivial
 | cons w ws ih =>
  obtain ⟨x,xs,rfl,h1,h2⟩:=h.cons
  exact ⟨by cases w <;> exact h1,ih h2⟩
theorem C6 (H:Has T g σ s) (rx:As T g v X) (e:BY v=some ws) {R_:Value->Prop} (k:∀ a xs,s.heap.IsTuple a xs->Au T g ws xs.toList->ws.length=xs.size->xs.size<=line->R_ (.ref a)):R_ X:=by
 cases v with
 | d y=>cases y with
  | tuple ds =>
   obtain rfl:ds.map .d=ws:=AAA e
   exact rx R_ fun a o vs n h1 h2 h3 h4 h5=>k a vs ⟨o,H.fz _ _ h1,h2,n,h3⟩ (.ofD h4) (Au.ofD (T:=T) h4).length (by rw [<-ABA,<-h4.all.length]; exact h5)
  | _=>exact Ac e
 | tup us =>
  obtain rfl:us.map wv=ws:=AAA e
  exact rx R_ fun a o vs n h1 h2 h3 h4 h5=>k a vs ⟨o,H.fz _ _ h1,h2,n,h3⟩ (GK.wv h4) (GK.wv (T:=T) h4).length (by rw [<-ABA,<-h4.length]; exact h5)
 | pr x y =>
  obtain rfl:[x,y]=ws:=AAA e
  exact rx R_ fun a o vs n h1 h2 h3 h4 h5=>by
   obtain ⟨a',b',e4,r1,r2⟩:=h4
   exact k a vs ⟨o,H.fz _ _ h1,h2,n,h3⟩ (e4▸⟨r1,r2,trivial⟩) (by rw [<-ABA,e4]; rfl) (by rw [<-ABA,e4]; exact h5)
 | _=>exact Ac e
theorem KY (H:Has T g σ s) {k:Nat} {d:PyData} (rx:As T g (.ref k) X) (e:Q1 (CQ σ[k]?)=some d):A5 s.heap.get? d X:=by
 obtain ⟨ws,e1,e⟩:=Ab e
 obtain ⟨xs,e2,e⟩:=Ab e
 rw [<-AAA e]
 rw [Gl e2] at e1
 refine AQ (v:=.ref k) H rx e1 fun a vs hL hr hl hs=>?_
 obtain ⟨o,ho,hc,n,hd⟩:=hL
 exact fun R_ kk=>kk a o vs n ho hc hd (RepDs.mono H.fz _ _ (Au.toD hr)) (by rw [<-AAB (f:=V.d),hl]; exact hs)
theorem Ex (H:Has T g σ s) {d:PyData} (rx:As T g v X) (e:snap σ v=some d):A5 s.heap.get? d X:=by
 cases v with
 | d y=>rw [<-AAA e]; exact A5.mono H.fz _ _ rx
 | ref k=>exact KY H rx e
 | tup ws =>
  obtain ⟨xs,e,e'⟩:=Ab e
  rw [<-AAA e']
  have key:∀ {ws:List (PyData ⊕ Nat)} {xs:List PyData} {vs:List Value},Aw (GK g) ws vs->PE σ ws=some xs->Aw (A5 s.heap.get?) xs vs:=by
   intro ws
   induction ws with
   | nil=>intro xs vs h e; rw [h.nil,<-AAA e]; exact trivial
   | cons w ws ih =>
    intro xs vs h e
    obtain ⟨v,vs,rfl,h1,h2⟩:=h.cons
    obtain ⟨x,e1,e⟩:=Ab e
    obtain ⟨ys,e2,e⟩:=Ab e
    rw [<-AAA e]
    refine ⟨?_,ih h2 e2⟩
    cases w with
    | inl y=>rw [<-AAA e1]; exact A5.mono H.fz _ _ h1
    | inr k=>exact KY (T:=T) (k:=k) H h1 e1
  exact rx _ fun a o vs n h1 h2 h3 h4 h5 R_ kk=>kk a o vs n (H.fz _ _ h1) h2 h3 (.of (key h4 e)) (by rw [(key h4 e).length,<-h4.length]; exact h5)
 | _=>exact Ac e
end
section
variable {σ:Aa} {x y v:V} {i j:Int} {d d':PyData} {b:Bool}
theorem Sq:Tr σ (.d .none) false:=fun r g s X A h=>by
 obtain rfl:X=.none:=h
 exact PyProof.Rows.truthy_none (.refl A.has rfl)
theorem U7:Tr σ (vi i) (i != 0):=fun r g s X A h=>by
 obtain ⟨t,rfl⟩:=h
 exact P.truthy_int (.refl A.has rfl)
theorem U6 {t:Str}:Tr σ (.d (.str t)) (t.cps.size != 0):=fun r g s X A h=>by
 obtain ⟨k,rfl,hl⟩:=h
 refine P.truthy_str (Int.not_le.mpr (Int.ofNat_lt.mpr (E4 hl))) (.refl A.has.tok ?_)
 show ((t.cps.size:Int) != 0)=(t.cps.size != 0)
 cases t.cps.size <;> rfl
theorem J9 {α:Type} {ws:List V} {xs:Array α} (h:ws.length=xs.size):(!xs.isEmpty) = !ws.isEmpty:=by
 cases ws with
 | nil=>rw [Array.size_eq_zero_iff.mp h.symm]; rfl
 | cons w ws =>
  have:xs≠#[]:=fun q=>by rw [q] at h; exact C7 h rfl
  rw [show xs.isEmpty=false by simpa using this]; rfl
theorem Ng {ws:List V} (e:A2 σ v=some ws):Tr σ v (!ws.isEmpty):=fun r g s X A h =>
 AQ A.has h e (R_:=fun X=>r.wp (truthy X) (fun x s'=>BX r.T [] g σ (fun _=>x = !ws.isEmpty) s') s) fun a xs hL hr hl hs=>wpAny_truthy_list hL (Int.ofNat_lt.mpr (E4 hs)) (.refl A.has.tok (J9 hl))
theorem U5 {ws:List V} (e:BY v=some ws):Tr σ v (!ws.isEmpty):=fun r g s X A h =>
 C6 A.has h e (R_:=fun X=>r.wp (truthy X) (fun x s'=>BX r.T [] g σ (fun _=>x = !ws.isEmpty) s') s) fun a xs hL hr hl hs=>PyProof.Rows.truthy_tuple hL (Int.ofNat_lt.mpr (E4 hs)) (.refl A.has.tok (J9 hl))
noncomputable def small (i:Int):Bool:=decide (-9223372036854775808 < i)&&decide (i < 9223372036854775808)
theorem En {m:Value->Value->Sem Value} {f:Int->Int->Int} (h:∀ (r:Ar) (g:G) (s:Shared) (t u:Tok),At 0 r g σ s->∀ Q:Value->Shared->Prop,(∀ t k,Q (.int (f i j) t) { s with toks:=k })->wpAny (model r.T.prog r.T.w) r.A (m (.int i t) (.int j u)) Q (fun _ _=>False) s):Pr2 m (vi i) (vi j) σ (vi (f i j)) σ:=fun r g s X Y A hx hy=>by
 obtain ⟨t,rfl⟩:=hx
 obtain ⟨u,rfl⟩:=hy
 exact h r g s t u A _ fun t k=>.refl A.has.tok ⟨t,rfl⟩
theorem Wn:Pr2 (binaryOp .Add) (vi i) (vi j) σ (vi (i+j)) σ:=En fun r g s t u A Q h=>P.add_int (h _ _)
theorem Wd:Pr2 (binaryOp .Sub) (vi i) (vi j) σ (vi (i-j)) σ:=En fun r g s t u A Q h=>P.sub_int (h _ _)
theorem Wl (hj:j≠0):Pr2 (binaryOp .FloorDiv) (vi i) (vi j) σ (vi (i.fdiv j)) σ:=En fun r g s t u A Q h=>PyProof.Rows.floordiv_int hj (h _ _) (Or.inr A.pylong)
theorem Wf (hj:j≠0):Pr2 (binaryOp .Mod) (vi i) (vi j) σ (vi (i.fmod j)) σ:=En fun r g s t u A Q h=>PyProof.Rows.mod_int' hj (h _ _)
theorem HF {i:Int} (h:small i=true):Builtin.Int.intBits i<=64:=by
 have h:=AAH.mp h
 exact intBits_le_64 (by have:=AAG h.1; lia) (by have:=AAG h.2; lia)
theorem We (hs:(small i||small j)=true):Pr2 (binaryOp .Mult) (vi i) (vi j) σ (vi (i * j)) σ:=En fun r g s t u A Q h=>P.mul_int (h _ _) ((ABC.mp hs).elim (fun h=>IntMulOk.of_left (HF h)) fun h=>IntMulOk.of_right (HF h))
theorem Wm {a b:Str} (hl:a.length+b.length<=line):Pr2 (binaryOp .Add) (.d (.str a)) (.d (.str b)) σ (.d (.str (a++b))) σ:=fun r g s X Y A hx hy=>by
 obtain ⟨t,rfl,_⟩:=hx
 obtain ⟨u,rfl,_⟩:=hy
 exact SB.add (fun t' k=>.refl A.has.tok ⟨_,rfl,by rw [Str.length_append]; exact hl⟩) (AR▸hl)
theorem FG {m:Value->Value->Sem Value} (h:∀ (r:Ar) (g:G) (s:Shared) (X Y:Value),At 0 r g σ s->As r.T g x X->As r.T g y Y->∀ Q:Value->Shared->Prop,Q (.bool b) s->wpAny (model r.T.prog r.T.w) r.A (m X Y) Q (fun _ _=>False) s):Pr2 m x y σ (vb b) σ :=
 fun r g s X Y A hx hy=>h r g s X Y A hx hy _ (.refl A.has rfl)
theorem Un {r:Ar} {g:G} {s:Shared} {X Y:Value} (A:At 0 r g σ s) (hx:As r.T g x X) (hy:As r.T g y Y) (h1:snap σ x=some d) (h2:snap σ y=some d') (h:eqN A6 d d'=some b):GM r.A s X Y b :=
 R3 A6 r.A (Nat.lt_of_succ_lt A.room) d d' X Y b (Ex A.has hx h1) (Ex A.has hy h2) h
theorem X1 (h1:snap σ x=some d) (h2:snap σ y=some d') (h:eqN A6 d d'=some b):Pr2 (compareOp .Eq) x y σ (vb b) σ:=FG fun r g s X Y A hx hy Q q=>(Un A hx hy h1 h2 h).rc _ _ _ Q q
theorem Xv (h1:snap σ x=some d) (h2:snap σ y=some d') (h:eqN A6 d d'=some b):Pr2 (compareOp .NotEq) x y σ (vb !b) σ:=FG fun r g s X Y A hx hy Q q=>(Un A hx hy h1 h2 h).ne _ _ _ Q q
noncomputable def E8 (h:Heap) (d:PyData) (v:Value):Bool:=@decide (∃ d',A5 h.get? d' v/\eqN A6 d' d=some true) (Classical.propDecidable _)
theorem AAI:type_of% @decide_eq_true:=@decide_eq_true
theorem AAT:type_of% @decide_eq_false:=@decide_eq_false
theorem Ob {h:Heap} {d d':PyData} {v:Value} {b:Bool} (r:A5 h.get? d' v) (e:eqN A6 d' d=some b):E8 h d v=b:=by
 unfold E8
 cases b with
 | true=>exact @AAI _ (Classical.propDecidable _) ⟨d',r,e⟩
 | false =>
  refine @AAT _ (Classical.propDecidable _) ?_
  intro q
  obtain ⟨d'',r',e'⟩:=q
  rw [A5.inj _ _ _ ((Es r).symm.trans (Es r')) r' r,e] at e'
  exact ff_ (AAA e')
noncomputable def inD (x:PyData):List PyData->Option Bool
 | []=>some false
 | y::r=>(eqN A6 y x).bind fun a=>(inD x r).bind fun b=>some (a||b)
theorem M5 {A:Around} {s:Shared} {Y:Value} (hu:A.units+A6 < cLine) (r:A5 s.heap.get? d Y):∀ {ds:List PyData} {xs:List Value} {b:Bool},Aw (A5 s.heap.get?) ds xs->inD d ds=some b ->
 (∀ x,x∈xs->EqAt A s x Y (E8 s.heap d x))/\b=xs.any (E8 s.heap d):=by
 intro ds
 induction ds with
 | nil=>intro xs b h e; rw [h.nil]; exact ⟨fun x h=>(nomatch h),(AAA e).symm⟩
 | cons z ds ih =>
  intro xs b h e
  obtain ⟨x,xs,rfl,h1,h2⟩:=h.cons
  obtain ⟨c,e1,e⟩:=Ab e
  obtain ⟨c',e2,e⟩:=Ab e
  obtain ⟨h3,h4⟩:=ih h2 e2
  have h5:=Ob h1 e1
  refine ⟨fun w hw=>(AAR.mp hw).elim (fun q=>?_) (h3 w),by rw [List.any_cons,h5,<-h4,AAA e]⟩
  rw [q,h5]; exact (R3 (s:=s) A6 A hu z d x Y c h1 r e1).eq
theorem QQ {ds:List PyData} (h1:snap σ x=some d) (h2:snap σ y=some (.list ds)\/snap σ y=some (.tuple ds)) (h:inD d ds=some b):Pr2 (compareOp .In) x y σ (vb b) σ/\Pr2 (compareOp .NotIn) x y σ (vb !b) σ:=by
 have key:∀ {op:CmpOp} {c:Bool},(∀ (r:Ar) (s:Shared) (X:Value) (a:Addr) (vs:Array Value),(s.heap.IsList a vs\/s.heap.IsTuple a vs)->(∀ z,z∈vs->EqAt r.A.in1 s z X (E8 s.heap d z))->b=vs.any (E8 s.heap d)->∀ Q:Value->Shared->Prop,Q (.bool c) s->wpAny (model r.T.prog r.T.w) r.A (compareOp op X (.ref a)) Q (fun _ _=>False) s)->Pr2 (compareOp op) x y σ (vb c) σ:=fun k =>
  FG fun r g s X Y A hx hy Q q=>by
   have hX:=Ex A.has hx h1
   have hu:r.A.in1.units+A6 < cLine:=A.room
   rcases h2 with h2 | h2
   ·exact Ex A.has hy h2 (fun Y=>wpAny _ r.A (compareOp _ X Y) Q _ s) fun a o vs n p1 p2 p3 p4 _=>by
     obtain ⟨q1,q2⟩:=M5 hu hX p4.all h
     exact k r s X a vs (.inl ⟨o,p1,p2,n,p3⟩) (fun z hz=>q1 z (Array.mem_toList_iff.mpr hz)) (q2.trans (by simp)) Q q
   ·exact Ex A.has hy h2 (fun Y=>wpAny _ r.A (compareOp _ X Y) Q _ s) fun a o vs n p1 p2 p3 p4 _=>by
     obtain ⟨q1,q2⟩:=M5 hu hX p4.all h
     exact k r s X a vs (.inr ⟨o,p1,p2,n,p3⟩) (fun z hz=>q1 z (Array.mem_toList_iff.mpr hz)) (q2.trans (by simp)) Q q
 exact ⟨key fun r s X a vs hL hz e Q q=>hL.elim (fun hL=>in_listAt (E8 s.heap d) hL hz (e▸q)) fun hL=>in_tupleAt (E8 s.heap d) hL hz (e▸q),
  key fun r s X a vs hL hz e Q q=>hL.elim (fun hL=>notIn_listAt (E8 s.heap d) hL hz (e▸q)) fun hL=>notIn_tupleAt (E8 s.heap d) hL hz (e▸q)⟩
end
end Mine
namespace Mine
open PySem PySem.Calls PySem.SeqAt
def B4 (r:Ar) (g:G) (σ':Aa) (ws:List V) (x:Value) (s':Shared):Prop :=
 ∀ R_:Value->Prop,(∀ (g':G) (a:Addr) (xs:Array Value) (m:Nat),G.le [] g g'->Has r.T g' σ' s'->Dl r.T g' a->s'.heap.get? a=some { cls:=.type "list",dict:=none,data:=.seq xs m,slots:=#[] } -> Au r.T g' ws xs.toList->ws.length<=line->R_ (.ref a))->R_ x
def SL (n:Nat) (e:E) (ρ:Ah) (σ:Aa) (ws:List V) (σ':Aa):Prop :=
 ∀ (c:Cx) (g:G) (s:Shared) (ex:Expr),IsE e c.K ex->Inv n c ρ g σ s->c.wp (eval ex c.env) (B4 c.toAr g σ' ws) s
def P2 (m:Value->Sem Value) (x:V) (σ:Aa) (ws:List V):Prop :=
 ∀ (r:Ar) (g:G) (s:Shared) (X:Value),At 0 r g σ s->As r.T g x X->r.wp (m X) (B4 r g σ ws) s
def VD (m:Value->Value->Sem Value) (x y:V) (σ:Aa) (ws:List V):Prop :=
 ∀ (r:Ar) (g:G) (s:Shared) (X Y:Value),At 0 r g σ s->As r.T g x X->As r.T g y Y->r.wp (m X Y) (B4 r g σ ws) s
section
variable {n:Nat} {r:Ar} {c:Cx} {ρ:Ah} {g g' g₁:G} {σ σ' σ₁ σ₂ σ3:Aa} {s s':Shared} {e a b:E} {x y v:V} {ws us:List V} {X:Value} {ds:List PyData}
theorem B4.frz (h:B4 r g σ' (ds.map .d) X s'):Ans r g (.d (.list ds)) σ' X s' :=
 h (fun X=>Ans r g (.d (.list ds)) σ' X s') fun g' a xs m le H F ho hr hl=>.mk (g'.put a _) (le.trans (.put F.fz)) (F.put H ho) fun R_ k=>k a _ xs m G.put_self rfl rfl (RepDs.mono (G.le.put (own:=[]) F.fz).fz _ _ (Au.toD hr)) (by rw [<-AAB (f:=V.d)]; exact hl)
theorem B4.trk (h:B4 r g σ' ws X s'):Ans r g (.ref σ'.length) (σ'++[.list ws]) X s' :=
 h (fun X=>Ans r g (.ref σ'.length) (σ'++[.list ws]) X s') fun g' a xs m le H F ho hr hl=>.mk (g'.add a) (le.trans .add) (F.add (ob:=.list ws) H ho fun R_ k=>k xs m (Au.mono (G.le.add (own:=[])).toup hr) hl) ⟨a,H.addAt,rfl⟩
theorem B4.after (le:G.le [] g g₁) (h:B4 r g₁ σ' ws X s'):B4 r g σ' ws X s':=fun R_ k=>h R_ fun g' a xs m l=>k g' a xs m (le.trans l)
theorem SE.frz (h:SL n e ρ σ (ds.map .d) σ'):SE n e ρ σ (.d (.list ds)) σ':=fun c g s ex hc I=>AAO (h c g s ex hc I) (fun _ _ p=>p.frz) fun _ _ h=>h
theorem SE.trk (h:SL n e ρ σ ws σ'):SE n e ρ σ (.ref σ'.length) (σ'++[.list ws]):=fun c g s ex hc I=>AAO (h c g s ex hc I) (fun _ _ p=>p.trk) fun _ _ h=>h
theorem B4.made {l:Addr} {xs:Array Value} {m:Nat} (H:Has r.T g σ s) (k:∀ b o,s.heap.get? b=some o->s'.heap.get? b=some o) (hn:s.heap.get? l=none) (ho:s'.heap.get? l=some { cls:=.type "list",dict:=none,data:=.seq xs m,slots:=#[] }) (hr:Au r.T g ws xs.toList) (hl:ws.length<=line)
 (hg:s'.gens=s.gens:=by rfl) (hos:s'.os=s.os:=by rfl):B4 r g σ ws (.ref l) s' :=
 fun R_ kk=>kk g l xs m (.refl _ _) (H.keep k hg hos) (H.free hn) ho hr hl
theorem B4.push {xs:Array Value} {m:Nat} (H:Has r.T g σ s) (hr:Au r.T g ws xs.toList) (hl:ws.length<=line):B4 r g σ ws (.ref s.heap.objs.size) { s with heap:=s.heap.push { cls:=.type "list",dict:=none,data:=.seq xs m,slots:=#[] } } :=
 .made H (fun b o e=>AAK _ e) (Bm _) (AA3 _ rfl) hr hl
theorem SL.lst (h:SEs n a ρ σ ws σ₁) (hl:ws.length<=line):SL n (.lst a) ρ σ ws σ₁:=fun c g s ex hc I=>hc (fun ex=>c.wp (eval ex c.env) (B4 c.toAr g σ₁ ws) s) fun vs p hc=>Bc (arm_eval_List ..) (AAD (AA7
 (B7 (h c g s vs p hc I) fun xs g₁ s₁ le a₁ r1=>wpAny_newList ((B4.push (r:=c.toAr) a₁ (by rw [List.toList_toArray]; exact r1) hl).after le) (by rw [<-r1.length,<-AR]; exact hl))))
theorem SL.bin {op:Operator} (ha:SE n a ρ σ x σ₁) (hb:SE n b ρ σ₁ y σ₂) (h:VD (binaryOp op) x y σ₂ ws):SL n (.bin op a b) ρ σ ws σ₂:=by
 refine fun c g s ex hc I=>hc (fun ex=>c.wp (eval ex c.env) (B4 c.toAr g σ₂ ws) s) fun l r p h1 h2=>?_
 exact Bc (arm_eval_BinOp ..) (Em ha hb h1 h2 I fun X Y g2 s2 le I2 r1 r2=>AAD (AA7 (wpAny_operating (AAO (h c.toAr g2 s2 X Y I2.at0 r1 r2) (fun _ _ p=>p.after le) fun _ _ h=>h))))
theorem Ib {h:Heap} {a:Addr} {xs:Array Value} (x:h.IsList a xs):∃ n dd sl,h.get? a=some { cls:=.type "list",dict:=dd,data:=.seq xs n,slots:=sl }:=by
 obtain ⟨⟨c,dd,data,sl⟩,ho,hc,n,hd⟩:=x
 simp only at hc hd
 subst hc hd
 exact ⟨n,dd,sl,ho⟩
theorem UL (h1:A2 σ x=some ws) (h2:A2 σ y=some us) (hl:ws.length+us.length<=line):VD (binaryOp .Add) x y σ (ws++us):=fun r g s X Y A hx hy =>
 AQ A.has hx h1 (R_:=fun X=>r.wp (binaryOp .Add X Y) (B4 r g σ (ws++us)) s) fun la ia ha1 ha2 ha3 _=>AQ A.has hy h2 (R_:=fun Y=>r.wp (binaryOp .Add (.ref la) Y) (B4 r g σ (ws++us)) s) fun lb ib hb1 hb2 hb3 _=>by
  obtain ⟨n1,d1,s1,o1⟩:=Ib ha1
  obtain ⟨n2,d2,s2,o2⟩:=Ib hb1
  refine concat_meets ⟨_,o1,rfl⟩ ⟨_,o2,rfl⟩ noFill_list_add seq_list_add PySem.F.slot_list_add PySem.F.entry_list_add (PySem.F.args_list_add_2 _ _) (PyProof.Rows.list_addW la lb ia ib n1 n2 d1 d2 s1 s2 (by rw [<-ha3,<-hb3,<-AR]; exact hl)) ⟨o1,o2,?_⟩
  exact .push A.has (by rw [Array.toList_append]; exact ha2.append hb2) (by rw [AAF]; exact hl)
theorem So {o:Obj} {xs:Array Value} {m:Nat} {l:Addr} (H:Has r.T g σ s) (F:Dl r.T g l) (ho:s.heap.get? l=some o) (hc:o.cls=.type "tuple") (hd:o.data=.seq xs m) (hr:Aw (A5 g.fz) ds xs.toList) (hl:ds.length<=line):Ans r g (.d (.tuple ds)) σ (.ref l) s :=
 .mk (g.put l o) (.put F.fz) (F.put H ho) fun R_ k=>k l o xs m G.put_self hc hd (.of (hr.mono fun _ _=>A5.mono (G.le.put (own:=[]) F.fz).fz _ _)) hl
theorem VV {xs:List Value} (h:Au r.T g (ds.map .d) xs):Aw (A5 g.fz) ds xs:=(Au.toD h).all
theorem SE.tup (h:SEs n a ρ σ (ds.map .d) σ₁) (hl:ds.length<=line):SE n (.tup a) ρ σ (.d (.tuple ds)) σ₁:=fun c g s ex hc I=>hc (fun ex=>c.wp (eval ex c.env) (Ans c.toAr g (.d (.tuple ds)) σ₁) s) fun vs k p hc=>Bc (arm_eval_Tuple ..) (AAD (AA7
 (B7 (h c g s vs p hc I) fun xs g₁ s₁ le a₁ r1=>wpAny_newTuple (BX.after le (So (r:=c.toAr) (a₁.keep fun b o e=>AAK _ e) (a₁.free (Bm _)) (AA3 _ rfl) rfl rfl (by rw [List.toList_toArray]; exact VV (r:=c.toAr) r1) hl)) (by rw [<-r1.length,<-AR,AAB]; exact hl))))
end
end Mine
namespace Mine
open PySem PySem.Calls PySem.SeqAt
def PrG (x y:V) (σ:Aa) (v:V):Prop :=
 ∀ (r:Ar) (g:G) (s:Shared) (X Y:Value),At 0 r g σ s->As r.T g x X->As r.T g y Y->∀ R_:Prop,(∀ Ty id,s.TypeIs X Ty->typeLookup (.type Ty) "__getitem__" = pure (some (.builtin id))->r.wp (getItem X Y) (Ans r g v σ) s->R_)->R_
noncomputable def L9 (c:Nat):Str:=⟨#[c]⟩
noncomputable def CJ {α:Type} (lo hi:Option Int) (xs:List α):List α :=
 (xs.drop (lo.elim 0 (clipAt xs.length))).take (hi.elim xs.length (clipAt xs.length)-lo.elim 0 (clipAt xs.length))
noncomputable def Jg (lo hi:Option Int) (x:Str):Str:=⟨(CJ lo hi x.cps.toList).toArray⟩
section
variable {n:Nat} {r:Ar} {c:Cx} {ρ:Ah} {g g' g₁:G} {σ σ' σ₁ σ₂ σ3:Aa} {s s':Shared} {e a b:E} {x y v:V} {ws us:List V} {X:Value} {ds:List PyData}
theorem PG (slice:Expr) (x i:Value):∃ ws,subscripted slice false x i=operate ws (getItem x i):=by
 cases slice with
 | Slice _ _ c _=>cases c <;> exact ⟨_,rfl⟩
 | _=>exact ⟨_,rfl⟩
theorem KA {value slice:Expr} {x i:Value} {Ty id:String} {Q:Value->Shared->Prop} (hT:s.TypeIs x Ty) (hl:typeLookup (.type Ty) "__getitem__" = pure (some (.builtin id)))
 (h:r.wp (getItem x i) Q s):r.wp (getitemInPython x>>=fun p=>subscripted slice p x i>>=fun v=>letTemporaryGo value x v>>=fun _=>pure v) Q s:=by
 rw [getitemInPython_of_ne hT.not_modules]
 refine AAD (AAD (wpAny_specialOf hT hl (AAY (AAD ?_))))
 obtain ⟨ws,hs⟩:=PG slice x i
 exact Bc hs (wpAny_operating (AAO h (fun v s3 h₃=>AAD (wpAny_letTemporaryGo (AAY h₃))) fun _ _ y=>y))
theorem SE.sub (ha:SE n a ρ σ x σ₁) (hb:SE n b ρ σ₁ y σ₂) (h:PrG x y σ₂ v):SE n (.sub a b) ρ σ v σ₂:=by
 refine fun c g s ex hc I=>hc (fun ex=>c.wp (eval ex c.env) (Ans c.toAr g v σ₂) s) fun l r p h1 h2=>?_
 exact Bc (arm_eval_Subscript ..) (Em ha hb h1 h2 I fun X Y g2 s2 le I2 r1 r2=>AAD (AA7 (h c.toAr g2 s2 X Y I2.at0 r1 r2 _ fun Ty id hT hl w=>KA (r:=c.toAr) hT hl (B0 le w))))
theorem Ey {i:Int} (h:small i=true):-(2 ^ 63)<=i/\i < 2 ^ 63:=by
 have h:=AAH.mp h
 exact ⟨Int.le_of_lt (AAG h.1),AAG h.2⟩
theorem Hh {k:Int} {n j:Nat} (h:seqIndex? k n=some j) (h0:0<=k):k.toNat=j:=by
 unfold seqIndex? at h
 rw [if_neg (Int.not_lt.mpr h0)] at h
 exact (Ba h).2
theorem F8 {k:Int} {n j:Nat} (h:seqIndex? k n=some j) (h0:k < 0):(k+n).toNat=j/\-(n:Int)<=k:=by
 unfold seqIndex? at h
 rw [if_pos h0] at h
 have h:=Ba h
 have q:=AAG (AAH.mp h.1).1
 exact ⟨h.2,by lia⟩
variable {k:Int} {j:Nat}
theorem Vu (h:A2 σ x=some ws) (hk:small k=true) (hj:seqIndex? k ws.length=some j) (hv:ws[j]? = some v):PrG x (vi k) σ v:=fun r g s X Y A hx hy=>by
 obtain ⟨t,rfl⟩:=hy
 refine AQ A.has hx h (R_:=fun X=>∀ R_:Prop,(∀ Ty id,s.TypeIs X Ty->typeLookup (.type Ty) "__getitem__" = pure (some (.builtin id))->r.wp (getItem X (.int k t)) (Ans r g v σ) s->R_)->R_) fun l xs hL hr hl _ R_ kk=>?_
 obtain ⟨w,hw,rw'⟩:=hr.get hv
 have hw:xs[j]? = some w:=ABJ.symm.trans hw
 obtain ⟨o,ho,hc,_⟩:=id hL
 refine kk "list" _ ⟨o,ho,hc⟩ slot_list_getitem.lookup ?_
 by_cases h0:0<=k
 ·exact wpAny_getItem_list hL h0 (Ey hk).2 (by rw [Hh hj h0]; exact hw) (.refl A.has rw')
 ·obtain ⟨q1,q2⟩:=F8 hj (Int.not_le.mp h0)
  exact wpAny_getItem_list_neg hL (Int.not_le.mp h0) (hl▸q2) (Ey hk).1 (by rw [<-hl,q1]; exact hw) (.refl A.has rw')
theorem W6 (h:BY x=some ws) (hk:small k=true) (hj:seqIndex? k ws.length=some j) (hv:ws[j]? = some v):PrG x (vi k) σ v:=fun r g s X Y A hx hy=>by
 obtain ⟨t,rfl⟩:=hy
 refine C6 A.has hx h (R_:=fun X=>∀ R_:Prop,(∀ Ty id,s.TypeIs X Ty->typeLookup (.type Ty) "__getitem__" = pure (some (.builtin id))->r.wp (getItem X (.int k t)) (Ans r g v σ) s->R_)->R_) fun l xs hL hr hl _ R_ kk=>?_
 obtain ⟨w,hw,rw'⟩:=hr.get hv
 have hw:xs[j]? = some w:=ABJ.symm.trans hw
 obtain ⟨o,ho,hc,_⟩:=id hL
 exact kk "tuple" _ ⟨o,ho,hc⟩ F.slot_tuple_getitem.lookup (PyProof.Rows.getItem_tuple hL (Ey hk).1 (Ey hk).2 (by rw [<-hl]; exact hj) hw (.refl A.has rw'))
theorem L8 (c:Nat):(L9 c).length<=line:=by show 1<=line; exact Nat.succ_pos _
theorem W7 {z:Str} {ch:Nat} (hk:small k=true) (hc:Txt.charAt z k=some ch):PrG (.d (.str z)) (vi k) σ (.d (.str (L9 ch))):=fun r g s X Y A hx hy R_ kk=>by
 obtain ⟨t,rfl,_⟩:=hx
 obtain ⟨u,rfl⟩:=hy
 refine kk "str" _ (typeIs_str _ _ _) F.slot_str_getitem.lookup (SB.getItem ?_ (by rw [hc]; rfl) (.refl A.has.tok ⟨s.toks,?_,L8 ch⟩))
 ·unfold fitsSsize; simp; have:=Ey hk; lia
 ·unfold Txt.item; rw [hc]; rfl
def SO (n:Nat) (e:E) (ρ:Ah) (σ:Aa) (l:Option Int) (σ':Aa):Prop :=
 ∀ (c:Cx) (g:G) (s:Shared) (x:Option Expr),(if B9 e then Ky else Kw (IsE e c.K)) x->Inv n c ρ g σ s->c.wp (valueOrNone (evalOpt x c.env)) (fun X s'=>BX c.T [] g σ' (fun _=>∃ p:Option (Int×Tok),X=partValue p/\p.map (·.1)=l) s') s
theorem SO.none:SO n .nil ρ σ none σ:=fun c g s x hc I=>by
 obtain rfl:x=Option.none:=hc
 exact AAY (.refl I.has ⟨Option.none,rfl,rfl⟩)
theorem SO.some {i:Int} (h0:B9 e=false) (h:SE n e ρ σ (vi i) σ'):SO n e ρ σ (some i) σ':=fun c g s x hc I=>by
 rw [h0] at hc
 refine hc (fun x=>c.wp (valueOrNone (evalOpt x c.env)) (fun X s'=>BX c.T [] g σ' (fun _=>∃ p:Option (Int×Tok),X=partValue p/\p.map (·.1)=Option.some i) s') s) fun ex hc=>?_
 exact AAO (h c g s ex hc I) (fun X s' p=>p _ fun g' le H r=>.mk g' le H (r.elim fun t r=>⟨Option.some (i,t),r,rfl⟩)) fun _ _ h=>h
def PrC (x:V) (σ:Aa) (lo hi:Option Int) (Q:Ar->G->Value->Shared->Prop):Prop :=
 ∀ (r:Ar) (g:G) (s:Shared) (X:Value) (sl:Addr) (q1 q2:Option (Int×Tok)),At 0 r g σ s->As r.T g x X->s.heap.IsSliceOf sl (partValue q1) (partValue q2) .none->q1.map (·.1)=lo->q2.map (·.1)=hi ->
  ∀ R_:Prop,(∀ Ty id,s.TypeIs X Ty->typeLookup (.type Ty) "__getitem__" = pure (some (.builtin id))->r.wp (getItem X (.ref sl)) (Q r g) s->R_)->R_
theorem KF {lo hi:E} {l h:Option Int} {Q:Ar->G->Value->Shared->Prop} (up:∀ {r:Ar} {g g₁:G} {X:Value} {s':Shared},G.le [] g g₁->Q r g₁ X s'->Q r g X s') (ha:SE n a ρ σ x σ₁) (hl:SO n lo ρ σ₁ l σ₂) (hh:SO n hi ρ σ₂ h σ3) (hx:PrC x σ3 l h Q) {ex:Expr} (hc:IsE (.slc a lo hi) c.K ex) (I:Inv n c ρ g σ s):c.wp (eval ex c.env) (Q c.toAr g) s:=by
 refine hc (fun ex=>c.wp (eval ex c.env) (Q c.toAr g) s) fun v l u p p' h1 h2 h3=>?_
 rw [arm_eval_Subscript,arm_eval_Slice]
 refine B1 ha h1 I fun X g₁ s₁ le1 I1 r1=>AAD (AA8 (B7 (r:=c.toAr) (hl c g₁ s₁ l h2 I1) fun lv g2 s2 le2 a₂ r2=>?_))
 have I2:=I1.step le2 a₂
 refine B7 (r:=c.toAr) (AA8 (hh c g2 s2 u h3 I2)) fun uv g3 s3 le3 a3 r3=>AAD (AA8 (AAY (wpAny_newObj_type (AAD (AA7 ?_)))))
 obtain ⟨q1,rfl,e1⟩:=r2
 obtain ⟨q2,rfl,e2⟩:=r3
 have I3:=I2.step le3 a3
 have I4:=I3.step (.refl _ _) (a3.keep (s':={ s3 with heap:=s3.heap.push { cls:=.type "slice",data:=.fields #[partValue q1,partValue q2,.none] } }) fun b o e=>AAK _ e)
 refine hx c.toAr g3 _ X _ q1 q2 I4.at0 (As.mono (le2.trans le3).toup _ _ r1) (Heap.IsSliceOf.new s3.heap _ _ .none) e1 e2 _ fun Ty id hT hk w=>KA (r:=c.toAr) hT hk (AAO w (fun _ _ p=>up (le1.trans (le2.trans le3)) p) fun _ _ h=>h)
theorem SL.slc {lo hi:E} {l h:Option Int} (ha:SE n a ρ σ x σ₁) (hl:SO n lo ρ σ₁ l σ₂) (hh:SO n hi ρ σ₂ h σ3) (hx:PrC x σ3 l h fun r g=>B4 r g σ3 ws):SL n (.slc a lo hi) ρ σ ws σ3:=fun c g s ex hc I=>KF (Q:=fun r g=>B4 r g σ3 ws) (fun le p=>p.after le) ha hl hh hx hc I
theorem SE.slc {lo hi:E} {l h:Option Int} (ha:SE n a ρ σ x σ₁) (hl:SO n lo ρ σ₁ l σ₂) (hh:SO n hi ρ σ₂ h σ3) (hx:PrC x σ3 l h fun r g=>Ans r g v σ3):SE n (.slc a lo hi) ρ σ v σ3:=fun c g s ex hc I=>KF (Q:=fun r g=>Ans r g v σ3) (fun le p=>BX.after le p) ha hl hh hx hc I
theorem Nz {q:Option (Int×Tok)} {l:Option Int} (h:q.map (·.1)=l):IsPart (partValue q) l:=by
 cases q with
 | none=>exact h▸.none
 | some p=>exact h▸.int _ _
theorem V6 {lo hi:Option Int} (h:A2 σ x=some ws):PrC x σ lo hi fun r g=>B4 r g σ (CJ lo hi ws):=fun r g s X sl q1 q2 A hx hs e1 e2 =>
 AQ A.has hx h (R_:=fun X=>∀ R_:Prop,(∀ Ty id,s.TypeIs X Ty->typeLookup (.type Ty) "__getitem__" = pure (some (.builtin id))->r.wp (getItem X (.ref sl)) (B4 r g σ (CJ lo hi ws)) s->R_)->R_) fun l xs hL hr hl hsz R_ kk=>by
  obtain ⟨o,ho,hc,_⟩:=id hL
  refine kk "list" _ ⟨o,ho,hc⟩ slot_list_getitem.lookup (wpAny_getItem_list_slice hL hs (Nz e1) (Nz e2) .none (by simp) (.push A.has ?_ ?_) (AR▸hsz))
  ·rw [slicePick_plain]
   unfold CJ
   rw [hl]
   exact (hr.drop _).take _
  ·exact AAC ((List.take_sublist _ _).trans (List.drop_sublist _ _)).length_le (hl▸hsz)
end
end Mine
namespace Mine
open PySem PySem.Calls PySem.SeqAt
section
variable {n:Nat} {r:Ar} {c:Cx} {ρ:Ah} {g g' g₁:G} {σ σ' σ₁ σ₂ σ3:Aa} {s s':Shared} {e a b:E} {x y v:V} {ws us:List V} {X:Value} {ds:List PyData}
theorem Pp (n:Nat) (i:Int):clipAt n i<=n:=Int.toNat_le.mpr (Int.max_le.mpr ⟨AB6 n,Int.min_le_right _ _⟩)
theorem KC (lo hi:Option Int) (x:Str):Txt.slice x lo hi=Jg lo hi x:=by
 have e:Builtin.Str.strSliceIndices lo hi 1 x.length=sliceRange (sliceBounds lo hi none x.length).1 (sliceBounds lo hi none x.length).2.1 1:=by
  unfold Builtin.Str.strSliceIndices
  cases lo <;> cases hi <;> simp [sliceBounds]
 have e2:(Builtin.Str.strSliceIndices lo hi 1 x.length).filterMap (x.cps[·]?)=CJ lo hi x.cps.toList:=by
  rw [e,sliceBounds_plain]
  simp only [sliceRange_one,pick_run]
  unfold CJ
  simp [Str.length]
 unfold Txt.slice Jg
 split
 ·rename_i q
  have q2:=ABM (AAH.mp q).2
  have l1:(CJ lo hi x.cps.toList).length=x.length:=by
   have hb:hi.elim x.length (clipAt x.length)<=x.length:=by
    cases hi with
    | none=>exact AAL _
    | some i=>exact Pp _ _
   rw [e,sliceBounds_plain] at q2
   simp only [sliceRange_one,AAB,ABV] at q2
   unfold CJ
   have hx:x.cps.toList.length=x.length:=ABA
   rw [hx,List.length_take,List.length_drop,hx,q2]
   exact Nat.min_eq_left (AAC (Nat.le_of_eq q2.symm) (Nat.sub_le_sub_right hb _))
  have l2:CJ lo hi x.cps.toList=x.cps.toList:=((List.take_sublist _ _).trans (List.drop_sublist _ _)).eq_of_length (l1.trans ABA.symm)
  rw [l2]
 ·rw [e2]
theorem Lz (lo hi:Option Int) (x:Str):(Jg lo hi x).length<=x.length:=by
 show ((CJ lo hi x.cps.toList).toArray).size<=x.cps.size
 rw [List.size_toArray,<-ABA]
 exact ((List.take_sublist _ _).trans (List.drop_sublist _ _)).length_le
theorem WI {lo hi:Option Int} {z:Str}:PrC (.d (.str z)) σ lo hi fun r g=>Ans r g (.d (.str (Jg lo hi z))) σ:=fun r g s X sl q1 q2 A hx hs e1 e2 R_ kk=>by
 obtain ⟨t,rfl,hl⟩:=hx
 refine kk "str" _ (typeIs_str _ _ _) F.slot_str_getitem.lookup (wpAny_getItem_str_slice (l:=q1) (u:=q2) (st:=none) hs rfl ?_)
 have e:(if (((none:Option (Int×Tok)).map (·.1)).getD 1 == 1&&(slicePicked z q1 q2 none).length == z.length)=true then z else ⟨((slicePicked z q1 q2 none).filterMap (z.cps[·]?)).toArray⟩)=Jg (q1.map (·.1)) (q2.map (·.1)) z:=KC _ _ _
 unfold sliceMade
 refine post_val_or_str ?_
 rw [e,e1,e2]
 exact ⟨AAC (Lz _ _ _) (AR▸hl),fun t' k=>.refl A.has.tok ⟨t',rfl,AAC (Lz _ _ _) hl⟩⟩
theorem BW {es:E} {K:Kx} {xs:List Expr} (pos:Pos) (env:Env) (h:EU es K xs):(backTo pos (starEach xs env)).any (·.1)=false:=by
 induction es generalizing xs with
 | nil=>rw [show xs=[] from h]; rfl
 | cons e es _ ih=>exact h (fun xs=>(backTo pos (starEach xs env)).any (·.1)=false) fun x l h1 h3=>by rw [(BK e h1).star]; exact ih h3
 | _=>exact h.elim
theorem C9 {es:E} {K:Kx} {xs:List Expr} {pos:Pos} {env:Env} {f:Value} {Q:Args->Shared->Prop} (hc:EU es K xs) (h:r.wp (spliced (backTo pos (starEach xs env))) (fun vs s'=>Q ⟨vs,[]⟩ s') s):r.wp (evalArgs f true (backTo pos (starEach xs env)) []) Q s:=by
 cases es with
 | nil =>
  obtain rfl:xs=[]:=hc
  have e2:evalArgs f true (backTo pos (starEach [] env)) []=pure ⟨[],[]⟩:=by first | rfl | (unfold evalArgs; rfl)
  exact Bc e2 fun Γ p hΓ=>h Γ p hΓ
 | cons e es=>exact hc (fun xs=>r.wp (spliced (backTo pos (starEach xs env))) (fun vs s'=>Q ⟨vs,[]⟩ s') s->r.wp (evalArgs f true (backTo pos (starEach xs env)) []) Q s) (fun x l h1 h3 h=>by rw [(BK e h1).star] at h ⊢; exact evalArgs_plain h) h
 | _=>exact hc.elim
theorem LG (b:Bi) {P:Value->Prop} (h1:∀ id,P (.builtin id)) (h2:∀ t,P (.type t)):P (Bd b):=by cases b <;> first | exact h1 _ | exact h2 _
theorem RM {T:Top} {b:Bi} {x:Value} (h:VM T (V7 b) x):x=Bd b:=by cases b <;> exact h
theorem Om {b:Bi} {Q:Ar->G->Value->Shared->Prop} (up:∀ {r:Ar} {g g₁:G} {X:Value} {s':Shared},G.le [] g g₁->Q r g₁ X s'->Q r g X s') (h:SEs n a ρ σ ws σ₁) (hx:∀ (r:Ar) (g:G) (s:Shared) (Xs:List Value),At 0 r g σ₁ s->Au r.T g ws Xs->r.wp (call (Bd b) Xs) (Q r g) s) {ex:Expr} (hc:IsE (.bi b a) c.K ex) (I:Inv n c ρ g σ s):c.wp (eval ex c.env) (Q c.toAr g) s:=by
 refine hc (fun ex=>c.wp (eval ex c.env) (Q c.toAr g) s) fun nm np vs p h1 h2=>?_
 refine PyProof.Rows.Call_Name rfl (Cn I h1 fun x hv=>?_)
 obtain rfl:=RM hv
 have k:c.wp (evalArgs (Bd b) true (backTo p (starEach vs c.env)) []) (fun a s₁=>wpAny (model c.T.prog c.T.w) c.A (call (Bd b) a.pos a.kw) (Q c.toAr g) (fun _ _=>False) s₁) s :=
  C9 (r:=c.toAr) h2 (AAO (h c g s vs p h2 I) (fun Xs s₁ p=>p _ fun g₁ le a₁ r1=>AAO (hx c.toAr g₁ s₁ Xs (I.step le a₁).at0 r1) (fun _ _ p=>up le p) fun _ _ h=>h) fun _ _ h=>h)
 exact LG b (P:=fun f=>c.wp (evalArgs f true (backTo p (starEach vs c.env)) []) (fun a s₁=>wpAny (model c.T.prog c.T.w) c.A (call f a.pos a.kw) (Q c.toAr g) (fun _ _=>False) s₁) s->c.wp (callWith p f [] (backTo p (starEach vs c.env)) []) (Q c.toAr g) s)
  (fun id k=>callWith_builtin (BW _ _ h2) k) (fun t k=>PyProof.Rows.callWith_type (BW _ _ h2) k) k
theorem SE.bi {b:Bi} (h:SEs n a ρ σ ws σ₁) (hx:PrL (fun Xs=>call (Bd b) Xs) ws σ₁ v σ₂):SE n (.bi b a) ρ σ v σ₂:=fun c g s ex hc I=>Om (Q:=fun r g=>Ans r g v σ₂) (fun le p=>BX.after le p) h hx hc I
theorem SL.bi {b:Bi} (h:SEs n a ρ σ ws σ₁) (hx:∀ (r:Ar) (g:G) (s:Shared) (Xs:List Value),At 0 r g σ₁ s->Au r.T g ws Xs->r.wp (call (Bd b) Xs) (B4 r g σ₁ us) s):SL n (.bi b a) ρ σ us σ₁:=fun c g s ex hc I=>Om (Q:=fun r g=>B4 r g σ₁ us) (fun le p=>p.after le) h hx hc I
theorem SE.bi1 {b:Bi} (h:SEs n a ρ σ [x] σ₁) (hx:Pr1 (fun X=>call (Bd b) [X]) x σ₁ v σ₂):SE n (.bi b a) ρ σ v σ₂:=SE.bi h fun r g s Xs A R=>by
 obtain ⟨X,rfl,rx⟩:=R.one
 exact hx r g s X A rx
theorem SE.bi2 {f:Bi} (h:SEs n a ρ σ [x,y] σ₂) (hx:Pr2 (fun X Y=>call (Bd f) [X,Y]) x y σ₂ v σ3):SE n (.bi f a) ρ σ v σ3:=SE.bi h fun r g s Xs A R=>by
 obtain ⟨X,Y,rfl,rx,ry⟩:=R.two
 exact hx r g s X Y A rx ry
theorem SL.bi1 {b:Bi} (h:SEs n a ρ σ [x] σ₁) (hx:P2 (fun X=>call (Bd b) [X]) x σ₁ ws):SL n (.bi b a) ρ σ ws σ₁:=SL.bi h fun r g s Xs A R=>by
 obtain ⟨X,rfl,rx⟩:=R.one
 exact hx r g s X A rx
end
end Mine
namespace Mine
open PySem PySem.Calls PySem.SeqAt
noncomputable def Nl (n:Int):Str:=Str.ofString (toString n)
noncomputable def Bh (a b:Str):Bool:=decide (a.cps.toList < b.cps.toList)
theorem KX {a b c:Str} (h:Bh a b=true) (h':Bh b c=true):Bh a c=true:=AAI (List.lt_trans (AAG h) (AAG h'))
theorem ABG:type_of% @of_decide_eq_false:=@of_decide_eq_false
theorem GP {a b:Str} (h:Bh a b=false) (h':Bh b a=false):a=b:=by
 have:a.cps.toList=b.cps.toList:=List.le_antisymm (List.not_lt.mp (ABG h')) (List.not_lt.mp (ABG h))
 cases a; cases b; exact congrArg _ (Array.toList_inj.mp this)
theorem Lb {a b c:Str} (h:Bh b a=false) (h':Bh c b=false):Bh c a=false:=by
 cases e:Bh c a with
 | false=>rfl
 | true=>cases e':Bh a b with
  | true=>exact tt_ ((KX e e').symm.trans h')
  | false=>rw [GP e' h] at e; exact tt_ (e.symm.trans h')
def D6 (l:List Str):Prop:=l.Pairwise fun a b=>Bh b a=false
theorem EY {l:List Str}:∀ {l':List Str},D6 l->D6 l'->l.Perm l'->l=l':=by
 induction l with
 | nil=>exact fun _ _ p=>(List.nil_perm.mp p).symm
 | cons x r ih =>
  intro l' h h' p
  cases l' with
  | nil=>exact absurd (List.perm_nil.mp p) (List.cons_ne_nil _ _)
  | cons y r' =>
   obtain ⟨h1,h2⟩:=List.pairwise_cons.mp h
   obtain ⟨h1',h2'⟩:=List.pairwise_cons.mp h'
   have e:x=y:=(AAR.mp (p.mem_iff.mpr (List.mem_cons_self ..))).elim (fun q=>q.symm) fun q=>(AAR.mp (p.mem_iff.mp (List.mem_cons_self ..))).elim id fun q'=>GP (h1' x q') (h1 y q)
   subst e
   rw [ih h2 h2' (List.Perm.cons_inv p)]
theorem F9 (l:List Str):∀ (p:Str),PyProof.Rows.risingS p l=true->D6 (p::l):=by
 induction l with
 | nil=>exact fun p _=>List.pairwise_singleton ..
 | cons x r ih =>
  intro p h
  have h:=AAH.mp h
  have h0:Bh x p=false:=by have:=h.1; rw [Bool.not_eq_true',PyProof.Rows.ltCps_eq] at this; exact this
  have h2:=ih x h.2
  exact List.pairwise_cons.mpr ⟨fun z hz=>(AAR.mp hz).elim (fun q=>q▸h0) fun hz=>Lb h0 ((List.pairwise_cons.mp h2).1 z hz),h2⟩
theorem Dt {l:List Str} (h:PyProof.Rows.sortedS l=true):D6 l:=by
 cases l with
 | nil=>exact List.Pairwise.nil
 | cons x r=>exact F9 r x h
section
variable {σ:Aa} {x y v:V} {i j:Int} {ws:List V} {t:String} {T:Top} {g:G}
noncomputable abbrev vss (ss:List Str):List V:=ss.map fun y=>.d (.str y)
theorem HC {ss:List Str}:∀ {xs:List Value},Au T g (vss ss) xs->PyProof.Rows.StrsAre xs ss/\∀ y∈ss,y.length<=line:=by
 induction ss with
 | nil=>intro xs h; rw [h.nil]; exact ⟨.nil,fun _ h=>(nomatch h)⟩
 | cons s ss ih =>
  intro xs h
  obtain ⟨x,xs,rfl,⟨t,rfl,hl⟩,h2⟩:=h.cons
  exact ⟨.cons s t (ih h2).1,fun z hz=>(AAR.mp hz).elim (fun q=>q▸hl) ((ih h2).2 z)⟩
theorem KL {xs:List Value} {ss:List Str} (h:PyProof.Rows.StrsAre xs ss) (hl:∀ y∈ss,y.length<=line):Au T g (vss ss) xs:=by
 induction h with
 | nil=>exact trivial
 | cons y t h ih=>exact ⟨⟨t,rfl,hl y (List.mem_cons_self ..)⟩,ih fun z hz=>hl z (List.mem_cons_of_mem _ hz)⟩
theorem Rs {ss ss':List Str} (h:A2 σ x=some (vss ss)) (hl:ss.length < 64) (hp:ss'.Perm ss) (hs:D6 ss'):P2 (fun X=>call (Bd .sorted) [X]) x σ (vss ss'):=fun r g s X A hx =>
 AQ A.has hx h (R_:=fun X=>r.wp (call (.builtin "sorted") [X]) (B4 r g σ (vss ss')) s) fun a ys hL hr hn _=>by
  obtain ⟨h1,h2⟩:=HC hr
  have hlen:ys.toList.length < 64:=by rw [<-hr.length,AAB]; exact hl
  refine PyProof.Rows.sorted_strs (vs:=ys.toList) hL h1 hlen fun out out' a1 a2 a3=>?_
  obtain rfl:out'=ss':=EY (Dt a3) hs (a2.trans hp.symm)
  obtain ⟨k,hk⟩:=PyProof.Rows.sortedAll_at s.heap ys.toList out
  exact .made A.has (fun b o e=>PyProof.Rows.sortedAll_old e) (ABO (Nat.le_succ _)) hk (KL a1 fun z hz=>h2 z (a2.mem_iff.mp hz)) (by rw [AAB,hp.length_eq]; exact AAC (Nat.le_of_lt hl) (by decide))
theorem WD (h:A2 σ x=some ws):Pr1 (fun X=>call (Bd .len) [X]) x σ (vi ws.length) σ:=fun r g s X A hx =>
 AQ A.has hx h (R_:=fun X=>r.wp (call (.builtin "len") [X]) (Ans r g (vi ws.length) σ) s) fun a ys hL hr hn hs=>PyProof.Rows.len_list hL (Int.ofNat_lt.mpr (E4 hs)) (.refl A.has.tok ⟨_,by rw [hn]⟩)
theorem Vx (h:BY x=some ws):Pr1 (fun X=>call (Bd .len) [X]) x σ (vi ws.length) σ:=fun r g s X A hx =>
 C6 A.has hx h (R_:=fun X=>r.wp (call (.builtin "len") [X]) (Ans r g (vi ws.length) σ) s) fun a ys hL hr hn hs=>PyProof.Rows.len_tuple hL (Int.ofNat_lt.mpr (E4 hs)) (.refl A.has.tok ⟨_,by rw [hn]⟩)
theorem Vy {z:Str}:Pr1 (fun X=>call (Bd .len) [X]) (.d (.str z)) σ (vi z.cps.size) σ:=fun r g s X A hx=>by
 obtain ⟨t,rfl,hl⟩:=hx
 exact P.len_str (Int.not_le.mpr (Int.ofNat_lt.mpr (E4 hl))) (.refl A.has.tok ⟨_,rfl⟩)
theorem WA (hi:i.natAbs < 1000000000000):Pr1 (fun X=>call (Bd .str) [X]) (vi i) σ (.d (.str (Nl i))) σ:=fun r g s X A hx=>by
 obtain ⟨t,rfl⟩:=hx
 refine P.str_of_int ?_ (.refl A.has.tok ⟨_,rfl,?_⟩)
 ·by_cases h0:i.natAbs=0
  ·rw [h0]; decide
  ·exact ABT ((Nat.log2_lt (k:=40) h0).mpr (ABT hi (by decide))) (by decide)
 ·show (Str.ofString (toString i)).length<=line
  rw [ofString_length]
  exact AAC (int_text_length_le10 (a:=i) (k:=12) (by decide) hi) (by decide)
theorem WC:Pr2 (fun X Y=>call (Bd .min) [X,Y]) (vi i) (vi j) σ (vi (if j < i then j else i)) σ:=fun r g s X Y A hx hy=>by
 obtain ⟨t,rfl⟩:=hx
 obtain ⟨u,rfl⟩:=hy
 refine min_two_ints A.hh.1 fun h' tk hk=>.refl (A.has.keep hk) ?_
 by_cases q:j < i
 ·rw [if_pos q,if_pos q]; exact ⟨u,rfl⟩
 ·rw [if_neg q,if_neg q]; exact ⟨t,rfl⟩
theorem Rt (h:A2 σ x=some ws):P2 (fun X=>call (Bd .list) [X]) x σ ws:=fun r g s X A hx =>
 AQ A.has hx h (R_:=fun X=>r.wp (call (.type "list") [X]) (B4 r g σ ws) s) fun a ys hL hr hn hs=>by
  obtain ⟨o,ho,hc,m,hd⟩:=hL
  exact PySem.call_list_seq (hsz:=AR▸hs) a (.inl rfl) ho hc hd fun h' c' hk hD=>.made A.has hk (Bm _) hD hr (hn▸hs)
theorem WB {ch:Nat}:Pr1 (fun X=>call (Bd .ord) [X]) (.d (.str (L9 ch))) σ (vi ch) σ:=fun r g s X A hx=>by
 obtain ⟨t,rfl,_⟩:=hx
 exact P.ord_of_char (.refl A.has.tok ⟨_,rfl⟩)
noncomputable abbrev vbs (bs:List Bool):List V:=bs.map fun b=>.d (.bool b)
theorem Pq {bs:List Bool}:∀ {xs:List Value},Au T g (vbs bs) xs->xs=bs.map Value.bool:=by
 induction bs with
 | nil=>exact fun h=>h.nil
 | cons b bs ih =>
  intro xs h
  obtain ⟨x,xs,rfl,h1,h2⟩:=h.cons
  rw [ih h2,show x=.bool b from h1]; rfl
theorem KN (bs:List Bool):(List.range bs.length).map (fun i=>bs[i]?.getD false)=bs:=by
 induction bs with
 | nil=>rfl
 | cons b bs ih=>rw [AA2,List.range_succ_eq_map,ABP,AAE]; exact congrArg (b :: ·) ih
theorem IJ {r:Ar} {s:Shared} {X:Value} {bs:List Bool} {Q:Value->Shared->Prop} {f:List Nat->(Nat->Bool)->Bool} {q:Bool} (A:At 0 r g σ s) (h:A2 σ x=some (vbs bs)) (hx:As r.T g x X) (hq:f (List.range bs.length) (fun i=>bs[i]?.getD false)=q) (k:∀ s',Has r.T g σ s'->Q (.bool q) s') :
 wpAny (model r.T.prog r.T.w) r.A.in1 (pyIter X) (fun it s2=>∃ I fp wr n P St tr,it=.ref I/\Walks r.T.prog r.T.w r.A.in1 I fp wr n P St/\St 0 s2.heap/\TruthOf r.T.prog r.T.w r.A.in1 P tr ∧
  ∀ h' tk,(∀ b o,b∉wr->s2.heap.get? b=some o->h'.get? b=some o)->Q (.bool (f (List.range n) tr)) { s2 with heap:=h',toks:=tk }) (fun _ _=>False) s:=by
 refine (AQ A.has hx h (R_:=fun X=>wpAny (model r.T.prog r.T.w) r.A.in1 (pyIter X) _ (fun _ _=>False) s) fun a ys hL hr hn hs=>wpAny_pyIter_list hL ?_)
 have hb:=Pq hr
 have hsz:ys.size=bs.length:=by rw [<-hn,AAB]
 obtain ⟨ol,hol,hcl,nl,hdl⟩:=id hL
 refine ⟨_,_,_,_,_,_,fun i=>bs[i]?.getD false,rfl,Walks.list (A:=r.A.in1) (show r.A.in1.handled=none from A.hh.1) s.heap.objs.size a (Nat.ne_of_lt (Heap.lt_size hol)) ys,⟨⟨_,AA3 _ rfl,rfl,rfl⟩,⟨ol,AAK _ hol,hcl,nl,hdl⟩⟩,?_,fun h' tk hk=>?_⟩
 ·intro i w s' Q E hw hq
  have hw:ys.toList[i]? = some w:=ABJ.trans hw
  have hq:Q (bs[i]?.getD false) s':=hq
  rw [hb,ABI] at hw
  cases ebi:bs[i]? with
  | none=>rw [ebi] at hw; exact Ac hw
  | some c =>
   rw [ebi] at hw hq
   rw [<-AAA hw]
   exact wpAny_truthy_bool hq
 ·rw [hsz,hq]
  exact k _ (A.has.keep fun b o e=>hk b o (fun q=>by rw [AAJ.mp q,Bm] at e; exact Ac e) (AAK _ e))
theorem WF {bs:List Bool} (h:A2 σ x=some (vbs bs)):Pr1 (fun X=>call (Bd .all) [X]) x σ (vb (bs.all id)) σ:=fun r g s X A hx =>
 call_all_walk (IJ (f:=fun l t=>l.all t) A h hx (List.all_map.symm.trans (congrArg (List.all · id) (KN bs))) fun s' H=>.refl H rfl)
theorem WE {bs:List Bool} (h:A2 σ x=some (vbs bs)):Pr1 (fun X=>call (Bd .any) [X]) x σ (vb (bs.any id)) σ:=fun r g s X A hx =>
 call_any_walk (IJ (f:=fun l t=>l.any t) A h hx (List.any_map.symm.trans (congrArg (List.any · id) (KN bs))) fun s' H=>.refl H rfl)
end
end Mine
namespace Mine
open PySem PySem.Calls PySem.SeqAt
section
variable {σ:Aa} {x y v:V} {i j:Int} {a b:Str}
theorem Ks {m:Value->Value->Sem Value} {q:Bool} (h:∀ (r:Ar) (s:Shared) (t u:Tok) (Q:Value->Shared->Prop),Q (.bool q) s->wpAny (model r.T.prog r.T.w) r.A (m (.int i t) (.int j u)) Q (fun _ _=>False) s):Pr2 m (vi i) (vi j) σ (vb q) σ:=FG fun r g s X Y A hx hy Q k=>by
 obtain ⟨t,rfl⟩:=hx
 obtain ⟨u,rfl⟩:=hy
 exact h r s t u Q k
theorem Xw:Pr2 (compareOp .Lt) (vi i) (vi j) σ (vb (decide (i < j))) σ:=Ks fun r s t u Q h=>P.lt_int h
theorem Xx:Pr2 (compareOp .LtE) (vi i) (vi j) σ (vb (decide (i<=j))) σ:=Ks fun r s t u Q h=>P.le_int h
theorem Xz:Pr2 (compareOp .Gt) (vi i) (vi j) σ (vb (decide (i > j))) σ:=Ks fun r s t u Q h=>P.gt_int h
theorem X0:Pr2 (compareOp .GtE) (vi i) (vi j) σ (vb (decide (i ≥ j))) σ:=Ks fun r s t u Q h=>P.ge_int h
theorem Wk:Pr2 (compareOp .GtE) (.d (.str a)) (.d (.str b)) σ (vb (!Bh a b)) σ:=FG fun r g s X Y A hx hy Q k=>by
 obtain ⟨t,rfl,_⟩:=hx
 obtain ⟨u,rfl,_⟩:=hy
 exact P.ge_str k
theorem Xy:Pr2 (compareOp .Is) (.d .none) (.d .none) σ (vb true) σ/\Pr2 (compareOp .IsNot) (.d .none) (.d .none) σ (vb false) σ:=by
 constructor <;> exact FG fun r g s X Y A hx hy Q k=>by
  obtain rfl:X=.none:=hx
  obtain rfl:Y=.none:=hy
  first | exact wpAny_is_self rfl k | exact wpAny_isNot_self rfl k
noncomputable def FI (v:V):Bool:=match v with | .d x=>(match x with | .none=>false | .dict _=>false | _=>true) | .ty _=>false | _=>true
theorem JT {T:Top} {g:G} {X:Value} (h:FI v=true) (r:As T g v X):plainIs X .none=true/\X≠.none:=by
 have rf:∀ a,plainIs (.ref a) .none=true/\Value.ref a≠.none:=fun a=>⟨rfl,fun q=>nomatch q⟩
 cases v with
 | d x=>cases x with
  | none=>exact ff_ h
  | bool b=>rw [show X=.bool b from r]; exact ⟨rfl,fun q=>nomatch q⟩
  | int i=>obtain ⟨t,rfl⟩:=r; exact ⟨rfl,fun q=>nomatch q⟩
  | str z=>obtain ⟨t,rfl,_⟩:=r; exact ⟨rfl,fun q=>nomatch q⟩
  | list _=>exact r (fun X=>plainIs X .none=true/\X≠.none) fun a _ _ _ _ _ _ _ _=>rf a
  | tuple _=>exact r (fun X=>plainIs X .none=true/\X≠.none) fun a _ _ _ _ _ _ _ _=>rf a
  | dict _=>exact ff_ h
 | ref k=>obtain ⟨a,_,rfl⟩:=r; exact rf a
 | tup _=>exact r (fun X=>plainIs X .none=true/\X≠.none) fun a _ _ _ _ _ _ _ _=>rf a
 | ty _=>exact ff_ h
 | obj _=>exact r (fun X=>plainIs X .none=true/\X≠.none) fun a _ _ _ _ _ _ _ _ _ _ _=>rf a
 | pr _ _=>exact r (fun X=>plainIs X .none=true/\X≠.none) fun a _ _ _ _ _ _ _ _=>rf a
theorem Wg (h:FI v=true):Pr2 (compareOp .Is) v (.d .none) σ (vb false) σ/\Pr2 (compareOp .IsNot) v (.d .none) σ (vb true) σ:=by
 constructor <;> exact FG fun r g s X Y A hx hy Q k=>by
  obtain rfl:Y=.none:=hy
  have f:=JT h hx
  first | exact wpAny_is_other f.1 f.2 k | exact wpAny_isNot_other f.1 f.2 k
noncomputable def O1 (σ:Aa) (v:V):Option String :=
 match v with
 | .d x=>(match x with | .tuple _=>some "tuple" | .list _=>some "list" | .str _=>some "str" | .int _=>some "int" | .bool _=>some "bool" | _=>none)
 | .tup _=>some "tuple"
 | .ref k=>(CQ σ[k]?).bind fun _=>some "list"
 | _=>none
theorem Sl {T:Top} {g:G} {s:Shared} {X:Value} {t:String} (H:Has T g σ s) (r:As T g v X) (h:O1 σ v=some t):s.TypeIs X t:=by
 have sq:∀ {cl:String} {P:List Value->Prop} {n:Nat},Cg g.fz cl X P n->s.TypeIs X cl:=fun r=>r (fun X=>s.TypeIs X _) fun a o vs m hf hc _ _ _=>⟨o,H.fz _ _ hf,hc⟩
 cases v with
 | d x=>cases x with
  | bool b=>rw [show X=.bool b from r,<-AAA h]; exact typeIs_bool _ _
  | int i=>obtain ⟨u,rfl⟩:=r; rw [<-AAA h]; exact typeIs_int _ _ _
  | str z=>obtain ⟨u,rfl,_⟩:=r; rw [<-AAA h]; exact typeIs_str _ _ _
  | list _=>rw [<-AAA h]; exact sq r
  | tuple _=>rw [<-AAA h]; exact sq r
  | _=>exact Ac h
 | tup _=>rw [<-AAA h]; exact sq r
 | ref k =>
  obtain ⟨ws,e,h⟩:=Ab h
  rw [<-AAA h]
  exact AQ (v:=.ref k) H r e (R_:=fun X=>s.TypeIs X "list") fun a xs hL _ _ _=>hL.elim fun o h=>⟨o,h.1,h.2.1⟩
 | _=>exact Ac h
theorem NX {t:String} (h:O1 σ v=some t) (ht:typeOf (.type t)=pure (.type "type")) (hs:isSubtype (.type t) (.type t)=pure true):Pr2 (fun X Y=>call (Bd .isinstance) [X,Y]) v (.ty t) σ (vb true) σ:=fun r g s X Y A hx hy=>by
 obtain rfl:Y=.type t:=hy
 exact call_isinstance (isinstance_true (Tx:=t) ht hs) ⟨Sl A.has hx h,.refl A.has.tok rfl⟩
theorem Vz:Pr2 (fun X Y=>call (Bd .isinstance) [X,Y]) (vi i) (.ty "bool") σ (vb false) σ:=fun r g s X Y A hx hy=>by
 obtain rfl:Y=.type "bool" := hy
 obtain ⟨t,rfl⟩:=hx
 exact call_isinstance (isinstance_false_int (by decide) (by kernel_rfl) (by rw [isSubtype_type]; kernel_rfl)) (.refl A.has.tok rfl)
end
section
variable {κ:Type} [DecidableEq κ]
noncomputable def Ao {β:Type} (kvs:List (κ×β)) (k:κ):Option β:=(kvs.find? fun p=>p.1=k).map (·.2)
noncomputable def BG {β:Type} (kvs:List (κ×β)) (k:κ) (d:β):List (κ×β) :=
 if kvs.any (fun p=>p.1=k) then kvs.map (fun p=>if p.1=k then (p.1,d) else p) else kvs++[(k,d)]
theorem EK {β:Type} (kvs:List (κ×β)) (k:κ) (d:β):(BG kvs k d).length<=kvs.length+1:=by
 unfold BG
 by_cases e:(kvs.any fun p=>p.1=k)=true
 ·rw [if_pos e,AAB]; exact Nat.le_succ _
 ·rw [if_neg e,AAF]; exact AAL _
theorem LL {α:Type} (p:α->Bool) (l:List α):l.any p=(l.find? p).isSome:=by
 induction l with
 | nil=>rfl
 | cons a l ih=>rw [List.any_cons,List.find?_cons,ih]; cases p a <;> rfl
theorem Iy {β ω κ':Type} [DecidableEq κ'] {R:κ×β->ω->Prop} {key:ω->κ'} {f:κ->κ'} (hf:∀ a b,f a=f b->a=b) (hR:∀ p w,R p w->f p.1=key w) (k:κ) {kvs:List (κ×β)}:∀ {ws:List ω},Aw R kvs ws ->
 (kvs.find? (fun p=>p.1=k)=none/\ws.find? (fun w=>key w=f k)=none)\/∃ p w,kvs.find? (fun p=>p.1=k)=some p/\ws.find? (fun w=>key w=f k)=some w/\R p w:=by
 induction kvs with
 | nil=>intro ws h; rw [h.nil]; exact .inl ⟨rfl,rfl⟩
 | cons p kvs ih =>
  intro ws h
  obtain ⟨w,ws,rfl,h1,h2⟩:=h.cons
  rw [List.find?_cons,List.find?_cons,<-hR p w h1]
  by_cases e:p.1=k
  ·rw [AAI e,AAI (congrArg f e)]; exact .inr ⟨p,w,rfl,rfl,h1⟩
  ·rw [AAT e,AAT fun q=>e (hf _ _ q)]; exact ih h2
theorem Ny {β ω κ':Type} [DecidableEq κ'] {R:κ×β->ω->Prop} {key:ω->κ'} {f:κ->κ'} (hf:∀ a b,f a=f b->a=b) (hR:∀ p w,R p w->f p.1=key w) {k:κ} {d:β} {w₀:ω} {up:ω->ω} (h0:R (k,d) w₀) (hu:∀ p w,R p w->p.1=k->R (p.1,d) (up w)) {kvs:List (κ×β)} {ws:List ω} (h:Aw R kvs ws) :
 Aw R (BG kvs k d) (if (ws.find? (fun w=>key w=f k)).isSome then ws.map (fun w=>if key w=f k then up w else w) else ws++[w₀]):=by
 have hm:∀ {kvs:List (κ×β)} {ws:List ω},Aw R kvs ws->Aw R (kvs.map fun p=>if p.1=k then (p.1,d) else p) (ws.map fun w=>if key w=f k then up w else w):=by
  intro kvs
  induction kvs with
  | nil=>intro ws h; rw [h.nil]; exact trivial
  | cons p kvs ih =>
   intro ws h
   obtain ⟨w,ws,rfl,h1,h2⟩:=h.cons
   refine ⟨?_,ih h2⟩
   dsimp only
   rw [<-hR p w h1]
   by_cases e:p.1=k
   ·rw [if_pos e,if_pos (congrArg f e)]; exact hu p w h1 e
   ·rw [if_neg e,if_neg fun q=>e (hf _ _ q)]; exact h1
 unfold BG
 rw [LL]
 rcases Iy hf hR k h with ⟨e1,e2⟩ | ⟨p,w,e1,e2,_⟩
 ·rw [e1,e2]; exact h.append ⟨h0,trivial⟩
 ·rw [e1,e2]; exact hm h
end
section
variable {r:Ar} {g:G} {σ σ':Aa} {s:Shared} {k:Nat} {a b:Addr} {kvs:List (Str×PyData)} {kvp:List ((Str×Int)×PyData)} {z:Str} {q:Str×Int} {d:PyData} {v:V}
theorem At.notMods (A:At 0 r g σ s) (hk:g.mu[k]? = some a):(a == sysModules)=false:=by
 obtain ⟨o,ho⟩:=A.ok.ok.mods
 exact beq_eq_false_iff_ne.mpr fun e=>Am (A.has.ap a (AA5 hk)) (e▸A.has.base _ _ ho)
noncomputable abbrev WP (fz:Addr->Option Obj) (d:Str×PyData) (v:Str×Value):Prop:=d.1=v.1/\A5 fz d.2 v.2
noncomputable abbrev VE (fz:Addr->Option Obj) (d:(Str×Int)×PyData) (v:List (Str ⊕ Int)×Addr×Value):Prop:=FO d.1=v.1/\A5 fz (.tuple [.str d.1.1,.int d.1.2]) (.ref v.2.1)/\A5 fz d.2 v.2.2
theorem Lg (k k':Str×Int) (h:FO k=FO k'):k=k':=by
 have h1:=List.cons.inj h
 exact Prod.ext (Sum.inl.inj h1.1) (Sum.inr.inj (List.cons.inj h1.2).1)
theorem Has.dictS {T:Top} (H:Has T g σ s) (hk:g.mu[k]? = some a) (hσ:σ[k]? = some (.dictS kvs)) {R_:Prop} (kk:∀ ws,s.heap.DictOf (strKind T.prog T.w) a ws->Aw (WP g.fz) kvs ws->R_):R_ :=
 H.ob k a _ hk hσ R_ fun x hx r=>r R_ fun es ep ws ho hd hk' hp hn hr hl=>kk ws ⟨x,es,ep,hx,ho,hd,hk',hp,hn⟩ hr
theorem Ez {T:Top} (H:Has T g σ s) (r:A5 g.fz (.tuple [.str q.1,.int q.2]) (.ref b)):IsTupleKey (BS T.prog T.w) s.heap (FO q) b:=by
 refine r (fun x=>x=.ref b->IsTupleKey (BS T.prog T.w) s.heap (FO q) b) (fun a o vs m hf hc hd hr _ e=>?_) rfl
 obtain rfl:a=b:=ABR e
 refine ⟨o,vs,m,H.fz _ _ hf,hc,hd,?_⟩
 obtain ⟨x,y,e,⟨t,rfl,_⟩,⟨t',rfl⟩⟩:=hr.all.two
 rw [e]
 exact .cons (strKind_is T.prog T.w q.1 t) (.cons (show Value.isInt q.2 (.int q.2 t')=true by simp [Value.isInt]) .nil)
theorem Has.dictP {T:Top} (H:Has T g σ s) (hk:g.mu[k]? = some a) (hσ:σ[k]? = some (.dictP kvp)) {R_:Prop} (kk:∀ ws,s.heap.DictOfH (tupleKind (BS T.prog T.w)) a ws->Aw (VE g.fz) kvp ws->R_):R_ :=
 H.ob k a _ hk hσ R_ fun x hx r=>r R_ fun es ep ws ho hd he hn hr hl=>kk ws ⟨x,es,ep,hx,ho,hd,he,(by
  have key:∀ {kvp:List ((Str×Int)×PyData)} {ws:List (List (Str ⊕ Int)×Addr×Value)},Aw (VE g.fz) kvp ws->∀ x∈ws,IsTupleKey (BS T.prog T.w) s.heap x.1 x.2.1:=by
   intro kvp
   induction kvp with
   | nil=>intro ws h x hx; rw [h.nil] at hx; exact nomatch hx
   | cons p kvp ih =>
    intro ws h x hx
    obtain ⟨w,ws,rfl,h1,h2⟩:=h.cons
    exact (AAR.mp hx).elim (fun e=>by rw [e,<-h1.1]; exact Ez H h1.2.1) (ih h2 x)
  exact key hr),hn⟩ hr
theorem Ir {ws:List (Str×Value)} {fz:Addr->Option Obj} (h:Aw (WP fz) kvs ws) (z:Str):(Ao kvs z=none/\valueAt ws z=none)\/∃ d v,Ao kvs z=some d/\valueAt ws z=some v/\A5 fz d v:=by
 rcases Iy (f:=id) (key:=fun w:Str×Value=>w.1) (fun _ _ h=>h) (fun _ _ h=>h.1) z h with ⟨e1,e2⟩ | ⟨p,w,e1,e2,r⟩
 ·exact .inl ⟨congrArg (Option.map _) e1,congrArg (Option.map _) e2⟩
 ·exact .inr ⟨p.2,w.2,congrArg (Option.map _) e1,congrArg (Option.map _) e2,r.2⟩
theorem It {ws:List (List (Str ⊕ Int)×Addr×Value)} {fz:Addr->Option Obj} (h:Aw (VE fz) kvp ws) (q:Str×Int):(Ao kvp q=none/\atKey ws (FO q)=none)\/∃ d v,Ao kvp q=some d/\atKey ws (FO q)=some v/\A5 fz d v.2:=by
 rcases Iy (f:=FO) (key:=fun w:List (Str ⊕ Int)×Addr×Value=>w.1) Lg (fun _ _ h=>h.1) q h with ⟨e1,e2⟩ | ⟨p,w,e1,e2,r⟩
 ·exact .inl ⟨congrArg (Option.map _) e1,congrArg (Option.map _) e2⟩
 ·exact .inr ⟨p.2,w.2,congrArg (Option.map _) e1,congrArg (Option.map _) e2,r.2.2⟩
theorem Wi (hσ:σ[k]? = some (.dictS kvs)):Pr2 (compareOp .In) (.d (.str z)) (.ref k) σ (vb (Ao kvs z).isSome) σ/\Pr2 (compareOp .NotIn) (.d (.str z)) (.ref k) σ (vb !(Ao kvs z).isSome) σ:=by
 have key:∀ {op:CmpOp} {f:Bool->Bool},(∀ (r:Ar) (s:Shared) (a:Addr) (t:Tok) (ws:List (Str×Value)) (Q:Value->Shared->Prop),(a == sysModules)=false->s.heap.DictOf (strKind r.T.prog r.T.w) a ws->(∀ tk,Q (.bool (f (valueAt ws z).isSome)) { s with toks:=tk })->wpAny (model r.T.prog r.T.w) r.A (compareOp op (.str z t) (.ref a)) Q (fun _ _=>False) s)->Pr2 (compareOp op) (.d (.str z)) (.ref k) σ (vb (f (Ao kvs z).isSome)) σ:=fun h r g s X Y A hx hy=>by
  obtain ⟨t,rfl,_⟩:=hx
  obtain ⟨a,hk,rfl⟩:=hy
  refine A.has.dictS hk hσ fun ws hD hr=>h r s a t ws _ (A.notMods hk) hD fun tk=>.refl A.has.tok ?_
  rcases Ir hr z with ⟨e1,e2⟩ | ⟨d,v,e1,e2,_⟩ <;> rw [e1,e2] <;> rfl
 exact ⟨key (f:=id) fun r s a t ws Q hm hD h=>wpAny_in_of (k:=z) (strKind_is _ _ z t) hm hD.mapOf (h _),key (f:=not) fun r s a t ws Q hm hD h=>wpAny_notIn_of (k:=z) (strKind_is _ _ z t) hm hD.mapOf (h _)⟩
noncomputable abbrev vp (q:Str×Int):V:=.d (.tuple [.str q.1,.int q.2])
theorem Hq {X:Value} {T:Top} (h:As T g (vp q) X) {R_:Value->Prop} (k:∀ b,A5 g.fz (.tuple [.str q.1,.int q.2]) (.ref b)->R_ (.ref b)):R_ X :=
 h (fun X=>As T g (vp q) X->R_ X) (fun a _ _ _ _ _ _ _ _ h=>k a h) h
theorem Wj (hσ:σ[k]? = some (.dictP kvp)):Pr2 (compareOp .In) (vp q) (.ref k) σ (vb (Ao kvp q).isSome) σ/\Pr2 (compareOp .NotIn) (vp q) (.ref k) σ (vb !(Ao kvp q).isSome) σ:=by
 have key:∀ {op:CmpOp} {f:Bool->Bool},(∀ (r:Ar) (s:Shared) (a b:Addr) (ws:List (List (Str ⊕ Int)×Addr×Value)) (Q:Value->Shared->Prop),r.A.in1.units < cLine->(a == sysModules)=false->s.heap.DictOfH (tupleKind (BS r.T.prog r.T.w)) a ws->IsTupleKey (BS r.T.prog r.T.w) s.heap (FO q) b->(∀ tk,Q (.bool (f (atKey ws (FO q)).isSome)) { s with toks:=tk })->wpAny (model r.T.prog r.T.w) r.A (compareOp op (.ref b) (.ref a)) Q (fun _ _=>False) s)->Pr2 (compareOp op) (vp q) (.ref k) σ (vb (f (Ao kvp q).isSome)) σ:=fun h r g s X Y A hx hy=>by
  obtain ⟨a,hk,rfl⟩:=hy
  refine Hq hx (R_:=fun X=>r.wp (compareOp _ X (.ref a)) (Ans r g _ σ) s) fun b hb=>A.has.dictP hk hσ fun ws hD hr=>h r s a b ws _ (AAS (AA9 _ 40) A.room) (A.notMods hk) hD (Ez A.has hb) fun tk=>.refl A.has.tok ?_
  rcases It hr q with ⟨e1,e2⟩ | ⟨d,v,e1,e2,_⟩ <;> rw [e1,e2] <;> rfl
 exact ⟨key (f:=id) fun r s a b ws Q hu hm hD hb h=>wpAny_in_heap (knd:=tupleKind (BS r.T.prog r.T.w)) hu hb hm hD (h _),key (f:=not) fun r s a b ws Q hu hm hD hb h=>PyProof.Rows.wpAny_notIn_heap (knd:=tupleKind (BS r.T.prog r.T.w)) hu hb hm hD (h _)⟩
theorem ES {r:Ar} {a:Addr} {ob:O} (A:At 0 r g σ s) (hk:g.mu[k]? = some a) (hσ:σ[k]? = some ob) (h:∀ vs,ob≠.list vs):s.TypeIs (.ref a) "dict" :=
 A.has.ob k a _ hk hσ _ fun x hx rx=>by
  cases ob with
  | list vs=>exact absurd rfl (h vs)
  | dictS _=>exact rx _ fun _ _ _ ho _ _ _ _ _ _=>⟨x,hx,ho.1⟩
  | dictP _=>exact rx _ fun _ _ _ ho _ _ _ _ _=>⟨x,hx,ho.1⟩
theorem Tz (hσ:σ[k]? = some (.dictS kvs)) (hd:Ao kvs z=some d):PrG (.ref k) (.d (.str z)) σ (.d d):=fun r g s X Y A hx hy R_ kk=>by
 obtain ⟨a,hk,rfl⟩:=hx
 obtain ⟨t,rfl,_⟩:=hy
 refine kk "dict" _ (ES A hk hσ fun _ q=>nomatch q) slot_dict_getitem.lookup (A.has.dictS hk hσ fun ws hD hr=>?_)
 rcases Ir hr z with ⟨e1,_⟩ | ⟨d',v,e1,e2,rv⟩
 ·exact Am e1 hd
 ·rw [Av hd e1]; exact wpAny_getItem_of (k:=z) (strKind_is _ _ z t) hD.mapOf e2 (.refl A.has.tok rv)
theorem T0 (hσ:σ[k]? = some (.dictP kvp)) (hd:Ao kvp q=some d):PrG (.ref k) (vp q) σ (.d d):=fun r g s X Y A hx hy R_ kk=>by
 obtain ⟨a,hk,rfl⟩:=hx
 refine kk "dict" _ (ES A hk hσ fun _ q=>nomatch q) slot_dict_getitem.lookup (Hq hy (R_:=fun Y=>r.wp (getItem (.ref a) Y) (Ans r g (.d d) σ) s) fun b hb=>A.has.dictP hk hσ fun ws hD hr=>?_)
 rcases It hr q with ⟨e1,_⟩ | ⟨d',v,e1,e2,rv⟩
 ·exact Am e1 hd
 ·rw [Av hd e1]; exact wpAny_getItem_heap (knd:=tupleKind (BS r.T.prog r.T.w)) (AAS (AA9 _ 40) A.room) (Ez A.has hb) hD e2 (.refl A.has.tok rv)
end
end Mine
namespace Mine
open PySem PySem.Calls PySem.SeqAt
noncomputable abbrev Tb (xs:Array Value) (m:Nat):Obj:={ cls:=.type "list",dict:=none,data:=.seq xs m,slots:=#[] }
noncomputable abbrev AO:V:=.d .none
section
variable {n:Nat} {T:Top} {r:Ar} {c:Cx} {ρ:Ah} {g g' g₁:G} {σ σ' σ₁ σ₂ σ3:Aa} {s s':Shared} {e a b:E} {x y v:V} {ws us:List V} {X:Value} {ds:List PyData} {k:Nat} {l:Addr}
theorem Has.lst (H:Has T g σ s) (hk:g.mu[k]? = some l) (hσ:σ[k]? = some (.list ws)) {R_:Prop} (kk:∀ xs m,s.heap.get? l=some (Tb xs m)->Au T g ws xs.toList->ws.length=xs.size->ws.length<=line->R_):R_ :=
 H.ob k l _ hk hσ R_ fun o ho ro=>ro (fun o=>s.heap.get? l=some o->R_) (fun xs m hr hl ho=>kk xs m ho hr hr.length hl) ho
theorem Has.relst {xs:Array Value} {m:Nat} (H:Has T g σ s) (hk:g.mu[k]? = some l) (hs:∀ b x,b≠l->s.heap.get? b=some x->s'.heap.get? b=some x) (ho:s'.heap.get? l=some (Tb xs m)) (hr:Au T g us xs.toList) (hl:us.length<=line) (hg:s'.gens=s.gens:=by rfl) (hos:s'.os=s.os:=by rfl):Has T g (σ.set k (.list us)) s' :=
 H.turn (ob:=.list us) hk hs ho (fun R_ kk=>kk xs m hr hl) hg hos
theorem U2 {h:Heap} {f:Obj->Obj}:∀ b x,b≠l->h.get? b=some x->(h.update l f).get? b=some x:=fun b x hb e=>(ABD _ _ (Ne.symm hb)).trans e
theorem Has.upd {xs:Array Value} {m:Nat} {f:Array Value->Array Value} {tk:Nat} (H:Has T g σ s) (hk:g.mu[k]? = some l) (ho:s.heap.get? l=some (Tb xs m)) (hr:Au T g us (f xs).toList) (hl:us.length<=line):Has T g (σ.set k (.list us)) { s with heap:=s.heap.update l (Obj.mapSeq f),toks:=tk } :=
 H.relst hk U2 (Heap.get?_update_self _ ho rfl) hr hl
def PrM (id:String) (k:Nat) (ws us:List V) (σ:Aa) (v:V) (σ':Aa):Prop :=
 ∀ (r:Ar) (g:G) (s:Shared) (l:Addr) (xs:Array Value) (m:Nat) (Ys:List Value),At 0 r g σ s->g.mu[k]? = some l->s.heap.get? l=some (Tb xs m)->Au r.T g ws xs.toList->ws.length=xs.size->ws.length<=line->Au r.T g us Ys->r.wp (call (.builtin id) (.ref l::Ys)) (Ans r g v σ') s
theorem KW (hl:ws.length < line):PrM "list.append" k ws [x] σ AO (σ.set k (.list (ws++[x]))):=fun r g s l xs m Ys A hk ho hr hn _ hy=>by
 obtain ⟨Y,rfl,ry⟩:=hy.one
 refine wpAny_list_append_plain ⟨m,ho⟩ (fun h' hp hs=>?_) (by rw [<-hn,<-AR]; exact Nat.le_of_lt hl)
 obtain ⟨m',ho'⟩:=hp
 exact .refl (A.has.relst hk (fun b x hb e=>(hs.2 b hb).trans e) ho' (by rw [Array.toList_push]; exact hr.append ⟨ry,trivial⟩) (by rw [AAF]; exact Nat.succ_le_of_lt hl)) rfl
theorem SV:PrM "list.clear" k ws [] σ AO (σ.set k (.list [])):=fun r g s l xs m Ys A hk ho hr hn hl hy=>by
 rw [hy.nil]
 exact call_meets F.slot_list_clear ⟨_,ho,rfl⟩ F.entry_list_clear (F.args_list_clear_1 _) (AutoSeq1.list_clear_list_0 l xs m (by rw [<-hn,<-AR]; exact hl)) ⟨ho,.refl (A.has.upd (us:=[]) hk ho trivial (ABF _)) rfl⟩
theorem SM {i:Int} (h0:0<=i) (h:i.toNat<=line):Builtin.List.listFitsIndex i=true:=by
 have h1:=E4 h
 simp [Builtin.List.listFitsIndex]; lia
theorem Qx {i:Int} (h0:0<=i) (hi:i.toNat<=ws.length) (hl:ws.length < line):PrM "list.insert" k ws [vi i,x] σ AO (σ.set k (.list (ws.take i.toNat++x::ws.drop i.toNat))):=fun r g s l xs m Ys A hk ho hr hn _ hy=>by
 obtain ⟨Z,Y,rfl,⟨t,rfl⟩,ry⟩:=hy.two
 refine call_meets F.slot_list_insert ⟨_,ho,rfl⟩ F.entry_list_insert (F.args_list_insert_3 _ _ _) (AutoSeq1.list_insert_list_int_val_1 l xs m i t Y (by rw [SM h0 (AAC hi (Nat.le_of_lt hl))]; decide) (by rw [<-hn,<-AR]; exact Nat.le_of_lt hl)) ⟨ho,.refl (A.has.upd hk ho ?_ ?_) rfl⟩
 ·have e:(if i < 0 then (i+(xs.size:Int)).toNat else min i.toNat xs.size)=i.toNat:=by
   rw [if_neg (Int.not_lt.mpr h0)]; exact Nat.min_eq_left (hn▸hi)
  show Au r.T g _ ((xs.extract 0 (if i < 0 then (i+(xs.size:Int)).toNat else min i.toNat xs.size)).push Y++xs.extract (if i < 0 then (i+(xs.size:Int)).toNat else min i.toNat xs.size)).toList
  rw [e]
  have e2:((xs.extract 0 i.toNat).push Y++xs.extract i.toNat).toList=xs.toList.take i.toNat++Y::xs.toList.drop i.toNat:=by simp; exact List.take_of_length_le (by simp)
  rw [e2]
  exact (hr.take _).append ⟨ry,hr.drop _⟩
 ·rw [AAF,AA2,List.length_take,List.length_drop,Nat.min_eq_left hi,<-Nat.add_assoc,Nat.add_sub_cancel' hi]; exact Nat.succ_le_of_lt hl
theorem Aw.erase {α β:Type} {R:α->β->Prop} {as:List α} {bs:List β} (h:Aw R as bs) (j:Nat):Aw R (as.eraseIdx j) (bs.eraseIdx j):=by
 rw [List.eraseIdx_eq_take_drop_succ,List.eraseIdx_eq_take_drop_succ]; exact (h.take j).append (h.drop (j+1))
theorem Wt (hv:ws[ws.length-1]? = some v):PrM "list.pop" k ws [] σ v (σ.set k (.list (ws.eraseIdx (ws.length-1)))):=fun r g s l xs m Ys A hk ho hr hn hl hy=>by
 rw [hy.nil]
 obtain ⟨Y,hY,ry⟩:=hr.get hv
 refine call_meets F.slot_list_pop ⟨_,ho,rfl⟩ F.entry_list_pop (F.args_list_pop_1 _) (MeetsSeq.list_pop_last l xs m Y (by rw [<-hn]; exact ABJ.symm.trans hY) (by rw [<-hn,<-AR]; exact hl)) ⟨ho,.refl (A.has.upd hk ho ?_ ?_) ry⟩
 ·rw [hn,show (xs.eraseIdxIfInBounds (xs.size-1)).toList=xs.toList.eraseIdx (xs.size-1) by simp]; exact hr.erase _
 ·exact AAC (List.length_eraseIdx_le _ _) hl
noncomputable def FV (x:PyData):List PyData->Option Nat
 | []=>none
 | y::r=>(eqN A6 y x).bind fun b=>bif b then some 0 else (FV x r).bind fun j=>some (j+1)
theorem Vm {h:Heap} {d:PyData}:∀ {xs:List Value} {j:Nat},Aw (A5 h.get?) ds xs->FV d ds=some j->∃ (hj:j < xs.length),E8 h d xs[j]=true/\∀ (m:Nat) (hm:m < xs.length),m < j->E8 h d xs[m]=false:=by
 induction ds with
 | nil=>exact fun _ h=>Ac h
 | cons z ds ih =>
  intro xs j hr e0
  obtain ⟨x,xs,rfl,h1,h2⟩:=hr.cons
  obtain ⟨b,e,e0⟩:=Ab e0
  have h0:=Ob h1 e
  cases b with
  | true =>
   obtain rfl:0=j:=AAA e0
   exact ⟨Nat.succ_pos _,h0,fun m _ hm=>absurd hm (Nat.not_lt_zero m)⟩
  | false =>
   obtain ⟨j',e2,e3⟩:=Ab e0
   obtain rfl:j' + 1=j:=AAA e3
   obtain ⟨q1,q2,q3⟩:=ih h2 e2
   refine ⟨Nat.succ_lt_succ q1,q2,fun m hm hj=>?_⟩
   cases m with
   | zero=>exact h0
   | succ m=>exact q3 m (Nat.lt_of_succ_lt_succ hm) (Nat.lt_of_succ_lt_succ hj)
theorem QX {d:PyData} {q:Bool} {j:Nat} {xs:Array Value} {Y:Value} (A:At 0 r g σ s) (hr:Au r.T g (ds.map .d) xs.toList) (hy:A5 g.fz d Y) (h1:inD d ds=some q) (h2:FV d ds=some j) {R_:Prop}
 (kk:∀ (hj:j < xs.size),(∀ z,z∈xs->EqAt r.A.in1 s z Y (E8 s.heap d z))->E8 s.heap d xs[j]=true->(∀ m (hm:m < xs.size),m < j->E8 s.heap d xs[m]=false)->R_):R_:=by
 have hd:=(VV hr).mono fun _ _=>A5.mono A.has.fz _ _
 obtain ⟨h4,_⟩:=M5 (A:=r.A.in1) A.room (A5.mono A.has.fz _ _ hy) hd h1
 obtain ⟨q1,q2,q3⟩:=Vm hd h2
 exact kk q1 (fun z hz=>h4 z (Array.mem_toList_iff.mpr hz)) q2 fun m hm hj=>q3 m hm hj
theorem SU {d:PyData} {q:Bool} {j:Nat} (h1:inD d ds=some q) (h2:FV d ds=some j):PrM "list.index" k (ds.map .d) [.d d] σ (vi j) σ:=fun r g s l xs m Ys A hk ho hr hn hl hy=>by
 obtain ⟨Y,rfl,ry⟩:=hy.one
 refine QX A hr ry h1 h2 fun hj hz q1 q2=>?_
 have hj':(j:Int) < 2 ^ 63-1:=Int.lt_of_lt_of_le (Int.ofNat_lt.mpr (Nat.lt_of_lt_of_le hj (hn▸hl))) (by decide)
 exact call_meets F.slot_list_index ⟨_,ho,rfl⟩ F.entry_list_index (F.args_list_index_2 _ _) (list_indexAt l xs m none #[] Y (E8 s.heap d) j hj hj' q1 q2) ⟨ho,hz,.refl A.has.tok ⟨_,rfl⟩⟩
end
end Mine
namespace Mine
open PySem PySem.Calls PySem.SeqAt
theorem MF (l:Addr) (items:Array Value) (n:Nat) (b:Addr) (items2:Array Value) (n2:Nat) (dd:Option Addr) (sl:Array (Option Value)) (hs0:¬(!items.isEmpty&&Builtin.List.listTooLong (items.size+items2.size))=true) (hs1:items.size<=sizeLine) (hs2:(items++items2).size<=sizeLine+1) :
 Meets (Builtin.«list.extend» ⟨[.ref l,.ref b],[]⟩) (fun _ R s=>s.heap.get? l=some { cls:=.type "list",dict:=none,data:=.seq items n,slots:=#[] }/\s.heap.get? b=some { cls:=.type "list",dict:=dd,data:=.seq items2 n2,slots:=sl }/\R (.ok (.ret Value.none)) { s with heap:=s.heap.update l (Obj.mapSeq fun x=>x++items2),toks:=s.toks }) :=
 .of_wp fun prog w A R s h=>by
  obtain ⟨hp,g,d,tk,os⟩:=s
  obtain ⟨hl,hb,h⟩:=h
  have f1:=AutoSeq1.sub_list_list
  wp_walk using (wpAny_updateSeq hl rfl (hz:=hs1) (_hz':=hs2)),AutoSeq1.wpAny_loadPart' hl,AutoSeq1.wpAny_loadPart' hb
  exact ⟨_,rfl,h⟩
open MeetsSeq in
theorem Jc (l:Addr) (items:Array Value) (n:Nat) (x:Value) (e:Value->Bool) (j:Nat) (hj:j < items.size) (hit:e items[j]=true) (hs1:items.size<=sizeLine) (k:Nat) :
 ∀ i:Nat,j-i=k->i<=j->(∀ m (hm:m < items.size),i<=m->m < j->e items[m]=false)->Meets (Builtin.«list.remove.loop» ⟨[.ref l,x,rawInt i],[]⟩)
  (fun A R s=>s.heap.get? l=some { cls:=.type "list",dict:=none,data:=.seq items n,slots:=#[] }/\(∀ y,y∈items->EqAt A.in1 s y x (e y))/\R (.ok (.ret .none)) { s with heap:=s.heap.update l (Obj.mapSeq fun xs=>xs.eraseIdxIfInBounds j) }):=by
 induction k with
 | zero =>
  intro i hk hij hno prog w A R s h
  obtain ⟨hp,g,d,tk,os⟩:=s; obtain ⟨hl,he,h⟩:=h
  have hij':i=j:=Nat.le_antisymm hij (Nat.le_of_sub_eq_zero hk)
  subst hij'
  wp_walk using AutoSeq1.wpAny_loadPart' hl
  have hi:items[((i:Nat):Int).toNat]? = some items[i]:=by simp [hj]
  rw [hi]
  refine AAD (he _ (Array.getElem_mem hj) prog w _ _ ?_)
  rw [hit]
  have hz':(items.eraseIdxIfInBounds i).size<=sizeLine+1:=AAC (size_erased items _) (AB4 hs1)
  wp_walk using (wpAny_updateSeq hl rfl (hz:=hs1) (_hz':=hz')),AutoSeq1.wpAny_loadPart' hl
  exact h
 | succ k ih =>
  intro i hk hij hno prog w A R s h
  obtain ⟨hp,g,d,tk,os⟩:=s; obtain ⟨hl,he,h⟩:=h
  have hlt:i < items.size:=by omega
  wp_walk using AutoSeq1.wpAny_loadPart' hl
  have hi:items[((i:Nat):Int).toNat]? = some items[i]:=by simp [hlt]
  have hc:((i:Int)+1)=((i+1:Nat):Int):=by push_cast; rfl
  rw [hi]
  refine AAD (he _ (Array.getElem_mem hlt) prog w _ _ ?_)
  rw [hno i hlt (AAL _) (by omega)]
  wp_walk
  rw [hc]
  exact ⟨plainId_quiet plain_remove_loop _,codeAny_builtin entry_remove_loop (by
   rw [Around.under_plainId plain_remove_loop _]
   exact ih (i+1) (by omega) (by omega) (fun m hm h1 h2=>hno m hm (by omega) h2) prog w A R _ ⟨hl,he,h⟩)⟩
open MeetsSeq in
theorem Jf (l:Addr) (items:Array Value) (n:Nat) (x:Value) (e:Value->Bool) (j:Nat) (hj:j < items.size) (hit:e items[j]=true) (hno:∀ m (hm:m < items.size),m < j->e items[m]=false) (hs1:items.size<=sizeLine) :
 Meets (Builtin.«list.remove» ⟨[.ref l,x],[]⟩)
  (fun A R s=>s.heap.get? l=some { cls:=.type "list",dict:=none,data:=.seq items n,slots:=#[] }/\(∀ y,y∈items->EqAt A.in1 s y x (e y))/\R (.ok (.ret .none)) { s with heap:=s.heap.update l (Obj.mapSeq fun xs=>xs.eraseIdxIfInBounds j) }):=by
 intro prog w A R s h
 obtain ⟨hp,g,d,tk,os⟩:=s; obtain ⟨hl,he,h⟩:=h
 wp_walk using AutoSeq1.wpAny_loadPart' hl
 exact ⟨plainId_quiet plain_remove_loop _,codeAny_builtin entry_remove_loop (by
  rw [Around.under_plainId plain_remove_loop _]
  exact Jc l items n x e j hj hit hs1 _ 0 rfl (ABF _) (fun m hm _ h2=>hno m hm h2) prog w A R _ ⟨hl,he,h⟩)⟩
section
variable {n:Nat} {T:Top} {r:Ar} {c:Cx} {ρ:Ah} {g g' g₁:G} {σ σ' σ₁ σ₂ σ3:Aa} {s s':Shared} {e a b:E} {x y v:V} {ws us:List V} {X:Value} {ds:List PyData} {k:Nat} {l:Addr}
theorem Qw {d:PyData} {q:Bool} {j:Nat} (h1:inD d ds=some q) (h2:FV d ds=some j):PrM "list.remove" k (ds.map .d) [.d d] σ AO (σ.set k (.list ((ds.map .d).eraseIdx j))):=fun r g s l xs m Ys A hk ho hr hn hl hy=>by
 obtain ⟨Y,rfl,ry⟩:=hy.one
 refine QX A hr ry h1 h2 fun hj hz q1 q2=>?_
 refine call_meets F.slot_list_remove ⟨_,ho,rfl⟩ F.entry_list_remove (F.args_list_remove_2 _ _) (Jf l xs m Y (E8 s.heap d) j hj q1 q2 (by rw [<-hn,<-AR]; exact hl)) ⟨ho,hz,.refl (A.has.upd hk ho ?_ ?_) rfl⟩
 ·rw [show (xs.eraseIdxIfInBounds j).toList=xs.toList.eraseIdx j by simp]; exact hr.erase _
 ·exact AAC (List.length_eraseIdx_le _ _) hl
theorem Qy (h:A2 σ x=some us) (hl:ws.length+us.length<=line):PrM "list.extend" k ws [x] σ AO (σ.set k (.list (ws++us))):=fun r g s l xs m Ys A hk ho hr hn hlw hy=>by
 obtain ⟨Y,rfl,ry⟩:=hy.one
 refine AQ A.has ry h (R_:=fun Y=>r.wp (call (.builtin "list.extend") [.ref l,Y]) (Ans r g AO (σ.set k (.list (ws++us)))) s) fun b zs hL hz hzn _=>?_
 obtain ⟨n2,d2,s2,ho2⟩:=Ib hL
 have hz2:xs.size+zs.size<=sizeLine:=by rw [<-hn,<-hzn,<-AR]; exact hl
 refine call_meets F.slot_list_extend ⟨_,ho,rfl⟩ F.entry_list_extend (F.args_list_extend_2 _ _) (MF l xs m b zs n2 d2 s2 ?_ (AAC (AA9 _ _) hz2) (by rw [Array.size_append]; exact AB4 hz2)) ⟨ho,ho2,.refl (A.has.upd hk ho ?_ ?_) rfl⟩
 ·rw [show Builtin.List.listTooLong (xs.size+zs.size)=false from AAT (Nat.not_lt.mpr hz2),Bool.and_false]; exact ABB
 ·rw [Array.toList_append]; exact hr.append hz
 ·rw [AAF]; exact hl
def Ek (e:E):Prop:=∀ {K:Kx} {ex:Expr},IsE e K ex->∀ nm env w,attributeBase ex nm env w=w
theorem Ay {i:Nat}:Ek (.var i):=fun h nm env w=>h (fun ex=>attributeBase ex nm env w=w) fun _ _ _=>rfl
theorem Px {d:PyData}:Ek (.cst d):=fun h nm env w=>h (fun ex=>attributeBase ex nm env w=w) fun _ _ _=>rfl
theorem Pw:Ek (.sub a b):=fun h nm env w=>h (fun ex=>attributeBase ex nm env w=w) fun _ _ _ _ _=>rfl
theorem IM {z:Str}:Ek (.attr z a):=fun h nm env w=>h (fun ex=>attributeBase ex nm env w=w) fun _ _ _=>rfl
theorem SE.meth {m:MV} {Ty id:String} (hb0:Ek a) (pa:PlainAttrs Ty) (slot:Slot Ty (Str.ofString (E1 m)) id) (ty:typeOf (.builtin id)=pure (.type "method_descriptor")) (ha:SE n a ρ σ x σ₁) (hb:SEs n b ρ σ₁ ws σ₂)
 (hT:∀ (r:Ar) (g:G) (s:Shared) (X:Value),At 0 r g σ₁ s->As r.T g x X->s.TypeIs X Ty/\∀ l,X=.ref l->∃ o,s.heap.get? l=some o/\o.dict=none)
 (h:∀ (r:Ar) (g:G) (s:Shared) (X:Value) (Ys:List Value),At 0 r g σ₂ s->As r.T g x X->Au r.T g ws Ys->r.wp (call (.builtin id) (X::Ys)) (Ans r g v σ3) s):SE n (.meth m a b) ρ σ v σ3:=by
 refine fun c g s ex hc I=>hc (fun ex=>c.wp (eval ex c.env) (Ans c.toAr g v σ3) s) fun z ap vs p h1 h2 h3 h4=>?_
 refine wpAny_Call_method_lateS (hb0 h1 _ _ _) ?_ (AAI h3) (AAO (ha c g s z h1 I) (fun X s₁ p1=>p1 _ fun g₁ le1 a₁ r1=>?_) fun _ _ h=>h)
 ·have e:=BW p c.env h2
  rw [List.any_eq_false] at e
  exact (Bool.and_eq_true _ _).mpr ⟨(Bool.and_eq_true _ _).mpr ⟨List.all_eq_true.mpr fun x hx=>by simpa using e x hx,rfl⟩,AAI (ABT h4 (by decide))⟩
 ·have I1:=I.step le1 a₁
  have t:=hT c.toAr g₁ s₁ X I1.at0 r1
  exact ⟨Ty,id,pa,slot,ty,t.1,t.2,callWith_builtin (BW _ _ h2) (C9 (r:=c.toAr) h2 (AAO (hb c g₁ s₁ vs p h2 I1) (fun Ys s2 p2=>p2 _ fun g2 le2 a₂ r2=>B0 (r:=c.toAr) (le1.trans le2) (h c.toAr g2 s2 X Ys (I1.step le2 a₂).at0 (As.mono le2.toup _ _ r1) r2)) fun _ _ h=>h))⟩
theorem SE.lmeth {m:MV} {id:String} (hb0:Ek a) (slot:Slot "list" (Str.ofString (E1 m)) id) (ty:typeOf (.builtin id)=pure (.type "method_descriptor")) (ha:SE n a ρ σ (.ref k) σ₁) (hb:SEs n b ρ σ₁ us σ₂) (h0:σ₁[k]? = some (.list ws)) (h1:σ₂[k]? = some (.list ws)) (h:PrM id k ws us σ₂ v σ3):SE n (.meth m a b) ρ σ v σ3:=by
 refine SE.meth hb0 F.plainAttrs_list slot ty ha hb (fun r g s X A hx=>?_) fun r g s X Ys A hx hy=>?_
 ·obtain ⟨l,hk,rfl⟩:=hx
  exact A.has.lst hk h0 fun xs m ho _ _ _=>⟨⟨_,ho,rfl⟩,fun l' q=>ABR q▸⟨_,ho,rfl⟩⟩
 ·obtain ⟨l,hk,rfl⟩:=hx
  exact A.has.lst hk h1 fun xs m ho hr hn hl=>h r g s l xs m Ys A hk ho hr hn hl hy
theorem Mi {zs:List Value} {ss:List Str} (h:PyProof.Rows.StrsAre zs ss):∃ l':List (Str×Tok),strValues l'=zs/\l'.map (·.1)=ss:=by
 induction h with
 | nil=>exact ⟨[],rfl,rfl⟩
 | cons y t _ ih=>obtain ⟨l,q1,q2⟩:=ih; exact ⟨(y,t)::l,by rw [<-q1]; rfl,by rw [<-q2]; rfl⟩
theorem SE.join {z:Str} {ss:List Str} (hb0:Ek a) (hs:A2 σ₂ y=some (vss ss)) (hj:JoinOk z ss=true) (ha:SE n a ρ σ (.d (.str z)) σ₁) (hb:SEs n b ρ σ₁ [y] σ₂):SE n (.meth .join a b) ρ σ (.d (.str (Txt.join z ss))) σ₂:=by
 refine SE.meth hb0 F.plainAttrs_str F.slot_str_join F.type_str_join ha hb (fun r g s X A hx=>?_) fun r g s X Ys A hx hy=>?_
 ·obtain ⟨t,rfl,_⟩:=hx
  exact ⟨typeIs_str _ _ _,fun _ q=>nomatch q⟩
 ·obtain ⟨t,rfl,_⟩:=hx
  obtain ⟨Y,rfl,ry⟩:=hy.one
  refine AQ A.has ry hs (R_:=fun Y=>r.wp (call (.builtin "str.join") [.str z t,Y]) (Ans r g (.d (.str (Txt.join z ss))) σ₂) s) fun l xs hL hr _ _=>?_
  obtain ⟨l',hl1,hl2⟩:=Mi (HC hr).1
  exact SC.join (l:=l') (texts:=ss) (by rw [hl1]; simpa using hL) hl2 hj fun t' k=>.refl A.has.tok ⟨t',rfl,by rw [AR]; exact joinOk_length hj⟩
end
end Mine
namespace Mine
open PySem PySem.Calls PySem.SeqAt
section
variable {n:Nat} {a b:E} {ρ:Ah} {σ σ₁ σ₂:Aa} {k:Nat} {kvp:List ((Str×Int)×PyData)} {q:Str×Int} {z:V}
noncomputable def dfl (o:Option PyData) (z:V):V:=match o with | some d=>.d d | none=>z
theorem SE.getP (hb0:Ek a) (ha:SE n a ρ σ (.ref k) σ₁) (hb:SEs n b ρ σ₁ [vp q,z] σ₂) (h0:σ₁[k]? = some (.dictP kvp)) (h1:σ₂[k]? = some (.dictP kvp)):SE n (.meth .get a b) ρ σ (dfl (Ao kvp q) z) σ₂:=by
 refine SE.meth hb0 F.plainAttrs_dict F.slot_dict_get F.type_dict_get ha hb (fun r g s X A hx=>?_) fun r g s X Ys A hx hy=>?_
 ·obtain ⟨c,hk,rfl⟩:=hx
  refine ⟨ES A hk h0 (fun _ q=>nomatch q),fun l e=>?_⟩
  obtain rfl:=ABR e
  exact A.has.ob k c _ hk h0 _ fun x hx rx=>rx _ fun _ _ _ ho _ _ _ _ _=>⟨x,hx,ho.2.1⟩
 ·obtain ⟨c,hk,rfl⟩:=hx
  obtain ⟨Y,Z,rfl,ry,rz⟩:=hy.two
  refine Hq ry (R_:=fun Y=>r.wp (call (.builtin "dict.get") [.ref c,Y,Z]) (Ans r g _ σ₂) s) fun b hb=>A.has.dictP hk h1 fun ws hD hr=>?_
  refine call_meetsIn F.slot_dict_get hD.typeIs F.entry_dict_get (F.args_dict_get_3 _ _ _) (meetsH_dict_get_default (tupleKind (BS r.T.prog r.T.w)) c b (A.notMods hk) Z) ⟨AAS (AA9 _ 40) A.room,FO q,ws,Ez A.has hb,hD,.refl A.has.tok ?_⟩
  rcases It hr q with ⟨e1,e2⟩ | ⟨d,v,e1,e2,rv⟩
  ·rw [e1,e2]; exact rz
  ·rw [e1,e2]; exact rv
end
end Mine
namespace Mine
open PySem PySem.Calls PySem.SeqAt
section
variable {fz:Addr->Option Obj} {h:Heap}
mutual
theorem A5.reads (hz:∀ a o,fz a=some o->h.get? a=some o):∀ (d:PyData) (v:Value),A5 fz d v->∃ as,Reads h v d as
 | .none,v,r=>⟨[],(show v=.none from r)▸.none⟩
 | .bool b,v,r=>⟨[],(show v=.bool b from r)▸.bool b⟩
 | .int i,v,r=>let ⟨t,e⟩:=r; ⟨[],e▸.int i t⟩
 | .str s,v,r=>let ⟨t,e,_⟩:=r; ⟨[],e▸.str s t⟩
 | .list ds,v,r=>r (fun v=>∃ as,Reads h v (.list ds) as) fun a o vs m h1 h2 h3 h4 _=>let ⟨as,ra⟩:=RepDs.reads hz ds vs.toList h4; ⟨a::as,.list (hz a o h1) h2 h3 ra⟩
 | .tuple ds,v,r=>r (fun v=>∃ as,Reads h v (.tuple ds) as) fun a o vs m h1 h2 h3 h4 _=>let ⟨as,ra⟩:=RepDs.reads hz ds vs.toList h4; ⟨as,.tuple (hz a o h1) h2 h3 ra⟩
 | .dict _,_,r=>r.elim
theorem RepDs.reads (hz:∀ a o,fz a=some o->h.get? a=some o):∀ (ds:List PyData) (vs:List Value),RepDs fz ds vs->∃ as,ReadsAll h vs ds as
 | [],[],_=>⟨[],.nil⟩
 | d::ds,v::vs,r=>let ⟨as,ra⟩:=A5.reads hz d v r.1; let ⟨bs,rb⟩:=RepDs.reads hz ds vs r.2; ⟨as++bs,.cons ra rb⟩
 | [],_::_,r=>r.elim
 | _::_,[],r=>r.elim
end
end
structure Shw (d:PyData):Prop where
 able:d.showable=true
 nod:d.hasDict=false
 dep:d.depth<=50
 len:d.shown.length<=line
noncomputable def OD (d:PyData):Bool:=d.showable&&(!d.hasDict&&(decide (d.depth<=50)&&decide (d.shown.length<=line)))
theorem No {d:PyData}:OD d=true ↔ Shw d:=by
 unfold OD
 rw [AAH,AAH,AAH,decide_eq_true_iff,decide_eq_true_iff,Bool.not_eq_true']
 exact ⟨fun h=>⟨h.1,h.2.1,h.2.2.1,h.2.2.2⟩,fun h=>⟨h.able,h.nod,h.dep,h.len⟩⟩
theorem Vw {σ:Aa} {ds:List PyData} (h:Shw (.list ds)):Pr1 (fun X=>call (Bd .repr) [X]) (.d (.list ds)) σ (.d (.str (PyData.list ds).shown)) σ:=fun r g s X A hx =>
 hx (fun X=>r.wp (call (.builtin "repr") [X]) (Ans r g (.d (.str (PyData.list ds).shown)) σ) s) fun a o vs m h1 h2 h3 h4 _=>by
  obtain ⟨as,R⟩:=RepDs.reads A.has.fz ds vs.toList h4
  have hu:r.A.units+((PyData.list ds).depth+1) < cLine:=AAS (Nat.add_le_add (AAC (AA9 _ _) A.units) (ABS h.dep)) (show 9000+51 < 9900 by decide)
  exact repr_of_reads' (.list (A.has.fz a o h1) h2 h3 R) h.able (PyData.noDict_hsm h.nod) A.hh.2 hu (fun _ _ e=>e) (fun h' u tk hk=>.refl (A.has.keep hk) ⟨u,rfl,h.len⟩) (AR▸h.len)
end Mine
namespace Mine
open PySem PySem.Calls
noncomputable def DB:Ah->List Nat->List V->Ah
 | ρ,i::is,v::vs=>DB (ρ.set i (some v)) is vs
 | ρ,_,_=>ρ
section
variable {n:Nat} {c:Cx} {ρ ρ':Ah} {g g':G} {σ σ' σ₁ σ₂ σ3:Aa} {s s':Shared} {i:Nat} {nm:Str} {v:V} {X:Value} {Er:Value->Shared->Prop} {e a b:E} {Q:Fl->Aa->Prop}
theorem RI {env:Env} {K:Kx} (h:env.scope.names=K.names) (hc:K.canWr i nm=true):K.vars[i]? = some nm/\nm∈K.wr/\(env.kindOf nm=some .local\/env.kindOf nm=some .cell):=by
 have h1:=AAH.mp hc
 have h2:=AAH.mp h1.1
 rw [AM h]
 exact ⟨AAG h2.1,List.contains_iff_mem.mp h2.2,(ABC.mp h1.2).imp Kx.kd_eq Kx.kd_eq⟩
theorem H7 {j:Nat} {v w:V} (h:(ρ.set i (some w))[j]? = some (some v)):(j=i/\w=v)\/(j≠i/\ρ[j]? = some (some v)):=by
 by_cases q:i=j
 ·subst q
  by_cases hl:i < ρ.length
  ·rw [AB1 hl] at h; exact .inl ⟨rfl,AAA (AAA h)⟩
  ·rw [List.getElem?_eq_none (by rw [AB0]; exact Nat.le_of_not_lt hl)] at h; exact Ac h
 ·rw [List.getElem?_set_ne q] at h
  exact .inr ⟨fun e=>q e.symm,h⟩
theorem G1 {vars:List Str} (hn:vars.Nodup) {i j:Nat} {n:Str} (h1:vars[i]? = some n) (h2:vars[j]? = some n):i=j:=by
 obtain ⟨a,ha⟩:=AAM.mp h1
 obtain ⟨b,hb⟩:=AAM.mp h2
 exact (List.getElem_inj hn).mp (ha.trans hb.symm)
theorem HQ {f:Addr->Option Obj} {a b:Addr} {m:Str->Option Value} {u:Option Value} (hn:NsF f a m) (hc:Fg f b u):b≠a:=by
 obtain ⟨o,es,ep,ho,hd,_⟩:=hn
 obtain ⟨o',ho',hd'⟩:=hc
 intro q
 rw [q,ho] at ho'
 rw [<-AAA ho',hd] at hd'
 exact nomatch hd'
theorem G8 {a b:Addr} {o:Obj} (h:g.hid a≠none):(g.hide b o).hid a≠none:=by
 show (if a=b then some o else g.hid a)≠none
 by_cases q:a=b
 ·rw [if_pos q]; exact fun q=>nomatch q
 ·rw [if_neg q]; exact h
theorem Inv.store {A':Around} {Q:Unit->Shared->Prop} (I:Inv n c ρ g σ s) (hc:c.K.canWr i nm=true) (r:As c.T g v X) (h:∀ g' s',G.le c.own g g'->G.up g g'->Inv n c (ρ.set i (some v)) g' σ s'->Q () s'):wpAny (model c.T.prog c.T.w) A' (storeName c.env nm X) Q Er s:=by
 obtain ⟨h1,h2,h3⟩:=RI I.cx.names hc
 refine I.loc.ns _ fun m hm hs=>?_
 have oth:∀ {j nm' w},c.K.vars[j]? = some nm'->(ρ.set i (some v))[j]? = some (some w)->(nm'=nm/\v=w)\/(nm'≠nm/\ρ[j]? = some (some w)):=fun {j nm' w} e1 e2=>(H7 e2).imp (fun q=>⟨Av e1 (q.1▸h1),q.2⟩) fun q=>⟨fun q'=>q.1 (G1 I.cx.nd e1 (q'▸h1)),q.2⟩
 rcases h3 with hk | hk
 ·refine wpAny_storeName_local hk (I.has.ns hm) (fun h' hn hb=>?_) (by rw [I.cx.kind]; rfl)
  obtain ⟨o₀,_,_,e0,_⟩:=id hm
  obtain ⟨o,es,ep,ho,hd⟩:=hn
  have up:G.up g (g.hide c.env.locals (frO o)):=⟨fun _ _ e=>e,fun _ _ e=>e⟩
  refine h (g.hide c.env.locals (frO o)) _ (.hide I.cx.oloc) up ⟨I.toAt.stepF up (I.frs.hideF rfl hd.1) (I.has.rehideH e0 (fun b x q e=>(hb.2 b q).trans e) (.fr ho)),I.cx,fun R_ k=>k (fun x=>if x=nm then some X else m x) ⟨frO o,es,ep,G.hide_self,hd⟩ fun j nm' w e1 e2 e3=>?_,fun nm' hk' R_ k=>I.loc.ce nm' hk' R_ fun a u q1 q2 q3=>k a u q1 (q2.to fun o' e=>(G.hide_ne (HQ hm q2)).trans e) fun j w e1 e2=>?_,fun a ha=>G8 (I.loc.ow a ha)⟩
  ·show ∃ x,(if nm'=nm then some X else m nm')=some x/\_
   rcases oth e1 e2 with ⟨q,q'⟩ | ⟨q,q'⟩
   ·rw [if_pos q,<-q']; exact ⟨X,rfl,As.mono up _ _ r⟩
   ·rw [if_neg q]; exact BP up (hs j nm' w e1 q' e3)
  ·rcases oth e1 e2 with ⟨q,q'⟩ | ⟨q,q'⟩
   ·rw [q,hk] at hk'; exact hk'.elim (fun q=>nomatch q) fun q=>nomatch q
   ·exact BP up (q3 j w e1 q')
 ·refine I.loc.ce nm (.inl hk) _ fun a u q1 q2 q3=>wpAny_storeName_cell I.cx.kind hk q1 (I.has.cell q2) fun h' hn hb=>?_
  obtain ⟨o₀,e0,_⟩:=id q2
  obtain ⟨o,ho,hd⟩:=hn
  have up:G.up g (g.hide a o):=⟨fun _ _ e=>e,fun _ _ e=>e⟩
  refine h (g.hide a o) _ (.hide (I.cx.ocell nm h2 a hk q1)) up ⟨I.toAt.stepF up (I.frs.hideC q2) (I.has.rehide e0 (fun b x q e=>(hb.2 b q).trans e) ho),I.cx,fun R_ k=>k m (hm.to fun o' e=>(G.hide_ne (HQ hm q2).symm).trans e) fun j nm' w e1 e2 e3=>?_,fun nm' hk' R_ k=>?_,fun a ha=>G8 (I.loc.ow a ha)⟩
  ·rcases oth e1 e2 with ⟨q,q'⟩ | ⟨q,q'⟩
   ·rw [q,hk] at e3; exact nomatch e3
   ·exact BP up (hs j nm' w e1 q' e3)
  ·by_cases q:nm'=nm
   ·refine k a (some X) (q▸q1) ⟨o,G.hide_self,hd⟩ fun j w e1 e2=>(oth e1 e2).elim (fun p=>p.2▸⟨X,rfl,As.mono up _ _ r⟩) fun p=>absurd q p.1
   ·refine I.loc.ce nm' hk' R_ fun a' u' p1 p2 p3=>k a' u' p1 (p2.to fun o' e=>(G.hide_ne fun (q':a'=a)=>q (I.cx.cinj nm' nm a (q'▸p1) q1)).trans e) fun j w e1 e2=>(oth e1 e2).elim (fun p=>absurd p.1 q) fun p=>BP up (p3 j w e1 p.2)
theorem Inv.asgn {A':Around} {p:Pos} {Q:Unit->Shared->Prop} (I:Inv n c ρ g σ s) (hc:c.K.canWr i nm=true) (r:As c.T g v X) (h:∀ g' s',G.le c.own g g'->G.up g g'->Inv n c (ρ.set i (some v)) g' σ s'->Q () s'):wpAny (model c.T.prog c.T.w) A' (assign (.Name nm p) c.env X) Q Er s:=by
 rw [arm_assign_Name]
 exact AAD (AA7 (wpAny_bindName (I.store hc r h)))
theorem Ku {ts:List Nat}:∀ {es:List Expr},LR c.K ts es->∀ {vs:List V} {Xs:List Value} {ρ:Ah} {g:G} {s:Shared} {Q:Unit->Shared->Prop},Inv n c ρ g σ s->Au c.T g vs Xs->vs.length=ts.length ->
 (∀ g' s',G.le c.own g g'->Inv n c (DB ρ ts vs) g' σ s'->Q () s')->wpAny (model c.T.prog c.T.w) c.A (assignInOrder ((assignEach es c.env).map (·.2)) Xs) Q Er s:=by
 induction ts with
 | nil =>
  intro es hc vs Xs ρ g s Q I r hl h
  obtain rfl:es=[]:=hc
  obtain rfl:vs=[]:=List.length_eq_zero_iff.mp hl
  rw [r.nil]
  exact AAY (h g s (.refl _ _) I)
 | cons t ts ih =>
  intro es hc vs Xs ρ g s Q I r hl h
  cases vs with
  | nil=>exact C7 hl rfl
  | cons v vs =>
   obtain ⟨X,Xs,rfl,r1,r2⟩:=r.cons
   refine hc (fun es=>wpAny (model c.T.prog c.T.w) c.A (assignInOrder ((assignEach es c.env).map (·.2)) (X::Xs)) Q Er s) fun nm p l h1 h2=>?_
   show wpAny _ _ (holding Xs (assign (.Name nm p) c.env X)>>=fun _=>assignInOrder ((assignEach l c.env).map (·.2)) Xs) _ _ _
   exact AAD (AA8 (I.asgn h1 r1 fun g₁ s₁ le1 up I1=>ih h2 I1 (Au.mono up r2) (Nat.succ.inj hl) fun g' s' le' I'=>h g' s' (le1.trans le') I'))
theorem US {ts:List Nat}:∀ {es:List Expr},LR c.K ts es->(assignEach es c.env).length=ts.length/\(assignEach es c.env).findIdx? (·.1)=none:=by
 induction ts with
 | nil=>intro es hc; rw [show es=[] from hc]; exact ⟨rfl,rfl⟩
 | cons t ts ih =>
  intro es hc
  refine hc (fun es=>(assignEach es c.env).length=ts.length+1/\(assignEach es c.env).findIdx? (·.1)=none) fun nm p l h1 h2=>⟨congrArg (· + 1) (ih h2).1,?_⟩
  show ((false,assign (.Name nm p) c.env)::assignEach l c.env).findIdx? (·.1)=none
  rw [List.findIdx?_cons,(ih h2).2]; rfl
theorem Inv.unpack {ts:List Nat} {es:List Expr} {k:Nat} {p:Pos} {vs:List V} {Xs:Array Value} {t:Addr} {Q:Unit->Shared->Prop} (I:Inv n c ρ g σ s) (hc:LR c.K ts es) (ht:s.heap.IsTuple t Xs) (r:Au c.T g vs Xs.toList) (hl:vs.length=ts.length)
 (h:∀ g' s',G.le c.own g g'->Inv n c (DB ρ ts vs) g' σ s'->Q () s'):wpAny (model c.T.prog c.T.w) c.A (assign (.Tuple es k p) c.env (.ref t)) Q Er s:=by
 obtain ⟨l1,l2⟩:=US (c:=c) hc
 refine wpAny_assign_Tuple I.hh.1 ht (by rw [l1,<-hl,r.length]; rfl) l2 fun h' he=>?_
 exact Ku hc (I.step (.refl _ _) (I.has.keep fun b o e=>he b o (fun q=>by rw [q,Bm] at e; exact Ac e) e)) r hl h
theorem SS.ret (h:SE n e ρ σ v σ') (hq:Q (.ret v) σ'):SS n (.ret e) ρ σ Q:=fun c g s x hc I=>hc (fun x=>c.wp (exec x c.env) (Bv n c g Q) s) fun ex p hc=>Bc (arm_exec_Return ..) (AAD (AA7
 (B7 (h c g s ex hc I) fun X g₁ s₁ le a₁ r1=>AAY fun R_ _ k2=>k2 v X σ' g₁ hq le.toO a₁ (I.step le a₁).loc.ow r1)))
theorem R6 {prog:Program} {w:World} {A:Around} {s:Shared} {Q:Flow->Shared->Prop} {E:Value->Shared->Prop} {e:Expr} {p:Pos} {v:Value} (h:Q .next s):wpAny (model prog w) A (dropValue e p v) Q E s:=by
 have key:∀ a,wpAny (model prog w) A (dropValue (.List [] default) p (.ref a)) Q E s:=fun a=>by
  refine AAD (AA7 (AAD (wpAny_runValue (codeAny_builtin entry_let_go ?_))))
  unfold Builtin.«proto.let_go»
  exact AAY (AAY h)
 have key2:wpAny (model prog w) A (dropValue (.List [] default) p v) Q E s:=by
  cases v <;> first | exact AAY h | exact key _
 have to:∀ t,t=dropValue (.List [] default) p v->wpAny (model prog w) A t Q E s:=fun t e=>e▸key2
 cases e <;> first | exact AAY h | exact to _ (by kernel_rfl)
theorem SS.exp (hp:Bz e=false) (h:SE n e ρ σ v σ') (hq:Q (.next ρ) σ'):SS n (.exp e) ρ σ Q:=fun c g s x hc I=>hc (fun x=>c.wp (exec x c.env) (Bv n c g Q) s) fun ex p hc=>by
 have hi:interactive c.env=false:=by unfold interactive; rw [I.cx.kind]; rfl
 rw [arm_exec_Expr]
 refine AAD (AA7 ?_)
 rw [hi]
 show c.wp (swapsWith ex none p.line c.env>>=_) _ _
 rw [D9 e hp hc,pure_bind,if_neg ABB]
 exact B1 h hc I fun X g₁ s₁ le I1 r1=>R6 fun R_ k1 _=>k1 ρ σ' g₁ hq le.toO I1
theorem SS.asg (hp:Bz e=false) (h:SE n e ρ σ v σ') (hq:Q (.next (ρ.set i (some v))) σ'):SS n (.asg i e) ρ σ Q:=fun c g s x hc I=>hc (fun x=>c.wp (exec x c.env) (Bv n c g Q) s) fun nm p ex p' h1 hc _=>by
 rw [arm_exec_Assign]
 refine AAD (AA7 ?_)
 show c.wp (swapsWith ex (some (.Name nm p)) p'.line c.env>>=_) _ _
 rw [D9 e hp hc,pure_bind,if_neg ABB]
 refine B1 h hc I fun X g₁ s₁ le I1 r1=>?_
 rw [show swappedStores [.Name nm p] ex c.env=pure none by unfold swappedStores; rfl,pure_bind]
 unfold assignStores
 show c.wp (assignAll X [assign (.Name nm p) c.env]>>=fun _=>pure Flow.next) _ _
 rw [show assignAll X [assign (.Name nm p) c.env]=assign (.Name nm p) c.env X by first | rfl | (unfold assignAll; rfl)]
 exact AAD (I1.asgn h1 r1 fun g2 s2 le2 _ I2=>AAY fun R_ k1 _=>k1 _ σ' g2 hq (le.toO.trans le2) I2)
end
end Mine
namespace Mine
open PySem PySem.Calls
section
variable {n:Nat} {c:Cx} {ρ ρ':Ah} {g g' g₁:G} {σ σ' σ₁ σ₂ σ3:Aa} {s s':Shared} {i:Nat} {nm:Str} {v x y z:V} {X:Value} {e a b d:E} {Q M:Fl->Aa->Prop} {st r:S} {vs:List V} {xs:List Nat}
theorem Bv.after {f:Flow} (le:G.le c.own g g₁) (h:Bv n c g₁ Q f s'):Bv n c g Q f s':=fun R_ k1 k2=>h R_ (fun ρ σ g' q l I=>k1 ρ σ g' q (le.trans l) I) fun v x σ g' q l H w r=>k2 v x σ g' q (le.trans l) H w r
theorem Bv.elim {f:Flow} {P:Prop} (h:Bv n c g Q f s') (k1:∀ ρ σ' g',f=.next->Q (.next ρ) σ'->G.le c.own g g'->Inv n c ρ g' σ' s'->P) (k2:∀ v x σ' g',f=.ret x->Q (.ret v) σ'->G.le c.own g g'->Has c.T g' σ' s'->(∀ a,a∈c.own->g'.hid a≠none)->As c.T g' v x->P):P :=
 h (fun f'=>f=f'->P) (fun ρ σ g' q l I e=>k1 ρ σ g' e q l I) (fun v x σ g' q l H w r e=>k2 v x σ g' e q l H w r) rfl
theorem Bv.mono {f:Flow} (hm:∀ fl σ,M fl σ->Q fl σ) (h:Bv n c g M f s'):Bv n c g Q f s':=fun R_ k1 k2=>h R_ (fun ρ σ g' q l I=>k1 ρ σ g' (hm _ _ q) l I) fun v x σ g' q l H w r=>k2 v x σ g' (hm _ _ q) l H w r
theorem SS.mono (hm:∀ fl σ,M fl σ->Q fl σ) (h:SS n st ρ σ M):SS n st ρ σ Q:=fun c g s x hc I=>AAO (h c g s x hc I) (fun _ _ p=>p.mono hm) fun _ _ h=>h
theorem SSs.mono (hm:∀ fl σ,M fl σ->Q fl σ) (h:SSs n st ρ σ M):SSs n st ρ σ Q:=fun c g s x hc I=>AAO (h c g s x hc I) (fun _ _ p=>p.mono hm) fun _ _ h=>h
def TR (n:Nat) (r:S) (Q:Fl->Aa->Prop) (fl:Fl) (σ:Aa):Prop:=match fl with | .next ρ=>SSs n r ρ σ Q | .ret v=>Q (.ret v) σ
theorem SSs.nil (h:Q (.next ρ) σ):SSs n .nil ρ σ Q:=fun c g s xs hc I=>by
 obtain rfl:xs=[]:=hc
 exact wpAny_execs_nil fun R_ k1 _=>k1 ρ σ g h (.refl _ _) I
theorem SSs.cons (h:SS n st ρ σ (TR n r Q)):SSs n (.cons st r) ρ σ Q:=fun c g s xs hc I=>hc (fun xs=>c.wp (execs xs c.env) (Bv n c g Q) s) fun x l h1 h2=>by
 rw [execs_cons]
 refine AAD (AAO (h c g s x h1 I) (fun f s₁ p=>p.elim (fun ρ1 σ₁ g₁ e q le I1=>?_) fun v x σ₁ g₁ e q le H w r=>?_) fun _ _ h=>h)
 ·subst e
  exact AAO (q c g₁ s₁ l h2 I1) (fun _ _ p=>p.after le) fun _ _ h=>h
 ·subst e
  exact AAY fun R_ _ k2=>k2 v x σ₁ g₁ q le H w r
theorem SS.ite {t:Bool} {p q:S} (h:ST n e ρ σ t σ₁) (h1:t=true->SSs n p ρ σ₁ Q) (h2:t=false->SSs n q ρ σ₁ Q):SS n (.ite e p q) ρ σ Q:=fun c g s x hc I=>hc (fun x=>c.wp (exec x c.env) (Bv n c g Q) s) fun ex xs ys pos c1 c2 c3=>by
 refine wpAny_If (AAO (h c g s ex c1 I) (fun b s₁ p=>p _ fun g₁ le a₁ e₁=>?_) fun _ _ h=>h)
 subst e₁
 cases b with
 | true=>exact AAO (h1 rfl c g₁ s₁ xs c2 (I.step le a₁)) (fun _ _ p=>p.after le.toO) fun _ _ h=>h
 | false=>exact AAO (h2 rfl c g₁ s₁ ys c3 (I.step le a₁)) (fun _ _ p=>p.after le.toO) fun _ _ h=>h
noncomputable def WhQ (n:Nat) (e:E) (b:S) (Q:Fl->Aa->Prop):Nat->Ah->Aa->Prop
 | 0,_,_=>False
 | k+1,ρ,σ=>∃ t σ₁,ST n e ρ σ t σ₁/\(t=false->Q (.next ρ) σ₁)/\(t=true->SSs n b ρ σ₁ fun fl σ'=>match fl with | .next ρ'=>WhQ n e b Q k ρ' σ' | .ret v=>Q (.ret v) σ')
theorem SS.while_ {k:Nat} (h:WhQ n e r Q k ρ σ):SS n (.while_ e r) ρ σ Q:=fun c g s x hc I=>hc (fun x=>c.wp (exec x c.env) (Bv n c g Q) s) fun t bd p h1 h4=>by
 refine wpAny_While (codeAny_whileLoop (I:=fun k s'=>∀ R_:Prop,(∀ ρ σ g',WhQ n e r Q k ρ σ->G.le c.own g g'->Inv n c ρ g' σ s'->R_)->R_) (fun k s3 hz=>hz _ fun ρ3 σ3 g3 w le3 I3=>?_) k fun R_ kk=>kk ρ σ g h (.refl _ _) I)
 cases k with
 | zero=>exact w.elim
 | succ k =>
  obtain ⟨q,σ4,w1,w2,w3⟩:=w
  refine AAO (w1 c g3 s3 t h1 I3) (fun b s4 p=>p _ fun g4 le4 a4 e4=>?_) fun _ _ h=>h.elim
  subst e4
  have I4:=I3.step le4 a4
  have le:=le3.trans (le4.toO (own:=c.own))
  cases b with
  | false=>exact wpAny_execs_nil fun R_ k1 _=>k1 ρ3 σ4 g4 (w2 rfl) le I4
  | true =>
   refine AAO (w3 rfl c g4 s4 bd h4 I4) (fun f s5 p=>p.elim (fun ρ5 σ5 g5 e5 q l5 I5=>?_) fun v x σ5 g5 e5 q l5 H w r5=>?_) fun _ _ h=>h.elim
   ·subst e5
    exact ⟨k,Nat.lt_succ_self k,fun R_ kk=>kk ρ5 σ5 g5 q (le.trans l5) I5⟩
   ·subst e5
    exact fun R_ _ k2=>k2 v x σ5 g5 q (le.trans l5) H w r5
def PrS (x y z:V) (σ σ':Aa):Prop :=
 ∀ (r:Ar) (g:G) (s:Shared) (X Y Z:Value),At 0 r g σ s->As r.T g x X->As r.T g y Y->As r.T g z Z->r.wp (setItem X Y Z) (fun _ s'=>Has r.T g σ' s') s
theorem S6 {oe ie ve:Expr} {p p':Pos} {env:Env} (h:∀ t l,swapsWith ve t l env=pure false):exec (.Assign [.Subscript oe ie p] ve p') env=(standAt p'>>=fun _=>eval ve env>>=fun Z=>assign (.Subscript oe ie p) env Z>>=fun _=>pure Flow.next):=by
 rw [arm_exec_Assign]
 show (standAt p'>>=fun _=>swapsWith ve (some (.Subscript oe ie p)) p'.line env>>=_)=_
 rw [h]
 rfl
theorem SS.set (hp:Bz d=false) (hz:SE n d ρ σ z σ₁) (hx:SE n a ρ σ₁ x σ₂) (hy:SE n b ρ σ₂ y σ3) (h:PrS x y z σ3 σ') (hq:Q (.next ρ) σ'):SS n (.set a b d) ρ σ Q:=fun c g s st hc I=>hc (fun st=>c.wp (exec st c.env) (Bv n c g Q) s) fun oe ie p ve p' h1 h2 h3=>by
 refine Bc (S6 fun t l=>D9 d hp h1 t l c.env) (AAD (AA7 (B1 hz h1 I fun Z g₁ s₁ le1 I1 r1=>?_)))
 rw [arm_assign_Subscript]
 refine AAD (AAD (AA8 (AAO (hx c g₁ s₁ oe h2 I1) (fun X s2 p=>p _ fun g2 le2 a₂ r2=>?_) fun _ _ h=>h)))
 have I2:=I1.step le2 a₂
 refine AAD (AA8 (AAO (hy c g2 s2 ie h3 I2) (fun Y s3 p=>p _ fun g3 le3 a3 r3=>?_) fun _ _ h=>h))
 have I3:=I2.step le3 a3
 refine AAD (AA7 (AAD (AA8 (AAO (h c.toAr g3 s3 X Y Z I3.at0 (As.mono le3.toup _ _ r2) r3 (As.mono (le2.trans le3).toup _ _ r1)) (fun _ s4 a4=>wpAny_release (AAY ?_)) fun _ _ h=>h))))
 exact fun R_ k1 _=>k1 ρ σ' g3 hq (le1.trans (le2.trans le3)).toO (I3.step (.refl _ _) a4)
end
end Mine
namespace Mine
open PySem PySem.Calls
section
variable {T:Top} {A:Around} {s:Shared} {g:G} {Er:Value->Shared->Prop}
theorem Jb {l:Addr} {items:Array Value} {m:Nat} {k:Int} {t:Tok} {v:Value} {Q:Unit->Shared->Prop} (ho:s.heap.get? l=some { cls:=.type "list",dict:=none,data:=.seq items m,slots:=#[] }) (h0:0<=k) (hfit:k < 2 ^ 63) (hn:k < items.size)
 (hQ:∀ h' m',h'.get? l=some { cls:=.type "list",dict:=none,data:=.seq (items.setIfInBounds k.toNat v) m',slots:=#[] } -> Heap.SameBut l s.heap h'->Q () { s with heap:=h' }):wpAny (model T.prog T.w) A (setItem (.ref l) (.int k t) v) Q Er s:=by
 have hT:s.TypeIs (.ref l) "list" := ⟨_,ho,rfl⟩
 unfold setItem
 refine AA8 (AAD (wpAny_sequenceKey hT (by decide) (AAD (wpAny_callSpecial?_slot (name:=ACB "__setitem__") hT slot_list_setitem (wpAny_call_entry slot_list_setitem hT entry_list_setitem ?_ (args_list_setitem _ _ _))))))
 show wpAny _ _ (Builtin.List.listSubscript? (.int k t)>>=_) _ _ s
 refine AAD (wpAny_listSubscript_int (fitsIndex_of h0 hfit) ?_)
 clear hfit
 obtain ⟨j,rfl⟩:=Int.eq_ofNat_of_zero_le h0
 have hj:j < items.size:=Int.ofNat_lt.mp hn
 show wpAny _ _ ((seqItemAt l j>>=fun r=>pure (r.map (j,·)))>>=_) _ _ s
 refine AAD (AAD (wpAny_seqItemAt ho rfl (AAY ?_)))
 rw [AB5 hj]
 show wpAny _ _ (setSeqItemAt l j v>>=_) _ _ s
 refine AAD (wpAny_setSeqItemAt ho rfl ?_)
 have e:=Heap.get?_update_self (Obj.mapSeq (·.setIfInBounds j v)) ho rfl
 exact AAD (AAY (AAY ⟨.none,rfl,AAY (hQ _ _ e (Heap.SameBut.update ..))⟩))
end
section
variable {n:Nat} {c:Cx} {ρ ρ':Ah} {g g' g₁:G} {σ σ' σ₁ σ₂ σ3:Aa} {s s':Shared} {v x y z:V} {e a b d:E} {Q M:Fl->Aa->Prop} {ws vs:List V} {xs:List Nat} {k:Nat} {kvs:List (Str×PyData)} {kvp:List ((Str×Int)×PyData)} {w:Str} {q:Str×Int} {dd:PyData}
theorem UH {i:Int} (hσ:σ[k]? = some (.list ws)) (h0:0<=i) (hi:i < ws.length):PrS (.ref k) (vi i) z σ (σ.set k (.list (ws.set i.toNat z))):=fun r g s X Y Z A hx hy hz=>by
 obtain ⟨l,hk,rfl⟩:=hx
 obtain ⟨t,rfl⟩:=hy
 refine A.has.lst hk hσ fun xs m ho hr hn hl=>Jb ho h0 (Int.lt_trans hi (Int.ofNat_lt.mpr (E4 hl))) (hn▸hi) fun h' m' ho' hs=>?_
 exact A.has.relst hk (fun b x hb e=>(hs.2 b hb).trans e) ho' (by rw [Array.toList_setIfInBounds]; exact hr.set _ hz) (by rw [AB0]; exact hl)
theorem Mx {α β:Type} {R:α->β->Prop} {as:List α} {bs:List β} (h:Aw R as bs) (hl:as.length < line):bs.length<=sizeLine:=by rw [<-h.length,<-AR]; exact Nat.le_of_lt hl
theorem S8 (hσ:σ[k]? = some (.dictS kvs)) (hl:kvs.length < line):PrS (.ref k) (.d (.str w)) (.d dd) σ (σ.set k (.dictS (BG kvs w dd))):=fun r g s X Y Z A hx hy hz=>by
 obtain ⟨l,hk,rfl⟩:=hx
 obtain ⟨t,rfl,_⟩:=hy
 refine A.has.dictS hk hσ fun ws hD hr=>wpAny_setItem_pairs (k:=w) (strKind_is _ _ w t) hD (fun h' hD' hs=>?_) (Mx hr hl)
 obtain ⟨x,es,ep,hx,ho,hd,hk',hp,hn⟩:=hD'
 refine A.has.turn (ob:=.dictS (BG kvs w dd)) hk (fun b x hb e=>(hs.2 b hb).trans e) hx fun R_ kk=>kk es ep _ ho hd hk' hp hn ?_ (AAC (EK _ _ _) hl)
 have h:=Ny (f:=id) (key:=fun w:Str×Value=>w.1) (d:=dd) (w₀:=(w,Z)) (up:=fun p=>(p.1,Z)) (fun _ _ h=>h) (fun _ _ h=>h.1) (k:=w) ⟨rfl,hz⟩ (fun p w h e=>⟨h.1,hz⟩) hr
 rw [<-LL] at h
 exact h
theorem S9 (hσ:σ[k]? = some (.dictP kvp)) (hl:kvp.length < line):PrS (.ref k) (vp q) (.d dd) σ (σ.set k (.dictP (BG kvp q dd))):=fun r g s X Y Z A hx hy hz=>by
 obtain ⟨l,hk,rfl⟩:=hx
 refine Hq hy (R_:=fun Y=>r.wp (setItem (.ref l) Y Z) (fun _ s'=>Has r.T g (σ.set k (.dictP (BG kvp q dd))) s') s) fun b hb=>A.has.dictP hk hσ fun ws hD hr=>wpAny_setItem_heap (knd:=tupleKind (BS r.T.prog r.T.w)) (AAS (AA9 _ 40) A.room) (Ez A.has hb) hD (fun h' hD' hs=>?_) (Mx hr hl)
 obtain ⟨x,es,ep,hx,ho,hd,he,_,hn⟩:=hD'
 refine A.has.turn (ob:=.dictP (BG kvp q dd)) hk (fun b x hb e=>(hs.2 b hb).trans e) hx fun R_ kk=>kk es ep _ ho hd he hn ?_ (AAC (EK _ _ _) hl)
 have h:=Ny (f:=FO) (key:=fun w:List (Str ⊕ Int)×Addr×Value=>w.1) (d:=dd) (w₀:=(FO q,b,Z)) (up:=fun p=>(p.1,p.2.1,Z)) Lg (fun _ _ h=>h.1) (k:=q) ⟨rfl,hb,hz⟩ (fun p w h e=>⟨h.1,h.2.1,hz⟩) hr
 unfold storedH atKey
 rw [Option.isSome_map]
 exact h
end
end Mine
namespace Mine
open PySem PySem.Calls
section
variable {n:Nat} {c:Cx} {ρ ρ':Ah} {g g' g₁:G} {σ σ' σ₁ σ₂ σ3:Aa} {s s':Shared} {v x y z:V} {e a b d:E} {Q M:Fl->Aa->Prop} {ws vs:List V} {xs:List Nat} {k:Nat}
theorem RB {ob:O} (h:∀ (T:Top) (g:G),Dp T g ob { cls:=.type "dict",data:=.dict #[] }):SE n .dct ρ σ (.ref σ.length) (σ++[ob]):=fun c g s ex hc I=>hc (fun ex=>c.wp (eval ex c.env) (Ans c.toAr g (.ref σ.length) (σ++[ob])) s) fun p=>wpAny_Dict_empty
 (.mk (g.add s.heap.objs.size) .add ((I.has.free (Bm _)).add (ob:=ob) (I.has.keep fun b o e=>AAK _ e) (AA3 _ rfl) (h _ _)) ⟨_,I.has.addAt,rfl⟩)
theorem SE.dctS:SE n .dct ρ σ (.ref σ.length) (σ++[.dictS []]):=RB fun T g R_ k=>by
 obtain ⟨o,es,ep,h1,h2,h3,h4,h5,h6⟩:=Heap.DictOf.new (knd:=strKind T.prog T.w) {}
 rw [AA3 _ rfl] at h1
 rw [<-AAA h1] at h2 h3
 exact k es ep [] h2 h3 h4 h5 h6 trivial (ABF _)
theorem SE.dctP:SE n .dct ρ σ (.ref σ.length) (σ++[.dictP []]):=RB fun T g R_ k=>k #[] _ [] ⟨rfl,rfl,rfl⟩ rfl rfl ABY trivial (ABF _)
theorem Uz {T:Top} {us:List (PyData ⊕ Nat)}:∀ {Xs:List Value},Au T g (us.map wv) Xs->Aw (GK g) us Xs:=by
 induction us with
 | nil=>intro Xs h; rw [h.nil]; exact trivial
 | cons u us ih =>
  intro Xs h
  obtain ⟨X,Xs,rfl,h1,h2⟩:=h.cons
  exact ⟨by cases u <;> exact h1,ih h2⟩
theorem SE.tupR {us:List (PyData ⊕ Nat)} (h:SEs n a ρ σ (us.map wv) σ₁) (hl:us.length<=line):SE n (.tup a) ρ σ (.tup us) σ₁:=fun c g s ex hc I=>hc (fun ex=>c.wp (eval ex c.env) (Ans c.toAr g (.tup us) σ₁) s) fun vs k p hc=>Bc (arm_eval_Tuple ..) (AAD (AA7
 (B7 (h c g s vs p hc I) fun xs g₁ s₁ le a₁ r1=>wpAny_newTuple (by
  have F:=a₁.free (Bm _)
  have up:=(G.le.put (own:=[]) (o:={ cls:=.type "tuple",data:=.seq xs.toArray }) F.fz).toup
  exact .mk (g₁.put s₁.heap.objs.size _) (le.trans (.put F.fz)) (F.put (a₁.keep fun b o e=>AAK _ e) (AA3 _ rfl)) fun R_ k=>k _ _ xs.toArray _ G.put_self rfl rfl (by rw [List.toList_toArray]; exact (Uz r1).mono (GK.mono up)) hl) (by rw [<-r1.length,<-AR,AAB]; exact hl))))
theorem SE.fcall {f:Nat} (h:SEs n a ρ σ vs σ₁) (hf:FN n f vs σ₁ v σ₂):SE n (.fcall f a) ρ σ v σ₂:=fun c g s ex hc I=>hc (fun ex=>c.wp (eval ex c.env) (Ans c.toAr g v σ₂) s) fun nm np es p h1 h2=>by
 refine PyProof.Rows.Call_Name rfl (Cn I h1 fun x hv=>?_)
 obtain ⟨l,hl,rfl⟩:=hv
 obtain ⟨o,fd,ho,hd⟩:=I.cx.rd.fnob f l hl
 refine callWith_function (o:=o) (fd:=fd) (C9 (r:=c.toAr) h2 (AAO (h c g s es p h2 I) (fun Xs s₁ p=>p _ fun g₁ le a₁ r1=>?_) fun _ _ h=>h))
 have I1:=I.step le a₁
 exact ⟨⟨I1.base _ _ ho,hd⟩,B0 (r:=c.toAr) le (hf c.toAr g₁ s₁ l Xs hl I1.toAt r1)⟩
theorem Nc {ts:List Expr} {k:Nat} {p p':Pos} {ve:Expr} {env:Env} (h:∀ t l,swapsWith ve t l env=pure false) (h':swappedStores [.Tuple ts k p] ve env=pure none):exec (.Assign [.Tuple ts k p] ve p') env=(standAt p'>>=fun _=>eval ve env>>=fun Z=>assign (.Tuple ts k p) env Z>>=fun _=>pure Flow.next):=by
 rw [arm_exec_Assign]
 show (standAt p'>>=fun _=>swapsWith ve (some (.Tuple ts k p)) p'.line env>>=_)=_
 rw [h]
 show (standAt p'>>=fun _=>eval ve env>>=fun Z=>swappedStores [.Tuple ts k p] ve env>>=_)=_
 rw [h']
 rfl
theorem SS.unp (hp:Bz e=false) (hs:∀ {K:Kx} {ex:Expr},IsE e K ex->∀ ts k p env,swappedStores [.Tuple ts k p] ex env=pure none) (h:SE n e ρ σ v σ₁) (hv:BY v=some vs) (hl:vs.length=xs.length) (hq:Q (.next (DB ρ xs vs)) σ₁):SS n (.unp xs e) ρ σ Q:=fun c g s x hc I=>hc (fun x=>c.wp (exec x c.env) (Bv n c g Q) s) fun ts k p ve p' h1 h2=>by
 refine Bc (Nc (fun t l=>D9 e hp h2 t l c.env) (hs h2 _ _ _ _)) (AAD (AA7 (B1 h h2 I fun X g₁ s₁ le I1 r1=>?_)))
 exact C6 I1.has r1 hv (R_:=fun X=>c.wp (assign (.Tuple ts k p) c.env X>>=fun _=>pure Flow.next) (Bv n c g Q) s₁) fun t Xs hT hr _ _=>AAD (I1.unpack h1 hT hr hl fun g2 s2 le2 I2=>AAY fun R_ k1 _=>k1 _ σ₁ g2 hq (le.toO.trans le2) I2)
end
end Mine
namespace Mine
open PySem PySem.Calls
def Co (σ:Aa) (kps:List (Nat×List V)):Prop:=∀ k ws,(k,ws)∈kps->σ[k]? = some (.list ws)
noncomputable def ItS (T:Top) (b:Bool) (kps:List (Nat×List V)) (its:List Addr) (a:Addr):List V->G->Prop
 | [],g₀=>(∀ c,c∈its->g₀.hid c≠none)/\∀ (r:Ar) (g:G) (σ:Aa) (s:Shared),r.T=T->At 0 r g σ s->G.up g₀ g->(∀ c,c∈its->g.hid c=g₀.hid c)->Co σ kps->∀ Q:Option Value->Shared->Prop,
  (∀ h',(∀ c o,c∉its->s.heap.get? c=some o->h'.get? c=some o)->Q none { s with heap:=h' })->r.wp (pyNext (.ref a)) Q s
 | v::vs,g₀=>(∀ c,c∈its->g₀.hid c≠none)/\∀ (r:Ar) (g:G) (σ:Aa) (s:Shared),r.T=T->At 0 r g σ s->G.up g₀ g->(∀ c,c∈its->g.hid c=g₀.hid c)->Co σ kps->∀ (t:Expr) (Q:Option Value->Shared->Prop),(b=true->∃ es k p,t=.Tuple es k p) ->
  (∀ X s₁,(∀ Q':Unit->Shared->Prop,(∀ g' s',G.le its g g'->Has r.T g' σ s'->As r.T g' v X->ItS T b kps its a vs g'->Q' () s')->r.wp (letOwnedTupleGo t (.ref a) X) Q' s₁)->Q (some X) s₁)->r.wp (pyNext (.ref a)) Q s
def IQ (T:Top) (kps:List (Nat×List V)) (l:Addr) (ws:List V) (g₀:G):Prop:=∀ (g:G) (σ:Aa) (s:Shared),Has T g σ s->G.up g₀ g->Co σ kps->∀ R_:Prop,(∀ xs,s.heap.IsList l xs->Au T g ws xs.toList->R_)->R_
section
variable {n:Nat} {T:Top} {r:Ar} {c:Cx} {ρ ρ':Ah} {g g' g₁:G} {σ σ' σ₁ σ₂ σ3:Aa} {s s':Shared} {v x y z:V} {e a b d:E} {ws vs:List V} {kps:List (Nat×List V)} {its:List Addr} {it l:Addr} {q:Bool} {prog:Program} {w:World} {A:Around} {E:Value->Shared->Prop}
theorem ItS.mono (up:G.up g g') (hd:∀ c,c∈its->g'.hid c=g.hid c) (h:ItS T q kps its it vs g):ItS T q kps its it vs g':=by
 cases vs with
 | nil=>exact ⟨fun c hc=>(hd c hc).symm▸h.1 c hc,fun r g2 σ s hT A up' hd'=>h.2 r g2 σ s hT A (up.trans up') fun c hc=>(hd' c hc).trans (hd c hc)⟩
 | cons v vs=>exact ⟨fun c hc=>(hd c hc).symm▸h.1 c hc,fun r g2 σ s hT A up' hd'=>h.2 r g2 σ s hT A (up.trans up') fun c hc=>(hd' c hc).trans (hd c hc)⟩
theorem ItS.at (h:ItS T q kps its it vs g):∀ c,c∈its->g.hid c≠none:=by cases vs with | nil=>exact h.1 | cons v vs=>exact h.1
theorem AG {o:Obj} {a:Addr} (h:g.hid a=some o):g.hid a≠none:=fun q=>Am q h
theorem AF {P:Addr->Prop} (h:P it):∀ c,c∈[it]->P c:=fun c hc=>AAJ.mp hc▸h
theorem IQ.frozen {o:Obj} {xs:Array Value} {m:Nat} (hf:g.fz l=some o) (hc:o.cls=.type "list") (hd:o.data=.seq xs m) (hr:Au T g ws xs.toList):IQ T [] l ws g:=fun g' σ s H up _ R_ k=>k xs ⟨o,H.fz _ _ (up.fz _ _ hf),hc,m,hd⟩ (Au.mono up hr)
theorem IQ.tracked {k:Nat} (hk:g.mu[k]? = some l):IQ T [(k,ws)] l ws g:=fun g' σ s H up hq R_ kk=>H.lst (up.mu _ _ hk) (hq k ws (AAJ.mpr rfl)) fun xs m ho hr _ _=>kk xs ⟨_,ho,rfl,m,rfl⟩ hr
theorem SK {b c:Bool} {x y:Sem Unit} {Q:Unit->Shared->Prop} (hb:b=false) (h:wpAny (model prog w) A y Q E s):wpAny (model prog w) A (if (b&&c)=true then x else y) Q E s:=by
 rw [hb,Bool.false_and,if_neg ABB]; exact h
theorem Id {target:Expr} {a:Addr} {o:Obj} {n:String} {v:Value} {Q:Unit->Shared->Prop} (ho:s.heap.get? a=some o) (hc:o.cls=.type n)
 (hn:["enumerate","zip","dict_itemiterator","dict_reverseitemiterator","odict_iterator","itertools.zip_longest","itertools.pairwise"].contains n=false) (h:Q () s) :
 wpAny (model prog w) A (letOwnedTupleGo target (.ref a) v) Q E s:=by
 have key:∀ v:Addr,wpAny (model prog w) A (letOwnedTupleGo (.List [] default) (.ref a) (.ref v)) Q E s:=fun v=>by
  refine AAD (wpAny_load ho ?_)
  rw [hc]
  cases o.data <;> first
   | exact AAY h
   | exact SK hn (AAY h)
 have key2:wpAny (model prog w) A (letOwnedTupleGo (.List [] default) (.ref a) v) Q E s:=by
  cases v <;> first | exact AAY h | exact key _
 cases target <;> first | exact AAY h | exact key2
theorem JX {o o':Obj} {nm:String} {t:Expr} {X:Value} {Q':Unit->Shared->Prop} (A:At 0 r g σ s) (e:g.hid it=some o) (hs:Heap.SameBut it s.heap s'.heap) (ho:s'.heap.get? it=some o') (hc:o'.cls=.type nm)
 (hn:["enumerate","zip","dict_itemiterator","dict_reverseitemiterator","odict_iterator","itertools.zip_longest","itertools.pairwise"].contains nm=false) (hg:s'.gens=s.gens) (hos:s'.os=s.os)
 (k:∀ g' s',G.le [it] g g'->G.up g g'->g'.hid it=some o'->Has r.T g' σ s'->Q' () s'):r.wp (letOwnedTupleGo t (.ref it) X) Q' s' :=
 Id ho hc hn (k (g.hide it o') s' (.hide (.head _)) ⟨fun _ _ e=>e,fun _ _ e=>e⟩ G.hide_self (A.has.rehide e (fun b x q e=>(hs.2 b q).trans e) ho hg hos))
theorem Dh {α:Type} {xs:List α} {i:Nat} {x:α} {r:List α} (h:xs.drop i=x::r):xs[i]? = some x/\xs.drop (i+1)=r:=by
 have h1:=congrArg List.head? h
 have h2:=congrArg List.tail h
 rw [List.head?_drop] at h1
 rw [List.tail_drop] at h2
 exact ⟨h1,h2⟩
theorem Th (hL:IQ T kps l ws g):∀ {i:Nat} {g₀:G} {o:Obj},ws.drop i=vs->G.up g g₀->g₀.hid it=some o->o.cls=.type "list_iterator" -> o.data=.fields #[.ref l,.int i 0]->ItS T false kps [it] it vs g₀:=by
 induction vs with
 | nil =>
  intro i g₀ o hv up0 e hc hd
  refine ⟨AF (AG e),fun r g' σ s hT A up hh hk Q hQ=>?_⟩
  subst hT
  have hit:s.heap.IsListIter it l i:=⟨o,(A.has.hd _ _ ((hh it (.head _)).trans e)).ex (AZ hc (by decide)),hc,hd⟩
  refine hL g' σ s A.has (up0.trans up) hk _ fun xs hl hr=>wpAny_pyNext_list_end A.hh.1 hit hl ?_ fun h' he=>hQ h' fun c o hc e=>he c o (fun q=>hc (q▸.head _)) e
  exact Array.getElem?_eq_none (by rw [<-ABA,<-hr.length]; exact List.drop_eq_nil_iff.mp hv)
 | cons v vs ih =>
  intro i g₀ o hv up0 e hc hd
  refine ⟨AF (AG e),fun r g' σ s hT A up hh hk t Q ht hQ=>?_⟩
  subst hT
  have e':=(hh it (.head _)).trans e
  have hit:s.heap.IsListIter it l i:=⟨o,(A.has.hd _ _ e').ex (AZ hc (by decide)),hc,hd⟩
  obtain ⟨q1,q2⟩:=Dh hv
  refine hL g' σ s A.has (up0.trans up) hk _ fun xs hl hr=>?_
  obtain ⟨X,hX,rX⟩:=hr.get q1
  refine wpAny_pyNext_list_item hit hl (ABJ.symm.trans hX) fun h' it' hs=>hQ X _ fun Q' k=>?_
  obtain ⟨o',ho',hc',hd'⟩:=it'
  exact JX (s':={ s with heap:=h' }) A e' hs ho' hc' (by decide) rfl rfl fun g2 s2 le up2 e2 H=>k g2 s2 le H (As.mono up2 _ _ rX) (ih q2 (up0.trans (up.trans up2)) e2 hc' hd')
end
end Mine
namespace Mine
open PySem PySem.Calls
noncomputable def upV (lo:Int):Nat->List V
 | 0=>[]
 | n+1=>.d (.int lo)::upV (lo+1) n
noncomputable def GT (k:Nat):List PyData->List V
 | []=>[]
 | x::xs=>.d (.tuple [.int k,x])::GT (k+1) xs
noncomputable def zp (x y:V):V:=match x with | .d a=>(match y with | .d b=>.d (.tuple [a,b]) | y=>.pr (.d a) y) | x=>.pr x y
noncomputable def He:List V->List V->List V
 | x::xs,y::ys=>zp x y::He xs ys
 | _,_=>[]
noncomputable def Fm:List Nat->List V
 | []=>[]
 | c::r=>.d (.str (L9 c))::Fm r
section
variable {n:Nat} {T:Top} {r:Ar} {c:Cx} {ρ ρ':Ah} {g g' g₁:G} {σ σ' σ₁ σ₂ σ3:Aa} {s s':Shared} {v x y z:V} {e a b d:E} {ws vs:List V} {kps:List (Nat×List V)} {its:List Addr} {it l:Addr} {q:Bool}
theorem Has.away (H:Has T g σ s) (hi:∀ c,c∈its->g.hid c≠none) (c:Addr) (hc:c∈its):g.fz c=none/\c∉g.mu/\∀ q,(c,q)∉T.tabs:=by
 cases e:g.hid c with
 | none=>exact absurd e (hi c hc)
 | some o=>exact ⟨(H.ah c o e).1,(H.ah c o e).2,H.hidTab e⟩
theorem Has.rehL (H:Has T g σ s) (hi:∀ c,c∈its->g.hid c≠none) (k:∀ c o,c∉its->s.heap.get? c=some o->s'.heap.get? c=some o) (hg:s'.gens=s.gens:=by rfl) (ho:s'.os=s.os:=by rfl):Has T ⟨g.fz,fun c=>if c∈its then s'.heap.get? c else g.hid c,g.mu⟩ σ s':=by
 have it:=H.away hi
 refine H.re _ (fun a o e=>?_) (fun b o e e'=>k b o (fun q=>Am (it b q).1 e) e') (fun b o e e'=>k b o (fun q=>(it b q).2.1 e) e') (fun t q o m e=>k t o (fun h=>(it t h).2.2 q m) e) hg ho
 by_cases q:a∈its
 ·rw [if_pos q] at e; exact ⟨.of e,it a q⟩
 ·rw [if_neg q] at e; exact ⟨(H.hd a o e).keep fun o=>k a o q,(H.ah a o e).1,(H.ah a o e).2,H.hidTab e⟩
theorem Uy {v w:V} {x y X:Value} (hx:As T g v x) (hy:As T g w y) (h:Cg g.fz "tuple" X (fun xs=>xs=[x,y]) 2):As T g (zp v w) X:=by
 have k:As T g (.pr v w) X:=Cg.mono (fun _ _ e=>e) (fun vs e=>⟨x,y,e,hx,hy⟩) h
 cases v with
 | d a=>cases w with
  | d b=>exact Cg.mono (P':=fun vs=>RepDs g.fz [a,b] vs) (fun _ _ e=>e) (fun vs (e:vs=[x,y])=>by rw [e]; exact ⟨hx,hy,trivial⟩) h
  | _=>exact k
 | _=>exact k
theorem Jo {x y:Value} {v w:V} (H:Has T g σ s) (hi:∀ c,c∈its->g.hid c≠none) (k:∀ c o,c∉its->s.heap.get? c=some o->s'.heap.get? c=some o)
 (pr:s'.heap.get? s.heap.objs.size=some { cls:=.type "tuple",data:=.seq #[x,y] }) (hx:As T g v x) (hy:As T g w y) (hg:s'.gens=s.gens) (ho:s'.os=s.os) {R_:Prop}
 (kk:∀ g',G.le its g g'->G.up g g'->Has T g' σ s'->As T g' (zp v w) (.ref s.heap.objs.size)->(∀ c,c∈its->g'.hid c=s'.heap.get? c)->R_):R_:=by
 have F:=H.free (Bm s.heap)
 have hn:s.heap.objs.size∉its:=fun q=>hi _ q F.hid
 have H1:=H.rehL (s':=s') hi k hg ho
 have F1:Dl T ⟨g.fz,fun c=>if c∈its then s'.heap.get? c else g.hid c,g.mu⟩ s.heap.objs.size:=⟨F.fz,(if_neg hn).trans F.hid,F.mu,F.tab⟩
 have up:=(G.le.put (own:=[]) (g:=⟨g.fz,fun c=>if c∈its then s'.heap.get? c else g.hid c,g.mu⟩) (o:={ cls:=.type "tuple",data:=.seq #[x,y] }) F1.fz).toup
 have up':G.up g (G.put ⟨g.fz,fun c=>if c∈its then s'.heap.get? c else g.hid c,g.mu⟩ s.heap.objs.size { cls:=.type "tuple",data:=.seq #[x,y] }):=⟨up.fz,up.mu⟩
 exact kk _ ⟨up',fun c hc=>if_neg hc⟩ up' (F1.put H1 pr) (Uy (As.mono up' _ _ hx) (As.mono up' _ _ hy) fun R_ k=>k _ _ #[x,y] _ G.put_self rfl rfl rfl (show 2<=line by decide)) fun c hc=>if_pos hc
theorem QI:∀ {m:Nat} {lo left:Int} {g₀:G},left.toNat=m->g₀.hid it=some { cls:=.type "range_iterator",dict:=none,data:=.fields #[rawInt lo,rawInt left,rawInt 1],slots:=#[] } -> ItS T false kps [it] it (upV lo m) g₀:=by
 intro m
 induction m with
 | zero =>
  intro lo left g₀ hm e
  refine ⟨AF (AG e),fun r g' σ s hT A up hh hk Q hQ=>?_⟩
  exact wpAny_pyNext_range_end A.hh.1 ((A.has.hd _ _ ((hh it (.head _)).trans e)).ex (AZ rfl (by decide))) (Int.toNat_eq_zero.mp hm) fun h' he=>hQ h' fun c o hc e=>he c o (fun q=>hc (q▸.head _)) e
 | succ m ih =>
  intro lo left g₀ hm e
  refine ⟨AF (AG e),fun r g' σ s hT A up hh hk t Q ht hQ=>?_⟩
  have e':=(hh it (.head _)).trans e
  refine wpAny_pyNext_range_item ((A.has.hd _ _ e').ex (AZ rfl (by decide))) (Int.pos_iff_toNat_pos.mpr (hm▸Nat.succ_pos m)) fun h' it' hs=>hQ _ _ fun Q' k=>?_
  exact JX (s':={ s with heap:=h',toks:=s.toks+1 }) A e' hs it' rfl (by decide) rfl rfl fun g2 s2 le up2 e2 H=>k g2 s2 le H ⟨_,rfl⟩ (ih (by rw [Int.pred_toNat,hm]; rfl) e2)
theorem Vj {z:Str} {t0:Tok} {ch:List Nat} (ha:z.cps.all (· < 128)=true):∀ {i:Nat} {g₀:G} {o:Obj},z.cps.toList.drop i=ch->g₀.hid it=some o->o.cls=.type "str_ascii_iterator" -> o.data=.fields #[.str z t0,.int i 0]->ItS T false kps [it] it (Fm ch) g₀:=by
 induction ch with
 | nil =>
  intro i g₀ o hv e hc hd
  refine ⟨AF (AG e),fun r g' σ s hT A up hh hk Q hQ=>?_⟩
  refine wpAny_pyNext_ascii_end A.hh.1 ⟨o,(A.has.hd _ _ ((hh it (.head _)).trans e)).ex (AZ hc (by decide)),hc,hd⟩ ?_ fun h' he=>hQ h' fun c o hc e=>he c o (fun q=>hc (q▸.head _)) e
  exact Array.getElem?_eq_none (by rw [<-ABA]; exact List.drop_eq_nil_iff.mp hv)
 | cons k ch ih =>
  intro i g₀ o hv e hc hd
  refine ⟨AF (AG e),fun r g' σ s hT A up hh hk t Q ht hQ=>?_⟩
  have e':=(hh it (.head _)).trans e
  obtain ⟨q1,q2⟩:=Dh hv
  refine wpAny_pyNext_ascii_item ⟨o,(A.has.hd _ _ e').ex (AZ hc (by decide)),hc,hd⟩ (ABJ.symm.trans q1) fun h' it' hs=>hQ _ _ fun Q' kk=>?_
  obtain ⟨o',ho',hc',hd'⟩:=it'
  exact JX (s':={ s with heap:=h',toks:=s.toks+1 }) A e' hs ho' hc' (by decide) rfl rfl fun g2 s2 le up2 e2 H=>kk g2 s2 le H ⟨_,rfl,L8 k⟩ (ih q2 e2 hc' hd')
theorem nhd {α:Type} {a c:α} {l:List α} (h:c∉a::l):c≠a:=fun q=>h (q▸.head _)
theorem ntl {α:Type} {a c:α} {l:List α} (h:c∉a::l):c∉l:=fun q=>h (.tail _ q)
theorem A9 {α:Type} {P:α->Prop}:∀ c,c∈([]:List α)->P c:=fun _ h=>nomatch h
theorem all_cons {α:Type} {P:α->Prop} {a:α} {l:List α} (h:P a) (t:∀ c,c∈l->P c):∀ c,c∈a::l->P c:=fun c q=>(AAR.mp q).elim (fun e=>e▸h) (t c)
noncomputable abbrev HZ (l:Addr) (i:Nat) (o:Obj):Prop:=o.cls=.type "list_iterator"/\o.data=.fields #[.ref l,.int i 0]
theorem V2 {xs:Array Value} {ds:List PyData} {i:Nat} (hr:Au T g (ds.map .d) xs.toList) (h:ds.drop i=[]):xs[i]? = none:=Array.getElem?_eq_none (by rw [<-ABA,<-hr.length,AAB]; exact List.drop_eq_nil_iff.mp h)
theorem Tg {xs:Array Value} {ds rest:List PyData} {d:PyData} {i:Nat} (hr:Au T g (ds.map .d) xs.toList) (h:ds.drop i=d::rest):∃ X,xs[i]? = some X/\A5 g.fz d X:=by
 obtain ⟨X,hX,rX⟩:=hr.get (k:=i) (a:=.d d) (by rw [ABI,(Dh h).1]; rfl)
 exact ⟨X,ABJ.symm.trans hX,rX⟩
theorem Oc {xs:Array Value} {ds:List V} {i:Nat} (hr:Au T g ds xs.toList) (h:ds.drop i=[]):xs[i]? = none:=Array.getElem?_eq_none (by rw [<-ABA,<-hr.length]; exact List.drop_eq_nil_iff.mp h)
theorem Lh {xs:Array Value} {ds rest:List V} {d:V} {i:Nat} (hr:Au T g ds xs.toList) (h:ds.drop i=d::rest):∃ X,xs[i]? = some X/\As T g d X:=by
 obtain ⟨X,hX,rX⟩:=hr.get (k:=i) (a:=d) (Dh h).1
 exact ⟨X,ABJ.symm.trans hX,rX⟩
theorem Ti {ds rest:List PyData} {ea:Addr} (hL:IQ T kps l (ds.map .d) g):∀ {i:Nat} {g₀:G} {o:Obj} {old:Value},ds.drop i=rest->G.up g g₀->ea≠it->g₀.hid ea=some { cls:=.type "enumerate",dict:=none,data:=.fields #[.none,.bool false,.ref it,rawInt i,.none,old],slots:=#[] } -> g₀.hid it=some o->HZ l i o->ItS T true kps [ea,it] ea (GT i rest) g₀:=by
 induction rest with
 | nil =>
  intro i g₀ o old hv up0 ne e1 e2 ho
  refine ⟨all_cons (AG e1) (all_cons (AG e2) A9),fun r g' σ s hT A up hh hk Q hQ=>?_⟩
  subst hT
  have f1:=(A.has.hd _ _ ((hh ea (.head _)).trans e1)).ex (AZ rfl (by decide))
  have f2:=(A.has.hd _ _ ((hh it (.tail _ (.head _))).trans e2)).ex (AZ ho.1 (by decide))
  exact hL g' σ s A.has (up0.trans up) hk _ fun xs hl hr=>wpAny_pyNext_enum_end A.hh.1 f1 ⟨o,f2,ho⟩ hl (V2 hr hv) fun h' he=>hQ h' fun c o hc e=>he c o (nhd (ntl hc)) e
 | cons d rest ih =>
  intro i g₀ o old hv up0 ne e1 e2 ho
  refine ⟨all_cons (AG e1) (all_cons (AG e2) A9),fun r g' σ s hT A up hh hk t Q ht hQ=>?_⟩
  subst hT
  have k1:=(hh ea (.head _)).trans e1
  have k2:=(hh it (.tail _ (.head _))).trans e2
  have f1:=(A.has.hd _ _ k1).ex (AZ rfl (by decide))
  have f2:=(A.has.hd _ _ k2).ex (AZ ho.1 (by decide))
  refine hL g' σ s A.has (up0.trans up) hk _ fun xs hl hr=>?_
  obtain ⟨X,hX,rX⟩:=Tg hr hv
  refine wpAny_pyNext_enum_item f1 ⟨o,f2,ho⟩ hl hX ne fun h' heo hit' pr hsz hkp=>hQ _ _ fun Q' k=>?_
  obtain ⟨es,cc,p,rfl⟩:=ht rfl
  refine wpAny_letOwnedTupleGo_enum heo fun h'' he'' hs''=>?_
  have nz:s.heap.objs.size≠ea:=fun q=>by have:=Heap.lt_size f1; rw [q] at this; exact ABU _ this
  obtain ⟨o',ho',hd'⟩:=hit'
  have ho'':h''.get? it=some o':=(hs''.2 _ (Ne.symm ne)).trans ho'
  refine Jo (s':={ s with heap:=h'',toks:=s.toks+1 }) (its:=[ea,it]) (v:=.d (.int i)) (w:=.d d) A.has (all_cons (AG k1) (all_cons (AG k2) A9)) (fun c o hc e=>(hs''.2 c (nhd hc)).trans (hkp c o (nhd hc) (nhd (ntl hc)) e)) ((hs''.2 _ nz).trans pr) ⟨_,rfl⟩ rX rfl rfl fun g2 le up2 H R hd=>?_
  exact k g2 _ le H R (ih (Dh hv).2 (up0.trans (up.trans up2)) ne ((hd ea (.head _)).trans he'') ((hd it (.tail _ (.head _))).trans ho'') hd')
theorem Vi {kps':List (Nat×List V)} {ds ds' rest:List V} {za TI TO i1 i2 l1 l2:Addr} (hL1:IQ T kps l1 ds g) (hL2:IQ T kps' l2 ds' g) (D:ZipApart za TI TO i1 i2 l1 l2):∀ {rest':List V} {j1 j2:Nat} {g₀:G} {o1 o2:Obj} {a b:Value},ds.drop j1=rest->ds'.drop j2=rest'->G.up g g₀ ->
 g₀.hid za=some { cls:=.type "zip",dict:=none,data:=.fields #[.none,.bool false,.bool false,.ref TI,.ref TO],slots:=#[] } -> g₀.hid TI=some { cls:=.type "tuple",data:=.seq #[.ref i1,.ref i2] } -> g₀.hid TO=some { cls:=.type "tuple",data:=.seq #[a,b] } -> g₀.hid i1=some o1->HZ l1 j1 o1->g₀.hid i2=some o2->HZ l2 j2 o2 ->
 ItS T true (kps++kps') [za,TO,i1,i2,TI] za (He rest rest') g₀:=by
 have fin:∀ {rest rest':List V} {j1 j2:Nat} {g₀:G} {o1 o2:Obj} {a b:Value},ds.drop j1=rest->ds'.drop j2=rest'->(rest=[]\/rest'=[])->G.up g g₀ ->
  g₀.hid za=some { cls:=.type "zip",dict:=none,data:=.fields #[.none,.bool false,.bool false,.ref TI,.ref TO],slots:=#[] } -> g₀.hid TI=some { cls:=.type "tuple",data:=.seq #[.ref i1,.ref i2] } -> g₀.hid TO=some { cls:=.type "tuple",data:=.seq #[a,b] } -> g₀.hid i1=some o1->HZ l1 j1 o1->g₀.hid i2=some o2->HZ l2 j2 o2 ->
  ItS T true (kps++kps') [za,TO,i1,i2,TI] za [] g₀:=by
  intro rest rest' j1 j2 g₀ o1 o2 a b v1 v2 hend up0 e1 e2 e3 e4 q4 e5 q5
  refine ⟨all_cons (AG e1) (all_cons (AG e3) (all_cons (AG e4) (all_cons (AG e5) (all_cons (AG e2) A9)))),fun r g' σ s hT A up hh hk Q hQ=>?_⟩
  subst hT
  have H:=fun c hc o (e:g₀.hid c=some o)=>A.has.hd c o ((hh c hc).trans e)
  refine hL1 g' σ s A.has (up0.trans up) (fun k ws m=>hk k ws (AAU _ m)) _ fun xs hl1 hr1=>hL2 g' σ s A.has (up0.trans up) (fun k ws m=>hk k ws (AAW _ m)) _ fun ys hl2 hr2=>?_
  refine wpAny_pyNext_zip_end A.hh.1 D ((H za (.head _) _ e1).ex (AZ rfl (by decide))) ((H TI (.tail _ (.tail _ (.tail _ (.tail _ (.head _))))) _ e2).ex (AZ rfl (by decide))) ((H TO (.tail _ (.head _)) _ e3).ex (AZ rfl (by decide))) ⟨o1,(H i1 (.tail _ (.tail _ (.head _))) _ e4).ex (AZ q4.1 (by decide)),q4⟩ ⟨o2,(H i2 (.tail _ (.tail _ (.tail _ (.head _)))) _ e5).ex (AZ q5.1 (by decide)),q5⟩ hl1 hl2 (hend.imp (fun q=>Oc hr1 (v1.trans q)) fun q=>Oc hr2 (v2.trans q)) fun h' hkp=>hQ h' fun c o hc e=>hkp c o (nhd hc) (nhd (ntl hc)) (nhd (ntl (ntl hc))) (nhd (ntl (ntl (ntl hc)))) e
 induction rest with
 | nil=>intro rest' j1 j2 g₀ o1 o2 a b v1 v2; exact fin v1 v2 (.inl rfl)
 | cons d rest ih =>
  intro rest' j1 j2 g₀ o1 o2 a b v1 v2 up0 e1 e2 e3 e4 q4 e5 q5
  cases rest' with
  | nil=>exact fin v1 v2 (.inr rfl) up0 e1 e2 e3 e4 q4 e5 q5
  | cons d' rest' =>
  refine ⟨all_cons (AG e1) (all_cons (AG e3) (all_cons (AG e4) (all_cons (AG e5) (all_cons (AG e2) A9)))),fun r g' σ s hT A up hh hk t Q ht hQ=>?_⟩
  subst hT
  have K:=fun c hc o (e:g₀.hid c=some o)=>(hh c hc).trans e
  have m1:=K za (.head _) _ e1
  have m2:=K TO (.tail _ (.head _)) _ e3
  have m3:=K i1 (.tail _ (.tail _ (.head _))) _ e4
  have m4:=K i2 (.tail _ (.tail _ (.tail _ (.head _)))) _ e5
  have m5:=K TI (.tail _ (.tail _ (.tail _ (.tail _ (.head _))))) _ e2
  refine hL1 g' σ s A.has (up0.trans up) (fun k ws m=>hk k ws (AAU _ m)) _ fun xs hl1 hr1=>hL2 g' σ s A.has (up0.trans up) (fun k ws m=>hk k ws (AAW _ m)) _ fun ys hl2 hr2=>?_
  obtain ⟨X,hX,rX⟩:=Lh hr1 v1
  obtain ⟨Y,hY,rY⟩:=Lh hr2 v2
  refine wpAny_pyNext_zip_item D ((A.has.hd _ _ m1).ex (AZ rfl (by decide))) ((A.has.hd _ _ m5).ex (AZ rfl (by decide))) ((A.has.hd _ _ m2).ex (AZ rfl (by decide))) ⟨o1,(A.has.hd _ _ m3).ex (AZ q4.1 (by decide)),q4⟩ ⟨o2,(A.has.hd _ _ m4).ex (AZ q5.1 (by decide)),q5⟩ hl1 hl2 hX hY fun h' z' TO' t1' t2' pr hsz hkp=>hQ _ _ fun Q' k=>?_
  obtain ⟨es,cc,p,rfl⟩:=ht rfl
  refine wpAny_letOwnedTupleGo_zip z' fun h'' z'' hs''=>?_
  have nz:s.heap.objs.size≠za:=fun q=>by have:=Heap.lt_size ((A.has.hd _ _ m1).ex (AZ rfl (by decide))); rw [q] at this; exact ABU _ this
  have kp:∀ c o,c≠za->c≠TO->c≠i1->c≠i2->s.heap.get? c=some o->h''.get? c=some o:=fun c o q1 q2 q3 q4 e=>(hs''.2 c q1).trans (hkp c o q1 q2 q3 q4 e)
  obtain ⟨p1,w1,w2⟩:=t1'
  obtain ⟨p2,w3,w4⟩:=t2'
  refine Jo (s':={ s with heap:=h'' }) (its:=[za,TO,i1,i2,TI]) A.has (all_cons (AG m1) (all_cons (AG m2) (all_cons (AG m3) (all_cons (AG m4) (all_cons (AG m5) A9))))) (fun c o hc e=>kp c o (nhd hc) (nhd (ntl hc)) (nhd (ntl (ntl hc))) (nhd (ntl (ntl (ntl hc)))) e) ((hs''.2 _ nz).trans pr) rX rY rfl rfl fun g2 le up2 H R hd=>?_
  exact k g2 _ le H R (ih (Dh v1).2 (Dh v2).2 (up0.trans (up.trans up2)) ((hd za (.head _)).trans z'') ((hd TI (.tail _ (.tail _ (.tail _ (.tail _ (.head _)))))).trans (kp TI _ D.TIz D.TITO D.TIi1 D.TIi2 ((A.has.hd _ _ m5).ex (AZ rfl (by decide))))) ((hd TO (.tail _ (.head _))).trans ((hs''.2 _ D.TOz).trans TO')) ((hd i1 (.tail _ (.tail _ (.head _)))).trans ((hs''.2 _ D.i1z).trans w1)) w2 ((hd i2 (.tail _ (.tail _ (.tail _ (.head _))))).trans ((hs''.2 _ D.i2z).trans w3)) w4)
end
end Mine
namespace Mine
open PySem PySem.Calls
def WO (its:List Addr) (a:Addr) (g₀:G):Prop:=∀ (r:Ar) (g:G) (σ:Aa) (s:Shared),Has r.T g σ s->(∀ c,c∈its->g.hid c=g₀.hid c)->∀ Q:Value->Shared->Prop,Q (.ref a) s->r.wp (pyIter (.ref a)) Q s
def LQ (T:Top) (b:Bool) (kps:List (Nat×List V)) (vs:List V) (g:G) (σ':Aa) (x:Value) (s':Shared):Prop :=
 ∀ R_:Value->Prop,(∀ its a g',G.le its g g'->Has T g' σ' s'->(∀ c,c∈its->g.hid c=none)->ItS T b kps its a vs g'->WO its a g'->R_ (.ref a))->R_ x
def SI (n:Nat) (e:E) (ρ:Ah) (σ:Aa) (vs:List V) (kps:List (Nat×List V)) (σ':Aa):Prop :=
 ∀ (c:Cx) (g:G) (s:Shared) (ex:Expr),IsE e c.K ex->Inv n c ρ g σ s->c.wp (eval ex c.env) (fun x s₁=>c.wp (pyIter x) (LQ c.T (BT e) kps vs g σ') s₁) s
noncomputable def Dd (v:V) (ws:List V):List (Nat×List V):=match v with | .ref k=>[(k,ws)] | _=>[]
section
variable {n:Nat} {T:Top} {r:Ar} {c:Cx} {ρ ρ':Ah} {g g' g₁:G} {σ σ' σ₁ σ₂ σ3:Aa} {s s':Shared} {v x y z:V} {e a b d:E} {ws vs:List V} {kps:List (Nat×List V)} {its:List Addr} {it l:Addr} {q:Bool}
theorem Has.newL (H:Has T g σ s) (hn:∀ c,c∈its->s.heap.get? c=none) (k:∀ c o,s.heap.get? c=some o->s'.heap.get? c=some o) (hg:s'.gens=s.gens:=by rfl) (ho:s'.os=s.os:=by rfl):Has T ⟨g.fz,fun c=>if c∈its then s'.heap.get? c else g.hid c,g.mu⟩ σ s':=by
 refine H.re _ (fun a o e=>?_) (fun b o _ e'=>k b o e') (fun b o _ e'=>k b o e') (fun t q o _ e=>k t o e) hg ho
 by_cases q:a∈its
 ·have F:=H.free (hn a q)
  rw [if_pos q] at e; exact ⟨.of e,F.fz,F.mu,F.tab⟩
 ·rw [if_neg q] at e; exact ⟨(H.hd a o e).keep (k a),(H.ah a o e).1,(H.ah a o e).2,H.hidTab e⟩
theorem LQ.new (le:G.le [] g g₁) (H:Has T g₁ σ s) (hn:∀ c,c∈its->s.heap.get? c=none) (k:∀ c o,s.heap.get? c=some o->s'.heap.get? c=some o) (hg:s'.gens=s.gens) (ho:s'.os=s.os) (h:∀ g',G.up g₁ g'->(∀ c,c∈its->g'.hid c=s'.heap.get? c)->ItS T q kps its it vs g'/\WO its it g'):LQ T q kps vs g σ (.ref it) s':=fun R_ kk=>by
 have up:G.up g₁ ⟨g₁.fz,fun c=>if c∈its then s'.heap.get? c else g₁.hid c,g₁.mu⟩:=⟨fun _ _ e=>e,fun _ _ e=>e⟩
 have h:=h _ up fun c hc=>if_pos hc
 exact kk its it _ ⟨le.toup.trans up,fun c hc=>(if_neg hc).trans (le.hid c AA1)⟩ (H.newL hn k hg ho) (fun c hc=>(le.hid c AA1)▸(H.free (hn c hc)).hid) h.1 h.2
theorem FM {X:Value} (H:Has T g σ s) (rx:As T g v X) (e:A2 σ v=some ws) {R_:Value->Prop} (k:∀ l xs,s.heap.IsList l xs->IQ T (Dd v ws) l ws g->R_ (.ref l)):R_ X:=by
 cases v with
 | d y=>cases y with
  | list ds =>
   obtain rfl:=AAA e
   exact rx R_ fun a o vs m hf hc hd hr hl=>k a vs ⟨o,H.fz _ _ hf,hc,m,hd⟩ (.frozen hf hc hd (Au.ofD hr))
  | _=>exact Ac e
 | ref j =>
  obtain ⟨l,hk,rfl⟩:=rx
  have L:=IQ.tracked (T:=T) (ws:=ws) hk
  exact AQ (v:=.ref j) H ⟨l,hk,rfl⟩ e (R_:=fun X=>X=.ref l->R_ X) (fun a xs hL hr _ _ q=>k a xs hL (ABR q▸L)) rfl
 | _=>exact Ac e
theorem OS {xs:Array Value} (le:G.le [] g g₁) (H:Has r.T g₁ σ s) (hL:s.heap.IsList l xs) (L:IQ r.T kps l ws g₁):r.wp (pyIter (.ref l)) (LQ r.T false kps ws g σ) s :=
 wpAny_pyIter_list hL (.new (its:=[s.heap.objs.size]) le H (AF (Bm _)) (fun c o e=>AAK _ e) rfl rfl fun g' up hd =>
  have e:=(hd _ (.head _)).trans (AA3 _ rfl)
  ⟨Th L (i:=0) rfl up e rfl rfl,fun r' g2 σ' s2 H2 hh Q hQ=>wpAny_pyIter_listiter (l:=l) (i:=0) ⟨_,(H2.hd _ _ ((hh _ (.head _)).trans e)).ex (AZ rfl (by decide)),rfl,rfl⟩ hQ⟩)
theorem SI.lst (h:SE n e ρ σ v σ₁) (hv:A2 σ₁ v=some ws) (hz:BT e=false:=by rfl):SI n e ρ σ ws (Dd v ws) σ₁:=fun c g s ex hc I=>by
 rw [hz]
 exact AAO (h c g s ex hc I) (fun X s₁ p=>p _ fun g₁ le a₁ r1=>FM a₁ r1 hv (R_:=fun X=>c.wp (pyIter X) (LQ c.T false (Dd v ws) ws g σ₁) s₁) fun l xs hL L=>OS (r:=c.toAr) le a₁ hL L) fun _ _ h=>h
theorem SI.str {z:Str} (h:SE n e ρ σ (.d (.str z)) σ₁) (ha:z.cps.all (· < 128)=true) (hz:BT e=false:=by rfl):SI n e ρ σ (Fm z.cps.toList) [] σ₁:=fun c g s ex hc I=>by
 rw [hz]
 refine AAO (h c g s ex hc I) (fun X s₁ p=>p _ fun g₁ le a₁ r1=>?_) fun _ _ h=>h
 obtain ⟨t,rfl,_⟩:=r1
 exact wpAny_pyIter_ascii ha (.new (its:=[s₁.heap.objs.size]) le a₁ (AF (Bm _)) (fun c o e=>AAK _ e) rfl rfl fun g' up hd =>
  have e:=(hd _ (.head _)).trans (AA3 _ rfl)
  ⟨Vj ha (i:=0) rfl e rfl rfl,fun r' g2 σ' s2 H2 hh Q hQ=>wpAny_pyIter_striter_ascii (x:=z) (t:=t) (i:=0) ⟨_,(H2.hd _ _ ((hh _ (.head _)).trans e)).ex (AZ rfl (by decide)),rfl,rfl⟩ hQ⟩)
theorem IH {t:String} {Q:Value->Shared->Prop} {ex:Expr} (h:SEs n a ρ σ ws σ₁) (hc:Fw (c.K.to (.ty t)) (EU a c.K) ex) (I:Inv n c ρ g σ s) (hx:∀ g₁ s₁ Xs,G.le [] g g₁->Inv n c ρ g₁ σ₁ s₁->Au c.T g₁ ws Xs->c.wp (call (.type t) Xs) Q s₁):c.wp (eval ex c.env) Q s:=by
 refine hc (fun ex=>c.wp (eval ex c.env) Q s) fun nm np vs p h1 h2=>?_
 refine PyProof.Rows.Call_Name rfl (Cn I h1 fun x hv=>?_)
 obtain rfl:x=.type t:=hv
 exact PyProof.Rows.callWith_type (BW _ _ h2) (C9 (r:=c.toAr) h2 (AAO (h c g s vs p h2 I) (fun Xs s₁ p=>p _ fun g₁ le a₁ r1=>hx g₁ s₁ Xs le (I.step le a₁) r1) fun _ _ h=>h))
theorem Mo {n:Int} (h1:n<=1000000) (h2:-1000000<=n):Builtin.Range.small 0 n 1=true/\(Builtin.Range.rangeSize 0 n 1).toNat=n.toNat:=by
 refine ⟨small_one (by decide) (by decide) (Int.le_trans (by decide) h2) (Int.lt_of_le_of_lt h1 (by decide)),?_⟩
 rw [rangeSize_one]
 by_cases q:(0:Int) < n
 ·rw [if_pos q,Int.sub_zero]
 ·rw [if_neg q,Int.toNat_eq_zero.mpr (Int.not_lt.mp q)]; rfl
theorem SI.range {k:Int} (h:SEs n a ρ σ [.d (.int k)] σ₁) (h1:k<=1000000) (h2:-1000000<=k):SI n (.range a) ρ σ (upV 0 k.toNat) [] σ₁:=fun c g s ex hc I=>by
 refine IH h hc I fun g₁ s₁ Xs le I1 R=>?_
 obtain ⟨X,rfl,t,rfl⟩:=R.one
 obtain ⟨e1,e2⟩:=Mo h1 h2
 refine call_range_1 (wpAny_pyIter_range (AA3 _ rfl) e1 (.new (its:=[_]) le (I1.has.keep (s':={ s₁ with heap:=_,toks:=s₁.toks+1+1 }) fun b o e=>AAK _ e) (AF (Bm _)) (fun c o e=>AAK _ e) rfl rfl fun g' up hd=>?_))
 have e:=(hd _ (.head _)).trans (AA3 _ rfl)
 exact ⟨QI e2 e,fun r' g2 σ' s2 H2 hh Q hQ=>wpAny_pyIter_rangeiter (x:=0) (left:=Builtin.Range.rangeSize 0 k 1) (step:=1) ((H2.hd _ _ ((hh _ (.head _)).trans e)).ex (AZ rfl (by decide))) hQ⟩
theorem SI.enum {ds:List PyData} (h:SE n a ρ σ v σ₁) (hv:A2 σ₁ v=some (ds.map .d)):SI n (.enum a) ρ σ (GT 0 ds) (Dd v (ds.map .d)) σ₁:=fun c g s ex hc I=>by
 refine IH (a:=.cons a .nil) (.cons h .nil) hc I fun g₁ s₁ Xs le I1 R=>?_
 obtain ⟨X,rfl,r1⟩:=R.one
 refine FM I1.has r1 hv (R_:=fun X=>c.wp (call (.type "enumerate") [X]) (fun x s₁=>c.wp (pyIter x) (LQ c.T true (Dd v (ds.map .d)) (GT 0 ds) g σ₁) s₁) s₁) fun l xs hL L=>call_enumerate_list hL fun h' he hi hz hk=>?_
 refine wpAny_pyIter_enum he (.new (its:=[s₁.heap.objs.size+1,s₁.heap.objs.size]) le I1.has (all_cons (ABO (AA9 _ 1)) (AF (Bm _))) hk rfl rfl fun g' up hd=>?_)
 obtain ⟨o,ho,hl⟩:=hi
 have e:=(hd _ (.head _)).trans he
 exact ⟨Ti L (i:=0) rfl up (Nat.succ_ne_self _) e ((hd _ (.tail _ (.head _))).trans ho) hl,fun r' g2 σ' s2 H2 hh Q hQ=>wpAny_pyIter_enum ((H2.hd _ _ ((hh _ (.head _)).trans e)).ex (AZ rfl (by decide))) hQ⟩
theorem MS {m i j:Nat} (h:i≠j):m+i≠m+j:=fun q=>h (Nat.add_left_cancel q)
theorem JU {h:Heap} {l:Addr} {xs:Array Value} (hL:h.IsList l xs) (j:Nat):l≠h.objs.size+j:=fun q=>by
 obtain ⟨o,ho,_⟩:=hL
 rw [q,ABO (AA9 _ j)] at ho
 exact Ac ho
theorem SI.zip {ds ds':List V} (h:SE n a ρ σ x σ₁) (h':SE n b ρ σ₁ y σ₂) (hx:A2 σ₂ x=some ds) (hy:A2 σ₂ y=some ds'):SI n (.zip a b) ρ σ (He ds ds') (Dd x ds++Dd y ds') σ₂:=fun c g s ex hc I=>by
 refine IH (a:=.cons a (.cons b .nil)) (.cons h (.cons h' .nil)) hc I fun g₁ s₁ Xs le I1 R=>?_
 obtain ⟨X,Y,rfl,r1,r2⟩:=R.two
 refine FM I1.has r1 hx (R_:=fun X=>c.wp (call (.type "zip") [X,Y]) (fun x s₁=>c.wp (pyIter x) (LQ c.T true _ (He ds ds') g σ₂) s₁) s₁) fun l xs hL L=>FM I1.has r2 hy (R_:=fun Y=>c.wp (call (.type "zip") [.ref l,Y]) (fun x s₁=>c.wp (pyIter x) (LQ c.T true _ (He ds ds') g σ₂) s₁) s₁) fun l' ys hL' L'=>call_zip_2 hL hL' fun h' hz hTI hTO t1 t2 hsz hk=>?_
 have gone:∀ j,s₁.heap.get? (s₁.heap.objs.size+j)=none:=fun j=>ABO (AA9 _ _)
 refine wpAny_pyIter_zip hz (.new (its:=[s₁.heap.objs.size+4,s₁.heap.objs.size+3,s₁.heap.objs.size,s₁.heap.objs.size+1,s₁.heap.objs.size+2]) le I1.has (all_cons (gone 4) (all_cons (gone 3) (all_cons (gone 0) (all_cons (gone 1) (AF (gone 2)))))) hk rfl rfl fun g' up hd=>?_)
 have D:ZipApart (s₁.heap.objs.size+4) (s₁.heap.objs.size+2) (s₁.heap.objs.size+3) (s₁.heap.objs.size) (s₁.heap.objs.size+1) l l':=by
  constructor <;> first
   | exact JU hL _ | exact JU hL 0 | exact JU hL' _ | exact JU hL' 0 | exact MS (by decide) | exact MS (j:=0) (by decide) | exact MS (i:=0) (by decide)
 obtain ⟨o1,ho1,hl1⟩:=t1
 obtain ⟨o2,ho2,hl2⟩:=t2
 have e:=(hd _ (.head _)).trans hz
 exact ⟨Vi L L' D (j1:=0) (j2:=0) rfl rfl up e ((hd _ (.tail _ (.tail _ (.tail _ (.tail _ (.head _)))))).trans hTI) ((hd _ (.tail _ (.head _))).trans hTO) ((hd _ (.tail _ (.tail _ (.head _)))).trans ho1) hl1 ((hd _ (.tail _ (.tail _ (.tail _ (.head _))))).trans ho2) hl2,fun r' g2 σ' s2 H2 hh Q hQ=>wpAny_pyIter_zip ((H2.hd _ _ ((hh _ (.head _)).trans e)).ex (AZ rfl (by decide))) hQ⟩
end
end Mine
namespace Mine
open PySem PySem.Calls
noncomputable def Cw (ρ:Ah) (ts:List Nat) (v:V):Ah:=match ts with | [i]=>ρ.set i (some v) | ts=>DB ρ ts ((BY v).getD [])
def EB (ts:List Nat) (v:V):Prop:=ts.length=1\/∃ vs,BY v=some vs/\vs.length=ts.length
noncomputable def Ua (n:Nat) (ts:List Nat) (b:S) (kps:List (Nat×List V)) (Q:Fl->Aa->Prop):List V->Ah->Aa->Prop
 | [],ρ,σ=>Co σ kps/\Q (.next ρ) σ
 | v::vs,ρ,σ=>Co σ kps/\EB ts v/\SSs n b (Cw ρ ts v) σ fun fl σ'=>match fl with | .next ρ'=>Ua n ts b kps Q vs ρ' σ' | .ret v=>Q (.ret v) σ'
section
variable {n:Nat} {T:Top} {r:Ar} {c:Cx} {ρ ρ' ρ0:Ah} {g g' g₀ g₁:G} {σ σ' σ₁ σ₂ σ3:Aa} {s s':Shared} {v x y z:V} {e a b d it:E} {ws vs:List V} {kps:List (Nat×List V)} {its:List Addr} {ts:List Nat} {st:S} {Q:Fl->Aa->Prop}
theorem Loc.far (x0:Loc c ρ0 g₀) (hn:∀ a,a∈its->g₀.hid a=none) (x:Loc c ρ g) (le:G.le its g g'):Loc c ρ g':=by
 have h:∀ {a o},g₀.hid a=some o->g'.hid a=g.hid a:=fun e=>le.hid _ fun q=>Am (hn _ q) e
 refine ⟨fun R_ k=>x0.ns R_ fun m0 h0 _=>x.ns R_ fun m h1 h2=>?_,fun nm hk R_ k=>x0.ce nm hk R_ fun a₀ u0 q0 q1 _=>x.ce nm hk R_ fun a u h1 h2 h3=>?_,fun a ha q=>?_⟩
 ·obtain ⟨o,_,_,e,_⟩:=h0
  exact k m (h1.to fun _ e'=>(h e).trans e') fun i nm v e1 e2 e3=>BP le.toup (h2 i nm v e1 e2 e3)
 ·obtain ⟨o,e,_⟩:=q1
  obtain rfl:=Av q0 h1
  exact k a₀ u h1 (h2.to fun _ e'=>(h e).trans e') fun i v e1 e2=>BP le.toup (h3 i v e1 e2)
 ·cases e:g₀.hid a with
  | none=>exact x0.ow a ha e
  | some o=>exact x.ow a ha ((h e).symm.trans q)
theorem BJ.far {fe:List Env} (f0:BJ g₀ fe) (hn:∀ a,a∈its->g₀.hid a=none) (x:BJ g fe) (le:G.le its g g'):BJ g' fe:=fun e he=>by
 obtain ⟨_,L0,o₀,_,_,h1,h2,_⟩:=f0 e he
 obtain ⟨h0,L,o,es,ep,h3,h4,h5⟩:=x e he
 obtain rfl:=Av h1 h3
 exact ⟨h0,L0,o,es,ep,h3,(le.hid L0 fun q=>Am (hn L0 q) h2).trans h4,h5⟩
theorem BJ.hideN {fe:List Env} {a:Addr} {o:Obj} (x:BJ g fe) (h:g.hid a=none):BJ (g.hide a o) fe:=fun e he=>by
 obtain ⟨h0,L,o',es,ep,h1,h2,h3⟩:=x e he
 exact ⟨h0,L,o',es,ep,h1,(G.hide_ne fun q=>Am h (q▸h2)).trans h2,h3⟩
theorem Inv.far (f0:BJ g₀ c.fe) (x0:Loc c ρ0 g₀) (hn:∀ a,a∈its->g₀.hid a=none) (x:Inv n c ρ g σ s) (le:G.le its g g') (H:Has c.T g' σ' s'):Inv n c ρ g' σ' s':=⟨x.toAt.stepF le.toup (f0.far hn x.frs le) H,x.cx,x0.far hn x.loc le⟩
theorem Inv.bind {t:Expr} {X:Value} {Q:Unit->Shared->Prop} {Er:Value->Shared->Prop} (I:Inv n c ρ g σ s) (hc:IsT c.K ts t) (hb:EB ts v) (r:As c.T g v X) (h:∀ g' s',G.le c.own g g'->Inv n c (Cw ρ ts v) g' σ s'->Q () s'):wpAny (model c.T.prog c.T.w) c.A (assign t c.env X) Q Er s:=by
 refine hc (fun ts t=>EB ts v->(∀ g' s',G.le c.own g g'->Inv n c (Cw ρ ts v) g' σ s'->Q () s')->wpAny (model c.T.prog c.T.w) c.A (assign t c.env X) Q Er s) (fun i nm p h1 _ h=>I.asgn h1 r fun g' s' le _ I'=>h g' s' le I') (fun es k p h1 h2 hb h=>?_) hb h
 obtain ⟨vs,e,hl⟩:=hb.resolve_left h1
 have eb:Cw ρ ts v=DB ρ ts vs:=by
  match ts,h1 with
  | [],_=>rfl
  | [_],q=>exact absurd rfl q
  | i::j::l,_=>show DB ρ (i::j::l) ((BY v).getD [])=_; rw [e]; rfl
 rw [eb] at h
 exact C6 I.has r e (R_:=fun X=>wpAny (model c.T.prog c.T.w) c.A (assign (.Tuple es k p) c.env X) Q Er s) fun t Xs hT hr _ _=>I.unpack h2 hT hr hl h
theorem QJ {t:Expr} (hc:IsT c.K ts t) (hz:GN ts it=true) (h:BT it=true):∃ es k p,t=.Tuple es k p :=
 hc (fun ts t=>GN ts it=true->∃ es k p,t=.Tuple es k p) (fun i nm p _ hz=>by unfold GN at hz; rw [if_pos h] at hz; exact absurd hz ABB) (fun es k p _ _ _=>⟨es,k,p,rfl⟩) hz
theorem SS.for_ (hi:SI n it ρ σ vs kps σ₁) (h:Ua n ts st kps Q vs ρ σ₁):SS n (.for_ ts it st) ρ σ Q:=fun c g s x hc I=>hc (fun x=>c.wp (exec x c.env) (Bv n c g Q) s) fun t i bd p h1 h2 h3=>by
 refine wpAny_For (AAO (hi c g s i h2 I) (fun X s₁ h₁=>AAO h₁ (fun itv s2 p=>?_) fun _ _ h=>h) fun _ _ h=>h) ((BK it h2).fold c.env)
 refine p (fun itv=>codeAny (model c.T.prog c.T.w) c.A (.forLoop t itv bd [] c.env) _ s2) fun its a g2 le2 H2 new it2 _=>?_
 have ni:∀ a,a∈its->a∉c.own:=fun a q q'=>I.loc.ow a q' (new a q)
 have toI:∀ {g g'},G.le its g g'->G.le (its++c.own) g g':=fun le=>⟨le.toup,fun a q=>le.hid a fun h=>q (AAU _ h)⟩
 have toO:∀ {g g'},G.le c.own g g'->G.le (its++c.own) g g':=fun le=>⟨le.toup,fun a q=>le.hid a fun h=>q (AAW _ h)⟩
 have mono:∀ {vs g g'},G.le c.own g g'->ItS c.T (BT it) kps its a vs g->ItS c.T (BT it) kps its a vs g':=fun le h=>h.mono le.toup fun c hc=>le.hid c (ni c hc)
 refine codeAny_forLoop_any (I:=fun k s'=>∀ R_:Prop,(∀ vs ρ σ g',k=vs.length->Ua n ts st kps Q vs ρ σ->G.le (its++c.own) g g'->Inv n c ρ g' σ s'->ItS c.T (BT it) kps its a vs g'->R_)->R_) (fun k s3 hz=>hz _ fun vs ρ3 σ3 g3 hk w le3 I3 it3=>?_) vs.length
  fun R_ kk=>kk vs ρ σ₁ g2 rfl h (toI le2) (I.far I.frs I.loc new le2 H2) it2
 subst hk
 cases vs with
 | nil =>
  refine AAO (it3.2 c.toAr g3 σ3 s3 rfl I3.at0 (.refl _) (fun _ _=>rfl) w.1 (fun r s₁=>r=none/\Bv n c g Q .next s₁) fun h' hk=>⟨rfl,?_⟩) (fun r s₁ h=>by rw [h.1]; exact wpAny_execs_nil h.2) fun _ _ h=>h.elim
  obtain ⟨hd,H,le,e⟩:=I3.has.back (s':={ s3 with heap:=h' }) le3 new hk (I3.has.away it3.1)
  exact fun R_ k1 _=>k1 ρ3 σ3 _ w.2 le (I3.far I.frs I.loc new ⟨⟨fun _ _ e=>e,fun _ _ e=>e⟩,e⟩ H)
 | cons v vs =>
  refine AAO (it3.2 c.toAr g3 σ3 s3 rfl I3.at0 (.refl _) (fun _ _=>rfl) w.1 t (fun r s₁=>∃ X,r=some X/\∀ Q':Unit->Shared->Prop,(∀ g' s',G.le its g3 g'->Has c.T g' σ3 s'->As c.T g' v X->ItS c.T (BT it) kps its a vs g'->Q' () s')->c.wp (letOwnedTupleGo t (.ref a) X) Q' s₁) (QJ h1.1 h1.2) fun X s₁ k=>⟨X,rfl,k⟩) (fun r s₁ h=>?_) fun _ _ h=>h.elim
  obtain ⟨X,rfl,h⟩:=h
  refine AAO (h _ fun g4 s4 le4 H4 r4 it4=>?_) (fun _ _ h=>h) fun _ _ h=>h.elim
  refine (I3.far I.frs I.loc new le4 H4).bind h1.1 w.2.1 r4 fun g5 s5 le5 I5=>?_
  have le':=le3.trans ((toI le4).trans (toO le5))
  refine AAO (w.2.2 c g5 s5 bd h3 I5) (fun f s6 p=>p.elim (fun ρ6 σ6 g6 e6 q l6 I6=>?_) fun v x σ6 g6 e6 q l6 H w r6=>?_) fun _ _ h=>h.elim
  ·subst e6
   exact ⟨vs.length,Nat.lt_succ_self _,fun R_ kk=>kk vs ρ6 σ6 g6 rfl q (le'.trans (toO l6)) I6 (mono (le5.trans l6) it4)⟩
  ·subst e6
   obtain ⟨hd,H',le,e⟩:=H.back (s':=s6) (le'.trans (toO l6)) new (fun _ _ _ e=>e) (H.away (mono (le5.trans l6) it4).at)
   exact fun R_ _ k2=>k2 v x σ6 _ q le H' (fun a ha q=>w a ha ((e a fun q=>ni a q ha).symm.trans q)) (As.eta r6)
end
end Mine
namespace Mine
open PySem PySem.Calls
noncomputable def DH (env:Env):List (Str×NameKind)->List (Str×Addr)->List (Str×Addr)
 | [],acc=>acc
 | p::r,acc=>DH env r (if (p.2 == .free)=true then (p.1,(env.cells.lookup p.1).getD 0)::acc else acc)
noncomputable def Bb:Ah->List Nat->Ah
 | ρ,[]=>ρ
 | ρ,i::ts=>Bb (ρ.set i none) ts
section
variable {α β:Type} [BEq α] [LawfulBEq α]
theorem AW {l:List (α×β)} {a:α} {b:β} (h:l.lookup a=some b):(a,b)∈l:=by
 induction l with
 | nil=>exact Ac h
 | cons p r ih =>
  obtain ⟨x,y⟩:=p
  rw [List.lookup_cons] at h
  cases q:a == x with
  | true=>rw [q] at h; rw [ABM q,<-AAA h]; exact .head _
  | false=>rw [q] at h; exact .tail _ (ih h)
theorem E3 {l:List (α×β)} {a:α} {b:β} (h:(a,b)∈l):∃ b',l.lookup a=some b':=by
 induction l with
 | nil=>exact nomatch h
 | cons p r ih =>
  obtain ⟨x,y⟩:=p
  rw [List.lookup_cons]
  cases q:a == x with
  | true=>exact ⟨y,rfl⟩
  | false=>exact (AAR.mp h).elim (fun e=>by rw [ABK e |>.1,beq_self_eq_true] at q; exact tt_ q) ih
end
section
variable {env:Env} {names:List (Str×NameKind)} {acc:List (Str×Addr)} {n:Str} {c:Addr}
theorem My {k:NameKind} (h:(k == .free)=true):k=.free:=ABM h
theorem Gf:∀ {names:List (Str×NameKind)} {acc:List (Str×Addr)},(n,c)∈DH env names acc->(n,c)∈acc\/((n,NameKind.free)∈names/\c=(env.cells.lookup n).getD 0)
 | [],acc,h=>.inl h
 | (m,k)::r,acc,h=>by
  rcases Gf (names:=r) h with h | h
  ·by_cases hk:(k == NameKind.free)=true
   ·rw [if_pos hk] at h
    exact (AAR.mp h).elim (fun h=>.inr ⟨by rw [My hk,(ABK h).1]; exact .head _,by rw [(ABK h).1]; exact (ABK h).2⟩) .inl
   ·rw [if_neg hk] at h; exact .inl h
  ·exact .inr ⟨.tail _ h.1,h.2⟩
theorem L7 {p:Str×Addr}:∀ {names:List (Str×NameKind)} {acc:List (Str×Addr)},p∈acc->p∈DH env names acc
 | [],_,h=>h
 | (m,k)::r,acc,h=>L7 (names:=r) (by
  by_cases hk:(k == NameKind.free)=true
  ·rw [if_pos hk]; exact .tail _ h
  ·rw [if_neg hk]; exact h)
theorem L5:∀ {names:List (Str×NameKind)} {acc:List (Str×Addr)},(n,NameKind.free)∈names->(n,(env.cells.lookup n).getD 0)∈DH env names acc
 | [],_,h=>nomatch h
 | (m,k)::r,acc,h=>(AAR.mp h).elim (fun h=>L7 (names:=r) (by rw [<-(ABK h).2,<-(ABK h).1]; exact .head _)) (L5 (names:=r))
theorem Oi (h:(n,NameKind.free)∈names) (e:env.cells.lookup n=some c):(DH env names []).lookup n=some c:=by
 obtain ⟨c',h'⟩:=E3 (L5 (env:=env) (acc:=[]) h)
 rcases Gf (AW h') with q | q
 ·exact nomatch q
 ·rw [h',q.2,e]; rfl
theorem Fc (scope:Scope) (h:∀ n,(n,NameKind.free)∈scope.names->∃ c,env.cells.lookup n=some c):closureFor scope env=pure (DH env scope.names []):=by
 have gen:∀ (names:List (Str×NameKind)) (acc:List (Str×Addr)),(∀ n,(n,NameKind.free)∈names->∃ c,env.cells.lookup n=some c) ->
  (forIn names acc (fun x r=>if (x.2 == NameKind.free)=true then (cellOf env x.1>>=fun c=>pure (ForInStep.yield ((x.1,c)::r))) else pure (ForInStep.yield r)):Sem (List (Str×Addr)))=pure (DH env names acc):=by
  intro names
  induction names with
  | nil=>intro acc _; rfl
  | cons p r ih =>
   intro acc hh
   rw [List.forIn_cons]
   by_cases hk:(p.2 == NameKind.free)=true
   ·obtain ⟨c,hc⟩:=hh p.1 (My hk▸.head _)
    have e:cellOf env p.1=pure c:=by unfold cellOf; rw [hc]
    rw [if_pos hk,e,pure_bind,pure_bind]
    refine (ih _ fun n hn=>hh n (.tail _ hn)).trans ?_
    show _=pure (DH env r (if (p.2 == NameKind.free)=true then _ else _))
    rw [if_pos hk,hc]; rfl
   ·rw [if_neg hk,pure_bind]
    refine (ih _ fun n hn=>hh n (.tail _ hn)).trans ?_
    show _=pure (DH env r (if (p.2 == NameKind.free)=true then _ else _))
    rw [if_neg hk]
 have g:=gen scope.names [] h
 unfold closureFor
 rw [bind_pure]
 exact g
end
theorem Dx:∀ {ts:List Nat} {ρ:Ah} {i:Nat} {v:V},(Bb ρ ts)[i]? = some (some v)->i∉ts/\ρ[i]? = some (some v)
 | [],ρ,i,v,h=>⟨AA1,h⟩
 | j::ts,ρ,i,v,h=>by
  obtain ⟨h1,h2⟩:=Dx (ts:=ts) h
  by_cases q:j=i
  ·rw [q] at h2
   by_cases hl:i < ρ.length
   ·rw [AB1 hl] at h2; exact Ac (AAA h2)
   ·rw [List.getElem?_eq_none (by rw [AB0]; exact Nat.le_of_not_lt hl)] at h2; exact Ac h2
  ·rw [List.getElem?_set_ne q] at h2
   exact ⟨fun m=>(AAR.mp m).elim (fun e=>q e.symm) h1,h2⟩
theorem Gx:∀ {ts:List Nat} {vs:List V} {ρ:Ah} {i:Nat},i∉ts->(DB ρ ts vs)[i]? = ρ[i]?
 | [],vs,ρ,i,h=>by cases vs <;> rfl
 | j::ts,[],ρ,i,h=>rfl
 | j::ts,w::vs,ρ,i,h=>(Gx (ts:=ts) fun q=>h (.tail _ q)).trans (List.getElem?_set_ne fun (q:j=i)=>h (q▸.head _))
theorem Ps {ts:List Nat} {v u:V} {ρ:Ah} {i:Nat} (h:(Bb ρ ts)[i]? = some (some u)):(Cw (Bb ρ ts) ts v)[i]? = some (some u):=by
 have q:=(Dx h).1
 refine Eq.trans ?_ h
 match ts,q with
 | [],_=>exact Gx AA1
 | [j],q=>exact List.getElem?_set_ne fun (e:j=i)=>q (e▸.head _)
 | j::k::l,q=>exact Gx q
end Mine
namespace Mine
open PySem PySem.Calls
structure Hl (K:Kx) (ts:List Nat) (sc:Scope):Prop where
 kind:sc.kind=.function
 nm:∀ p,p∈sc.names->Mt K ts p=true
 uni:∀ p,p∈sc.names->sc.names.lookup p.1=some p.2
 dot:(".0" : Str)∉K.vars
 tgt:∀ i,i∈ts->∃ m,K.vars[i]? = some m/\sc.names.lookup m=some .local
section
variable {K:Kx} {ts:List Nat} {sc:Scope} {p:Str×NameKind} {x:Str} {k:NameKind}
theorem Mm (h:Hp K ts sc=true):Hl K ts sc:=by
 have h1:=AAH.mp h
 have h2:=AAH.mp h1.1
 have h3:=AAH.mp h2.1
 have h4:=AAH.mp h3.1
 refine ⟨AAG h4.1,List.all_eq_true.mp h4.2,fun p hp=>AAG (List.all_eq_true.mp h3.2 p hp),fun q=>?_,fun i hi=>?_⟩
 ·have:=h2.2
  rw [List.contains_iff_mem.mpr q] at this
  exact ff_ this
 ·have:=List.all_eq_true.mp h1.2 i hi
  cases e:K.vars[i]? with
  | none=>rw [e] at this; exact ff_ this
  | some m=>rw [e] at this; exact ⟨m,rfl,AAG this⟩
theorem G3 {R_:Prop} (h:Mt K ts p=true) (k1:p.2=.local->(p.1=(".0" : Str)\/∃ i,i∈ts/\K.vars[i]? = some p.1)->R_) (k2:p.2=.free->(K.names.lookup p.1=some .cell\/K.names.lookup p.1=some .free)->R_) (k3:p.2=.globalImplicit->R_):R_:=by
 rcases ABC.mp h with h | h
 ·have h1:=AAH.mp h
  refine k1 (AAG h1.1) ((ABC.mp h1.2).imp ABM fun q=>?_)
  obtain ⟨i,hi,e⟩:=List.any_eq_true.mp q
  exact ⟨i,hi,AAG e⟩
 ·rcases ABC.mp h with h | h
  ·have h1:=AAH.mp h
   exact k2 (AAG h1.1) ((ABC.mp h1.2).imp Kx.kd_eq Kx.kd_eq)
  ·exact k3 (AAG h)
theorem Bt {R_:Prop} {a b:NameKind} (h:a=b) (e:decide (a=b)=false):R_:=by rw [AAI h] at e; exact tt_ e
theorem Hl.noc (S:Hl K ts sc):∀ p,p∈sc.names->p.2≠.cell:=fun p hp q=>G3 (S.nm p hp) (fun e _=>Bt (q.symm.trans e) rfl) (fun e _=>Bt (q.symm.trans e) rfl) fun e=>Bt (q.symm.trans e) rfl
theorem Hl.fre (S:Hl K ts sc) (h:(x,NameKind.free)∈sc.names):K.names.lookup x=some .cell\/K.names.lookup x=some .free:=G3 (S.nm _ h) (fun e _=>Bt e rfl) (fun _ q=>q) fun e=>Bt e rfl
theorem Gz {E names:List (Str×NameKind)} (h:(Da E names).lookup x=some k):(x,k)∈names\/((x,NameKind.free)∈names/\k=.cell):=by
 obtain ⟨⟨m,k'⟩,hp,e⟩:=AAP.mp (AW h)
 have e:(if (k' == .free&&E.lookup m == some .cell)=true then (m,NameKind.cell) else (m,k'))=(x,k):=e
 by_cases q:(k' == .free&&E.lookup m == some .cell)=true
 ·rw [if_pos q] at e
  have q1:=My (AAH.mp q).1
  rw [q1,(ABK e).1] at hp
  exact .inr ⟨hp,(ABK e).2.symm⟩
 ·rw [if_neg q] at e
  rw [e] at hp
  exact .inl hp
theorem Hl.loc (S:Hl K ts sc) (h:(Da K.names sc.names).lookup x=some .local):x=(".0" : Str)\/∃ i,i∈ts/\K.vars[i]? = some x:=by
 rcases Gz h with h | h
 ·exact G3 (S.nm _ h) (fun _ q=>q) (fun e _=>Bt e rfl) fun e=>Bt e rfl
 ·exact Bt h.2 rfl
theorem Hl.out (S:Hl K ts sc) (h:(Da K.names sc.names).lookup x=some .cell\/(Da K.names sc.names).lookup x=some .free):(x,NameKind.free)∈sc.names:=by
 rcases h with h | h
 ·rcases Gz h with h | h
  ·exact absurd rfl (S.noc _ h)
  ·exact h.1
 ·rcases Gz h with h | h
  ·exact h
  ·exact h.1
theorem EZ {env:Env} (hk:env.scope.kind=.function) (hn:env.scope.names=K.names):(relabel sc env).names=Da K.names sc.names:=List.map_congr_left fun p _=>by
 obtain ⟨m,k⟩:=p
 show (if (k == .free&&env.scope.kind == .function&&env.kindOf m == some .cell)=true then (m,NameKind.cell) else (m,k))=(if (k == .free&&K.names.lookup m == some .cell)=true then (m,NameKind.cell) else (m,k))
 rw [hk,AM hn,show (ScopeKind.function == ScopeKind.function)=true from rfl,Bool.and_true]
end
noncomputable abbrev JK (c:Cx) (ts:List Nat) (sc:Scope) (C:Addr):Cx:=⟨c.toAr,c.K.sub ts sc,compEnvC sc (DH c.env sc.names []) C c.env,[C]⟩
section
variable {n:Nat} {c:Cx} {ρ:Ah} {g:G} {ts:List Nat} {sc:Scope} {C:Addr} {x:Str}
theorem HA (X:Ma n c):(JK c ts sc C).env.kindOf x=(Da c.K.names sc.names).lookup x:=AM (K:=c.K.sub ts sc) (EZ X.kind X.names) x
theorem HB (S:Hl c.K ts sc) (X:Ma n c) (L:Loc c ρ g) (h:(x,NameKind.free)∈sc.names) {R_:Prop} (k:∀ a u,c.env.cells.lookup x=some a->(JK c ts sc C).env.cells.lookup x=some a->Fg g.hid a u->(∀ (i:Nat) (v:V),c.K.vars[i]? = some x->ρ[i]? = some (some v)->∃ x,u=some x/\As c.T g v x)->R_):R_ :=
 L.ce x (by rw [AM X.names]; exact S.fre h) R_ fun a u h1 h2 h3=>k a u h1 (Oi h h1) h2 h3
theorem UC (S:Hl c.K ts sc) (X:Ma n c) (L:Loc c ρ g):Ma n (JK c ts sc C):=by
 have look:∀ m a,(JK c ts sc C).env.cells.lookup m=some a->c.env.cells.lookup m=some a:=fun m a h=>by
  rcases Gf (AW h) with q | q
  ·exact nomatch q
  ·exact HB (C:=C) S X L q.1 fun a' u h1 h2 _ _=>h1.trans (h2.symm.trans h)
 refine ⟨X.rd,EZ X.kind X.names,S.kind,X.glob,X.blt,X.hfr,fun m m' a h h'=>X.cinj m m' a (look m a h) (look m' a h'),X.nd,.head _,fun m hm a hk _=>?_,fun t q h=>Ac h⟩
 obtain ⟨i,hi,e⟩:=List.mem_filterMap.mp (show m∈ts.filterMap fun i=>c.K.vars[i]? from hm)
 obtain ⟨m',e',hl⟩:=S.tgt i hi
 rw [Av e' e] at hl
 rw [HA X] at hk
 exact Bt (Av (S.uni _ (S.out (.inl hk))) hl) rfl
theorem Sz {o:Obj} (S:Hl c.K ts sc) (X:Ma n c) (L:Loc c ρ g) (hC:g.hid C=none) (hn:NsF (g.hide C o).hid C fun _=>none):Loc (JK c ts sc C) (Bb ρ ts) (g.hide C o):=by
 have up:G.up g (g.hide C o):=⟨fun _ _ e=>e,fun _ _ e=>e⟩
 refine ⟨fun R_ k=>k _ hn fun i nm v e1 e2 e3=>?_,fun nm hk R_ k=>?_,AF (AG G.hide_self)⟩
 ·rw [HA X] at e3
  rcases S.loc e3 with q | ⟨j,hj,q⟩
  ·exact absurd (q▸AA5 e1) S.dot
  ·exact absurd (G1 X.nd q e1▸hj) (Dx e2).1
 ·rw [HA X] at hk
  refine HB (C:=C) S X L (S.out hk) fun a u h1 h2 h3 h4=>k a u h2 (h3.to fun o' e=>(G.hide_ne fun q=>Am hC (q▸e)).trans e) fun i v e1 e2=>BP up (h4 i v e1 (Dx e2).2)
end
end Mine
namespace Mine
open PySem PySem.Calls
noncomputable abbrev DN (ifs:List Expr) (env:Env) (b:Bool):Sem Bool :=
 forIn ifs b fun c r=>if r=true then (isTrue c env (eval c env)>>=fun ok=>pure (ForInStep.yield ok)) else pure (ForInStep.yield r)
def WL (c:Cx) (target elt:Expr) (ifs:List Expr) (it acc:Value) (Dn:Shared->Prop) (v:Value) (s:Shared):Prop :=
 c.wp (letOwnedTupleGo target it v) (fun _ s₁=>c.wp (assign target c.env v) (fun _ s2=>c.wp (DN ifs c.env true) (fun ok s3=>(ok=false->Dn s3)/\(ok=true->c.wp (eval elt c.env) (fun x s4=>c.wp (call (.builtin "list.append") [acc,x]) (fun _ s5=>Dn s5) s4) s3)) s2) s₁) s
theorem Kq {c:Cx} {R:Result->Shared->Prop} {s:Shared} {elt target iter:Expr} {ifs:List Expr} {scope:Scope} {pos:Pos} {it acc:Value} (I:Nat->Shared->Prop)
 (turn:∀ n s,I n s->∀ Q:Option Value->Shared->Prop,(∀ s₁,R (.ok .next) s₁->Q none s₁)->(∀ v s₁,WL c target elt ifs it acc (fun s'=>∃ m,m < n/\I m s') v s₁->Q (some v) s₁)->c.wp (pyNext it) Q s)
 (n:Nat) (h:I n s):codeAny (model c.T.prog c.T.w) c.A (.compLoop (.ListComp elt [⟨target,iter,ifs,0⟩] scope pos) 0 it acc c.env) R s:=by
 refine codeAny_loop rfl I (fun n s hI=>?_) n h
 show wpAny _ c.A ((compTurn (.ListComp elt [⟨target,iter,ifs,0⟩] scope pos) 0 it acc c.env).onRaise (fun x=>do noteFrame x c.env; theTreesLotGoes x)) _ _ s
 refine wpAny_noted ?_
 rw [compTurn_list]
 refine AAD (AA7 (AAD (AAO (turn n s hI _ ?_ ?_) (fun r s₁ h=>h) fun _ _ h'=>h'.elim)))
 ·exact fun s₁ h=>AAY h
 intro v s₁ h
 refine AAD (AAO h (fun _ s1' h1'=>?_) fun _ _ h'=>h'.elim)
 refine AAD (AAO h1' (fun _ s2 h2=>AAD (AAO h2 (fun ok s3 h₃=>?_) fun _ _ h'=>h'.elim)) fun _ _ h'=>h'.elim)
 cases ok with
 | false=>exact AAY ⟨rfl,h₃.1 rfl⟩
 | true=>exact AAD (AAD (AAO (h₃.2 rfl) (fun x s4 h₄=>AAD (AAO h₄ (fun _ s5 h₅=>AAY (AAY ⟨rfl,h₅⟩)) fun _ _ h'=>h'.elim)) fun _ _ h'=>h'.elim))
def SIf (n:Nat) (e:E) (ρ:Ah) (σ:Aa) (b:Bool) (σ':Aa):Prop :=
 ∀ (c:Cx) (g:G) (s:Shared) (xs:List Expr),EU e c.K xs->Inv n c ρ g σ s->c.wp (DN xs c.env true) (fun x s'=>BX c.T [] g σ' (fun _=>x=b) s') s
noncomputable def Gs (n:Nat) (elt:E) (ts:List Nat) (ifs:E) (kps:List (Nat×List V)) (ρ:Ah) (σ':Aa):List V->Aa->List V->Prop
 | [],σ,ws=>Co σ kps/\ws=[]/\σ'=σ
 | v::vs,σ,ws=>Co σ kps/\EB ts v/\∃ t σ₁,SIf n ifs (Cw (Bb ρ ts) ts v) σ t σ₁/\(t=false->Gs n elt ts ifs kps ρ σ' vs σ₁ ws)/\(t=true->∃ u us σ₂,SE n elt (Cw (Bb ρ ts) ts v) σ₁ u σ₂/\ws=u::us/\Gs n elt ts ifs kps ρ σ' vs σ₂ us)
noncomputable abbrev CL (xs:Array Value) (m:Nat):Obj:={ cls:=.type "list",dict:=none,data:=.seq xs m,slots:=#[] }
section
variable {n:Nat} {c:Cx} {ρ ρ':Ah} {g g' g₀ g₁:G} {σ σ' σ₁ σ₂:Aa} {s s':Shared} {e a b r elt ifs:E} {ws vs:List V} {kps:List (Nat×List V)} {its:List Addr} {ts:List Nat} {q:Bool}
theorem EX (env:Env):∀ ifs:List Expr,DN ifs env false=pure false
 | []=>rfl
 | c::r=>by
  show (forIn (c::r) false _:Sem Bool)=_
  rw [List.forIn_cons,if_neg ABB,pure_bind]
  exact EX env r
theorem SIf.nil:SIf n .nil ρ σ true σ:=fun c g s xs hc I=>by
 obtain rfl:xs=[]:=hc
 exact AAY (.refl I.has rfl)
theorem QW {x:Expr} {l:List Expr} {env:Env}:DN (x::l) env true=(isTrue x env (eval x env)>>=fun ok=>DN l env ok):=by
 show (forIn (x::l) true _:Sem Bool)=_
 rw [List.forIn_cons,if_pos rfl,bind_assoc]
 exact bind_congr fun ok=>pure_bind _ _
theorem SIf.cons (h:ST n a ρ σ true σ₁) (h':SIf n r ρ σ₁ q σ₂):SIf n (.cons a r) ρ σ q σ₂:=fun c g s xs hc I=>hc (fun xs=>c.wp (DN xs c.env true) (fun x s'=>BX c.T [] g σ₂ (fun _=>x=q) s') s) fun x l h1 h2=>Bc QW
 (B7 (r:=c.toAr) (h c g s x h1 I) fun ok g₁ s₁ le a₁ e=>by subst e; exact B0 (r:=c.toAr) le (h' c g₁ s₁ l h2 (I.step le a₁)))
theorem SIf.no (h:ST n a ρ σ false σ₁):SIf n (.cons a r) ρ σ false σ₁:=fun c g s xs hc I=>hc (fun xs=>c.wp (DN xs c.env true) (fun x s'=>BX c.T [] g σ₁ (fun _=>x=false) s') s) fun x l h1 h2=>Bc QW
 (B7 (r:=c.toAr) (h c g s x h1 I) fun ok g₁ s₁ le a₁ e=>by subst e; exact Bc (EX _ _) (AAY (.mk g₁ le a₁ rfl)))
theorem Loc.less (L:Loc c ρ g) (h:∀ (i:Nat) (v:V),ρ'[i]? = some (some v)->ρ[i]? = some (some v)):Loc c ρ' g:=⟨fun R_ k=>L.ns R_ fun m h1 h2=>k m h1 fun i nm v e1 e2 e3=>h2 i nm v e1 (h i v e2) e3,fun nm hk R_ k=>L.ce nm hk R_ fun a u h1 h2 h3=>k a u h1 h2 fun i v e1 e2=>h3 i v e1 (h i v e2),L.ow⟩
theorem MK {D it:Addr} {x t i:Expr} {cs:List Expr} {sc:Scope} {pos:Pos} {m0:Nat} {R:Result->Shared->Prop} (f0:BJ g₀ c.fe) (x0:Loc c (Bb ρ ts) g₀) (hn:∀ b,b∈D::its->g₀.hid b=none) (hD:D∉its) (h4:IsT c.K ts t) (h5:IsE elt c.K x) (h6:EU ifs c.K cs) (ht:q=true->∃ es k p,t=.Tuple es k p) (hl:ws.length<=line)
 (fin:∀ g' s' xs m h',G.le ((D::its)++c.own) g g'->Inv n c (Bb ρ ts) g' σ' s'->ItS c.T q kps its it [] g'->g'.hid D=some (CL xs m)->Au c.T g' ws xs.toList->(∀ b o,b∉its->s'.heap.get? b=some o->h'.get? b=some o)->R (.ok .next) { s' with heap:=h' })
 (hr:Gs n elt ts ifs kps ρ σ' vs σ ws) (I:Inv n c (Bb ρ ts) g σ s) (hi:ItS c.T q kps its it vs g) (hDo:g.hid D=some (CL #[] m0)):codeAny (model c.T.prog c.T.w) c.A (.compLoop (.ListComp x [⟨t,i,cs,0⟩] sc pos) 0 (.ref it) (.ref D) c.env) R s:=by
 have no:∀ b,b∈D::its->b∉c.own:=fun b h h'=>x0.ow b h' (hn b h)
 have toO:∀ {g g'},G.le c.own g g'->G.le ((D::its)++c.own) g g':=fun le=>⟨le.toup,fun a q=>le.hid a fun h=>q (AAW _ h)⟩
 have toA:∀ {g g'},G.le (D::its) g g'->G.le ((D::its)++c.own) g g':=fun le=>⟨le.toup,fun a q=>le.hid a fun h=>q (AAU _ h)⟩
 have toI:∀ {g g'},G.le its g g'->G.le (D::its) g g':=fun le=>⟨le.toup,fun a q=>le.hid a fun h=>q (.tail _ h)⟩
 refine Kq (I:=fun k s=>∀ R_:Prop,(∀ vs σ g' ys zs xs m,k=vs.length->Gs n elt ts ifs kps ρ σ' vs σ zs->ws=ys++zs->G.le ((D::its)++c.own) g g'->Inv n c (Bb ρ ts) g' σ s->ItS c.T q kps its it vs g'->g'.hid D=some (CL xs m)->Au c.T g' ys xs.toList->R_)->R_) (fun k s3 hz=>hz _ fun vs σ3 g3 ys zs xs m hk w hw le3 I3 i3 d3 r3 Q kn ks=>?_) vs.length
  fun R_ kk=>kk vs σ g [] ws #[] m0 rfl hr rfl (.refl _ _) I hi hDo trivial
 subst hk
 cases vs with
 | nil =>
  obtain ⟨w1,rfl,rfl⟩:=w
  rw [AAV] at hw
  exact i3.2 c.toAr g3 _ s3 rfl I3.at0 (.refl _) (fun _ _=>rfl) w1 Q fun h' hk=>kn _ (fin g3 s3 xs m h' le3 I3 i3 d3 (hw▸r3) hk)
 | cons v vs =>
  obtain ⟨w1,w2,t1,σ6,w3,w4,w5⟩:=w
  refine i3.2 c.toAr g3 σ3 s3 rfl I3.at0 (.refl _) (fun _ _=>rfl) w1 t Q ht fun X s₁ k=>ks X s₁ (k _ fun g4 s4 le4 H4 r4 i4=>?_)
  refine (I3.far f0 x0 hn (toI le4) H4).bind h4 w2 r4 fun g5 s5 le5 I5=>?_
  refine AAO (w3 c g5 s5 cs h6 I5) (fun ok s6 p=>p _ fun g6 le6 a6 e6=>?_) fun _ _ h=>h
  have I6:=I5.step le6 a6
  have l56:G.le c.own g4 g6:=le5.trans le6.toO
  have d6:g6.hid D=some (CL xs m):=(l56.hid D (no D (.head _))).trans ((le4.hid D hD).trans d3)
  have i6:ItS c.T q kps its it vs g6:=i4.mono l56.toup fun b hb=>l56.hid b (no b (.tail _ hb))
  have L6:=le3.trans ((toA (toI le4)).trans (toO l56))
  have r6:=Au.mono (le4.toup.trans l56.toup) r3
  have less:∀ (i:Nat) (u:V),(Bb ρ ts)[i]? = some (some u)->(Cw (Bb ρ ts) ts v)[i]? = some (some u):=fun i u=>Ps
  subst e6
  refine ⟨fun q=>⟨vs.length,Nat.lt_succ_self _,fun R_ kk=>kk vs σ6 g6 ys zs xs m rfl (w4 q) hw L6 ⟨I6.toAt,I6.cx,I6.loc.less less⟩ i6 d6 r6⟩,fun q=>?_⟩
  obtain ⟨u,us,σ7,w6,rfl,w7⟩:=w5 q
  refine AAO (w6 c g6 s6 x h5 I6) (fun Y s7 p=>p _ fun g7 le7 a7 r7=>?_) fun _ _ h=>h
  have I7:=I6.step le7 a7
  have d7:=(le7.hid D AA1).trans d6
  have r8:=Au.mono le7.toup r6
  have hz:xs.size<=sizeLine:=by
   rw [<-AR,<-ABA,<-r8.length]
   rw [hw,AAF] at hl
   exact AAC (AA9 _ _) hl
  refine wpAny_list_append_plain ⟨m,(a7.hd _ _ d7).ex (AZ rfl (by decide))⟩ (fun h' hp hs=>?_) hz
  obtain ⟨m',hp⟩:=hp
  have le8:G.le (D::its) g7 (g7.hide D (CL (xs.push Y) m')):=.hide (.head _)
  have I8:=I7.far f0 x0 hn le8 (a7.rehide (s':={ s7 with heap:=h' }) d7 (fun b x q e=>(hs.2 b q).trans e) hp)
  refine ⟨vs.length,Nat.lt_succ_self _,fun R_ kk=>kk vs σ7 _ (ys++[u]) us (xs.push Y) m' rfl w7 (by rw [ABQ]; exact hw) (L6.trans (le7.toO.trans (toA le8))) ⟨I8.toAt,I8.cx,I8.loc.less less⟩ ((i6.mono le7.toup fun b _=>le7.hid b AA1).mono le8.toup fun b hb=>G.hide_ne fun q=>hD (q▸hb)) G.hide_self ?_⟩
  rw [Array.toList_push]
  exact (Au.mono le8.toup r8).append ⟨As.mono le8.toup _ _ r7,trivial⟩
end
end Mine
namespace Mine
open PySem PySem.Calls
section
variable {n:Nat} {c:Cx} {ρ ρ':Ah} {g g' g₀ g₁:G} {σ σ' σ₁ σ₂:Aa} {s s':Shared} {e it elt ifs:E} {v:V} {ws vs:List V} {kps:List (Nat×List V)} {its:List Addr} {ts:List Nat} {q:Bool} {Q:Fl->Aa->Prop} {k:Nat}
theorem NsF.heap {T:Top} {C:Addr} {m:Str->Option Value} (H:Has T g σ s) (h:NsF g.hid C m):s.heap.Ns C m:=H.ns h
theorem L1 {x t i:Expr} {cs:List Expr} {sc:Scope} {pos P:Pos} {use:Option (Value->Sem Unit)} {Q:Value->Shared->Prop} (hI:SI n it ρ σ vs kps σ₁) (hr:Gs n elt ts ifs kps ρ σ' vs σ₁ ws) (hl:ws.length<=line)
 (h1:IsE it c.K i) (hs:Hp c.K ts sc=true) (hz:GN ts it=true) (h4:IsT (c.K.sub ts sc) ts t) (h5:IsE elt (c.K.sub ts sc) x) (h6:EU ifs (c.K.sub ts sc) cs) (I:Inv n c ρ g σ s)
 (fin:∀ g2 s2 D C m,G.le [C] g g2->g.hid C=none->NsF g2.hid C m->B4 c.toAr g2 σ' ws (.ref D) s2->compPost (model c.T.prog c.T.w) c.A (fun _ _=>False) use Q (.ref D) C (.ok .next) s2) :
 c.wp (comprehension (.ListComp x [⟨t,i,cs,0⟩] sc pos) sc c.env P (newList []) false (eval i c.env) use) Q s:=by
 have S:=Mm hs
 refine wpAny_comprehension_free (use:=use) rfl ((BK it h1).fold c.env) (Fc sc fun m hm=>HB (C:=0) S I.cx I.loc hm fun a _ e _ _ _=>⟨a,e⟩) S.kind (fun p hp hl=>by rw [S.uni p hp,hl]) ?_
 refine AAO (hI c g s i h1 I) (fun X s₁ h₁=>AAO h₁ (fun itv s2 p=>?_) fun _ _ h=>h) fun _ _ h=>h
 refine p (fun itv=>c.wp (newList []) (fun acc s3=>c.wp (newFunctionEnv sc c.env.globals (DH c.env sc.names []) [] c.env.qual none .none (some c.env)) (fun cenv s4=>codeAny (model c.T.prog c.T.w) c.A (.compStart (.ListComp x [⟨t,i,cs,0⟩] sc pos) 0 itv acc { cenv with scope:=relabel sc c.env }) (compPost (model c.T.prog c.T.w) c.A (fun _ _=>False) use Q acc cenv.locals) s4) s3) s2) fun its a g2 le2 H2 new i2 self=>?_
 refine wpAny_newList ?_ (ABF _)
 refine wpAny_newFunctionEnv S.noc (fun y hy=>nomatch hy) (fun h₁ hns hsb=>?_) S.kind
 have hC:s2.heap.objs.size≠(s2.heap.push (CL #[] 0)).objs.size:=fun q=>by rw [Heap.size_push] at q; exact Nat.succ_ne_self _ q.symm
 have hC0:s2.heap.get? (s2.heap.push (CL #[] 0)).objs.size=none:=ABO (by rw [Heap.size_push]; exact Nat.le_succ _)
 have hD0:s2.heap.get? s2.heap.objs.size=none:=Bm _
 have hD1:h₁.get? s2.heap.objs.size=some (CL #[] 0):=(hsb.2 _ hC).trans (AAK _ (AA3 _ rfl))
 have old:∀ b o,s2.heap.get? b=some o->h₁.get? b=some o:=fun b o e=>(hsb.2 b fun q=>by rw [q] at e; exact Am hC0 e).trans (AAK _ (AAK _ e))
 have ne:∀ {b},b∈its->∀ {d},s2.heap.get? d=none->b≠d:=fun {b} hb {d} hd q=>by
  cases e:g2.hid b with
  | none=>exact i2.at b hb e
  | some o=>obtain ⟨_,e',_⟩:=H2.hd b o e; exact Am (q▸hd) e'
 generalize (s2.heap.push (CL #[] 0)).objs.size=C at *
 generalize s2.heap.objs.size=D at *
 obtain ⟨oC,es,ep,hCo,hCn⟩:=hns
 have FC:=H2.free hC0
 have FD:=H2.free hD0
 have nD:∀ {b},b∈its->b≠D:=fun hb=>ne hb hD0
 have nC:∀ {b},b∈its->b≠C:=fun hb=>ne hb hC0
 have hD:D∉its:=fun q=>nD q rfl
 have hgC:g.hid C=none:=(le2.hid C fun q=>nC q rfl).symm.trans FC.hid
 have hgD:g.hid D=none:=(le2.hid D hD).symm.trans FD.hid
 have H3:=FC.hide (H2.keep (s':={ s2 with heap:=h₁,toks:=s2.toks+([]:List (Str×Value)).length }) old) hCo
 have H4:=H3.hide (a:=D) FD.fz FD.mu FD.tab (fun _ _ _ e=>e) hD1
 have x0:=Sz (o:=oC) S I.cx I.loc hgC ⟨oC,es,ep,G.hide_self,hCn⟩
 have hn:∀ b,b∈D::its->(g.hide C oC).hid b=none:=all_cons ((G.hide_ne hC).trans hgD) fun b hb=>(G.hide_ne (nC hb)).trans (new b hb)
 have l0:G.le (D::its) (g.hide C oC) ((g2.hide C oC).hide D (CL #[] 0)):=⟨⟨le2.fz,le2.mu⟩,fun b hb=>(G.hide_ne (nhd hb)).trans (congrArg (fun z=>if b=C then some oC else z) (le2.hid b (ntl hb)))⟩
 have lg:G.le ((D::its)++[C]) g ((g2.hide C oC).hide D (CL #[] 0)):=⟨⟨le2.fz,le2.mu⟩,fun b hb=>(G.hide_ne fun (q:b=D)=>hb (AAU _ (q▸.head _))).trans ((G.hide_ne fun (q:b=C)=>hb (AAW _ (q▸.head _))).trans (le2.hid b fun q=>hb (AAU _ (.tail _ q))))⟩
 have f0:BJ (g.hide C oC) c.fe:=I.frs.hideN hgC
 have I4:Inv n (JK c ts sc C) (Bb ρ ts) _ σ₁ _:=⟨I.toAt.stepF lg.toup (f0.far hn f0 l0) H4,UC S I.cx I.loc,x0.far hn x0 l0⟩
 have hd:∀ b,b∈its->((g2.hide C oC).hide D (CL #[] 0)).hid b=g2.hid b:=fun b hb=>(G.hide_ne (nD hb)).trans (G.hide_ne (nC hb))
 have loop:codeAny (model c.T.prog c.T.w) c.A (.compLoop (.ListComp x [⟨t,i,cs,0⟩] sc pos) 0 (.ref a) (.ref D) (JK c ts sc C).env) (compPost (model c.T.prog c.T.w) c.A (fun _ _=>False) use Q (.ref D) C) { s2 with heap:=h₁,toks:=s2.toks+([]:List (Str×Value)).length }:=by
  refine MK (c:=JK c ts sc C) f0 x0 hn hD h4 h5 h6 (QJ (c:=JK c ts sc C) h4 hz) hl (fun g' s' xs m h' le I5 i5 d5 r5 hk=>?_) hr I4 (ItS.mono (g:=g2) ⟨fun _ _ e=>e,fun _ _ e=>e⟩ hd i2) G.hide_self
  have aw:=I5.has.away (all_cons (AG d5) i5.at)
  obtain ⟨hd',H',le',e'⟩:=I5.has.back (its:=D::its) (own:=[C]) (s':={ s' with heap:=h' }) (lg.trans le) (all_cons hgD new) (fun b o hb e=>hk b o (ntl hb) e) aw
  have F:Dl c.T ⟨g'.fz,hd',g'.mu⟩ D:=⟨(aw D (.head _)).1,(le'.hid D fun q=>hC (AAJ.mp q)).trans hgD,(aw D (.head _)).2.1,(aw D (.head _)).2.2⟩
  exact I5.loc.ns _ fun m' h1 _=>fin ⟨g'.fz,hd',g'.mu⟩ _ D C m' le' hgC (h1.to fun o e=>(e' C fun q=>(AAR.mp q).elim (fun q=>hC q.symm) fun q=>nC q rfl).trans e) fun R_ kk=>kk _ D xs m (.refl _ _) H' F (hk D _ hD ((I5.has.hd _ _ d5).ex (AZ rfl (by decide)))) (Au.eta r5) hl
 exact codeAny_compStart_list loop (AAO (self c.toAr _ _ _ H4 hd _ loop) (fun _ _ h=>h) fun _ _ h=>h.elim)
theorem SL.comp (hI:SI n it ρ σ vs kps σ₁) (hr:Gs n elt ts ifs kps ρ σ' vs σ₁ ws) (hl:ws.length<=line):SL n (.comp elt ts it ifs) ρ σ ws σ':=fun c g s ex hc I=>hc (fun ex=>c.wp (eval ex c.env) (B4 c.toAr g σ' ws) s) fun x t i cs sc p h1 h2 h4 h5 h6=>Bc (eval_ListComp ..)
 (L1 hI hr hl h1 h2.1 h2.2 h4 h5 h6 I fun g2 s2 D C m le hC hns hN=>hN (fun X=>compPost (model c.T.prog c.T.w) c.A (fun _ _=>False) none (B4 c.toAr g σ' ws) X C (.ok .next) s2) fun g3 a xs m' le3 H3 F ho hr hl=>by
  have hn:=hns.to (f':=g3.hid) fun o e=>(le3.hid C AA1).trans e
  refine ⟨m,hn.heap H3,fun h' hs R_ k=>?_⟩
  obtain ⟨o,_,_,e,_⟩:=hn
  obtain ⟨hd,H',le',e'⟩:=H3.back (its:=[C]) (own:=[]) (s':={ s2 with heap:=h' }) (le.trans le3.toO) (AF hC) (fun b o hb e=>(hs.2 b (nhd hb)).trans e) (H3.away (AF (AG e)))
  have ne:a≠C:=fun q=>Am F.hid (q▸e)
  exact k _ a xs m' le' H' ⟨F.fz,(e' a fun q=>ne (AAJ.mp q)).trans F.hid,F.mu,F.tab⟩ ((hs.2 a ne).trans ho) (Au.eta hr) hl)
theorem ML {nm:Str} {p vp:Pos} {x t i:Expr} {cs:List Expr} {sc:Scope} {l:Nat} (X:Ma n c) (h:Nk c.K nm p (.ListComp x [⟨t,i,cs,0⟩] sc vp)=true):swapsWith (.ListComp x [⟨t,i,cs,0⟩] sc vp) (some (.Name nm p)) l c.env=pure true:=by
 have h1:=AAH.mp h
 have h2:=AAH.mp h1.2
 show (pure (c.env.blockKind == .function&&c.env.kindOf nm == some .local&&p.line == vp.line && !(sc.names.any fun q=>q.1 == nm&&(q.2 == .local||q.2 == .cell))):Sem Bool)=_
 rw [show (c.env.blockKind == .function)=true by unfold Env.blockKind; rw [X.kind]; rfl,AM X.names,AAG h1.1,AAG h2.1,h2.2,beq_self_eq_true,beq_self_eq_true]; rfl
theorem RD {nm:Str} {p vp p':Pos} {x t i:Expr} {cs:List Expr} {sc:Scope} {env:Env} (h:∀ l,swapsWith (.ListComp x [⟨t,i,cs,0⟩] sc vp) (some (.Name nm p)) l env=pure true):exec (.Assign [.Name nm p] (.ListComp x [⟨t,i,cs,0⟩] sc vp) p') env =
 (standAt p'>>=fun _=>(comprehension (.ListComp x [⟨t,i,cs,0⟩] sc vp) sc env (firstIterPos [⟨t,i,cs,0⟩] vp) (newList []) false (eval i env) (some fun v=>assign (.Name nm p) env v)>>=fun _=>pure ())>>=fun _=>pure Flow.next):=by
 rw [arm_exec_Assign]
 show (standAt p'>>=fun _=>swapsWith (.ListComp x [⟨t,i,cs,0⟩] sc vp) (some (.Name nm p)) p'.line env>>=_)=_
 rw [h]
 have hall:∀ v,assignAll v [assign (.Name nm p) env]=assign (.Name nm p) env v:=fun v=>by first | rfl | (unfold assignAll; rfl)
 rw [<-funext hall]
 rfl
theorem SS.asgC (hI:SI n it ρ σ vs kps σ₁) (hr:Gs n elt ts ifs kps ρ σ' vs σ₁ ws) (hl:ws.length<=line) (hv:∀ {r:Ar} {g X s},B4 r g σ' ws X s->Ans r g v σ₂ X s) (hq:Q (.next (ρ.set k (some v))) σ₂):SS n (.asg k (.comp elt ts it ifs)) ρ σ Q:=fun c g s st hc I=>hc (fun st=>c.wp (exec st c.env) (Bv n c g Q) s) fun nm p ex p' h1 h2 h3=>by
 refine h2 (fun ex=>Nk c.K nm p ex=true->c.wp (exec (.Assign [.Name nm p] ex p') c.env) (Bv n c g Q) s) (fun x t i cs sc vp k1 k2 k4 k5 k6 h3=>?_) h3
 refine Bc (RD fun l=>ML I.cx h3) (AAD (AA7 (AAD (AAD (L1 (Q:=fun _ s'=>wpAny _ _ (pure ()) (fun _ s'=>wpAny _ _ (pure Flow.next) (Bv n c g Q) (fun _ _=>False) s') (fun _ _=>False) s') hI hr hl k1 k2.1 k2.2 k4 k5 k6 I fun g2 s2 D C m le hC hns hN=>?_)))))
 refine hv hN _ fun g3 le3 H3 r3=>?_
 have l3:=le.trans le3.toO
 have ni:C∉c.own:=fun q=>I.loc.ow C q hC
 refine (I.far I.frs I.loc (AF hC) l3 H3).asgn h1 r3 fun g4 s4 le4 _ I4=>?_
 have hn:=hns.to (f':=g4.hid) fun o e=>(le4.hid C ni).trans ((le3.hid C AA1).trans e)
 refine ⟨m,hn.heap I4.has,fun h' hs=>AAY (AAY fun R_ k1 _=>?_)⟩
 obtain ⟨o,_,_,e,_⟩:=hn
 obtain ⟨hd,H',le',e'⟩:=I4.has.back (its:=[C]) (own:=c.own) (s':={ s4 with heap:=h' }) ⟨l3.toup.trans le4.toup,fun b hb=>(le4.hid b fun q=>hb (.tail _ q)).trans (l3.hid b fun q=>hb (AAJ.mp q▸.head _))⟩ (AF hC) (fun b o hb e=>(hs.2 b (nhd hb)).trans e) (I4.has.away (AF (AG e)))
 exact k1 _ σ₂ _ hq le' (I4.far I.frs I.loc (AF hC) ⟨⟨fun _ _ e=>e,fun _ _ e=>e⟩,e'⟩ H')
end
end Mine
namespace Mine
open PySem PySem.Calls
theorem D0 {n:Str}:∀ {names:List (Str×NameKind)} {k:Nat} {acc:List (Str×Addr)},(∃ c,(n,c)∈acc)->∃ c,(n,c)∈cellsFrom k names acc
 | [],_,_,h=>h
 | (m,kd)::r,k,acc,h=>by
  show ∃ c,(n,c)∈(if (kd == .cell)=true then cellsFrom (k+1) r ((m,k)::acc) else cellsFrom k r acc)
  by_cases q:(kd == .cell)=true
  ·rw [if_pos q]; exact D0 (names:=r) (h.imp fun c h=>.tail _ h)
  ·rw [if_neg q]; exact D0 (names:=r) h
theorem BF {n:Str}:∀ {names:List (Str×NameKind)} {k:Nat} {acc:List (Str×Addr)},(n,NameKind.cell)∈names->∃ c,(n,c)∈cellsFrom k names acc
 | [],_,_,h=>nomatch h
 | (m,kd)::r,k,acc,h=>by
  show ∃ c,(n,c)∈(if (kd == .cell)=true then cellsFrom (k+1) r ((m,k)::acc) else cellsFrom k r acc)
  rcases AAR.mp h with h | h
  ·rw [<-(ABK h).1,<-(ABK h).2]; exact D0 (names:=r) ⟨k,.head _⟩
  ·by_cases q:(kd == .cell)=true
   ·rw [if_pos q]; exact BF (names:=r) h
   ·rw [if_neg q]; exact BF (names:=r) h
section
variable {kf:Str->Option NameKind} {n:Str} {v:Value}
theorem LF:∀ {bs:List (Str×Value)} {m:Str->Option Value},(∀ p,p∈bs->p.1≠n)->bindL kf bs m n=m n/\bindC kf bs m n=m n
 | [],m,_=>⟨rfl,rfl⟩
 | (k,v)::r,m,h=>by
  have ne:n≠k:=fun q=>h (k,v) (.head _) q.symm
  have ih:=fun m=>LF (bs:=r) (m:=m) fun p hp=>h p (.tail _ hp)
  show bindL kf r (if kf k=some .local then fun y=>if y=k then some v else m y else m) n=m n/\bindC kf r (if kf k=some .local then m else fun y=>if y=k then some v else m y) n=m n
  rw [(ih _).1,(ih _).2]
  by_cases q:kf k=some .local
  ·rw [if_pos q,if_pos q]; exact ⟨if_neg ne,rfl⟩
  ·rw [if_neg q,if_neg q]; exact ⟨rfl,if_neg ne⟩
theorem Gi:∀ {ns:List Str} {vs:List Value} {m:Str->Option Value} {i:Nat},ns.Nodup->ns[i]? = some n->vs[i]? = some v ->
 (kf n=some .local->bindL kf (ns.zip vs) m n=some v)/\(kf n≠some .local->bindC kf (ns.zip vs) m n=some v)
 | [],_,_,_,_,h1,_=>Ac h1
 | _::_,[],_,_,_,_,h2=>Ac h2
 | k::ns,w::vs,m,0,hn,h1,h2=>by
  obtain rfl:=AAA h1; obtain rfl:=AAA h2
  have out:∀ m,_:=fun m=>LF (kf:=kf) (n:=k) (m:=m) (bs:=ns.zip vs) fun p hp q=>(ABX.mp hn).1 (q▸(List.of_mem_zip (a:=p.1) (b:=p.2) hp).1)
  refine ⟨fun hk=>(out _).1.trans ?_,fun hk=>(out _).2.trans ?_⟩
  ·rw [if_pos hk]; exact if_pos rfl
  ·rw [if_neg hk]; exact if_pos rfl
 | k::ns,w::vs,m,i+1,hn,h1,h2=>⟨(Gi (ns:=ns) (vs:=vs) (i:=i) (ABX.mp hn).2 h1 h2).1,(Gi (ns:=ns) (vs:=vs) (i:=i) (ABX.mp hn).2 h1 h2).2⟩
end
def Ot (v:V) (σ':Aa) (fl:Fl) (σ:Aa):Prop:=(match fl with | .next _=>v=.d .none | .ret u=>v=u)/\σ'=σ
noncomputable def B3 (fn:Fn) (xs:List V):Ah:=xs.map some++List.replicate (fn.nv-fn.np) none
theorem Pt {fn:Fn} {xs:List V} {i:Nat} {v:V} (h:(B3 fn xs)[i]? = some (some v)):xs[i]? = some v:=by
 unfold B3 at h
 by_cases hi:i < xs.length
 ·rw [ABE (by rw [AAB]; exact hi),ABI,AAN hi] at h
  rw [AAN hi]; exact AAA h
 ·rw [AA6 (by rw [AAB]; exact Nat.le_of_not_lt hi),List.getElem?_replicate] at h
  exact Ac (Ba h).2
section
variable {n f:Nat} {fn:Fn} {xs:List V} {σ σ':Aa} {v:V} {r:Ar} {g:G} {s s₁:Shared} {a:Addr} {Xs:List Value} {fd:FuncData} {body:List Stmt} {o:Obj} {vars:List Str} {lam:Option (Addr×Str)}
noncomputable abbrev CI (env:Env):List Addr:=env.locals::env.scope.names.filterMap fun p=>env.cells.lookup p.1
noncomputable abbrev Oj (r:Ar) (env:Env) (vars:List Str) (lam:Option (Addr×Str)):Cx:=⟨⟨r.T,env::r.fe,r.A.deeper env⟩,⟨vars,env.scope.names,vars,glP,lam⟩,env,CI env⟩
theorem LA {env:Env} (F:VO r.T glP fn a fd body o vars lam) (hn:1<=n) (hl:xs.length=fn.np) (aok:IP r.T) (afr:r.A.frames=some r.fe) (adp:r.A.depth+(n+1)<=600) (aun:r.A.units+100 * (n+1)<=9000) (ahh:HOk g r.A) (afs:BJ g r.fe) (H:Has r.T g σ s) (R:Au r.T g xs Xs) (hE:env=callEnvC fd s.heap.objs.size a)
 (ic:InCallC s env.locals (bindL env.kindOf ((vars.take fn.np).zip Xs) fun _=>none) env.cells (bindC env.kindOf ((vars.take fn.np).zip Xs) fun _=>none) s₁):∃ g₁,Inv n (Oj r env vars lam) (B3 fn xs) g₁ σ s₁/\G.le (CI env) g g₁/\∀ c,c∈CI env->g.hid c=none:=by
 have esc:env.scope=fd.scope:=by rw [hE]; rfl
 have eloc:env.locals=s.heap.objs.size:=by rw [hE]; rfl
 have new:∀ c,c∈CI env->s.heap.get? c=none:=all_cons (eloc▸Bm _) fun c hc=>by
  obtain ⟨p,_,hp⟩:=List.mem_filterMap.mp hc
  exact ABO (Nat.le_of_lt (eloc▸ic.above p.1 c (AW hp)))
 obtain ⟨h₁,tk,hs⟩:=ic.toInCall.same
 have H1:=H.newL (s':=s₁) new ic.toInCall.keep (by rw [hs]) (by rw [hs])
 obtain ⟨oL,esL,epL,hL,hLd⟩:=id ic.toInCall.ns
 have H2:=H1.rehideH (a:=env.locals) (o:=frO oL) (s':=s₁) ((if_pos (.head _)).trans hL) (fun _ _ _ e=>e) (.fr hL)
 have le:G.le (CI env) g (G.hide ⟨g.fz,fun c=>if c∈CI env then s₁.heap.get? c else g.hid c,g.mu⟩ env.locals (frO oL)):=⟨⟨fun _ _ e=>e,fun _ _ e=>e⟩,fun c hc=>(G.hide_ne fun (q:c=env.locals)=>hc (q▸.head _)).trans (if_neg hc)⟩
 have hd:∀ {c},c∈CI env->c≠env.locals->∀ o,s₁.heap.get? c=some o->(G.hide ⟨g.fz,fun c=>if c∈CI env then s₁.heap.get? c else g.hid c,g.mu⟩ env.locals (frO oL)).hid c=some o:=fun hc hn o e=>(G.hide_ne hn).trans ((if_pos hc).trans e)
 have cl:∀ {x c},env.cells.lookup x=some c->c≠env.locals:=fun {x c} e=>Nat.ne_of_gt (ic.above x c (AW e))
 have tf:Os env:=⟨(by rw [esc,F.kind]; exact fun q=>nomatch q),esc▸F.gen,esc▸F.cor,by rw [hE]; exact F.blt,by rw [hE]; exact F.glob⟩
 have frs:BJ (G.hide ⟨g.fz,fun c=>if c∈CI env then s₁.heap.get? c else g.hid c,g.mu⟩ env.locals (frO oL)) (env::r.fe):=fun e he=>by
  rcases AAR.mp he with q | q
  ·rw [q]; exact ⟨tf,env.locals,frO oL,esL,epL,(by rw [hE]; rfl),G.hide_self,rfl,hLd.1⟩
  ·obtain ⟨h0,L,o',es,ep,h1,h2,h3⟩:=afs e q
   exact ⟨h0,L,o',es,ep,h1,(le.hid L fun q=>by obtain ⟨_,e',_⟩:=H.hd L o' h2; exact Am (new L q) e').trans h2,h3⟩
 have kd:∀ x,env.kindOf x=fd.scope.names.lookup x:=fun x=>by unfold Env.kindOf; rw [esc]
 have mem:∀ {x c k},fd.scope.names.lookup x=some k->env.cells.lookup x=some c->c∈CI env:=fun {x c k} h e=>.tail _ (List.mem_filterMap.mpr ⟨(x,k),esc▸AW h,e⟩)
 have hnd:=List.Nodup.sublist (List.take_sublist fn.np vars) F.nd
 have par:∀ {i x v},vars[i]? = some x->(B3 fn xs)[i]? = some (some v)->∃ X,((env.kindOf x=some .local->bindL env.kindOf ((vars.take fn.np).zip Xs) (fun _=>none) x=some X)/\(env.kindOf x≠some .local->bindC env.kindOf ((vars.take fn.np).zip Xs) (fun _=>none) x=some X))/\As r.T g v X:=fun {i x v} e1 e2=>by
  have e3:=Pt e2
  obtain ⟨X,e4,rX⟩:=R.get e3
  have hi:i < fn.np:=hl▸(AAM.mp e3).1
  exact ⟨X,Gi hnd (by rw [List.getElem?_take_of_lt hi]; exact e1) e4,rX⟩
 refine ⟨_,⟨⟨aok,?_,⟨env,r.fe,rfl,tf⟩,?_,?_,ahh,frs,H2⟩,⟨aok.toReady,rfl,esc▸F.kind,by rw [hE]; exact F.glob,by rw [hE]; exact F.blt,⟨env,r.fe,rfl,rfl⟩,fun m m' c h h'=>name_of_addr ic.apart (AW h) (AW h'),F.nd,.head _,fun m _ c hk hc=>mem ((kd m).symm.trans hk) hc,fun t q h=>?_⟩,⟨fun R_ k=>k (bindL env.kindOf ((vars.take fn.np).zip Xs) fun _=>none) ?_ fun i nm u e1 e2 e3=>?_,fun nm hk R_ k=>?_,fun c hc=>?_⟩⟩,le,fun c hc=>(H.free (new c hc)).hid⟩
 ·show r.A.frames.map _=_
  rw [afr]; rfl
 ·show r.A.depth+1+n<=600
  rw [Nat.add_assoc,Nat.add_comm 1 n]; exact adp
 ·show r.A.units+3+100 * n<=9000
  have:=aun
  rw [Nat.mul_add] at this
  exact AAC (by rw [Nat.add_assoc,Nat.add_comm 3]; exact Nat.add_le_add_left (Nat.add_le_add_left (by decide) _) _) this
 ·obtain ⟨h1,h2,h3⟩:=F.lam t q h
  exact ⟨hn,h1,by rw [hE]; exact h2,by rw [hE]; exact h3⟩
 ·exact ⟨frO oL,esL,epL,G.hide_self,hLd⟩
 ·obtain ⟨X,h,rX⟩:=par e1 e2
  exact ⟨X,h.1 e3,As.mono le.toup _ _ rX⟩
 ·have hc:fd.scope.names.lookup nm=some .cell:=by
   rw [kd] at hk
   exact hk.elim id fun q=>absurd rfl (F.nof _ (AW q))
  obtain ⟨c,h⟩:=BF (k:=s.heap.objs.size+1) (acc:=[]) (AW hc)
  obtain ⟨c,h⟩:=E3 h
  have h:env.cells.lookup nm=some c:=by rw [hE]; exact h
  refine k c _ h (Fg.to (f:=s₁.heap.get?) (ic.cell nm c h) (hd (mem hc h) (cl h))) fun i u e1 e2=>?_
  obtain ⟨X,q,rX⟩:=par e1 e2
  exact ⟨X,q.2 (by rw [kd,hc]; exact fun q=>nomatch q),As.mono le.toup _ _ rX⟩
 ·rw [show (Oj r env vars lam).own=CI env from rfl] at hc
  refine G8 ?_
  show (if c∈CI env then s₁.heap.get? c else g.hid c)≠none
  rw [if_pos hc]
  rcases AAR.mp hc with q | q
  ·obtain ⟨o,_,_,e,_⟩:=ic.toInCall.ns
   rw [q,e]; exact fun q=>nomatch q
  ·obtain ⟨p,_,hp⟩:=List.mem_filterMap.mp q
   obtain ⟨o,e,_⟩:=ic.cell p.1 c hp
   rw [e]; exact fun q=>nomatch q
theorem FN.run (hP:Pg f=some fn) (hl:xs.length=fn.np) (hb:SSs n fn.body (B3 fn xs) σ (Ot v σ')) (hn:1<=n) (hf:r.T.fn f=some a) (aok:IP r.T) (afr:r.A.frames=some r.fe) (adp:r.A.depth+(n+1)<=600) (aun:r.A.units+100 * (n+1)<=9000) (ahh:HOk g r.A) (afs:BJ g r.fe) (H:Has r.T g σ s) (R:Au r.T g xs Xs):r.wp (call (.ref a) Xs) (Ans r g v σ') s:=aok.fns f fn a hP hf _ fun fd body o vars lam F=>by
 have hz:=fun b o e=>H.fz b o (H.base b o e)
 refine wpAny_call (codeAny_call_cells (AAS (AAC (AA9 _ _) adp) (by decide)) (hz _ _ F.ob) F.data (aok.ok.nolimit.keeps hz) (F.code.keeps hz) F.bd (F.bind Xs (R.length.symm.trans hl)) F.clo (fun p hp=>?_) (fun s₁ ic=>?_) F.cor F.gen F.kind)
 ·refine (F.par p.1 (List.of_mem_zip (a:=p.1) (b:=p.2) hp).1).imp id fun h=>⟨h,?_⟩
  obtain ⟨c,q⟩:=BF (k:=s.heap.objs.size+1) (acc:=[]) (AW h)
  obtain ⟨c,q⟩:=E3 q
  rw [q]; rfl
 ·obtain ⟨g₁,I,le,new⟩:=LA F hn hl aok afr adp aun ahh afs H R rfl ic
  have done:∀ {g2 s2 x},G.le (CI (callEnvC fd s.heap.objs.size a)) g₁ g2->Has r.T g2 σ' s2->(∀ c,c∈CI (callEnvC fd s.heap.objs.size a)->g2.hid c≠none)->As r.T g2 v x->Ans r g v σ' x s2:=fun {g2 s2 x} l H2 w rx=>by
   obtain ⟨hd,H',le',_⟩:=H2.back (its:=CI (callEnvC fd s.heap.objs.size a)) (own:=[]) (s':=s2) (AAV _▸le.trans l) new (fun _ _ _ e=>e) (H2.away w)
   exact .mk _ le' H' (As.eta rx)
  have is:MW fn.body (Oj r (callEnvC fd s.heap.objs.size a) vars lam).K body:=F.is
  refine AAO (hb _ g₁ s₁ body is I) (fun fl s2 p=>p.elim (fun ρ σ₂ g2 e q l I2=>?_) fun u x σ₂ g2 e q l H w rx=>?_) fun _ _ h=>h.elim
  ·obtain ⟨q1,rfl⟩:=q
   subst e
   exact done l I2.has I2.loc.ow (q1▸rfl)
  ·obtain ⟨q1,rfl⟩:=q
   subst e
   exact done l H w (q1▸rx)
theorem FN.of (hP:Pg f=some fn) (hl:xs.length=fn.np) (hb:SSs n fn.body (B3 fn xs) σ (Ot v σ')) (hn:1<=n):FN (n+1) f xs σ v σ':=fun r g s a Xs hf A R=>FN.run hP hl hb hn hf A.ok A.frames A.depth A.units A.hh A.frs A.has R
end
end Mine
namespace Mine
open PySem PySem.Calls
noncomputable def low (m:Nat):V->Prop
 | .ref k=>k < m
 | .tup ws=>∀ k,.inr k∈ws->k < m
 | .obj ks=>∀ k,k∈ks->k < m
 | .pr x y=>low m x/\low m y
 | _=>True
noncomputable def E2 (m:Nat):O->Prop
 | .list vs=>∀ v,v∈vs->low m v
 | _=>True
noncomputable def G.seal (g:G) (m:Nat) (h:Heap):G:=⟨fun a=>if a∈g.mu.drop m then h.get? a else g.fz a,g.hid,g.mu.take m⟩
def SnR (σ:Aa) (m k:Nat) (d:PyData):Prop:=∃ ds,d=.list ds/\m<=k/\σ[k]? = some (.list (ds.map .d))
noncomputable def SnW (σ:Aa) (m:Nat):PyData ⊕ Nat->PyData->Prop
 | .inl x,d=>d=x
 | .inr k,d=>SnR σ m k d
noncomputable def Sn (σ:Aa) (m:Nat):V->PyData->Prop
 | .d x,d=>d=x
 | .ref k,d=>SnR σ m k d
 | .tup ws,d=>∃ ds,d=.tuple ds/\Aw (SnW σ m) ws ds
 | _,_=>False
section
variable {T:Top} {g g':G} {σ τ σ':Aa} {s s':Shared} {v:V} {X:Value} {m n f:Nat} {h:Heap} {d:PyData} {xs:List V} {r:Ar}
theorem Aw.mem {α β:Type} {R:α->β->Prop} {as:List α} {bs:List β} {a:α} (h:Aw R as bs) (ha:a∈as):∃ b,R a b:=by
 obtain ⟨k,hk⟩:=List.mem_iff_getElem?.mp ha
 obtain ⟨b,_,r⟩:=h.get hk
 exact ⟨b,r⟩
theorem KU {k:Nat} {a:Addr} (e:g.mu[k]? = some a):k < g.mu.length:=(AAM.mp e).1
theorem SD:∀ {v:V} {X:Value},As T g v X->low g.mu.length v:=by
 intro v
 induction v with
 | ref k=>intro X rx; obtain ⟨a,e,_⟩:=rx; exact KU e
 | tup ws=>intro X rx; exact rx (fun _=>_) fun a o vs n h1 h2 h3 h4 h5 k hk=>by obtain ⟨b,a,e,_⟩:=h4.mem hk; exact KU e
 | obj ks=>intro X rx; exact rx (fun _=>_) fun a d o mA _ _ _ _ _ _ _ h k hk=>by obtain ⟨b,a,e,_⟩:=h.mem hk; exact KU e
 | pr x y ix iy=>intro X rx; exact rx (fun _=>_) fun a o vs n _ _ _ h4 _=>by obtain ⟨a',b',_,r1,r2⟩:=h4; exact ⟨ix r1,iy r2⟩
 | _=>intro X rx; trivial
theorem PU {o:O} {x:Obj} (rx:Dp T g o x):E2 g.mu.length o:=by
 cases o with
 | list vs=>exact rx (fun _=>_) fun xs m hr _ v hv=>by obtain ⟨b,e⟩:=hr.mem hv; exact SD e
 | _=>trivial
theorem Dr (H:Has T g σ s):K1 g.fz (g.seal m h).fz:=fun a o e=>(if_neg fun (q:a∈g.mu.drop m)=>Am (H.ap a (List.mem_of_mem_drop q)) e).trans e
theorem Nr {k:Nat} {a:Addr} (hk:k < m) (e:g.mu[k]? = some a):(g.seal m h).mu[k]? = some a:=(List.getElem?_take_of_lt hk).trans e
theorem Aw.imp {α β:Type} {R S:α->β->Prop}:∀ {as:List α} {bs:List β},(∀ a b,a∈as->R a b->S a b)->Aw R as bs->Aw S as bs
 | [],[],_,_=>trivial
 | _::_,_::_,h,x=>⟨h _ _ (.head _) x.1,Aw.imp (fun a b ha=>h a b (.tail _ ha)) x.2⟩
 | [],_::_,_,x=>x.elim
 | _::_,[],_,x=>x.elim
structure G.upTo (m:Nat) (g g':G):Prop where
 fz:K1 g.fz g'.fz
 mu:∀ (k:Nat) (a:Addr),k < m->g.mu[k]? = some a->g'.mu[k]? = some a
theorem HJ (up:G.upTo m g g') (hl:low m v) (rx:As T g v X):As T g' v X:=by
 induction v generalizing X with
 | d y=>exact A5.mono up.fz _ _ rx
 | ref k=>obtain ⟨a,e,q⟩:=rx; exact ⟨a,up.mu k a hl e,q⟩
 | tup ws=>exact Cg.mono up.fz (fun vs=>Aw.imp fun w v hw r=>by
  cases w with
  | inl y=>exact A5.mono up.fz _ _ r
  | inr k=>obtain ⟨a,e,q⟩:=r; exact ⟨a,up.mu k a (hl k hw) e,q⟩) rx
 | ty t=>exact rx
 | obj ks=>exact fun R_ k=>rx R_ fun a d o mA h1 h2 h3 h4 h5 h6 h7 h8=>k a d o mA (up.fz _ _ h1) h2 h3 h4 h5 (h6.to up.fz) h7 (Aw.imp (fun k _ hk=>fun ⟨a,e,q⟩=>⟨a,up.mu k a (hl k hk) e,q⟩) h8)
 | pr x y ix iy=>exact Cg.mono up.fz (fun vs=>fun ⟨a,b,e,h1,h2⟩=>⟨a,b,e,ix hl.1 h1,iy hl.2 h2⟩) rx
theorem FA {o:O} {x:Obj} (up:G.upTo m g g') (hl:E2 m o) (rx:Dp T g o x):Dp T g' o x:=by
 cases o with
 | list vs=>exact fun R_ k=>rx R_ fun xs m hr hz=>k xs m (Aw.imp (fun v x hv r=>HJ up (hl v hv) r) hr) hz
 | dictS kvs=>exact fun R_ k=>rx R_ fun es ep ws ho hd hk hp hn hr hl=>k es ep ws ho hd hk hp hn (Aw.mono (fun d v r=>⟨r.1,A5.mono up.fz _ _ r.2⟩) hr) hl
 | dictP kvs=>exact fun R_ k=>rx R_ fun es ep ws ho hd he hn hr hl=>k es ep ws ho hd he hn (Aw.mono (fun d v r=>⟨r.1,A5.mono up.fz _ _ r.2.1,A5.mono up.fz _ _ r.2.2⟩) hr) hl
theorem S7 (H:Has T g σ s):G.upTo m g (g.seal m h):=⟨Dr H,fun _ _ hk e=>Nr hk e⟩
theorem OJ {o:O} {x:Obj} (H:Has T g σ s) (hl:E2 m o) (rx:Dp T g o x):Dp T (g.seal m h) o x:=FA (S7 H) hl rx
theorem F4 {a:Addr} (hn:g.mu.Nodup) (h1:a∈g.mu.take m) (h2:a∈g.mu.drop m):False:=by
 have h:=ABW.mp ((List.take_append_drop m g.mu).symm▸hn)
 exact h.2.2 a h1 a h2 rfl
theorem Has.seal (H:Has T g (σ++τ) s) (hl:∀ (k:Nat) o,σ[k]? = some o->E2 σ.length o):Has T (g.seal σ.length s.heap) σ s:=by
 have out:∀ {a},a∉g.mu->(g.seal σ.length s.heap).fz a=g.fz a:=fun h=>if_neg fun q=>h (List.mem_of_mem_drop q)
 refine ⟨fun a o e=>?_,H.hd,?_,List.Nodup.sublist (List.take_sublist _ _) H.nd,fun a ha=>(if_neg fun q=>F4 H.nd ha q).trans (H.ap a (List.mem_of_mem_take ha)),fun a o e=>⟨(out (H.ah a o e).2).trans (H.ah a o e).1,fun q=>(H.ah a o e).2 (List.mem_of_mem_take q)⟩,fun k a o e1 e2 R_ kk=>?_,fun a o e=>Dr H a o (H.base a o e),fun t q ht R_ kk=>H.tb t q ht R_ fun ps h1 h2 h3 h4 h5 h6=>kk ps ((out h3).trans h1) h2 (fun q=>h3 (List.mem_of_mem_take q)) h4 h5 fun pos cv e=>?_,H.gens,H.os⟩
 ·have e:(if a∈g.mu.drop σ.length then s.heap.get? a else g.fz a)=some o:=e
  by_cases q:a∈g.mu.drop σ.length
  ·rw [if_pos q] at e; exact e
  ·rw [if_neg q] at e; exact H.fz a o e
 ·show (g.mu.take σ.length).length=_
  rw [List.length_take,H.len,AAF]; exact Nat.min_eq_left (AA9 _ _)
 ·have hk:k < σ.length:=(AAM.mp e2).1
  have e1:(g.mu.take σ.length)[k]? = some a:=e1
  rw [List.getElem?_take_of_lt hk] at e1
  exact H.ob k a o e1 ((ABE hk).trans e2) R_ fun x h1 h2=>kk x h1 (OJ H (hl k o e2) h2)
 ·obtain ⟨c,o,vs,u,q1,q2,q3⟩:=h6 pos cv e
  exact ⟨c,o,vs,u,q1,Dr H _ _ q2,q3⟩
theorem Nm {k:Nat} (H:Has T g σ s) (h:SnR σ m k d) (rx:∃ a,g.mu[k]? = some a/\X=.ref a):A5 (g.seal m s.heap).fz d X:=by
 obtain ⟨a,e,rfl⟩:=rx
 obtain ⟨ds,rfl,hm,hs⟩:=h
 have ha:a∈g.mu.drop m:=AA5 (i:=k-m) (by rw [List.getElem?_drop,Nat.add_sub_cancel' hm]; exact e)
 exact H.lst e hs fun xs n ho hr hn hz=>fun R_ kk=>kk a _ xs n ((if_pos ha).trans ho) rfl rfl (RepDs.mono (Dr H) _ _ (Au.toD hr)) (by rw [<-AAB (f:=V.d)]; exact hz)
theorem UE (H:Has T g σ s) (h:Sn σ m v d) (rx:As T g v X):A5 (g.seal m s.heap).fz d X:=by
 cases v with
 | d y=>obtain rfl:d=y:=h; exact A5.mono (Dr H) _ _ rx
 | ref k=>exact Nm H h rx
 | tup ws =>
  obtain ⟨ds,rfl,h⟩:=h
  have key:∀ {ws:List (PyData ⊕ Nat)} {ds:List PyData} {vs:List Value},Aw (GK g) ws vs->Aw (SnW σ m) ws ds->Aw (A5 (g.seal m s.heap).fz) ds vs:=by
   intro ws
   induction ws with
   | nil=>intro ds vs h1 h2; rw [h1.nil,h2.nil]; exact trivial
   | cons w ws ih =>
    intro ds vs h1 h2
    obtain ⟨v,vs,rfl,r1,r2⟩:=h1.cons
    obtain ⟨d,ds,rfl,q1,q2⟩:=h2.cons
    refine ⟨?_,ih r2 q2⟩
    cases w with
    | inl y=>obtain rfl:d=y:=q1; exact A5.mono (Dr H) _ _ r1
    | inr k=>exact Nm H q1 r1
  exact rx _ fun a o vs n h1 h2 h3 h4 h5 R_ kk=>kk a o vs n (Dr H _ _ h1) h2 h3 (.of (key h4 h)) (by rw [(key h4 h).length,<-h4.length]; exact h5)
 | ty _=>exact h.elim
 | obj _=>exact h.elim
 | pr _ _=>exact h.elim
theorem FN.seal' (hf:FN n f xs σ v (σ'++τ)) (hl:σ'.length=σ.length) (hw:∀ (k:Nat) o,σ'[k]? = some o->E2 σ'.length o) (hd:Sn (σ'++τ) σ'.length v d):FN n f xs σ (.d d) σ':=fun r g s a Xs h A R=>AAO (hf r g s a Xs h A R) (fun X s' p=>p _ fun g' le H rX =>
 .mk (g'.seal σ'.length s'.heap) ⟨⟨fun a o e=>Dr H a o (le.fz a o e),fun k a e=>Nr (hl▸A.has.len▸KU e) (le.mu k a e)⟩,le.hid⟩ (H.seal hw) (UE H hd rX)) fun _ _ h=>h
theorem Tq (H:Has T g σ s) (k:Nat) (o:O) (e:σ[k]? = some o):E2 σ.length o:=H.len▸H.ob k (g.mu[k]'(H.len▸(AAM.mp e).1)) o (AAN _) e _ fun x _ hx=>PU hx
theorem FN.seal (hf:FN n f xs σ v (σ++τ)) (hd:Sn (σ++τ) σ.length v d):FN n f xs σ (.d d) σ:=fun r g s a Xs h A R=>FN.seal' hf rfl (Tq A.has) hd r g s a Xs h A R
end
end Mine
namespace Mine
open PySem PySem.Calls
theorem Pm {α1 α2 α3 α4 α5 α6 α7 α8 α9 α10 α11 α12:Type} {p:α1->α2->α3->α4->α5->α6->α7->α8->α9->α10->α11->α12->Prop} {R:Prop} (h:∃ (x1:α1) (x2:α2) (x3:α3) (x4:α4) (x5:α5) (x6:α6) (x7:α7) (x8:α8) (x9:α9) (x10:α10) (x11:α11) (x12:α12),p x1 x2 x3 x4 x5 x6 x7 x8 x9 x10 x11 x12) (k:∀ (x1:α1) (x2:α2) (x3:α3) (x4:α4) (x5:α5) (x6:α6) (x7:α7) (x8:α8) (x9:α9) (x10:α10) (x11:α11) (x12:α12),p x1 x2 x3 x4 x5 x6 x7 x8 x9 x10 x11 x12->R):R:=by
 obtain ⟨x1,x2,x3,x4,x5,x6,x7,x8,x9,x10,x11,x12,h⟩:=h
 exact k _ _ _ _ _ _ _ _ _ _ _ _ h
theorem V0 {α1 α2 α3 α4 α5 α6 α7 α8 α9 α10 α11 α12 α13 α14 α15 α16 α17:Type} {p:α1->α2->α3->α4->α5->α6->α7->α8->α9->α10->α11->α12->α13->α14->α15->α16->α17->Prop} {R:Prop} (h:∃ (x1:α1) (x2:α2) (x3:α3) (x4:α4) (x5:α5) (x6:α6) (x7:α7) (x8:α8) (x9:α9) (x10:α10) (x11:α11) (x12:α12) (x13:α13) (x14:α14) (x15:α15) (x16:α16) (x17:α17),p x1 x2 x3 x4 x5 x6 x7 x8 x9 x10 x11 x12 x13 x14 x15 x16 x17) (k:∀ (x1:α1) (x2:α2) (x3:α3) (x4:α4) (x5:α5) (x6:α6) (x7:α7) (x8:α8) (x9:α9) (x10:α10) (x11:α11) (x12:α12) (x13:α13) (x14:α14) (x15:α15) (x16:α16) (x17:α17),p x1 x2 x3 x4 x5 x6 x7 x8 x9 x10 x11 x12 x13 x14 x15 x16 x17->R):R:=by
 obtain ⟨x1,x2,x3,x4,x5,x6,x7,x8,x9,x10,x11,x12,x13,x14,x15,x16,x17,h⟩:=h
 exact k _ _ _ _ _ _ _ _ _ _ _ _ _ _ _ _ _ h
section
variable {n:Nat} {T:Top} {r:Ar} {c:Cx} {ρ:Ah} {g g' g₁:G} {σ σ' σ₁ σ₂ σ3:Aa} {s s':Shared} {e a b:E} {x y v:V} {ws us:List V} {X:Value} {ks:List Nat} {k i f:Nat} {nm:Str}
theorem JR (H:Has T g σ s) (rx:As T g (.obj ks) X) {R_:Value->Prop} (k:∀ a mA,s.heap.Inst a T.cls mA->(∀ nm,nm∉CK->mA nm=none)->Aw (fun (k:Nat) (nm:Str)=>∃ a,g.mu[k]? = some a/\mA nm=some (.ref a)) ks CK->R_ (.ref a)):R_ X :=
 rx R_ fun a d o mA h1 h2 h3 h4 h5 h6 h7 h8=>k a mA ⟨o,H.fz _ _ h1,h2,h3,.inr ⟨d,h4,h5,h6.to H.fz⟩⟩ h7 h8
theorem LH (h:nm∈CK):typeLookup (.type "object") nm=pure none:=by
 rcases AAR.mp h with rfl | h
 ·rw [typeLookup_type,builtinLookup_eq_fast]; kernel_rfl
 ·rcases AAR.mp h with rfl | h
  ·rw [typeLookup_type,builtinLookup_eq_fast]; kernel_rfl
  ·rw [AAJ.mp h,typeLookup_type,builtinLookup_eq_fast]; kernel_rfl
theorem RQ {n:Str} {p q:Pos} {nm:Str} {env:Env}:eval (.Attribute (.Name n p) nm q) env=(eval (.Name n p) env>>=fun o=>standAt q.atName>>=fun _=>holding [o] (getAttr o nm true)>>=fun r=>pure r):=rfl
theorem SE.attr (h:SE n (.var i) ρ σ (.obj ks) σ₁) (hi:CK[f]? = some nm) (hk:ks[f]? = some k):SE n (.attr nm (.var i)) ρ σ (.ref k) σ₁:=fun c g s ex hc I=>hc (fun ex=>c.wp (eval ex c.env) (Ans c.toAr g (.ref k) σ₁) s) fun z q h1=>by
 refine h1 (fun z=>IsE (.var i) c.K z->c.wp (eval (.Attribute z nm q) c.env) (Ans c.toAr g (.ref k) σ₁) s) (fun m p _ h1=>?_) h1
 refine Bc RQ (B1 h h1 I fun X g₁ s₁ le I1 r1=>AAD (AA7 (AAD (AA8 ?_))))
 obtain ⟨N,mN,C,F⟩:=I1.ok.cls
 have hz:=fun b o e=>I1.has.fz b o (I1.has.base b o e)
 refine Pm (C.keeps hz).obj fun x1 x2 x3 x4 x5 x6 x7 x8 x9 xa xb xc hC=>?_
 have hm:=AA5 hi
 refine JR I1.has r1 (R_:=fun X=>c.wp (getAttr X nm true) (fun r s=>wpAny (model c.T.prog c.T.w) c.A (pure r) (Ans c.toAr g (.ref k) σ₁) (fun _ _=>False) s) s₁) fun a mA J hn h8=>?_
 obtain ⟨nm',e,a',e1,e2⟩:=h8.get hk
 obtain rfl:=Av hi e
 exact load_attr hC (C.keeps hz).ns F.ga (F.att _ hm) (LH hm) J e2 rfl (AAY (.mk g₁ le (I1.has.tok (s':=⟨s₁.heap,s₁.gens,s₁.drawn,s₁.toks+1,s₁.os⟩)) ⟨a',e1,rfl⟩))
theorem HW {o:Expr} {nm:Str} {ap p:Pos} {vs:List Expr} {env:Env} {Q E:Value->Shared->Prop} (hb:attributeBase o nm env (eval o env)=eval o env) (hf:methodCallForm (vs.length+([]:List Keyword).length) (backTo p (starEach vs env)) (backToKw p (keywordEach [] env))=true) (hl:(ap.endLine == p.line)=true)
 (h:wpAny (model r.T.prog r.T.w) r.A (eval o env) (fun X s₁=>∀ pl,wpAny (model r.T.prog r.T.w) r.A (getMethod X nm pl) (fun m s2=>wpAny (model r.T.prog r.T.w) r.A (callWith p m.1 m.2 (backTo p (starEach vs env)) []) Q E s2) E s₁) E s):wpAny (model r.T.prog r.T.w) r.A (eval (.Call (.Attribute o nm ap) vs [] p) env) Q E s:=by
 rw [arm_eval_Call,hb]
 refine AAD (AAO h (fun X s₁ h₁=>AAD (AA7 ?_)) fun _ _ e=>e)
 have hpos:methodCallPos true o env ap p=pure p:=by unfold methodCallPos; rw [hl]; rfl
 unfold methodCall
 rw [hf]
 refine AAD (AA8 (AAO (h₁ _) (fun m s2 h2=>AAD (wpAny_of_eq hpos h2)) fun _ _ e=>e))
theorem OP {o:Expr} {nm:Str} {ap p:Pos} {vs:List Expr} {env:Env} {Q:Value->Shared->Prop} (hb:attributeBase o nm env (eval o env)=eval o env) (hf:methodCallForm (vs.length+([]:List Keyword).length) (backTo p (starEach vs env)) (backToKw p (keywordEach [] env))=true) (hl:(ap.endLine == p.line)=true)
 (h:r.wp (eval o env) (fun X s₁=>∀ pl,r.wp (getMethod X nm pl) (fun m s2=>r.wp (callWith p m.1 m.2 (backTo p (starEach vs env)) []) Q s2) s₁) s):r.wp (eval (.Call (.Attribute o nm ap) vs [] p) env) Q s:=HW hb hf hl h
theorem few {vs:List Expr} {p:Pos} {env:Env} (h:EU b c.K vs) (hl:vs.length < 20):methodCallForm (vs.length+([]:List Keyword).length) (backTo p (starEach vs env)) (backToKw p (keywordEach [] env))=true:=by
 have e:=BW p env h
 rw [List.any_eq_false] at e
 exact (Bool.and_eq_true _ _).mpr ⟨(Bool.and_eq_true _ _).mpr ⟨List.all_eq_true.mpr fun x hx=>by simpa using e x hx,rfl⟩,AAI (ABT hl (by decide))⟩
theorem SE.mcall (hb:Ek a) (hm:mtP nm=some f) (ha:SE n a ρ σ (.obj ks) σ₁) (hs:SEs n b ρ σ₁ ws σ₂) (hf:FN n f (.obj ks::ws) σ₂ v σ3):SE n (.mcall nm a b) ρ σ v σ3:=fun c g s ex hc I=>hc (fun ex=>c.wp (eval ex c.env) (Ans c.toAr g v σ3) s) fun z ap vs p h1 h2 h3 h4=>by
 refine OP (hb h1 _ _ _) (few h2 h4) (AAI h3) (AAO (ha c g s z h1 I) (fun X s₁ p1=>p1 _ fun g₁ le1 a₁ r1 pl=>?_) fun _ _ h=>h)
 have I1:=I.step le1 a₁
 obtain ⟨N,mN,C,F⟩:=I1.ok.cls
 have hz:=fun b o e=>I1.has.fz b o (I1.has.base b o e)
 refine Pm (C.keeps hz).obj fun x1 x2 x3 x4 x5 x6 x7 x8 x9 xa xb xc hC=>?_
 obtain ⟨na,fa,fo,e1,e2,e3,e4⟩:=F.mt nm f hm
 obtain ⟨o,fd,ho,hd⟩:=I.cx.rd.fnob f fa e1
 refine JR I1.has r1 (R_:=fun X=>As c.T g₁ (.obj ks) X->c.wp (getMethod X nm pl) (fun m s2=>c.wp (callWith p m.1 m.2 (backTo p (starEach vs c.env)) []) (Ans c.toAr g v σ3) s2) s₁) (fun x mA J hn h8 r1=>?_) r1
 refine method_of hC (C.keeps hz).ns F.ga F.ge e2 (hz _ _ e3) e4 (typeLookup_type ..) J (hn nm na) ?_
 exact callWith_function (o:=o) (fd:=fd) (C9 (r:=c.toAr) h2 (AAO (hs c g₁ s₁ vs p h2 I1) (fun Ys s2 p2=>p2 _ fun g2 le2 a₂ r2=>⟨⟨(I1.step le2 a₂).base _ _ ho,hd⟩,B0 (r:=c.toAr) (le1.trans le2) (hf c.toAr g2 s2 fa (.ref x::Ys) e1 (I1.step le2 a₂).toAt ⟨As.mono le2.toup _ _ r1,r2⟩)⟩) fun _ _ h=>h))
end
end Mine
namespace Mine
open PySem PySem.Calls
noncomputable abbrev V3:Obj:={ cls:=.type "dict",data:=.dict #[] }
section
variable {n:Nat} {r:Ar} {c:Cx} {ρ:Ah} {g g' g₁:G} {σ σ' σ₁:Aa} {s s':Shared} {nm:Str}
theorem PL {n nm:Str} {p1 p2 p3 p4:Pos} {env:Env}:exec (.Assign [.Attribute (.Name n p1) nm p2] (.Dict [] [] p3) p4) env=(standAt p4>>=fun _=>eval (.Dict [] [] p3) env>>=fun v=>assign (.Attribute (.Name n p1) nm p2) env v>>=fun _=>pure Flow.next):=by
 rw [arm_exec_Assign]
 rfl
structure EE (T:Top) (s₀:Shared) (x dx L:Addr) (m mA:Str->Option Value) (ns:List Str) (Ds:List Addr) (s:Shared):Prop where
 nl:s.heap.Ns L m
 inst:s.heap.Inst x T.cls mA
 dict:∀ o,s.heap.get? x=some o->o.dict=some dx
 keep:∀ b o,s₀.heap.get? b=some o->s.heap.get? b=some o
 newX:s₀.heap.get? x=none
 newD:s₀.heap.get? dx=none
 lx:L≠x
 ld:L≠dx
 ds:∀ D,D∈Ds->s.heap.get? D=some V3/\s₀.heap.get? D=none/\D≠x/\D≠dx
 nd:Ds.Nodup
 wi:Within mA ns
 gens:s.gens=s₀.gens
 os:s.os=s₀.os
theorem OE {T:Top} {env:Env} {v:Str} {x dx N:Addr} {m mN mA:Str->Option Value} {ns:List Str} {Ds:List Addr} {s₀:Shared} {p1 p2 p3 p4:Pos} {Q:Flow->Shared->Prop} {A:Around} (hk:env.scope.kind=.function) (hl:env.kindOf v=some .local) (hb:(v == ("__debug__" : Str))=false) (hm:m v=some (.ref x))
 (C:PyProof.Rows.ClsAt s₀.heap T.cls N mN) (F:Oz T mN) (hnm:nm∈CK) (hz:ns.length<=sizeLine) (M:EE T s₀ x dx env.locals m mA ns Ds s)
 (hq:∀ s' D,EE T s₀ x dx env.locals m (fun y=>if y=nm then some (.ref D) else mA y) (nm::ns) (D::Ds) s'->Q .next s'):wpAny (model T.prog T.w) A (exec (.Assign [.Attribute (.Name v p1) nm p2] (.Dict [] [] p3) p4) env) Q (fun _ _=>False) s:=by
 rw [PL]
 have old:∀ b o,s.heap.get? b=some o->(s.heap.push V3).get? b=some o:=fun b o e=>AAK _ e
 refine AAD (AA7 (AAD (wpAny_Dict_empty ?_)))
 rw [arm_assign_Attribute]
 refine AAD (AAD (AA8 (wpAny_Name (wpAny_loadName_local hk hl (M.nl.keeps old) hm ?_) hb)))
 have C':=C.keeps fun b o e=>old b o (M.keep b o e)
 refine Pm C'.obj fun x1 x2 x3 x4 x5 x6 x7 x8 x9 xa xb xc hC=>?_
 obtain ⟨oC,eC⟩:∃ o,s₀.heap.get? T.cls=some o:=by
  refine Pm C.obj fun y1 y2 y3 y4 y5 y6 y7 y8 y9 ya yb yc hC=>?_
  exact ⟨_,hC⟩
 have xC:x≠T.cls:=fun q=>Am M.newX (q▸eC)
 obtain ⟨ox,hx,_⟩:=id M.inst
 have hD:=M.dict ox hx
 refine AAD (AA7 (AAD (AA8 (store_attr PySem.F.store_object hC C'.ns F.se (F.att _ hnm) (LH hnm) xC (M.inst.keeps old) (fun h' tk' J kp hs=>wpAny_release (AAY (hq _ s.heap.objs.size ?_))) M.wi hz))))
 have ne:∀ {b},b≠x->b≠dx->∀ o,s.heap.get? b=some o->h'.get? b=some o:=fun {b} q1 q2 o e=>kp b o q1 (fun o₀ d e1 e2 q=>q2 (by rw [q]; exact AAA (e2.symm.trans ((Av (old _ _ hx) e1)▸hD)))) (old b o e)
 have dead:∀ {b o},s.heap.get? b=some o->s.heap.objs.size≠b:=fun e q=>by rw [<-q,Bm] at e; exact Ac e
 have ax:=dead hx
 obtain ⟨oD,eD⟩:∃ o,s.heap.get? dx=some o:=by
  obtain ⟨o,h1,_,_,h4 | ⟨d,h4,_,o',_,_,h5,_⟩⟩:=id M.inst
  ·exact Am h4.1 (M.dict o h1)
  ·exact ⟨o',Av h4 (M.dict o h1)▸h5⟩
 have ad:=dead eD
 refine ⟨NsF.to (f:=s.heap.get?) M.nl (ne M.lx M.ld),J,fun o e=>?_,fun b o e=>ne (fun q=>Am M.newX (q▸e)) (fun q=>Am M.newD (q▸e)) o (M.keep b o e),M.newX,M.newD,M.lx,M.ld,all_cons ⟨kp _ _ ax (fun o₀ d e1 e2 q=>ad (by rw [q]; exact Av e2 ((Av (old _ _ hx) e1)▸hD))) (AA3 _ rfl),DQ fun o e=>dead (M.keep _ _ e) rfl,ax,ad⟩ fun D h=>?_,ABX.mpr ⟨fun q=>dead (M.ds _ q).1 rfl,M.nd⟩,M.wi.cons nm _,M.gens,M.os⟩
 ·obtain ⟨o1,e₁,_,_,_,hd⟩:=hs ox (old _ _ hx)
  exact Av e₁ e▸hd dx hD
 ·obtain ⟨q1,q2,q3,q4⟩:=M.ds D h
  exact ⟨ne q3 q4 _ q1,q2,q3,q4⟩
end
end Mine
namespace Mine
open PySem PySem.Calls
noncomputable def NH:S:=.cons (.setd 0 (ACB "held")) (.cons (.setd 0 (ACB "grounds")) (.cons (.setd 0 (ACB "heights")) .nil))
section
variable {n f nv:Nat} {T:Top} {r:Ar} {c:Cx} {ρ:Ah} {g g' g₁:G} {σ σ' σ₁:Aa} {s s':Shared} {nm:Str} {a b:Addr} {o:Obj}
theorem Dl.puts (F:Dl T g b) (ne:b≠a):Dl T (g.put a o) b:=⟨(if_neg ne).trans F.fz,F.hid,F.mu,F.tab⟩
theorem Dl.adds (F:Dl T g b) (ne:b≠a):Dl T (g.add a) b:=⟨F.fz,F.hid,fun q=>(FL q).elim F.mu ne,F.tab⟩
theorem HK:Dp T g (.dictS []) V3:=fun R_ k=>by
 obtain ⟨o,es,ep,h1,h2,h3,h4,h5,h6⟩:=Heap.DictOf.new (knd:=strKind T.prog T.w) {}
 rw [AA3 _ rfl] at h1
 rw [<-AAA h1] at h2 h3
 exact k es ep [] h2 h3 h4 h5 h6 trivial (ABF _)
theorem Qv {x dx L D1 D2 D3:Addr} {m:Str->Option Value} {ns:List Str} (H:Has r.T g σ s)
 (M:EE r.T s x dx L m (fun y=>if y=ACB "heights" then some (.ref D3) else if y=ACB "grounds" then some (.ref D2) else if y=ACB "held" then some (.ref D1) else none) ns [D3,D2,D1] s') :
 Ans r g (.obj [σ.length,σ.length+1,σ.length+2]) (σ++[.dictS [],.dictS [],.dictS []]) (.ref x) s':=by
 obtain ⟨ox,hx,hc,hnc,h4 | ⟨d,hd,hne,o',es,ep,h5,h6⟩⟩:=id M.inst
 ·exact Am h4.1 (M.dict ox hx)
 have e:=Av hd (M.dict ox hx)
 rw [e] at hd hne h5
 have nd1:=ABX.mp M.nd
 have nd2:=ABX.mp nd1.2
 obtain ⟨a3,f3,x3,d3⟩:=M.ds D3 (.head _)
 obtain ⟨a2,f2,x2,d2⟩:=M.ds D2 (.tail _ (.head _))
 obtain ⟨a1,f1,x1,d1⟩:=M.ds D1 (.tail _ (.tail _ (.head _)))
 have H0:=H.keep (s':=s') M.keep M.gens M.os
 have Fx:=H.free M.newX
 have H1:=Fx.put H0 hx
 have Fd:=(H.free M.newD).puts (a:=x) (o:=ox) hne
 have H2:=Fd.put H1 h5
 have F1:=((H.free f1).puts (a:=x) (o:=ox) x1).puts (a:=dx) (o:=o') d1
 have H3:=F1.add (ob:=.dictS []) H2 a1 HK
 have F2:=(((H.free f2).puts (a:=x) (o:=ox) x2).puts (a:=dx) (o:=o') d2).adds (a:=D1) fun q=>nd2.1 (q▸.head _)
 have H4:=F2.add (ob:=.dictS []) H3 a2 HK
 have F3:=((((H.free f3).puts (a:=x) (o:=ox) x3).puts (a:=dx) (o:=o') d3).adds (a:=D1) fun q=>nd1.1 (q▸.tail _ (.head _))).adds (a:=D2) fun q=>nd1.1 (q▸.head _)
 have H5:=F3.add (ob:=.dictS []) H4 a3 HK
 have l2:G.le [] ((g.put x ox).put dx o') (((((g.put x ox).put dx o').add D1).add D2).add D3):=G.le.add.trans (G.le.add.trans .add)
 have le:G.le [] g (((((g.put x ox).put dx o').add D1).add D2).add D3):=(G.le.put Fx.fz).trans ((G.le.put Fd.fz).trans l2)
 have m1:=(G.le.trans (own:=[]) (G.le.add (a:=D2)) (G.le.add (a:=D3))).mu _ _ (H2.addAt (a:=D1))
 have m2:=(G.le.add (own:=[]) (a:=D3)).mu _ _ (H3.addAt (a:=D2))
 have m3:=H4.addAt (a:=D3)
 rw [AAF] at m2 m3
 rw [AAF] at m3
 rw [ABQ,ABQ] at H5
 refine .mk _ le H5 fun R_ k=>k x dx ox _ (l2.fz _ _ ((G.le.put (own:=[]) Fd.fz).fz _ _ G.put_self)) hc hnc hd hne ⟨o',es,ep,l2.fz _ _ G.put_self,h6⟩ (fun nm hn=>?_) ⟨⟨D1,m1,rfl⟩,⟨D2,m2,rfl⟩,⟨D3,m3,rfl⟩,trivial⟩
 show (if nm=ACB "heights" then some (Value.ref D3) else if nm=ACB "grounds" then some (.ref D2) else if nm=ACB "held" then some (.ref D1) else none)=none
 rw [if_neg fun q=>hn (by rw [q]; exact .tail _ (.tail _ (.head _))),if_neg fun q=>hn (by rw [q]; exact .tail _ (.head _)),if_neg fun q=>hn (by rw [q]; exact .head _)]
theorem Gw {K:Kx} {env:Env} {x dx N:Addr} {m mN mA:Str->Option Value} {ns:List Str} {Ds:List Addr} {s₀:Shared} {st:Stmt} {l:List Stmt} {A:Around} {Q:Flow->Shared->Prop} (hk:env.scope.kind=.function) (hv:∀ v,K.vars[0]? = some v->K.kd v .local=true->env.kindOf v=some .local/\m v=some (.ref x))
 (C:PyProof.Rows.ClsAt s₀.heap T.cls N mN) (F:Oz T mN) (is:IsS (.setd 0 nm) K st) (hnm:nm∈CK) (hz:ns.length<=sizeLine) (M:EE T s₀ x dx env.locals m mA ns Ds s)
 (hq:∀ s' D,EE T s₀ x dx env.locals m (fun y=>if y=nm then some (.ref D) else mA y) (nm::ns) (D::Ds) s'->wpAny (model T.prog T.w) A (execs l env) Q (fun _ _=>False) s'):wpAny (model T.prog T.w) A (execs (st::l) env) Q (fun _ _=>False) s :=
 is (fun st=>wpAny (model T.prog T.w) A (execs (st::l) env) Q (fun _ _=>False) s) fun v p1 p2 p3 p4 h=>by
  rw [execs_cons]
  exact AAD (OE hk (hv v h.2.1 h.1).1 h.2.2 (hv v h.2.1 h.1).2 C F hnm hz M hq)
theorem QO {K:Kx} {env:Env} {x dx N:Addr} {m mN:Str->Option Value} {s₀:Shared} {body:List Stmt} {A:Around} {Q:Flow->Shared->Prop} (hk:env.scope.kind=.function) (hv:∀ v,K.vars[0]? = some v->K.kd v .local=true->env.kindOf v=some .local/\m v=some (.ref x))
 (C:PyProof.Rows.ClsAt s₀.heap T.cls N mN) (F:Oz T mN) (is:MW NH K body) (M:EE T s₀ x dx env.locals m (fun _=>none) [] [] s)
 (hq:∀ s' D1 D2 D3 ns,EE T s₀ x dx env.locals m (fun y=>if y=ACB "heights" then some (.ref D3) else if y=ACB "grounds" then some (.ref D2) else if y=ACB "held" then some (.ref D1) else none) ns [D3,D2,D1] s'->Q .next s'):wpAny (model T.prog T.w) A (execs body env) Q (fun _ _=>False) s :=
 is (fun body=>wpAny (model T.prog T.w) A (execs body env) Q (fun _ _=>False) s) fun st1 l1 q1 q2=>Gw hk hv C F q1 (.head _) (ABF _) M fun s1 D1 M1=>q2 (fun l1=>wpAny (model T.prog T.w) A (execs l1 env) Q (fun _ _=>False) s1) fun st2 l2 q3 q4=>Gw hk hv C F q3 (.tail _ (.head _)) (by rw [<-AR]; decide) M1 fun s2 D2 M2=>q4 (fun l2=>wpAny (model T.prog T.w) A (execs l2 env) Q (fun _ _=>False) s2) fun st3 l3 q5 q6=>by
  obtain rfl:l3=[]:=q6
  exact Gw hk hv C F q5 (.tail _ (.tail _ (.head _))) (by rw [<-AR]; decide) M2 fun s3 D3 M3=>wpAny_execs_nil (hq s3 D1 D2 D3 _ M3)
theorem O4 (c:Addr):Code.weight (.builtin "type.__call__" ⟨[.ref c],[]⟩)<=2:=by
 first
  | exact AAC (Nat.le_of_eq (show Code.weight (.builtin "type.__call__" ⟨[.ref c],[]⟩)=1 by rfl)) (by decide)
  | exact AAC (Nat.le_of_eq (show Code.weight (.builtin "type.__call__" ⟨[.ref c],[]⟩)=0 by rfl)) (by decide)
  | exact Nat.le_of_eq (show Code.weight (.builtin "type.__call__" ⟨[.ref c],[]⟩)=2 by rfl)
theorem UU (hm:mtP (ACB "__init__")=some f) (hP:Pg f=some ⟨1,nv,NH⟩) (A:At n r g σ s):r.wp (call (.ref r.T.cls) []) (Ans r g (.obj [σ.length,σ.length+1,σ.length+2]) (σ++[.dictS [],.dictS [],.dictS []])) s:=by
 obtain ⟨N,mN,C,F⟩:=A.ok.cls
 have hz:=fun b o e=>A.has.fz b o (A.has.base b o e)
 refine Pm (C.keeps hz).obj fun x1 x2 x3 x4 x5 x6 x7 x8 x9 xa xb xc hC=>?_
 obtain ⟨_,fa,fo,e1,e2,e3,e4⟩:=F.mt _ f hm
 refine wpAny_call_obj_init PySem.F.objNew hC (C.keeps hz).ns e2 (hz _ _ e3) e4 fun h' x dx Mk=>A.ok.fns f _ fa hP e1 _ fun fd body o vars lam I=>?_
 have hz':=fun b o e=>Mk.keeps b o (hz b o e)
 refine wpAny_call (codeAny_call_cells (vals:=[.ref x]) ?_ (hz' _ _ I.ob) I.data (A.nolimit.keeps Mk.keeps) (I.code.keeps hz') I.bd (I.bind [.ref x] rfl) I.clo (fun p hp=>?_) (fun s₁ ic=>?_) I.cor I.gen I.kind)
 ·show r.A.depth+Code.weight _ < 1000
  exact AAS (Nat.add_le_add (AAC (AA9 _ _) A.depth) (O4 _)) (by decide)
 ·refine (I.par p.1 (List.of_mem_zip (a:=p.1) (b:=p.2) hp).1).imp id fun h=>⟨h,?_⟩
  obtain ⟨c,q⟩:=BF (k:=h'.objs.size+1) (acc:=[]) (AW h)
  obtain ⟨c,q⟩:=E3 q
  rw [q]; rfl
 ·obtain ⟨hh,tk,hs⟩:=ic.toInCall.same
  obtain ⟨ox,hx,hc,hnc,h4 | ⟨d,hd,hne,h5⟩⟩:=id Mk.inst
  ·exact Am h4.1 (Mk.dict ox hx)
  have e:=Av hd (Mk.dict ox hx)
  rw [e] at hd hne h5
  obtain ⟨od,_,_,h6,_⟩:=h5
  have lt:∀ {b o},h'.get? b=some o->h'.objs.size≠b:=fun e q=>by rw [<-q,Bm] at e; exact Ac e
  have M0:EE r.T s x dx (callEnvC fd h'.objs.size fa).locals _ (fun _=>none) [] [] s₁:=⟨ic.toInCall.ns,Mk.inst.keeps ic.toInCall.keep,fun o e=>Av (ic.toInCall.keep _ _ hx) e▸hd,fun b o e=>ic.toInCall.keep _ _ (Mk.keeps b o e),Mk.newX,Mk.newD,lt hx,lt h6,(fun _ h=>nomatch h),ABY,.nil,by rw [hs],by rw [hs]⟩
  have is:MW NH ⟨vars,fd.scope.names,vars,glP,lam⟩ body:=I.is
  have hv:∀ {v},vars[0]? = some v->Kx.kd ⟨vars,fd.scope.names,vars,glP,lam⟩ v .local=true->(callEnvC fd h'.objs.size fa).kindOf v=some .local/\bindL (callEnvC fd h'.objs.size fa).kindOf ((vars.take 1).zip [.ref x]) (fun _=>none) v=some (.ref x):=fun {v} h1 h2=>by
   have h3:(callEnvC fd h'.objs.size fa).kindOf v=some .local:=Kx.kd_eq h2
   exact ⟨h3,(Gi (vs:=[.ref x]) (i:=0) (List.Nodup.sublist (List.take_sublist 1 vars) I.nd) (by rw [List.getElem?_take_of_lt Nat.zero_lt_one]; exact h1) rfl).1 h3⟩
  exact AAO (QO (T:=r.T) (s₀:=s) I.kind (fun v h1 h2=>hv h1 h2) (C.keeps hz) F is M0 fun s' D1 D2 D3 ns M=>⟨rfl,Qv A.has M⟩) (fun _ _ h=>h) fun _ _ h=>h.elim
theorem SE.new (hm:mtP (ACB "__init__")=some f) (hP:Pg f=some ⟨1,nv,NH⟩):SE n .new ρ σ (.obj [σ.length,σ.length+1,σ.length+2]) (σ++[.dictS [],.dictS [],.dictS []]):=fun c g s ex hc I=>hc (fun ex=>c.wp (eval ex c.env) (Ans c.toAr g _ _) s) fun nm np es p h1 h2=>by
 obtain rfl:es=[]:=h2
 refine PyProof.Rows.Call_Name rfl (Cn I h1 fun x hv=>?_)
 obtain rfl:x=.ref c.T.cls:=hv
 obtain ⟨N,mN,C,F⟩:=I.ok.cls
 exact PyProof.Rows.callWith_cls0 C (fun b o e=>I.has.fz b o (I.has.base b o e)) (UU hm hP I.toAt)
end
end Mine
namespace Mine
open PySem PySem.Calls
section
variable {n:Nat} {K:Kx} {c:Cx} {ρ:Ah} {g g' g₁:G} {σ σ' σ₁:Aa} {s s':Shared} {es:E} {v u w z:V} {ws:List V} {xs:List Nat} {i j l:Nat} {Q:Fl->Aa->Prop} {env:Env}
theorem KH {α β:Type} {f:α->Option β}:∀ {l:List α},(∃ e,e∈l/\f e=none)->(l.filterMap f).length < l.length
 | [],h=>by obtain ⟨_,h,_⟩:=h; exact nomatch h
 | a::r,h=>by
  obtain ⟨e,h,he⟩:=h
  rw [List.filterMap_cons]
  rcases AAR.mp h with q | h
  ·rw [<-q,he]; exact Nat.lt_succ_of_le (List.length_filterMap_le _ _)
  ·have ih:=KH (f:=f) (l:=r) ⟨e,h,he⟩
   cases f a with
   | none=>exact Nat.lt_succ_of_lt ih
   | some b=>exact Nat.succ_lt_succ ih
theorem Sy {ts vs:List Expr} {k k':Nat} {p p':Pos} (hn:env.scope.names=K.names) (h:GF K ts=true):swappedStores [.Tuple ts k p] (.Tuple vs k' p') env=pure none:=by
 unfold swappedStores
 dsimp only
 split
 ·rfl
 ·split
  ·rfl
  ·refine if_pos ?_
   rw [Bool.or_eq_true]
   refine .inl (bne_iff_ne.mpr (Nat.ne_of_lt ?_))
   obtain ⟨e,he,h0⟩:=List.any_eq_true.mp h
   refine KH ⟨e,he,?_⟩
   cases e with
   | Name nm p =>
    have h1:(!K.kd nm .local)=true:=h0
    have h2:(env.kindOf nm == some .local)=false:=by
     rw [AM hn,beq_eq_false_iff_ne]
     exact ABG (Bool.not_eq_true' _▸h1)
    show (if (env.kindOf nm == some .local&&_)=true then some nm else none)=none
    rw [h2]; rfl
   | _=>exact ff_ h0
theorem SS.swp (h:SE n (.tup es) ρ σ v σ₁) (hv:BY v=some ws) (hl:ws.length=xs.length) (hq:Q (.next (DB ρ xs ws)) σ₁):SS n (.swp xs es) ρ σ Q:=fun c g s x hc I=>hc (fun x=>c.wp (exec x c.env) (Bv n c g Q) s) fun ts k p vs k' p' pos h1 h2=>by
 have h2:IsE (.tup es) c.K (.Tuple vs k' p'):=fun R_ kk=>kk vs k' p' h2
 refine Bc (Nc (fun t l=>rfl) (Sy I.cx.names h1.2.1)) (AAD (AA7 (B1 h h2 I fun X g₁ s₁ le I1 r1=>?_)))
 exact C6 I1.has r1 hv (R_:=fun X=>c.wp (assign (.Tuple ts k p) c.env X>>=fun _=>pure Flow.next) (Bv n c g Q) s₁) fun t Xs hT hr _ _=>AAD (I1.unpack h1.1 hT hr hl fun g2 s2 le2 I2=>AAY fun R_ k1 _=>k1 _ σ₁ g2 hq (le.toO.trans le2) I2)
theorem OO {es:E} {x:Expr}:∀ {vs:List Expr},EU es K vs->x∈vs->JD x:=by
 induction es with
 | nil=>intro vs h hx; rw [show vs=[] from h] at hx; exact nomatch hx
 | cons e es _ ih=>exact fun {vs} h hx=>h (fun vs=>x∈vs->JD x) (fun y l h1 h2 hx=>(AAR.mp hx).elim (fun q=>q▸BK e h1) (ih h2)) hx
 | _=>exact fun h=>h.elim
theorem P6 {a b d:Str} {pa pb pd:Pos} {vs:List Expr} {k k':Nat} {p p':Pos} (X:Ma n c) (hp:EU es c.K vs) (h:P7 c.K a b d pa pb pd vs=true):swappedStores [.Tuple [.Name a pa,.Name b pb,.Name d pd] k p] (.Tuple vs k' p') c.env=pure (some [a,b,d]):=by
 have h0:=AAH.mp h
 have h1:=AAH.mp h0.1
 have h3:=AAH.mp h1.1
 have h4:=AAH.mp h3.1
 have h5:=AAH.mp h4.1
 have h6:=AAH.mp h5.1
 have h7:=AAH.mp h6.1
 have h8:=AAH.mp h7.1
 have kd:∀ {x},c.K.kd x .local=true->(c.env.kindOf x == some .local)=true:=fun h=>by rw [AM X.names,Kx.kd_eq h]; rfl
 have hb:c.env.blockKind=.function:=by unfold Env.blockKind; rw [X.kind]; rfl
 have e1:(if (c.env.kindOf a == some .local&&pa.line == pa.line)=true then some a else none)=some a:=if_pos (by rw [kd h8.1,beq_self_eq_true]; rfl)
 have e2:(if (c.env.kindOf b == some .local&&pb.line == pa.line)=true then some b else none)=some b:=if_pos (by rw [kd h8.2,h6.2]; rfl)
 have e3:(if (c.env.kindOf d == some .local&&pd.line == pa.line)=true then some d else none)=some d:=if_pos (by rw [kd h7.2,h5.2]; rfl)
 have q1:(!(([Expr.Name a pa,.Name b pb,.Name d pd].length == 2||[Expr.Name a pa,.Name b pb,.Name d pd].length == 3))||vs.length != 3||c.env.blockKind != .function)=false:=by
  rw [hb,ABM h3.2]; rfl
 refine (if_neg (by rw [show ([Expr.Name a pa,.Name b pb,.Name d pd].length)=3 from rfl] at q1 ⊢; rw [q1]; exact ABB)).trans ?_
 refine (if_neg fun q=>?_).trans ?_
 ·obtain ⟨x,hx,e⟩:=List.any_eq_true.mp q
  cases x with
  | Starred z pz=>exact tt_ (congrArg Prod.fst (List.cons.inj ((OO hp hx).star c.env [])).1)
  | _=>exact ff_ e
 ·have key:∀ N:List Str,N=[a,b,d]->(if (N.length != 3||N.eraseDups.length != N.length)=true then (pure none:Sem (Option (List Str))) else if vs.all (foldedForSure 8)=true then pure none else
   if vs.all (constantsAlone 8)=true then unsupported "assign.tuple-of-constant-expressions:order-of-the-stores" else pure (some N))=pure (some [a,b,d]):=fun N hN=>by
   subst hN
   have q3:([a,b,d].length != 3||[a,b,d].eraseDups.length != [a,b,d].length)=false:=by rw [ABM h4.2]; rfl
   have q4:vs.all (foldedForSure 8)=false:=by simpa using h1.2
   have q5:vs.all (constantsAlone 8)=false:=by simpa using h0.2
   rw [q3,q4,q5]; rfl
  refine key _ ?_
  have fm:∀ {f:Expr->Option Str} {x:Expr} {l:List Expr} {y:Str} {l':List Str},f x=some y->l.filterMap f=l'->(x::l).filterMap f=y::l':=fun h h'=>(List.filterMap_cons_some h).trans (congrArg _ h')
  refine fm ?_ (fm ?_ (fm ?_ rfl))
  ·exact e1
  ·exact e2
  ·exact e3
theorem Sx {a b d:Str} {pa pb pd:Pos} {vs:List Expr} {k k':Nat} {p p' pos:Pos} (h:swappedStores [.Tuple [.Name a pa,.Name b pb,.Name d pd] k p] (.Tuple vs k' p') env=pure (some [a,b,d])):exec (.Assign [.Tuple [.Name a pa,.Name b pb,.Name d pd] k p] (.Tuple vs k' p') pos) env =
 (standAt pos>>=fun _=>eval (.Tuple vs k' p') env>>=fun Z=>rule "assign.swapped-stores" >>= fun _=>unpackItems Z 3 none>>=fun items=>assignInOrder [bindName env d,bindName env b,bindName env a] items.reverse>>=fun _=>pure Flow.next):=by
 rw [arm_exec_Assign]
 show (standAt pos>>=fun _=>eval (.Tuple vs k' p') env>>=fun Z=>swappedStores [.Tuple [.Name a pa,.Name b pb,.Name d pd] k p] (.Tuple vs k' p') env>>=_)=_
 rw [h]
 rfl
theorem SS.swl (h:SE n (.tup es) ρ σ v σ₁) (hv:BY v=some [u,w,z]) (hq:Q (.next (((ρ.set l (some z)).set j (some w)).set i (some u))) σ₁):SS n (.swl i j l es) ρ σ Q:=fun c g s x hc I=>hc (fun x=>c.wp (exec x c.env) (Bv n c g Q) s) fun a b d pa pb pd k p vs k' p' pos h1 h2=>by
 have h3:IsE (.tup es) c.K (.Tuple vs k' p'):=fun R_ kk=>kk vs k' p' h2
 refine Bc (Sx (P6 I.cx h2 h1.2)) (AAD (AA7 (B1 h h3 I fun X g₁ s₁ le I1 r1=>?_)))
 refine C6 I1.has r1 hv (R_:=fun X=>c.wp (rule "assign.swapped-stores" >>= fun _=>unpackItems X 3 none>>=fun items=>assignInOrder [bindName c.env d,bindName c.env b,bindName c.env a] items.reverse>>=fun _=>pure Flow.next) (Bv n c g Q) s₁) fun t Xs hT hr hn _=>AAD (wpAny_rule (AAD ?_))
 obtain ⟨x1,Ys,e1,q1,hr⟩:=hr.cons
 obtain ⟨x2,x3,e2,q2,q3⟩:=hr.two
 rw [e2] at e1
 have hz:3=Xs.size:=hn
 rw [hz]
 refine wpAny_unpackItems_tuple I1.hh.1 hT fun h' he=>?_
 rw [e1]
 have I2:Inv n c ρ g₁ σ₁ { s₁ with heap:=h' }:=I1.step (.refl _ _) (I1.has.keep fun b o e=>he b o (fun q=>by rw [q,Bm] at e; exact Ac e) e)
 refine AAD (AAD (AA8 (wpAny_bindName (I2.store h1.1.2.2 q3 fun g3 s3 le3 up3 I3=>?_))))
 refine AAD (AA8 (wpAny_bindName (I3.store h1.1.2.1 (As.mono up3 _ _ q2) fun g4 s4 le4 up4 I4=>?_)))
 refine AAD (AA8 (wpAny_bindName (I4.store h1.1.1 (As.mono (up3.trans up4) _ _ q1) fun g5 s5 le5 _ I5=>?_)))
 exact AAY (AAY fun R_ k1 _=>k1 _ σ₁ g5 hq (le.toO.trans (le3.trans (le4.trans le5))) I5)
end
end Mine
namespace Mine
open PySem PySem.Calls
noncomputable def Ef (z:Int) (is:List Int):Int:=match is with | []=>z | b::r=>r.foldl (fun a b=>if a < b then b else a) b
noncomputable def KV (b:Int) (is:List Int):Int:=is.foldl (fun a b=>if a < b then b else a) b
theorem SR (a v:Value):argsOk "max" ⟨[a],[(ACB "default",v)]⟩:=by unfold argsOk; kernel_rfl
section
variable {prog:Program} {w:World} {A:Around} {R:Result->Shared->Prop} {l I S:Addr} {xs:Array Value} {is:List Int} {d:Value}
structure GX (l I S:Addr) (xs:Array Value) (i:Nat) (bs:Array Value) (h:Heap):Prop where
 it:h.IsListIter I l i
 ls:h.IsList l xs
 bo:∃ c,h.get? S=some { cls:=.type "list",dict:=none,data:=.seq bs c,slots:=#[] }
theorem GX.turned {i:Nat} {bs:Array Value} {h h':Heap} (x:GX l I S xs i bs h) (hlI:l≠I) (hSI:S≠I) (it:h'.IsListIter I l (i+1)) (hs:Heap.SameBut I h h'):GX l I S xs (i+1) bs h':=by
 obtain ⟨o,ho,r⟩:=x.ls
 obtain ⟨c,hc⟩:=x.bo
 exact ⟨it,⟨o,(hs.2 l hlI).trans ho,r⟩,c,(hs.2 S hSI).trans hc⟩
theorem GX.put {i:Nat} {bs bs':Array Value} {h:Heap} (x:GX l I S xs i bs h) (hlS:l≠S) (hSI:S≠I):GX l I S xs i bs' (h.update S (Obj.mapSeq fun _=>bs')):=by
 obtain ⟨o,ho,r⟩:=x.ls
 obtain ⟨c,hc⟩:=x.bo
 refine ⟨x.it.at fun o e=>(ABD _ _ hSI).trans e,⟨o,(ABD _ _ (Ne.symm hlS)).trans ho,r⟩,_,Heap.get?_update_self _ hc rfl⟩
theorem Qr (hh:A.handled=none) (hlI:l≠I) (hSI:S≠I) (hlS:l≠S):∀ (k i:Nat) (s:Shared) (b:Int) (t:Tok),xs.size-i=k->GX l I S xs i #[.int b t,.int b t] s.heap->(∀ (j:Nat) (x:Value),xs[j]? = some x->∃ t,x=Value.int (is.getD j 0) t)->xs.size=is.length ->
 (∀ h' tk t',(∀ a o,a≠I->a≠S->s.heap.get? a=some o->h'.get? a=some o)->R (.ok (.ret (.int (KV b (is.drop i)) t'))) { s with heap:=h',toks:=tk }) ->
 codeAny (model prog w) A (.builtin "max.loop" ⟨[.ref I,.none,.ref S],[(ACB "default",d)]⟩) R s:=by
 have hname:(toString "max" ++ toString ".loop" : String) = "max.loop" := by decide
 intro k
 induction k with
 | zero =>
  intro i s b t hk x hx hl hR
  obtain ⟨c,hc⟩:=x.bo
  refine codeAny_builtin F.entry_max_loop ?_
  rw [Around.under_plainId F.plain_max_loop _]
  show wpAny _ A.in1 (seqItems? (.ref S)>>=_) _ _ s
  refine AAD (wpAny_seqItems hc rfl ?_)
  show wpAny _ A.in1 (tryCatch (pyNext (.ref I)) _>>=_) _ _ s
  refine AAD (wpAny_tryCatch (wpAny_pyNext_list_end (A:=A.in1) hh x.it x.ls (by rw [Array.getElem?_eq_none_iff]; omega) fun h' hx'=>?_))
  show wpAny _ A.in1 (updateSeq S (fun _=>#[])>>=_) _ _ _
  refine AAD ?_
  refine wpAny_updateSeq (hx' S _ hSI hc) rfl (AAD (wpAny_letGo (AAY ?_)))
  have e:is.drop i=[]:=List.drop_eq_nil_of_le (by omega)
  rw [e] at hR
  exact hR _ _ t fun a o h1 h2 ho=>(ABD _ _ (Ne.symm h2)).trans (hx' a o h1 ho)
 | succ k ih =>
  intro i s b t hk x hx hl hR
  have hi:i < xs.size:=by omega
  obtain ⟨u,hu⟩:=hx i xs[i] (AB5 hi)
  obtain ⟨c,hc⟩:=x.bo
  have ed:is.drop i=is.getD i 0::is.drop (i+1):=by
   rw [List.drop_eq_getElem_cons (by omega)]
   simp [AAN (show i < is.length by omega)]
  refine codeAny_builtin F.entry_max_loop ?_
  rw [Around.under_plainId F.plain_max_loop _]
  show wpAny _ A.in1 (seqItems? (.ref S)>>=_) _ _ s
  refine AAD (wpAny_seqItems hc rfl ?_)
  show wpAny _ A.in1 (tryCatch (pyNext (.ref I)) _>>=_) _ _ s
  refine AAD (wpAny_tryCatch (wpAny_pyNext_list_item (A:=A.in1) x.it x.ls (AB5 hi) fun h' it' hs=>?_))
  have x':=x.turned hlI hSI it' hs
  obtain ⟨c',hc'⟩:=x'.bo
  rw [hu]
  show wpAny _ A.in1 (tryCatch (holding [.int (is.getD i 0) u,.int (is.getD i 0) u] (richCompare .Gt (.int (is.getD i 0) u) (.int b t)>>=_)) _>>=_) _ _ _
  refine AAD (wpAny_tryCatch (AA8 (AAD (P.gt_int ?_))))
  refine AAD (AA8 (wpAny_truthy_bool ?_))
  refine AAD (wpAny_letGo (AAY ?_))
  by_cases hb:is.getD i 0 > b
  ·rw [AAI hb]
   dsimp only; rw [if_pos rfl]
   refine AAD ?_
   refine wpAny_updateSeq hc' rfl (AAD (wpAny_letGo ?_))
   rw [hname]
   refine AAY ⟨plainId_quiet F.plain_max_loop _,ih (i+1) _ (is.getD i 0) u (by omega) (x'.put hlS hSI) hx hl fun h'' tk t' hk'=>?_⟩
   have e2:KV b (is.drop i)=KV (is.getD i 0) (is.drop (i+1)):=by
    rw [ed]; show (is.drop (i+1)).foldl _ (if b < is.getD i 0 then is.getD i 0 else b)=_; rw [if_pos hb]; rfl
   rw [<-e2]
   exact hR h'' tk t' fun a o h1 h2 ho=>hk' a o h1 h2 ((ABD _ _ (Ne.symm h2)).trans ((hs.2 a h1).trans ho))
  ·rw [AAT hb]
   dsimp only; rw [if_neg ABB]
   refine AAD (wpAny_letGo ?_)
   rw [hname]
   refine AAY ⟨plainId_quiet F.plain_max_loop _,ih (i+1) _ b t (by omega) x' hx hl fun h'' tk t' hk'=>?_⟩
   have e2:KV b (is.drop i)=KV b (is.drop (i+1)):=by
    rw [ed]; show (is.drop (i+1)).foldl _ (if b < is.getD i 0 then is.getD i 0 else b)=_; rw [if_neg (by omega)]; rfl
   rw [<-e2]
   exact hR h'' tk t' fun a o h1 h2 ho=>hk' a o h1 h2 ((hs.2 a h1).trans ho)
theorem OQ {z:Int} {tz:Tok} (hh:A.handled=none) (hlI:l≠I) (hSI:S≠I) (hlS:l≠S) {s:Shared} (x:GX l I S xs 0 #[] s.heap) (hx:∀ (j:Nat) (x:Value),xs[j]? = some x->∃ t,x=Value.int (is.getD j 0) t) (hl:xs.size=is.length)
 (hR:∀ h' tk t',(∀ a o,a≠I->a≠S->s.heap.get? a=some o->h'.get? a=some o)->R (.ok (.ret (.int (Ef z is) t'))) { s with heap:=h',toks:=tk }) :
 codeAny (model prog w) A (.builtin "max.loop" ⟨[.ref I,.none,.ref S],[(ACB "default",.int z tz)]⟩) R s:=by
 have hname:(toString "max" ++ toString ".loop" : String) = "max.loop" := by decide
 obtain ⟨c,hc⟩:=x.bo
 refine codeAny_builtin F.entry_max_loop ?_
 rw [Around.under_plainId F.plain_max_loop _]
 show wpAny _ A.in1 (seqItems? (.ref S)>>=_) _ _ s
 refine AAD (wpAny_seqItems hc rfl ?_)
 show wpAny _ A.in1 (tryCatch (pyNext (.ref I)) _>>=_) _ _ s
 cases is with
 | nil =>
  refine AAD (wpAny_tryCatch (wpAny_pyNext_list_end (A:=A.in1) hh x.it x.ls (by rw [Array.getElem?_eq_none_iff,hl]; exact AAL _) fun h' hx'=>?_))
  refine AAD (wpAny_rule (AAY ?_))
  exact hR _ _ tz fun a o h1 _ ho=>hx' a o h1 ho
 | cons b is =>
  have hi:0 < xs.size:=by rw [hl]; exact Nat.succ_pos _
  obtain ⟨u,hu⟩:=hx 0 xs[0] (AB5 hi)
  refine AAD (wpAny_tryCatch (wpAny_pyNext_list_item (A:=A.in1) x.it x.ls (AB5 hi) fun h' it' hs=>?_))
  have x':=x.turned hlI hSI it' hs
  obtain ⟨c',hc'⟩:=x'.bo
  rw [hu]
  show wpAny _ A.in1 (updateSeq S (fun _=>#[.int b u,.int b u])>>=_) _ _ _
  refine AAD ?_
  refine wpAny_updateSeq hc' rfl ?_
  rw [hname]
  refine AAY ⟨plainId_quiet F.plain_max_loop _,Qr (is:=b::is) hh hlI hSI hlS _ 1 _ b u rfl (x'.put hlS hSI) hx hl fun h'' tk t' hk'=>?_⟩
  exact hR h'' tk t' fun a o h1 h2 ho=>hk' a o h1 h2 ((ABD _ _ (Ne.symm h2)).trans ((hs.2 a h1).trans ho))
end
section
variable {n:Nat} {T:Top} {r:Ar} {c:Cx} {ρ:Ah} {g g' g₁:G} {σ σ' σ₁ σ₂:Aa} {s s':Shared} {e a b:E} {x y v:V} {X:Value} {k:Int} {is:List Int}
theorem Wh {u w:Str}:Pr2 (compareOp .In) (.d (.str u)) (.d (.str w)) σ (vb (Txt.contains w u)) σ/\Pr2 (compareOp .NotIn) (.d (.str u)) (.d (.str w)) σ (vb !(Txt.contains w u)) σ :=
 ⟨FG fun r g s X Y A hx hy Q q=>by
  obtain ⟨t,rfl,_⟩:=hx
  obtain ⟨t',rfl,_⟩:=hy
  exact SB.contains q,
  FG fun r g s X Y A hx hy Q q=>by
   obtain ⟨t,rfl,_⟩:=hx
   obtain ⟨t',rfl,_⟩:=hy
   exact SB.notContains q⟩
theorem Nb:∀ {is:List Int} {xs:List Value},Au T g (is.map vi) xs->xs.length=is.length/\∀ (j:Nat) (x:Value),xs[j]? = some x->∃ t,x=Value.int (is.getD j 0) t
 | [],xs,h=>by rw [h.nil]; exact ⟨rfl,fun j x h=>Ac h⟩
 | i::is,xs,h=>by
  obtain ⟨x,xs,rfl,⟨t,h1⟩,h2⟩:=h.cons
  have ih:=Nb (is:=is) h2
  refine ⟨congrArg (· + 1) ih.1,fun j y hy=>?_⟩
  cases j with
  | zero=>exact ⟨t,(AAA hy).symm.trans h1⟩
  | succ j=>exact ih.2 j y hy
theorem UX {Z:Value} (A:At 0 r g σ s) (h:A2 σ x=some (is.map vi)) (hx:As r.T g x X) (hz:As r.T g (vi k) Z):r.wp (call (.builtin "max") [X] [(ACB "default",Z)]) (Ans r g (vi (Ef k is)) σ) s:=by
 obtain ⟨tz,rfl⟩:=hz
 refine AQ A.has hx h (R_:=fun X=>r.wp (call (.builtin "max") [X] [(ACB "default",.int k tz)]) (Ans r g (vi (Ef k is)) σ) s) fun a ys hL hr hn _=>?_
 obtain ⟨h1,h2⟩:=Nb hr
 refine PyProof.Rows.kmk_tree F.kind_max F.plain_max F.entry_max (SR _ _) ?_
 show wpAny _ r.A.in1 (Builtin.Builtins.bindParams "max" ["key","default"] 0 ⟨[],[(ACB "default",.int k tz)]⟩>>=_) _ _ s
 refine AAD (wpAny_of_eq (show Builtin.Builtins.bindParams "max" ["key","default"] 0 ⟨[],[(ACB "default",.int k tz)]⟩=pure [none,some (.int k tz)] from rfl) ?_)
 refine AAD (AAY (AAD (wpAny_pyIter_list hL (AAD (wpAny_newObj_type ?_)))))
 obtain ⟨o,ho,hc,m,hd⟩:=id hL
 have hlt:=Heap.lt_size ho
 have hname:(toString "max" ++ toString ".loop" : String) = "max.loop" := by decide
 rw [hname]
 have e3:(s.heap.push { cls:=.type "list_iterator",data:=.fields #[.ref a,.int 0 0] }).objs.size=s.heap.objs.size+1:=Heap.size_push ..
 have eS:(s.heap.push { cls:=.type "list_iterator",data:=.fields #[.ref a,.int 0 0] }).objs.size≠s.heap.objs.size:=by rw [e3]; exact Nat.succ_ne_self _
 have eL:a≠(s.heap.push { cls:=.type "list_iterator",data:=.fields #[.ref a,.int 0 0] }).objs.size:=by rw [e3]; exact Nat.ne_of_lt (Nat.lt_succ_of_lt hlt)
 refine AAY ⟨plainId_quiet F.plain_max_loop _,OQ (A:=r.A) (l:=a) (I:=s.heap.objs.size) (S:=(s.heap.push { cls:=.type "list_iterator",data:=.fields #[.ref a,.int 0 0] }).objs.size) (xs:=ys) (is:=is) (z:=k) (tz:=tz) A.hh.1 (Nat.ne_of_lt hlt) eS eL ?_ (fun j x hj=>h2 j x (by rw [ABJ]; exact hj)) h1 fun h' tk t' hk=>?_⟩
 ·exact ⟨⟨_,AAK _ (AA3 _ rfl),rfl,rfl⟩,⟨o,AAK _ (AAK _ ho),hc,m,hd⟩,0,AA3 _ rfl⟩
 ·exact .refl (A.has.keep (s':={ s with heap:=h',toks:=tk }) fun b o e=>hk b o (fun q=>by rw [q,Bm] at e; exact Ac e) (fun q=>by rw [q,e3,ABO (Nat.le_succ _)] at e; exact Ac e) (AAK _ (AAK _ e))) ⟨t',rfl⟩
theorem SE.maxd (ha:SE n a ρ σ x σ₁) (hz:SE n b ρ σ₁ (vi k) σ₂) (h:A2 σ₂ x=some (is.map vi)):SE n (.maxd a b) ρ σ (vi (Ef k is)) σ₂:=fun c g s ex hc I=>hc (fun ex=>c.wp (eval ex c.env) (Ans c.toAr g (vi (Ef k is)) σ₂) s) fun nm np z y kp p h1 h2 h3=>by
 refine AAD (Cn I h1 fun f hf=>?_)
 obtain rfl:f=.builtin "max" := hf
 have st:=(BK a h2).star c.env []
 refine PyProof.Rows.callWith_kw (e:=z) (rest:=[]) ?_ (by rw [st]; rfl) (by rw [st]; rfl)
 rw [st]
 refine spliced_cons (AAO (ha c g s z h2 I) (fun X s₁ p1=>p1 _ fun g₁ le1 a₁ r1=>spliced_nil ?_) fun _ _ h=>h)
 have I1:=I.step le1 a₁
 refine PyProof.Rows.kws_cons (AAO (hz c g₁ s₁ y h3 I1) (fun Z s2 p2=>p2 _ fun g2 le2 a₂ r2=>PyProof.Rows.kws_nil ?_) fun _ _ h=>h)
 exact B0 (r:=c.toAr) (le1.trans le2) (UX (I1.step le2 a₂).at0 h (As.mono le2.toup _ _ r1) r2)
end
end Mine
namespace Mine
set_option maxRecDepth 100000
open PySem PySem.Calls
section
variable {prog:Program} {w:World} {A:Around} {E:Value->Shared->Prop} {s:Shared} {d S:Addr} {kvs:List (Str×Value)} {ep:Nat}
noncomputable abbrev RY (prog:Program) (w:World) (kvs:List (Str×Value)) (i:Nat) (v:Value):Prop:=∃ k x,kvs[i]? = some (k,x)/\(strKind prog w).is k v=true
theorem Lw {R:Result->Shared->Prop} (hh:A.handled=none) (hm:s.heap.DictAt (strKind prog w) d kvs ep) (hd:(d == sysModules)=false) (res:Value) (c0:Nat) (hS:s.heap.get? S=some { cls:=.type "list",data:=.seq #[] c0 }) (hdS:d≠S)
 (hR:∀ h' tk acc' c',(∀ b o,b≠S->s.heap.get? b=some o->h'.get? b=some o)->h'.get? S=some { cls:=.type "list",dict:=none,data:=.seq acc' c',slots:=#[] } ->
  ItemsOf (RY prog w kvs) acc' kvs.length->R (.ok (.ret res)) { s with heap:=h',toks:=tk }) (hn:kvs.length<=sizeLine) :
 wpAny (model prog w) A.in1 (Builtin.List.listExtendWith (.ref S) (.ref d) res)
  (fun fin s'=>match fin with | .done f=>R (.ok f) s' | .again c'=>c'.quiet=true/\codeAny (model prog w) A c' R s') (fun e s'=>R (.error e) s') s:=by
 have hSI:S≠s.heap.objs.size:=Nat.ne_of_lt (Heap.lt_size hS)
 have hT:s.TypeIs (.ref d) "dict" := hm.dictOf.typeIs
 obtain ⟨od,hod,hcd⟩:=id hT
 have hdI:d≠s.heap.objs.size:=Nat.ne_of_lt (Heap.lt_size hod)
 have W:=(Walks.dictKeys (prog:=prog) (w:=w) (A:=A.in1) (knd:=strKind prog w) hh s.heap.objs.size d hdI kvs ep).toS
 have hSf:S∉[s.heap.objs.size,d]:=fun q=>(AAR.mp q).elim hSI fun q=>hdS (AAJ.mp q).symm
 unfold Builtin.List.listExtendWith
 refine AAD (wpAny_typeOf (T := "dict") hT ?_)
 have h1:Builtin.List.listSameRef (.ref S) (.ref d)=false:=by simp [Builtin.List.listSameRef,Ne.symm hdS]
 have h2:(Value.type "dict" == Value.type "list")=false:=by decide
 have h3:(Value.type "dict" == Value.type "tuple")=false:=by decide
 simp only [h1,h2,h3,Bool.or_false,Bool.false_eq_true,↓reduceIte]
 refine AAD (wpAny_pyIter_dict hd hm ?_)
 refine AAD (AA8 ?_)
 have hT':({ s with heap:=s.heap.push { cls:=.type "dict_keyiterator",data:=.fields #[.ref d,.int 0 0,.int kvs.length 0,.int ep 0] } }:Shared).TypeIs (.ref d) "dict" := ⟨od,AAK _ hod,hcd⟩
 unfold Builtin.List.listLengthHint
 refine AAD (wpAny_specialOf (T := "dict") hT' F.slot_dict_len.lookup ?_)
 wp_delta
 refine AAD (wpAny_isInstance (T := "dict") (b:=true) hT' (by rw [isSubtype_type]; kernel_rfl) ?_)
 show wpAny _ _ (typeOf (Value.ref d)>>=_) _ _ _
 refine AAD (wpAny_typeOf (T := "dict") hT' (AAY ?_))
 rw [if_pos (by decide)]
 have hS1:=AAK { cls:=.type "dict_keyiterator",data:=.fields #[.ref d,.int 0 0,.int kvs.length 0,.int ep 0] } hS
 refine AAD (wpAny_rule (AAD ?_))
 show wpAny _ _ (updateSeq S (·.push .none)>>=fun _=>updateSeq S (·.pop)) _ _ _
 refine AAD (wpAny_updateSeq hS1 rfl ?_)
 have hS2:=Heap.get?_update_self (Obj.mapSeq (·.push Value.none)) hS1 rfl
 refine wpAny_updateSeq (hz:=by seq_fits) hS2 rfl ?_
 have hS3:=Heap.get?_update_self (Obj.mapSeq (·.pop)) hS2 rfl
 have oth:∀ b o,b≠S->(s.heap.push { cls:=.type "dict_keyiterator",data:=.fields #[.ref d,.int 0 0,.int kvs.length 0,.int ep 0] }).get? b=some o->(((s.heap.push { cls:=.type "dict_keyiterator",data:=.fields #[.ref d,.int 0 0,.int kvs.length 0,.int ep 0] }).update S (Obj.mapSeq (·.push Value.none))).update S (Obj.mapSeq (·.pop))).get? b=some o:=fun b o hb e=>(ABD _ _ (Ne.symm hb)).trans ((ABD _ _ (Ne.symm hb)).trans e)
 refine AAY ⟨plainId_quiet F.plain_extend_loop _,codeAny_extend_loopS W hn _ hSf _ kvs.length 0 _ _ _ rfl (ABF _) ?_ hS3 (ItemsOf.nil _) fun s' acc' c' hm hS' hacc=>?_⟩
 ·obtain ⟨o,es,ho,hr⟩:=hm
  exact ⟨⟨_,oth _ _ (Ne.symm hSI) (AA3 _ rfl),rfl,rfl⟩,o,es,oth _ _ hdS (AAK _ ho),hr⟩
 rw [Moved.eq_with hm]
 refine hR s'.heap s'.toks acc' c' (fun b ob hb e=>hm.heap b ob (fun hmem=>?_) (oth b ob hb (AAK _ e))) hS' hacc
 exact (AAR.mp hmem).elim hb fun hmem=>absurd (Heap.lt_size e) (by rw [AAJ.mp hmem]; exact ABU _)
theorem OX {R:Result->Shared->Prop} (hh:A.handled=none) (hm:s.heap.DictAt (strKind prog w) d kvs ep) (hd:(d == sysModules)=false) (hS:s.heap.get? S=some { cls:=.type "list",data:=.seq #[] }) (hdS:d≠S)
 (hR:∀ h' tk acc' c',(∀ b o,b≠S->s.heap.get? b=some o->h'.get? b=some o)->h'.get? S=some { cls:=.type "list",dict:=none,data:=.seq acc' c',slots:=#[] } ->
  ItemsOf (RY prog w kvs) acc' kvs.length->R (.ok (.ret .none)) { s with heap:=h',toks:=tk }) (hn:kvs.length<=sizeLine) :
 wpAny (model prog w) A.in1 (Builtin.«list.__init__» ⟨[.ref S,.ref d],[]⟩)
  (fun fin s'=>match fin with | .done f=>R (.ok f) s' | .again c'=>c'.quiet=true/\codeAny (model prog w) A c' R s') (fun e s'=>R (.error e) s') s:=by
 show wpAny _ _ (do let old <-Builtin.List.listItems (.ref S); Builtin.List.listUpdate (.ref S) (fun _=>#[]); letGo old.toList.reverse; Builtin.List.listExtendWith (.ref S) (.ref d) .none) _ _ s
 refine AAD ?_
 unfold Builtin.List.listItems
 refine AAD (wpAny_seqItems hS rfl (AAY ?_))
 show wpAny _ _ (updateSeq S (fun _=>#[])>>=fun _=>letGo (#[]:Array Value).toList.reverse>>=fun _=>Builtin.List.listExtendWith (.ref S) (.ref d) .none) _ _ s
 refine AAD (wpAny_updateSeq hS rfl ?_)
 have hS2:=Heap.get?_update_self (Obj.mapSeq (fun _=>(#[]:Array Value))) hS rfl
 have oth:∀ b o,b≠S->s.heap.get? b=some o->(s.heap.update S (Obj.mapSeq (fun _=>(#[]:Array Value)))).get? b=some o :=
  fun b o hb e=>(ABD _ _ (Ne.symm hb)).trans e
 refine AAD (wpAny_letGo ?_)
 obtain ⟨o,es,ho,hr⟩:=hm
 exact Lw hh ⟨o,es,oth d o hdS ho,hr⟩ hd .none _ hS2 hdS (fun h' tk acc' c' hk hS' hacc=>hR h' tk acc' c' (fun b o hb e=>hk b o hb (oth b o hb e)) hS' hacc) hn
theorem II {Q:Value->Shared->Prop} (hh:A.handled=none) (hm:s.heap.DictAt (strKind prog w) d kvs ep) (hd:(d == sysModules)=false) (hn:kvs.length<=sizeLine)
 (hQ:∀ h' tk acc' c',(∀ b o,s.heap.get? b=some o->h'.get? b=some o) ->
  h'.get? s.heap.objs.size=some { cls:=.type "list",dict:=none,data:=.seq acc' c',slots:=#[] } -> ItemsOf (RY prog w kvs) acc' kvs.length->Q (.ref s.heap.objs.size) { s with heap:=h',toks:=tk }) :
 wpAny (model prog w) A (call (.type "list") [.ref d]) Q E s:=by
 refine callType_codes (Q₁:=fun obj s₁=>obj=.ref s.heap.objs.size/\s₁ = { s with heap:=s.heap.push { cls:=.type "list",data:=.seq #[] } }) F.called_list (F.typeCall_list_1 _) F.entry_list_init
  (code_list_new _ ⟨rfl,rfl⟩) fun obj s₁ h₁=>?_
 obtain ⟨rfl,rfl⟩:=h₁
 have hS:(s.heap.push { cls:=.type "list",data:=.seq #[] }).get? s.heap.objs.size=some { cls:=.type "list",data:=.seq #[] }:=AA3 _ rfl
 obtain ⟨o,es,ho,hr⟩:=hm
 refine ⟨⟨_,hS,rfl⟩,F.args_list_init_2 _ _,OX (A:=A.in1) hh ⟨o,es,AAK _ ho,hr⟩ hd hS (Nat.ne_of_lt (Heap.lt_size ho)) (fun h' tk acc' c' hk hS' hacc=>?_) hn⟩
 exact ⟨rfl,hQ h' tk acc' c' (fun b o e=>hk b o (Nat.ne_of_lt (Heap.lt_size e)) (AAK _ e)) hS' hacc⟩
end
theorem Aw.ofGet {α β:Type} {R:α->β->Prop}:∀ {as:List α} {bs:List β},as.length=bs.length->(∀ (i:Nat) a b,as[i]? = some a->bs[i]? = some b->R a b)->Aw R as bs
 | [],[],_,_=>trivial
 | a::as,b::bs,h,k=>⟨k 0 a b rfl rfl,Aw.ofGet (Nat.succ.inj h) fun i a b e1 e2=>k (i+1) a b e1 e2⟩
 | [],_::_,h,_=>C7 h.symm rfl
 | _::_,[],h,_=>C7 h rfl
section
variable {σ:Aa} {k:Nat} {kvs:List (Str×PyData)}
theorem TC (h:σ[k]? = some (.dictS kvs)) (hl:∀ p,p∈kvs->p.1.length<=line):P2 (fun X=>call (Bd .list) [X]) (.ref k) σ (vss (kvs.map (·.1))):=fun r g s X A hx=>by
 obtain ⟨a,hk,rfl⟩:=hx
 refine A.has.ob k a _ hk h _ fun x hx' rx=>rx _ fun es ep ws ho hd hk' hp hn hr hz=>?_
 have e:ws.length=kvs.length:=hr.length.symm
 refine II (d:=a) (kvs:=ws) A.hh.1 ⟨x,es,hx',ho,hd,hk',hp,hn⟩ (A.notMods hk) (by rw [<-AR,e]; exact hz) fun h' tk acc c' hkp ha hI=>?_
 refine .made (s':={ s with heap:=h',toks:=tk }) A.has hkp (Bm _) ha (Aw.ofGet ?_ fun i v y e1 e2=>?_) ?_
 ·rw [AAB,AAB,ABA (xs:=acc),hI.1,e]
 ·obtain ⟨key,z,q1,q2⟩:=hI.2 i y (ABJ.symm.trans e2)
  rw [ABI,ABI] at e1
  cases e3:kvs[i]? with
  | none=>rw [e3] at e1; exact Ac e1
  | some p =>
   rw [e3] at e1
   obtain ⟨b,e4,e5⟩:=hr.get e3
   have e6:=Av q1 e4
   have hp1:p.1=key:=e5.1.trans (congrArg Prod.fst e6).symm
   obtain ⟨t,rfl⟩:=Value.isStrOf_shape q2
   rw [<-AAA e1]
   exact ⟨t,by show Value.str key t=Value.str p.1 t; rw [hp1],hl p (AA5 e3)⟩
 ·rw [AAB,AAB]; exact hz
end
end Mine
namespace Mine
open PySem PySem.Calls
theorem KZ:∀ {ns:List Str} {vals:List Value},vals.length=ns.length->∀ {n:Str},n∈ns->((ns.zip vals).lookup n).isNone=false
 | [],_,_,_,h=>nomatch h
 | _::_,[],h,_,_=>C7 h.symm rfl
 | a::ns,v::vals,h,n,hn=>by
  rw [List.zip_cons_cons,List.lookup_cons]
  cases e:n == a with
  | true=>rfl
  | false=>exact KZ (ns:=ns) (Nat.succ.inj h) ((AAR.mp hn).resolve_left fun q=>by rw [q,beq_self_eq_true] at e; exact tt_ e)
theorem K6:∀ {ns:List Str} {vals:List Value},vals.length=ns.length->ns.Nodup->ns.filterMap (fun n=>((ns.zip vals).lookup n).map (n,·))=ns.zip vals
 | [],[],_,_=>rfl
 | [],_::_,h,_=>C7 h rfl
 | _::_,[],h,_=>C7 h.symm rfl
 | a::ns,v::vals,h,hn=>by
  have hn:=ABX.mp hn
  have h0:(((a::ns).zip (v::vals)).lookup a).map (a,·)=some (a,v):=by rw [List.zip_cons_cons,List.lookup_cons,beq_self_eq_true]; rfl
  refine (List.filterMap_cons_some (f:=fun n=>(((a::ns).zip (v::vals)).lookup n).map (n,·)) h0).trans ?_
  show (a,v)::_=(a,v)::ns.zip vals
  refine congrArg _ (Eq.trans ?_ (K6 (ns:=ns) (vals:=vals) (Nat.succ.inj h) hn.2))
  have e:∀ l:List Str,(∀ x,x∈l->x∈ns)->l.filterMap (fun n=>(List.lookup n ((a,v)::ns.zip vals)).map (n,·))=l.filterMap (fun n=>(List.lookup n (ns.zip vals)).map (n,·)):=by
   intro l hl
   induction l with
   | nil=>rfl
   | cons b l ih =>
    have q:List.lookup b ((a,v)::ns.zip vals)=List.lookup b (ns.zip vals):=by
     rw [List.lookup_cons,beq_false_of_ne fun (q:b=a)=>hn.1 (q▸hl b (.head _))]
    rw [List.filterMap_cons,List.filterMap_cons,q,ih fun x hx=>hl x (.tail _ hx)]
  exact e ns fun _ h=>h
theorem IL {fd:FuncData} {as:List Arg} {kd:List (Option Expr)} {df:List Expr} {vals:List Value} (hp:fd.params=⟨[],as,none,[],kd,none,df⟩) (hd:fd.defaults=.none) (hk:fd.kwdefaults=.none) (h:vals.length=as.length) (hn:(as.map (·.arg)).Nodup) :
 bindArgs fd ⟨vals,[]⟩=pure ((as.map (·.arg)).zip vals):=by
 have hl:vals.length=(as.map (·.arg)).length:=by rw [AAB]; exact h
 have h1:(List.filter (fun n=>(List.lookup n ((as.map (·.arg)).zip vals)).isNone) (as.map (·.arg)))=[]:=List.filter_eq_nil_iff.mpr fun n hn=>by rw [KZ hl hn]; exact ABB
 have h2:=K6 hl hn
 have h4:decide (vals.length > (as.map (·.arg)).length)=false:=AAT (by rw [hl]; exact ABU _)
 have h5:notAStandIn .none=pure ():=rfl
 cases fd
 dsimp only at hp hd hk
 subst hp hd hk
 unfold bindArgs seqItems?
 dsimp only [List.map_nil,List.nil_append,List.forIn_nil,AAV,Option.isNone_none,List.length_nil,Option.getD_none]
 simp only [↓List.forIn_nil,↓pure_bind,Bool.and_true,h4,h5,Option.getD_none,Bool.false_eq_true,↓reduceIte,List.length_nil,List.drop_nil,List.zip_nil_right,Nat.sub_zero,List.take_length,h1,List.isEmpty_nil,Bool.not_true,h2,AAV,List.map_nil,List.nil_append]
end Mine
namespace Mine
open PySem PySem.Calls
structure ET (K:Kx) (i:Nat) (nm:Str) (sc:Scope):Prop where
 at_:K.isAt i nm=true
 kind:sc.kind=.function
 gen:sc.isGenerator=false
 co:sc.isCoroutine=false
 nms:∀ p,p∈sc.names->N5 K nm p=true
 uni:∀ p,p∈sc.names->sc.names.lookup p.1=some p.2
 par:sc.names.lookup nm=some .local
theorem HR {b:Bool} (h:(!b)=true):b=false:=by cases b with | true=>exact ff_ h | false=>rfl
theorem Lf {K:Kx} {i:Nat} {nm:Str} {sc:Scope} (h:QD K i nm sc=true):K.lam.isSome=true/\ET K i nm sc:=by
 have h1:=AAH.mp h
 have h2:=AAH.mp h1.2
 have h3:=AAH.mp h2.2
 have h4:=AAH.mp h3.2
 have h5:=AAH.mp h4.2
 have h6:=AAH.mp h5.2
 have h7:=AAH.mp h6.2
 exact ⟨h1.1,h2.1,AAG h3.1,HR h4.1,HR h5.1,List.all_eq_true.mp h6.1,fun p hp=>AAG (List.all_eq_true.mp h7.1 p hp),AAG h7.2⟩
section
variable {T:Top} {g g':G} {σ:Aa} {s s':Shared} {t c':Addr} {q:Str} {oc:Obj} {ps:Array Value}
theorem MO {pos:Pos} {a b:Int} {c cv:Value} (l:List Value) (h:TriplesOk l) (e:codeAmong pos (l++[rawInt a,rawInt b,c])=some cv):codeAmong pos l=some cv\/cv=c:=by
 fun_induction TriplesOk l with
 | case1 =>
  have e:(if (a == (pos.line:Int)&&b == (pos.col:Int))=true then some c else codeAmong pos [])=some cv:=e
  split at e
  ·exact .inr (AAA e).symm
  ·exact Ac e
 | case2 a' t b' u x rest ih =>
  have e:(if (a' == (pos.line:Int)&&b' == (pos.col:Int))=true then some x else codeAmong pos (rest++[rawInt a,rawInt b,c]))=some cv:=e
  show (if (a' == (pos.line:Int)&&b' == (pos.col:Int))=true then some x else codeAmong pos rest)=some cv\/_
  split at e
  ·rename_i q; rw [if_pos q]; exact .inl e
  ·rename_i q; rw [if_neg q]; exact ih h e
 | case3=>exact h.elim
theorem Has.code (H:Has T g σ s) (tf:∀ t q q',(t,q)∈T.tabs->(t,q')∈T.tabs->q=q') (hm:(t,q)∈T.tabs) (hx:Heap.ExtBut t s.heap s'.heap) (hn:s.heap.get? c'=none) (hc:s'.heap.get? c'=some oc) (ht:s'.heap.get? t=some { cls:=.none,data:=.fields ps }) (tri:TriplesOk ps.toList)
 (hcc:∀ pos cv,codeAmong pos ps.toList=some cv->∃ c o vs u,cv=.ref c/\(g.put c' oc).fz c=some o/\o.data=.fields vs/\vs[1]? = some (.str q u)) (hg:s'.gens=s.gens) (hos:s'.os=s.os):Has T (g.put c' oc) σ s':=by
 refine H.tb t q hm _ fun ps0 t1 t2 t3 t4 _ _=>?_
 have F:=H.free hn
 have le:G.le [] g (g.put c' oc):=.put F.fz
 have ne:∀ {b:Addr},b≠c'->(g.put c' oc).fz b=g.fz b:=fun q=>if_neg q
 have tc:t≠c':=fun e=>Am hn (e▸t4)
 refine ⟨fun b x e=>?_,fun b x e=>(H.hd b x e).keep fun y=>hx b y fun e'=>Am t2 (e'▸e),H.len,H.nd,fun b hb=>(ne fun e=>F.mu (e▸hb)).trans (H.ap b hb),fun b x e=>⟨(ne fun e'=>Am F.hid (e'▸e)).trans (H.ah b x e).1,(H.ah b x e).2⟩,fun k b x e1 e2 R_ r=>H.ob k b x e1 e2 R_ fun y h1 h2=>r y (hx b y (fun e=>t3 (e▸AA5 e1)) h1) (Dp.mono le.toup _ _ h2),fun b x e=>le.fz b x (H.base b x e),fun t' q' m R_ r=>?_,hg.trans H.gens,hos.trans H.os⟩
 ·by_cases e':b=c'
  ·rw [e'] at e ⊢; rw [<-AAA (G.put_self.symm.trans e)]; exact hc
  ·rw [ne e'] at e; exact hx b x (fun e''=>Am t1 (e''▸e)) (H.fz b x e)
 ·by_cases e':t'=t
  ·subst e'
   rw [tf t' q' q m hm] at r
   exact r ps ((ne tc).trans t1) t2 t3 ht tri hcc
  ·refine H.tb t' q' m R_ fun ps h1 h2 h3 h4 h5 h6=>r ps ((ne fun e=>F.tab q' (e▸m)).trans h1) h2 h3 (hx t' _ e' h4) h5 fun pos cv e=>?_
   obtain ⟨c,o,vs,u,q1,q2,q3⟩:=h6 pos cv e
   exact ⟨c,o,vs,u,q1,le.fz _ _ q2,q3⟩
end
end Mine
namespace Mine
open PySem PySem.Calls
def IR (g:G) (env:Env) (q nm:Str) (ap:Pos) (b:Expr) (sc:Scope) (f:Addr):Prop:=∀ R_:Prop,(∀ (pm ctv:Value) (c':Addr) (o fo:Obj) (vs:Array Value) (t:Tok),g.fz f=some fo->fo.data=.func (W.kla_fn "<lambda>" q (EN nm ap) b sc (DH env sc.names []) pm (.ref c') ctv)->g.fz c'=some o->o.data=.fields vs->vs[1]? = some (.str q t)->R_)->R_
section
variable {n i:Nat} {c:Cx} {ρ:Ah} {g g':G} {σ:Aa} {s s':Shared} {t:Addr} {q nm m:Str} {ap lp:Pos} {b:Expr} {sc:Scope} {f:Addr}
theorem IR.mono {env:Env} (up:G.up g g') (h:IR g env q nm ap b sc f):IR g' env q nm ap b sc f:=fun R_ k=>h R_ fun pm ctv c' o fo vs t h1 h2 h3 h4 h5=>k pm ctv c' o fo vs t (up.fz _ _ h1) h2 (up.fz _ _ h3) h4 h5
theorem ET.fre {K:Kx} (L:ET K i nm sc) (h:(m,NameKind.free)∈sc.names):K.names.lookup m=some .cell\/K.names.lookup m=some .free:=by
 rcases ABC.mp (L.nms _ h) with h | h
 ·exact Bt (AAG (AAH.mp h).1) rfl
 ·rcases ABC.mp h with h | h
  ·exact (ABC.mp (AAH.mp h).2).imp Kx.kd_eq Kx.kd_eq
  ·exact Bt (AAG h) rfl
theorem Le (L:ET c.K i nm sc) (I:Inv n c ρ g σ s):closureFor sc c.env=pure (DH c.env sc.names []) :=
 Fc sc fun m hm=>I.loc.ce m (by rw [AM I.cx.names]; exact L.fre hm) _ fun a _ e _ _=>⟨a,e⟩
theorem Lc (L:ET c.K i nm sc) (hl:c.K.lam=some (t,q)) (I:Inv n c ρ g σ s):c.wp (eval (.Lambda (EN nm ap) b sc lp) c.env) (fun X s'=>BX c.T [] g σ (fun g'=>∃ f,X=.ref f/\IR g' c.env q nm ap b sc f) s') s:=by
 obtain ⟨_,ht,hq,a,hcode,hd⟩:=I.cx.lamc t q hl
 obtain ⟨mg,mb,hg,hb,_,bm,ob,b1,b2,b3,b4,b5,b6⟩:=I.cx.rd.ns
 refine I.has.tb t q ht _ fun ps t1 t2 t3 hP tri hcc=>?_
 have kp:=fun b o e=>I.has.fz b o (I.has.base b o e)
 have hg':s.heap.Ns mainGlobals mg:=hg.keeps kp
 have hC:W.CodeHd s.heap a t:=hd.keeps kp
 have hgP:mainGlobals≠t:=fun e=>by
  obtain ⟨o,es,ep,e',hd,_⟩:=hg'
  rw [e,hP] at e'; rw [<-AAA e'] at hd; exact nomatch hd
 have hbP:bm≠t:=fun e=>Am t1 (e▸I.has.base _ _ b3)
 have hbG:bm≠mainGlobals:=fun e=>by
  obtain ⟨o,es,ep,e',hd,_⟩:=hg
  rw [e,e'] at b3; rw [<-AAA b3,hd] at b6; exact nomatch b6
 have hB:s.heap.BuiltinsAt mg t:=⟨bm,ob,b1,b2,hbG,hbP,kp _ _ b3,b4,b5,b6⟩
 refine W.kla_eval rfl ?_
 rw [hq]
 cases hit:codeAmong lp ps.toList with
 | none =>
  refine W.kla_makeFunction (Le L I) I.cx.glob hg' hcode hC hP tri hit hgP hB fun c' ctv h' tk hx hge hlt hrec htb=>?_
  obtain ⟨c2,oc,vs,u,e2,hoc,hdc,hv⟩:=hrec
  obtain rfl:=ABR e2
  have hn:s.heap.get? c'=none:=ABO hge
  have le1:G.le [] g (g.put c' oc):=.put (I.has.free hn).fz
  have H1:=I.has.code (s':={ s with heap:=h',toks:=tk }) I.ok.ok.tf ht hx hn hoc htb (by rw [Array.toList_append]; exact TriplesOk_snoc _ _ _ _ tri) (fun pos cv e=>by
   rw [Array.toList_append] at e
   rcases MO _ tri e with e | e
   ·obtain ⟨c3,o3,vs3,t3,q1,q2,q3⟩:=hcc pos cv e
    exact ⟨c3,o3,vs3,t3,q1,le1.fz _ _ q2,q3⟩
   ·exact ⟨c',oc,vs,u,e,G.put_self,hdc,hv⟩) rfl rfl
  have F:=H1.free (Bm _)
  exact .mk _ (le1.trans (.put F.fz)) (F.put (H1.keep fun b o e=>AAK _ e) (AA3 _ rfl)) ⟨_,rfl,fun R_ k=>k _ ctv c' oc _ vs u G.put_self rfl ((G.le.put (own:=[]) F.fz).fz _ _ G.put_self) hdc hv⟩
 | some cv =>
  obtain ⟨c',o3,vs3,u,q1,q2,q3,q4⟩:=hcc lp cv hit
  subst q1
  refine W.kla_makeFunctionHit (Le L I) I.cx.glob hg' hcode hC hP tri hit hB fun ctv h' tk hk hsz=>?_
  have H1:=I.has.keep (s':={ s with heap:=h',toks:=tk }) hk
  have F:=H1.free (Bm _)
  exact .mk _ (.put F.fz) (F.put (H1.keep fun b o e=>AAK _ e) (AA3 _ rfl)) ⟨_,rfl,fun R_ k=>k _ ctv c' o3 _ vs3 u G.put_self rfl ((G.le.put (own:=[]) F.fz).fz _ _ q2) q3 q4⟩
end
end Mine
namespace Mine
open PySem PySem.Calls
noncomputable abbrev X5 (c:Cx) (nm q:Str) (sc:Scope) (C f:Addr) (cd:Value):Cx:=⟨⟨c.T,W.envX q sc C f cd (DH c.env sc.names [])::c.fe,c.A.in1.in1.deeper (W.envX q sc C f cd (DH c.env sc.names []))⟩,c.K.lsub nm sc,W.envX q sc C f cd (DH c.env sc.names []),[C]⟩
section
variable {n i:Nat} {c:Cx} {ρ:Ah} {g g':G} {σ σ':Aa} {s s':Shared} {t:Addr} {q nm m:Str} {ap lp:Pos} {b:Expr} {sc:Scope} {f C:Addr} {cd X:Value} {v w:V} {key:E} {o:Obj}
theorem ET.noc {K:Kx} (L:ET K i nm sc):∀ p,p∈sc.names->p.2≠.cell:=fun p hp e=>by
 rcases ABC.mp (L.nms _ hp) with h | h
 ·exact Bt (e.symm.trans (AAG (AAH.mp h).1)) rfl
 ·rcases ABC.mp h with h | h
  ·exact Bt (e.symm.trans (AAG (AAH.mp h).1)) rfl
  ·exact Bt (e.symm.trans (AAG h)) rfl
theorem ET.loc {K:Kx} (L:ET K i nm sc) (h:(m,NameKind.local)∈sc.names):m=nm:=by
 rcases ABC.mp (L.nms _ h) with h | h
 ·exact ABM (AAH.mp h).2
 ·rcases ABC.mp h with h | h
  ·exact Bt (AAG (AAH.mp h).1) rfl
  ·exact Bt (AAG h) rfl
theorem ET.at {K:Kx} (L:ET K i nm sc):K.vars[i]? = some nm:=by
 have h:(match K.vars[i]? with | some m=>m == nm | none=>false)=true:=L.at_
 cases e:K.vars[i]? with
 | none=>rw [e] at h; exact ff_ h
 | some m=>rw [e] at h; rw [ABM h]
theorem Ld (L:ET c.K i nm sc) (I:Inv n c ρ g σ s) {a:Addr} (h:(DH c.env sc.names []).lookup m=some a):c.env.cells.lookup m=some a:=by
 rcases Gf (AW h) with e | e
 ·exact nomatch e
 ·exact I.loc.ce m (by rw [AM I.cx.names]; exact L.fre e.1) _ fun a' _ h1 _ _=>by rw [h1,e.2,h1]; rfl
theorem Ta (L:ET c.K i nm sc) (I:Inv (n+1) c ρ g σ s) (r:As c.T g v X) (H:Has c.T (g.hide C o) σ s') (hC:g.hid C=none) (ho:o.cls=frC) (hn:NsF (g.hide C o).hid C fun y=>[(nm,X)].reverse.lookup y):Inv n (X5 c nm q sc C f cd) (ρ.set i (some v)) (g.hide C o) σ s':=by
 have up:G.up g (g.hide C o):=⟨fun _ _ e=>e,fun _ _ e=>e⟩
 have tf:Os (W.envX q sc C f cd (DH c.env sc.names [])):=⟨(by show sc.kind≠_; rw [L.kind]; exact fun q=>nomatch q),L.gen,L.co,rfl,rfl⟩
 have frs:BJ (g.hide C o) (W.envX q sc C f cd (DH c.env sc.names [])::c.fe):=fun e he=>by
  rcases AAR.mp he with q | q
  ·obtain ⟨o',es,ep,e1,e2,_⟩:=hn
   rw [q]; exact ⟨tf,C,o',es,ep,rfl,e1,Av G.hide_self e1▸ho,e2⟩
  ·exact I.frs.hideN hC e q
 refine ⟨⟨I.ok,?_,⟨_,c.fe,rfl,tf⟩,?_,?_,I.hh,frs,H⟩,⟨I.cx.rd,rfl,L.kind,rfl,rfl,⟨_,c.fe,rfl,rfl⟩,fun m m' a h h'=>I.cx.cinj m m' a (Ld L I h) (Ld L I h'),I.cx.nd,.head _,fun m _ a hk _=>absurd rfl (L.noc _ (AW (show sc.names.lookup m=some .cell from hk))),fun t q h=>Ac h⟩,fun R_ k=>k _ hn fun j y u e1 e2 e3=>?_,fun y hk R_ k=>?_,AF (AG G.hide_self)⟩
 ·show c.A.frames.map _=_
  rw [I.frames]; rfl
 ·show c.A.depth+1+n<=600
  rw [Nat.add_assoc,Nat.add_comm 1 n]; exact I.depth
 ·show c.A.units+1+1+3+100 * n<=9000
  have h:c.A.units+100 * (n+1)<=9000:=I.units
  omega
 ·have hy:y=nm:=L.loc (AW (show sc.names.lookup y=some .local from e3))
  rcases H7 e2 with ⟨h1,h2⟩ | ⟨h1,h2⟩
  ·rw [hy,<-h2]
   exact ⟨X,by show List.lookup nm [(nm,X)]=some X; rw [List.lookup_cons,beq_self_eq_true],As.mono up _ _ r⟩
  ·exact absurd (G1 I.cx.nd (hy▸e1) L.at) h1
 ·have hf:(y,NameKind.free)∈sc.names:=hk.elim (fun h=>absurd rfl (L.noc _ (AW (show sc.names.lookup y=some .cell from h)))) fun h=>AW (show sc.names.lookup y=some .free from h)
  refine I.loc.ce y (by rw [AM I.cx.names]; exact L.fre hf) R_ fun a u h1 h2 h3=>k a u (Oi hf h1) (h2.to fun o' e=>(G.hide_ne fun q=>Am hC (q▸e)).trans e) fun j u' e1 e2=>?_
  rcases H7 e2 with ⟨p1,p2⟩ | ⟨p1,p2⟩
  ·have e3:y=nm:=Av (p1▸e1) L.at
   exact Bt (Av (L.uni _ hf) (e3▸L.par)) rfl
  ·exact BP up (h3 j u' e1 p2)
theorem QC {cl:List (Str×Addr)} {pm cd ct x:Value}:bindArgs (W.kla_fn "<lambda>" q (EN nm ap) b sc cl pm cd ct) ⟨[x],[]⟩=pure [(nm,x)] :=
 IL (fd:=W.kla_fn "<lambda>" q (EN nm ap) b sc cl pm cd ct) (as:=[⟨nm,none,ap⟩]) rfl rfl rfl rfl (ABX.mpr ⟨AA1,ABY⟩)
theorem QB (hs:SE n key (ρ.set i (some v)) σ w σ') (L:ET c.K i nm sc) (hb:IsE key (c.K.lsub nm sc) b) (I:Inv (n+1) c ρ g σ s) (lm:IR g c.env q nm ap b sc f) (r:As c.T g v X):wpAny (model c.T.prog c.T.w) c.A.in1.in1 (call (.ref f) [X]) (Ans c.toAr g w σ') (fun _ _=>False) s:=lm _ fun pm ctv c' o fo vs t h1 h2 h3 h4 h5=>by
 refine wpAny_call (W.kla_callFunE (AAS (AAC (AA9 _ _) I.depth) (by decide)) (I.has.fz _ _ h1) h2 L.co L.gen rfl ⟨c',o,vs,t,rfl,I.has.fz _ _ h3,h4,h5⟩ ?_)
 rw [QC]
 refine AAY (wpAny_newFunctionEnv L.noc (fun y hy=>by rw [AAJ.mp hy]; exact L.par) (fun h₁ hns hsb=>?_) L.kind)
 have hk:∀ b o,s.heap.get? b=some o->h₁.get? b=some o:=fun b o e=>hsb.extBut b o (Nat.ne_of_lt (Heap.lt_size e)) (AAK _ e)
 refine ⟨I.nolimit.keeps hk,?_⟩
 obtain ⟨oL,es,ep,hoL,hL⟩:=hns
 have F:=I.has.free (Bm _)
 have H:=(I.has.keep (s':={ s with heap:=h₁,toks:=s.toks + [(nm,X)].length }) hk).hideH (s':={ s with heap:=h₁,toks:=s.toks + [(nm,X)].length }) F.fz F.mu F.tab (fun _ _ _ e=>e) (.fr hoL)
 have I':=Ta (q:=q) (f:=f) (cd:=.ref c') L I r H F.hid rfl ⟨frO oL,es,ep,G.hide_self,hL⟩
 show codeAny _ _ (.expr b (W.envX q sc s.heap.objs.size f (.ref c') (DH c.env sc.names []))) _ _
 refine W.kla_codeExpr (AAO (hs _ _ _ b hb I') (fun y s' p=>p _ fun g2 le H2 rv=>?_) fun _ _ h=>h.elim)
 have e2:=(le.hid s.heap.objs.size AA1).trans G.hide_self
 obtain ⟨hd,H',le',_⟩:=H2.back (its:=[s.heap.objs.size]) (own:=[]) (s':=s') (G.le.trans (g':=g.hide s.heap.objs.size (frO oL)) (.hide (.head _)) le.toO) (AF F.hid) (fun _ _ _ e=>e) (H2.away (AF (AG e2)))
 exact .mk _ le' H' (As.eta rv)
end
end Mine
namespace Mine
set_option tactic.hygienic true
set_option backward.match.sparseCases true
set_option genInjectivity true
open PySem PyProof.Rows
noncomputable def RR (ρ:Keyed->Nat) (xs:Array Keyed) (i:Nat):Nat:=match xs[i]? with | some p=>ρ p | none=>0
theorem Cs {ρ:Keyed->Nat} {xs ys:Array Keyed} {i j:Nat} (h:xs[i]? = ys[j]?):RR ρ xs i=RR ρ ys j:=by unfold RR; rw [h]
def Bef (κ:KeyKind) (ρ:Keyed->Nat) (xs:Array Keyed) (i j:Nat):Prop:=κ.klt (KK κ xs i) (KK κ xs j)\/(KK κ xs i=KK κ xs j/\RR ρ xs i < RR ρ xs j)
def Bn (κ:KeyKind) (ρ:Keyed->Nat) (xs:Array Keyed) (n:Nat):Prop:=∀ i j,i < j->j < n->Bef κ ρ xs i j
section
variable {κ:KeyKind} {ρ:Keyed->Nat} {xs ys:Array Keyed} {i j i' j' n:Nat}
theorem Bef.congr (h:Bef κ ρ ys i' j') (hi:xs[i]? = ys[i']?) (hj:xs[j]? = ys[j']?):Bef κ ρ xs i j:=by
 unfold Bef; rw [KK_congr (κ:=κ) hi,KK_congr (κ:=κ) hj,Cs (ρ:=ρ) hi,Cs (ρ:=ρ) hj]; exact h
theorem Bef.kle (h:Bef κ ρ xs i j):κ.kle (KK κ xs i) (KK κ xs j):=h.elim (fun h=>KeyOrd.kle_of_klt h) fun h=>by rw [h.1]; exact KeyOrd.kle_refl _
theorem RN (h:κ.kle (KK κ xs i) (KK κ xs j)) (hr:RR ρ xs i < RR ρ xs j):Bef κ ρ xs i j:=by
 cases hb:κ.blt (KK κ xs i) (KK κ xs j) with
 | true=>exact .inl hb
 | false=>exact .inr ⟨(κ.total _ _ (show κ.blt (KK κ xs j) (KK κ xs i)=false from h) hb).symm,hr⟩
theorem Bn.sorted (h:Bn κ ρ xs n):SortedToK κ xs n:=fun i j hij hj=>by
 by_cases e:i=j
 ·subst e; exact KeyOrd.kle_refl _
 ·exact (h i j (by lia) hj).kle
end
structure SOk (κ:KeyKind) (ρ:Keyed->Nat) (a₀:Array Keyed) (st:SortSt) (n:Nat):Prop where
 base:SBase a₀ st
 rest:∀ i,n<=i->i < a₀.size->RR ρ (arrOf st) i=i
 low:∀ i,i < n->RR ρ (arrOf st) i < n
section
variable {prog:Program} {w:World} {A:Around} {E:Value->Shared->Prop} {s:Shared} {a₀:Array Keyed} {κ:KeyKind} {ρ:Keyed->Nat}
theorem SOk.more {st:SortSt} {n:Nat} (h:SOk κ ρ a₀ st n) (hn:n < a₀.size):SOk κ ρ a₀ st (n+1) :=
 ⟨h.base,fun i h1 h2=>h.rest i (by (exact Nat.le_of_lt ‹_›)) h2,fun i hi=>by
  by_cases e:i=n
  ·subst e; rw [h.rest i (AAL _) hn]; (with_reducible assumption)
  ·have:=h.low i (by lia); (exact AB4 ‹_›)⟩
theorem CA {xs:Array Keyed} {k l:Nat} (hk:k < xs.size) (hl:l<=k) (x:Nat) :
 (x=l/\(bubble xs k (k-l))[x]? = xs[k]?)\/(l < x/\x<=k/\(bubble xs k (k-l))[x]? = xs[x-1]?)\/((x < l\/k < x)/\(bubble xs k (k-l))[x]? = xs[x]?):=by
 have e:=getElem?_bubble hk (k-l) (by (exact Nat.sub_le _ _)) x
 rw [show k-(k-l)=l by lia] at e
 by_cases h1:x=l
 ·rw [if_pos h1] at e; exact .inl ⟨h1,e⟩
 ·rw [if_neg h1] at e
  by_cases h2:l < x/\x<=k
  ·rw [if_pos h2] at e; exact .inr (.inl ⟨h2.1,h2.2,e⟩)
  ·rw [if_neg h2] at e; exact .inr (.inr ⟨by lia,e⟩)
theorem KD {xs:Array Keyed} {k l:Nat} (hk:k < xs.size) (hl:l<=k) (hs:Bn κ ρ xs k) (hlo:∀ i,i < l->Bef κ ρ xs i k) (hhi:∀ i,l<=i->i < k->κ.klt (KK κ xs k) (KK κ xs i)) :
 Bn κ ρ (bubble xs k (k-l)) (k+1):=by
 intro i j hij hj
 rcases CA hk hl i with ⟨h1,e1⟩ | ⟨h1,h2,e1⟩ | ⟨h1,e1⟩
 ·rcases CA hk hl j with ⟨g1,e2⟩ | ⟨g1,g2,e2⟩ | ⟨g1,e2⟩
  ·omega
  ·exact Bef.congr (.inl (hhi (j-1) (by omega) (by omega))) e1 e2
  ·omega
 ·rcases CA hk hl j with ⟨g1,e2⟩ | ⟨g1,g2,e2⟩ | ⟨g1,e2⟩
  ·omega
  ·exact Bef.congr (hs (i-1) (j-1) (by omega) (by omega)) e1 e2
  ·omega
 ·rcases CA hk hl j with ⟨g1,e2⟩ | ⟨g1,g2,e2⟩ | ⟨g1,e2⟩
  ·exact Bef.congr (hlo i (by omega)) e1 e2
  ·exact Bef.congr (hs i (j-1) (by omega) (by omega)) e1 e2
  ·exact Bef.congr (hs i j hij (by omega)) e1 e2
theorem SOk.bubble {st:SortSt} {k l:Nat} (h:SOk κ ρ a₀ st k) (hk:k < a₀.size) (hl:l<=k):SOk κ ρ a₀ (setArr st (bubble (arrOf st) k (k-l))) (k+1):=by
 have hks:k < (arrOf st).size:=by rw [h.base.size]; exact hk
 refine ⟨h.base.setArr (bubble_perm _ _ _),fun i h1 h2=>?_,fun i hi=>?_⟩
 ·show RR ρ (PyProof.Rows.bubble (arrOf st) k (k-l)) i=i
  rcases CA hks hl i with ⟨g1,e⟩ | ⟨g1,g2,e⟩ | ⟨g1,e⟩
  ·lia
  ·lia
  ·rw [Cs e]; exact h.rest i (by (exact Nat.le_of_lt ‹_›)) h2
 ·show RR ρ (PyProof.Rows.bubble (arrOf st) k (k-l)) i < k+1
  rcases CA hks hl i with ⟨g1,e⟩ | ⟨g1,g2,e⟩ | ⟨g1,e⟩
  ·rw [Cs e,h.rest k (AAL _) hk]; (exact Nat.lt_add_one _)
  ·rw [Cs e]; have:=h.low (i-1) (by omega); (exact AB4 ‹_›)
  ·rw [Cs e]; have:=h.low i (by lia); (exact AB4 ‹_›)
theorem Hf {st:SortSt} {n ok:Nat} {Q:Bool->SortSt->Prop} (hO:κ.OneLt) (h0:KeysOf κ a₀) (hn:n<=a₀.size) (hok:ok<=n) (ho1:1<=ok) (hB:SOk κ ρ a₀ st ok) (hs:Bn κ ρ (arrOf st) ok)
 (h:∀ st',SOk κ ρ a₀ st' n->Bn κ ρ (arrOf st') n->Q true st'):wpS (model prog w) A E s (binarySort' 0 n ok) Q st:=by
 rw [binarySort'_eq]
 simp only [Nat.zero_add]
 refine wpS_bind (wpS_mono (wpS_forRange (I:=fun k c st'=>c=(none,())/\SOk κ ρ a₀ st' (min k n)/\Bn κ ρ (arrOf st') (min k n))
  (Q:=fun c st'=>c=(none,())/\SOk κ ρ a₀ st' n/\Bn κ ρ (arrOf st') n) ?step ?fin ?init) ?post)
 case post =>
  rintro c st' ⟨rfl,hB',hs'⟩
  exact wpS_pure (h st' hB' hs')
 case init =>
  rw [show min (max ok 1) n=ok by lia]
  exact ⟨rfl,hB,hs⟩
 case fin =>
  rintro c st' ⟨hc,hB',hs'⟩
  rw [show min (max (max ok 1) n) n=n by lia] at hB' hs'
  exact ⟨hc,hB',hs'⟩
 case step =>
  rintro k c st' hak hkn ⟨rfl,hB',hs'⟩
  rw [show min k n=k by lia] at hB' hs'
  have hk:k < a₀.size:=by (exact AAC ‹_› ‹_›)
  have hss:=hs'.sorted
  refine wpS_bind (wpS_mono (wpS_forRange (I:=fun x c st''=>st''=st'/\∃ l r,c=(none,l,r)/\l<=r/\r<=k/\r-l<=k-x ∧
   (∀ i,i < l->κ.kle (KK κ (arrOf st') i) (KK κ (arrOf st') k))/\(∀ i,r<=i->i < k->κ.klt (KK κ (arrOf st') k) (KK κ (arrOf st') i)))
   (Q:=fun c st''=>st''=st'/\∃ l r,c=(none,l,r)/\l<=k ∧
    (∀ i,i < l->κ.kle (KK κ (arrOf st') i) (KK κ (arrOf st') k))/\(∀ i,l<=i->i < k->κ.klt (KK κ (arrOf st') k) (KK κ (arrOf st') i))) ?istep ?ifin ?iinit) ?ipost)
  case iinit=>exact ⟨rfl,0,k,rfl,by (exact ABF _),by lia,by (exact Nat.sub_le _ _),fun i hi=>by lia,fun i h1 h2=>by lia⟩
  case ifin =>
   rintro c st'' ⟨rfl,l,r,rfl,hlr,hrk,hm,hlo,hhi⟩
   have:l=r:=by lia
   subst this
   exact ⟨rfl,l,l,rfl,hrk,hlo,hhi⟩
  case istep =>
   rintro x c st'' _ hxk ⟨rfl,l,r,rfl,hlr,hrk,hm,hlo,hhi⟩
   dsimp only
   by_cases hge:l ≥ r
   ·rw [if_pos hge]
    have:l=r:=by lia
    subst this
    exact wpS_pure ⟨rfl,l,l,rfl,hrk,hlo,hhi⟩
   ·rw [if_neg hge]
    refine wpS_bind (wpS_ltKK hO hB'.base h0 hk (by lia) ?_)
    cases hless:κ.blt (KK κ (arrOf st'') k) (KK κ (arrOf st'') ((l+r) / 2))
    case true =>
     dsimp only; rw [if_pos rfl]
     refine wpS_pure ⟨rfl,l,(l+r) / 2,rfl,by lia,by lia,by lia,hlo,fun i h1 h2=>?_⟩
     exact KeyOrd.klt_of_klt_of_kle hless (hss _ _ h1 h2)
    case false =>
     dsimp only; rw [if_neg ABB]
     refine wpS_pure ⟨rfl,(l+r) / 2+1,r,rfl,by lia,by (with_reducible assumption),by lia,fun i h1=>?_,hhi⟩
     exact KeyOrd.kle_trans (hss i ((l+r) / 2) (by (exact ACA ‹_›)) (by lia)) (show κ.kle _ _ from hless)
  case ipost =>
   rintro c st'' ⟨rfl,l,r,rfl,hlk,hlo,hhi⟩
   show wpS _ _ _ _ (do moveDown' k l; pure (ForInStep.yield (none,()))) _ _
   rw [moveDown'_eq]
   refine wpS_bind (wpS_modify (wpS_pure ⟨rfl,?_,?_⟩))
   ·rw [show min (k+1) n=k+1 by lia]; exact hB'.bubble hk hlk
   ·rw [show min (k+1) n=k+1 by lia]
    exact KD (by rw [hB'.base.size]; exact hk) hlk hs' (fun i hi=>RN (hlo i hi) (by rw [hB'.rest k (AAL _) hk]; exact hB'.low i (by (exact AAC ‹_› ‹_›)))) hhi
theorem Fz {st:SortSt} {a nrem:Nat} {Q:AscSt->SortSt->Prop} (hO:κ.OneLt) (h0:KeysOf κ a₀) (hn:nrem<=a₀.size) (ha:1<=a) (han:a<=nrem) (hB:SOk κ ρ a₀ st a)
 (hs:Bn κ ρ (arrOf st) a)
 (h:∀ n,a<=n->n<=nrem->SOk κ ρ a₀ st n->Bn κ ρ (arrOf st) n->(n=nrem\/κ.klt (KK κ (arrOf st) n) (KK κ (arrOf st) (n-1)))->Q (none,n) st) :
 wpS (model prog w) A E s (ascLoop a nrem) Q st:=by
 unfold ascLoop
 refine wpS_forRange (I:=fun x c st'=>st'=st/\c=(none,x)/\SOk κ ρ a₀ st x/\Bn κ ρ (arrOf st) x) ?step ?fin ⟨rfl,rfl,hB,hs⟩
 case fin =>
  rintro c st' ⟨rfl,rfl,hB',hs'⟩
  rw [show max a nrem=nrem by lia] at hB' hs' ⊢
  exact h nrem han (AAL _) hB' hs' (.inl rfl)
 case step =>
  rintro x c st' hax hxn ⟨rfl,rfl,hB',hs'⟩
  dsimp only
  refine wpS_bind (wpS_ltKK hO hB'.base h0 (by (exact AAC ‹_› ‹_›)) (by lia) ?_)
  cases hless:κ.blt (KK κ (arrOf st') x) (KK κ (arrOf st') (x-1))
  case true =>
   dsimp only; rw [if_pos rfl]
   exact wpS_pure (h x hax (by (exact Nat.le_of_lt ‹_›)) hB' hs' (.inr hless))
  case false =>
   dsimp only; rw [if_neg ABB]
   refine wpS_pure ⟨rfl,rfl,hB'.more (by (exact AAC ‹_› ‹_›)),fun i j hij hj=>?_⟩
   by_cases hjx:j < x
   ·exact hs' i j hij hjx
   ·have hj':j=x:=by lia
    subst hj'
    refine RN (KeyOrd.kle_trans (hs'.sorted i (j-1) (by lia) (by lia)) hless) ?_
    rw [hB'.rest j (AAL _) (by lia)]; exact hB'.low i hij
end
end Mine
namespace Mine
set_option tactic.hygienic true
set_option backward.match.sparseCases true
set_option genInjectivity true
open PySem PyProof.Rows
section
variable {prog:Program} {w:World} {A:Around} {E:Value->Shared->Prop} {s:Shared} {a₀:Array Keyed} {κ:KeyKind} {ρ:Keyed->Nat}
theorem B8 {xs:Array Keyed} {b m:Nat} (hm:m<=xs.size) (x:Nat) :
 (b<=x/\x < m/\(mirror xs b m ((m-b) / 2))[x]? = xs[b+m-1-x]?)\/((x < b\/m<=x)/\(mirror xs b m ((m-b) / 2))[x]? = xs[x]?):=by
 have e:=getElem?_mirror_all (i:=b) hm x
 by_cases h1:b<=x/\x < m
 ·rw [if_pos h1] at e; exact .inl ⟨h1.1,h1.2,e⟩
 ·rw [if_neg h1] at e; exact .inr ⟨by lia,e⟩
theorem SOk.mirror {st:SortSt} {b m:Nat} (h:SOk κ ρ a₀ st m) (hm:m<=a₀.size):SOk κ ρ a₀ (setArr st (mirror (arrOf st) b m ((m-b) / 2))) m:=by
 have hms:m<=(arrOf st).size:=by rw [h.base.size]; exact hm
 refine ⟨h.base.setArr (mirror_perm _ _ _ _),fun i h1 h2=>?_,fun i hi=>?_⟩
 ·show RR ρ (PyProof.Rows.mirror (arrOf st) b m ((m-b) / 2)) i=i
  rcases B8 (b:=b) hms i with ⟨g1,g2,e⟩ | ⟨g1,e⟩
  ·lia
  ·rw [Cs e]; exact h.rest i h1 h2
 ·show RR ρ (PyProof.Rows.mirror (arrOf st) b m ((m-b) / 2)) i < m
  rcases B8 (b:=b) hms i with ⟨g1,g2,e⟩ | ⟨g1,e⟩
  ·rw [Cs e]; exact h.low _ (by omega)
  ·rw [Cs e]; exact h.low _ hi
def LP (κ:KeyKind) (ρ:Keyed->Nat) (xs:Array Keyed) (n:Nat):Prop:=∀ i j,i < j->j < n->Bef κ ρ xs j i
theorem PS {xs:Array Keyed} {m:Nat} (hm:m<=xs.size) (h:LP κ ρ xs m):Bn κ ρ (mirror xs 0 m ((m-0) / 2)) m:=by
 intro i j hij hj
 rcases B8 (b:=0) hm i with ⟨g1,g2,e1⟩ | ⟨g1,e1⟩
 ·rcases B8 (b:=0) hm j with ⟨k1,k2,e2⟩ | ⟨k1,e2⟩
  ·exact Bef.congr (h (0+m-1-j) (0+m-1-i) (by omega) (by omega)) e1 e2
  ·omega
 ·omega
structure Dsc (κ:KeyKind) (ρ:Keyed->Nat) (a₀:Array Keyed) (st:SortSt) (x neq:Nat):Prop where
 ok:SOk κ ρ a₀ st x
 le:neq+1<=x
 rev:∀ i j,i < j->j < x->i < x-(neq+1)->Bef κ ρ (arrOf st) j i
 eq:∀ i,x-(neq+1)<=i->i < x->KK κ (arrOf st) i=KK κ (arrOf st) (x-1)/\RR ρ (arrOf st) i=i
theorem Dsc.kle {st:SortSt} {x neq:Nat} (h:Dsc κ ρ a₀ st x neq) {i:Nat} (hi:i < x):κ.kle (KK κ (arrOf st) (x-1)) (KK κ (arrOf st) i):=by
 by_cases h1:i < x-(neq+1)
 ·exact (h.rev i (x-1) (by omega) (by omega) h1).kle
 ·rw [(h.eq i (by (exact Nat.le_of_not_lt ‹_›)) hi).1]; exact KeyOrd.kle_refl _
theorem Dsc.turn {st:SortSt} {x neq:Nat} (h:Dsc κ ρ a₀ st x neq) (hx:x<=a₀.size) :
 SOk κ ρ a₀ (setArr st (mirror (arrOf st) (x-(neq+1)) x ((x-(x-(neq+1))) / 2))) x/\LP κ ρ (mirror (arrOf st) (x-(neq+1)) x ((x-(x-(neq+1))) / 2)) x ∧
 ∀ k,KK κ (mirror (arrOf st) (x-(neq+1)) x ((x-(x-(neq+1))) / 2)) k=KK κ (arrOf st) k:=by
 have hxs:x<=(arrOf st).size:=by rw [h.ok.base.size]; exact hx
 have hle:=h.le
 refine ⟨h.ok.mirror hx,fun i j hij hj=>?_,KK_mirror_equal hxs fun k h1 h2=>(h.eq k h1 h2).1⟩
 rcases B8 (b:=x-(neq+1)) hxs i with ⟨g1,g2,e1⟩ | ⟨g1,e1⟩
 ·rcases B8 (b:=x-(neq+1)) hxs j with ⟨k1,k2,e2⟩ | ⟨k1,e2⟩
  ·refine Bef.congr (.inr ⟨?_,?_⟩) e2 e1
   ·rw [(h.eq _ (by omega) (by omega)).1]; exact (h.eq _ (by omega) (by omega)).1.symm
   ·rw [(h.eq _ (by omega) (by omega)).2,(h.eq _ (by omega) (by omega)).2]; omega
  ·omega
 ·rcases B8 (b:=x-(neq+1)) hxs j with ⟨k1,k2,e2⟩ | ⟨k1,e2⟩
  ·exact Bef.congr (h.rev i _ (by omega) (by omega) (by omega)) e2 e1
  ·exact Bef.congr (h.rev i j hij hj (by omega)) e2 e1
theorem Dsc.whole {st:SortSt} {x:Nat} (h:Dsc κ ρ a₀ st x 0):LP κ ρ (arrOf st) x:=fun i j hij hj=>h.rev i j hij hj (by omega)
theorem Ge {st:SortSt} {x:Nat} (ok:SOk κ ρ a₀ st x) (hx:x < a₀.size) (h1:1<=x) (rv:LP κ ρ (arrOf st) x) (hl:κ.klt (KK κ (arrOf st) x) (KK κ (arrOf st) (x-1)))
 (hk:∀ i,i < x->κ.kle (KK κ (arrOf st) (x-1)) (KK κ (arrOf st) i)):Dsc κ ρ a₀ st (x+1) 0:=by
 refine ⟨ok.more hx,by (exact Nat.succ_pos _),fun i j hij hj hi=>?_,fun i h2 h3=>?_⟩
 ·by_cases e:j=x
  ·subst e; exact .inl (KeyOrd.klt_of_klt_of_kle hl (hk i (by (with_reducible assumption))))
  ·exact rv i j hij (by lia)
 ·have:i=x:=by lia
  subst this
  exact ⟨rfl,ok.rest i (AAL _) hx⟩
theorem Dsc.more {st:SortSt} {x neq:Nat} (h:Dsc κ ρ a₀ st x neq) (hx:x < a₀.size) (he:KK κ (arrOf st) x=KK κ (arrOf st) (x-1)):Dsc κ ρ a₀ st (x+1) (neq+1):=by
 have hle:=h.le
 refine ⟨h.ok.more hx,by (exact Nat.lt_succ_of_le ‹_›),fun i j hij hj hi=>?_,fun i h2 h3=>?_⟩
 ·by_cases e:j=x
  ·subst e
   rcases h.rev i (j-1) (by lia) (by lia) (by lia) with q | ⟨_,q⟩
   ·exact .inl (by rw [he]; exact q)
   ·rw [(h.eq (j-1) (by lia) (by lia)).2] at q
    have:=h.ok.low i (by (with_reducible assumption))
    lia
  ·exact h.rev i j hij (by lia) (by lia)
 ·show KK κ (arrOf st) i=KK κ (arrOf st) x/\_
  by_cases e:i=x
  ·subst e; exact ⟨rfl,h.ok.rest i (AAL _) hx⟩
  ·rw [he]; exact h.eq i (by lia) (by lia)
end
end Mine
namespace Mine
set_option tactic.hygienic true
set_option backward.match.sparseCases true
set_option genInjectivity true
open PySem PyProof.Rows
section
variable {prog:Program} {w:World} {A:Around} {E:Value->Shared->Prop} {s:Shared} {a₀:Array Keyed} {κ:KeyKind} {ρ:Keyed->Nat}
theorem H6 {st:SortSt} {n nrem:Nat} {Q:Option Nat->SortSt->Prop} (hO:κ.OneLt) (h0:KeysOf κ a₀) (hn:nrem<=a₀.size) (h1:1<=n) (hnn:n<=nrem) (hB:SOk κ ρ a₀ st n)
 (hs:LP κ ρ (arrOf st) n) (h:∀ m st',SOk κ ρ a₀ st' m->1<=m->m<=nrem->Bn κ ρ (arrOf st') m->Q (some m) st') :
 wpS (model prog w) A E s (tail3 n nrem) Q st:=by
 unfold tail3
 have hsz:n<=(arrOf st).size:=by rw [hB.base.size]; (exact AAC ‹_› ‹_›)
 refine wpS_bind (wpS_reverse ?_)
 have hB':SOk κ ρ a₀ (setArr st (mirror (arrOf st) 0 n ((n-0) / 2))) n:=hB.mirror (by lia)
 exact wpS_bind (Fz hO h0 hn h1 hnn hB' (PS hsz hs) fun m hm1 hm2 hBm hsm _=>wpS_pure (h m _ hBm (by (exact AAC ‹_› ‹_›)) hm2 hsm))
theorem IZ {st:SortSt} {n nrem:Nat} {Q:DescSt->SortSt->Prop} (hO:κ.OneLt) (h0:KeysOf κ a₀) (hn:nrem<=a₀.size) (h1:1<=n) (hnn:n<=nrem) (hD:Dsc κ ρ a₀ st n 0)
 (h:∀ m neq st',n<=m->m<=nrem->Dsc κ ρ a₀ st' m neq->Q (none,m,neq) st') :
 wpS (model prog w) A E s (descLoop n nrem) Q st:=by
 unfold descLoop
 refine wpS_forRange (I:=fun x c st'=>∃ neq,c=(none,x,neq)/\Dsc κ ρ a₀ st' x neq) ?step ?fin ⟨0,rfl,hD⟩
 case fin =>
  rintro c st' ⟨neq,rfl,hD'⟩
  rw [show max n nrem=nrem by lia] at hD' ⊢
  exact h nrem neq st' hnn (AAL _) hD'
 case step =>
  rintro x c st' hax hxn ⟨neq,rfl,hD'⟩
  dsimp only
  refine wpS_bind (wpS_ltKK hO hD'.ok.base h0 (by (exact AAC ‹_› ‹_›)) (by lia) ?_)
  cases hless:κ.blt (KK κ (arrOf st') x) (KK κ (arrOf st') (x-1))
  case true =>
   dsimp only; rw [if_pos rfl]
   by_cases hneq:neq > 0
   ·rw [if_pos hneq]
    obtain ⟨t1,t2,t3⟩:=hD'.turn (by lia)
    refine wpS_bind (wpS_reverse (wpS_pure ⟨0,rfl,Ge t1 (by (exact AAC ‹_› ‹_›)) (by lia) t2 ?_ ?_⟩))
    ·show κ.klt (KK κ (mirror (arrOf st') _ _ _) x) (KK κ (mirror (arrOf st') _ _ _) (x-1))
     rw [t3,t3]; exact hless
    ·intro i hi
     show κ.kle (KK κ (mirror (arrOf st') _ _ _) (x-1)) (KK κ (mirror (arrOf st') _ _ _) i)
     rw [t3,t3]; exact hD'.kle hi
   ·rw [if_neg hneq]
    have:neq=0:=by lia
    subst this
    exact wpS_pure ⟨0,rfl,Ge hD'.ok (by (exact AAC ‹_› ‹_›)) (by (exact AAC ‹_› ‹_›)) hD'.whole hless fun i hi=>hD'.kle hi⟩
  case false =>
   dsimp only; rw [if_neg ABB]
   refine wpS_bind (wpS_ltKK hO hD'.ok.base h0 (by lia) (by (exact AAC ‹_› ‹_›)) ?_)
   cases hlarger:κ.blt (KK κ (arrOf st') (x-1)) (KK κ (arrOf st') x)
   case true =>
    dsimp only; rw [if_pos rfl]
    exact wpS_pure (h x neq st' hax (by (exact Nat.le_of_lt ‹_›)) hD')
   case false =>
    dsimp only; rw [if_neg ABB]
    exact wpS_pure ⟨neq+1,rfl,hD'.more (by (exact AAC ‹_› ‹_›)) (KeyOrd.kle_antisymm hlarger hless)⟩
theorem EW {st:SortSt} {n nrem:Nat} {Q:Option Nat->SortSt->Prop} (hO:κ.OneLt) (h0:KeysOf κ a₀) (hn:nrem<=a₀.size) (hnn:n+1<=nrem) (hD:Dsc κ ρ a₀ st (n+1) 0)
 (h:∀ m st',SOk κ ρ a₀ st' m->1<=m->m<=nrem->Bn κ ρ (arrOf st') m->Q (some m) st') :
 wpS (model prog w) A E s (descPart n nrem) Q st:=by
 unfold descPart
 refine wpS_bind (wpS_lift (wpAny_rule ⟨rfl,?_⟩))
 refine wpS_bind (IZ hO h0 hn (by (exact Nat.succ_pos _)) hnn hD fun m neq st' hm1 hm2 hD'=>?_)
 dsimp only
 by_cases hneq:neq > 0
 ·rw [if_pos hneq]
  obtain ⟨t1,t2,_⟩:=hD'.turn (by (exact AAC ‹_› ‹_›))
  exact wpS_bind (wpS_reverse (H6 hO h0 hn (by lia) hm2 t1 t2 h))
 ·rw [if_neg hneq]
  have:neq=0:=by lia
  subst this
  exact H6 hO h0 hn (by lia) hm2 hD'.ok hD'.whole h
theorem Ja {st:SortSt} {nrem:Nat} {Q:Option Nat->SortSt->Prop} (hO:κ.OneLt) (h0:KeysOf κ a₀) (hn:nrem<=a₀.size) (h1:1<=nrem) (hB:SBase a₀ st)
 (hr:∀ i,i < a₀.size->RR ρ (arrOf st) i=i)
 (h:∀ m st',SOk κ ρ a₀ st' m->1<=m->m<=nrem->Bn κ ρ (arrOf st') m->Q (some m) st') :
 wpS (model prog w) A E s (countRun' 0 nrem) Q st:=by
 have ok:∀ n,n<=a₀.size->SOk κ ρ a₀ st n:=fun n hn=>⟨hB,fun i _ h2=>hr i h2,fun i hi=>by rw [hr i (by (exact AAC ‹_› ‹_›))]; exact hi⟩
 rw [countRun0_eq]
 refine wpS_bind (Fz hO h0 hn (AAL 1) h1 (ok 1 (by (exact AAC ‹_› ‹_›))) (fun i j hij hj=>by lia) fun n hn1 hn2 _ hsn hor=>?_)
 dsimp only
 by_cases hnn:n=nrem
 ·rw [if_pos (by simpa using hnn)]
  exact wpS_pure (h n st (ok n (by (exact AAC ‹_› ‹_›))) hn1 hn2 hsn)
 ·rw [if_neg (by simpa using hnn)]
  have hlt:κ.klt (KK κ (arrOf st) n) (KK κ (arrOf st) (n-1)):=hor.resolve_left hnn
  by_cases hgt:n > 1
  ·rw [if_pos hgt]
   refine wpS_bind (wpS_ltKK hO hB h0 (by lia) (by lia) ?_)
   cases hrose:κ.blt (KK κ (arrOf st) 0) (KK κ (arrOf st) (n-1))
   case true =>
    dsimp only; rw [if_pos rfl]
    exact wpS_pure (h n st (ok n (by (exact AAC ‹_› ‹_›))) hn1 hn2 hsn)
   case false =>
    dsimp only; rw [if_neg ABB]
    have hsz:n<=(arrOf st).size:=by rw [hB.size]; (exact AAC ‹_› ‹_›)
    have hss:=hsn.sorted
    have hall:∀ k,0<=k->k < n->KK κ (arrOf st) k=KK κ (arrOf st) (n-1):=by
     intro k _ hk
     have a1:=hss 0 k (by (with_reducible assumption)) hk
     have a2:=hss k (n-1) (by lia) (by lia)
     exact KeyOrd.kle_antisymm a2 (KeyOrd.kle_trans hrose a1)
    have keq:=KK_mirror_equal (κ:=κ) hsz hall
    refine wpS_bind (wpS_reverse (EW hO h0 hn (by lia) (Ge ((ok n (by lia)).mirror (by lia)) (by lia) hn1 ?_ ?_ ?_) h))
    ·intro i j hij hj
     rcases B8 (b:=0) hsz i with ⟨g1,g2,e1⟩ | ⟨g1,e1⟩
     ·rcases B8 (b:=0) hsz j with ⟨k1,k2,e2⟩ | ⟨k1,e2⟩
      ·refine Bef.congr (.inr ⟨?_,?_⟩) e2 e1
       ·rw [hall _ (by (exact ABF _)) (by lia)]; exact (hall _ (by (exact ABF _)) (by lia)).symm
       ·rw [hr _ (by lia),hr _ (by lia)]; lia
      ·lia
     ·lia
    ·show κ.klt (KK κ (mirror (arrOf st) _ _ _) n) (KK κ (mirror (arrOf st) _ _ _) (n-1))
     rw [keq,keq]; exact hlt
    ·intro i hi
     show κ.kle (KK κ (mirror (arrOf st) _ _ _) (n-1)) (KK κ (mirror (arrOf st) _ _ _) i)
     rw [keq,keq,hall i (by (exact ABF _)) hi]; exact KeyOrd.kle_refl _
  ·rw [if_neg hgt]
   have hn1':n=1:=by lia
   subst hn1'
   refine EW hO h0 hn (by lia) (Ge (ok 1 (by (exact AAC ‹_› ‹_›))) (by lia) (AAL 1) (fun i j hij hj=>by lia) hlt fun i hi=>?_) h
   have:i=0:=by lia
   subst this; exact KeyOrd.kle_refl _
theorem IY {st:SortSt} {Q:Unit->SortSt->Prop} (hO:κ.OneLt) (h0:KeysOf κ a₀) (hB:SBase a₀ st) (hr:∀ i,i < a₀.size->RR ρ (arrOf st) i=i) (h2:2<=a₀.size) (h64:a₀.size < 64)
 (h:∀ st',(arrOf st').Perm a₀->failedOf st'=none->Bn κ ρ (arrOf st') a₀.size->Q () st'):wpS (model prog w) A E s sortRuns' Q st:=by
 rw [sortRuns'_eq]
 refine wpS_bind (wpS_get ?_)
 dsimp only
 have hmr:minRun' a₀.size a₀.size 0=a₀.size:=by
  obtain ⟨f,hf⟩:∃ f,a₀.size=f+1:=⟨a₀.size-1,by lia⟩
  have:minRun' (f+1) a₀.size 0=a₀.size:=by rw [minRun'_succ,if_pos h64]; rfl
  rwa [<-hf] at this
 rw [hB.size,hmr]
 have fin:∀ {st':SortSt},SOk κ ρ a₀ st' a₀.size->Bn κ ρ (arrOf st') a₀.size->(arrOf (setPending st' ((pendingOf st').push (0,a₀.size,0)))).Perm a₀/\failedOf (setPending st' ((pendingOf st').push (0,a₀.size,0)))=none ∧
  pendingOf (setPending st' ((pendingOf st').push (0,a₀.size,0)))=#[(0,a₀.size,0)]/\Bn κ ρ (arrOf (setPending st' ((pendingOf st').push (0,a₀.size,0)))) a₀.size :=
  fun ok hs=>⟨ok.base.perm,ok.base.failed,by show (pendingOf _).push _=_; rw [ok.base.pend]; rfl,hs⟩
 refine wpS_bind (wpS_mono (wpS_forRange
  (I:=fun x c st'=>(x=0/\c=(none,0)/\st'=st)\/(1<=x/\c=(none,a₀.size)/\(arrOf st').Perm a₀/\failedOf st'=none/\pendingOf st'=#[(0,a₀.size,0)]/\Bn κ ρ (arrOf st') a₀.size))
  (Q:=fun c st'=>c=(none,a₀.size)/\(arrOf st').Perm a₀/\failedOf st'=none/\pendingOf st'=#[(0,a₀.size,0)]/\Bn κ ρ (arrOf st') a₀.size) ?step ?fin (.inl ⟨rfl,rfl,rfl⟩)) ?post)
 case fin =>
  rintro c st' (⟨hx,_,_⟩ | ⟨_,hc,hD⟩)
  ·lia
  ·exact ⟨hc,hD⟩
 case step =>
  rintro x c st' _ hx (⟨rfl,rfl,rfl⟩ | ⟨hx1,rfl,hD⟩)
  ·dsimp only
   rw [if_neg (by (exact Nat.not_le_of_lt ‹_›))]
   rw [Nat.sub_zero,Nat.min_self]
   refine wpS_bind (Ja hO h0 (AAL _) (by (exact Nat.le_of_lt ‹_›)) hB hr fun m st2 hB2 hm1 hm2 hs2=>?_)
   dsimp only
   by_cases hlt:m < a₀.size
   ·rw [if_pos hlt]
    refine wpS_bind (wpS_lift (wpAny_rule ⟨rfl,?_⟩))
    refine wpS_bind (Hf hO h0 (AAL _) hm2 hm1 hB2 hs2 fun st3 hB3 hs3=>?_)
    rw [if_neg (show ¬(!true)=true from ABB)]
    refine wpS_bind (wpS_get ?_)
    have hb:(pendingOf st3).back? = none:=by rw [hB3.base.pend]; rfl
    rw [hb]
    dsimp only
    exact wpS_bind (wpS_modify (wpS_pure (.inr ⟨by (exact Nat.succ_pos _),by rw [Nat.zero_add],fin hB3 hs3⟩)))
   ·rw [if_neg hlt]
    have hm:m=a₀.size:=by lia
    subst hm
    refine wpS_bind (wpS_get ?_)
    have hb:(pendingOf st2).back? = none:=by rw [hB2.base.pend]; rfl
    rw [hb]
    dsimp only
    exact wpS_bind (wpS_modify (wpS_pure (.inr ⟨by (exact Nat.succ_pos _),by rw [Nat.zero_add],fin hB2 hs2⟩)))
  ·dsimp only
   rw [if_pos (AAL _)]
   exact wpS_pure ⟨rfl,hD⟩
 case post =>
  rintro c st' ⟨rfl,hD⟩
  dsimp only
  refine wpS_bind (wpS_mono (wpS_forRange (I:=fun _ c st''=>st''=st'/\c=(none,())) (Q:=fun c st''=>st''=st'/\c=(none,())) ?_ (fun _ _ hh=>hh) ⟨rfl,rfl⟩) ?_)
  ·rintro x c st'' _ _ ⟨rfl,rfl⟩
   refine wpS_bind (wpS_get ?_)
   rw [if_pos (by rw [hD.2.2.1]; exact AAL 1)]
   exact wpS_pure ⟨rfl,rfl⟩
  ·rintro c st'' ⟨rfl,rfl⟩
   exact wpS_pure (h _ hD.1 hD.2.1 hD.2.2.2)
end
end Mine
namespace Mine
set_option tactic.hygienic true
set_option backward.match.sparseCases true
set_option genInjectivity true
noncomputable def Cu {κ α:Type} (lt:κ->κ->Bool) (p:κ×α):List (κ×α)->List (κ×α)
 | []=>[p]
 | q::r=>if lt q.1 p.1 then q::Cu lt p r else p::q::r
noncomputable def AC {κ α:Type} (lt:κ->κ->Bool):List (κ×α)->List (κ×α)
 | []=>[]
 | p::r=>Cu lt p (AC lt r)
noncomputable def CP {κ α:Type} (rev:Bool) (lt:κ->κ->Bool) (l:List (κ×α)):List α :=
 match rev with
 | true=>(AC lt l.reverse).reverse.map (·.2)
 | false=>(AC lt l).map (·.2)
structure RX {κ:Type} (lt:κ->κ->Bool):Prop where
 irr:∀ a,lt a a=false
 trans:∀ a b c,lt a b=true->lt b c=true->lt a c=true
 total:∀ a b,lt a b=false->lt b a=false->a=b
section
variable {κ α:Type} {lt:κ->κ->Bool} {R:κ×α->κ×α->Prop}
def IX (lt:κ->κ->Bool) (R:κ×α->κ×α->Prop) (a b:κ×α):Prop:=lt a.1 b.1=true\/(a.1=b.1/\R a b)
theorem Ij (p:κ×α) (l:List (κ×α)):(Cu lt p l).Perm (p::l):=by
 induction l with
 | nil=>exact .refl _
 | cons q r ih =>
  unfold Cu
  split
  ·exact (ih.cons q).trans (.swap ..)
  ·exact .refl _
theorem Bj (l:List (κ×α)):(AC lt l).Perm l:=by
 induction l with
 | nil=>exact .refl _
 | cons p r ih=>exact (Ij p _).trans (ih.cons p)
theorem M4 (H:RX lt) (p:κ×α) (l:List (κ×α)) (hl:l.Pairwise (IX lt R)) (hp:∀ q∈l,R p q):(Cu lt p l).Pairwise (IX lt R):=by
 induction l with
 | nil=>exact List.pairwise_singleton ..
 | cons q r ih =>
  have h1:=List.pairwise_cons.mp hl
  unfold Cu
  split
  ·rename_i hq
   refine List.pairwise_cons.mpr ⟨fun x hx=>?_,ih h1.2 fun y hy=>hp y (.tail _ hy)⟩
   rcases AAR.mp ((Ij p r).mem_iff.mp hx) with rfl | hx
   ·exact .inl hq
   ·exact h1.1 x hx
  ·rename_i hq
   have hq:lt q.1 p.1=false:=by simpa using hq
   have first:IX lt R p q:=by
    cases h3:lt p.1 q.1 with
    | true=>exact .inl h3
    | false=>exact .inr ⟨H.total _ _ h3 hq,hp q (.head _)⟩
   refine List.pairwise_cons.mpr ⟨fun x hx=>?_,hl⟩
   rcases AAR.mp hx with rfl | hx'
   ·exact first
   ·rcases h1.1 x hx' with h4 | h4
    ·rcases first with h5 | h5
     ·exact .inl (H.trans _ _ _ h5 h4)
     ·exact .inl (by rw [h5.1]; exact h4)
    ·rcases first with h5 | h5
     ·exact .inl (by rw [<-h4.1]; exact h5)
     ·exact .inr ⟨h5.1.trans h4.1,hp x hx⟩
theorem Eu (H:RX lt) (l:List (κ×α)) (hl:l.Pairwise R):(AC lt l).Pairwise (IX lt R):=by
 induction l with
 | nil=>exact .nil
 | cons p r ih =>
  have h1:=List.pairwise_cons.mp hl
  exact M4 H p _ (ih h1.2) fun q hq=>h1.1 q ((Bj r).mem_iff.mp hq)
end
theorem CH {α:Type} {P:α->α->Prop} (asym:∀ a b,P a b->P b a->False):∀ {l l':List α},l.Pairwise P->l'.Pairwise P->l.Perm l'->l=l'
 | [],l',_,_,hp=>(List.nil_perm.mp hp).symm
 | a::l,l',h1,h2,hp=>by
  cases l' with
  | nil=>exact absurd hp.length_eq (by simp)
  | cons b l' =>
   have c1:=List.pairwise_cons.mp h1
   have c2:=List.pairwise_cons.mp h2
   have ab:a=b:=by
    rcases AAR.mp (hp.mem_iff.mp (.head _)) with e | e
    ·exact e
    ·rcases AAR.mp (hp.mem_iff.mpr (.head l')) with e' | e'
     ·exact e'.symm
     ·exact (asym _ _ (c1.1 b e') (c2.1 a e)).elim
   subst ab
   rw [CH asym c1.2 c2.2 (List.Perm.cons_inv hp)]
end Mine
namespace Mine
set_option tactic.hygienic true
open PySem PyProof.Rows
theorem Fk {κ κ' α α':Type} {lt:κ->κ->Bool} {lt':κ'->κ'->Bool} (f:κ×α->κ'×α') (h:∀ p q,lt' (f p).1 (f q).1=lt p.1 q.1) (l:List (κ×α)):AC lt' (l.map f)=(AC lt l).map f:=by
 have ins:∀ (p:κ×α) (l:List (κ×α)),Cu lt' (f p) (l.map f)=(Cu lt p l).map f:=by
  intro p l
  induction l with
  | nil=>rfl
  | cons q r ih =>
   show (if lt' (f q).1 (f p).1 then f q::Cu lt' (f p) (r.map f) else f p::f q::r.map f)=(if lt q.1 p.1 then q::Cu lt p r else p::q::r).map f
   rw [h,ih]
   split <;> rfl
 induction l with
 | nil=>rfl
 | cons p r ih =>
  show Cu lt' (f p) (AC lt' (r.map f))=(Cu lt p (AC lt r)).map f
  rw [ih,ins]
theorem UZ (κ:KeyKind):RX κ.blt:=⟨κ.irrefl,κ.trans,κ.total⟩
noncomputable abbrev Ka:KeyKind where
 α:=Int
 blt a b:=decide (a < b)
 irrefl a:=AAT (Int.lt_irrefl a)
 trans a b c h1 h2:=AAI (Int.lt_trans (AAG h1) (AAG h2))
 negTrans a b c h:=by
  have:=AAG h
  by_cases hab:a < b
  ·exact .inl (AAI hab)
  ·exact .inr (AAI (by omega))
 total a b h1 h2:=by have:=ABG h1; have:=ABG h2; omega
 keyOf v:=match v with | .int x _=>some x | _=>none
 dflt:=0
theorem JZ:Ka.OneLt:=by
 intro prog w A E s x y a b Q ha hb h
 cases x <;> simp only [Ka,reduceCtorEq,Option.some.injEq] at ha
 cases y <;> simp only [Ka,reduceCtorEq,Option.some.injEq] at hb
 cases ha; cases hb
 exact oneLt_int h
section
variable {κ:KeyKind} {γ:Type}
structure JC (κ:KeyKind) (Z:List (κ.α×(Keyed×γ))):Prop where
 key:∀ z∈Z,κ.keyOf z.2.1.1=some z.1
 nd:(Z.map (·.2.1.2)).Nodup
noncomputable def Be (Z:List (κ.α×(Keyed×γ))) (p:Keyed):Nat:=(Z.map (·.2.1.2)).findIdx (· == p.2)
theorem HM {Z:List (κ.α×(Keyed×γ))} (h:JC κ Z) {i:Nat} {z:κ.α×(Keyed×γ)} (e:Z[i]? = some z):Be Z z.2.1=i:=by
 unfold Be
 obtain ⟨hi,he⟩:=AAM.mp e
 have hl:i < (Z.map (·.2.1.2)).length:=by rw [AAB]; exact hi
 refine (List.findIdx_eq hl).mpr ⟨by rw [List.getElem_map,he]; exact beq_self_eq_true _,fun j hj=>?_⟩
 refine beq_eq_false_iff_ne.mpr fun q=>?_
 have:j=i:=(List.getElem_inj (h₀:=ABT hj hl) (h₁:=hl) h.nd).mp (by rw [q,List.getElem_map,he])
 omega
theorem Wc {Z:List (κ.α×(Keyed×γ))} (h:JC κ Z) (i:Nat) (hi:i < Z.length):RR (Be Z) (Z.map (·.2.1)).toArray i=i:=by
 unfold RR
 rw [List.getElem?_toArray,ABI,AAN hi]
 exact HM h (AAN hi)
theorem Uk {xs:Array Keyed} {i:Nat} (hi:i < xs.size) {a:κ.α} (e:κ.keyOf xs[i].1=some a):KK κ xs i=a:=by
 unfold KK; rw [AB5 hi]; show (κ.keyOf xs[i].1).getD κ.dflt=a; rw [e]; rfl
theorem S1 {Z:List (κ.α×(Keyed×γ))} (h:JC κ Z) {xs:Array Keyed} (hp:xs.Perm (Z.map (·.2.1)).toArray) (hs:Bn κ (Be Z) xs xs.size):xs.toList=(AC κ.blt Z).map (·.2.1):=by
 have hl:xs.toList.Perm (Z.map (·.2.1)):=by have:=Array.perm_iff_toList_perm.mp hp; simpa using this
 let f:Keyed->κ.α×Keyed:=fun p=>((κ.keyOf p.1).getD κ.dflt,p)
 have key:∀ p∈xs.toList,κ.keyOf p.1=some (f p).1:=fun p hp'=>by
  obtain ⟨z,hz,rfl⟩:=AAP.mp (hl.mem_iff.mp hp')
  show _=some ((κ.keyOf z.2.1.1).getD κ.dflt)
  rw [h.key z hz]; rfl
 have e1:(Z.map fun z=>(z.1,z.2.1))=(Z.map (·.2.1)).map f:=by
  rw [AAE]
  refine List.map_congr_left fun z hz=>?_
  show (z.1,z.2.1)=((κ.keyOf z.2.1.1).getD κ.dflt,z.2.1)
  rw [h.key z hz]; rfl
 let R:κ.α×Keyed->κ.α×Keyed->Prop:=fun a b=>Be Z a.2 < Be Z b.2
 have hR:(Z.map fun z=>(z.1,z.2.1)).Pairwise R:=by
  rw [List.pairwise_map,List.pairwise_iff_getElem]
  intro i j hi hj hij
  show Be Z Z[i].2.1 < Be Z Z[j].2.1
  rw [HM h (AAN hi),HM h (AAN hj)]
  exact hij
 have h1:=Eu (UZ κ) _ hR
 have h2:(xs.toList.map f).Pairwise (IX κ.blt R):=by
  rw [List.pairwise_map,List.pairwise_iff_getElem]
  intro i j hi hj hij
  have hi':i < xs.size:=by simpa using hi
  have hj':j < xs.size:=by simpa using hj
  have b:=hs i j hij hj'
  unfold Bef at b
  rw [Uk hi' (a:=(f xs[i]).1) (key _ (by simp)),Uk hj' (a:=(f xs[j]).1) (key _ (by simp))] at b
  have r1:RR (Be Z) xs i=Be Z xs[i]:=by unfold RR; rw [AB5 hi']
  have r2:RR (Be Z) xs j=Be Z xs[j]:=by unfold RR; rw [AB5 hj']
  rw [r1,r2] at b
  rw [Array.getElem_toList,Array.getElem_toList]
  exact b
 have h3:(xs.toList.map f).Perm (AC κ.blt (Z.map fun z=>(z.1,z.2.1))):=by
  refine (hl.map f).trans ?_
  rw [<-e1]
  exact (Bj _).symm
 have asym:∀ a b,IX κ.blt R a b->IX κ.blt R b a->False:=fun a b q q'=>by
  rcases q with q | q <;> rcases q' with q' | q'
  ·have:=κ.trans _ _ _ q q'; rw [κ.irrefl] at this; cases this
  ·rw [q'.1,κ.irrefl] at q; cases q
  ·rw [q.1,κ.irrefl] at q'; cases q'
  ·have x1:Be Z a.2 < Be Z b.2:=q.2
   have x2:Be Z b.2 < Be Z a.2:=q'.2
   omega
 have h4:=CH asym h2 h1 h3
 have h5:=Fk (lt:=κ.blt) (lt':=κ.blt) (fun z:κ.α×(Keyed×γ)=>(z.1,z.2.1)) (fun _ _=>rfl) Z
 rw [h5] at h4
 have h6:=congrArg (List.map Prod.snd) h4
 rw [AAE,AAE] at h6
 have:(Prod.snd∘f)=id:=rfl
 rw [this,List.map_id] at h6
 exact h6
end
end Mine
namespace Mine
set_option tactic.hygienic true
set_option maxRecDepth 100000
set_option maxHeartbeats 4000000
open PySem PyProof.Rows
section
variable {prog:Program} {w:World} {A:Around} {E:Value->Shared->Prop} {s:Shared} {a kS:Addr} {b:Bool} {vs:List Value} {keys:Array Value} {e e1:Nat} {P:PySem.Fin->Shared->Prop}
theorem K8 {h:Heap} {a:Addr} {xs:Array Value} {n:Nat} (ho:h.get? a=some (seqObj "list" xs n)) (out:Array Value):∃ c,(h.update a (Obj.mapSeq fun _=>out)).get? a=some (seqObj "list" out c):=⟨_,get?_update_seq ho fun _=>out⟩
theorem OL {h:Heap} {a:Addr} {xs:Array Value} {n:Nat} (ho:h.get? a=some (seqObj "list" xs n)) (v:Value):∃ c,(h.update a (Obj.mapSeq (·.push v))).get? a=some (seqObj "list" (xs.push v) c):=⟨_,get?_update_seq ho (·.push v)⟩
def VP (a b:Addr) (h h':Heap):Prop:=∀ x o,x≠a->x≠b->h.get? x=some o->h'.get? x=some o
theorem O8 {st:SortSt} (hS:s.heap.get? kS=some (seqObj "list" keys e)) (hA:s.heap.get? a=some (seqObj "list" #[] e1)) (hka:kS≠a) (hsz:keys.size<=sizeLine) (hout:(arrOf st).size<=sizeLine) (hfl:failedOf st=none)
 (h:∀ h' c,VP a kS s.heap h'->h'.get? a=some (seqObj "list" (if b=true then ((arrOf st).map (·.2)).reverse else (arrOf st).map (·.2)) c)->P (.done (.ret .none)) { s with heap:=h' }) :
 wpAny (model prog w) A (ksk_tail a b e1 (.ref kS) st) P E s:=by
 have s1:=Heap.SameBut.update s.heap kS (Obj.mapSeq fun _=>(#[]:Array Value))
 have na1:(s.heap.update kS (Obj.mapSeq fun _=>(#[]:Array Value))).get? a=some (seqObj "list" #[] e1):=(s1.2 a hka.symm).trans hA
 have s2:=Heap.SameBut.update (s.heap.update kS (Obj.mapSeq fun _=>(#[]:Array Value))) a (Obj.mapSeq fun _=>if b=true then ((arrOf st).map (·.2)).reverse else (arrOf st).map (·.2))
 obtain ⟨c2,hc2⟩:=K8 na1 (if b=true then ((arrOf st).map (·.2)).reverse else (arrOf st).map (·.2))
 have ho:(if b=true then ((arrOf st).map (·.2)).reverse else (arrOf st).map (·.2)).size<=sizeLine:=by
  cases b with
  | false=>rw [if_neg ABB,Array.size_map]; exact hout
  | true=>rw [if_pos rfl,Array.size_reverse,Array.size_map]; exact hout
 unfold ksk_tail
 dsimp only
 refine AAD (listUpdate_at hS rfl ?_ hsz (ABF _))
 refine AAD (wpAny_letGo ?_)
 refine AAD (seqEpoch_at na1 rfl ?_)
 refine AAD (listUpdate_at na1 rfl ?_ (ABF _) (AB4 ho))
 rw [hfl]
 simp only [bne_self_eq_false,Bool.false_eq_true,if_false]
 exact AAY (h _ c2 (fun x o h1 h2 ho=>(s2.2 x h1).trans ((s1.2 x h2).trans ho)) hc2)
noncomputable def Qc {κ:KeyKind} {γ:Type} (b:Bool) (Z:List (κ.α×(Keyed×γ))):List (κ.α×(Keyed×γ)):=match b with | true=>(AC κ.blt Z.reverse).reverse | false=>AC κ.blt Z
theorem Qb {κ:KeyKind} {γ:Type} (b:Bool) (Z:List (κ.α×(Keyed×γ))):(Qc b Z).Perm Z:=by
 cases b with
 | true=>exact (List.reverse_perm _).trans ((Bj _).trans (List.reverse_perm _))
 | false=>exact Bj _
theorem PB {κ:KeyKind} {γ:Type} (hO:κ.OneLt) {Z:List (κ.α×(Keyed×γ))} (hz:JC κ Z) (hk:keys.zip vs.toArray=(Z.map (·.2.1)).toArray) (hlen:keys.size=vs.length) (hkk:2<=keys.size->keyKind' keys=pure oneType') (h64:vs.length < 64)
 (hS:s.heap.get? kS=some (seqObj "list" keys e)) (hA:s.heap.get? a=some (seqObj "list" #[] e1)) (hka:kS≠a)
 (h:∀ h' c,VP a kS s.heap h'->h'.get? a=some (seqObj "list" ((Qc b Z).map (·.2.1.2)).toArray c)->P (.done (.ret .none)) { s with heap:=h' }) :
 wpAny (model prog w) A (ksk_end a b vs.toArray e1 (.ref kS) keys) P E s:=by
 have hzl:(keys.zip vs.toArray).size=vs.length:=by rw [Array.size_zip,hlen,List.size_toArray,Nat.min_self]
 have hZ:Z.length=vs.length:=by rw [<-hzl,hk,List.size_toArray,AAB]
 have step:∀ t:Sem PySem.Fin,wpAny (model prog w) A t P E s->wpAny (model prog w) A (if b=true then (do let _ <-rule "list.sort.reverse"; t) else t) P E s:=by
  intro t ht
  split
  ·exact AAD (wpAny_rule ht)
  ·exact ht
 obtain ⟨Y,hY⟩:∃ Y,Y=(if b=true then Z.reverse else Z):=⟨_,rfl⟩
 have hYl:Y.length=vs.length:=by rw [hY]; split <;> simp [hZ]
 have hYz:JC κ Y:=by
  rw [hY]
  split
  ·exact ⟨fun z hz'=>hz.key z (List.mem_reverse.mp hz'),by rw [List.map_reverse]; exact (List.reverse_perm _).nodup_iff.mpr hz.nd⟩
  ·exact hz
 have hstart:(if b=true then (keys.zip vs.toArray).reverse else keys.zip vs.toArray)=(Y.map (·.2.1)).toArray:=by
  rw [hk,hY]
  cases b with
  | false=>rfl
  | true=>rw [if_pos rfl,if_pos rfl,List.map_reverse]; simp
 have fin:∀ st:SortSt,(arrOf st).Perm (Y.map (·.2.1)).toArray->Bn κ (Be Y) (arrOf st) (arrOf st).size->failedOf st=none->wpAny (model prog w) A (ksk_tail a b e1 (.ref kS) st) P E s:=by
  intro st hp hs hf
  have hsz:(arrOf st).size=vs.length:=by rw [hp.size_eq,List.size_toArray,AAB,hYl]
  refine O8 hS hA hka (by rw [hlen,sizeLine_eq]; omega) (by rw [hsz,sizeLine_eq]; omega) hf fun h' c hb ha=>h h' c hb ?_
  rw [ha]
  have e3:=S1 hYz hp hs
  congr 2
  apply Array.toList_inj.mp
  rw [hY] at e3
  cases b with
  | false =>
   rw [if_neg ABB,Array.toList_map,e3,if_neg ABB,AAE]; rfl
  | true =>
   rw [if_pos rfl,Array.toList_reverse,Array.toList_map,e3,if_pos rfl,AAE]
   show _=((AC κ.blt Z.reverse).reverse.map _)
   rw [List.map_reverse]; rfl
 unfold ksk_end
 dsimp only
 refine step _ ?_
 rw [hstart]
 by_cases h2:vs.toArray.size < 2
 ·rw [if_pos h2,if_pos h2]
  refine AAD (AAY ?_)
  rw [StateT.run_pure]
  refine AAD (AAY ?_)
  dsimp only
  refine fin (SortSt.mk' general' (Y.map (·.2.1)).toArray #[] 7 none) (Array.Perm.refl _) (fun i j hij hj=>?_) rfl
  have hj2:j < (Y.map (·.2.1)).toArray.size:=hj
  rw [List.size_toArray,AAB,hYl] at hj2
  rw [List.size_toArray] at h2
  omega
 ·rw [if_neg h2,if_neg h2]
  rw [List.size_toArray] at h2
  have hY2:(Y.map (·.2.1)).toArray.size=vs.length:=by rw [List.size_toArray,AAB,hYl]
  rw [hkk (by omega)]
  refine AAD (AAY ?_)
  have hkeys:PyProof.Rows.KeysOf κ (Y.map (·.2.1)).toArray:=fun p hp=>by
   obtain ⟨z,hz',rfl⟩:=AAP.mp (show p∈Y.map (·.2.1) from by simpa using hp)
   exact ⟨z.1,hYz.key z hz'⟩
  have hrr:∀ i,i < (Y.map (·.2.1)).toArray.size->RR (Be Y) (Y.map (·.2.1)).toArray i=i:=fun i hi=>Wc hYz i (by rw [hY2,<-hYl] at hi; exact hi)
  generalize (Y.map (·.2.1)).toArray=a₀ at hkeys hrr hY2 fin ⊢
  have run:wpS (model prog w) A E s sortRuns' (fun _ st'=>(arrOf st').Perm a₀/\failedOf st'=none/\Bn κ (Be Y) (arrOf st') a₀.size) (SortSt.mk' oneType' a₀ #[] 7 none) :=
   IY (κ:=κ) (ρ:=Be Y) hO hkeys ⟨Array.Perm.refl _,rfl,rfl,rfl⟩ hrr (by rw [hY2]; omega) (by rw [hY2]; exact h64) fun st' a1 a2 a3=>⟨a1,a2,a3⟩
  refine AAD (AAO run ?_ fun _ _ e=>e)
  rintro ⟨⟨⟩,st'⟩ s' ⟨rfl,hp,hf,hs⟩
  dsimp only
  exact fin st' hp (by rw [hp.size_eq]; exact hs) hf
end
end Mine
namespace Mine
set_option tactic.hygienic true
set_option maxRecDepth 100000
open PySem PyProof.Rows
theorem RepDs.length {fz:Addr->Option Obj} {ds:List PyData} {vs:List Value} (r:RepDs fz ds vs):ds.length=vs.length:=r.all.length
theorem Nu {δ:Type} {fz:Addr->Option Obj} {d:δ->PyData} {v:δ->Value}:∀ {l:List δ},(∀ z∈l,A5 fz (d z) (v z))->RepDs fz (l.map d) (l.map v)
 | [],_=>trivial
 | z::l,h=>⟨h z (.head _),Nu fun y hy=>h y (.tail _ hy)⟩
theorem RepDs.at_ {fz:Addr->Option Obj}:∀ {ds:List PyData} {vs:List Value} {j:Nat} {d:PyData} {v:Value},RepDs fz ds vs->ds[j]? = some d->vs[j]? = some v->A5 fz d v
 | _::_,_::_,0,_,_,r,e1,e2=>by obtain rfl:=AAA e1; obtain rfl:=AAA e2; exact r.1
 | _::_,_::_,j+1,_,_,r,e1,e2=>RepDs.at_ (j:=j) r.2 e1 e2
 | [],_,_,_,_,_,e1,_=>by simp at e1
 | _::_,[],_,_,_,r,_,_=>r.elim
theorem Mb {fz:Addr->Option Obj} {ds:List PyData} {vs:List Value} (r:RepDs fz ds vs) (h:ds.Nodup):vs.Nodup:=by
 rw [List.Nodup,List.pairwise_iff_getElem]
 intro i j hi hj hij q
 have hl:=r.length
 have h1:=r.at_ (AAN (show i < ds.length by omega)) (AAN hi)
 have h2:=r.at_ (AAN (show j < ds.length by omega)) (AAN hj)
 rw [q] at h1
 have e:=A5.inj _ _ _ ((Es h2).symm.trans (Es h1)) h1 h2
 have:=(List.getElem_inj (h₀:=by omega) (h₁:=by omega) h).mp e
 omega
theorem Mj {κ:KeyKind} {β:Type} {fz:Addr->Option Obj} (emb:β->κ.α) (lt:β->β->Bool) (hlt:∀ x y,κ.blt (emb x) (emb y)=lt x y) {bs:List β} {kA:Array Value} {vs:List Value} {xs:List PyData} (hkey:∀ (j:Nat) (x:Value) (y:β),kA.toList[j]? = some x->bs[j]? = some y->κ.keyOf x=some (emb y)) (hk:kA.size=bs.length) (hb:bs.length=vs.length)
 (r:RepDs fz xs vs) (nd:xs.Nodup):∃ Z:List (κ.α×(Keyed×PyData)),JC κ Z/\kA.zip vs.toArray=(Z.map (·.2.1)).toArray/\∀ rev,RepDs fz (CP rev lt (bs.zip xs)) ((Qc rev Z).map (·.2.1.2)):=by
 have hx:=r.length
 have hkl:kA.toList.length=bs.length:=by simpa using hk
 obtain ⟨Y,hY⟩:∃ Y:List (β×(Keyed×PyData)),Y=bs.zip ((kA.toList.zip vs).zip xs):=⟨_,rfl⟩
 have mem:∀ y∈Y,∃ j:Nat,bs[j]? = some y.1/\kA.toList[j]? = some y.2.1.1/\vs[j]? = some y.2.1.2/\xs[j]? = some y.2.2:=fun y hy=>by
  obtain ⟨j,hj⟩:=List.mem_iff_getElem?.mp hy
  rw [hY] at hj
  obtain ⟨h1,h2⟩:=List.getElem?_zip_eq_some.mp hj
  obtain ⟨h3,h4⟩:=List.getElem?_zip_eq_some.mp h2
  obtain ⟨h5,h6⟩:=List.getElem?_zip_eq_some.mp h3
  exact ⟨j,h1,h5,h6,h4⟩
 have e1:Y.map (fun y=>y.2.1)=kA.toList.zip vs:=by
  have:Y.map (fun y=>y.2.1)=(Y.map (·.2)).map (·.1):=by rw [AAE]; rfl
  rw [this,hY,List.map_snd_zip (by simp; omega),List.map_fst_zip (by simp; omega)]
 have e2:Y.map (fun y=>(y.1,y.2.2))=bs.zip xs:=by
  refine List.ext_getElem? fun j=>?_
  rw [ABI,hY]
  by_cases hj:j < bs.length
  ·have a1:bs[j]? = some bs[j]:=AAN hj
   have a2:kA.toList[j]? = some (kA.toList[j]'(by omega)):=AAN _
   have a3:vs[j]? = some (vs[j]'(by omega)):=AAN _
   have a4:xs[j]? = some (xs[j]'(by omega)):=AAN _
   have b1:(bs.zip ((kA.toList.zip vs).zip xs))[j]? = some (bs[j],((kA.toList[j]'(by omega),vs[j]'(by omega)),xs[j]'(by omega))) :=
    List.getElem?_zip_eq_some.mpr ⟨a1,List.getElem?_zip_eq_some.mpr ⟨List.getElem?_zip_eq_some.mpr ⟨a2,a3⟩,a4⟩⟩
   have b2:(bs.zip xs)[j]? = some (bs[j],xs[j]'(by omega)):=List.getElem?_zip_eq_some.mpr ⟨a1,a4⟩
   rw [b1,b2]; rfl
  ·rw [List.getElem?_eq_none (by simp; omega),List.getElem?_eq_none (by simp; omega)]; rfl
 refine ⟨Y.map fun y=>(emb y.1,y.2),⟨fun z hz=>?_,?_⟩,?_,fun rev=>?_⟩
 ·obtain ⟨y,hy,rfl⟩:=AAP.mp hz
  obtain ⟨j,h1,h2,_⟩:=mem y hy
  exact hkey j _ _ h2 h1
 ·rw [AAE]
  have:Y.map ((fun z:κ.α×(Keyed×PyData)=>z.2.1.2)∘fun y=>(emb y.1,y.2))=(Y.map fun y=>y.2.1).map (·.2):=by rw [AAE]; rfl
  rw [this,e1,List.map_snd_zip (by omega)]
  exact Mb r nd
 ·rw [AAE]
  show _=(Y.map fun y=>y.2.1).toArray
  rw [e1]
  apply Array.toList_inj.mp
  simp
 ·have m1:∀ L:List (β×(Keyed×PyData)),AC κ.blt (L.map fun y=>(emb y.1,y.2))=(AC lt L).map fun y=>(emb y.1,y.2):=fun L=>Fk _ (fun p q=>hlt _ _) L
  have m2:∀ L:List (β×(Keyed×PyData)),AC lt (L.map fun y=>(y.1,y.2.2))=(AC lt L).map fun y=>(y.1,y.2.2):=fun L=>Fk (lt:=lt) (lt':=lt) (fun y:β×(Keyed×PyData)=>(y.1,y.2.2)) (fun p q=>rfl) L
  have good:∀ L:List (β×(Keyed×PyData)),(∀ y∈L,y∈Y)->RepDs fz (L.map fun y=>y.2.2) (L.map fun y=>y.2.1.2):=fun L hL=>Nu fun y hy=>by
   obtain ⟨j,_,_,h3,h4⟩:=mem y (hL y hy)
   exact r.at_ h4 h3
  cases rev with
  | false =>
   show RepDs fz ((AC lt (bs.zip xs)).map (·.2)) ((AC κ.blt (Y.map fun y=>(emb y.1,y.2))).map (·.2.1.2))
   rw [<-e2,m1,m2,AAE,AAE]
   exact good _ fun y hy=>(Bj _).mem_iff.mp hy
  | true =>
   show RepDs fz ((AC lt (bs.zip xs).reverse).reverse.map (·.2)) ((AC κ.blt (Y.map fun y=>(emb y.1,y.2)).reverse).reverse.map (·.2.1.2))
   rw [<-e2,<-List.map_reverse,<-List.map_reverse,m1,m2,<-List.map_reverse,<-List.map_reverse,AAE,AAE]
   exact good _ fun y hy=>List.mem_reverse.mp ((Bj _).mem_iff.mp (List.mem_reverse.mp hy))
end Mine
namespace Mine
open PySem PySem.Calls PyProof.Rows
structure TV where
 β:Type
 κ:KeyKind
 one:κ.OneLt
 emb:β->κ.α
 lt:β->β->Bool
 hlt:∀ x y,κ.blt (emb x) (emb y)=lt x y
 kv:β->V
 key:∀ {T:Top} {g:G} {y:β} {X:Value},As T g (kv y) X->κ.keyOf X=some (emb y)
 kind:∀ {T:Top} {g:G} {bs:List β} {kA:Array Value},Au T g (bs.map kv) kA.toList->2<=kA.size->keyKind' kA=pure oneType'
section
variable {n i:Nat} {c:Cx} {ρ:Ah} {g g₀ g':G} {σ σ₁:Aa} {s s':Shared} {q nm:Str} {ap lp:Pos} {b:Expr} {sc:Scope} {f D kS:Addr} {key a:E} {K:TV} {bs:List K.β} {xs:List PyData} {vs:List Value} {e1:Nat} {rev:Bool} {P:PySem.Fin->Shared->Prop} {Er:Value->Shared->Prop}
theorem OA {h':Heap} {m:Nat} {ys:List Value} {ws:List V} (hn:∀ b,b∈[D,kS]->g₀.hid b=none) (le:G.le [D,kS] g₀ g) (H:Has c.T g σ s) (hD:g.hid D≠none) (hK:g.hid kS≠none) (hb:VP D kS s.heap h') (ho:h'.get? D=some (seqObj "list" ys.toArray m)) (hr:Au c.T g ws ys) (hl:ws.length<=line):B4 c.toAr g₀ σ ws (.ref D) { s with heap:=h' }:=by
 have hi:∀ c,c∈[D,kS]->g.hid c≠none:=all_cons hD (AF hK)
 obtain ⟨hd,H',le',_⟩:=H.back (its:=[D,kS]) (own:=[]) (s':={ s with heap:=h' }) (AAV _▸le) hn (fun b o hb' e=>hb b o (fun q=>hb' (q▸.head _)) (fun q=>hb' (q▸.tail _ (.head _))) e) (H.away hi)
 have F:=H.away hi D (.head _)
 exact fun R_ k=>k _ D ys.toArray m le' H' ⟨F.1,(le'.hid D AA1).trans (hn D (.head _)),F.2.1,F.2.2⟩ ho (by rw [List.toList_toArray]; exact Au.eta hr) hl
theorem OB (hk:Aw (fun w b=>SE n key (ρ.set i (some w)) σ (K.kv b) σ) (xs.map .d) bs) (nd:xs.Nodup) (h64:xs.length < 64) (L:ET c.K i nm sc) (hb:IsE key (c.K.lsub nm sc) b) (f0:BJ g₀ c.fe) (x0:Loc c ρ g₀) (hn:∀ b,b∈[D,kS]->g₀.hid b=none) (le:G.le [D,kS] g₀ g) (I:Inv (n+1) c ρ g σ s) (lm:IR g c.env q nm ap b sc f) (r:Au c.T g (xs.map .d) vs) (hD:g.hid D=some (seqObj "list" #[] e1)) (hS:g.hid kS=some (seqObj "list" #[] 0)) (hDk:kS≠D)
 (h:∀ s',B4 c.toAr g₀ σ ((CP rev K.lt (bs.zip xs)).map .d) (.ref D) s'->P (.done (.ret .none)) s') :
 wpAny (model c.T.prog c.T.w) c.A.in1.in1 (ksk_rest D (.ref f) rev vs.toArray e1 (.ref kS)) P Er s:=by
 have hlb:xs.length=bs.length:=(AAB _).symm.trans hk.length
 have hlv:xs.length=vs.length:=(AAB _).symm.trans r.length
 have mD:D∈[D,kS]:=.head _
 have mK:kS∈[D,kS]:=.tail _ (.head _)
 unfold ksk_rest
 refine AAD (wpAny_rule ?_)
 rw [List.forIn_toArray]
 refine AAD (ksk_fold (fun j s'=>∀ R_:Prop,(∀ g' kA e,G.le [D,kS] g g'->Inv (n+1) c ρ g' σ s'->g'.hid D=some (seqObj "list" #[] e1)->g'.hid kS=some (seqObj "list" kA e)->Au c.T g' ((bs.take j).map K.kv) kA.toList->R_)->R_) vs 0 s (fun R_ k=>k g #[] 0 (.refl _ _) I hD hS trivial) ?step ?done)
 case step =>
  intro j x s' hx hz
  rw [Nat.zero_add] at hz ⊢
  refine hz _ fun g' kA e le' I' hD' hS' rk=>?_
  have hj:j < bs.length:=hlb▸hlv▸(AAM.mp hx).1
  have hw:(xs.map V.d)[j]? = some (.d (xs[j]'(hlb▸hj))):=by rw [ABI,AAN]; rfl
  obtain ⟨y,hy,hse⟩:=hk.get hw
  obtain ⟨x',hx',rx⟩:=r.get hw
  obtain rfl:=Av hx hx'
  have t:=QB hse L hb I' (lm.mono le'.toup) (As.mono le'.toup _ _ rx)
  refine AAD (wpAny_attempt (AAO t (fun k s'' p=>p _ fun g'' le'' H'' rk'=>?_) fun _ _ hf=>hf.elim))
  dsimp only
  have hS'':=(le''.hid kS AA1).trans hS'
  have nk:=(H''.hd _ _ hS'').ex (AZ rfl (by decide))
  obtain ⟨c2,hc2⟩:=OL nk k
  have hsz:kA.size=j:=by rw [<-ABA,<-rk.length,AAB,List.length_take]; exact Nat.min_eq_left (Nat.le_of_lt hj)
  have hjl:j+1<=sizeLine:=by rw [<-AR]; exact AAC (Nat.le_of_lt (AAS hj (hlb▸h64))) (by decide)
  refine AAD (listUpdate_at nk rfl ?_ (by rw [hsz]; exact Nat.le_of_succ_le hjl) (AAC (Nat.le_of_eq (Array.size_push ..)) (by rw [hsz]; exact AB4 hjl)))
  have sb:=Heap.SameBut.update s''.heap kS (Obj.mapSeq (·.push k))
  have le3:G.le [D,kS] g'' (g''.hide kS (seqObj "list" (kA.push k) c2)):=.hide mK
  have I3:=(I'.step le'' H'').far f0 x0 hn le3 (H''.rehide (s':={ s'' with heap:=s''.heap.update kS (Obj.mapSeq (·.push k)) }) hS'' (fun b x q e=>(sb.2 b q).trans e) hc2)
  refine AAY ⟨rfl,fun R_ kk=>kk _ (kA.push k) c2 (le'.trans (le''.toO.trans le3)) I3 ((G.hide_ne hDk.symm).trans ((le''.hid D AA1).trans hD')) G.hide_self ?_⟩
  rw [Array.toList_push,List.take_add_one,hy,AAQ]
  exact (Au.mono (le''.toup.trans le3.toup) rk).append ⟨As.mono le3.toup _ _ rk',trivial⟩
 case done =>
  intro s' hz
  rw [Nat.zero_add,<-hlv,hlb,List.take_length] at hz
  refine hz _ fun g' kA e le' I' hD' hS' rk=>?_
  have hsz:kA.size=bs.length:=by rw [<-ABA,<-rk.length,AAB]
  have rx:RepDs g'.fz xs vs:=Au.toD (Au.mono le'.toup r)
  obtain ⟨Z,hz,hzk,hout⟩:=Mj K.emb K.lt K.hlt (bs:=bs) (kA:=kA) (fun j x y hx hy=>by
   obtain ⟨x',hx',rx⟩:=rk.get (k:=j) (a:=K.kv y) (by rw [ABI,hy]; rfl)
   obtain rfl:=Av hx hx'
   exact K.key rx) hsz (hlb.symm.trans hlv) rx nd
  refine AAD (listItems_at ((I'.has.hd _ _ hS').ex (AZ rfl (by decide))) rfl ?_)
  refine PB K.one hz hzk (hsz.trans (hlb.symm.trans hlv)) (K.kind rk) (hlv▸h64) ((I'.has.hd _ _ hS').ex (AZ rfl (by decide))) ((I'.has.hd _ _ hD').ex (AZ rfl (by decide))) hDk fun h' m hb2 ho2=>h _ ?_
  refine OA hn (le.trans le') I'.has (AG hD') (AG hS') hb2 ho2 (Au.ofD (hout rev)) ?_
  have hp:=(hout rev).length
  rw [AAB,hp,AAB,(Qb rev Z).length_eq,<-AAB (f:=(·.2.1)),<-List.size_toArray,<-hzk,Array.size_zip,hsz,List.size_toArray,<-hlv,hlb,Nat.min_self]
  exact AAC (Nat.le_of_lt (hlb▸h64)) (by decide)
end
end Mine
namespace Mine
open PySem PySem.Calls PyProof.Rows
section
variable {n i:Nat} {c:Cx} {ρ:Ah} {g g₀ g':G} {σ σ₁:Aa} {s s':Shared} {q nm:Str} {ap lp:Pos} {b:Expr} {sc:Scope} {f D kS:Addr} {key a:E} {K:TV} {bs:List K.β} {xs:List PyData} {vs:List Value} {e1:Nat} {rev:Bool} {x:V} {X:Value} {kw:List (Str×Value)}
theorem Jj (hk:Aw (fun w b=>SE n key (ρ.set i (some w)) σ (K.kv b) σ) (xs.map .d) bs) (nd:xs.Nodup) (h64:xs.length < 64) (L:ET c.K i nm sc) (hb:IsE key (c.K.lsub nm sc) b) (I:Inv (n+1) c ρ g σ s) (lm:IR g c.env q nm ap b sc f) (hx:A2 σ x=some (xs.map .d)) (r:As c.T g x X)
 (ha1:∀ l,argsOk "sorted" ⟨[.ref l],kw⟩) (ha2:∀ x,argsOk "list.sort" ⟨[.ref x],kw⟩) (ht:∀ x,Builtin.«list.sort» ⟨[.ref x],kw⟩=ksk_tree x (.ref f) rev):c.wp (call (.builtin "sorted") [X] kw) (B4 c.toAr g σ ((CP rev K.lt (bs.zip xs)).map .d)) s:=by
 refine AQ I.has r hx (R_:=fun X=>c.wp (call (.builtin "sorted") [X] kw) (B4 c.toAr g σ ((CP rev K.lt (bs.zip xs)).map .d)) s) fun l ys hL rws _ hyl=>?_
 have hL':s.heap.IsList l ys.toList.toArray:=by rw [Array.toArray_toList]; exact hL
 have hvl:ys.toList.length<=sizeLine:=by rw [ABA,<-AR]; exact hyl
 generalize ys.toList=vs at rws hL' hvl
 refine call_function_entry_kw kind_sorted plain_sorted entry_sorted (ha1 _) ?_
 unfold Builtin.«sorted»
 refine AAD (m:=checkCount "sorted" 1 1 _) (AAY ?_)
 refine AAD (collect_list hL' ?_ hvl)
 refine AAD (wpAny_newList ?_ hvl)
 obtain ⟨h1,hh1⟩:∃ h1,h1=(s.heap.push (seqObj "list" #[] 0)).update s.heap.objs.size (Obj.mapSeq (· ++ vs.toArray)):=⟨_,rfl⟩
 have z1:h1.objs.size=s.heap.objs.size+1:=by rw [hh1,Heap.size_update]; exact Heap.size_push ..
 have k1:∀ b o,s.heap.get? b=some o->h1.get? b=some o:=fun b o e=>by
  rw [hh1,Heap.get?_update_ne _ _ _ _ (Nat.ne_of_lt (Heap.lt_size e))]
  exact AAK _ e
 show wpAny _ _ _ _ _ { s with heap:=((s.heap.push (seqObj "list" #[] 0)).update s.heap.objs.size (Obj.mapSeq (· ++ vs.toArray))).push (seqObj "list" vs.toArray 0) }
 rw [<-hh1]
 have hoD:(h1.push (seqObj "list" vs.toArray 0)).get? h1.objs.size=some (seqObj "list" vs.toArray 0):=AA3 _ rfl
 have z2:(h1.push (seqObj "list" vs.toArray 0)).objs.size=s.heap.objs.size+2:=by rw [Heap.size_push,z1]
 refine AAD (AA8 (wpAny_call_entry_kw (s:={ s with heap:=h1.push (seqObj "list" vs.toArray 0) }) slot_list_sort ⟨_,hoD,rfl⟩ entry_list_sort ?body (ha2 _)))
 show wpAny (model c.T.prog c.T.w) c.A.in1.in1 (Builtin.«list.sort» ⟨[.ref h1.objs.size],kw⟩) _ _ _
 rw [ht h1.objs.size]
 generalize hDe:h1.objs.size=D at hoD z1 ⊢
 generalize hh2:h1.push (seqObj "list" vs.toArray 0)=h2 at hoD z2 ⊢
 have k2:∀ b o,s.heap.get? b=some o->h2.get? b=some o:=fun b o e=>by rw [<-hh2]; exact AAK _ (k1 b o e)
 have hD0:s.heap.get? D=none:=ABO (by rw [z1]; exact Nat.le_succ _)
 have s3:=Heap.SameBut.update h2 D (Obj.mapSeq fun _=>(#[]:Array Value))
 obtain ⟨e1,ho3⟩:=K8 hoD #[]
 unfold ksk_tree
 refine AAD (listItems_at hoD rfl ?_)
 refine AAD (listUpdate_at hoD rfl ?_ (by rw [List.size_toArray]; exact hvl) (ABF _))
 refine AAD (seqEpoch_at ho3 rfl ?_)
 refine AAD (wpAny_newTuple ?_ hvl)
 refine AAD (wpAny_newList ?_ (ABF _))
 refine AA8 ?_
 obtain ⟨h3,hh3⟩:∃ h3,h3=h2.update D (Obj.mapSeq fun _=>(#[]:Array Value)):=⟨_,rfl⟩
 have z3:h3.objs.size=s.heap.objs.size+2:=by rw [hh3,Heap.size_update,z2]
 rw [<-hh3] at ho3 s3
 have k3:∀ b o,s.heap.get? b=some o->h3.get? b=some o:=fun b o e=>(s3.2 b fun q=>Am hD0 (q▸e)).trans (k2 b o e)
 show wpAny _ _ (ksk_rest D (.ref f) rev vs.toArray e1 (.ref ((h2.update D (Obj.mapSeq fun _=>(#[]:Array Value))).push (seqObj "tuple" vs.toArray 0)).objs.size)) _ _ { s with heap:=((h2.update D (Obj.mapSeq fun _=>(#[]:Array Value))).push (seqObj "tuple" vs.toArray 0)).push (seqObj "list" #[] 0) }
 rw [<-hh3]
 have z4:(h3.push (seqObj "tuple" vs.toArray 0)).objs.size=s.heap.objs.size+3:=by rw [Heap.size_push,z3]
 generalize hh4:h3.push (seqObj "tuple" vs.toArray 0)=h4 at z4 ⊢
 have k4:∀ b o,h3.get? b=some o->(h4.push (seqObj "list" #[] 0)).get? b=some o:=fun b o e=>by rw [<-hh4]; exact AAK _ (AAK _ e)
 have hk0:s.heap.get? h4.objs.size=none:=ABO (by rw [z4]; exact AA9 _ _)
 have hDk:h4.objs.size≠D:=by rw [z4,z1]; exact Nat.ne_of_gt (Nat.add_lt_add_left (by decide) _)
 have hoS:(h4.push (seqObj "list" #[] 0)).get? h4.objs.size=some (seqObj "list" #[] 0):=AA3 _ rfl
 generalize h4.objs.size=kS at hk0 hDk hoS ⊢
 have hoD4:=k4 D _ ho3
 have FD:=I.has.free hD0
 have FK:=I.has.free hk0
 have H0:=I.has.keep (s':={ s with heap:=h4.push (seqObj "list" #[] 0) }) fun b o e=>k4 b o (k3 b o e)
 have H1:=FD.hide H0 hoD4
 have H2:=Dl.hide (g:=g.hide D (seqObj "list" #[] e1)) ⟨FK.fz,(G.hide_ne hDk).trans FK.hid,FK.mu,FK.tab⟩ H1 hoS
 have hn:∀ b,b∈[D,kS]->g.hid b=none:=all_cons FD.hid (AF FK.hid)
 have le:G.le [D,kS] g ((g.hide D (seqObj "list" #[] e1)).hide kS (seqObj "list" #[] 0)):=G.le.trans (g':=g.hide D (seqObj "list" #[] e1)) (.hide (.head _)) (.hide (.tail _ (.head _)))
 exact OB hk nd h64 L hb I.frs I.loc hn le (I.far I.frs I.loc hn le H2) (lm.mono le.toup) (Au.mono le.toup rws) ((G.hide_ne hDk.symm).trans G.hide_self) G.hide_self hDk fun s' h=>⟨_,rfl,AAY ⟨_,rfl,h⟩⟩
theorem QA {t:Option (Addr×Str)} (h:t.isSome=true):∃ a q,t=some (a,q):=by
 cases t with
 | none=>exact ff_ h
 | some p=>exact ⟨p.1,p.2,rfl⟩
theorem SL.sortk (ha:SE (n+1) a ρ σ x σ₁) (hx:A2 σ₁ x=some (xs.map .d)) (nd:xs.Nodup) (h64:xs.length < 64) (hk:Aw (fun w b=>SE n key (ρ.set i (some w)) σ₁ (K.kv b) σ₁) (xs.map .d) bs):SL (n+1) (.sortk rev a i key) ρ σ ((CP rev K.lt (bs.zip xs)).map .d) σ₁:=fun c g s ex hc I =>
 hc (fun ex=>c.wp (eval ex c.env) (B4 c.toAr g σ₁ ((CP rev K.lt (bs.zip xs)).map .d)) s) fun nm np z pm ap b sc lp kp k cp kp' p h1 h2 h3=>by
 refine AAD (Cn I h1 fun f hf=>?_)
 obtain rfl:f=.builtin "sorted" := hf
 have st:=(BK a h2).star c.env []
 have L:=(Lf h3.1).2
 obtain ⟨t,q,hl⟩:=QA (Lf h3.1).1
 cases rev with
 | false =>
  refine PyProof.Rows.callWith_kw (e:=z) (rest:=[]) ?_ (by rw [st]; rfl) (by rw [st]; rfl)
  rw [st]
  refine spliced_cons (AAO (ha c g s z h2 I) (fun X s₁ p1=>p1 _ fun g₁ le1 a₁ r1=>spliced_nil ?_) fun _ _ h=>h)
  have I1:=I.step le1 a₁
  refine PyProof.Rows.kws_cons (AAO (Lc L hl I1) (fun Z s2 p2=>p2 _ fun g2 le2 a₂ r2=>?_) fun _ _ h=>h)
  obtain ⟨f,rfl,lm⟩:=r2
  refine PyProof.Rows.kws_nil (AAO (Jj hk nd h64 L h3.2 (I1.step le2 a₂) lm hx (As.mono le2.toup _ _ r1) (fun l=>ksk_s1 _ _) (fun x=>ksk_l1 _ _) (fun x=>ksk_t1 _ _)) (fun _ _ p=>p.after (le1.trans le2)) fun _ _ h=>h)
 | true =>
  refine PyProof.Rows.callWith_kw (e:=z) (rest:=[]) ?_ (by rw [st]; rfl) (by rw [st]; rfl)
  rw [st]
  refine spliced_cons (AAO (ha c g s z h2 I) (fun X s₁ p1=>p1 _ fun g₁ le1 a₁ r1=>spliced_nil ?_) fun _ _ h=>h)
  have I1:=I.step le1 a₁
  refine PyProof.Rows.kws_cons (AAO (Lc L hl I1) (fun Z s2 p2=>p2 _ fun g2 le2 a₂ r2=>?_) fun _ _ h=>h)
  obtain ⟨f,rfl,lm⟩:=r2
  refine PyProof.Rows.kws_cons (wpAny_Constant_bool (PyProof.Rows.kws_nil (AAO (Jj hk nd h64 L h3.2 (I1.step le2 a₂) lm hx (As.mono le2.toup _ _ r1) (fun l=>ksk_s2 _ _ _) (fun x=>ksk_l2 _ _ _) (fun x=>ksk_t2 _ _ _)) (fun _ _ p=>p.after (le1.trans le2)) fun _ _ h=>h)))
noncomputable def OV:TV:=⟨Int,Ka,JZ,id,fun a b=>decide (a < b),fun _ _=>rfl,vi,fun {T g y X} r=>by obtain ⟨t,rfl⟩:=r; rfl,fun {T g bs kA} r h2=>ksk_kind (kz:=bs) (by
 generalize kA.toList=l at r
 induction bs generalizing l with
 | nil=>rw [r.nil]; exact .nil
 | cons b bs ih=>obtain ⟨X,l,rfl,⟨t,rfl⟩,r'⟩:=Aw.cons r; exact .cons b t (ih l r')) h2⟩
theorem KB {T:Top} {g:G}:∀ {bs:List Str} {l:List Value},Au T g (vss bs) l->StrsAre l bs
 | [],l,r=>by rw [r.nil]; exact .nil
 | b::bs,l,r=>by obtain ⟨X,l,rfl,⟨t,rfl,_⟩,r'⟩:=Aw.cons r; exact .cons b t (KB r')
noncomputable def Xu:TV:=⟨Str,PyProof.Rows.strKind,strKind_oneLt,fun x=>x.cps.toList,Bh,fun _ _=>rfl,fun x=>.d (.str x),fun {T g y X} r=>by obtain ⟨t,rfl,_⟩:=r; rfl,fun {T g bs kA} r h2=>by
 have q1:=KB r
 obtain ⟨v1,v2,rest,ev⟩:∃ v1 v2 rest,kA.toList=v1::v2::rest:=by
  rw [<-ABA] at h2
  generalize kA.toList=l at h2
  rcases l with _ | ⟨v1,_ | ⟨v2,rest⟩⟩
  ·exact absurd h2 (by decide)
  ·exact absurd h2 (Nat.not_succ_le_self 1)
  ·exact ⟨v1,v2,rest,rfl⟩
 have ek:kA=(v1::v2::rest).toArray:=by rw [<-ev,Array.toArray_toList]
 rw [ev] at q1
 rw [ek]
 exact keyKind_strs q1⟩
end
end Mine
namespace Mine
open PySem PySem.Calls PyProof.Rows
theorem JL {vs:List Value} {ss:List Str} (hS:StrsAre vs ss):StrsAre vs.reverse ss.reverse:=by
 have h1:=strsAre_map vs.reverse (fun v hv=>hS.all v (List.mem_reverse.mp hv))
 rwa [List.map_reverse,hS.strs] at h1
section
variable {prog:Program} {w:World} {A:Around} {E:Value->Shared->Prop} {s:Shared}
theorem U4 {vs:List Value} (h:¬vs.toArray.size < 2):∃ v1 v2 rest,vs=v1::v2::rest:=by
 rcases vs with _ | ⟨v1,_ | ⟨v2,rest⟩⟩
 ·exact absurd (Nat.zero_lt_succ _) h
 ·exact absurd (Nat.lt_succ_self _) h
 ·exact ⟨v1,v2,rest,rfl⟩
theorem Ia {a:Addr} {vs:List Value} {ss:List Str} {n:Nat} {P:PySem.Fin->Shared->Prop} (ho:s.heap.get? a=some (seqObj "list" vs.toArray n)) (hS:StrsAre vs ss) (h64:vs.length < 64)
 (h:∀ (out:Array Value) (ss':List Str),StrsAre out.toList ss'->ss'.Perm ss->sortedS ss'.reverse=true->P (.done (.ret .none)) { s with heap:=sortedHeap s.heap a vs out }) :
 wpAny (model prog w) A (Builtin.«list.sort» ⟨[.ref a],[(ACB "reverse",.bool true)]⟩) P E s:=by
 rw [list_sort_rev]
 have ha:a < s.heap.objs.size:=Heap.lt_size ho
 refine AAD (listItems_at ho rfl ?_)
 refine AAD (listUpdate_at ho rfl ?_)
 obtain ⟨e1,ho1⟩:∃ e1,(s.heap.update a (Obj.mapSeq fun _=>#[])).get? a=some (seqObj "list" #[] e1):=⟨_,get?_update_seq ho (fun _=>#[])⟩
 refine AAD (seqEpoch_at ho1 rfl ?_)
 refine AAD (wpAny_newTuple ?_)
 refine AAD (wpAny_newList ?_)
 refine AA8 ?_
 have ho6:(((s.heap.update a (Obj.mapSeq fun _=>#[])).push (seqObj "tuple" vs.toArray 0)).push (seqObj "list" #[] 0)).get? a=some (seqObj "list" #[] e1):=by
  rw [Heap.get?_push_ne _ _ _ (by rw [size_push',Heap.size_update]; exact Nat.ne_of_lt (Nat.lt_succ_of_lt ha)),Heap.get?_push_ne _ _ _ (by rw [Heap.size_update]; exact Nat.ne_of_lt ha)]
  exact ho1
 show wpAny (model prog w) A _ P E { s with heap:=((s.heap.update a (Obj.mapSeq fun _=>#[])).push (seqObj "tuple" vs.toArray 0)).push (seqObj "list" #[] 0) }
 have hsz:vs.toArray.size=vs.length:=List.size_toArray ..
 have fin:∀ st':SortSt,(arrOf st').Perm (pairsOf vs)->SortedToK PyProof.Rows.strKind (arrOf st') (pairsOf vs).size->P (.done (.ret .none)) { s with heap:=sortedHeap s.heap a vs ((arrOf st').map (·.2)).reverse }:=by
  intro st' hp hs
  obtain ⟨ss',h1,h2,h3⟩:=sorted_out_str hS hp hs
  exact h _ ss'.reverse (by rw [Array.toList_reverse]; exact JL h1) ((List.reverse_perm _).trans h2) (by rw [List.reverse_reverse]; exact h3)
 have hstart:(vs.toArray.zip vs.toArray).reverse.Perm (pairsOf vs):=Array.perm_iff_toList_perm.mpr (by rw [Array.toList_reverse]; exact List.reverse_perm _)
 dsimp only
 rw [if_pos rfl]
 refine AAD (wpAny_rule ?_)
 rw [if_pos rfl]
 by_cases h2:vs.toArray.size < 2
 ·rw [if_pos h2,if_pos h2]
  refine AAD (AAY ?_)
  rw [StateT.run_pure]
  refine AAD (AAY ?_)
  dsimp only
  refine AAD (seqEpoch_at ho6 rfl ?_)
  rw [if_pos rfl]
  refine AAD (listUpdate_at ho6 rfl ?_ (hsz2:=by
   rw [Array.size_reverse,Array.size_map]; show (vs.toArray.zip vs.toArray).reverse.size<=_; rw [Array.size_reverse,Array.size_zip,sizeLine_eq]; omega))
  simp only [bne_self_eq_false,Bool.false_eq_true,↓reduceIte]
  refine AAY (fin (SortSt.mk' general' (vs.toArray.zip vs.toArray).reverse #[] 7 none) hstart ?_)
  intro i j hij hj
  have:i=j:=by rw [pairsOf_size] at hj; omega
  subst this; exact KeyOrd.kle_refl _
 ·rw [if_neg h2,if_neg h2]
  obtain ⟨v1,v2,rest,rfl⟩:=U4 h2
  rw [keyKind_strs hS]
  refine AAD (AAY ?_)
  refine AAD (AAO (wpS_sortRunsK (κ:=PyProof.Rows.strKind) strKind_oneLt (a₀:=pairsOf (v1::v2::rest))
   (st:=SortSt.mk' oneType' ((v1::v2::rest).toArray.zip (v1::v2::rest).toArray).reverse #[] 7 none)
   (Q:=fun _ st'=>(arrOf st').Perm (pairsOf (v1::v2::rest))/\failedOf st'=none/\SortedToK PyProof.Rows.strKind (arrOf st') (pairsOf (v1::v2::rest)).size)
   hS.keysOf ⟨hstart,rfl,rfl,rfl⟩ (by rw [pairsOf_size]; exact Nat.le_add_left _ _) (by rw [pairsOf_size]; exact h64) fun st' a1 a2 a3=>⟨a1,a2,a3⟩) ?_ fun _ _ e=>e)
  rintro ⟨⟨⟩,st'⟩ s' ⟨rfl,hp,hf,hs⟩
  dsimp only
  refine AAD (seqEpoch_at ho6 rfl ?_)
  rw [if_pos rfl]
  refine AAD (listUpdate_at ho6 rfl ?_ (hsz2:=by
   rw [Array.size_reverse]
   refine AAC (Nat.le_of_eq ((Array.size_map ..).trans (hp.size_eq.trans (pairsOf_size _)))) ?_; rw [sizeLine_eq]; omega))
  rw [hf]
  simp only [bne_self_eq_false,Bool.false_eq_true,↓reduceIte]
  exact AAY (fin st' hp hs)
theorem Hg {l:Addr} {vs:List Value} {ss:List Str} {Q:Value->Shared->Prop} (hl:s.heap.IsList l vs.toArray) (hS:StrsAre vs ss) (h64:vs.length < 64)
 (h:∀ (out:Array Value) (ss':List Str),StrsAre out.toList ss'->ss'.Perm ss->sortedS ss'.reverse=true->Q (.ref (s.heap.objs.size+1)) { s with heap:=sortedAll s.heap vs out }) :
 wpAny (model prog w) A (call (.builtin "sorted") [.ref l] [(ACB "reverse",.bool true)]) Q E s:=by
 refine call_function_entry_kw kind_sorted plain_sorted entry_sorted (args_sorted_rev _ _) ?_
 unfold Builtin.«sorted»
 refine AAD (m:=checkCount "sorted" 1 1 _) (AAY ?_)
 refine AAD (collect_list hl ?_)
 refine AAD (wpAny_newList ?_)
 have hsz:((s.heap.push (seqObj "list" #[] 0)).update s.heap.objs.size (Obj.mapSeq (· ++ vs.toArray))).objs.size=s.heap.objs.size+1:=by
  rw [Heap.size_update,size_push']
 have hoL:(((s.heap.push (seqObj "list" #[] 0)).update s.heap.objs.size (Obj.mapSeq (· ++ vs.toArray))).push (seqObj "list" vs.toArray 0)).get? (s.heap.objs.size+1)=some (seqObj "list" vs.toArray 0):=by
  rw [<-hsz]; exact AA3 _ rfl
 show wpAny _ _ _ _ _ { s with heap:=((s.heap.push (seqObj "list" #[] 0)).update s.heap.objs.size (Obj.mapSeq (· ++ vs.toArray))).push (seqObj "list" vs.toArray 0) }
 rw [hsz]
 refine AAD (AA8 (wpAny_call_entry_kw slot_list_sort ⟨_,hoL,rfl⟩ entry_list_sort (Ia hoL hS h64 fun out ss' a1 a2 a3=>⟨_,rfl,?_⟩) (args_list_sort_rev _ _)))
 exact AAY ⟨_,rfl,h out ss' a1 a2 a3⟩
end
section
variable {n:Nat} {ρ:Ah} {σ σ₁:Aa} {a:E} {x:V} {ss ss':List Str}
theorem SL.sortr (ha:SE n a ρ σ x σ₁) (h:A2 σ₁ x=some (vss ss)) (hl:ss.length < 64) (hp:ss'.Perm ss) (hs:D6 ss'.reverse):SL n (.sortr a) ρ σ (vss ss') σ₁:=fun c g s ex hc I =>
 hc (fun ex=>c.wp (eval ex c.env) (B4 c.toAr g σ₁ (vss ss')) s) fun nm np z k cp kp p h1 h2=>by
 refine AAD (Cn I h1 fun f hf=>?_)
 obtain rfl:f=.builtin "sorted" := hf
 have st:=(BK a h2).star c.env []
 refine PyProof.Rows.callWith_kw (e:=z) (rest:=[]) ?_ (by rw [st]; rfl) (by rw [st]; rfl)
 rw [st]
 refine spliced_cons (AAO (ha c g s z h2 I) (fun X s₁ p1=>p1 _ fun g₁ le1 a₁ r1=>spliced_nil ?_) fun _ _ h=>h)
 refine PyProof.Rows.kws_cons (wpAny_Constant_bool (PyProof.Rows.kws_nil ?_))
 refine AQ a₁ r1 h (R_:=fun X=>c.wp (call (.builtin "sorted") [X] [(ACB "reverse",.bool true)]) (B4 c.toAr g σ₁ (vss ss')) s₁) fun a ys hL hr hn _=>?_
 obtain ⟨h1,h2⟩:=HC hr
 have hlen:ys.toList.length < 64:=by rw [<-hr.length,AAB]; exact hl
 refine Hg (vs:=ys.toList) hL h1 hlen fun out out' a1 a2 a3=>?_
 have e:out'.reverse=ss'.reverse:=EY (Dt a3) hs ((List.reverse_perm _).trans (a2.trans (hp.symm.trans (List.reverse_perm _).symm)))
 obtain rfl:out'=ss':=by rw [<-List.reverse_reverse out',e,List.reverse_reverse]
 obtain ⟨k,hk⟩:=PyProof.Rows.sortedAll_at s₁.heap ys.toList out
 exact B4.after le1 (.made a₁ (fun b o e=>PyProof.Rows.sortedAll_old e) (ABO (Nat.le_succ _)) hk (KL a1 fun z hz=>h2 z (a2.mem_iff.mp hz)) (by rw [AAB,hp.length_eq]; exact AAC (Nat.le_of_lt hl) (by decide)))
end
end Mine
namespace Mine
open PySem
noncomputable def noE:Expr:=.Name ("" : Str) ⟨0,0,0,0⟩
noncomputable def noS:Stmt:=.Pass ⟨0,0,0,0⟩
noncomputable def X6 (x:Expr):List Expr :=
 match x with
 | .BinOp l _ r _=>[l,r]
 | .UnaryOp _ y _=>[y]
 | .BoolOp _ vs _=>vs
 | .Compare l _ rs _=>l::rs
 | .Tuple vs _ _=>vs
 | .List vs _=>vs
 | .Subscript v y _=>[v,y]
 | .Call f vs _ _=>f::vs
 | .Attribute y _ _=>[y]
 | .ListComp y gs _ _=>(match gs with | [g]=>y::g.target::g.iter::g.ifs | _=>[])
 | _=>[]
noncomputable def kE (x:Expr) (i:Nat):Expr:=(X6 x)[i]?.getD noE
noncomputable def nmE (x:Expr):Str:=match x with | .Name n _=>n | _=>("" : Str)
noncomputable def Jd (x:Expr):Nat:=match x with | .Constant _ k _=>k | .Tuple _ k _=>k | _=>0
noncomputable def S3 (x:Expr):Option Expr×Option Expr:=match x with | .Slice l u _ _=>(l,u) | _=>(none,none)
noncomputable def kwE (x:Expr) (i:Nat):Keyword:=match x with | .Call _ _ ks _=>ks[i]?.getD ⟨none,noE,noE.pos⟩ | _=>⟨none,noE,noE.pos⟩
noncomputable def Vd (x:Expr):Arguments×Expr×Scope:=match x with | .Lambda as b sc _=>(as,b,sc) | _=>(⟨[],[],none,[],[],none,[]⟩,noE,default)
noncomputable def XA (as:Arguments):Arg:=as.args[0]?.getD ⟨("" : Str),none,noE.pos⟩
noncomputable def scE (x:Expr):Scope:=match x with | .ListComp _ _ sc _=>sc | _=>default
noncomputable def Do (x:Expr):Expr:=.Name (nmE x) x.pos
noncomputable def kwA (x:Expr):Arg:=XA (Vd (kwE x 0).value).1
noncomputable def kwB (x:Expr):Expr:=(Vd (kwE x 0).value).2.1
noncomputable def kwS (x:Expr):Scope:=(Vd (kwE x 0).value).2.2
noncomputable def Pn (x:Expr):List Nat->Nat->List Expr
 | [],_=>[]
 | _::r,k=>Do (kE x k)::Pn x r (k+1)
noncomputable def emT (ts:List Nat) (x:Expr):Expr :=
 match ts with
 | [_]=>Do x
 | ts=>.Tuple (Pn x ts 0) (Jd x) x.pos
noncomputable def em:E->(Expr->Expr)×(Expr->Nat->List Expr)
 | .cst d=>(fun x=>.Constant (toC d) (Jd x) x.pos,fun _ _=>[])
 | .var _=>(Do,fun _ _=>[])
 | .ty _=>(Do,fun _ _=>[])
 | .glb _=>(Do,fun _ _=>[])
 | .bin op a b=>(fun x=>.BinOp ((em a).1 (kE x 0)) op ((em b).1 (kE x 1)) x.pos,fun _ _=>[])
 | .neg a=>(fun x=>.UnaryOp .USub ((em a).1 (kE x 0)) x.pos,fun _ _=>[])
 | .not a=>(fun x=>.UnaryOp .Not ((em a).1 (kE x 0)) x.pos,fun _ _=>[])
 | .bop op es=>(fun x=>.BoolOp op ((em es).2 x 0) x.pos,fun _ _=>[])
 | .cmp op a b=>(fun x=>.Compare ((em a).1 (kE x 0)) [op] [(em b).1 (kE x 1)] x.pos,fun _ _=>[])
 | .nil=>(id,fun _ _=>[])
 | .cons a r=>(id,fun x k=>(em a).1 (kE x k)::(em r).2 x (k+1))
 | .tup es=>(fun x=>.Tuple ((em es).2 x 0) (Jd x) x.pos,fun _ _=>[])
 | .lst es=>(fun x=>.List ((em es).2 x 0) x.pos,fun _ _=>[])
 | .dct=>(fun x=>.Dict [] [] x.pos,fun _ _=>[])
 | .sub a i=>(fun x=>.Subscript ((em a).1 (kE x 0)) ((em i).1 (kE x 1)) x.pos,fun _ _=>[])
 | .slc a lo hi=>(fun x=>.Subscript ((em a).1 (kE x 0)) (.Slice (if B9 lo then none else some ((em lo).1 ((S3 (kE x 1)).1.getD noE))) (if B9 hi then none else some ((em hi).1 ((S3 (kE x 1)).2.getD noE))) none (kE x 1).pos) x.pos,fun _ _=>[])
 | .bi _ es=>(fun x=>.Call (Do (kE x 0)) ((em es).2 x 1) [] x.pos,fun _ _=>[])
 | .maxd a z=>(fun x=>.Call (Do (kE x 0)) [(em a).1 (kE x 1)] [⟨some (ACB "default"),(em z).1 (kwE x 0).value,(kwE x 0).pos⟩] x.pos,fun _ _=>[])
 | .sortr a=>(fun x=>.Call (Do (kE x 0)) [(em a).1 (kE x 1)] [⟨some (ACB "reverse"),.Constant (.bool true) (Jd (kwE x 0).value) (kwE x 0).value.pos,(kwE x 0).pos⟩] x.pos,fun _ _=>[])
 | .sortk rev a _ key=>(fun x=>.Call (Do (kE x 0)) [(em a).1 (kE x 1)] (⟨some (ACB "key"),.Lambda (EN (kwA x).arg (kwA x).pos) ((em key).1 (kwB x)) (kwS x) (kwE x 0).value.pos,(kwE x 0).pos⟩ ::
  bif rev then [⟨some (ACB "reverse"),.Constant (.bool true) (Jd (kwE x 1).value) (kwE x 1).value.pos,(kwE x 1).pos⟩] else []) x.pos,fun _ _=>[])
 | .fcall _ es=>(fun x=>.Call (Do (kE x 0)) ((em es).2 x 1) [] x.pos,fun _ _=>[])
 | .meth m o es=>(fun x=>.Call (.Attribute ((em o).1 (kE (kE x 0) 0)) (Str.ofString (E1 m)) (kE x 0).pos) ((em es).2 x 1) [] x.pos,fun _ _=>[])
 | .attr nm o=>(fun x=>.Attribute ((em o).1 (kE x 0)) nm x.pos,fun _ _=>[])
 | .mcall nm o es=>(fun x=>.Call (.Attribute ((em o).1 (kE (kE x 0) 0)) nm (kE x 0).pos) ((em es).2 x 1) [] x.pos,fun _ _=>[])
 | .new=>(fun x=>.Call (Do (kE x 0)) [] [] x.pos,fun _ _=>[])
 | .comp elt ts it ifs=>(fun x=>.ListComp ((em elt).1 (kE x 0)) [⟨emT ts (kE x 1),(em it).1 (kE x 2),(em ifs).2 x 3,0⟩] (scE x) x.pos,fun _ _=>[])
 | .range es=>(fun x=>.Call (Do (kE x 0)) ((em es).2 x 1) [] x.pos,fun _ _=>[])
 | .zip a b=>(fun x=>.Call (Do (kE x 0)) [(em a).1 (kE x 1),(em b).1 (kE x 2)] [] x.pos,fun _ _=>[])
 | .enum a=>(fun x=>.Call (Do (kE x 0)) [(em a).1 (kE x 1)] [] x.pos,fun _ _=>[])
noncomputable def Qh (K:Kx) (x:Expr):List Nat->Nat->Bool
 | [],_=>true
 | i::r,k=>K.canWr i (nmE (kE x k))&&Qh K x r (k+1)
noncomputable def okT (K:Kx) (ts:List Nat) (x:Expr):Bool :=
 match ts with
 | [i]=>K.canWr i (nmE x)
 | ts=>Qh K x ts 0
noncomputable def no1 (_:Expr):Bool:=false
noncomputable def no2 (_:Expr) (_:Nat):Bool:=false
noncomputable def UR (apos pos:Pos) (n:Nat):Bool:=apos.endLine == pos.line&&Nat.blt n 20
noncomputable def ok:E->Kx->(Expr->Bool)×(Expr->Nat->Bool)
 | .cst d,_=>(fun _=>cOk d,no2)
 | .var i,K=>(fun x=>K.isVar (nmE x)&&K.isAt i (nmE x),no2)
 | .ty t,K=>(fun x=>FZ K (.ty t) (nmE x),no2)
 | .glb d,K=>(fun x=>FZ K (.cst d) (nmE x),no2)
 | .bin _ a b,K=>(fun x=>(ok a K).1 (kE x 0)&&(ok b K).1 (kE x 1),no2)
 | .neg a,K=>(fun x=>(ok a K).1 (kE x 0),no2)
 | .not a,K=>(fun x=>(ok a K).1 (kE x 0),no2)
 | .bop _ es,K=>(fun x=>(ok es K).2 x 0,no2)
 | .cmp _ a b,K=>(fun x=>(ok a K).1 (kE x 0)&&(ok b K).1 (kE x 1),no2)
 | .nil,_=>(no1,fun _ _=>true)
 | .cons a r,K=>(no1,fun x k=>(ok a K).1 (kE x k)&&(ok r K).2 x (k+1))
 | .tup es,K=>(fun x=>(ok es K).2 x 0,no2)
 | .lst es,K=>(fun x=>(ok es K).2 x 0,no2)
 | .dct,_=>(fun _=>true,no2)
 | .sub a i,K=>(fun x=>(ok a K).1 (kE x 0)&&(ok i K).1 (kE x 1),no2)
 | .slc a lo hi,K=>(fun x=>(ok a K).1 (kE x 0)&&((B9 lo||(ok lo K).1 ((S3 (kE x 1)).1.getD noE))&&(B9 hi||(ok hi K).1 ((S3 (kE x 1)).2.getD noE))),no2)
 | .bi b es,K=>(fun x=>FZ K (V7 b) (nmE (kE x 0))&&(ok es K).2 x 1,no2)
 | .maxd a z,K=>(fun x=>FZ K (.bi .max) (nmE (kE x 0))&&((ok a K).1 (kE x 1)&&(ok z K).1 (kwE x 0).value),no2)
 | .sortr a,K=>(fun x=>FZ K (.bi .sorted) (nmE (kE x 0))&&(ok a K).1 (kE x 1),no2)
 | .sortk _ a i key,K=>(fun x=>FZ K (.bi .sorted) (nmE (kE x 0))&&((ok a K).1 (kE x 1)&&(QD K i (kwA x).arg (kwS x)&&(ok key (K.lsub (kwA x).arg (kwS x))).1 (kwB x))),no2)
 | .fcall f es,K=>(fun x=>FZ K (.fn f) (nmE (kE x 0))&&(ok es K).2 x 1,no2)
 | .meth _ o es,K=>(fun x=>(ok o K).1 (kE (kE x 0) 0)&&((ok es K).2 x 1&&UR (kE x 0).pos x.pos ((em es).2 x 1).length),no2)
 | .attr _ o,K=>(fun x=>(ok o K).1 (kE x 0),no2)
 | .mcall _ o es,K=>(fun x=>(ok o K).1 (kE (kE x 0) 0)&&((ok es K).2 x 1&&UR (kE x 0).pos x.pos ((em es).2 x 1).length),no2)
 | .new,K=>(fun x=>FZ K .cls (nmE (kE x 0)),no2)
 | .comp elt ts it ifs,K=>(fun x=>(ok it K).1 (kE x 2)&&((Hp K ts (scE x)&&GN ts it)&&(okT (K.sub ts (scE x)) ts (kE x 1)&&((ok elt (K.sub ts (scE x))).1 (kE x 0)&&(ok ifs (K.sub ts (scE x))).2 x 3))),no2)
 | .range es,K=>(fun x=>FZ K (.ty "range") (nmE (kE x 0))&&(ok es K).2 x 1,no2)
 | .zip a b,K=>(fun x=>FZ K (.ty "zip") (nmE (kE x 0))&&((ok a K).1 (kE x 1)&&(ok b K).1 (kE x 2)),no2)
 | .enum a,K=>(fun x=>FZ K (.ty "enumerate") (nmE (kE x 0))&&(ok a K).1 (kE x 1),no2)
section
variable {K:Kx} {x:Expr} {k:Nat}
theorem A4 {a b:Bool} (h:(a&&b)=true):a=true:=(AAH.mp h).1
theorem Ak {a b:Bool} (h:(a&&b)=true):b=true:=(AAH.mp h).2
theorem J5 {a b:PyData} (h:GE a b=true):a=b:=by
 cases a with
 | int i=>cases b with
  | int j=>rw [ABM (show (i == j)=true from h)]
  | _=>exact ff_ h
 | str i=>cases b with
  | str j=>rw [ABM (show (i == j)=true from h)]
  | _=>exact ff_ h
 | _=>exact ff_ h
theorem Ts {v w:GV} (h:Vn v w=true):v=w:=by
 cases v with
 | fn f=>cases w with
  | fn g=>rw [ABM (show (f == g)=true from h)]
  | _=>exact ff_ h
 | bi f=>cases w with
  | bi g=>cases f <;> cases g <;> first | rfl | exact ff_ h
  | _=>exact ff_ h
 | ty f=>cases w with
  | ty g=>rw [ABM (show (f == g)=true from h)]
  | _=>exact ff_ h
 | cst f=>cases w with
  | cst g=>rw [J5 (show GE f g=true from h)]
  | _=>exact ff_ h
 | cls=>cases w with
  | cls=>rfl
  | _=>exact ff_ h
 | exc f=>cases w with
  | exc g=>rw [ABM (show (f == g)=true from h)]
  | _=>exact ff_ h
theorem BO {v:GV} {n:Str} (h:FZ K v n=true):K.to v n:=by
 refine ⟨A4 h,?_⟩
 have h:=Ak h
 cases e:K.gl n with
 | none=>rw [e] at h; exact ff_ h
 | some w=>rw [e] at h; rw [Ts (show Vn w v=true from h)]
theorem NG {i:Nat} {n:Str} (h:K.isAt i n=true):K.vars[i]? = some n:=by
 have h:(match K.vars[i]? with | some m=>m == n | none=>false)=true:=h
 cases e:K.vars[i]? with
 | none=>rw [e] at h; exact ff_ h
 | some m=>rw [e] at h; rw [ABM (show (m == n)=true from h)]
theorem FT:∀ {ts:List Nat} {k:Nat},Qh K x ts k=true->LR K ts (Pn x ts k)
 | [],_,_=>rfl
 | _::_,_,h=>fun R_ f=>f _ _ _ (A4 h) (FT (Ak h))
theorem QL {ts:List Nat} (h:okT K ts x=true):IsT K ts (emT ts x):=fun R_ h1 h2=>by
 match ts,h with
 | [],h=>exact h2 _ _ _ (fun q=>nomatch q) (FT h)
 | [i],h=>exact h1 i _ _ h
 | i::j::l,h=>exact h2 _ _ _ (fun q=>nomatch q) (FT h)
theorem Oo {a p:Pos} {n:Nat} (h:UR a p n=true):a.endLine=p.line/\n < 20:=⟨ABM (A4 h),Nat.blt_eq.mp (Ak h)⟩
theorem Qg {A:Expr->Prop} {e:E} {t:Expr} {b:Bool} (h:(B9 e||b)=true) (hb:b=true->A t):(if B9 e then Ky else Kw A) (if B9 e then none else some t):=by
 by_cases q:B9 e=true
 ·rw [if_pos q,if_pos q]; rfl
 ·rw [if_neg q,if_neg q]
  rw [Bool.not_eq_true] at q
  rw [q] at h
  exact fun R_ k=>k _ (hb h)
end
theorem AE:∀ e:E,(∀ K x,(ok e K).1 x=true->(Is e K).1 ((em e).1 x))/\(∀ K x k,(ok e K).2 x k=true->(Is e K).2 ((em e).2 x k))
 | .cst d=>⟨fun K x h R_ k=>k _ _ h,fun _ _ _ h=>ff_ h⟩
 | .var i=>⟨fun K x h R_ k=>k _ _ ⟨A4 h,NG (Ak h)⟩,fun _ _ _ h=>ff_ h⟩
 | .ty t=>⟨fun K x h R_ k=>k _ _ (BO h),fun _ _ _ h=>ff_ h⟩
 | .glb d=>⟨fun K x h R_ k=>k _ _ (BO h),fun _ _ _ h=>ff_ h⟩
 | .bin op a b=>⟨fun K x h R_ k=>k _ _ _ ((AE a).1 K _ (A4 h)) ((AE b).1 K _ (Ak h)),fun _ _ _ h=>ff_ h⟩
 | .neg a=>⟨fun K x h R_ k=>k _ _ ((AE a).1 K _ h),fun _ _ _ h=>ff_ h⟩
 | .not a=>⟨fun K x h R_ k=>k _ _ ((AE a).1 K _ h),fun _ _ _ h=>ff_ h⟩
 | .bop op es=>⟨fun K x h R_ k=>k _ _ ((AE es).2 K _ _ h),fun _ _ _ h=>ff_ h⟩
 | .cmp op a b=>⟨fun K x h R_ k=>k _ _ _ ((AE a).1 K _ (A4 h)) ((AE b).1 K _ (Ak h)),fun _ _ _ h=>ff_ h⟩
 | .nil=>⟨fun _ _ h=>ff_ h,fun _ _ _ _=>rfl⟩
 | .cons a r=>⟨fun _ _ h=>ff_ h,fun K x _ h R_ k=>k _ _ ((AE a).1 K _ (A4 h)) ((AE r).2 K _ _ (Ak h))⟩
 | .tup es=>⟨fun K x h R_ k=>k _ _ _ ((AE es).2 K _ _ h),fun _ _ _ h=>ff_ h⟩
 | .lst es=>⟨fun K x h R_ k=>k _ _ ((AE es).2 K _ _ h),fun _ _ _ h=>ff_ h⟩
 | .dct=>⟨fun K x h R_ k=>k _,fun _ _ _ h=>ff_ h⟩
 | .sub a i=>⟨fun K x h R_ k=>k _ _ _ ((AE a).1 K _ (A4 h)) ((AE i).1 K _ (Ak h)),fun _ _ _ h=>ff_ h⟩
 | .slc a lo hi=>⟨fun K x h R_ k=>k _ _ _ _ _ ((AE a).1 K _ (A4 h)) (Qg (A4 (Ak h)) ((AE lo).1 K _)) (Qg (Ak (Ak h)) ((AE hi).1 K _)),fun _ _ _ h=>ff_ h⟩
 | .bi b es=>⟨fun K x h R_ k=>k _ _ _ _ (BO (A4 h)) ((AE es).2 K _ _ (Ak h)),fun _ _ _ h=>ff_ h⟩
 | .maxd a z=>⟨fun K x h R_ k=>k _ _ _ _ _ _ (BO (A4 h)) ((AE a).1 K _ (A4 (Ak h))) ((AE z).1 K _ (Ak (Ak h))),fun _ _ _ h=>ff_ h⟩
 | .sortr a=>⟨fun K x h R_ k=>k _ _ _ _ _ _ _ (BO (A4 h)) ((AE a).1 K _ (Ak h)),fun _ _ _ h=>ff_ h⟩
 | .sortk rev a i key=>⟨fun K x h R_ k=>k _ _ _ _ _ _ _ _ _ _ _ _ _ (BO (A4 h)) ((AE a).1 K _ (A4 (Ak h))) ⟨A4 (Ak (Ak h)),(AE key).1 _ _ (Ak (Ak (Ak h)))⟩,fun _ _ _ h=>ff_ h⟩
 | .fcall f es=>⟨fun K x h R_ k=>k _ _ _ _ (BO (A4 h)) ((AE es).2 K _ _ (Ak h)),fun _ _ _ h=>ff_ h⟩
 | .meth m o es=>⟨fun K x h R_ k=>k _ _ _ _ ((AE o).1 K _ (A4 h)) ((AE es).2 K _ _ (A4 (Ak h))) (Oo (Ak (Ak h))).1 (Oo (Ak (Ak h))).2,fun _ _ _ h=>ff_ h⟩
 | .attr nm o=>⟨fun K x h R_ k=>k _ _ ((AE o).1 K _ h),fun _ _ _ h=>ff_ h⟩
 | .mcall nm o es=>⟨fun K x h R_ k=>k _ _ _ _ ((AE o).1 K _ (A4 h)) ((AE es).2 K _ _ (A4 (Ak h))) (Oo (Ak (Ak h))).1 (Oo (Ak (Ak h))).2,fun _ _ _ h=>ff_ h⟩
 | .new=>⟨fun K x h R_ k=>k _ _ _ _ (BO h) rfl,fun _ _ _ h=>ff_ h⟩
 | .comp elt ts it ifs=>⟨fun K x h R_ k=>k _ _ _ _ _ _ ((AE it).1 K _ (A4 h)) ⟨A4 (A4 (Ak h)),Ak (A4 (Ak h))⟩ (QL (A4 (Ak (Ak h)))) ((AE elt).1 _ _ (A4 (Ak (Ak (Ak h))))) ((AE ifs).2 _ _ _ (Ak (Ak (Ak (Ak h))))),fun _ _ _ h=>ff_ h⟩
 | .range es=>⟨fun K x h R_ k=>k _ _ _ _ (BO (A4 h)) ((AE es).2 K _ _ (Ak h)),fun _ _ _ h=>ff_ h⟩
 | .zip a b=>⟨fun K x h R_ k=>k _ _ _ _ (BO (A4 h)) fun R_ k=>k _ _ ((AE a).1 K _ (A4 (Ak h))) fun R_ k=>k _ _ ((AE b).1 K _ (Ak (Ak h))) rfl,fun _ _ _ h=>ff_ h⟩
 | .enum a=>⟨fun K x h R_ k=>k _ _ _ _ (BO (A4 h)) fun R_ k=>k _ _ ((AE a).1 K _ (Ak h)) rfl,fun _ _ _ h=>ff_ h⟩
end Mine
namespace Mine
open PySem
noncomputable def stE (st:Stmt):List Expr :=
 match st with
 | .Assign ts v _=>v::ts
 | .Expr v _=>[v]
 | .If t _ _ _=>[t]
 | .While t _ _ _=>[t]
 | .For t i _ _ _=>[t,i]
 | .Return v _=>(match v with | some v=>[v] | none=>[])
 | .Raise v _ _=>(match v with | some v=>[v] | none=>[])
 | .Try _ hs _ _ _=>(match hs with | h::_=>(match h with | .ExceptHandler t _ _ _=>(match t with | some t=>[t] | none=>[])) | []=>[])
 | _=>[]
noncomputable def W4 (st:Stmt):Pos:=match st with | .Try _ hs _ _ _=>(match hs with | h::_=>(match h with | .ExceptHandler _ _ _ p=>p) | []=>st.pos) | _=>st.pos
noncomputable def stB (st:Stmt):List Stmt×List Stmt :=
 match st with
 | .If _ x y _=>(x,y)
 | .For _ _ b _ _=>(b,[])
 | .While _ b _ _=>(b,[])
 | .Try b hs _ _ _=>(b,match hs with | h::_=>(match h with | .ExceptHandler _ _ b _=>b) | []=>[])
 | _=>([],[])
noncomputable def sE (st:Stmt) (i:Nat):Expr:=(stE st)[i]?.getD noE
noncomputable def emS:S->(Stmt->Stmt)×(List Stmt->List Stmt)
 | .any=>(id,id)
 | .nil=>(id,fun _=>[])
 | .cons s r=>(id,fun l=>(emS s).1 (l.headD noS)::(emS r).2 l.tail)
 | .asg _ e=>(fun st=>.Assign [Do (sE st 1)] ((em e).1 (sE st 0)) st.pos,id)
 | .unp xs e=>(fun st=>.Assign [.Tuple (Pn (sE st 1) xs 0) (Jd (sE st 1)) (sE st 1).pos] ((em e).1 (sE st 0)) st.pos,id)
 | .swp xs es=>(fun st=>.Assign [.Tuple (Pn (sE st 1) xs 0) (Jd (sE st 1)) (sE st 1).pos] (.Tuple ((em es).2 (sE st 0) 0) (Jd (sE st 0)) (sE st 0).pos) st.pos,id)
 | .set o i v=>(fun st=>.Assign [.Subscript ((em o).1 (kE (sE st 1) 0)) ((em i).1 (kE (sE st 1) 1)) (sE st 1).pos] ((em v).1 (sE st 0)) st.pos,id)
 | .exp e=>(fun st=>.Expr ((em e).1 (sE st 0)) st.pos,id)
 | .ite c a b=>(fun st=>.If ((em c).1 (sE st 0)) ((emS a).2 (stB st).1) ((emS b).2 (stB st).2) st.pos,id)
 | .for_ ts it body=>(fun st=>.For (emT ts (sE st 0)) ((em it).1 (sE st 1)) ((emS body).2 (stB st).1) [] st.pos,id)
 | .while_ c body=>(fun st=>.While ((em c).1 (sE st 0)) ((emS body).2 (stB st).1) [] st.pos,id)
 | .ret e=>(fun st=>.Return (some ((em e).1 (sE st 0))) st.pos,id)
 | .rse _ es=>(fun st=>.Raise (some (.Call (Do (kE (sE st 0) 0)) ((em es).2 (sE st 0) 1) [] (sE st 0).pos)) none st.pos,id)
 | .try_ b _ h=>(fun st=>.Try ((emS b).2 (stB st).1) [.ExceptHandler (some (Do (sE st 0))) none ((emS h).2 (stB st).2) (W4 st)] [] [] st.pos,id)
 | .setd _ nm=>(fun st=>.Assign [.Attribute (Do (kE (sE st 1) 0)) nm (sE st 1).pos] (.Dict [] [] (sE st 0).pos) st.pos,id)
 | .swl _ _ _ es=>(fun st=>.Assign [.Tuple [Do (kE (sE st 1) 0),Do (kE (sE st 1) 1),Do (kE (sE st 1) 2)] (Jd (sE st 1)) (sE st 1).pos] (.Tuple ((em es).2 (sE st 0) 0) (Jd (sE st 0)) (sE st 0).pos) st.pos,id)
noncomputable def noL (_:List Stmt):Bool:=false
noncomputable def okS:S->Kx->(Stmt->Bool)×(List Stmt->Bool)
 | .any,_=>(fun _=>true,fun _=>true)
 | .nil,_=>(fun _=>false,fun _=>true)
 | .cons s r,K=>(fun _=>false,fun l=>(okS s K).1 (l.headD noS)&&(okS r K).2 l.tail)
 | .asg x e,K=>(fun st=>K.canWr x (nmE (sE st 1))&&((ok e K).1 (sE st 0)&&(bif Bz e then Nk K (nmE (sE st 1)) (sE st 1).pos ((em e).1 (sE st 0)) else true)),noL)
 | .unp xs e,K=>(fun st=>Qh K (sE st 1) xs 0&&(ok e K).1 (sE st 0),noL)
 | .swp xs es,K=>(fun st=>Qh K (sE st 1) xs 0&&((GF K (Pn (sE st 1) xs 0)&&Nat.beq xs.length 3)&&(ok es K).2 (sE st 0) 0),noL)
 | .set o i v,K=>(fun st=>(ok v K).1 (sE st 0)&&((ok o K).1 (kE (sE st 1) 0)&&(ok i K).1 (kE (sE st 1) 1)),noL)
 | .exp e,K=>(fun st=>(ok e K).1 (sE st 0),noL)
 | .ite c a b,K=>(fun st=>(ok c K).1 (sE st 0)&&((okS a K).2 (stB st).1&&(okS b K).2 (stB st).2),noL)
 | .for_ ts it body,K=>(fun st=>(okT K ts (sE st 0)&&GN ts it)&&((ok it K).1 (sE st 1)&&(okS body K).2 (stB st).1),noL)
 | .while_ c body,K=>(fun st=>(ok c K).1 (sE st 0)&&(okS body K).2 (stB st).1,noL)
 | .ret e,K=>(fun st=>(ok e K).1 (sE st 0),noL)
 | .rse k es,K=>(fun st=>FZ K (.exc k) (nmE (kE (sE st 0) 0))&&((ok es K).2 (sE st 0) 1&&Nat.blt ((em es).2 (sE st 0) 1).length 20),noL)
 | .try_ b k h,K=>(fun st=>FZ K (.exc k) (nmE (sE st 0))&&((okS b K).2 (stB st).1&&((okS h K).2 (stB st).2 && !((emS h).2 (stB st).2).isEmpty)),noL)
 | .setd x _,K=>(fun st=>K.kd (nmE (kE (sE st 1) 0)) .local&&(K.isAt x (nmE (kE (sE st 1) 0)) && !(nmE (kE (sE st 1) 0) == ("__debug__" : Str))),noL)
 | .swl i j l es,K=>(fun st=>(K.canWr i (nmE (kE (sE st 1) 0))&&(K.canWr j (nmE (kE (sE st 1) 1))&&K.canWr l (nmE (kE (sE st 1) 2))))&&(P7 K (nmE (kE (sE st 1) 0)) (nmE (kE (sE st 1) 1)) (nmE (kE (sE st 1) 2)) (kE (sE st 1) 0).pos (kE (sE st 1) 1).pos (kE (sE st 1) 2).pos ((em es).2 (sE st 0) 0)&&(ok es K).2 (sE st 0) 0),noL)
theorem DU:∀ (e:S),(∀ K x,(okS e K).1 x=true->(Iss e K).1 ((emS e).1 x))/\(∀ K x,(okS e K).2 x=true->(Iss e K).2 ((emS e).2 x))
 | .any=>⟨fun _ _ _=>trivial,fun _ _ _=>trivial⟩
 | .nil=>⟨fun _ _ h=>ff_ h,fun _ _ _=>rfl⟩
 | .cons s r=>⟨fun _ _ h=>ff_ h,fun K l h R_ k=>k _ _ ((DU s).1 K _ (A4 h)) ((DU r).2 K _ (Ak h))⟩
 | .asg x e=>⟨fun K st h R_ k=>k _ _ _ _ (A4 h) ((AE e).1 K _ (A4 (Ak h))) (Ak (Ak h)),fun _ _ h=>ff_ h⟩
 | .unp xs e=>⟨fun K st h R_ k=>k _ _ _ _ _ (FT (A4 h)) ((AE e).1 K _ (Ak h)),fun _ _ h=>ff_ h⟩
 | .swp xs es=>⟨fun K st h R_ k=>k _ _ _ _ _ _ _ ⟨FT (A4 h),A4 (A4 (Ak h)),Nat.eq_of_beq_eq_true (Ak (A4 (Ak h)))⟩ ((AE es).2 K _ _ (Ak (Ak h))),fun _ _ h=>ff_ h⟩
 | .set o i v=>⟨fun K st h R_ k=>k _ _ _ _ _ ((AE v).1 K _ (A4 h)) ((AE o).1 K _ (A4 (Ak h))) ((AE i).1 K _ (Ak (Ak h))),fun _ _ h=>ff_ h⟩
 | .exp e=>⟨fun K st h R_ k=>k _ _ ((AE e).1 K _ h),fun _ _ h=>ff_ h⟩
 | .ite c a b=>⟨fun K st h R_ k=>k _ _ _ _ ((AE c).1 K _ (A4 h)) ((DU a).2 K _ (A4 (Ak h))) ((DU b).2 K _ (Ak (Ak h))),fun _ _ h=>ff_ h⟩
 | .for_ ts it body=>⟨fun K st h R_ k=>k _ _ _ _ ⟨QL (A4 (A4 h)),Ak (A4 h)⟩ ((AE it).1 K _ (A4 (Ak h))) ((DU body).2 K _ (Ak (Ak h))),fun _ _ h=>ff_ h⟩
 | .while_ c body=>⟨fun K st h R_ k=>k _ _ _ ((AE c).1 K _ (A4 h)) ((DU body).2 K _ (Ak h)),fun _ _ h=>ff_ h⟩
 | .ret e=>⟨fun K st h R_ k=>k _ _ ((AE e).1 K _ h),fun _ _ h=>ff_ h⟩
 | .rse k es=>⟨fun K st h R_ f=>f _ _ _ _ _ (BO (A4 h)) ((AE es).2 K _ _ (A4 (Ak h))) (Nat.blt_eq.mp (Ak (Ak h))),fun _ _ h=>ff_ h⟩
 | .try_ b k hd=>⟨fun K st h R_ f=>by
  have h1:=(DU hd).2 K _ (A4 (Ak (Ak h)))
  have h2:=Ak (Ak (Ak h))
  have h0:=(DU b).2 K _ (A4 (Ak h))
  show R_ (.Try _ [.ExceptHandler (some (Do (sE st 0))) none ((emS hd).2 (stB st).2) (W4 st)] [] [] st.pos)
  revert h1 h2
  cases (emS hd).2 (stB st).2 with
  | nil=>exact fun _ h2=>ff_ h2
  | cons y ys=>exact fun h1 _=>f _ _ _ y ys _ _ h0 (BO (A4 h)) h1,fun _ _ h=>ff_ h⟩
 | .setd x nm=>⟨fun K st h R_ k=>k _ _ _ _ _ ⟨A4 h,NG (A4 (Ak h)),HR (Ak (Ak h))⟩,fun _ _ h=>ff_ h⟩
 | .swl i j l es=>⟨fun K st h R_ k=>k _ _ _ _ _ _ _ _ _ _ _ _ ⟨⟨A4 (A4 h),A4 (Ak (A4 h)),Ak (Ak (A4 h))⟩,A4 (Ak h)⟩ ((AE es).2 K _ _ (Ak (Ak h))),fun _ _ h=>ff_ h⟩
noncomputable def Uf (o:Option NameKind):Bool:=match o with | some k=>k == .local||k == .cell | none=>false
structure Rc where
 params:Arguments
 body:List Stmt
 scope:Scope
noncomputable def UQ (lam:Option (Addr×Str)) (fn:Fn) (vars:List Str) (r:Rc):Bool :=
 (decide (r.scope.kind=.function)&&(!r.scope.isGenerator&&(!r.scope.isCoroutine&&(decide vars.Nodup&&((vars.take fn.np).all (fun n=>Uf (r.scope.names.lookup n))&&r.scope.names.all (fun q=>!(q.2 == .free))))))) &&
 ((r.params.posonlyargs.isEmpty&&(r.params.vararg.isNone&&(r.params.kwonlyargs.isEmpty&&(r.params.kwarg.isNone&&(decide (r.params.args.map (·.arg)=vars.take fn.np)&&Nat.ble fn.np vars.length)))))&&(okS fn.body ⟨vars,r.scope.names,vars,glP,lam⟩).2 r.body)
theorem PY {o:Option NameKind} (h:Uf o=true):o=some .local\/o=some .cell:=by
 cases o with
 | none=>exact ff_ h
 | some k=>exact (ABC.mp (show (k == .local||k == .cell)=true from h)).imp (fun h=>by rw [ABM h]) fun h=>by rw [ABM h]
theorem Qo {α:Type} {l:List α} (h:l.isEmpty=true):l=[]:=by cases l with | nil=>rfl | cons _ _=>exact ff_ h
theorem none_of' {α:Type} {l:Option α} (h:l.isNone=true):l=none:=by cases l with | none=>rfl | some _=>exact ff_ h
theorem NV {T:Top} {lam:Option (Addr×Str)} {fn:Fn} {vars:List Str} {r:Rc} {a:Addr} {o:Obj} {fd:FuncData} (h:UQ lam fn vars r=true) (hem:(emS fn.body).2 r.body=r.body)
 (ho:T.h0.get? a=some o) (hd:o.data=.func fd) (hc:T.h0.CodeRec fd.code fd.qualname) (hp:fd.params=r.params) (hb:fd.body=.stmts r.body) (hs:fd.scope=r.scope) (hcl:fd.closure=[]) (hg:fd.globals=mainGlobals) (hbl:fd.builtins=builtinsNs) (hdf:fd.defaults=.none) (hkd:fd.kwdefaults=.none)
 (hl:∀ t q,lam=some (t,q)->(t,q)∈T.tabs/\(fd.qualname++(".<locals>." : Str))++("<lambda>" : Str)=q/\∃ c,fd.code=.ref c/\W.CodeHd T.h0 c t):VO T glP fn a fd r.body o vars lam:=by
 have h1:=A4 h
 have h2:=A4 (Ak h)
 have h3:=(DU fn.body).2 _ _ (Ak (Ak h))
 rw [hem] at h3
 have k4:=AAG (A4 (Ak (Ak (Ak h1))))
 have p5:=AAG (A4 (Ak (Ak (Ak (Ak h2)))))
 have p6:=Nat.le_of_ble_eq_true (Ak (Ak (Ak (Ak (Ak h2)))))
 refine ⟨ho,hd,hc,hb,hcl,hg,hbl,by rw [hs]; exact AAG (A4 h1),by rw [hs]; exact HR (A4 (Ak h1)),by rw [hs]; exact HR (A4 (Ak (Ak h1))),k4,fun vals hv=>?_,fun n hn=>?_,fun p hp' e=>?_,by rw [hs]; exact h3,hl⟩
 ·have e1:=Qo (A4 h2)
  have e2:=none_of' (A4 (Ak h2))
  have e3:=Qo (A4 (Ak (Ak h2)))
  have e4:=none_of' (A4 (Ak (Ak (Ak h2))))
  rcases hP:r.params with ⟨po,as,va,ko,kd,kw,df⟩
  rw [hP] at e1 e2 e3 e4 p5 hp
  have e1:po=[]:=e1
  have e2:va=none:=e2
  have e3:ko=[]:=e3
  have e4:kw=none:=e4
  have p5:as.map (·.arg)=vars.take fn.np:=p5
  subst e1 e2 e3 e4
  rw [<-p5]
  refine IL hp hdf hkd ?_ ?_
  ·have e5:as.length=(as.map (·.arg)).length:=(AAB _).symm
   rw [hv,show as.length=fn.np by rw [e5,p5,List.length_take,Nat.min_eq_left p6]]
  ·rw [p5]; exact List.Nodup.sublist (List.take_sublist _ _) k4
 ·rw [hs]; exact PY (List.all_eq_true.mp (A4 (Ak (Ak (Ak (Ak h1))))) n hn)
 ·rw [hs] at hp'
  have q:=List.all_eq_true.mp (Ak (Ak (Ak (Ak (Ak h1))))) p hp'
  rw [e] at q
  exact ff_ q
end Mine
namespace Mine
open PySem PySem.Calls
section
variable {T:Top} {g g':G} {σ τ σ':Aa} {s s':Shared} {v:V} {X:Value} {m n f:Nat} {d:PyData} {xs:List V} {r:Ar}
noncomputable def G.tuck (g:G) (m:Nat) (h:Heap):G:=⟨g.fz,fun a=>if a∈g.mu.drop m then h.get? a else g.hid a,g.mu.take m⟩
theorem Nv {o:O} {x:Obj} (h:Dp T g o x):x.cls≠frC:=by
 cases o with
 | list vs=>exact h (fun x=>x.cls≠frC) fun xs m _ _=>AZ rfl (by decide)
 | dictS kvs=>exact h _ fun _ _ _ ho _ _ _ _ _ _=>AZ ho.1 (by decide)
 | dictP kvs=>exact h _ fun _ _ _ ho _ _ _ _ _=>AZ ho.1 (by decide)
theorem BJ.sub {fe:List Env} (x:BJ g fe) (h:∀ a o,g.hid a=some o->g'.hid a=some o):BJ g' fe:=fun e he=>⟨(x e he).1,let ⟨L,o,es,ep,h1,h2,h3⟩:=(x e he).2; ⟨L,o,es,ep,h1,h _ _ h2,h3⟩⟩
theorem Nf {h:Heap}:G.upTo m g (g.tuck m h):=⟨fun _ _ e=>e,fun _ _ hk e=>(List.getElem?_take_of_lt hk).trans e⟩
theorem H8 {h:Heap} {a:Addr} (q:a∉g.mu):(g.tuck m h).hid a=g.hid a:=if_neg fun p=>q (List.mem_of_mem_drop p)
theorem Has.tuck (H:Has T g (σ++τ) s) (hl:∀ (k:Nat) o,σ[k]? = some o->E2 σ.length o):Has T (g.tuck σ.length s.heap) σ s:=by
 refine ⟨H.fz,fun a o e=>?_,?_,List.Nodup.sublist (List.take_sublist _ _) H.nd,fun a ha=>H.ap a (List.mem_of_mem_take ha),fun a o e=>?_,fun k a o e1 e2 R_ kk=>?_,H.base,fun t q ht R_ kk=>H.tb t q ht R_ fun ps h1 h2 h3 h4 h5 h6=>kk ps h1 ((H8 h3).trans h2) (fun q=>h3 (List.mem_of_mem_take q)) h4 h5 h6,H.gens,H.os⟩
 ·have e:(if a∈g.mu.drop σ.length then s.heap.get? a else g.hid a)=some o:=e
  by_cases q:a∈g.mu.drop σ.length
  ·rw [if_pos q] at e; exact .of e
  ·rw [if_neg q] at e; exact H.hd a o e
 ·show (g.mu.take σ.length).length=_
  rw [List.length_take,H.len,AAF]; exact Nat.min_eq_left (AA9 _ _)
 ·have e:(if a∈g.mu.drop σ.length then s.heap.get? a else g.hid a)=some o:=e
  by_cases q:a∈g.mu.drop σ.length
  ·exact ⟨H.ap a (List.mem_of_mem_drop q),fun p=>F4 H.nd p q⟩
  ·rw [if_neg q] at e; exact ⟨(H.ah a o e).1,fun p=>(H.ah a o e).2 (List.mem_of_mem_take p)⟩
 ·have hk:k < σ.length:=(AAM.mp e2).1
  have e1:(g.mu.take σ.length)[k]? = some a:=e1
  rw [List.getElem?_take_of_lt hk] at e1
  exact H.ob k a o e1 ((ABE hk).trans e2) R_ fun x h1 h2=>kk x h1 (FA Nf (hl k o e2) h2)
theorem Has.untuck (H:Has T g (σ++τ) s) (hl:σ'.length=σ.length) (le:G.le [] (g.tuck σ.length s.heap) g') (H':Has T g' σ' s'):Has T ⟨g'.fz,g.hid,g.mu⟩ (σ'++τ) s':=by
 have hm:g.mu.length=σ.length+τ.length:=H.len.trans AAF
 have up:G.up g ⟨g'.fz,g.hid,g.mu⟩:=⟨le.fz,fun _ _ e=>e⟩
 have hid:∀ a,g'.hid a=(g.tuck σ.length s.heap).hid a:=fun a=>le.hid a AA1
 have hd1:∀ {a o},g.hid a=some o->g'.hid a=some o:=fun {a o} e=>(hid a).trans ((H8 (H.ah a o e).2).trans e)
 have hd2:∀ {a o},a∈g.mu.drop σ.length->s.heap.get? a=some o->g'.hid a=some o:=fun {a o} q e=>(hid a).trans ((if_pos q).trans e)
 have mu1:∀ {k:Nat} {a},k < σ.length->g.mu[k]? = some a->g'.mu[k]? = some a:=fun {k a} hk e=>le.mu k a ((List.getElem?_take_of_lt hk).trans e)
 have up':G.up g' ⟨g'.fz,g.hid,g.mu⟩:=⟨fun _ _ e=>e,fun k a e=>by
  have hk:k < σ.length:=hl▸H'.len▸KU e
  have e2:g.mu[k]? = some (g.mu[k]'(by rw [hm]; exact Nat.lt_add_right _ hk)):=AAN _
  rw [e2,Av (mu1 hk e2) e]⟩
 refine ⟨H'.fz,fun a o e=>H'.hd a o (hd1 e),hm.trans (by rw [AAF,hl]),H.nd,fun a ha=>?_,fun a o e=>⟨(H'.ah a o (hd1 e)).1,(H.ah a o e).2⟩,fun k a o e1 e2 R_ kk=>?_,H'.base,fun t q ht R_ kk=>H.tb t q ht R_ fun _ _ h2 h3 _ _ _=>H'.tb t q ht R_ fun ps h1 _ _ h4 h5 h6=>kk ps h1 h2 h3 h4 h5 h6,H'.gens,H'.os⟩
 ·obtain ⟨k,hk,e⟩:=List.mem_iff_getElem.mp ha
  have e:g.mu[k]? = some a:=by rw [AAN hk,e]
  by_cases q:k < σ.length
  ·exact H'.ap a (AA5 (mu1 q e))
  ·obtain ⟨o,ho⟩:=H.muAlive ha
   exact (H'.ah a o (hd2 (AA5 (i:=k-σ.length) (by rw [List.getElem?_drop,Nat.add_sub_cancel' (Nat.le_of_not_lt q)]; exact e)) ho)).1
 ·by_cases q:k < σ.length
  ·rw [ABE (hl▸q)] at e2
   exact H'.ob k a o (mu1 q e1) e2 R_ fun x h1 h2=>kk x h1 (Dp.mono up' _ _ h2)
  ·have q:=Nat.le_of_not_lt q
   rw [AA6 (hl▸q),hl] at e2
   refine H.ob k a o e1 ((AA6 q).trans e2) R_ fun x h1 h2=>kk x ((H'.hd a x (hd2 ?_ h1)).ex (Nv h2)) (Dp.mono up _ _ h2)
   exact AA5 (i:=k-σ.length) (by rw [List.getElem?_drop,Nat.add_sub_cancel' q]; exact e1)
theorem FN.tail (hf:FN n f xs σ (.d d) σ') (hl:σ'.length=σ.length) (hx:∀ x,x∈xs->low σ.length x) (hw:∀ (k:Nat) o,σ[k]? = some o->E2 σ.length o):FN n f xs (σ++τ) (.d d) (σ'++τ):=fun r g s a Xs h A R =>
 AAO (hf r (g.tuck σ.length s.heap) s a Xs h ⟨A.ok,A.frames,A.top,A.depth,A.units,A.hh,A.frs.sub fun a o e=>(H8 (A.has.ah a o e).2).trans e,A.has.tuck hw⟩ (Aw.imp (fun v X hv rx=>HJ Nf (hx v hv) rx) R)) (fun X s' p=>p _ fun g' le H' rX =>
  .mk ⟨g'.fz,g.hid,g.mu⟩ ⟨⟨le.fz,fun _ _ e=>e⟩,fun _ _=>rfl⟩ (A.has.untuck hl le H') rX) fun _ _ h=>h
theorem FN.any (hf:FN n f xs [] (.d d) []) (hx:∀ x,x∈xs->low 0 x):FN n f xs σ (.d d) σ:=FN.tail (σ:=[]) (σ':=[]) hf rfl hx fun k o e=>Ac e
theorem FN.more {k:Nat} (hf:FN n f xs σ v σ') (h:n<=k):FN k f xs σ v σ':=fun r g s a Xs hf' A R=>hf r g s a Xs hf' (A.less h) R
end
end Mine
namespace Mine
open PySem PySem.Calls
section
variable {α β:Type} {l l':List α} {m m':List β} {k:Nat} {a:α} {o:β}
theorem JN (hl:l.length=m.length) (h1:(l++l')[k]? = some a) (h2:(m++m')[k]? = some o):(l[k]? = some a/\m[k]? = some o)\/∃ j,k=l.length+j/\l'[j]? = some a/\m'[j]? = some o:=by
 by_cases q:k < l.length
 ·rw [ABE q] at h1
  rw [ABE (hl▸q)] at h2
  exact .inl ⟨h1,h2⟩
 ·have q:=Nat.le_of_not_lt q
  rw [AA6 q] at h1
  rw [AA6 (hl▸q),<-hl] at h2
  exact .inr ⟨k-l.length,(Nat.add_sub_cancel' q).symm,h1,h2⟩
theorem CS (h:l[k]? = some a):(l++l')[k]? = some a:=(ABE (AAM.mp h).1).trans h
theorem BQ (h:l'[k]? = some a):(l++l')[l.length+k]? = some a:=by
 rw [AA6 (AA9 _ _),Nat.add_sub_cancel_left]; exact h
theorem at_right' (hl:l.length=m.length) (h:l'[k]? = some a):(l++l')[m.length+k]? = some a:=hl▸BQ h
end
section
variable {T:Top} {g g':G} {σ σ' τ τ' N:Aa} {s s':Shared} {A B C D:List Addr} {n f b j:Nat} {d:PyData} {xs:List V}
noncomputable def G.mid (g:G) (A B C:List Addr) (h:Heap):G:=⟨g.fz,fun a=>@ite _ (a∈A\/a∈C) (Classical.propDecidable _) (h.get? a) (g.hid a),B⟩
theorem Qq {h:Heap} {a:Addr} (q:a∈A\/a∈C):(g.mid A B C h).hid a=h.get? a:=if_pos q
theorem DR {h:Heap} {a:Addr} (q:¬ (a∈A\/a∈C)):(g.mid A B C h).hid a=g.hid a:=if_neg q
theorem upz (h:K1 g.fz g'.fz):G.upTo 0 g g':=⟨h,fun _ _ hk _=>absurd hk (Nat.not_lt_zero _)⟩
theorem JW {h:Heap}:G.upTo 0 g (g.mid A B C h):=upz fun _ _ q=>q
theorem KT {a:Addr} (e:g.mu=A++(B++C)) (h:a∉g.mu):¬ (a∈A\/a∈C):=fun q=>h (by
 rw [e]
 rcases q with q | q
 ·exact AAU _ q
 ·exact AAW _ (AAW _ q))
theorem UW {a:Addr} (nd:g.mu.Nodup) (e:g.mu=A++(B++C)) (q:a∈A\/a∈C) (hb:a∈B):False:=by
 rw [e] at nd
 obtain ⟨_,n2,n3⟩:=ABW.mp nd
 rcases q with q | q
 ·exact n3 a q a (AAU _ hb) rfl
 ·exact (ABW.mp n2).2.2 a hb a q rfl
theorem Has.mid (H:Has T g (τ++(σ++τ')) s) (e:g.mu=A++(B++C)) (la:A.length=τ.length) (lb:B.length=σ.length) (hl:∀ o∈σ,E2 0 o):Has T (g.mid A B C s.heap) σ s:=by
 have nd:=H.nd
 rw [e] at nd
 have mB:∀ {a},a∈B->a∈g.mu:=fun {a} q=>by rw [e]; exact AAW _ (AAU _ q)
 have mAC:∀ {a},(a∈A\/a∈C)->a∈g.mu:=fun {a} q=>by
  rw [e]
  rcases q with q | q
  ·exact AAU _ q
  ·exact AAW _ (AAW _ q)
 refine ⟨H.fz,fun a o h=>?_,lb,(ABW.mp (ABW.mp nd).2.1).1,fun a ha=>H.ap a (mB ha),fun a o h=>?_,fun k a o e1 e2 R_ kk=>?_,H.base,fun t q ht R_ kk=>H.tb t q ht R_ fun ps h1 h2 h3 h4 h5 h6=>kk ps h1 ((DR (KT e h3)).trans h2) (fun q=>h3 (mB q)) h4 h5 h6,H.gens,H.os⟩
 ·by_cases q:a∈A\/a∈C
  ·rw [Qq q] at h; exact .of h
  ·rw [DR q] at h; exact H.hd a o h
 ·by_cases q:a∈A\/a∈C
  ·exact ⟨H.ap a (mAC q),fun p=>UW H.nd e q p⟩
  ·rw [DR q] at h; exact ⟨(H.ah a o h).1,fun p=>(H.ah a o h).2 (mB p)⟩
 ·exact H.ob (A.length+k) a o (by rw [e]; exact BQ (CS e1)) (by rw [la]; exact BQ (CS e2)) R_ fun x h1 h2=>kk x h1 (FA JW (hl o (AA5 e2)) h2)
theorem Has.unmid (H:Has T g (τ++(σ++τ')) s) (e:g.mu=A++(B++C)) (la:A.length=τ.length) (lb:B.length=σ.length) (lb':σ'.length=σ.length) (hl:∀ o∈σ'++N,E2 0 o) (le:G.le [] (g.mid A B C s.heap) g') (H':Has T g' (σ'++N) s') (e':g'.mu=B++D):Has T ⟨g'.fz,g.hid,g.mu++D⟩ ((τ++(σ'++τ'))++N) s':=by
 have hid:∀ a,g'.hid a=(g.mid A B C s.heap).hid a:=fun a=>le.hid a AA1
 have hd1:∀ {a o},g.hid a=some o->g'.hid a=some o:=fun {a o} h=>(hid a).trans ((DR (KT e (H.ah a o h).2)).trans h)
 have hd2:∀ {a o},(a∈A\/a∈C)->s.heap.get? a=some o->g'.hid a=some o:=fun {a o} q h=>(hid a).trans ((Qq q).trans h)
 have mAC:∀ {a},(a∈A\/a∈C)->a∈g.mu:=fun {a} q=>by
  rw [e]
  rcases q with q | q
  ·exact AAU _ q
  ·exact AAW _ (AAW _ q)
 have out:∀ {a},(a∈A\/a∈C)->g'.fz a=none/\a∉g'.mu:=fun {a} q=>by
  obtain ⟨o,ho⟩:=H.muAlive (mAC q)
  exact H'.ah a o (hd2 q ho)
 have three:∀ {a},a∈g.mu->(a∈A\/a∈C)\/a∈B:=fun {a} q=>by
  rw [e] at q
  rcases AA0.mp q with q | q
  ·exact .inl (.inl q)
  ·rcases AA0.mp q with q | q
   ·exact .inr q
   ·exact .inl (.inr q)
 have nd':=H'.nd
 rw [e'] at nd'
 obtain ⟨_,n2,n3⟩:=ABW.mp nd'
 have inB:∀ {a},a∈B->a∈g'.mu:=fun {a} q=>by rw [e']; exact AAU _ q
 have inD:∀ {a},a∈D->a∈g'.mu:=fun {a} q=>by rw [e']; exact AAW _ q
 have ld:D.length=N.length:=by
  have:=H'.len
  rw [e',AAF,AAF,lb,lb'] at this
  exact Nat.add_left_cancel this
 have lm:g.mu.length=(τ++(σ'++τ')).length:=by rw [H.len,AAF,AAF,AAF,AAF,lb']
 have up:G.up g ⟨g'.fz,g.hid,g.mu++D⟩:=⟨le.fz,fun _ _ q=>CS q⟩
 have old:∀ {k:Nat} {a:Addr} {o:O},(a∈A\/a∈C)->g.mu[k]? = some a->(τ++(σ++τ'))[k]? = some o->∀ R_:Prop,(∀ x,s'.heap.get? a=some x->Dp T ⟨g'.fz,g.hid,g.mu++D⟩ o x->R_)->R_:=fun {k a o} q h1 h2 R_ kk =>
  H.ob k a o h1 h2 R_ fun x h3 h4=>kk x ((H'.hd a x (hd2 q h3)).ex (Nv h4)) (Dp.mono up _ _ h4)
 refine ⟨H'.fz,fun a o h=>H'.hd a o (hd1 h),by rw [AAF,AAF,lm,ld],ABW.mpr ⟨H.nd,n2,fun x hx y hy q=>?_⟩,fun a ha=>?_,fun a o h=>⟨(H'.ah a o (hd1 h)).1,fun q=>?_⟩,fun k a o e1 e2 R_ kk=>?_,H'.base,fun t q ht R_ kk=>H.tb t q ht R_ fun _ _ h2 h3 _ _ _=>H'.tb t q ht R_ fun ps h1 _ h3' h4 h5 h6=>kk ps h1 h2 (fun q=>?_) h4 h5 h6,H'.gens,H'.os⟩
 ·rcases three hx with p | p
  ·exact (out p).2 (q▸inD hy)
  ·exact n3 x p y hy q
 ·rcases AA0.mp ha with q | q
  ·rcases three q with p | p
   ·exact (out p).1
   ·exact H'.ap a (inB p)
  ·exact H'.ap a (inD q)
 ·rcases AA0.mp q with q | q
  ·exact (H.ah a o h).2 q
  ·exact (H'.ah a o (hd1 h)).2 (inD q)
 ·rcases JN lm e1 e2 with ⟨h1,h2⟩ | ⟨j,_,h1,h2⟩
  ·have h1':=h1
   rw [e] at h1
   rcases JN la h1 h2 with ⟨i1,i2⟩ | ⟨j,ek,i1,i2⟩
   ·exact old (.inl (AA5 i1)) h1' (CS i2) R_ kk
   ·rcases JN (lb.trans lb'.symm) i1 i2 with ⟨i3,i4⟩ | ⟨i,ej,i3,i4⟩
    ·exact H'.ob j a o (by rw [e']; exact CS i3) (CS i4) R_ fun x h3 h4=>kk x h3 (FA (upz (g:=g') (g':=⟨g'.fz,g.hid,g.mu++D⟩) fun _ _ q=>q) (hl o (AAU _ (AA5 i4))) h4)
    ·refine old (.inr (AA5 i3)) h1' ?_ R_ kk
     rw [ek,la]
     refine BQ ?_
     rw [ej,lb]; exact BQ i4
  ·exact H'.ob (B.length+j) a o (by rw [e']; exact BQ h1) (by rw [lb,<-lb']; exact BQ h2) R_ fun x h3 h4=>kk x h3 (FA (upz (g:=g') (g':=⟨g'.fz,g.hid,g.mu++D⟩) fun _ _ q=>q) (hl o (AAW _ (AA5 h2))) h4)
 ·rcases AA0.mp q with q | q
  ·exact h3 q
  ·exact h3' (inD q)
theorem UV (H:Has T g (τ++(σ++τ')) s):∃ A B C,g.mu=A++(B++C)/\A.length=τ.length/\B.length=σ.length:=by
 have hl:=H.len
 rw [AAF,AAF] at hl
 refine ⟨g.mu.take τ.length,(g.mu.drop τ.length).take σ.length,(g.mu.drop τ.length).drop σ.length,?_,?_,?_⟩
 ·rw [List.take_append_drop,List.take_append_drop]
 ·rw [List.length_take]; omega
 ·rw [List.length_take,List.length_drop]; omega
theorem SN {h:Heap} (le:G.le [] (g.mid A B C h) g'):∃ D,g'.mu=B++D:=by
 refine ⟨g'.mu.drop B.length,?_⟩
 have:g'.mu.take B.length=B:=by
  refine List.ext_getElem? fun k=>?_
  by_cases q:k < B.length
  ·rw [List.getElem?_take_of_lt q]
   have e2:B[k]? = some B[k]:=AAN q
   rw [e2]; exact le.mu k _ e2
  ·have q:=Nat.le_of_not_lt q
   rw [List.getElem?_eq_none q,List.getElem?_eq_none (AAC (List.length_take_le _ _) q)]
 have h2:=List.take_append_drop B.length g'.mu
 rw [this] at h2; exact h2.symm
theorem SJ {h:Heap} {v:Value} (e:g.mu=A++(B++C)) (la:A.length=b) (lb:B.length=3) (r:As T g (.obj [b,b+1,b+2]) v):As T (g.mid A B C h) (.obj [0,1,2]) v:=by
 have key:∀ (k:Nat) (a:Addr),k < 3->g.mu[b+k]? = some a->B[k]? = some a:=fun k a hk h=>by
  rw [e,<-la,AA6 (AA9 _ _),Nat.add_sub_cancel_left,ABE (lb▸hk)] at h; exact h
 refine r (fun v=>As T (g.mid A B C h) (.obj [0,1,2]) v) fun a d o mA h1 h2 h3 h4 h5 h6 h7 h8=>fun R_ k=>k a d o mA h1 h2 h3 h4 h5 h6 h7 ?_
 obtain ⟨⟨a0,p0,q0⟩,⟨a1,p1,q1⟩,⟨a2,p2,q2⟩,_⟩:=h8
 exact ⟨⟨a0,key 0 a0 (by decide) p0,q0⟩,⟨a1,key 1 a1 (by decide) p1,q1⟩,⟨a2,key 2 a2 (by decide) p2,q2⟩,trivial⟩
theorem FN.at (hf:FN n f (.obj [0,1,2]::xs) σ (.d d) σ') (h3:σ.length=3) (h3':σ'.length=3) (hx:∀ x,x∈xs->low 0 x) (hw:∀ o∈σ,E2 0 o) (hw':∀ o∈σ',E2 0 o) (hb:τ.length=b):FN n f (.obj [b,b+1,b+2]::xs) (τ++(σ++τ')) (.d d) (τ++(σ'++τ')):=fun r g s a Xs h At_ R=>by
 obtain ⟨A,B,C,e,la,lb⟩:=UV At_.has
 obtain ⟨X,Xr,rfl,r1,r2⟩:=R.cons
 refine AAO (hf r (g.mid A B C s.heap) s a (X::Xr) h ⟨At_.ok,At_.frames,At_.top,At_.depth,At_.units,At_.hh,At_.frs.sub fun a o h=>(DR (KT e (At_.has.ah a o h).2)).trans h,At_.has.mid e la lb hw⟩ ⟨SJ e (la.trans hb) (lb.trans h3) r1,Aw.imp (fun v X hv rx=>HJ JW (hx v hv) rx) r2⟩) (fun X s' p=>p _ fun g' le H' rX=>?_) fun _ _ h=>h
 obtain ⟨D,e'⟩:=SN le
 have:=At_.has.unmid (N:=[]) (D:=D) e la lb (h3'.trans h3.symm) (fun o ho=>hw' o (by rw [AAV] at ho; exact ho)) le (by rw [AAV]; exact H') e'
 rw [AAV] at this
 exact .mk ⟨g'.fz,g.hid,g.mu++D⟩ ⟨⟨le.fz,fun _ _ q=>CS q⟩,fun _ _=>rfl⟩ this rX
end
end Mine
namespace Mine
open PySem
noncomputable def Ci (v:V):Option Int:=match v with | .d x=>(match x with | .int i=>some i | _=>none) | _=>none
noncomputable def BN (v:V):Option Str:=match v with | .d x=>(match x with | .str s=>some s | _=>none) | _=>none
noncomputable def Ei (v:V):Option Bool:=match v with | .d x=>(match x with | .bool s=>some s | _=>none) | _=>none
noncomputable def Qa (xs:List PyData):Option (Str×Int) :=
 match xs with
 | x::y::r=>(match x with | .str a=>(match y with | .int b=>(match r with | []=>some (a,b) | _=>none) | _=>none) | _=>none)
 | _=>none
noncomputable def HN (v:V):Option (Str×Int):=match v with | .d x=>(match x with | .tuple xs=>Qa xs | _=>none) | _=>none
noncomputable def Ct {α:Type} (f:V->Option α):List V->Option (List α)
 | []=>some []
 | v::r=>(f v).bind fun x=>(Ct f r).bind fun xs=>some (x::xs)
noncomputable def mkL (ws:List V):Option V:=if ws.length<=line then (DJ ws).bind fun xs=>some (.d (.list xs)) else none
noncomputable def Eo (σ:Aa) (v:V):Option Bool :=
 match v with
 | .d x=>(match x with | .none=>some false | .bool b=>some b | .int i=>some (i != 0) | .str s=>some (s.cps.size != 0) | .list xs=>some (!xs.isEmpty) | .tuple xs=>some (!xs.isEmpty) | _=>none)
 | .ref k=>(CQ σ[k]?).bind fun ws=>some (!ws.isEmpty)
 | _=>none
noncomputable def TM (op:Operator) (x y:V) (σ:Aa):Option (List V) :=
 match op with
 | .Add=>(A2 σ x).bind fun ws=>(A2 σ y).bind fun us=>if ws.length+us.length<=line then some (ws++us) else none
 | _=>none
noncomputable def VC (x y:V) (σ:Aa):Option V :=
 match Ci x with
 | some i=>(Ci y).bind fun j=>some (vi (i+j))
 | none=>(match BN x with
  | some a=>(BN y).bind fun b=>if a.length+b.length<=line then some (.d (.str (a++b))) else none
  | none=>(TM .Add x y σ).bind mkL)
noncomputable def JA (f:Int->Int->Option Int) (x y:V):Option V:=(Ci x).bind fun i=>(Ci y).bind fun j=>(f i j).bind fun k=>some (vi k)
noncomputable def Gh (op:Operator) (x y:V) (σ:Aa):Option V :=
 match op with
 | .Add=>VC x y σ
 | .Sub=>JA (fun i j=>some (i-j)) x y
 | .Mult=>JA (fun i j=>if (small i||small j)=true then some (i * j) else none) x y
 | .FloorDiv=>JA (fun i j=>if j=0 then none else some (i.fdiv j)) x y
 | .Mod=>JA (fun i j=>if j=0 then none else some (i.fmod j)) x y
 | _=>none
noncomputable def HS (o:Option Bool):Option Bool:=o.bind fun b=>some (!b)
noncomputable def eqV (σ:Aa) (x y:V):Option Bool:=(snap σ x).bind fun d=>(snap σ y).bind fun d'=>eqN A6 d d'
noncomputable def Wz (x:V):Option Bool:=match x with | .d u=>(match u with | .none=>some true | _=>none) | _=>none
noncomputable def isV (x y:V):Option Bool:=match y with | .d z=>(match z with | .none=>bif FI x then some false else Wz x | _=>none) | _=>none
noncomputable def NJ (σ:Aa) (x y:V):Option Bool:=(snap σ x).bind fun d=>(snap σ y).bind fun e=>(match e with | .list ds=>inD d ds | .tuple ds=>inD d ds | _=>none)
noncomputable def inO (σ:Aa) (x:V) (k:Nat) (o:Option O):Option Bool :=
 match o with
 | some o=>(match o with
  | .list _=>NJ σ x (.ref k)
  | .dictS kvs=>(BN x).bind fun z=>some (Ao kvs z).isSome
  | .dictP kvs=>(HN x).bind fun q=>some (Ao kvs q).isSome)
 | none=>none
noncomputable def inV (σ:Aa) (x y:V):Option Bool :=
 match y with
 | .ref k=>inO σ x k σ[k]?
 | y=>(match BN y with | some w=>(BN x).bind fun u=>some (Txt.contains w u) | none=>NJ σ x y)
noncomputable def RF (f:Int->Int->Bool) (x y:V):Option Bool:=(Ci x).bind fun i=>(Ci y).bind fun j=>some (f i j)
noncomputable def geV (x y:V):Option Bool:=match BN x with | some a=>(BN y).bind fun b=>some (!Bh a b) | none=>RF (fun i j=>decide (i ≥ j)) x y
noncomputable def B5 (op:CmpOp) (x y:V) (σ:Aa):Option Bool :=
 match op with
 | .Eq=>eqV σ x y
 | .NotEq=>HS (eqV σ x y)
 | .Lt=>RF (fun i j=>decide (i < j)) x y
 | .LtE=>RF (fun i j=>decide (i<=j)) x y
 | .Gt=>RF (fun i j=>decide (i > j)) x y
 | .GtE=>geV x y
 | .Is=>isV x y
 | .IsNot=>HS (isV x y)
 | .In=>inV σ x y
 | .NotIn=>HS (inV σ x y)
noncomputable def nth (ws:List V) (k:Int):Option V:=if small k=true then (seqIndex? k ws.length).bind fun j=>ws[j]? else none
noncomputable def O6 (σ:Aa) (y:V) (o:Option O):Option V :=
 match o with
 | some o=>(match o with
  | .list ws=>(Ci y).bind (nth ws)
  | .dictS kvs=>(BN y).bind fun z=>(Ao kvs z).bind fun d=>some (.d d)
  | .dictP kvs=>(HN y).bind fun q=>(Ao kvs q).bind fun d=>some (.d d))
 | none=>none
noncomputable def Bp (x y:V) (σ:Aa):Option V :=
 match x with
 | .ref k=>O6 σ y σ[k]?
 | x=>(match BN x with
  | some z=>(Ci y).bind fun k=>if small k=true then (Txt.charAt z k).bind fun c=>some (.d (.str (L9 c))) else none
  | none=>(match BY x with
   | some ws=>(Ci y).bind (nth ws)
   | none=>(A2 σ x).bind fun ws=>(Ci y).bind (nth ws)))
noncomputable def TH (σ:Aa) (x:V) (lo hi:Option Int):Option (List V):=(A2 σ x).bind fun ws=>some (CJ lo hi ws)
noncomputable def slice (σ:Aa) (x:V) (lo hi:Option Int):Option V :=
 match BN x with
 | some z=>some (.d (.str (Jg lo hi z)))
 | none=>(TH σ x lo hi).bind mkL
noncomputable def DV (x:Str):List Str->List Str
 | []=>[x]
 | y::r=>if Bh x y then x::y::r else y::DV x r
noncomputable def Dq:List Str->List Str
 | []=>[]
 | x::r=>DV x (Dq r)
noncomputable def NC (o:Option O):Option (List V) :=
 match o with
 | some o=>(match o with
  | .list ws=>some ws
  | .dictS kvs=>if kvs.all (fun p=>decide (p.1.length<=line))=true then some (vss (kvs.map (·.1))) else none
  | .dictP _=>none)
 | none=>none
noncomputable def toList (σ:Aa) (x:V):Option (List V):=match x with | .ref k=>NC σ[k]? | x=>A2 σ x
noncomputable def IK (b:Bi) (σ:Aa) (x:V):Option (List V) :=
 match b with
 | .list=>toList σ x
 | .sorted=>(A2 σ x).bind fun ws=>(Ct BN ws).bind fun ss=>if ss.length < 64 then some (vss (Dq ss)) else none
 | _=>none
noncomputable def Ok (b:Bi) (σ:Aa) (xs:List V):Option (List V):=match xs with | x::r=>(match r with | []=>IK b σ x | _=>none) | []=>none
noncomputable def Va (σ:Aa) (x:V):Option V :=
 match BN x with
 | some z=>some (vi z.cps.size)
 | none=>(match BY x with
  | some ws=>some (vi ws.length)
  | none=>(A2 σ x).bind fun ws=>some (vi ws.length))
noncomputable def Ue (x:V):Option V:=match x with | .d d=>(match d with | .list ds=>bif OD (.list ds) then some (.d (.str (PyData.list ds).shown)) else none | _=>none) | _=>none
noncomputable def RP (b:Bi) (σ:Aa) (x:V):Option V :=
 match b with
 | .len=>Va σ x
 | .str=>(Ci x).bind fun i=>if i.natAbs < 1000000000000 then some (.d (.str (Nl i))) else none
 | .all=>(A2 σ x).bind fun ws=>(Ct Ei ws).bind fun bs=>some (vb (bs.all id))
 | .any=>(A2 σ x).bind fun ws=>(Ct Ei ws).bind fun bs=>some (vb (bs.any id))
 | .ord=>(BN x).bind fun z=>(match z.cps.toList with | c::r=>(match r with | []=>some (vi c) | _=>none) | []=>none)
 | .repr=>Ue x
 | b=>(IK b σ x).bind mkL
noncomputable def Wx (σ:Aa) (x:V) (t:String):Option Bool :=
 (O1 σ x).bind fun u=>if u=t then (if t = "tuple"\/t = "list"\/t = "str"\/t = "int" then some true else none) else if u = "int"/\t = "bool" then some false else none
noncomputable def RO (b:Bi) (σ:Aa) (x y:V):Option V :=
 match b with
 | .min=>JA (fun i j=>some (if j < i then j else i)) x y
 | .isinstance=>(match y with | .ty t=>(Wx σ x t).bind fun b=>some (vb b) | _=>none)
 | _=>none
noncomputable def B6 (b:Bi) (σ:Aa) (xs:List V):Option V :=
 match xs with
 | []=>none
 | x::r=>(match r with | []=>RP b σ x | y::r=>(match r with | []=>RO b σ x y | _=>none))
noncomputable def wOf (v:V):Option (PyData ⊕ Nat):=match v with | .d x=>some (.inl x) | .ref k=>some (.inr k) | _=>none
noncomputable def Sp (ws:List V):Option V :=
 if ws.length<=line then (match DJ ws with
  | some ds=>some (.d (.tuple ds))
  | none=>(Ct wOf ws).bind fun us=>some (.tup us)) else none
noncomputable def LJ:List Str->List Nat->Str->Option Nat
 | a::as,k::ks,nm=>if a == nm then some k else LJ as ks nm
 | _,_,_=>none
noncomputable def TP (nm:Str) (v:V):Option V:=match v with | .obj ks=>(LJ CK ks nm).bind fun k=>some (.ref k) | _=>none
noncomputable def Wp (v:V):Option (List Nat):=match v with | .obj ks=>some ks | _=>none
noncomputable def QG (σ:Aa) (x:V) (ys:List V):Option V :=
 match ys with
 | y::r=>(match r with
  | []=>(BN x).bind fun z=>(A2 σ y).bind fun ws=>(Ct BN ws).bind fun ss=>if JoinOk z ss=true then some (.d (.str (Txt.join z ss))) else none
  | _=>none)
 | []=>none
noncomputable def Ik (σ:Aa) (x:V) (ys:List V):Option V :=
 match ys with
 | y::r=>(match r with
  | []=>(match x with | .ref k=>(CQ σ[k]?).bind fun ws=>(DJ ws).bind fun ds=>(Vl y).bind fun d=>(inD d ds).bind fun _=>(FV d ds).bind fun j=>some (vi j) | _=>none)
  | _=>none)
 | []=>none
noncomputable def R8 (o:Option O) (y z:V):Option V:=match o with | some o=>(match o with | .dictP kvs=>(HN y).bind fun q=>some (dfl (Ao kvs q) z) | _=>none) | none=>none
noncomputable def R7 (σ:Aa) (x:V) (ys:List V):Option V:=match ys with | y::r=>(match r with | z::r=>(match r with | []=>(match x with | .ref k=>R8 σ[k]? y z | _=>none) | _=>none) | []=>none) | []=>none
noncomputable def Ui (m:MV) (σ:Aa) (x:V) (ys:List V):Option V:=match m with | .join=>QG σ x ys | .index=>Ik σ x ys | .get=>R7 σ x ys | _=>none
noncomputable def Dw (f:V->Option (Option V)):List V->Option (List V)
 | []=>some []
 | v::r=>(f v).bind fun x=>(Dw f r).bind fun xs=>some (match x with | some y=>y::xs | none=>xs)
noncomputable def Ol (ts:List Nat) (v:V):Bool:=Nat.beq ts.length 1||(match BY v with | some vs=>Nat.beq vs.length ts.length | none=>false)
noncomputable abbrev Its:=List V×List (Nat×List V)
noncomputable def DT (σ:Aa) (v:V):Option Its:=match BN v with | some z=>if z.cps.all (· < 128)=true then some (Fm z.cps.toList,[]) else none | none=>(A2 σ v).bind fun ws=>some (ws,Dd v ws)
noncomputable def PX (xs:List V):Option Its:=match xs with | x::r=>(match r with | []=>(Ci x).bind fun k=>if k<=1000000/\-1000000<=k then some (upV 0 k.toNat,[]) else none | _=>none) | []=>none
noncomputable def N6 (σ:Aa) (v:V):Option (List PyData):=(A2 σ v).bind DJ
noncomputable def Cp (e:E):Bool:=match e with | .var _=>true | .cst _=>true | .sub _ _=>true | .attr _ _=>true | _=>false
noncomputable def Vk (e:E):Bool:=match e with | .var _=>true | _=>false
noncomputable def B2 (ρ:Ah) (i:Nat):Option V:=match ρ[i]? with | some o=>o | none=>none
noncomputable abbrev Orc:=Nat->List V->Aa->Option V
structure Ev where
 v:Ah->Aa->Option V
 nl:Ah->Aa->Option (List V)
 row:Ah->Aa->Option (List V)
 it:Ah->Aa->Option Its
 t:Ah->Aa->Option Bool
 bo:BoolOp->Ah->Aa->Option V
 bt:BoolOp->Ah->Aa->Option Bool
 ts:Ah->Aa->Option Bool
noncomputable def Ev.no:Ev:=⟨fun _ _=>none,fun _ _=>none,fun _ _=>none,fun _ _=>none,fun _ _=>none,fun _ _ _=>none,fun _ _ _=>none,fun _ _=>none⟩
noncomputable def Ev.plain (f:Ah->Aa->Option V):Ev:={ Ev.no with v:=f,it:=fun ρ σ=>(f ρ σ).bind (DT σ),t:=fun ρ σ=>(f ρ σ).bind (Eo σ) }
noncomputable def Ev.made (f:Ah->Aa->Option V) (g:Ah->Aa->Option (List V)):Ev:={ Ev.plain f with nl:=fun ρ σ=>(g ρ σ).bind fun ws=>if ws.length<=line then some ws else none }
noncomputable def KP (e:E) (f:Ah->Aa->Option V) (ρ:Ah) (σ:Aa):Option (Option Int):=if B9 e=true then some none else (f ρ σ).bind fun v=>(Ci v).bind fun i=>some (some i)
noncomputable def ev (O:Orc):E->Ev
 | .cst x=>.plain fun _ _=>some (.d x)
 | .var i=>.plain fun ρ _=>B2 ρ i
 | .ty t=>.plain fun _ _=>some (.ty t)
 | .glb x=>.plain fun _ _=>some (.d x)
 | .bin op a b=>.made (fun ρ σ=>((ev O a).v ρ σ).bind fun x=>((ev O b).v ρ σ).bind fun y=>Gh op x y σ) fun ρ σ=>((ev O a).v ρ σ).bind fun x=>((ev O b).v ρ σ).bind fun y=>TM op x y σ
 | .neg a=>.plain fun ρ σ=>((ev O a).v ρ σ).bind fun x=>(Ci x).bind fun i=>some (vi (-i))
 | .not a=>{ Ev.no with v:=fun ρ σ=>((ev O a).v ρ σ).bind fun x=>(Eo σ x).bind fun t=>some (vb !t),t:=fun ρ σ=>HS ((ev O a).t ρ σ) }
 | .bop op es=>{ Ev.no with v:=(ev O es).bo op,t:=(ev O es).bt op }
 | .cmp op a b=>{ Ev.no with v:=fun ρ σ=>((ev O a).v ρ σ).bind fun x=>((ev O b).v ρ σ).bind fun y=>(B5 op x y σ).bind fun t=>some (vb t),t:=fun ρ σ=>((ev O a).v ρ σ).bind fun x=>((ev O b).v ρ σ).bind fun y=>B5 op x y σ }
 | .nil=>{ Ev.no with row:=fun _ _=>some [],bt:=fun op _ _=>some (!CG op),ts:=fun _ _=>some true }
 | .cons a r=>{ Ev.no with
  row:=fun ρ σ=>((ev O a).v ρ σ).bind fun x=>((ev O r).row ρ σ).bind fun xs=>some (x::xs)
  bo:=fun op ρ σ=>bif B9 r then (ev O a).v ρ σ else ((ev O a).v ρ σ).bind fun x=>(Eo σ x).bind fun t=>bif t == CG op then some x else (ev O r).bo op ρ σ
  bt:=fun op ρ σ=>((ev O a).t ρ σ).bind fun t=>bif t == CG op then some t else (ev O r).bt op ρ σ
  ts:=fun ρ σ=>((ev O a).t ρ σ).bind fun t=>bif t then (ev O r).ts ρ σ else some false }
 | .tup es=>.plain fun ρ σ=>((ev O es).row ρ σ).bind Sp
 | .lst es=>.made (fun ρ σ=>((ev O es).row ρ σ).bind mkL) fun ρ σ=>(ev O es).row ρ σ
 | .sub a i=>.plain fun ρ σ=>((ev O a).v ρ σ).bind fun x=>((ev O i).v ρ σ).bind fun y=>Bp x y σ
 | .slc a lo hi=>.made (fun ρ σ=>((ev O a).v ρ σ).bind fun x=>(KP lo (ev O lo).v ρ σ).bind fun l=>(KP hi (ev O hi).v ρ σ).bind fun h=>slice σ x l h) fun ρ σ=>((ev O a).v ρ σ).bind fun x=>(KP lo (ev O lo).v ρ σ).bind fun l=>(KP hi (ev O hi).v ρ σ).bind fun h=>TH σ x l h
 | .bi b es=>.made (fun ρ σ=>((ev O es).row ρ σ).bind (B6 b σ)) fun ρ σ=>((ev O es).row ρ σ).bind (Ok b σ)
 | .maxd a z=>.plain fun ρ σ=>((ev O a).v ρ σ).bind fun x=>((ev O z).v ρ σ).bind fun y=>(Ci y).bind fun k=>(A2 σ x).bind fun ws=>(Ct Ci ws).bind fun is=>some (vi (Ef k is))
 | .fcall f es=>.plain fun ρ σ=>((ev O es).row ρ σ).bind fun xs=>O f xs σ
 | .meth m o es=>.plain fun ρ σ=>bif Cp o then ((ev O o).v ρ σ).bind fun x=>((ev O es).row ρ σ).bind fun ys=>Ui m σ x ys else none
 | .attr nm o=>.plain fun ρ σ=>bif Vk o then ((ev O o).v ρ σ).bind (TP nm) else none
 | .mcall nm o es=>.plain fun ρ σ=>bif Cp o then ((ev O o).v ρ σ).bind fun x=>((ev O es).row ρ σ).bind fun ys=>(Wp x).bind fun ks=>(mtP nm).bind fun f=>O f (.obj ks::ys) σ else none
 | .comp elt ts it ifs=>.made (fun ρ σ=>(((ev O it).it ρ σ).bind fun p=>Dw (fun v=>bif Ol ts v then ((ev O ifs).ts (Cw (Bb ρ ts) ts v) σ).bind fun t=>bif t then ((ev O elt).v (Cw (Bb ρ ts) ts v) σ).bind (fun u=>some (some u)) else some none else none) p.1).bind mkL)
  fun ρ σ=>((ev O it).it ρ σ).bind fun p=>Dw (fun v=>bif Ol ts v then ((ev O ifs).ts (Cw (Bb ρ ts) ts v) σ).bind fun t=>bif t then ((ev O elt).v (Cw (Bb ρ ts) ts v) σ).bind (fun u=>some (some u)) else some none else none) p.1
 | .range es=>{ Ev.no with it:=fun ρ σ=>((ev O es).row ρ σ).bind PX }
 | .zip a b=>{ Ev.no with it:=fun ρ σ=>((ev O a).v ρ σ).bind fun x=>((ev O b).v ρ σ).bind fun y=>(A2 σ x).bind fun ds=>(A2 σ y).bind fun ds'=>some (He ds ds',Dd x ds++Dd y ds') }
 | .enum a=>{ Ev.no with it:=fun ρ σ=>((ev O a).v ρ σ).bind fun x=>(N6 σ x).bind fun ds=>some (GT 0 ds,Dd x (ds.map .d)) }
 | _=>Ev.no
end Mine
namespace Mine
open PySem
section
variable {σ:Aa} {v x y:V} {ws us:List V} {b:Bool} {i:Int} {z:Str} {lo hi:Option Int}
theorem Bo (h:Ci v=some i):v=vi i:=by
 cases v with
 | d x=>cases x with
  | int j=>rw [AAA h]
  | _=>exact Ac h
 | _=>exact Ac h
theorem Br (h:BN v=some z):v=.d (.str z):=by
 cases v with
 | d x=>cases x with
  | str j=>rw [AAA h]
  | _=>exact Ac h
 | _=>exact Ac h
theorem LC (h:Ei v=some b):v=vb b:=by
 cases v with
 | d x=>cases x with
  | bool j=>rw [AAA h]
  | _=>exact Ac h
 | _=>exact Ac h
theorem PZ {xs:List PyData} {q:Str×Int} (h:Qa xs=some q):xs=[.str q.1,.int q.2]:=by
 match xs,h with
 | [],h=>exact Ac h
 | [_],h=>exact Ac h
 | x::y::r,h=>cases x with
  | str a=>cases y with
   | int b=>cases r with
    | nil=>rw [<-AAA h]
    | cons _ _=>exact Ac h
   | _=>exact Ac h
  | _=>exact Ac h
theorem E0 {q:Str×Int} (h:HN v=some q):v=vp q:=by
 cases v with
 | d x=>cases x with
  | tuple j=>rw [PZ (show Qa j=some q from h)]
  | _=>exact Ac h
 | _=>exact Ac h
theorem DS {α:Type} {f:V->Option α} {g:α->V} (hf:∀ v x,f v=some x->v=g x):∀ {ws:List V} {xs:List α},Ct f ws=some xs->ws=xs.map g
 | [],_,h=>by rw [<-AAA h]; rfl
 | v::r,xs,h=>by
  obtain ⟨x,e,h⟩:=Ab h
  obtain ⟨ys,e',h⟩:=Ab h
  rw [<-AAA h,hf v x e,DS hf e']; rfl
theorem HU (h:mkL ws=some v):∃ ds,ws=ds.map .d/\ws.length<=line/\v=.d (.list ds):=by
 unfold mkL at h
 by_cases q:ws.length<=line
 ·rw [if_pos q] at h
  obtain ⟨ds,e,h⟩:=Ab h
  exact ⟨ds,Gl e,q,(AAA h).symm⟩
 ·rw [if_neg q] at h; exact Ac h
theorem JI {b':Bool} (h:Tr σ v b) (e:b=b'):Tr σ v b':=e▸h
theorem G4 {α β:Type} {f:α->β} (l:List α):(!(l.map f).isEmpty) = !l.isEmpty:=by cases l <;> rfl
theorem D8 (h:Eo σ v=some b):Tr σ v b:=by
 cases v with
 | d x=>cases x with
  | none=>exact AAA h▸Sq
  | bool b=>exact AAA h▸Nh
  | int i=>exact AAA h▸U7
  | str s=>exact AAA h▸U6
  | list xs=>exact JI (Ng (v:=.d (.list xs)) rfl) ((G4 xs).trans (AAA h))
  | tuple xs=>exact JI (U5 (v:=.d (.tuple xs)) rfl) ((G4 xs).trans (AAA h))
  | _=>exact Ac h
 | ref k =>
  obtain ⟨ws,e,h⟩:=Ab h
  exact JI (Ng (v:=.ref k) e) (AAA h)
 | _=>exact Ac h
theorem Kr {op:Operator} (h:TM op x y σ=some ws):VD (binaryOp op) x y σ ws:=by
 cases op with
 | Add =>
  obtain ⟨us,e,h⟩:=Ab h
  obtain ⟨us',e',h⟩:=Ab h
  obtain ⟨q,h⟩:=Ba h
  exact h▸UL e e' q
 | _=>exact Ac h
theorem EC {f:Int->Int->Option Int} {m:Value->Value->Sem Value} (hf:∀ i j k,f i j=some k->Pr2 m (vi i) (vi j) σ (vi k) σ) (h:JA f x y=some v):Pr2 m x y σ v σ:=by
 obtain ⟨i,e,h⟩:=Ab h
 obtain ⟨j,e',h⟩:=Ab h
 obtain ⟨k,e2,h⟩:=Ab h
 rw [Bo e,Bo e',<-AAA h]
 exact hf i j k e2
theorem FU {α:Type} {c:Prop} [Decidable c] {a b:α} (h:(if c then none else some a)=some b):¬ c/\a=b:=by
 by_cases hc:c
 ·rw [if_pos hc] at h; exact Ac h
 ·rw [if_neg hc] at h; exact ⟨hc,AAA h⟩
theorem RK {op:Operator} (h:Gh op x y σ=some v):Pr2 (binaryOp op) x y σ v σ\/∃ ws,TM op x y σ=some ws/\mkL ws=some v:=by
 cases op with
 | Add =>
  have h:VC x y σ=some v:=h
  unfold VC at h
  cases e:Ci x with
  | some i =>
   rw [e] at h
   obtain ⟨j,e',h⟩:=Ab h
   rw [Bo e,Bo e',<-AAA h]; exact .inl Wn
  | none =>
   rw [e] at h
   cases e':BN x with
   | some a =>
    rw [e'] at h
    obtain ⟨b,e2,h⟩:=Ab h
    obtain ⟨q,h⟩:=Ba h
    rw [Br e',Br e2,<-h]; exact .inl (Wm q)
   | none=>rw [e'] at h; exact .inr (Ab h)
 | Sub=>exact .inl (EC (fun i j k e=>AAA e▸Wd) h)
 | Mult=>exact .inl (EC (f:=fun i j=>if (small i||small j)=true then some (i * j) else none) (fun i j k e=>(Ba e).2▸We (Ba e).1) h)
 | FloorDiv=>exact .inl (EC (f:=fun i j=>if j=0 then none else some (i.fdiv j)) (fun i j k e=>(FU e).2▸Wl (FU e).1) h)
 | Mod=>exact .inl (EC (f:=fun i j=>if j=0 then none else some (i.fmod j)) (fun i j k e=>(FU e).2▸Wf (FU e).1) h)
 | _=>exact Ac h
theorem Hs {o:Option Bool} (h:HS o=some b):∃ c,o=some c/\b = !c:=by
 obtain ⟨c,e,h⟩:=Ab h
 exact ⟨c,e,(AAA h).symm⟩
theorem R1 (h:eqV σ x y=some b):Pr2 (compareOp .Eq) x y σ (vb b) σ/\Pr2 (compareOp .NotEq) x y σ (vb !b) σ:=by
 obtain ⟨d,e,h⟩:=Ab h
 obtain ⟨d',e',h⟩:=Ab h
 exact ⟨X1 e e' h,Xv e e' h⟩
theorem QK (h:isV x y=some b):Pr2 (compareOp .Is) x y σ (vb b) σ/\Pr2 (compareOp .IsNot) x y σ (vb !b) σ:=by
 cases y with
 | d z=>cases z with
  | none =>
   have h:(bif FI x then some false else Wz x)=some b:=h
   cases q:FI x with
   | true=>rw [q] at h; rw [<-AAA h]; exact Wg q
   | false =>
    rw [q] at h
    cases x with
    | d u=>cases u with
     | none=>rw [<-AAA h]; exact Xy
     | _=>exact Ac h
    | _=>exact Ac h
  | _=>exact Ac h
 | _=>exact Ac h
theorem Lj (h:NJ σ x y=some b):Pr2 (compareOp .In) x y σ (vb b) σ/\Pr2 (compareOp .NotIn) x y σ (vb !b) σ:=by
 obtain ⟨d,e,h⟩:=Ab h
 obtain ⟨d',e',h⟩:=Ab h
 cases d' with
 | list ds=>exact QQ e (.inl e') h
 | tuple ds=>exact QQ e (.inr e') h
 | _=>exact Ac h
theorem Il (h:(match BN y with | some w=>(BN x).bind fun u=>some (Txt.contains w u) | none=>NJ σ x y)=some b):Pr2 (compareOp .In) x y σ (vb b) σ/\Pr2 (compareOp .NotIn) x y σ (vb !b) σ:=by
 cases e:BN y with
 | some w =>
  rw [e] at h
  obtain ⟨u,e',h⟩:=Ab h
  rw [Br e,Br e',<-AAA h]; exact Wh
 | none=>rw [e] at h; exact Lj h
theorem QV (h:inV σ x y=some b):Pr2 (compareOp .In) x y σ (vb b) σ/\Pr2 (compareOp .NotIn) x y σ (vb !b) σ:=by
 cases y with
 | ref k =>
  have h:inO σ x k σ[k]? = some b:=h
  cases e:σ[k]? with
  | none=>rw [e] at h; exact Ac h
  | some o =>
   rw [e] at h
   cases o with
   | list ws=>exact Lj h
   | dictS kvs=>obtain ⟨u,e',h⟩:=Ab h; rw [Br e',<-AAA h]; exact Wi e
   | dictP kvs=>obtain ⟨u,e',h⟩:=Ab h; rw [E0 e',<-AAA h]; exact Wj e
 | d z=>exact Il h
 | tup z=>exact Il h
 | pr _ _=>exact Il h
 | ty z=>exact Il h
 | obj z=>exact Il h
theorem Hu {f:Int->Int->Bool} {m:Value->Value->Sem Value} (hf:∀ i j,Pr2 m (vi i) (vi j) σ (vb (f i j)) σ) (h:RF f x y=some b):Pr2 m x y σ (vb b) σ:=by
 obtain ⟨i,e,h⟩:=Ab h
 obtain ⟨j,e',h⟩:=Ab h
 rw [Bo e,Bo e',<-AAA h]
 exact hf i j
theorem L2 {op:CmpOp} (h:B5 op x y σ=some b):Pr2 (compareOp op) x y σ (vb b) σ:=by
 cases op with
 | Eq=>exact (R1 h).1
 | NotEq=>obtain ⟨c,e,rfl⟩:=Hs h; exact (R1 e).2
 | Lt=>exact Hu (fun _ _=>Xw) h
 | LtE=>exact Hu (fun _ _=>Xx) h
 | Gt=>exact Hu (fun _ _=>Xz) h
 | GtE =>
  have h:geV x y=some b:=h
  unfold geV at h
  cases e:BN x with
  | some a =>
   rw [e] at h
   obtain ⟨b',e2,h⟩:=Ab h
   rw [Br e,Br e2,<-AAA h]; exact Wk
  | none=>rw [e] at h; exact Hu (fun _ _=>X0) h
 | Is=>exact (QK h).1
 | IsNot=>obtain ⟨c,e,rfl⟩:=Hs h; exact (QK e).2
 | In=>exact (QV h).1
 | NotIn=>obtain ⟨c,e,rfl⟩:=Hs h; exact (QV e).2
theorem KR {k:Int} (h:nth ws k=some v):small k=true/\∃ j,seqIndex? k ws.length=some j/\ws[j]? = some v:=by
 unfold nth at h
 by_cases q:small k=true
 ·rw [if_pos q] at h; exact ⟨q,Ab h⟩
 ·rw [if_neg q] at h; exact Ac h
theorem N0 (e:A2 σ x=some ws) (h:(Ci y).bind (nth ws)=some v):PrG x y σ v:=by
 obtain ⟨k,e',h⟩:=Ab h
 obtain ⟨q,j,h1,h2⟩:=KR h
 rw [Bo e']; exact Vu e q h1 h2
theorem F5 (h:(match BN x with
 | some z=>(Ci y).bind fun k=>if small k=true then (Txt.charAt z k).bind fun c=>some (.d (.str (L9 c))) else none
 | none=>(match BY x with
  | some ws=>(Ci y).bind (nth ws)
  | none=>(A2 σ x).bind fun ws=>(Ci y).bind (nth ws)))=some v):PrG x y σ v:=by
 cases e:BN x with
 | some z =>
  rw [e] at h
  obtain ⟨k,e',h⟩:=Ab h
  by_cases q:small k=true
  ·rw [if_pos q] at h
   obtain ⟨c,e2,h⟩:=Ab h
   rw [Br e,Bo e',<-AAA h]; exact W7 q e2
  ·rw [if_neg q] at h; exact Ac h
 | none =>
  rw [e] at h
  cases e2:BY x with
  | some ws =>
   rw [e2] at h
   obtain ⟨k,e',h⟩:=Ab h
   obtain ⟨q,j,h1,h2⟩:=KR h
   rw [Bo e']; exact W6 e2 q h1 h2
  | none=>rw [e2] at h; obtain ⟨ws,e3,h⟩:=Ab h; exact N0 e3 h
theorem Gu (h:Bp x y σ=some v):PrG x y σ v:=by
 cases x with
 | ref k =>
  have h:O6 σ y σ[k]? = some v:=h
  cases e:σ[k]? with
  | none=>rw [e] at h; exact Ac h
  | some o =>
   rw [e] at h
   cases o with
   | list ws=>exact N0 (x:=.ref k) (by show CQ σ[k]? = _; rw [e]; rfl) h
   | dictS kvs =>
    obtain ⟨u,e',h⟩:=Ab h
    obtain ⟨d,e2,h⟩:=Ab h
    rw [Br e',<-AAA h]; exact Tz e e2
   | dictP kvs =>
    obtain ⟨u,e',h⟩:=Ab h
    obtain ⟨d,e2,h⟩:=Ab h
    rw [E0 e',<-AAA h]; exact T0 e e2
 | d z=>exact F5 h
 | tup z=>exact F5 h
 | pr _ _=>exact F5 h
 | ty z=>exact F5 h
 | obj z=>exact F5 h
theorem Oh (h:TH σ x lo hi=some ws):PrC x σ lo hi fun r g=>B4 r g σ ws:=by
 obtain ⟨us,e,h⟩:=Ab h
 exact AAA h▸V6 e
theorem PF (h:slice σ x lo hi=some v):(PrC x σ lo hi fun r g=>Ans r g v σ)\/∃ ws,TH σ x lo hi=some ws/\mkL ws=some v:=by
 unfold slice at h
 cases e:BN x with
 | some z=>rw [e] at h; rw [Br e,<-AAA h]; exact .inl WI
 | none=>rw [e] at h; exact .inr (Ab h)
theorem E5 (x:Str):∀ l:List Str,(DV x l).Perm (x::l)
 | []=>.refl _
 | y::r=>by
  show (if Bh x y=true then x::y::r else y::DV x r).Perm _
  by_cases q:Bh x y=true
  ·rw [if_pos q]
  ·rw [if_neg q]; exact (List.Perm.cons y (E5 x r)).trans (.swap ..)
theorem F7:∀ l:List Str,(Dq l).Perm l
 | []=>.refl _
 | x::r=>(E5 x _).trans (.cons x (F7 r))
theorem Mu {a b:Str} (h:Bh a b=true):Bh b a=false:=AAT fun q=>List.lt_irrefl _ (List.lt_trans (AAG h) q)
theorem Q0 {a b c:Str} (h1:Bh a b=true) (h2:Bh c b=false):Bh c a=false:=AAT fun q=>ABG h2 (List.lt_trans q (AAG h1))
theorem Fb (x:Str):∀ l:List Str,D6 l->D6 (DV x l)
 | [],_=>List.pairwise_singleton ..
 | y::r,h=>by
  have h1:=List.pairwise_cons.mp h
  show D6 (if Bh x y=true then x::y::r else y::DV x r)
  by_cases q:Bh x y=true
  ·rw [if_pos q]
   refine List.pairwise_cons.mpr ⟨fun w hw=>?_,h⟩
   rcases AAR.mp hw with rfl | hw
   ·exact Mu q
   ·exact Q0 q (h1.1 w hw)
  ·rw [if_neg q]
   refine List.pairwise_cons.mpr ⟨fun w hw=>?_,Fb x r h1.2⟩
   rcases AAR.mp ((E5 x r).mem_iff.mp hw) with rfl | hw
   ·rw [Bool.not_eq_true] at q; exact q
   ·exact h1.1 w hw
theorem CX:∀ l:List Str,D6 (Dq l)
 | []=>.nil
 | x::r=>Fb x _ (CX r)
theorem O3 (h:toList σ x=some ws):P2 (fun X=>call (Bd .list) [X]) x σ ws:=by
 cases x with
 | ref k =>
  have h:NC σ[k]? = some ws:=h
  cases e:σ[k]? with
  | none=>rw [e] at h; exact Ac h
  | some o =>
   rw [e] at h
   cases o with
   | list us=>rw [<-AAA h]; exact Rt (x:=.ref k) (by show CQ σ[k]? = _; rw [e]; rfl)
   | dictS kvs =>
    obtain ⟨q,h⟩:=Ba (show (if kvs.all (fun p=>decide (p.1.length<=line))=true then some (vss (kvs.map (·.1))) else none)=some ws from h)
    rw [<-h]; exact TC e fun p hp=>AAG (List.all_eq_true.mp q p hp)
   | dictP kvs=>exact Ac h
 | d z=>exact Rt h
 | tup z=>exact Ac h
 | pr _ _=>exact Ac h
 | ty z=>exact Ac h
 | obj z=>exact Ac h
theorem J7 {b:Bi} (h:IK b σ x=some ws):P2 (fun X=>call (Bd b) [X]) x σ ws:=by
 cases b with
 | list=>exact O3 h
 | sorted =>
  obtain ⟨us,e,h⟩:=Ab h
  obtain ⟨ss,e',h⟩:=Ab h
  obtain ⟨q,h⟩:=Ba h
  rw [<-h]
  exact Rs (e.trans (congrArg some (DS (g:=fun y=>.d (.str y)) (fun _ _=>Br) e'))) q (F7 ss) (CX ss)
 | _=>exact Ac h
theorem N9 (h:Va σ x=some v):Pr1 (fun X=>call (Bd .len) [X]) x σ v σ:=by
 unfold Va at h
 cases e:BN x with
 | some z=>rw [e] at h; rw [Br e,<-AAA h]; exact Vy
 | none =>
  rw [e] at h
  cases e2:BY x with
  | some ws=>rw [e2] at h; rw [<-AAA h]; exact Vx e2
  | none=>rw [e2] at h; obtain ⟨ws,e3,h⟩:=Ab h; rw [<-AAA h]; exact WD e3
theorem UM {z:Str} (h:(match z.cps.toList with | c::r=>(match r with | []=>some (vi c) | _=>none) | []=>none)=some v):Pr1 (fun X=>call (Bd .ord) [X]) (.d (.str z)) σ v σ:=by
 match e:z.cps.toList,h with
 | [],h=>exact Ac h
 | [c],h =>
  rw [<-AAA h,show z=L9 c by rw [show z=⟨z.cps⟩ from rfl,<-Array.toArray_toList (xs:=z.cps),e]; rfl]
  exact WB
 | _::_::_,h=>exact Ac h
theorem PT (h:Ue x=some v):Pr1 (fun X=>call (Bd .repr) [X]) x σ v σ:=by
 cases x with
 | d y=>cases y with
  | list ds =>
   have h:(bif OD (.list ds) then some (.d (.str (PyData.list ds).shown)) else none)=some v:=h
   cases q:OD (.list ds) with
   | false=>rw [q] at h; exact Ac h
   | true =>
    rw [q] at h
    exact AAA (show some (V.d (.str (PyData.list ds).shown))=some v from h)▸Vw (No.mp q)
  | _=>exact Ac h
 | _=>exact Ac h
theorem Pv {b:Bi} (h:RP b σ x=some v):Pr1 (fun X=>call (Bd b) [X]) x σ v σ\/∃ ws,IK b σ x=some ws/\mkL ws=some v:=by
 cases b with
 | len=>exact .inl (N9 h)
 | str =>
  obtain ⟨i,e,h⟩:=Ab h
  obtain ⟨q,h⟩:=Ba h
  rw [Bo e,<-h]; exact .inl (WA q)
 | all =>
  obtain ⟨us,e,h⟩:=Ab h
  obtain ⟨ss,e',h⟩:=Ab h
  rw [<-AAA h]
  exact .inl (WF (e.trans (congrArg some (DS (g:=fun y=>.d (.bool y)) (fun _ _=>LC) e'))))
 | any =>
  obtain ⟨us,e,h⟩:=Ab h
  obtain ⟨ss,e',h⟩:=Ab h
  rw [<-AAA h]
  exact .inl (WE (e.trans (congrArg some (DS (g:=fun y=>.d (.bool y)) (fun _ _=>LC) e'))))
 | ord =>
  obtain ⟨z,e,h⟩:=Ab h
  rw [Br e]; exact .inl (UM h)
 | repr=>exact .inl (PT h)
 | _=>exact .inr (Ab h)
theorem OU (h:O1 σ x=some "int"):∃ i,x=vi i:=by
 cases x with
 | d y=>cases y with
  | int i=>exact ⟨i,rfl⟩
  | none=>exact Ac h
  | dict _=>exact Ac h
  | _=>exact absurd (AAA h) (by decide)
 | tup _=>exact absurd (AAA h) (by decide)
 | ref k=>obtain ⟨_,_,h⟩:=Ab h; exact absurd (AAA h) (by decide)
 | _=>exact Ac h
theorem Tk {t:String} (h:Wx σ x t=some b):Pr2 (fun X Y=>call (Bd .isinstance) [X,Y]) x (.ty t) σ (vb b) σ:=by
 obtain ⟨u,e,h⟩:=Ab h
 by_cases q:u=t
 ·rw [if_pos q] at h
  obtain ⟨q',h2⟩:=Ba h
  subst q
  rw [<-h2]
  rcases q' with q' | q' | q' | q'
  ·subst q'; exact NX e (by kernel_rfl) (by rw [isSubtype_type]; kernel_rfl)
  ·subst q'; exact NX e (by kernel_rfl) (by rw [isSubtype_type]; kernel_rfl)
  ·subst q'; exact NX e (by kernel_rfl) (by rw [isSubtype_type]; kernel_rfl)
  ·subst q'; exact NX e (by kernel_rfl) (by rw [isSubtype_type]; kernel_rfl)
 ·rw [if_neg q] at h
  obtain ⟨⟨q1,q2⟩,h2⟩:=Ba h
  subst q1 q2
  obtain ⟨i,rfl⟩:=OU e
  rw [<-h2]; exact Vz
theorem Pu {b:Bi} (h:RO b σ x y=some v):Pr2 (fun X Y=>call (Bd b) [X,Y]) x y σ v σ:=by
 cases b with
 | min=>exact EC (fun i j k e=>AAA e▸WC) h
 | isinstance =>
  cases y with
  | ty t=>obtain ⟨b,e,h⟩:=Ab h; rw [<-AAA h]; exact Tk e
  | _=>exact Ac h
 | _=>exact Ac h
theorem U1 {u:PyData ⊕ Nat} (h:wOf v=some u):v=wv u:=by
 cases v with
 | d x=>rw [<-AAA h]; rfl
 | ref k=>rw [<-AAA h]; rfl
 | _=>exact Ac h
theorem LI {nm:Str}:∀ {as:List Str} {ks:List Nat} {k:Nat},LJ as ks nm=some k->∃ f:Nat,as[f]? = some nm/\ks[f]? = some k
 | [],_,_,h=>Ac h
 | _::_,[],_,h=>Ac h
 | a::as,k'::ks,k,h=>by
  have h:(if (a == nm)=true then some k' else LJ as ks nm)=some k:=h
  by_cases q:(a == nm)=true
  ·rw [if_pos q] at h; exact ⟨0,by rw [ABM q]; rfl,h⟩
  ·rw [if_neg q] at h
   obtain ⟨f,h1,h2⟩:=LI h
   exact ⟨f+1,h1,h2⟩
theorem RL {ts:List Nat} (h:Ol ts v=true):EB ts v:=by
 rcases ABC.mp h with q | q
 ·exact .inl (Nat.eq_of_beq_eq_true q)
 ·cases e:BY v with
  | none=>rw [e] at q; exact ff_ q
  | some vs=>rw [e] at q; exact .inr ⟨vs,e,Nat.eq_of_beq_eq_true q⟩
end
end Mine
namespace Mine
open PySem
structure Cz (n:Nat) (e:E) (w:Ev):Prop where
 v:∀ {ρ σ x},w.v ρ σ=some x->SE n e ρ σ x σ
 nl:∀ {ρ σ ws},w.nl ρ σ=some ws->SL n e ρ σ ws σ
 row:∀ {ρ σ xs},w.row ρ σ=some xs->SEs n e ρ σ xs σ
 it:∀ {ρ σ p},w.it ρ σ=some p->SI n e ρ σ p.1 p.2 σ/\Co σ p.2
 t:∀ {ρ σ b},w.t ρ σ=some b->ST n e ρ σ b σ
 bo:∀ {op ρ σ x},w.bo op ρ σ=some x->SB n op e ρ σ x σ
 bt:∀ {op ρ σ b},w.bt op ρ σ=some b->SBt n op e ρ σ b σ
 ts:∀ {ρ σ b},w.ts ρ σ=some b->SIf n e ρ σ b σ
noncomputable def JY (e:E):Bool:=match e with | .not _=>true | .bop _ _=>true | .cmp _ _ _=>true | _=>false
theorem K9 (e:E) {K:Kx} {ex:Expr} (hp:JY e=false) (h:IsE e K ex):∀ env w,isTrue ex env w=(w>>=fun v=>standAt ex.pos>>=fun _=>holding [v] (truthy v)):=by
 cases e with
 | nil=>exact h.elim
 | cons _ _=>exact h.elim
 | not _=>exact tt_ hp
 | bop _ _=>exact tt_ hp
 | cmp _ _ _=>exact tt_ hp
 | _=>exact h (fun ex=>∀ env w,isTrue ex env w=(w>>=fun v=>standAt ex.pos>>=fun _=>holding [v] (truthy v))) (by intros; rfl)
section
variable {n:Nat} {e a b r:E} {O:Orc} {f:Ah->Aa->Option V} {g:Ah->Aa->Option (List V)} {ρ:Ah} {σ:Aa} {ws:List V} {v x:V}
theorem FP {v:V} {ws:List V} (h:A2 σ v=some ws):Co σ (Dd v ws):=fun k us m=>by
 cases v with
 | ref j =>
  have m:(k,us)∈[(j,ws)]:=m
  obtain ⟨rfl,rfl⟩:=ABK (AAJ.mp m)
  exact C8 h
 | _=>exact nomatch m
theorem QH {p:Its} (hz:BT e=false) (h:SE n e ρ σ v σ) (hv:DT σ v=some p):SI n e ρ σ p.1 p.2 σ/\Co σ p.2:=by
 unfold DT at hv
 cases q:BN v with
 | some z =>
  rw [q] at hv
  obtain ⟨ha,hv⟩:=Ba hv
  rw [Br q] at h
  exact hv▸⟨SI.str h ha hz,fun _ _ m=>nomatch m⟩
 | none =>
  rw [q] at hv
  obtain ⟨ws,e1,hv⟩:=Ab hv
  exact AAA hv▸⟨.lst h e1 hz,FP e1⟩
theorem Cz.plain (h:∀ {ρ σ x},f ρ σ=some x->SE n e ρ σ x σ) (hl:JY e=false:=by rfl) (hz:BT e=false:=by rfl):Cz n e (.plain f) where
 v:=h
 nl:=fun h=>Ac h
 row:=fun h=>Ac h
 it:=fun q=>by obtain ⟨x,e1,q⟩:=Ab q; exact QH hz (h e1) q
 t:=fun q=>by obtain ⟨x,e1,q⟩:=Ab q; exact ST.plain (fun hc=>K9 e hl hc) (h e1) (D8 q)
 bo:=fun h=>Ac h
 bt:=fun h=>Ac h
 ts:=fun h=>Ac h
theorem Cz.made (h:∀ {ρ σ x},f ρ σ=some x->SE n e ρ σ x σ) (hg:∀ {ρ σ ws},g ρ σ=some ws->ws.length<=line->SL n e ρ σ ws σ) (hl:JY e=false:=by rfl) (hz:BT e=false:=by rfl):Cz n e (.made f g) :=
 { Cz.plain h hl hz with nl:=fun q=>by obtain ⟨us,e1,q⟩:=Ab q; obtain ⟨q1,q2⟩:=Ba q; exact q2▸hg e1 q1 }
theorem GA (h:SL n e ρ σ ws σ) (hv:mkL ws=some v):SE n e ρ σ v σ:=by
 obtain ⟨ds,e,_,rfl⟩:=HU hv
 rw [e] at h
 exact SE.frz h
theorem Cz.no:Cz n e .no:=⟨fun h=>Ac h,fun h=>Ac h,fun h=>Ac h,fun h=>Ac h,fun h=>Ac h,fun h=>Ac h,fun h=>Ac h,fun h=>Ac h⟩
theorem G0 {l:Option Int} (h:∀ {ρ σ x},f ρ σ=some x->SE n e ρ σ x σ) (q:KP e f ρ σ=some l):SO n e ρ σ l σ:=by
 unfold KP at q
 by_cases c:B9 e=true
 ·rw [if_pos c] at q
  rw [<-AAA q]
  cases e with
  | nil=>exact .none
  | _=>exact ff_ c
 ·rw [if_neg c] at q
  obtain ⟨y,e1,q⟩:=Ab q
  obtain ⟨i,e2,q⟩:=Ab q
  rw [<-AAA q]
  exact .some (Bool.not_eq_true _▸c) (Bo e2▸h e1)
theorem DI (h:Cp e=true):Ek e:=by
 cases e with
 | var _=>exact Ay
 | cst _=>exact Px
 | sub _ _=>exact Pw
 | attr _ _=>exact IM
 | _=>exact ff_ h
theorem Gj {α:Type} {c:Bool} {o:Option α} {y:α} (h:(bif c then o else none)=some y):c=true/\o=some y:=by cases c with | true=>exact ⟨rfl,h⟩ | false=>exact Ac h
theorem Di {elt ifs:E} {ts:List Nat} {kps:List (Nat×List V)} {w1 w2:Ev} (h1:Cz n elt w1) (h2:Cz n ifs w2) (hk:Co σ kps):∀ {vs ws:List V},Dw (fun v=>bif Ol ts v then (w2.ts (Cw (Bb ρ ts) ts v) σ).bind fun t=>bif t then (w1.v (Cw (Bb ρ ts) ts v) σ).bind (fun u=>some (some u)) else some none else none) vs=some ws->Gs n elt ts ifs kps ρ σ vs σ ws
 | [],ws,h=>⟨hk,(AAA h).symm,rfl⟩
 | v::vs,ws,h=>by
  obtain ⟨o,e1,h⟩:=Ab h
  obtain ⟨us,e2,h⟩:=Ab h
  obtain ⟨hb,e1⟩:=Gj e1
  obtain ⟨t,e3,e1⟩:=Ab e1
  refine ⟨hk,RL hb,t,σ,h2.ts e3,fun q=>?_,fun q=>?_⟩
  ·subst q
   rw [<-AAA (show some none=some o from e1)] at h
   rw [<-AAA (show some us=some ws from h)]
   exact Di h1 h2 hk e2
  ·subst q
   obtain ⟨u,e4,e1⟩:=Ab (show (w1.v (Cw (Bb ρ ts) ts v) σ).bind (fun u=>some (some u))=some o from e1)
   rw [<-AAA e1] at h
   exact ⟨u,us,σ,h1.v e4,(AAA (show some (u::us)=some ws from h)).symm,Di h1 h2 hk e2⟩
theorem Ic {ds:List PyData} (h:N6 σ v=some ds):A2 σ v=some (ds.map .d):=by
 obtain ⟨ws,e1,h⟩:=Ab h
 rw [e1,Gl h]
end
section
variable {n:Nat} {O:Orc} (hO:∀ f xs σ v,O f xs σ=some v->FN n f xs σ v σ)
include hO
theorem TD {m:MV} {o es:E} {ρ:Ah} {σ:Aa} {x v:V} {ys:List V} (hb:Cp o=true) (h1:SE n o ρ σ x σ) (h2:SEs n es ρ σ ys σ) (h:Ui m σ x ys=some v):SE n (.meth m o es) ρ σ v σ:=by
 cases m with
 | join =>
  have h:QG σ x ys=some v:=h
  match ys,h with
  | [],h=>exact Ac h
  | [y],h =>
   obtain ⟨z,e1,h⟩:=Ab h
   obtain ⟨ws,e2,h⟩:=Ab h
   obtain ⟨ss,e3,h⟩:=Ab h
   obtain ⟨q,h⟩:=Ba h
   rw [Br e1] at h1
   exact h▸SE.join (DI hb) (e2.trans (congrArg some (DS (g:=fun y=>.d (.str y)) (fun _ _=>Br) e3))) q h1 h2
  | _::_::_,h=>exact Ac h
 | index =>
  have h:Ik σ x ys=some v:=h
  match ys,h with
  | [],h=>exact Ac h
  | [y],h =>
   cases x with
   | ref k =>
    obtain ⟨ws,e1,h⟩:=Ab (show (CQ σ[k]?).bind (fun ws=>(DJ ws).bind fun ds=>(Vl y).bind fun d=>(inD d ds).bind fun _=>(FV d ds).bind fun j=>some (vi j))=some v from h)
    obtain ⟨ds,e2,h⟩:=Ab h
    obtain ⟨d,e3,h⟩:=Ab h
    obtain ⟨q,e4,h⟩:=Ab h
    obtain ⟨j,e5,h⟩:=Ab h
    have hy:y=.d d:=by cases y with | d z=>rw [AAA e3] | _=>exact Ac e3
    rw [hy] at h2
    rw [Gl e2] at e1
    exact AAA h▸SE.lmeth (DI hb) F.slot_list_index F.type_list_index h1 h2 (C8 e1) (C8 e1) (SU e4 e5)
   | _=>exact Ac h
  | _::_::_,h=>exact Ac h
 | get =>
  have h:R7 σ x ys=some v:=h
  match ys,h with
  | [],h=>exact Ac h
  | [_],h=>exact Ac h
  | [y,z],h =>
   cases x with
   | ref k =>
    have h:R8 σ[k]? y z=some v:=h
    cases e:σ[k]? with
    | none=>rw [e] at h; exact Ac h
    | some o =>
     rw [e] at h
     cases o with
     | dictP kvs =>
      obtain ⟨q,e1,h⟩:=Ab (show (HN y).bind (fun q=>some (dfl (Ao kvs q) z))=some v from h)
      rw [E0 e1] at h2
      exact AAA h▸SE.getP (DI hb) h1 h2 e e
     | _=>exact Ac h
   | _=>exact Ac h
  | _::_::_::_,h=>exact Ac h
 | _=>exact Ac h
theorem Ae:∀ e:E,Cz n e (ev O e)
 | .cst x=>.plain fun h=>AAA h▸.cst x
 | .var i=>.plain fun {ρ σ x} h=>.var (by
  have h:(match ρ[i]? with | some o=>o | none=>none)=some x:=h
  cases e:ρ[i]? with
  | none=>rw [e] at h; exact Ac h
  | some o=>rw [e] at h; rw [show o=some x from h])
 | .ty t=>.plain fun h=>AAA h▸.ty
 | .glb x=>.plain fun h=>AAA h▸.glb
 | .bin op a b=>.made (fun h=>by
  obtain ⟨x,e1,h⟩:=Ab h
  obtain ⟨y,e2,h⟩:=Ab h
  rcases RK h with q | ⟨ws,q1,q2⟩
  ·exact .bin ((Ae a).v e1) ((Ae b).v e2) q
  ·exact GA (.bin ((Ae a).v e1) ((Ae b).v e2) (Kr q1)) q2) fun h hl=>by
  obtain ⟨x,e1,h⟩:=Ab h
  obtain ⟨y,e2,h⟩:=Ab h
  exact .bin ((Ae a).v e1) ((Ae b).v e2) (Kr h)
 | .neg a=>.plain fun h=>by
  obtain ⟨x,e1,h⟩:=Ab h
  obtain ⟨i,e2,h⟩:=Ab h
  exact AAA h▸.neg (Bo e2▸(Ae a).v e1)
 | .not a=>{ Cz.no with
  v:=fun h=>by
   obtain ⟨x,e1,h⟩:=Ab h
   obtain ⟨t,e2,h⟩:=Ab h
   exact AAA h▸.not ((Ae a).v e1) (D8 e2)
  t:=fun h=>by obtain ⟨c,e1,e2⟩:=Hs h; exact e2▸.not ((Ae a).t e1) }
 | .bop op es=>{ Cz.no with v:=fun h=>.bop ((Ae es).bo h),t:=fun h=>.bop ((Ae es).bt h) }
 | .cmp op a b=>{ Cz.no with
  v:=fun h=>by
   obtain ⟨x,e1,h⟩:=Ab h
   obtain ⟨y,e2,h⟩:=Ab h
   obtain ⟨t,e3,h⟩:=Ab h
   exact AAA h▸.cmp ((Ae a).v e1) ((Ae b).v e2) (L2 e3)
  t:=fun h=>by
   obtain ⟨x,e1,h⟩:=Ab h
   obtain ⟨y,e2,h⟩:=Ab h
   exact .cmp ((Ae a).v e1) ((Ae b).v e2) (L2 h) }
 | .nil=>{ Cz.no with row:=fun h=>AAA h▸.nil,bt:=fun h=>AAA h▸.nil,ts:=fun h=>AAA h▸.nil }
 | .cons a r=>{ Cz.no with
  row:=fun h=>by
   obtain ⟨x,e1,h⟩:=Ab h
   obtain ⟨xs,e2,h⟩:=Ab h
   exact AAA h▸.cons ((Ae a).v e1) ((Ae r).row e2)
  bo:=fun {op ρ σ x} h=>by
   have h:(bif B9 r then (ev O a).v ρ σ else ((ev O a).v ρ σ).bind fun x=>(Eo σ x).bind fun t=>bif t == CG op then some x else (ev O r).bo op ρ σ)=some x:=h
   cases q:B9 r with
   | true =>
    rw [q] at h
    have e:r=.nil:=by cases r with | nil=>rfl | _=>exact ff_ q
    rw [e]; exact .one ((Ae a).v h)
   | false =>
    rw [q] at h
    obtain ⟨y,e1,h⟩:=Ab (show ((ev O a).v ρ σ).bind (fun x=>(Eo σ x).bind fun t=>bif t == CG op then some x else (ev O r).bo op ρ σ)=some x from h)
    obtain ⟨t,e2,h⟩:=Ab h
    refine .more q ((Ae a).v e1) (D8 e2) (fun c=>?_) fun c=>?_
    ·rw [beq_iff_eq.mpr c] at h; exact ⟨(AAA h).symm,rfl⟩
    ·rw [beq_eq_false_iff_ne.mpr c] at h; exact (Ae r).bo h
  bt:=fun {op ρ σ b} h=>by
   obtain ⟨t,e1,h⟩:=Ab h
   refine .cons ((Ae a).t e1) (fun c=>?_) fun c=>?_
   ·rw [beq_iff_eq.mpr c] at h; exact ⟨(AAA h).symm,rfl⟩
   ·rw [beq_eq_false_iff_ne.mpr c] at h; exact (Ae r).bt h
  ts:=fun {ρ σ b} h=>by
   obtain ⟨t,e1,h⟩:=Ab h
   cases t with
   | true=>exact .cons ((Ae a).t e1) ((Ae r).ts h)
   | false=>exact AAA (show some false=some b from h)▸.no ((Ae a).t e1) }
 | .tup es=>.plain fun {ρ σ x} h=>by
  obtain ⟨ws,e1,h⟩:=Ab h
  unfold Sp at h
  by_cases q:ws.length<=line
  ·rw [if_pos q] at h
   cases e2:DJ ws with
   | some ds =>
    rw [e2] at h
    have e3:=Gl e2
    have e4:=(Ae es).row e1
    rw [e3] at e4 q
    rw [AAB] at q
    exact AAA (show some (V.d (.tuple ds))=some x from h)▸.tup e4 q
   | none =>
    rw [e2] at h
    obtain ⟨us,e3,h⟩:=Ab (show (Ct wOf ws).bind (fun us=>some (V.tup us))=some x from h)
    have e4:=(Ae es).row e1
    rw [DS (g:=wv) (fun _ _=>U1) e3] at e4 q
    rw [AAB] at q
    exact AAA h▸.tupR e4 q
  ·rw [if_neg q] at h; exact Ac h
 | .lst es=>.made (fun h=>by
  obtain ⟨ws,e1,h⟩:=Ab h
  obtain ⟨_,_,q,_⟩:=HU h
  exact GA (.lst ((Ae es).row e1) q) h) fun h hl=>.lst ((Ae es).row h) hl
 | .sub a i=>.plain fun h=>by
  obtain ⟨x,e1,h⟩:=Ab h
  obtain ⟨y,e2,h⟩:=Ab h
  exact .sub ((Ae a).v e1) ((Ae i).v e2) (Gu h)
 | .slc a lo hi=>.made (fun h=>by
  obtain ⟨x,e1,h⟩:=Ab h
  obtain ⟨l,e2,h⟩:=Ab h
  obtain ⟨u,e3,h⟩:=Ab h
  rcases PF h with q | ⟨ws,q1,q2⟩
  ·exact .slc ((Ae a).v e1) (G0 (Ae lo).v e2) (G0 (Ae hi).v e3) q
  ·exact GA (.slc ((Ae a).v e1) (G0 (Ae lo).v e2) (G0 (Ae hi).v e3) (Oh q1)) q2) fun h hl=>by
  obtain ⟨x,e1,h⟩:=Ab h
  obtain ⟨l,e2,h⟩:=Ab h
  obtain ⟨u,e3,h⟩:=Ab h
  exact .slc ((Ae a).v e1) (G0 (Ae lo).v e2) (G0 (Ae hi).v e3) (Oh h)
 | .bi b es=>.made (fun {ρ σ v} h=>by
  obtain ⟨ws,e1,h⟩:=Ab h
  match ws,e1,h with
  | [],_,h=>exact Ac h
  | [x],e1,h =>
   rcases Pv h with q | ⟨ws,q1,q2⟩
   ·exact .bi1 ((Ae es).row e1) q
   ·exact GA (.bi1 ((Ae es).row e1) (J7 q1)) q2
  | [x,y],e1,h=>exact .bi2 ((Ae es).row e1) (Pu h)
  | _::_::_::_,_,h=>exact Ac h) fun {ρ σ us} h hl=>by
  obtain ⟨ws,e1,h⟩:=Ab h
  match ws,e1,h with
  | [],_,h=>exact Ac h
  | [x],e1,h=>exact .bi1 ((Ae es).row e1) (J7 h)
  | _::_::_,_,h=>exact Ac h
 | .maxd a z=>.plain fun h=>by
  obtain ⟨x,e1,h⟩:=Ab h
  obtain ⟨y,e2,h⟩:=Ab h
  obtain ⟨k,e3,h⟩:=Ab h
  obtain ⟨ws,e4,h⟩:=Ab h
  obtain ⟨is,e5,h⟩:=Ab h
  exact AAA h▸.maxd ((Ae a).v e1) (Bo e3▸(Ae z).v e2) (e4.trans (congrArg some (DS (g:=vi) (fun _ _=>Bo) e5)))
 | .fcall f es=>.plain fun h=>by
  obtain ⟨xs,e1,h⟩:=Ab h
  exact .fcall ((Ae es).row e1) (hO _ _ _ _ h)
 | .meth m o es=>.plain fun h=>by
  obtain ⟨q,h⟩:=Gj h
  obtain ⟨x,e1,h⟩:=Ab h
  obtain ⟨ys,e2,h⟩:=Ab h
  exact TD hO q ((Ae o).v e1) ((Ae es).row e2) h
 | .attr nm o=>.plain fun {ρ σ v} h=>by
  obtain ⟨q,h⟩:=Gj h
  obtain ⟨x,e1,h⟩:=Ab h
  have e2:=(Ae o).v e1
  cases o with
  | var i =>
   cases x with
   | obj ks =>
    obtain ⟨k,e3,h⟩:=Ab (show (LJ CK ks nm).bind (fun k=>some (V.ref k))=some v from h)
    obtain ⟨f,h1,h2⟩:=LI e3
    exact AAA h▸.attr e2 h1 h2
   | _=>exact Ac h
  | _=>exact ff_ q
 | .mcall nm o es=>.plain fun h=>by
  obtain ⟨q,h⟩:=Gj h
  obtain ⟨x,e1,h⟩:=Ab h
  obtain ⟨ys,e2,h⟩:=Ab h
  obtain ⟨ks,e3,h⟩:=Ab h
  obtain ⟨f,e4,h⟩:=Ab h
  have hx:x=.obj ks:=by cases x with | obj _=>rw [AAA e3] | _=>exact Ac e3
  exact .mcall (DI q) e4 (hx▸(Ae o).v e1) ((Ae es).row e2) (hO _ _ _ _ h)
 | .comp elt ts it ifs=>.made (fun h=>by
  obtain ⟨ws,h1,h⟩:=Ab h
  obtain ⟨p,e1,h1⟩:=Ab h1
  obtain ⟨i1,i2⟩:=(Ae it).it e1
  obtain ⟨_,_,q,_⟩:=HU h
  exact GA (.comp i1 (Di (Ae elt) (Ae ifs) i2 h1) q) h) fun h hl=>by
  obtain ⟨p,e1,h1⟩:=Ab h
  obtain ⟨i1,i2⟩:=(Ae it).it e1
  exact .comp i1 (Di (Ae elt) (Ae ifs) i2 h1) hl
 | .range es=>{ Cz.no with
  it:=fun {ρ σ p} h=>by
   obtain ⟨xs,e1,h⟩:=Ab h
   match xs,e1,h with
   | [],_,h=>exact Ac h
   | [x],e1,h =>
    obtain ⟨k,e2,h⟩:=Ab (show (Ci x).bind (fun k=>if k<=1000000/\-1000000<=k then some (upV 0 k.toNat,[]) else none)=some p from h)
    obtain ⟨q,h⟩:=Ba h
    have e3:=(Ae es).row e1
    rw [Bo e2] at e3
    exact h▸⟨.range e3 q.1 q.2,fun _ _ m=>nomatch m⟩
   | _::_::_,_,h=>exact Ac h }
 | .zip a b=>{ Cz.no with
  it:=fun h=>by
   obtain ⟨x,e1,h⟩:=Ab h
   obtain ⟨y,e2,h⟩:=Ab h
   obtain ⟨ds,e3,h⟩:=Ab h
   obtain ⟨ds',e4,h⟩:=Ab h
   exact AAA h▸⟨.zip ((Ae a).v e1) ((Ae b).v e2) e3 e4,fun k us m=>(AA0.mp m).elim (FP e3 k us) (FP e4 k us)⟩ }
 | .enum a=>{ Cz.no with
  it:=fun h=>by
   obtain ⟨x,e1,h⟩:=Ab h
   obtain ⟨ds,e3,h⟩:=Ab h
   exact AAA h▸⟨.enum ((Ae a).v e1) (Ic e3),FP (Ic e3)⟩ }
 | .dct=>.no
 | .sortr _=>.no
 | .sortk _ _ _ _=>.no
 | .new=>.no
end
end Mine
namespace Mine
open PySem PySem.Calls
structure Cfg where
 n:Nat
 O:Orc
 ok:∀ f xs σ v,O f xs σ=some v->FN n f xs σ v σ
noncomputable abbrev Cfg.v (C:Cfg) (e:E):Ah->Aa->Option V:=(ev C.O e).v
noncomputable abbrev Cfg.row (C:Cfg) (e:E):Ah->Aa->Option (List V):=(ev C.O e).row
noncomputable abbrev Cfg.it (C:Cfg) (e:E):Ah->Aa->Option Its:=(ev C.O e).it
noncomputable abbrev Cfg.nl (C:Cfg) (e:E):Ah->Aa->Option (List V):=(ev C.O e).nl
noncomputable abbrev Cfg.t (C:Cfg) (e:E):Ah->Aa->Option Bool:=(ev C.O e).t
def Af (C:Cfg) (P:Fl->Aa->Prop) (l:S) (ρ:Ah) (σ:Aa):Prop:=∃ fl σ',P fl σ'/\SSs C.n l ρ σ fun f s=>f=fl/\s=σ'
def Pz (C:Cfg) (P:Fl->Aa->Prop) (r:S) (fl:Fl) (σ:Aa):Prop:=match fl with | .next ρ=>Af C P r ρ σ | .ret v=>P (.ret v) σ
section
variable {C:Cfg} {P M:Fl->Aa->Prop} {l r a b body:S} {st:S} {ρ ρ':Ah} {σ σ':Aa} {e c it:E} {x:Nat} {v:V} {t:Bool} {ws:List V} {xs ts:List Nat}
theorem Af.mono (h:Af C M l ρ σ) (hm:∀ fl σ,M fl σ->P fl σ):Af C P l ρ σ:=by
 obtain ⟨fl,σ',h1,h2⟩:=h
 exact ⟨fl,σ',hm _ _ h1,h2⟩
theorem Ad (h:P (.next ρ) σ):Af C P .nil ρ σ:=⟨_,_,h,.nil ⟨rfl,rfl⟩⟩
theorem Cq {fl:Fl} (hs:∀ Q:Fl->Aa->Prop,Q fl σ'->SS C.n st ρ σ Q) (h:Pz C P r fl σ'):Af C P (.cons st r) ρ σ:=by
 cases fl with
 | next ρ' =>
  obtain ⟨fl,σ₂,h1,h2⟩:=h
  exact ⟨fl,σ₂,h1,.cons (hs _ h2)⟩
 | ret v=>exact ⟨.ret v,σ',h,.cons (hs _ ⟨rfl,rfl⟩)⟩
theorem AA (hp:Bz e=false) (h:SE C.n e ρ σ v σ') (k:Af C P r (ρ.set x (some v)) σ'):Af C P (.cons (.asg x e) r) ρ σ:=Cq (fl:=.next (ρ.set x (some v))) (fun Q q=>.asg hp h q) k
theorem Az (h:C.v e ρ σ=some v) (k:Af C P r (ρ.set x (some v)) σ) (hp:Bz e=false:=by rfl):Af C P (.cons (.asg x e) r) ρ σ:=AA hp ((Ae C.ok e).v h) k
theorem Bu (h:C.nl e ρ σ=some ws) (k:Af C P r (ρ.set x (some (.ref σ.length))) (σ++[.list ws])) (hp:Bz e=false:=by rfl):Af C P (.cons (.asg x e) r) ρ σ:=AA hp (SE.trk ((Ae C.ok e).nl h)) k
theorem Kj (k:Af C P r (ρ.set x (some (.ref σ.length))) (σ++[.dictS []])):Af C P (.cons (.asg x .dct) r) ρ σ:=AA rfl .dctS k
theorem Ki (k:Af C P r (ρ.set x (some (.ref σ.length))) (σ++[.dictP []])):Af C P (.cons (.asg x .dct) r) ρ σ:=AA rfl .dctP k
theorem TK {elt ifs:E} (h:C.nl (.comp elt ts it ifs) ρ σ=some ws):∃ vs kps,SI C.n it ρ σ vs kps σ/\Gs C.n elt ts ifs kps ρ σ vs σ ws/\ws.length<=line:=by
 obtain ⟨us,h1,q⟩:=Ab h
 obtain ⟨q1,q2⟩:=Ba q
 obtain ⟨p,e1,h2⟩:=Ab h1
 obtain ⟨i1,i2⟩:=(Ae C.ok it).it e1
 exact ⟨p.1,p.2,i1,q2▸Di (Ae C.ok elt) (Ae C.ok ifs) i2 h2,q2▸q1⟩
theorem Ht {elt ifs:E} {ds:List PyData} (h:C.nl (.comp elt ts it ifs) ρ σ=some (ds.map .d)) (k:Af C P r (ρ.set x (some (.d (.list ds)))) σ):Af C P (.cons (.asg x (.comp elt ts it ifs)) r) ρ σ:=by
 obtain ⟨vs,kps,h1,h2,h3⟩:=TK h
 exact Cq (fl:=.next (ρ.set x (some (.d (.list ds))))) (fun Q q=>.asgC h1 h2 h3 (fun n=>n.frz) q) k
theorem BA (hp:Bz e=false) (h:SE C.n e ρ σ v σ') (k:Af C P r ρ σ'):Af C P (.cons (.exp e) r) ρ σ:=Cq (fl:=.next ρ) (fun Q q=>.exp hp h q) k
theorem Du (h:SE C.n e ρ σ v σ') (k:P (.ret v) σ'):Af C P (.cons (.ret e) r) ρ σ:=Cq (fl:=.ret v) (fun Q q=>.ret h q) k
theorem A3 (h:C.v e ρ σ=some v) (k:P (.ret v) σ):Af C P (.cons (.ret e) r) ρ σ:=Du ((Ae C.ok e).v h) k
theorem NO (h:C.nl e ρ σ=some ws) (k:P (.ret (.ref σ.length)) (σ++[.list ws])):Af C P (.cons (.ret e) r) ρ σ:=Du (SE.trk ((Ae C.ok e).nl h)) k
theorem E6 {m:MV} {id:String} {o es:E} {k:Nat} {us:List V} (slot:Slot "list" (Str.ofString (E1 m)) id) (ty:typeOf (.builtin id)=pure (.type "method_descriptor")) (ho:C.v o ρ σ=some (.ref k)) (hes:C.row es ρ σ=some us) (h0:σ[k]? = some (.list ws)) (h:PrM id k ws us σ v σ') (hb:Cp o=true) (kk:Af C P r ρ σ'):Af C P (.cons (.exp (.meth m o es)) r) ρ σ :=
 BA rfl (.lmeth (DI hb) slot ty ((Ae C.ok o).v ho) ((Ae C.ok es).row hes) h0 h0 h) kk
theorem AU {o es:E} {k:Nat} {y:V} (ho:C.v o ρ σ=some (.ref k)) (hes:C.row es ρ σ=some [y]) (h0:σ[k]? = some (.list ws)) (hl:ws.length < line) (kk:Af C P r ρ (σ.set k (.list (ws++[y])))) (hb:Cp o=true:=by rfl):Af C P (.cons (.exp (.meth .append o es)) r) ρ σ :=
 E6 slot_list_append type_list_append ho hes h0 (KW hl) hb kk
theorem Jw {o es:E} {k:Nat} {y:V} {i:Int} (ho:C.v o ρ σ=some (.ref k)) (hes:C.row es ρ σ=some [vi i,y]) (h0:σ[k]? = some (.list ws)) (hl:ws.length < line) (hi:0<=i) (hj:i.toNat<=ws.length) (kk:Af C P r ρ (σ.set k (.list (ws.take i.toNat++y::ws.drop i.toNat)))) (hb:Cp o=true:=by rfl):Af C P (.cons (.exp (.meth .insert o es)) r) ρ σ :=
 E6 F.slot_list_insert F.type_list_insert ho hes h0 (Qx hi hj hl) hb kk
theorem OZ {o es:E} {k j:Nat} {d:PyData} {ds:List PyData} {q:Bool} (ho:C.v o ρ σ=some (.ref k)) (hes:C.row es ρ σ=some [.d d]) (h0:σ[k]? = some (.list (ds.map .d))) (h1:inD d ds=some q) (h2:FV d ds=some j) (kk:Af C P r ρ (σ.set k (.list ((ds.map .d).eraseIdx j)))) (hb:Cp o=true:=by rfl):Af C P (.cons (.exp (.meth .remove o es)) r) ρ σ :=
 E6 F.slot_list_remove F.type_list_remove ho hes h0 (Qw h1 h2) hb kk
theorem Rb {o:E} {k:Nat} (ho:C.v o ρ σ=some (.ref k)) (h0:σ[k]? = some (.list ws)) (kk:Af C P r ρ (σ.set k (.list []))) (hb:Cp o=true:=by rfl):Af C P (.cons (.exp (.meth .clear o .nil)) r) ρ σ :=
 E6 F.slot_list_clear F.type_list_clear ho rfl h0 SV hb kk
theorem DW {o i d:E} {z y:V} {k:Nat} {kvs:List (Str×PyData)} {w:Str} {dd:PyData} (hd:C.v d ρ σ=some (.d dd)) (ho:C.v o ρ σ=some (.ref k)) (hi:C.v i ρ σ=some (.d (.str w))) (h0:σ[k]? = some (.dictS kvs)) (hl:kvs.length < line) (kk:Af C P r ρ (σ.set k (.dictS (BG kvs w dd)))) (hp:Bz d=false:=by rfl):Af C P (.cons (.set o i d) r) ρ σ :=
 Cq (fl:=.next ρ) (fun Q q=>.set hp ((Ae C.ok d).v hd) ((Ae C.ok o).v ho) ((Ae C.ok i).v hi) (S8 h0 hl) q) kk
theorem DX {o i d:E} {k:Nat} {kvs:List ((Str×Int)×PyData)} {w:Str×Int} {dd:PyData} (hd:C.v d ρ σ=some (.d dd)) (ho:C.v o ρ σ=some (.ref k)) (hi:C.v i ρ σ=some (vp w)) (h0:σ[k]? = some (.dictP kvs)) (hl:kvs.length < line) (kk:Af C P r ρ (σ.set k (.dictP (BG kvs w dd)))) (hp:Bz d=false:=by rfl):Af C P (.cons (.set o i d) r) ρ σ :=
 Cq (fl:=.next ρ) (fun Q q=>.set hp ((Ae C.ok d).v hd) ((Ae C.ok o).v ho) ((Ae C.ok i).v hi) (S9 h0 hl) q) kk
theorem Tt {o i d:E} {z:V} {k:Nat} {j:Int} (hd:C.v d ρ σ=some z) (ho:C.v o ρ σ=some (.ref k)) (hi:C.v i ρ σ=some (vi j)) (h0:σ[k]? = some (.list ws)) (h1:0<=j) (h2:j < ws.length) (kk:Af C P r ρ (σ.set k (.list (ws.set j.toNat z)))) (hp:Bz d=false:=by rfl):Af C P (.cons (.set o i d) r) ρ σ :=
 Cq (fl:=.next ρ) (fun Q q=>.set hp ((Ae C.ok d).v hd) ((Ae C.ok o).v ho) ((Ae C.ok i).v hi) (UH h0 h1 h2) q) kk
theorem Ll (h:C.t c ρ σ=some t) (k:Af C (Pz C P r) (bif t then a else b) ρ σ):Af C P (.cons (.ite c a b) r) ρ σ:=by
 obtain ⟨fl,σ',h1,h2⟩:=k
 refine Cq (fl:=fl) (σ':=σ') (fun Q q=>.ite ((Ae C.ok c).t h) (fun e=>?_) fun e=>?_) h1
 ·subst e; exact SSs.mono (fun f s e=>by rw [e.1,e.2]; exact q) h2
 ·subst e; exact SSs.mono (fun f s e=>by rw [e.1,e.2]; exact q) h2
theorem A8 (h:C.t c ρ σ=some t) (kt:t=true->Af C (Pz C P r) a ρ σ) (kf:t=false->Af C (Pz C P r) b ρ σ):Af C P (.cons (.ite c a b) r) ρ σ:=Ll h (by cases t with | true=>exact kt rfl | false=>exact kf rfl)
theorem FY (h:C.t c ρ σ=some false) (k:Af C P r ρ σ):Af C P (.cons (.ite c a .nil) r) ρ σ:=Ll h (Ad k)
theorem Ra {vs:List V} (h:SE C.n e ρ σ v σ') (hs:∀ {K:Kx} {ex:Expr},IsE e K ex->∀ ts k p env,swappedStores [.Tuple ts k p] ex env=pure none) (hv:BY v=some vs) (hl:vs.length=xs.length) (k:Af C P r (DB ρ xs vs) σ') (hp:Bz e=false:=by rfl):Af C P (.cons (.unp xs e) r) ρ σ:=Cq (fl:=.next (DB ρ xs vs)) (fun Q q=>.unp hp hs h hv hl q) k
theorem Nd {α:Type} {kps:List (Nat×List V)} (w:α->V) (J:List α->Ah->Aa->Prop):∀ (q p:List α) (ρ:Ah) (σ:Aa),(∀ p ρ σ,J p ρ σ->Co σ kps)->(∀ a,a∈q->EB ts (w a))->J p ρ σ ->
 (∀ p' a q' ρ σ,p++q=p'++a::q'->J p' ρ σ->Af C (fun fl σ'=>∃ ρ',fl=.next ρ'/\J (p'++[a]) ρ' σ') body (Cw ρ ts (w a)) σ)->∃ ρe σe,J (p++q) ρe σe/\∀ Q:Fl->Aa->Prop,Q (.next ρe) σe->Ua C.n ts body kps Q (q.map w) ρ σ
 | [],p,ρ,σ,hk,_,hJ,_=>⟨ρ,σ,(AAV p).symm▸hJ,fun Q h=>⟨hk p ρ σ hJ,h⟩⟩
 | a::q,p,ρ,σ,hk,hb,hJ,hf=>by
  obtain ⟨fl,σ₁,⟨ρ1,rfl,h1⟩,h2⟩:=hf p a q ρ σ rfl hJ
  have e:p++[a]++q=p++a::q:=by rw [ABQ]; rfl
  obtain ⟨ρe,σe,h3,h4⟩:=Nd w J q (p++[a]) ρ1 σ₁ hk (fun b hb'=>hb b (.tail _ hb')) h1 fun p' b q' ρ σ he=>hf p' b q' ρ σ (e.symm.trans he)
  exact ⟨ρe,σe,e▸h3,fun Q h=>⟨hk p ρ σ hJ,hb a (.head _),SSs.mono (fun f s e=>by rw [e.1,e.2]; exact h4 Q h) h2⟩⟩
theorem G9 {α:Type} {l:List α} {kps:List (Nat×List V)} (w:α->V) (J:List α->Ah->Aa->Prop) (hit:C.it it ρ σ=some (l.map w,kps)) (hk:∀ p ρ σ,J p ρ σ->Co σ kps) (hb:∀ a,a∈l->EB ts (w a)) (hJ:J [] ρ σ)
 (hf:∀ p a q ρ σ,l=p++a::q->J p ρ σ->Af C (fun fl σ'=>∃ ρ',fl=.next ρ'/\J (p++[a]) ρ' σ') body (Cw ρ ts (w a)) σ) (k:∀ ρ' σ',J l ρ' σ'->Af C P r ρ' σ'):Af C P (.cons (.for_ ts it body) r) ρ σ:=by
 obtain ⟨ρe,σe,h1,h2⟩:=Nd (C:=C) (body:=body) (ts:=ts) w J l [] ρ σ hk hb hJ hf
 exact Cq (fl:=.next ρe) (fun Q q=>.for_ ((Ae C.ok it).it hit).1 (h2 Q q)) (k ρe σe h1)
theorem AS {α:Type} {l:List α} (w:α->V) (J:List α->Ah->Aa->Prop) (hit:C.it it ρ σ=some (l.map w,[])) (hJ:J [] ρ σ)
 (hf:∀ p a q ρ σ,l=p++a::q->J p ρ σ->Af C (fun fl σ'=>∃ ρ',fl=.next ρ'/\J (p++[a]) ρ' σ') body (ρ.set x (some (w a))) σ) (k:∀ ρ' σ',J l ρ' σ'->Af C P r ρ' σ'):Af C P (.cons (.for_ [x] it body) r) ρ σ :=
 G9 w J hit (fun _ _ _ _ _ _ m=>nomatch m) (fun _ _=>.inl rfl) hJ hf k
theorem P3 (J:Nat->Ah->Aa->Prop) (t:Nat->Bool) (ht:∀ m ρ σ,J m ρ σ->C.t c ρ σ=some (t m)) (h0:t 0=false)
 (hf:∀ m ρ σ,J (m+1) ρ σ->t (m+1)=true->Af C (fun fl σ'=>∃ ρ',fl=.next ρ'/\J m ρ' σ') body ρ σ):∀ (m:Nat) (ρ:Ah) (σ:Aa),J m ρ σ->∃ ρe σe m',J m' ρe σe/\t m'=false/\∀ Q:Fl->Aa->Prop,Q (.next ρe) σe->WhQ C.n c body Q (m+1) ρ σ
 | 0,ρ,σ,hJ=>⟨ρ,σ,0,hJ,h0,fun Q q=>⟨false,σ,(Ae C.ok c).t (h0▸ht 0 ρ σ hJ),fun _=>q,fun h=>ff_ h⟩⟩
 | m+1,ρ,σ,hJ=>by
  have h:=ht (m+1) ρ σ hJ
  cases e:t (m+1) with
  | false=>rw [e] at h; exact ⟨ρ,σ,m+1,hJ,e,fun Q q=>⟨false,σ,(Ae C.ok c).t h,fun _=>q,fun h=>ff_ h⟩⟩
  | true =>
   rw [e] at h
   obtain ⟨fl,σ₁,⟨ρ1,rfl,h1⟩,h2⟩:=hf m ρ σ hJ e
   obtain ⟨ρe,σe,m',h3,h5,h4⟩:=P3 J t ht h0 hf m ρ1 σ₁ h1
   exact ⟨ρe,σe,m',h3,h5,fun Q q=>⟨true,σ,(Ae C.ok c).t h,fun h=>tt_ h,fun _=>SSs.mono (fun f s e=>by rw [e.1,e.2]; exact h4 Q q) h2⟩⟩
theorem QZ (J:Nat->Ah->Aa->Prop) (t:Nat->Bool) (m:Nat) (hJ:J m ρ σ) (ht:∀ m ρ σ,J m ρ σ->C.t c ρ σ=some (t m)) (h0:t 0=false)
 (hf:∀ m ρ σ,J (m+1) ρ σ->t (m+1)=true->Af C (fun fl σ'=>∃ ρ',fl=.next ρ'/\J m ρ' σ') body ρ σ) (k:∀ m' ρ' σ',J m' ρ' σ'->t m'=false->Af C P r ρ' σ'):Af C P (.cons (.while_ c body) r) ρ σ:=by
 obtain ⟨ρe,σe,m',h1,h2,h3⟩:=P3 (C:=C) J t ht h0 hf m ρ σ hJ
 exact Cq (fl:=.next ρe) (fun Q q=>.while_ (h3 Q q)) (k m' ρe σe h1 h2)
noncomputable def Hi (fl:Fl):V:=match fl with | .next _=>.d .none | .ret v=>v
theorem FN.ends {f:Nat} {fn:Fn} {zs:List V} {R:V->Aa->Prop} (hP:Pg f=some fn) (hl:zs.length=fn.np) (hn:1<=C.n) (h:Af C (fun fl σ'=>R (Hi fl) σ') fn.body (B3 fn zs) σ):∃ v σ',R v σ'/\FN (C.n+1) f zs σ v σ':=by
 obtain ⟨fl,σ',h1,h2⟩:=h
 refine ⟨_,σ',h1,.of hP hl (SSs.mono (fun f s e=>?_) h2) hn⟩
 rw [e.1,e.2]
 cases fl with
 | next _=>exact ⟨rfl,rfl⟩
 | ret _=>exact ⟨rfl,rfl⟩
theorem FN.same {f:Nat} {fn:Fn} {zs:List V} {v:V} {σ':Aa} (hP:Pg f=some fn) (hl:zs.length=fn.np) (hn:1<=C.n) (h:Af C (fun fl s=>Hi fl=v/\s=σ') fn.body (B3 fn zs) σ):FN (C.n+1) f zs σ v σ':=by
 obtain ⟨_,_,⟨h1,h2⟩,h⟩:=FN.ends (R:=fun w s=>w=v/\s=σ') hP hl hn h
 rw [h1,h2] at h
 exact h
end
end Mine
namespace Mine
open PySem PySem.Calls
section
variable {C:Cfg} {P:Fl->Aa->Prop} {r:S} {ρ:Ah} {σ:Aa} {o es:E} {x k:Nat} {ws us:List V} {y:V}
theorem MH (ws:List V) (y:V):(ws++[y]).eraseIdx ((ws++[y]).length-1)=ws:=by
 rw [AAF,show ws.length + [y].length-1=ws.length from rfl,List.eraseIdx_append_of_length_le (AAL _),Nat.sub_self]
 exact AAV ws
theorem Vr (ho:C.v o ρ σ=some (.ref k)) (h0:σ[k]? = some (.list (ws++[y]))) (kk:Af C P r (ρ.set x (some y)) (σ.set k (.list ws))) (hb:Cp o=true:=by rfl):Af C P (.cons (.asg x (.meth .pop o .nil)) r) ρ σ:=by
 refine AA rfl (.lmeth (DI hb) F.slot_list_pop F.type_list_pop ((Ae C.ok o).v ho) .nil h0 h0 (Wt (v:=y) ?_)) ?_
 ·rw [AAF,show ws.length + [y].length-1=ws.length from rfl,AA6 (AAL _),Nat.sub_self]; rfl
 ·rw [MH]; exact kk
theorem Pa (ho:C.v o ρ σ=some (.ref k)) (hes:C.row es ρ σ=some [y]) (h0:σ[k]? = some (.list ws)) (hy:A2 σ y=some us) (hl:ws.length+us.length<=line) (kk:Af C P r ρ (σ.set k (.list (ws++us)))) (hb:Cp o=true:=by rfl):Af C P (.cons (.exp (.meth .extend o es)) r) ρ σ :=
 E6 F.slot_list_extend F.type_list_extend ho hes h0 (Qy hy hl) hb kk
end
end Mine
namespace Mine
open PySem PySem.Calls
structure LeM (m:Nat) (own:List Addr) (g g':G):Prop where
 fz:K1 g.fz g'.fz
 mu:∀ (k:Nat) (a:Addr),k < m->g.mu[k]? = some a->g'.mu[k]? = some a
 hid:∀ a,a∉own->g'.hid a=g.hid a
section
variable {n m:Nat} {l r st:S} {ρ ρ':Ah} {σ τ σ':Aa} {v:V} {c:Cx} {g g':G} {s:Shared} {own:List Addr} {C:Cfg} {P:V->Aa->Prop}
theorem Pl {x:Stmt} {env:Env}:execs [x] env=exec x env:=by
 rw [execs_cons]
 refine (bind_congr fun f=>?_).trans (bind_pure _)
 cases f with
 | next=>exact arm_execs_nil _
 | _=>rfl
theorem SS.of1 {Q:Fl->Aa->Prop} (h:SSs n (.cons st .nil) ρ σ Q):SS n st ρ σ Q:=fun c g s x hc I=>by
 have h:=h c g s [x] (fun R_ k=>k x [] hc rfl) I
 rw [Pl] at h
 exact h
end
end Mine
namespace Mine
open PySem PySem.Calls
noncomputable def NQ (fe:List Env):List Addr:=fe.filterMap (·.frame)
def Go (its fs:List Addr) (h h':Heap):Prop:=∀ c o,c∉its->h.get? c=some o->(∃ sl,h'.get? c=some { o with slots:=sl })/\(c∉fs->h'.get? c=some o)
section
variable {its its' fs:List Addr} {h h' h'':Heap}
theorem Go.trans (x:Go its fs h h') (y:Go its fs h' h''):Go its fs h h'':=fun c o hc e=>by
 obtain ⟨⟨sl,e1⟩,k⟩:=x c o hc e
 obtain ⟨⟨sl',e2⟩,k'⟩:=y c _ hc e1
 exact ⟨⟨sl',e2⟩,fun hf=>(y c o hc (k hf)).2 hf⟩
theorem Go.of_same (k:∀ c o,c∉its->h.get? c=some o->h'.get? c=some o):Go its fs h h':=fun c o hc e=>⟨⟨o.slots,k c o hc e⟩,fun _=>k c o hc e⟩
theorem Go.wide (x:Go its fs h h') (hs:∀ c,c∈its->c∈its'):Go its' fs h h':=fun c o hc e=>x c o (fun q=>hc (hs c q)) e
end
noncomputable def TT:Option Value->Prop:=fun _=>True
noncomputable def PTb:Option Value->Prop
 | none=>False
 | some _=>True
inductive TbX (T:Top) (g:G) (h:Heap) (e:Addr) (v:Option Value) (P:Option Value->Prop):Prop
 | mk (tb:Addr) (ot:Obj) (ts:Array Value) (f:Value) (k1:v=some (.ref tb)) (k2:h.get? tb=some ot) (k3:ot.data=.fields ts) (k4:tb≠e) (k5:Dl T g tb) (k6:ts[3]? = some f) (k7:P (some f)):TbX T g h e v P
inductive EV (T:Top) (g:G) (h:Heap) (k:Nat) (x:Value) (P:Option Value->Prop):Prop
 | mk (e:Addr) (oe:Obj) (vs:Array Value) (C:Addr) (q1:x=.ref e) (q2:h.get? e=some oe) (q3:T.exc k=some C) (q4:oe.cls=.ref C) (q5:oe.dict=none) (q6:oe.data=.fields vs) (q7:Dl T g e) (q8:vs[2]? = some .none)
  (q9:(vs[1]? = some .none/\P none)\/TbX T g h e vs[1]? P):EV T g h k x P
section
variable {T:Top} {fe outer:List Env} {its fs:List Addr} {env:Env} {A:Around} {g g':G} {σ σ':Aa} {s s':Shared} {Er:Value->Shared->Prop} {k:Nat} {x v:Value} {h h':Heap} {P P':Option Value->Prop}
theorem EV.le (f:EV T g h k x P) (hP:∀ o,P o->P' o):EV T g h k x P':=by
 obtain ⟨e,oe,vs,C,q1,q2,q3,q4,q5,q6,q7,q8,q9⟩:=f
 refine ⟨e,oe,vs,C,q1,q2,q3,q4,q5,q6,q7,q8,q9.imp (fun h=>⟨h.1,hP _ h.2⟩) ?_⟩
 rintro ⟨tb,ot,ts,f,k1,k2,k3,k4,k5,k6,k7⟩
 exact ⟨tb,ot,ts,f,k1,k2,k3,k4,k5,k6,hP _ k7⟩
theorem EV.any (f:EV T g h k x P):EV T g h k x TT:=f.le fun _ _=>trivial
theorem EV.other (f:EV T g h k x P) (hg:∀ a,Dl T g a->Dl T g' a):EV T g' h k x P:=by
 obtain ⟨e,oe,vs,C,q1,q2,q3,q4,q5,q6,q7,q8,q9⟩:=f
 refine ⟨e,oe,vs,C,q1,q2,q3,q4,q5,q6,hg _ q7,q8,q9.imp id ?_⟩
 rintro ⟨tb,ot,ts,f,k1,k2,k3,k4,k5,k6,k7⟩
 exact ⟨tb,ot,ts,f,k1,k2,k3,k4,hg _ k5,k6,k7⟩
theorem Rf (fr:BJ g fe) {a:Addr} (ha:a∈NQ fe):∃ o es ep,g.hid a=some o/\o.cls=frC/\o.data=.dict es ep:=by
 obtain ⟨e,he,hf⟩:=List.mem_filterMap.mp ha
 obtain ⟨_,L,o,es,ep,h1,h2⟩:=fr e he
 exact ⟨o,es,ep,Av h1 hf▸h2⟩
theorem Has.near (H:Has T g σ s) (fr:BJ g fe) (hi:∀ a,a∈its->Dl T g a) (nr:Go its (NQ fe) s.heap h'):Has T g σ { s with heap:=h' }:=by
 have ex:∀ a o,a∉its->g.hid a=none->s.heap.get? a=some o->h'.get? a=some o:=fun a o h1 h2 e=>(nr a o h1 e).2 fun q=>by
  obtain ⟨o',_,_,h3,_⟩:=Rf fr q
  exact Am h2 h3
 have nofz:∀ a o,g.fz a=some o->a∉its/\g.hid a=none:=fun a o e=>⟨fun q=>Am (hi a q).fz e,DQ fun o' e'=>Am (H.ah a o' e').1 e⟩
 have nomu:∀ a,a∈g.mu->a∉its/\g.hid a=none:=fun a e=>⟨fun q=>(hi a q).mu e,DQ fun o' e'=>(H.ah a o' e').2 e⟩
 have:=H.re (s':={ s with heap:=h' }) g.hid (fun a o e=>⟨?_,(H.ah a o e).1,(H.ah a o e).2,H.hidTab e⟩) (fun b o e e'=>ex b o (nofz b o e).1 (nofz b o e).2 e') (fun b o e e'=>ex b o (nomu b e).1 (nomu b e).2 e') (fun t q o m e=>H.tb t q m _ fun _ _ h2 _ _ _ _=>ex t o (fun p=>(hi t p).tab q m) h2 e) rfl rfl
 ·exact this
 ·obtain ⟨o',e1,e2,e3⟩:=H.hd a o e
  obtain ⟨⟨sl,e4⟩,e5⟩:=nr a o' (fun q=>Am (hi a q).hid e) e1
  by_cases q:a∈NQ fe
  ·obtain ⟨o2,_,_,h3,h4,_⟩:=Rf fr q
   exact ⟨_,e4,e2,fun n=>absurd (Av h3 e▸h4) n⟩
  ·exact ⟨o',e5 q,e2,e3⟩
theorem BJ.funFrames (H:Has T g σ s):∀ {l:List Env},BJ g l->s.heap.FunFrames T.h0 l
 | [],_=>trivial
 | e::r,fr=>by
  obtain ⟨tf,L,o,es,ep,h1,h2,h3,h4⟩:=fr e (.head _)
  obtain ⟨o',e1,e2,_⟩:=H.hd L o h2
  refine ⟨tf.kind,⟨L,o',h1,DQ fun o2 q=>Am (H.ah L o h2).1 (H.base L o2 q),e1,fun vs q=>?_⟩,BJ.funFrames H fun e he=>fr e (.tail _ he)⟩
  rw [e2,h4] at q; cases q
theorem J3 {L e:Addr} {oe:Obj} {vs:Array Value} {head:Value} {hadNext:Bool} {Q:Unit->Shared->Prop} (hfr:A.frames=some (env::outer)) (hl:s.heap.FunFrames T.h0 (env::outer)) (hf:env.frame=some L)
 (he:s.heap.get? e=some oe) (hd:oe.data=.fields vs) (hsz:1 < vs.size)
 (h:∀ h' tb oe' ts,Go [e] (NQ (env::outer)) s.heap h'->s.heap.get? tb=none->h'.get? e=some oe'->(oe'.cls=oe.cls/\oe'.dict=oe.dict)->oe'.data=.fields (vs.setIfInBounds 1 (.ref tb)) ->
  h'.get? tb=some { cls:=.type "traceback",dict:=none,data:=.fields ts,slots:=#[] } -> ts[3]? = some (rawInt L)->Q () { s with heap:=h' }) :
 wpAny (model T.prog T.w) A (do let a <-frameOf env; let pl <-entryPlaceOf L hadNext; let b <-EntryCells.newEntry head a .none (rawInt L) .none pl; setField (.ref e) 1 b) Q Er s:=by
 have hene:e∉(env::outer).filterMap (·.frame):=fun hm=>by
  obtain ⟨_,o,ho,hnf⟩:=hl.mem hm
  rw [he] at ho; injection ho with ho; subst ho; exact hnf vs hd
 refine AAD (wpAny_frameOf_fun hfr hl hf fun h₁ hs1=>?_)
 refine AAD (wpAny_entryPlaceOf fun pl hpl=>?_)
 unfold EntryCells.newEntry newFields
 refine AAD (wpAny_newObj_type ?_ (hpl.sizeOk5 _ _ _ _ _))
 have he1:h₁.get? e=some oe:=(hs1.2.1 e hene).trans he
 have he2:=AAK (h:=h₁) { cls:=.type "traceback",dict:=none,data:=.fields ([head,.ref L,.none,rawInt L,.none]++(if pl.isEmpty then List.replicate 6 Value.none else pl)).toArray } he1
 have hTe:h₁.objs.size≠e:=Nat.ne_of_gt (Heap.lt_size he1)
 have hd3:=Obj.data_mapFields hd (·.setIfInBounds 1 (Value.ref h₁.objs.size))
 have he3:=Heap.get?_update_self (Obj.mapFields (·.setIfInBounds 1 (Value.ref h₁.objs.size))) he2 (Obj.isFreed_of_fields hd3)
 have hT3:=(ABD (h₁.push { cls:=.type "traceback",dict:=none,data:=.fields ([head,.ref L,.none,rawInt L,.none]++(if pl.isEmpty then List.replicate 6 Value.none else pl)).toArray })
  (Obj.mapFields (·.setIfInBounds 1 (Value.ref h₁.objs.size))) (Ne.symm hTe)).trans (AA3 h₁ rfl)
 refine wpAny_setField he2 hd hsz (h _ h₁.objs.size _ _ ?_ ?_ he3 ⟨Obj.cls_mapFields _ _,by unfold Obj.mapFields; split <;> rfl⟩ hd3 hT3 ?_)
 ·intro b o hb e'
  have hbe:b≠e:=fun q=>hb (by rw [q]; exact AAJ.mpr rfl)
  have up:∀ o',h₁.get? b=some o'->((h₁.push { cls:=.type "traceback",dict:=none,data:=.fields ([head,.ref L,.none,rawInt L,.none]++(if pl.isEmpty then List.replicate 6 Value.none else pl)).toArray }).update e (Obj.mapFields (·.setIfInBounds 1 (Value.ref h₁.objs.size)))).get? b=some o':=fun o' q=>by
   rw [ABD _ _ (Ne.symm hbe)]
   exact AAK _ q
  refine ⟨?_,fun hnf=>up o ((hs1.2.1 b hnf).trans e')⟩
  obtain ⟨sl,q⟩:=hs1.2.2 b o e'
  exact ⟨sl,up _ q⟩
 ·show s.heap.get? h₁.objs.size=none
  rw [hs1.1]; exact Bm _
 ·first | (simp; done) | (rcases hpl with rfl | ⟨_,_,_,_,_,_,_,rfl⟩ <;> simp)
theorem KS {Q:Unit->Shared->Prop} (hfr:A.frames=some (env::outer)) (fr:BJ g (env::outer)) (H:Has T g σ s) (fl:EV T g s.heap k x TT)
 (h:∀ h',Has T g σ { s with heap:=h' } -> EV T g h' k x PTb->Q () { s with heap:=h' }):wpAny (model T.prog T.w) A (noteFrame x env) Q Er s:=by
 have hl:=fr.funFrames H
 obtain ⟨_,L,_,_,_,hf,_⟩:=fr env (.head _)
 obtain ⟨e,oe,vs,C,rfl,q2,q3,q4,q5,q6,q7,q8,q9⟩:=fl
 have hsz2:2 < vs.size:=(Array.getElem?_eq_some_iff.mp q8).1
 unfold noteFrame
 simp only [hf]
 rcases q9 with ⟨h1,_⟩ | ⟨tb,ot,ts,f,k1,k2,k3,k4,k5,k6,k7⟩
 ·refine AAD (wpAny_field q2 q6 h1 ?_)
  rw [if_neg (by decide)]
  refine J3 hfr hl hf q2 q6 (Nat.le_of_lt hsz2) fun h' tb oe' ts nr hn he' hc' hd' ht h3=>?_
  refine h h' (H.near fr (its:=[e]) (fun a ha=>by rw [AAJ.mp ha]; exact q7) nr) ⟨e,oe',_,C,rfl,he',q3,hc'.1.trans q4,hc'.2.trans q5,hd',q7,?_,.inr ⟨tb,_,ts,_,by simp [show 1 < vs.size from Nat.lt_of_succ_lt hsz2],ht,rfl,?_,H.free hn,h3,trivial⟩⟩
  ·rw [Array.getElem?_setIfInBounds_ne (by decide)]; exact q8
  ·intro q; rw [q,q2] at hn; exact Ho hn
 ·refine AAD (wpAny_field q2 q6 k1 ?_)
  rw [if_pos (show (Value.ref tb != Value.none)=true from by rfl)]
  refine AAD (wpAny_field k2 k3 k6 ?_)
  by_cases k9:(f == rawInt L)=true
  case neg =>
   rw [if_neg k9]
   have hsz3:3 < ts.size:=(Array.getElem?_eq_some_iff.mp k6).1
   refine AAD (wpAny_setField k2 k3 hsz3 ?_)
   have other:∀ b,b≠tb->(s.heap.update tb (Obj.mapFields (·.setIfInBounds 3 Value.none))).get? b=s.heap.get? b:=fun b hb=>ABD _ _ (Ne.symm hb)
   have noRecord:∀ b o,s.heap.get? b=some o->(∀ vs,o.data≠.fields vs)->b≠tb:=fun b o hb hnf q=>by
    rw [q,k2] at hb; injection hb with hb; subst hb; exact hnf ts k3
   refine J3 hfr (hl.of_keeps fun b o hb hnf=>⟨o,(other b (noRecord b o hb hnf)).trans hb,rfl⟩) hf ((other e (Ne.symm k4)).trans q2) q6 (Nat.le_of_lt hsz2) fun h' tb' oe' ts' nr hn he' hc' hd' ht h3=>?_
   have hn':s.heap.get? tb'=none:=by
    by_cases q:tb'=tb
    ·subst q
     exact Ho ((Eq.symm (Heap.get?_update_self _ k2 (Obj.isFreed_of_fields (Obj.data_mapFields k3 _)))).trans hn)
    ·rw [<-other tb' q]; exact hn
   refine h h' (H.near fr (its:=[e,tb]) (fun a ha=>?_) (Go.trans (Go.of_same fun b o hb eb=>(other b fun q=>hb (by exact .tail _ (q▸.head _))).trans eb) (nr.wide fun b hb=>by rw [AAJ.mp hb]; simp)))
    ⟨e,oe',_,C,rfl,he',q3,hc'.1.trans q4,hc'.2.trans q5,hd',q7,?_,.inr ⟨tb',_,ts',_,by simp [show 1 < vs.size from Nat.lt_of_succ_lt hsz2],ht,rfl,?_,H.free hn',h3,trivial⟩⟩
   ·simp only [AAR,AA1,or_false] at ha
    rcases ha with rfl | rfl
    ·exact q7
    ·exact k5
   ·rw [Array.getElem?_setIfInBounds_ne (by decide)]; exact q8
   ·intro q; rw [q,q2] at hn'; exact Ho hn'
  case pos =>
   rw [if_pos k9]
   exact AAY (h s.heap H ⟨e,oe,vs,C,rfl,q2,q3,q4,q5,q6,q7,q8,.inr ⟨tb,ot,ts,_,k1,k2,k3,k4,k5,k6,trivial⟩⟩)
theorem Ft {L:Option Addr} {Q:Unit->Shared->Prop} (fr:BJ g fe) (H:Has T g σ s) (fl:EV T g s.heap k x PTb)
 (h:∀ h',Has T g σ { s with heap:=h' } -> EV T g h' k x PTb->Q () { s with heap:=h' }):wpAny (model T.prog T.w) A (setFlight x L) Q Er s:=by
 obtain ⟨e,oe,vs,C,rfl,q2,q3,q4,q5,q6,q7,q8,q9⟩:=fl
 rcases q9 with ⟨_,h1⟩ | ⟨tb,ot,ts,f,k1,k2,k3,k4,k5,k6,k7⟩
 ·exact h1.elim
 ·unfold setFlight
  refine AAD (wpAny_field q2 q6 k1 ?_)
  rw [if_pos (show (Value.ref tb != Value.none)=true from by rfl)]
  have hsz3:3 < ts.size:=(Array.getElem?_eq_some_iff.mp k6).1
  refine wpAny_setField k2 k3 hsz3 ?_
  have other:∀ b,b≠tb->(s.heap.update tb (Obj.mapFields (·.setIfInBounds 3 (L.elim Value.none fun f=>rawInt f)))).get? b=s.heap.get? b:=fun b hb=>ABD _ _ (Ne.symm hb)
  exact h _ (H.near fr (its:=[tb]) (fun a ha=>by rw [AAJ.mp ha]; exact k5) (Go.of_same fun b o hb eb=>(other b fun q=>hb (by exact q▸.head _)).trans eb))
   ⟨e,oe,vs,C,rfl,(other e (Ne.symm k4)).trans q2,q3,q4,q5,q6,q7,q8,.inr ⟨tb,_,_,L.elim Value.none fun f=>rawInt f,k1,Heap.get?_update_self _ k2 (Obj.isFreed_of_fields (Obj.data_mapFields k3 _)),Obj.data_mapFields k3 _,k4,k5,by simp [hsz3],trivial⟩⟩
end
end Mine
namespace Mine
open PySem PySem.Calls
noncomputable abbrev Ar.wx {α:Type} (r:Ar) (m:Sem α) (X:Value->Shared->Prop) (s:Shared):Prop:=wpAny (model r.T.prog r.T.w) r.A m (fun _ _=>False) X s
def Gn (T:Top) (g:G) (σ':Aa) (k:Nat) (x:Value) (s':Shared):Prop:=∀ R_:Prop,(∀ g',G.le [] g g'->Has T g' σ' s'->EV T g' s'.heap k x TT->R_)->R_
def FX (n f:Nat) (xs:List V) (σ:Aa) (k:Nat) (σ':Aa):Prop :=
 ∀ (r:Ar) (g:G) (s:Shared) (a:Addr) (Xs:List Value),r.T.fn f=some a->At n r g σ s->Au r.T g xs Xs->r.wx (call (.ref a) Xs) (Gn r.T g σ' k) s
def SEx (n:Nat) (e:E) (ρ:Ah) (σ:Aa) (k:Nat) (σ':Aa):Prop :=
 ∀ (c:Cx) (g:G) (s:Shared) (ex:Expr),IsE e c.K ex->Inv n c ρ g σ s->c.wx (eval ex c.env) (Gn c.T g σ' k) s
def SXP (n:Nat) (c:Cx) (g:G) (k:Nat) (X:Ah->Aa->Prop) (x:Value) (s':Shared):Prop:=∀ R_:Prop,(∀ ρ' σ' g',X ρ' σ'->G.le c.own g g'->Inv n c ρ' g' σ' s'->EV c.T g' s'.heap k x TT->R_)->R_
def SX (n:Nat) (st:S) (ρ:Ah) (σ:Aa) (k:Nat) (X:Ah->Aa->Prop):Prop :=
 ∀ (c:Cx) (g:G) (s:Shared) (x:Stmt),IsS st c.K x->Inv n c ρ g σ s->c.wx (exec x c.env) (SXP n c g k X) s
def SXs (n:Nat) (st:S) (ρ:Ah) (σ:Aa) (k:Nat) (X:Ah->Aa->Prop):Prop :=
 ∀ (c:Cx) (g:G) (s:Shared) (xs:List Stmt),MW st c.K xs->Inv n c ρ g σ s->c.wx (execs xs c.env) (SXP n c g k X) s
section
variable {n f k:Nat} {c:Cx} {ρ:Ah} {g g' g₁:G} {σ σ' σ₁ σ₂:Aa} {s s':Shared} {x:Value} {X:Ah->Aa->Prop} {e a b:E} {st r p q:S} {ws:List V} {nm:Str} {ks:List Nat}
theorem Gn.after {T:Top} (le:G.le [] g g₁) (h:Gn T g₁ σ' k x s'):Gn T g σ' k x s':=fun R_ kk=>h R_ fun g' l a f=>kk g' (le.trans l) a f
theorem SXP.after (le:G.le c.own g g₁) (h:SXP n c g₁ k X x s'):SXP n c g k X x s':=fun R_ kk=>h R_ fun ρ' σ' g' hX l I f=>kk ρ' σ' g' hX (le.trans l) I f
theorem SXs.head (h:SX n st ρ σ k X):SXs n (.cons st r) ρ σ k X:=fun c g s xs hc I=>hc (fun xs=>c.wx (execs xs c.env) (SXP n c g k X) s) fun x l h1 h2=>by
 rw [execs_cons]
 exact AAD (AAO (h c g s x h1 I) (fun _ _ h=>h.elim) fun _ _ h=>h)
theorem SX.ite {q:S} (h:ST n e ρ σ true σ₁) (h1:SXs n p ρ σ₁ k X):SX n (.ite e p q) ρ σ k X:=fun c g s x hc I=>hc (fun x=>c.wx (exec x c.env) (SXP n c g k X) s) fun ex xs ys pos c1 c2 c3=>by
 refine wpAny_If (AAO (h c g s ex c1 I) (fun b s₁ p=>p _ fun g₁ le a₁ e₁=>?_) fun _ _ h=>h.elim)
 subst e₁
 exact AAO (h1 c g₁ s₁ xs c2 (I.step le a₁)) (fun _ _ h=>h) fun _ _ p=>p.after le.toO
theorem SX.rse (h:SEs n a ρ σ ws σ₁) (hl:ws.length<=line) (hX:X ρ σ₁):SX n (.rse k a) ρ σ k X:=fun c g s x hc I=>hc (fun x=>c.wx (exec x c.env) (SXP n c g k X) s) fun nm np vs cp p h1 h2 _=>by
 obtain ⟨mg,mb,hg,hb,ht,_⟩:=I.cx.rd.ns
 obtain ⟨_,⟨C,hC,rfl⟩,_⟩:=ht nm _ h1.2
 obtain ⟨x,bm,newId,B,initId,mg',O,FB⟩:=I.ok.excs k C hC
 refine V0 O.obj fun tl N nm' q bs hdct sn sub ab col dd k0 k1 k2 k3 k5 mN hh=>?_
 obtain ⟨hCo,hN,hni,Tl⟩:=hh
 refine wpAny_Raise_call_subT (C:=C) (nm:=nm') (q:=q) (N:=N) (bs:=bs) (bm:=tl) (hdct:=hdct) (sn:=sn) (sub:=sub) (ab:=ab) (col:=col) (dd:=dd) (k0:=k0) (k1:=k1) (k2:=k2) (k3:=k3) (k5:=k5) FB (mN:=mN) (Tl.hasType FB.hasBase) I.hh.1 (BW _ _ h2) hni (Cn I h1 fun y hy=>?_)
 obtain ⟨C',hC',rfl⟩:=hy
 obtain rfl:=Av hC hC'
 refine ⟨rfl,AAO (C9 (r:=c.toAr) (Q:=fun a s2=>a.kw=[]/\a.pos.length<=sizeLine/\s2.heap.get? C=some (excClassObj nm' q C N bs tl hdct sn sub ab col dd k0 k1 k2 k3 k5 newId)/\s2.heap.Ns N mN/\OwnTail s2.heap bm tl/\∀ h' e,Heap.MadeExcOf s2.heap h' e (.ref C) a.pos->SXP n c g k X (.ref e) { s2 with heap:=h' }) h2 (AAO (h c g s vs cp h2 I) (fun Xs s₁ p=>p _ fun g₁ le a₁ r1=>?_) fun _ _ h=>h)) (fun _ _ h=>h) fun _ _ h=>h.elim⟩
 have hz:=(I.step le a₁).base
 refine ⟨rfl,by show Xs.length<=_; rw [<-r1.length,<-AR]; exact hl,hz _ _ hCo,hN.keeps hz,Tl.keeps hz,fun h' e hm=>?_⟩
 obtain ⟨t,ht,_,_⟩:=hm.there
 have H:=a₁.keep (s':={ s₁ with heap:=h' }) hm.keeps
 exact fun R_ kk=>kk ρ σ₁ g₁ hX le.toO (I.step le H) ⟨e,_,_,C,rfl,ht,hC,rfl,rfl,rfl,a₁.free hm.new,rfl,.inl ⟨rfl,trivial⟩⟩
theorem SX.exp (hp:Bz e=false) (h:SEx n e ρ σ k σ') (hX:X ρ σ'):SX n (.exp e) ρ σ k X:=fun c g s x hc I=>hc (fun x=>c.wx (exec x c.env) (SXP n c g k X) s) fun ex p hc=>by
 have hi:interactive c.env=false:=by unfold interactive; rw [I.cx.kind]; rfl
 rw [arm_exec_Expr]
 refine AAD (AA7 ?_)
 rw [hi]
 show c.wx (swapsWith ex none p.line c.env>>=_) _ _
 rw [D9 e hp hc,pure_bind,if_neg ABB]
 exact AAD (AAO (h c g s ex hc I) (fun _ _ h=>h.elim) fun y s' p R_ kk=>p R_ fun g' le H fl=>kk ρ σ' g' hX le.toO (I.step le H) fl)
theorem SEx.mcall (hb:Ek a) (hm:mtP nm=some f) (ha:SE n a ρ σ (.obj ks) σ₁) (hs:SEs n b ρ σ₁ ws σ₂) (hf:FX n f (.obj ks::ws) σ₂ k σ'):SEx n (.mcall nm a b) ρ σ k σ':=fun c g s ex hc I=>hc (fun ex=>c.wx (eval ex c.env) (Gn c.T g σ' k) s) fun z ap vs p h1 h2 h3 h4=>by
 refine HW (r:=c.toAr) (hb h1 _ _ _) (few h2 h4) (AAI h3) (AAO (ha c g s z h1 I) (fun X s₁ p1=>p1 _ fun g₁ le1 a₁ r1 pl=>?_) fun _ _ h=>h.elim)
 have I1:=I.step le1 a₁
 obtain ⟨N,mN,C,F⟩:=I1.ok.cls
 have hz:=fun b o e=>I1.has.fz b o (I1.has.base b o e)
 refine Pm (C.keeps hz).obj fun x1 x2 x3 x4 x5 x6 x7 x8 x9 xa xb xc hC=>?_
 obtain ⟨na,fa,fo,e1,e2,e3,e4⟩:=F.mt nm f hm
 obtain ⟨o,fd,ho,hd⟩:=I.cx.rd.fnob f fa e1
 refine JR I1.has r1 (R_:=fun X=>As c.T g₁ (.obj ks) X->wpAny (model c.T.prog c.T.w) c.A (getMethod X nm pl) (fun m s2=>c.wx (callWith p m.1 m.2 (backTo p (starEach vs c.env)) []) (Gn c.T g σ' k) s2) (Gn c.T g σ' k) s₁) (fun x mA J hn h8 r1=>?_) r1
 refine method_of hC (C.keeps hz).ns F.ga F.ge e2 (hz _ _ e3) e4 (typeLookup_type ..) J (hn nm na) ?_
 refine callWith_function (o:=o) (fd:=fd) (AAO (C9 (r:=c.toAr) (Q:=fun a s2=>(s2.heap.get? fa=some o/\o.data=.func fd)/\c.wx (call (.ref fa) ([.ref x]++a.pos) a.kw) (Gn c.T g σ' k) s2) h2 (AAO (hs c g₁ s₁ vs p h2 I1) (fun Ys s2 p2=>p2 _ fun g2 le2 a₂ r2=>⟨⟨(I1.step le2 a₂).base _ _ ho,hd⟩,AAO (hf c.toAr g2 s2 fa (.ref x::Ys) e1 (I1.step le2 a₂).toAt ⟨As.mono le2.toup _ _ r1,r2⟩) (fun _ _ h=>h) fun _ _ p=>p.after (le1.trans le2)⟩) fun _ _ h=>h)) (fun _ _ h=>h) fun _ _ h=>h.elim)
theorem FX.of {fn:Fn} {xs:List V} (hP:Pg f=some fn) (hl:xs.length=fn.np) (hb:SXs n fn.body (B3 fn xs) σ k fun _ σ₁=>σ₁=σ') (hn:1<=n):FX (n+1) f xs σ k σ':=fun r g s a Xs hf A R=>A.ok.fns f fn a hP hf _ fun fd body o vars lam F=>by
 have H:=A.has
 have hz:=fun b o e=>H.fz b o (H.base b o e)
 refine wpAny_call (codeAny_call_cells (AAS (AAC (AA9 _ _) A.depth) (by decide)) (hz _ _ F.ob) F.data (A.ok.ok.nolimit.keeps hz) (F.code.keeps hz) F.bd (F.bind Xs (R.length.symm.trans hl)) F.clo (fun p hp=>?_) (fun s₁ ic=>?_) F.cor F.gen F.kind)
 ·refine (F.par p.1 (List.of_mem_zip (a:=p.1) (b:=p.2) hp).1).imp id fun h=>⟨h,?_⟩
  obtain ⟨c,q⟩:=BF (k:=s.heap.objs.size+1) (acc:=[]) (AW h)
  obtain ⟨c,q⟩:=E3 q
  rw [q]; rfl
 ·obtain ⟨g₁,I,le,new⟩:=LA F hn hl A.ok A.frames A.depth A.units A.hh A.frs H R rfl ic
  have is:MW fn.body (Oj r (callEnvC fd s.heap.objs.size a) vars lam).K body:=F.is
  refine AAO (hb _ g₁ s₁ body is I) (fun _ _ h=>h.elim) fun x s2 p=>p _ fun ρ σ₂ g2 e l I2 fl=>?_
  subst e
  unfold leaving
  refine AAD (KS (outer:=r.fe) I2.frames I2.frs I2.has fl fun h₃ H3 fl3=>?_)
  refine Ft (s:={ s2 with heap:=h₃ }) (L:=none) I2.frs H3 fl3 fun h₄ H4 fl4=>?_
  obtain ⟨hd,H',le',e'⟩:=H4.back (its:=CI (callEnvC fd s.heap.objs.size a)) (own:=[]) (s':={ s2 with heap:=h₄ }) (AAV _▸le.trans l) new (fun _ _ _ e=>e) (H4.away I2.loc.ow)
  refine fun R_ kk=>kk _ le' H' (fl4.other (g':=⟨g2.fz,hd,g2.mu⟩) fun c F=>⟨F.fz,?_,F.mu,F.tab⟩).any
  by_cases q:c∈CI (callEnvC fd s.heap.objs.size a)
  ·exact (le'.hid c AA1).trans (new c q)
  ·exact (e' c q).trans F.hid
end
end Mine
namespace Mine
open PySem PySem.Calls
theorem Qk {x:Value} {env env':Env} (h:env.frame=env'.frame):noteFrame x env=noteFrame x env':=by
 unfold noteFrame frameOf
 rw [h]
section
variable {n k:Nat} {c:Cx} {ρ:Ah} {g g' g₁:G} {σ σ' σ₁:Aa} {s s':Shared} {x:Value} {b:S} {i:Nat} {j:Int} {A':Around} {Er:Value->Shared->Prop}
theorem Q2 {v:V} {ex:Expr} {Q:Value->Shared->Prop} (I:Inv n c ρ g σ s) (hc:IsE (.var i) c.K ex) (hv:ρ[i]? = some (some v)) (h:∀ X,As c.T g v X->Q X s):wpAny (model c.T.prog c.T.w) A' (eval ex c.env) Q Er s:=hc (fun ex=>wpAny (model c.T.prog c.T.w) A' (eval ex c.env) Q Er s) fun nm p hx=>by
 have hq:=Ii I.cx.names hx.1
 refine wpAny_Name ?_ hq.2.1
 rcases hq.1 with hk | hk
 ·refine I.loc.ns _ fun m hm hs=>?_
  obtain ⟨x,e,r⟩:=hs i nm v hx.2 hv hk
  exact wpAny_loadName_local I.cx.kind hk (I.has.ns hm) e (h x r)
 ·refine I.loc.ce nm hk _ fun a u e hu hs=>?_
  obtain ⟨x,rfl,r⟩:=hs i v hx.2 hv
  rcases hk with hk | hk
  ·exact wpAny_loadName_cell I.cx.kind hk e (I.has.cell hu) (h x r)
  ·exact wpAny_loadName_free I.cx.kind hk e (I.has.cell hu) (h x r) hq.2.2
theorem QP {ex:Expr} {Q:Value->Shared->Prop} (I:Inv n c ρ g σ s) (hc:IsE (.bin .Add (.var i) (.cst (.int 1))) c.K ex) (hi:ρ[i]? = some (some (vi j))) (h:∀ X t,As c.T g (vi (j+1)) X->Q X { s with toks:=t }):wpAny (model c.T.prog c.T.w) A' (eval ex c.env) Q Er s:=hc (fun ex=>wpAny (model c.T.prog c.T.w) A' (eval ex c.env) Q Er s) fun l r p h1 h2=>by
 rw [arm_eval_BinOp]
 refine AAD (Q2 I h1 hi fun X rX=>?_)
 obtain ⟨t,rfl⟩:=rX
 refine AAD (AA8 ?_)
 refine h2 (fun r=>wpAny (model c.T.prog c.T.w) A' (eval r c.env) _ Er s) fun m q _=>wpAny_Constant_int ?_
 exact AAD (AA7 (wpAny_operating (P.add_int (h _ _ ⟨_,rfl⟩))))
theorem To {Q:Flow->Shared->Prop} {st:Stmt} (I:Inv n c ρ g σ s) (hc:IsS (.asg i (.bin .Add (.var i) (.cst (.int 1)))) c.K st) (hi:ρ[i]? = some (some (vi j))) (h:∀ g' s',G.le c.own g g'->Inv n c (ρ.set i (some (vi (j+1)))) g' σ s'->Q .next s'):wpAny (model c.T.prog c.T.w) A' (exec st c.env) Q Er s:=hc (fun st=>wpAny (model c.T.prog c.T.w) A' (exec st c.env) Q Er s) fun nm p ex p' h1 hc _=>by
 rw [arm_exec_Assign]
 refine AAD (AA7 ?_)
 show wpAny _ _ (swapsWith ex (some (.Name nm p)) p'.line c.env>>=_) _ _ _
 rw [D9 _ rfl hc,pure_bind,if_neg ABB]
 refine AAD (QP I hc hi fun X t rX=>?_)
 have I1:=I.step (.refl _ _) (I.has.tok (s':={ s with toks:=t }))
 rw [show swappedStores [.Name nm p] ex c.env=pure none by unfold swappedStores; rfl,pure_bind]
 unfold assignStores
 show wpAny _ _ (assignAll X [assign (.Name nm p) c.env]>>=fun _=>pure Flow.next) _ _ _
 rw [show assignAll X [assign (.Name nm p) c.env]=assign (.Name nm p) c.env X by first | rfl | (unfold assignAll; rfl)]
 exact AAD (I1.asgn h1 rX fun g2 s2 le2 _ I2=>AAY (h g2 s2 le2 I2))
theorem Ru {C e:Addr} {oe:Obj} {Q:Bool->Shared->Prop} (I:Inv n c ρ g σ s) (q3:c.T.exc k=some C) (q2:s.heap.get? e=some oe) (q4:oe.cls=.ref C) (hq:Q true s):wpAny (model c.T.prog c.T.w) A' (excMatches (.ref e) (.ref C)) Q Er s:=by
 obtain ⟨x,bm,newId,B,initId,mg',O,FB⟩:=I.ok.excs k C q3
 refine V0 O.obj fun tl N nm' q bs hdct sn sub ab col dd k0 k1 k2 k3 k5 mN hh=>?_
 obtain ⟨hCo,hN,hni,Tl⟩:=hh
 exact wpAny_excMatches_sub_self (I.base _ _ hCo) q2 q4 (Tl.hasType FB.hasBase) hq
theorem SS.tryInc {Q:Fl->Aa->Prop} (hb:SXs n b ρ σ k fun ρ' σ₁=>ρ'=ρ/\σ₁=σ') (hi:ρ[i]? = some (some (vi j))) (hq:Q (.next (ρ.set i (some (vi (j+1))))) σ'):SS n (.try_ b k (.cons (.asg i (.bin .Add (.var i) (.cst (.int 1)))) .nil)) ρ σ Q:=fun c g s x hc I=>hc (fun x=>c.wp (exec x c.env) (Bv n c g Q) s) fun bd nm np y ys hp p h1 h2 h3=>by
 refine wpAny_Try_except (AAO (hb c g s bd h1 I) (fun _ _ h=>h.elim) fun x s₁ q=>q _ fun ρ' σ₁ g₁ hX le I1 fl=>?_)
 obtain ⟨rfl,rfl⟩:=hX
 obtain ⟨e0,l,hfe,hfr⟩:=I1.cx.hfr
 have fr:=I1.frs
 rw [hfe] at fr
 rw [Qk hfr]
 refine KS (outer:=l) (I1.frames.trans (congrArg some hfe)) fr I1.has fl fun h₃ H3 fl3=>?_
 refine Ft (s:={ s₁ with heap:=h₃ }) (L:=none) I1.frs H3 fl3 fun h₄ H4 fl4=>?_
 have I4:=I1.step (.refl _ _) H4
 have fl4':=fl4
 obtain ⟨e,oe,vs,C,rfl,q2,q3,q4,q5,q6,q7,q8,q9⟩:=fl4'
 refine wpAny_handleBy_cons (codeAny_handlers_test (Cn I4 h2 fun y hy=>?_)) (by intro q; cases q)
 obtain ⟨C',hC',rfl⟩:=hy
 obtain rfl:=Av q3 hC'
 refine Ru I4 q3 q2 q4 ?_
 refine codeAny_handlers_suite (Ft (s:={ s₁ with heap:=h₄ }) (L:=none) I4.frs H4 fl4 fun h₅ H5 fl5=>?_)
 have I5:=I4.step (.refl _ _) H5
 refine h3 (fun ys=>wpAny (model c.T.prog c.T.w) (c.A.mark (some (.ref e))) (execs ys c.env) _ _ _) fun z zs h4 h5=>?_
 obtain rfl:zs=[]:=h5
 rw [execs_cons]
 exact AAD (To I5 h4 hi fun g6 s6 le6 I6=>wpAny_execs_nil fun R_ k1 _=>k1 _ σ₁ g6 hq (le.trans le6) I6)
end
end Mine
namespace Mine
open PySem PySem.Calls PyProof.Rows
noncomputable abbrev Row:=Nat×Str×Fn×List Str
noncomputable def HL (p:Program) (n:Str):Option Rc:=((recsOf p).find? (·.name == n)).map fun d=>⟨d.params,d.body,d.scope⟩
noncomputable def L3:Str:=ACB "Weave"
noncomputable def RG (p:Program) (loose:List Str):Option ClsRec:=(plainsOf p loose).find? (·.name == L3)
noncomputable def JP (p:Program) (loose:List Str) (n:Str):Option Rc:=(RG p loose).bind fun c=>(c.meths.find? (·.name == n)).map fun m=>⟨m.params,m.body,m.scope⟩
noncomputable def Ej (o:Option Rc):List Stmt:=match o with | some r=>r.body | none=>[]
noncomputable def HP (o:Option Rc) (lam:Option (Addr×Str)) (x:Row):Bool:=match o with | some r=>UQ lam x.2.2.1 x.2.2.2 r | none=>false
noncomputable def Hj (n:Str):Str:=(n++(".<locals>." : Str))++("<lambda>" : Str)
theorem Fp {o:Option Rc} {lam:Option (Addr×Str)} {x:Row} (h:HP o lam x=true):∃ r,o=some r/\UQ lam x.2.2.1 x.2.2.2 r=true:=by
 cases o with
 | none=>exact ff_ h
 | some r=>exact ⟨r,rfl,h⟩
noncomputable def hide (h:Heap) (t:Addr):Heap:=h.update t fun o=>{ o with data:=.freed }
theorem Im {h:Heap} {t a:Addr} (hab:a≠t):(hide h t).get? a=h.get? a:=ABD h _ (Ne.symm hab)
theorem hide_self {h:Heap} {t:Addr}:(hide h t).get? t=none:=by
 cases hq:h.objs[t]? with
 | none =>
  have e2:(hide h t).objs[t]? = none:=by
   show (h.objs.modify t fun o=>{ o with data:=.freed })[t]? = _
   rw [Array.getElem?_modify,if_pos rfl,hq]; rfl
  unfold Heap.get?
  rw [e2]
 | some o' =>
  have e2:(hide h t).objs[t]? = some { o' with data:=.freed }:=by
   show (h.objs.modify t fun o=>{ o with data:=.freed })[t]? = _
   rw [Array.getElem?_modify,if_pos rfl,hq]; rfl
  unfold Heap.get?
  rw [e2]
noncomputable def Jv (h:Heap):List Addr->Heap
 | []=>h
 | t::r=>hide (Jv h r) t
theorem G7 {h:Heap} {a:Addr}:∀ {ts:List Addr},a∉ts->(Jv h ts).get? a=h.get? a
 | [],_=>rfl
 | t::r,q=>(Im fun (e:a=t)=>q (e▸.head _)).trans (G7 fun m=>q (.tail _ m))
theorem Lk {h:Heap} {a:Addr}:∀ {ts:List Addr},a∈ts->(Jv h ts).get? a=none
 | t::r,q=>by
  by_cases e:a=t
  ·rw [e]; exact hide_self
  ·exact (Im e).trans (Lk ((AAR.mp q).resolve_left e))
section
variable {p:Program} {loose:List Str} {mean:ExcName->Option Value} {mg mb mN:Str->Option Value} {T:Mine.Top} {h:Heap} {ts:List Addr}
structure Hid (T:Mine.Top) (h:Heap) (ts:List Addr):Prop where
 h0:T.h0=Jv h ts
 tab:∀ t,t∈ts->h.get? t=some (W.tabObj #[])
theorem Hid.get (H:Hid T h ts) {a:Addr} {o:Obj} (e:h.get? a=some o) (hd:o.data≠.fields #[]):T.h0.get? a=some o:=by
 rw [H.h0,G7 fun q=>hd (by rw [H.tab a q] at e; rw [<-AAA e])]
 exact e
theorem Hid.ns (H:Hid T h ts) {a:Addr} {m:Str->Option Value} (x:h.Ns a m):T.h0.Ns a m:=by
 obtain ⟨o,es,ep,e,d,r⟩:=x; exact ⟨o,es,ep,H.get e (by rw [d]; exact fun q=>nomatch q),d,r⟩
theorem Hid.tail (H:Hid T h ts) {bmB tl:List Value} (x:OwnTail h bmB tl):OwnTail T.h0 bmB tl:=by
 induction x with
 | base=>exact .base
 | own h1 h2 h3 _ ih=>exact .own (H.get h1 fun q=>nomatch q) (H.ns h2) h3 ih
theorem Hid.own (H:Hid T h ts) {x:Str} {C:Addr} {bm:List Value} {newId:String} (O:PyProof.Rows.OwnCls x C bm newId mg h):PyProof.Rows.OwnCls x C bm newId mg T.h0:=by
 refine V0 O.obj fun tl N nm q bs hdct sn sub ab col dd k0 k1 k2 k3 k5 mN hh=>?_
 obtain ⟨hC,hN,hni,Tl⟩:=hh
 exact ⟨O.bound,tl,N,nm,q,bs,hdct,sn,sub,ab,col,dd,k0,k1,k2,k3,k5,mN,H.get hC (fun q=>nomatch q),H.ns hN,hni,H.tail Tl⟩
theorem Hid.code (H:Hid T h ts) {cd:Value} {q:Str} (x:h.CodeRec cd q):T.h0.CodeRec cd q:=by
 obtain ⟨c,o,vs,t,e,g,d,r⟩:=x; exact ⟨c,o,vs,t,e,H.get g (fun w=>by rw [d] at w; injection w with w; rw [w] at r; exact Ac r),d,r⟩
theorem Hid.hd (H:Hid T h ts) {c t:Addr} (x:W.CodeHd h c t):W.CodeHd T.h0 c t:=by
 obtain ⟨o,vs,file,tf,flags,tg,inF,text,tt,e,a,b,c',d,f,g,i,j,hne⟩:=x; exact ⟨o,vs,file,tf,flags,tg,inF,text,tt,H.get e (fun w=>by rw [b] at w; injection w with w; rw [w] at c'; exact Ac c'),a,b,c',d,f,g,i,j,hne⟩
theorem TB (Tp:PyProof.Rows.Top p loose mean mg mb h) (H:Hid T h ts) {x:Row} {lam:Option (Addr×Str)} (hk:HP (HL p x.2.1) lam x=true) (hem:(emS x.2.2.1.body).2 (Ej (HL p x.2.1))=Ej (HL p x.2.1)) {a:Addr} (ha:mg x.2.1=some (.ref a))
 (hl:∀ t q,lam=some (t,q)->(t,q)∈T.tabs/\Hj x.2.1=q/\∀ o fd,h.get? a=some o->o.data=.func fd->∃ c,fd.code=.ref c/\W.CodeHd h c t):VN T glP x.2.2.1 a:=by
 obtain ⟨r,hr,hk⟩:=Fp hk
 rw [hr] at hem
 obtain ⟨d,hd,rfl⟩:=ABL.mp hr
 have hm:=ABH hd
 have hn:d.name=x.2.1:=ABM (show (d.name == x.2.1)=true from List.find?_some (p:=fun (y:DefRec)=>y.name == x.2.1) hd)
 obtain ⟨a',o,pm,code,doc,e1,e2,e3,e4⟩:=Tp.fn d hm
 rw [hn,ha] at e1
 obtain rfl:=ABR (AAA e1)
 refine fun R_ k=>k _ _ o x.2.2.2 lam (NV hk hem (H.get e2 (by rw [e3]; exact fun q=>nomatch q)) e3 (H.code e4) rfl rfl rfl rfl rfl rfl rfl rfl fun t q e=>?_)
 obtain ⟨h1,h2,h3⟩:=hl t q e
 obtain ⟨c,c1,c2⟩:=h3 o _ e2 e3
 exact ⟨h1,by rw [<-h2,<-hn]; rfl,c,c1,H.hd c2⟩
theorem JV {c:ClsRec} {C N:Addr} (hc:RG p loose=some c) (P:PlainAt h c C N mN) (H:Hid T h ts) {x:Row} (hk:HP (JP p loose x.2.1) none x=true) (hem:(emS x.2.2.1.body).2 (Ej (JP p loose x.2.1))=Ej (JP p loose x.2.1)):∃ a o,mN x.2.1=some (.ref a)/\T.h0.get? a=some o/\o.cls=.type "function"/\(∃ fd,o.data=.func fd)/\VN T glP x.2.2.1 a:=by
 obtain ⟨r,hr,hk⟩:=Fp hk
 rw [hr] at hem
 obtain ⟨c',hc',hr⟩:=Ab hr
 obtain rfl:=Av hc hc'
 obtain ⟨m,hm,rfl⟩:=ABL.mp hr
 have hn:m.name=x.2.1:=ABM (show (m.name == x.2.1)=true from List.find?_some (p:=fun (y:MethRec)=>y.name == x.2.1) hm)
 obtain ⟨f,o,pm,cd,doc,e1,e2,e3,e4,e5⟩:=P.meths m (ABH hm)
 have ho:=H.get e2 (by rw [e4]; exact fun q=>nomatch q)
 exact ⟨f,o,hn▸e1,ho,e3,⟨_,e4⟩,fun R_ k=>k _ _ o x.2.2.2 none (NV hk hem ho e4 (H.code e5) rfl rfl rfl rfl rfl rfl rfl rfl fun t q e=>Ac e)⟩
noncomputable def Iu (p:Program) (loose:List Str) (x:Str):Bool :=
 !startupNames.contains x&&(!loose.contains x&&(!((recsOf p).map (·.name)).contains x&&(!((litsOf p).map (·.1)).contains x&&(!((clssOf p loose).map (·.name)).contains x && !(x == ("__name__" : Str))))))
theorem EM {x:Str} {l:List Str} (h:(!l.contains x)=true):x∉l:=fun hm=>by rw [List.contains_iff_mem.mpr hm] at h; exact ff_ h
theorem NR (Tp:PyProof.Rows.Top p loose mean mg mb h) {x:Str} (hf:Iu p loose x=true):mg x=none/\mb x=bootBuiltins x :=
 ⟨Tp.free x (EM (A4 hf)) (EM (A4 (Ak hf))) (EM (A4 (Ak (Ak hf)))) (EM (A4 (Ak (Ak (Ak hf))))) (EM (A4 (Ak (Ak (Ak (Ak hf)))))),Tp.builtins x fun e=>by
  have q:=Ak (Ak (Ak (Ak (Ak hf))))
  rw [e,beq_self_eq_true] at q; exact ff_ q⟩
noncomputable def isInt (d:PyData):Bool:=match d with | .int _=>true | .str z=>Nat.ble z.length 16777216 | _=>false
noncomputable def Wo (p:Program) (loose:List Str) (e:Str×GV):Bool :=
 match e.2 with
 | .fn f=>(DY.find? fun x=>Nat.beq x.1 f).any fun x=>x.2.1 == e.1
 | .bi b=>Iu p loose e.1&&(bootBuiltins e.1 == some (Bd b))
 | .ty t=>Iu p loose e.1&&(bootBuiltins e.1 == some (.type t))
 | .cst d=>isInt d&&(match valOf p e.1 with | some d'=>GE d' d | none=>false)
 | .cls=>e.1 == L3
 | .exc k=>(MG.lookup k).any fun n=>n == e.1
noncomputable def Ug (p:Program) (e:Nat×Str):Bool:=(ownsOf p).any fun o=>o.name == e.2&&(o.newId == "ValueError.__new__" && o.bm == [.type "ValueError",.type "Exception",.type "BaseException",.type "object"])
noncomputable def GO (v:Value):Option Addr:=match v with | .ref a=>some a | _=>none
theorem DD {o:Option Value} {a:Addr} (h:o.bind GO=some a):o=some (.ref a):=by
 obtain ⟨v,rfl,h⟩:=Ab h
 cases v with
 | ref b=>rw [AAA (show some b=some a from h)]
 | _=>exact Ac h
noncomputable def GR (mg mN:Str->Option Value) (f:Nat):Option Addr :=
 match DY.find? fun x=>Nat.beq x.1 f with
 | some x=>(mg x.2.1).bind GO
 | none=>(match DE.find? fun x=>Nat.beq x.1 f with | some x=>(mN x.2.1).bind GO | none=>none)
theorem Ga {f:Nat} {x:Row} (hx:(DY.find? fun x=>Nat.beq x.1 f)=some x):GR mg mN f=(mg x.2.1).bind GO:=by unfold GR; rw [hx]
theorem Iv {f:Nat} {x:Row} (h0:(DY.find? fun x=>Nat.beq x.1 f)=none) (hx:(DE.find? fun x=>Nat.beq x.1 f)=some x):GR mg mN f=(mN x.2.1).bind GO:=by unfold GR; rw [h0,hx]
theorem Ea {l:List Row} {f:Nat} {x:Row} (h:(l.find? fun x=>Nat.beq x.1 f)=some x):x.1=f/\x∈l:=⟨Nat.eq_of_beq_eq_true (List.find?_some (p:=fun (x:Row)=>Nat.beq x.1 f) h),ABH h⟩
theorem LK {α:Type} {f:α->Bool} {o:Option α} (h:o.any f=true):∃ d,o=some d/\f d=true:=by
 cases o with
 | none=>exact ff_ h
 | some d=>exact ⟨d,rfl,h⟩
theorem mem_of_lookupE {k:Nat} {n:Str}:∀ {l:List (Nat×Str)},l.lookup k=some n->(k,n)∈l
 | [],h=>Ac h
 | b::l,h=>by
  rw [List.lookup_cons] at h
  cases hb:k == b.1 with
  | true =>
   rw [hb] at h
   obtain rfl:=AAA h
   rw [ABM hb]; exact .head _
  | false=>rw [hb] at h; exact .tail _ (mem_of_lookupE h)
noncomputable def Rv (mg:Str->Option Value) (k:Nat):Option Addr:=(MG.lookup k).bind fun n=>(mg n).bind GO
structure RV (p:Program) (loose:List Str) (lamOf:Nat->Option (Addr×Str)):Prop where
 fok:∀ x,x∈DY->HP (HL p x.2.1) (lamOf x.1) x=true
 fem:∀ x,x∈DY->(emS x.2.2.1.body).2 (Ej (HL p x.2.1))=Ej (HL p x.2.1)
 mok:∀ x,x∈DE->HP (JP p loose x.2.1) none x=true
 mem:∀ x,x∈DE->(emS x.2.2.1.body).2 (Ej (JP p loose x.2.1))=Ej (JP p loose x.2.1)
 gok:∀ e,e∈Vs->Wo p loose e=true
 eok:∀ e,e∈MG->Ug p e=true
 att:∀ x,x∈DE->x.2.1∉CK
 apart:∀ x,x∈DE->(DY.find? fun y=>Nat.beq y.1 x.1)=none
 self:∀ x,x∈DE->(DE.find? fun y=>Nat.beq y.1 x.1)=some x
theorem SF {lamOf:Nat->Option (Addr×Str)} {c:ClsRec} {C N:Addr} (K:RV p loose lamOf) (Tp:PyProof.Rows.Top p loose mean mg mb h) (hc:RG p loose=some c) (hst:∀ nm,nm∈CK->nm∈c.statics) (hC:mg L3=some (.ref C)) (P:PlainAt h c C N mN) (eC:C=T.cls) (eF:T.fn=GR mg mN) (eE:T.exc=Rv mg) (H:Hid T h ts) (S:h.NoSeer) (ht:T.prog.given.tree=none) (htf:∀ t q q',(t,q)∈T.tabs->(t,q')∈T.tabs->q=q')
 (hl:∀ x t q,x∈DY->lamOf x.1=some (t,q)->(t,q)∈T.tabs/\Hj x.2.1=q/\∀ a o fd,mg x.2.1=some (.ref a)->h.get? a=some o->o.data=.func fd->∃ c,fd.code=.ref c/\W.CodeHd h c t):IP T:=by
 have fnA:∀ x,x∈DY->∃ a o fd,mg x.2.1=some (.ref a)/\h.get? a=some o/\o.data=.func fd:=fun x hx=>by
  obtain ⟨r,hr,_⟩:=Fp (K.fok x hx)
  obtain ⟨d,hd,rfl⟩:=ABL.mp hr
  have hn:d.name=x.2.1:=ABM (show (d.name == x.2.1)=true from List.find?_some (p:=fun (y:DefRec)=>y.name == x.2.1) hd)
  obtain ⟨a',o,pm,code,doc,e1,e2,e3,e4⟩:=Tp.fn d (ABH hd)
  exact ⟨a',o,_,hn▸e1,e2,e3⟩
 have excD:∀ {k n},MG.lookup k=some n->∃ C,mg n=some (.ref C)/\Xn T C:=fun {k n} e=>by
  obtain ⟨o,ho,h1⟩:=List.any_eq_true.mp (K.eok (k,n) (Mine.mem_of_lookupE e))
  obtain ⟨C,O,_⟩:=Tp.own o ho
  have hn:o.name=n:=ABM (A4 h1)
  refine ⟨C,hn▸O.bound,o.name,o.bm,o.newId,"ValueError","ValueError.__init__",mg,H.own O.own,?_⟩
  rw [ABM (A4 (Ak h1)),ABM (Ak (Ak h1))]
  exact F.excBase_ValueError
 obtain ⟨mc,n1,n2⟩:=Tp.nolimit
 obtain ⟨mm,m1,m2⟩:=S.mods
 obtain ⟨mc',c1,c2⟩:=S.statics
 obtain ⟨mb',i1,i2⟩:=S.imp
 obtain ⟨mg',bm0,ob0,g1,g2,g3,g4⟩:=S.main
 obtain ⟨bm,ob,b1,b2,b3,b4,b5,b6⟩:=Tp.bmain
 have hob:=H.get b3 (by rw [b6]; exact fun q=>nomatch q)
 have fnD:∀ f a,T.fn f=some a->∃ o fd,T.h0.get? a=some o/\o.data=.func fd:=fun f a e=>by
  rw [eF] at e
  cases hx:DY.find? fun x=>Nat.beq x.1 f with
  | some x =>
   rw [Ga hx] at e
   obtain ⟨a',o,fd,e1,e2,e3⟩:=fnA x (Ea hx).2
   obtain rfl:=ABR (Av (DD e) e1)
   exact ⟨o,fd,H.get e2 (by rw [e3]; exact fun q=>nomatch q),e3⟩
  | none =>
   cases hy:DE.find? fun x=>Nat.beq x.1 f with
   | none=>unfold GR at e; rw [hx,hy] at e; exact Ac e
   | some x =>
    rw [Iv hx hy] at e
    obtain ⟨a',o,e1,e2,_,⟨fd,e3⟩,_⟩:=JV hc P H (K.mok x (Ea hy).2) (K.mem x (Ea hy).2)
    obtain rfl:=ABR (Av (DD e) e1)
    exact ⟨o,fd,e2,e3⟩
 refine ⟨⟨⟨⟨mc,H.ns n1,n2⟩,⟨⟨mc',H.ns c1,c2⟩,⟨mm,H.ns m1,m2⟩,⟨mb',H.ns i1,i2⟩,⟨mg,bm,ob,H.ns Tp.g,b1,hob,b4,b5⟩⟩,ht,?_,htf⟩,fnD,mg,mb,H.ns Tp.g,H.ns Tp.b,fun n v hv=>?_,bm,ob,b1,b2,hob,b4,b5,b6⟩,fun f fn a hP hf=>?_,⟨N,mN,?_,P.quiet _ ?_,P.quiet _ ?_,P.quiet _ ?_,fun nm hm=>P.quiet _ (AAW _ (hst nm hm)),fun nm f hm=>?_⟩,fun k C' e=>?_⟩
 ·obtain ⟨o,es,ep,e,d,r⟩:=m1
  exact ⟨o,H.get e (by rw [d]; exact fun q=>nomatch q)⟩
 ·unfold glP at hv
  have he:=K.gok (n,v) (mem_of_lookup hv)
  cases v with
  | fn f =>
   obtain ⟨x,hx,he⟩:=LK (show (DY.find? fun x=>Nat.beq x.1 f).any (fun x=>x.2.1 == n)=true from he)
   obtain ⟨a,o,fd,e1,_⟩:=fnA x (Ea hx).2
   have hn:x.2.1=n:=ABM he
   exact ⟨_,⟨a,by rw [eF,Ga hx,e1]; rfl,rfl⟩,.inl (hn▸e1)⟩
  | bi b =>
   have he:(Iu p loose n&&(bootBuiltins n == some (Bd b)))=true:=he
   obtain ⟨f1,f2⟩:=NR Tp (A4 he)
   exact ⟨_,rfl,.inr ⟨f1,by rw [f2]; exact beq_iff_eq.mp (Ak he)⟩⟩
  | ty t =>
   have he:(Iu p loose n&&(bootBuiltins n == some (.type t)))=true:=he
   obtain ⟨f1,f2⟩:=NR Tp (A4 he)
   exact ⟨_,rfl,.inr ⟨f1,by rw [f2]; exact beq_iff_eq.mp (Ak he)⟩⟩
  | cst d =>
   have he:(isInt d&&(match valOf p n with | some d'=>GE d' d | none=>false))=true:=he
   have h2:=Ak he
   cases e:valOf p n with
   | none=>rw [e] at h2; exact ff_ h2
   | some d' =>
    rw [e] at h2
    obtain ⟨v,v1,v2⟩:=Tp.const n d' e
    rw [J5 (show GE d' d=true from h2)] at v2
    refine ⟨v,?_,.inl v1⟩
    have h1:=A4 he
    cases d with
    | int i=>obtain ⟨t,e,_⟩:=reads_int_inv (v2 {}); exact ⟨t,e⟩
    | str z=>obtain ⟨t,e,_⟩:=reads_str_inv (v2 {}); exact ⟨t,e,Nat.le_of_ble_eq_true h1⟩
    | _=>exact ff_ h1
  | cls=>exact ⟨_,rfl,.inl (by rw [ABM (show (n == L3)=true from he),hC,eC])⟩
  | exc k =>
   obtain ⟨n',hx,he⟩:=LK (show (MG.lookup k).any (fun n'=>n' == n)=true from he)
   obtain ⟨C',e1,_⟩:=excD hx
   have hn:n'=n:=ABM he
   exact ⟨_,⟨C',by rw [eE]; unfold Rv; rw [hx]; show (mg n').bind GO=_; rw [e1]; rfl,rfl⟩,.inl (hn▸e1)⟩
 ·unfold Pg at hP
  obtain ⟨x,hx,rfl⟩:=ABL.mp hP
  rw [List.find?_append] at hx
  rw [eF] at hf
  cases hy:DY.find? fun x=>Nat.beq x.1 f with
  | some y =>
   rw [hy] at hx
   obtain rfl:=AAA (show some y=some x from hx)
   rw [Ga hy] at hf
   have hm:=(Ea hy).2
   exact TB Tp H (K.fok y hm) (K.fem y hm) (DD hf) fun t q e=>by
    obtain ⟨h1,h2,h3⟩:=hl y t q hm e
    exact ⟨h1,h2,fun o fd=>h3 a o fd (DD hf)⟩
  | none =>
   rw [hy] at hx
   have hx:(DE.find? fun x=>Nat.beq x.1 f)=some x:=hx
   rw [Iv hy hx] at hf
   obtain ⟨a',o,e1,_,_,_,e2⟩:=JV hc P H (K.mok x (Ea hx).2) (K.mem x (Ea hx).2)
   obtain rfl:=ABR (Av (DD hf) e1)
   exact e2
 ·rw [<-eC]
  obtain ⟨nm,q,bs,sn,sub,col,dd,k0,k1,k2,k3,k5,e⟩:=P.cls.obj
  exact ⟨⟨nm,q,bs,sn,sub,col,dd,k0,k1,k2,k3,k5,H.get e (fun q=>nomatch q)⟩,H.ns P.cls.ns⟩
 ·exact AAU _ (.tail _ (.head _))
 ·exact AAU _ (.tail _ (.tail _ (.head _)))
 ·exact AAU _ (.head _)
 ·unfold mtP at hm
  obtain ⟨x,hx,rfl⟩:=ABL.mp hm
  have hn:x.2.1=nm:=ABM (show (x.2.1 == nm)=true from List.find?_some (p:=fun (y:Row)=>y.2.1 == nm) hx)
  have hxm:=ABH hx
  obtain ⟨a,o,e1,e2,e3,_,_⟩:=JV hc P H (K.mok x hxm) (K.mem x hxm)
  refine ⟨hn▸K.att x hxm,a,o,?_,hn▸e1,e2,e3⟩
  rw [eF,Iv (K.apart x hxm) (K.self x hxm),e1]; rfl
 ·rw [eE] at e
  obtain ⟨n,hx,e⟩:=Ab (show (MG.lookup k).bind (fun n=>(mg n).bind GO)=some C' from e)
  obtain ⟨C2,e1,h2⟩:=excD hx
  obtain rfl:=ABR (Av (DD e) e1)
  exact h2
end
end Mine
namespace Mine
set_option tactic.hygienic true
set_option maxRecDepth 100000
open PySem PyProof.Rows PySem.W
noncomputable def Je:List Str:=PySem.W.looseW view10 []
noncomputable def NA (t u:Addr) (f:Nat):Option (Addr×Str):=bif Nat.beq f 8 then some (t,Hj nm1) else bif Nat.beq f 20 then some (u,Hj nm2) else none
theorem Dy {α:Type} {l:List α} {f:α->Bool} (h:l.all f=true):∀ x,x∈l->f x=true:=List.all_eq_true.mp h
theorem W8 (t u:Addr):(DY.all fun x=>HP (HL view10 x.2.1) (NA t u x.1) x)=true:=by kernel_rfl
theorem W9:(DY.map fun x=>(emS x.2.2.1.body).2 (Ej (HL view10 x.2.1)))=DY.map fun x=>Ej (HL view10 x.2.1):=by kernel_rfl
theorem Wq:(DE.all fun x=>HP (JP view10 Je x.2.1) none x)=true:=by kernel_rfl
theorem Ws:(DE.map fun x=>(emS x.2.2.1.body).2 (Ej (JP view10 Je x.2.1)))=DE.map fun x=>Ej (JP view10 Je x.2.1):=by kernel_rfl
theorem W5:(Vs.all fun e=>Wo view10 Je e)=true:=by kernel_rfl
theorem WJ:(DE.all fun x=>!CK.contains x.2.1)=true:=by kernel_rfl
theorem XB:(DE.all fun x=>(DY.find? fun y=>Nat.beq y.1 x.1).isNone)=true:=by kernel_rfl
theorem UG:(DE.map fun x=>DE.find? fun y=>Nat.beq y.1 x.1)=DE.map some:=by kernel_rfl
theorem WG:(MG.all (Ug view10))=true:=by kernel_rfl
noncomputable def J6:ClsRec:=(RG view10 Je).getD ⟨L3,none,[],[],0,[]⟩
theorem MM:RG view10 Je=some J6:=by kernel_rfl
theorem VZ:(CK.all fun nm=>J6.statics.contains nm)=true:=by kernel_rfl
theorem U8 (t u:Addr):RV view10 Je (NA t u) where
 fok:=Dy (W8 t u)
 fem:=List.map_inj_left.mp W9
 mok:=Dy Wq
 mem:=List.map_inj_left.mp Ws
 gok:=Dy W5
 eok:=Dy WG
 att:=fun x hx=>EM (Dy WJ x hx)
 apart:=fun x hx=>none_of' (Dy XB x hx)
 self:=List.map_inj_left.mp UG
theorem Vc:(DY.all fun x=>bif Nat.beq x.1 8 then x.2.1 == nm1 else bif Nat.beq x.1 20 then x.2.1 == nm2 else true)=true:=by kernel_rfl
theorem UD:∀ nm,nm∈CK->nm∈J6.statics:=fun nm hm=>List.contains_iff_mem.mp (Dy VZ nm hm)
theorem Vb {t u a:Addr} {q:Str} {x:Row} (hx:x∈DY) (e:NA t u x.1=some (a,q)):(a=t/\q=Hj nm1/\x.2.1=nm1)\/(a=u/\q=Hj nm2/\x.2.1=nm2):=by
 have h:=Dy Vc x hx
 unfold NA at e
 cases h8:Nat.beq x.1 8 with
 | true =>
  rw [h8] at e h
  obtain ⟨q1,q2⟩:=ABK (AAA (show some (t,Hj nm1)=some (a,q) from e))
  exact .inl ⟨q1.symm,q2.symm,ABM h⟩
 | false =>
  rw [h8] at e h
  cases h9:Nat.beq x.1 20 with
  | true =>
   rw [h9] at e h
   obtain ⟨q1,q2⟩:=ABK (AAA (show some (u,Hj nm2)=some (a,q) from e))
   exact .inr ⟨q1.symm,q2.symm,ABM h⟩
  | false=>rw [h9] at e; exact Ac e
end Mine
namespace Mine
set_option tactic.hygienic true
set_option maxRecDepth 100000
open PySem PySem.Calls PyProof.Rows PySem.W
theorem QM {f:Addr->Option Obj} {vs:List Value} {ns:List Int} (h:IntsAre vs ns):RepDs f (ns.map .int) vs:=by
 induction h with
 | nil=>exact trivial
 | cons n t r ih=>exact ⟨⟨t,rfl⟩,ih⟩
section
variable {w:World} {s₁:Shared} {mean:ExcName->Option Value} {mg mb mN:Str->Option Value}
theorem Ub (Tp:PyProof.Rows.Top view10 Je mean mg mb s₁.heap) {n:Str} {P:Addr} (hn:(HL view10 n).isSome=true) (x:IO mg s₁.heap n P):(∃ c,s₁.heap.TableAt c P #[])/\∀ a o fd,mg n=some (.ref a)->s₁.heap.get? a=some o->o.data=.func fd->∃ c,fd.code=.ref c/\CodeHd s₁.heap c P:=by
 cases hr:HL view10 n with
 | none=>rw [hr] at hn; exact ff_ hn
 | some r =>
  obtain ⟨d,hd,_⟩:=ABL.mp hr
  have hdn:d.name=n:=ABM (show (d.name == n)=true from List.find?_some (p:=fun (y:DefRec)=>y.name == n) hd)
  obtain ⟨a,o,fd,c,P',h1,h2,h3,h4,h5,h6⟩:=Tp.tab d (ABH hd)
  rw [hdn] at h1
  obtain ⟨a',o',fd',c',oc,vs,e1,e2,e3,e4,e5,e6,e7⟩:=x
  obtain rfl:=ABR (Av h1 e1)
  obtain rfl:=Av h2 e2
  obtain rfl:=Data.func.inj (h3.symm.trans e3)
  obtain rfl:=ABR (h4.symm.trans e4)
  obtain ⟨o2,vs2,f1,f2,f3,f4⟩:=h6.1
  obtain rfl:=Av e5 f1
  obtain rfl:=Data.fields.inj (e6.symm.trans f3)
  obtain rfl:=ABR (Av e7 f4)
  refine ⟨⟨c,h6⟩,fun a' o' fd' e1 e2 e3=>?_⟩
  obtain rfl:=ABR (Av h1 e1)
  obtain rfl:=Av h2 e2
  obtain rfl:=Data.func.inj (h3.symm.trans e3)
  exact ⟨c,h4,.of h5 h6⟩
noncomputable abbrev Ji (w:World) (s:Shared) (mg mN:Str->Option Value) (t u C:Addr):Mine.Top:=⟨PySem.Challenge.rw_uf010019_10.row.prog,w,Jv s.heap [t,u],GR mg mN,[(t,Hj nm1),(u,Hj nm2)],s.gens,s.os,C,Rv mg⟩
theorem law10 (run:∀ ns:List Int,ns.length<=63->∃ σ',SSs 20 K3.body (B3 K3 [.d (.list (ns.map .int))]) [] (Ot (vb true) σ'))
 (Tp:PyProof.Rows.Top view10 Je mean mg mb s₁.heap) (TE:TopE view10 Je mg s₁.heap) (AP:Ap nm1 nm2 mg s₁.heap) {fa l:Addr} {vs:List Value} {ns:List Int} (hmg:mg (ACB "law")=some (.ref fa)) (hL:s₁.heap.IsList l vs.toArray) (hI:IntsAre vs ns) (hn:ns.length<=63) {Q:Value->Shared->Prop} {E:Value->Shared->Prop}
 (hQ:∀ s',OldK s₁.heap s'.heap->s'.gens=s₁.gens->s'.os=s₁.os->Q (.bool true) s') :
 wpAny (model PySem.Challenge.rw_uf010019_10.row.prog w) callerA (call (.ref fa) [.ref l]) Q E s₁:=by
 obtain ⟨t,u,t1,u1,htu⟩:=AP
 obtain ⟨⟨ct,t2⟩,t3⟩:=Ub Tp (by kernel_rfl) t1
 obtain ⟨⟨cu,u2⟩,u3⟩:=Ub Tp (by kernel_rfl) u1
 obtain ⟨C,N,mN,hC,P⟩:=TE.topC J6 (ABH MM)
 have hcn:J6.name=L3:=ABM (show (J6.name == L3)=true from List.find?_some (p:=fun (y:ClsRec)=>y.name == L3) MM)
 rw [hcn] at hC
 have H:Hid (Ji w s₁ mg mN t u C) s₁.heap [t,u]:=⟨rfl,all_cons t2.2 (AF u2.2)⟩
 have ok:IP (Ji w s₁ mg mN t u C):=by
  refine SF (U8 t u) Tp MM UD hC P rfl rfl rfl H (Tp.seer (by decide +kernel)) rfl (fun a q q' h h'=>?_) fun x a q hx e=>?_
  ·rcases AAR.mp h with h | h <;> rcases AAR.mp h' with h' | h'
   ·rw [(ABK h).2,(ABK h').2]
   ·exact absurd ((ABK h).1.symm.trans (ABK (AAJ.mp h')).1) htu
   ·exact absurd ((ABK h').1.symm.trans (ABK (AAJ.mp h)).1) htu
   ·rw [(ABK (AAJ.mp h)).2,(ABK (AAJ.mp h')).2]
  ·rcases Vb hx e with ⟨q1,q2,q3⟩ | ⟨q1,q2,q3⟩
   ·rw [q1,q2,q3]; exact ⟨.head _,rfl,t3⟩
   ·rw [q1,q2,q3]; exact ⟨.tail _ (.head _),rfl,u3⟩
 have hfa:(Ji w s₁ mg mN t u C).fn 34=some fa:=by
  show GR mg mN 34=some fa
  rw [Ga (x:=(34,ACB "law",K3,_)) rfl,hmg]; rfl
 obtain ⟨o,ho,hc,m,hd⟩:=hL
 have hne:∀ a,a∈[t,u]->l≠a:=all_cons (fun e=>by
  subst e
  have:=congrArg Obj.data (Av ho t2.2)
  rw [hd] at this; cases this) (AF fun e=>by
  subst e
  have:=congrArg Obj.data (Av ho u2.2)
  rw [hd] at this; cases this)
 let g:G:=⟨fun a=>if a∈[t,u] then none else s₁.heap.get? a,fun _=>none,[]⟩
 have gne:∀ {a:Addr},a∉[t,u]->g.fz a=s₁.heap.get? a:=fun h=>if_neg h
 have geq:∀ {a:Addr},a∈[t,u]->g.fz a=none:=fun h=>if_pos h
 have gz:∀ {a:Addr} {o:Obj},g.fz a=some o->s₁.heap.get? a=some o:=fun {a o} e=>by
  by_cases q:a∈[t,u]
  ·exact Am (geq q) e
  ·rw [gne q] at e; exact e
 have tabs:∀ a,a∈[t,u]->s₁.heap.get? a=some (tabObj #[]):=all_cons t2.2 (AF u2.2)
 have has:Has (Ji w s₁ mg mN t u C) g [] s₁:=by
  refine ⟨fun a o e=>gz e,fun a o e=>Ac e,rfl,ABY,(fun a h=>nomatch h),fun a o e=>Ac e,fun k a o _ e=>Ac e,fun a o e=>?_,fun a q h R_ k=>?_,rfl,rfl⟩
  ·have e:(Jv s₁.heap [t,u]).get? a=some o:=e
   by_cases q:a∈[t,u]
   ·exact Am (Lk q) e
   ·rw [G7 q] at e; exact (gne q).trans e
  ·have hm:a∈[t,u]:=by
    rcases AAR.mp h with h | h
    ·rw [(ABK h).1]; exact .head _
    ·rw [(ABK (AAJ.mp h)).1]; exact .tail _ (.head _)
   exact k #[] (geq hm) rfl ((fun h=>nomatch h)) (tabs a hm) trivial fun pos cv e=>Ac e
 have r:Au (Ji w s₁ mg mN t u C) g [.d (.list (ns.map .int))] [.ref l]:=⟨fun R_ k=>k l o vs.toArray m ((gne fun q=>hne l q rfl).trans ho) hc hd (by rw [List.toList_toArray]; exact QM hI) (by rw [AAB]; exact AAC hn (by decide)),trivial⟩
 obtain ⟨σ',hrun⟩:=run ns hn
 have fin:=FN.run (f:=34) (fn:=K3) (n:=20) (r:=⟨Ji w s₁ mg mN t u C,[],callerA⟩) (by unfold Pg; rfl) rfl hrun (by decide) hfa ok rfl (show callerA.depth+(20+1)<=600 by decide) (show callerA.units+100 * (20+1)<=9000 by decide) ⟨rfl,rfl⟩ (fun e he=>nomatch he) has r
 refine AAO fin (fun x s' p=>p _ fun g' le H' rx=>?_) fun _ _ h=>h.elim
 obtain rfl:x=.bool true:=rx
 have keep:∀ b o,b∉[t,u]->s₁.heap.get? b=some o->s'.heap.get? b=some o:=fun b o q e=>H'.fz b o (le.fz b o ((gne q).trans e))
 have tab:∀ a,a∈[t,u]->∃ ps,s'.heap.get? a=some (tabObj ps):=all_cons (H'.tb t (Hj nm1) (.head _) _ fun ps _ _ _ h _ _=>⟨ps,h⟩) (AF (H'.tb u (Hj nm2) (.tail _ (.head _)) _ fun ps _ _ _ h _ _=>⟨ps,h⟩))
 have ist:∀ a,a∈[t,u]->isCodeTable s₁.heap a:=all_cons t2.isCodeTable (AF u2.isCodeTable)
 refine hQ s' ⟨fun b o e=>?_,fun b o e=>?_⟩ H'.gens H'.os
 ·by_cases q:b∈[t,u]
  ·obtain ⟨ps,hps⟩:=tab b q
   obtain rfl:=Av (tabs b q) e
   exact .inr (.inl ⟨ist b q,rfl,#[],ps,rfl,by rw [Array.empty_append]; exact hps⟩)
  ·exact .inl (keep b o q e)
 ·by_cases q:b∈[t,u]
  ·obtain ⟨ps,hps⟩:=tab b q; exact ⟨_,hps⟩
  ·exact ⟨o,keep b o q e⟩
end
end Mine
namespace Mine
open PySem
noncomputable def Tx (l:List Nat):Str:=⟨l.toArray⟩
theorem MU (a b:List Nat):Tx a++Tx b=Tx (a++b):=by
 show Str.append _ _=_
 simp [Str.append,Tx]
theorem Fv (a:List Nat):(Tx a).length=a.length:=by simp [Str.length,Tx]
theorem TS (a:List Nat):(Tx a).cps.size=a.length:=by simp [Tx]
theorem Hx (a:List Nat):(Tx a).cps.toList=a:=by simp [Tx]
theorem ED {a b:List Nat} (h:Tx a=Tx b):a=b:=by
 have:=congrArg (fun s=>s.cps.toList) h
 simpa [Tx] using this
theorem MT (x:Str):Tx x.cps.toList=x:=by simp [Tx]
theorem RU (lo hi:Option Int) (a:List Nat):Jg lo hi (Tx a)=Tx (CJ lo hi a):=by simp [Jg,Tx]
theorem WK (a:List Nat) (i:Int):Txt.charAt (Tx a) i=(seqIndex? i a.length).bind (a[·]?):=by
 simp [Txt.charAt,Tx,Str.length]
theorem LO (a b:List Nat):Bh (Tx a) (Tx b)=decide (a < b):=by
 unfold Bh; congr
theorem Kv (a b:List Nat):(Tx a == Tx b)=decide (a=b):=by
 by_cases h:a=b
 ·subst h; simp
 ·have h1:Tx a≠Tx b:=fun e=>h (ED e)
  simp [h,h1]
noncomputable abbrev vs (l:List Nat):V:=.d (.str (Tx l))
noncomputable abbrev dl (l:List (List Nat)):PyData:=.list (l.map fun t=>.str (Tx t))
section
variable {O:Orc} {ρ:Ah} {σ:Aa} {a b c r i es z o elt it ifs lo hi:E} {op:Operator} {cop:CmpOp} {bop:BoolOp}
theorem VU:(ev O (.bin op a b)).v ρ σ=((ev O a).v ρ σ).bind fun x=>((ev O b).v ρ σ).bind fun y=>Gh op x y σ:=rfl
theorem VX:(ev O (.not a)).t ρ σ=HS ((ev O a).t ρ σ):=rfl
theorem VT:(ev O (.cmp cop a b)).v ρ σ=((ev O a).v ρ σ).bind fun x=>((ev O b).v ρ σ).bind fun y=>(B5 cop x y σ).bind fun t=>some (vb t):=rfl
theorem VY:(ev O (.cmp cop a b)).t ρ σ=((ev O a).v ρ σ).bind fun x=>((ev O b).v ρ σ).bind fun y=>B5 cop x y σ:=rfl
theorem VQ:(ev O (.tup es)).v ρ σ=((ev O es).row ρ σ).bind Sp:=rfl
theorem VR:(ev O (.sub a i)).v ρ σ=((ev O a).v ρ σ).bind fun x=>((ev O i).v ρ σ).bind fun y=>Bp x y σ:=rfl
theorem Xp {b:Bi}:(ev O (.bi b es)).v ρ σ=((ev O es).row ρ σ).bind (B6 b σ):=rfl
theorem Sk {f:Nat}:(ev O (.fcall f es)).v ρ σ=((ev O es).row ρ σ).bind fun xs=>O f xs σ:=rfl
theorem UJ:(ev O (.cons a r)).row ρ σ=((ev O a).v ρ σ).bind fun x=>((ev O r).row ρ σ).bind fun xs=>some (x::xs):=rfl
theorem Nj:(ev O (.bop bop es)).t ρ σ=(ev O es).bt bop ρ σ:=rfl
theorem Sw {f:Nat}:(ev O (.fcall f es)).t ρ σ=(((ev O es).row ρ σ).bind fun xs=>O f xs σ).bind (Eo σ):=rfl
theorem Xq {b:Bi}:(ev O (.bi b es)).t ρ σ=(((ev O es).row ρ σ).bind (B6 b σ)).bind (Eo σ):=rfl
theorem GG:(ev O (.cons a r)).bt bop ρ σ=((ev O a).t ρ σ).bind fun t=>bif t == CG bop then some t else (ev O r).bt bop ρ σ:=rfl
theorem UI:(ev O (.cons a r)).ts ρ σ=((ev O a).t ρ σ).bind fun t=>bif t then (ev O r).ts ρ σ else some false:=rfl
theorem VS:(ev O (.slc a lo hi)).v ρ σ=((ev O a).v ρ σ).bind fun x=>(KP lo (ev O lo).v ρ σ).bind fun l=>(KP hi (ev O hi).v ρ σ).bind fun h=>slice σ x l h:=rfl
theorem bs {α β:Type} {a:α} {f:α->Option β}:(some a).bind f=f a:=rfl
end
section
variable {σ:Aa} {i j:Int} {x y:V}
theorem GW (h:(small i||small j)=true):Gh .Mult (vi i) (vi j) σ=some (vi (i * j)):=by
 show (if (small i||small j)=true then some (i * j) else none).bind _=_
 rw [if_pos h]; rfl
theorem Cy (h:j≠0):Gh .FloorDiv (vi i) (vi j) σ=some (vi (i.fdiv j)):=by
 show (if j=0 then none else some (i.fdiv j)).bind _=_
 rw [if_neg h]; rfl
theorem AJ (h:j≠0):Gh .Mod (vi i) (vi j) σ=some (vi (i.fmod j)):=by
 show (if j=0 then none else some (i.fmod j)).bind _=_
 rw [if_neg h]; rfl
theorem J8 (a b:List Nat) (h:a.length+b.length<=line):Gh .Add (vs a) (vs b) σ=some (vs (a++b)):=by
 show (if (Tx a).length+(Tx b).length<=line then some (V.d (.str (Tx a++Tx b))) else none)=_
 rw [if_pos (by rw [Fv,Fv]; exact h),MU]
theorem Dk (l:List PyData):DJ (l.map .d)=some l:=by
 induction l with
 | nil=>rfl
 | cons x r ih =>
  show (DJ (r.map .d)).bind (fun xs=>some (x::xs))=_
  rw [ih]; rfl
theorem HV (l:List PyData) (h:l.length<=line):mkL (l.map .d)=some (.d (.list l)):=by
 unfold mkL
 rw [if_pos (by rw [AAB]; exact h),Dk]; rfl
theorem Kt (a b:List PyData) (h:a.length+b.length<=line):Gh .Add (.d (.list a)) (.d (.list b)) σ=some (.d (.list (a++b))):=by
 show ((if (a.map V.d).length+(b.map V.d).length<=line then some (a.map V.d++b.map V.d) else none).bind mkL)=_
 rw [if_pos (by rw [AAB,AAB]; exact h),<-AAQ]
 exact HV _ (by rw [AAF]; exact h)
theorem N8 {l:List Nat}:B6 .len σ [vs l]=some (vi l.length):=by
 show some (vi ((Tx l).cps.size:Nat))=_
 rw [TS]
theorem BZ {l:List PyData}:B6 .len σ [.d (.list l)]=some (vi l.length):=by
 show some (vi ((l.map V.d).length:Nat))=_
 rw [AAB]
theorem Q9 {k:Nat} {ws:List V} (h:σ[k]? = some (.list ws)):B6 .len σ [.ref k]=some (vi ws.length):=by
 show (CQ σ[k]?).bind _=_
 rw [h]; rfl
theorem N4 {k:Nat} {ws:List V} (h:σ[k]? = some (.list ws)):A2 σ (.ref k)=some ws:=by
 show CQ σ[k]? = _
 rw [h]; rfl
theorem BB:B5 .Eq (vi i) (vi j) σ=some (decide (i=j)):=by
 show some (i == j)=_
 by_cases h:i=j
 ·rw [AAI h,beq_iff_eq.mpr h]
 ·rw [AAT h,beq_eq_false_iff_ne.mpr h]
theorem Fu {a b:List Nat}:B5 .Eq (vs a) (vs b) σ=some (decide (a=b)):=by
 show some (Tx a == Tx b)=_
 rw [Kv]
theorem G2 {a b:List Nat}:B5 .NotEq (vs a) (vs b) σ=some (!decide (a=b)):=by
 show HS (some (Tx a == Tx b))=_
 rw [Kv]; rfl
theorem MN:B5 .Lt (vi i) (vi j) σ=some (decide (i < j)):=rfl
theorem LB:B5 .Gt (vi i) (vi j) σ=some (decide (i > j)):=rfl
theorem X9:B5 .GtE (vi i) (vi j) σ=some (decide (i ≥ j)):=rfl
theorem GU:B5 .NotIn x y σ=HS (inV σ x y):=rfl
theorem RJ:B5 .In x y σ=inV σ x y:=rfl
theorem NK (a:List Nat) (l:List (List Nat)):inD (.str (Tx a)) (l.map fun t=>.str (Tx t))=some (decide (a∈l)):=by
 induction l with
 | nil=>rfl
 | cons b l ih =>
  show (some (Tx b == Tx a)).bind (fun x=>(inD (.str (Tx a)) (l.map fun t=>.str (Tx t))).bind fun y=>some (x||y))=_
  rw [ih,Kv]
  show some (decide (b=a)||decide (a∈l))=_
  rw [<-Bool.decide_or]
  congr 1
  exact decide_eq_decide.mpr (by rw [AAR,eq_comm])
theorem BU (a:List Nat) (l:List (List Nat)):inV σ (vs a) (.d (dl l))=some (decide (a∈l)):=NK a l
theorem QR {k:Nat} {a:List Nat} {l:List (List Nat)} (h:σ[k]? = some (.list (l.map vs))):inV σ (vs a) (.ref k)=some (decide (a∈l)):=by
 show inO σ (vs a) k σ[k]? = _
 rw [h]
 show (Q1 (CQ σ[k]?)).bind _=_
 rw [h]
 show ((DJ (l.map vs)).bind fun xs=>some (PyData.list xs)).bind _=_
 rw [show l.map vs=(l.map fun t=>PyData.str (Tx t)).map V.d by rw [AAE]; rfl,Dk]
 exact NK a l
theorem Wb {k:Int} {n:Nat} (h0:0<=k) (h:k < n):seqIndex? k n=some k.toNat:=by
 have h1:¬ k < 0:=by lia
 simp [seqIndex?,h1,h0,h]
theorem KE (h1:-1000000000000 < i) (h2:i < 1000000000000):small i=true:=by simp [small]; lia
theorem Ms {ws:List V} {v:V} (k:Int) (h0:0<=k) (hs:k < 9223372036854775808) (h:ws[k.toNat]? = some v):nth ws k=some v:=by
 have h1:k.toNat < ws.length:=(AAM.mp h).1
 unfold nth
 rw [if_pos (by simp [small]; lia),Wb h0 (by lia)]
 exact h
theorem Ec {l:List PyData} {y:PyData} (k:Int) (h0:0<=k) (hs:k < 9223372036854775808) (h:l[k.toNat]? = some y):Bp (.d (.list l)) (vi k) σ=some (.d y) :=
 Ms (ws:=l.map .d) k h0 hs (by rw [ABI,h]; rfl)
theorem V8 {ws:List V} {v:V} {j:Nat} (k:Int) (h0:0<=k) (hs:k < 9223372036854775808) (hj:σ[j]? = some (.list ws)) (h:ws[k.toNat]? = some v):Bp (.ref j) (vi k) σ=some v:=by
 show O6 σ (vi k) σ[j]? = _
 rw [hj]; exact Ms k h0 hs h
theorem On {l:List Nat} {y:Nat} (k:Int) (h0:0<=k) (hs:k < 9223372036854775808) (h:l[k.toNat]? = some y):Bp (vs l) (vi k) σ=some (vs [y]):=by
 have h1:k.toNat < l.length:=(AAM.mp h).1
 show (if small k=true then (Txt.charAt (Tx l) k).bind fun c=>some (V.d (.str (L9 c))) else none)=_
 rw [if_pos (by simp [small]; lia),WK,Wb h0 (by lia)]
 show (l[k.toNat]?).bind _=_
 rw [h]; rfl
theorem Qj {ws:List V} {v:V} (h:ws[ws.length-1]? = some v):nth ws (-1)=some v:=by
 have h1:=(AAM.mp h).1
 unfold nth
 rw [if_pos (by decide)]
 have h4:(0:Int) <= -1+ws.length:=by lia
 have h5:(-1+(ws.length:Int)) < ws.length:=by lia
 have h6:(-1+(ws.length:Int)).toNat=ws.length-1:=by lia
 rw [show seqIndex? (-1) ws.length=some (ws.length-1) by simp [seqIndex?,h4,h5,h6]]
 exact h
theorem L4 (n k:Nat):clipAt n (k:Int)=min k n:=by
 show (max 0 (min (if (k:Int) < 0 then (k:Int)+n else k) n)).toNat=_
 rw [if_neg (Int.not_lt.mpr (AB6 k))]
 rcases Nat.le_total k n with h | h
 ·rw [Int.min_eq_left (Int.ofNat_le.mpr h),Nat.min_eq_left h,Int.max_eq_right (AB6 _)]; rfl
 ·rw [Int.min_eq_right (Int.ofNat_le.mpr h),Nat.min_eq_right h,Int.max_eq_right (AB6 _)]; rfl
theorem V4 {α:Type} (l:List α) (k:Nat):CJ none (some (k:Int)) l=l.take k:=by
 have:=L4 l.length k
 simp only [CJ,Option.elim,this,List.drop_zero,Nat.sub_zero]
 rcases Nat.le_total k l.length with h | h
 ·rw [Nat.min_eq_left h]
 ·rw [Nat.min_eq_right h,List.take_of_length_le (AAL _),List.take_of_length_le h]
theorem Ly {α:Type} (l:List α) (k:Nat):CJ (some (k:Int)) none l=l.drop k:=by
 have:=L4 l.length k
 simp only [CJ,Option.elim,this]
 rcases Nat.le_total k l.length with h | h
 ·rw [Nat.min_eq_left h,List.take_of_length_le (by simp)]
 ·rw [Nat.min_eq_right h]; simp [List.drop_eq_nil_of_le h]
theorem PH {a:List Nat} (k:Nat):slice σ (vs a) none (some (k:Int))=some (vs (a.take k)):=by
 show some (V.d (.str (Jg none (some (k:Int)) (Tx a))))=_
 rw [RU,V4]
theorem Nn {a:List Nat} (k:Nat):slice σ (vs a) (some (k:Int)) none=some (vs (a.drop k)):=by
 show some (V.d (.str (Jg (some (k:Int)) none (Tx a))))=_
 rw [RU,Ly]
theorem UF {a:List Nat} (h0:0<=i):slice σ (vs a) none (some i)=some (vs (a.take i.toNat)):=by
 rw [<-PH,Int.toNat_of_nonneg h0]
theorem PI {a:List Nat} (h0:0<=i):slice σ (vs a) (some i) none=some (vs (a.drop i.toNat)):=by
 rw [<-Nn,Int.toNat_of_nonneg h0]
theorem Jk {l:List PyData} (h0:0<=i) (hl:l.length<=line):slice σ (.d (.list l)) (some i) none=some (.d (.list (l.drop i.toNat))):=by
 show mkL (CJ (some i) none (l.map V.d))=_
 rw [<-Int.toNat_of_nonneg h0,Ly,<-List.map_drop]
 exact HV _ (AAC (by rw [List.length_drop]; exact Nat.sub_le _ _) hl)
theorem AN (i:Int) {j:Int} (h:0 < j):0<=i.fmod j/\i.fmod j < j:=⟨Int.fmod_nonneg_of_pos i h,Int.fmod_lt_of_pos i h⟩
theorem U3 (lo:Int) (n:Nat):upV lo n=(List.range n).map fun j:Nat=>vi (lo+(j:Int)):=by
 induction n generalizing lo with
 | zero=>rfl
 | succ n ih =>
  show vi lo::upV (lo+1) n=_
  rw [ih,List.range_succ_eq_map]
  simp only [ABP,AAE]
  congr 1
  ·simp
  ·apply List.map_congr_left; intro j _; show vi (lo+1+(j:Int))=vi (lo+((j+1:Nat):Int)); rw [Int.natCast_add,Int.add_assoc,Int.add_comm 1]; rfl
theorem up0 (n:Nat):upV 0 n=(List.range n).map fun j:Nat=>vi (j:Int):=by simp [U3]
end
section
variable {α:Type} {O:Orc} {ρ:Ah} {σ:Aa} {e es elt ifs it:E} {t:Nat} {l:List α} {m:Int}
theorem itr (h:(ev O es).row ρ σ=some [vi m]) (h1:m<=1000000) (h2:-1000000<=m):(ev O (.range es)).it ρ σ=some ((List.range m.toNat).map (fun j:Nat=>vi (j:Int)),[]):=by
 show ((ev O es).row ρ σ).bind PX=_
 rw [h]
 show (if m<=1000000/\-1000000<=m then some (upV 0 m.toNat,[]) else none)=_
 rw [if_pos ⟨h1,h2⟩,up0]
theorem CT {f:V->Option (Option V)} (w:α->V) (g:α->Option V):∀ (l:List α),(∀ a∈l,f (w a)=some (g a))->Dw f (l.map w)=some (l.filterMap g)
 | [],_=>rfl
 | a::l,h=>by
  show (f (w a)).bind (fun x=>(Dw f (l.map w)).bind fun xs=>some (match x with | some y=>y::xs | none=>xs))=_
  rw [h a (.head _),bs,CT w g l fun b hb=>h b (.tail _ hb),bs,List.filterMap_cons]
  cases g a <;> rfl
theorem Lv {β:Type} (p:α->Bool) (g:α->β):∀ l:List α,(l.filterMap fun a=>if p a then some (g a) else none)=(l.filter p).map g
 | []=>rfl
 | a::l=>by cases h:p a <;> simp [List.filterMap_cons,List.filter_cons,h,Lv p g l]
theorem Cl {kps:List (Nat×List V)} (w:α->V) (p:α->Bool) (g:α->V) (hi:(ev O it).it ρ σ=some (l.map w,kps)) (hl:l.length<=line)
 (hp:∀ a∈l,(ev O ifs).ts ((ρ.set t none).set t (some (w a))) σ=some (p a))
 (hg:∀ a∈l,p a=true->(ev O elt).v ((ρ.set t none).set t (some (w a))) σ=some (g a)):(ev O (.comp elt [t] it ifs)).nl ρ σ=some ((l.filter p).map g):=by
 show (((ev O it).it ρ σ).bind fun q=>Dw _ q.1).bind _=_
 rw [hi]
 show (Dw _ (l.map w)).bind _=_
 rw [CT w (fun a=>if p a then some (g a) else none) l fun a ha=>?_,bs,Lv]
 ·exact if_pos (AAC (by rw [AAB]; exact AAX _ _) hl)
 ·show ((ev O ifs).ts ((ρ.set t none).set t (some (w a))) σ).bind _=_
  rw [hp a ha,bs]
  cases h:p a with
  | true =>
   show ((ev O elt).v ((ρ.set t none).set t (some (w a))) σ).bind _=_
   rw [hg a ha h]; rfl
  | false=>rfl
theorem Fr {ds:List PyData} (h:(ev O (.comp elt [t] it ifs)).nl ρ σ=some (ds.map .d)):(ev O (.comp elt [t] it ifs)).v ρ σ=some (.d (.list ds)):=by
 obtain ⟨ws,h1,q⟩:=Ab h
 obtain ⟨q1,q2⟩:=Ba q
 show (((ev O it).it ρ σ).bind fun p=>Dw _ p.1).bind mkL=_
 rw [show (((ev O it).it ρ σ).bind fun p=>Dw _ p.1)=some ws from h1,q2,bs]
 exact HV _ (by rw [<-AAB (f:=V.d),<-q2]; exact q1)
end
end Mine
namespace Mine
open PySem
section
variable {O:Orc} {ρ:Ah} {σ:Aa} {a b c r i es elt it ifs:E} {op:Operator} {cop:CmpOp} {x y z u:V} {p q:Bool} {xs:List V}
theorem Ai (h1:(ev O a).v ρ σ=some x) (h2:(ev O b).v ρ σ=some y) (h3:Gh op x y σ=some z):(ev O (.bin op a b)).v ρ σ=some z:=by rw [VU,h1,bs,h2,bs]; exact h3
theorem Ag (h1:(ev O a).v ρ σ=some x) (h2:(ev O i).v ρ σ=some y) (h3:Bp x y σ=some z):(ev O (.sub a i)).v ρ σ=some z:=by rw [VR,h1,bs,h2,bs]; exact h3
theorem Aq (h1:(ev O a).v ρ σ=some x) (h2:(ev O b).v ρ σ=some y) (h3:B5 cop x y σ=some p):(ev O (.cmp cop a b)).t ρ σ=some p:=by rw [VY,h1,bs,h2,bs]; exact h3
theorem Eb (h1:(ev O a).v ρ σ=some x) (h2:(ev O b).v ρ σ=some y) (h3:B5 cop x y σ=some p):(ev O (.cmp cop a b)).v ρ σ=some (vb p):=by rw [VT,h1,bs,h2,bs,h3]; rfl
theorem Oe (h1:(ev O a).v ρ σ=some x) (h2:(ev O r).row ρ σ=some xs):(ev O (.cons a r)).row ρ σ=some (x::xs):=by rw [UJ,h1,bs,h2]; rfl
theorem A0 (h1:(ev O a).v ρ σ=some x):(ev O (.cons a .nil)).row ρ σ=some [x]:=Oe h1 rfl
theorem AY (h1:(ev O a).v ρ σ=some x) (h2:(ev O b).v ρ σ=some y):(ev O (.cons a (.cons b .nil))).row ρ σ=some [x,y]:=Oe h1 (A0 h2)
theorem Ko (h1:(ev O a).v ρ σ=some x) (h2:(ev O b).v ρ σ=some y) (h3:(ev O c).v ρ σ=some z):(ev O (.cons a (.cons b (.cons c .nil)))).row ρ σ=some [x,y,z]:=Oe h1 (AY h2 h3)
theorem AI {b:Bi} (h1:(ev O es).row ρ σ=some xs) (h2:B6 b σ xs=some z):(ev O (.bi b es)).v ρ σ=some z:=by rw [Xp,h1,bs]; exact h2
theorem El {f:Nat} (h1:(ev O es).row ρ σ=some xs) (h2:O f xs σ=some z):(ev O (.fcall f es)).v ρ σ=some z:=by rw [Sk,h1,bs]; exact h2
theorem J4 {f:Nat} (h1:(ev O es).row ρ σ=some xs) (h2:O f xs σ=some (vb p)):(ev O (.fcall f es)).t ρ σ=some p:=by rw [Sw,h1,bs,h2]; rfl
theorem CN (h:(ev O a).t ρ σ=some p):(ev O (.not a)).t ρ σ=some (!p):=by rw [VX,h]; rfl
theorem Cv {v:V} (h:(ev O es).row ρ σ=some xs) (h2:Sp xs=some v):(ev O (.tup es)).v ρ σ=some v:=by rw [VQ,h,bs]; exact h2
theorem Dv (h1:(ev O a).t ρ σ=some p) (h2:p=false->(ev O b).t ρ σ=some q):(ev O (.bop .Or (.cons a (.cons b .nil)))).t ρ σ=some (p||q):=by
 rw [Nj,GG,h1,bs]
 cases p with
 | true=>rfl
 | false =>
  show (ev O (.cons b .nil)).bt .Or ρ σ=_
  rw [GG,h2 rfl,bs]
  cases q <;> rfl
theorem Cr (h1:(ev O a).t ρ σ=some p) (h2:p=true->(ev O b).t ρ σ=some q):(ev O (.bop .And (.cons a (.cons b .nil)))).t ρ σ=some (p&&q):=by
 rw [Nj,GG,h1,bs]
 cases p with
 | false=>rfl
 | true =>
  show (ev O (.cons b .nil)).bt .And ρ σ=_
  rw [GG,h2 rfl,bs]
  cases q <;> rfl
theorem R5 {s:Bool} (h1:(ev O a).t ρ σ=some p) (h2:p=true->(ev O b).t ρ σ=some q) (h3:p=true->q=true->(ev O c).t ρ σ=some s):(ev O (.bop .And (.cons a (.cons b (.cons c .nil))))).t ρ σ=some (p&&(q&&s)):=by
 rw [Nj,GG,h1,bs]
 cases p with
 | false=>rfl
 | true=>exact Cr (a:=b) (b:=c) (q:=s) (h2 rfl) fun e=>h3 rfl e
theorem Up {s:Bool} (h1:(ev O a).t ρ σ=some p) (h2:p=false->(ev O b).t ρ σ=some q) (h3:p=false->q=false->(ev O c).t ρ σ=some s):(ev O (.bop .Or (.cons a (.cons b (.cons c .nil))))).t ρ σ=some (p||(q||s)):=by
 rw [Nj,GG,h1,bs]
 cases p with
 | true=>rfl
 | false=>exact Dv (a:=b) (b:=c) (q:=s) (h2 rfl) fun e=>h3 rfl e
theorem E9 (h1:(ev O a).t ρ σ=some p):(ev O (.cons a .nil)).ts ρ σ=some p:=by
 rw [UI,h1,bs]; cases p <;> rfl
theorem Og (h1:(ev O a).v ρ σ=some (vb p)) (h2:p=true->(ev O b).v ρ σ=some (vb q)):(ev O (.bop .And (.cons a (.cons b .nil)))).v ρ σ=some (vb (p&&q)):=by
 show ((ev O a).v ρ σ).bind (fun x=>(Eo σ x).bind fun t=>bif t == CG .And then some x else (ev O (.cons b .nil)).bo .And ρ σ)=_
 rw [h1,bs]
 cases p with
 | false=>rfl
 | true=>exact h2 rfl
theorem len_of' {ws:List V} (h:A2 σ x=some ws):B6 .len σ [x]=some (vi ws.length):=by
 cases x with
 | d y=>cases y with
  | list l=>rw [BZ,<-AAA h,AAB]
  | _=>exact Ac h
 | ref k=>exact Q9 (C8 h)
 | _=>exact Ac h
theorem P8 {ws:List V} {k:Int} (h:A2 σ x=some ws):Bp x (vi k) σ=nth ws k:=by
 cases x with
 | d y=>cases y with
  | list l=>rw [<-AAA h]; rfl
  | _=>exact Ac h
 | ref j=>show O6 σ (vi k) σ[j]? = _; rw [C8 h]; rfl
 | _=>exact Ac h
theorem tr_of' {ws:List V} (h:A2 σ x=some ws):Eo σ x=some (!ws.isEmpty):=by
 cases x with
 | d y=>cases y with
  | list l=>rw [<-AAA h,G4]; rfl
  | _=>exact Ac h
 | ref j=>rw [show Eo σ (.ref j)=(CQ σ[j]?).bind fun ws=>some (!ws.isEmpty) from rfl,show CQ σ[j]? = some ws from h]; rfl
 | _=>exact Ac h
theorem QS {w:List Nat} {l:List (List Nat)} (h:A2 σ x=some (l.map vs)):inV σ (vs w) x=some (decide (w∈l)):=by
 cases x with
 | d y=>cases y with
  | list l' =>
   have e:l'=l.map fun t=>PyData.str (Tx t):=by
    have h1:=congrArg (fun o=>o.bind DJ) h
    have h2:DJ (l'.map V.d)=DJ (l.map vs):=h1
    rw [Dk,show l.map vs=(l.map fun t=>PyData.str (Tx t)).map V.d by rw [AAE]; rfl,Dk] at h2
    exact AAA h2
   rw [e]; exact BU w l
  | _=>exact Ac h
 | ref j=>exact QR (C8 h)
 | _=>exact Ac h
end
section
variable {C:Cfg} {P:Fl->Aa->Prop} {st r:S} {ρ:Ah} {σ:Aa}
theorem Df {M:Ah->Aa->Prop} (h:Af C (fun fl σ'=>∃ ρ',fl=.next ρ'/\M ρ' σ') (.cons st .nil) ρ σ) (k:∀ ρ' σ',M ρ' σ'->Af C P r ρ' σ'):Af C P (.cons st r) ρ σ:=by
 obtain ⟨fl,σ',⟨ρ',rfl,h1⟩,h2⟩:=h
 exact Cq (fl:=.next ρ') (fun Q q=>SS.mono (fun f s e=>by rw [e.1,e.2]; exact q) (.of1 h2)) (k ρ' σ' h1)
end
noncomputable def BC (c k:Int):Int:=((c+7919 * k) * 48271).fmod 2147483647
theorem sm1 (i:Int):(small 7919||small i)=true:=by rw [show small 7919=true by decide]; rfl
theorem sm2 (i:Int):(small i||small 48271)=true:=by rw [show small 48271=true by decide,Bool.or_true]
theorem sm4 (i:Int):(small 4||small i)=true:=by rw [show small 4=true by decide]; rfl
theorem smr {i j:Int} (h1:-1000000000000 < j) (h2:j < 1000000000000):(small i||small j)=true:=by rw [KE h1 h2,Bool.or_true]
noncomputable def C0 (n:Nat):Cfg:=⟨n,fun _ _ _=>none,fun _ _ _ _ h=>Ac h⟩
theorem Rl {σ:Aa} (c k:Int):FN 2 10 [vi c,vi k] σ (vi (BC c k)) σ:=by
 exact FN.same (C:=C0 1) (fn:=Sc) (by unfold Pg; rfl) rfl (AAL _)
  (A3 (Ai (Ai (Ai rfl (Ai rfl rfl (GW (sm1 _))) rfl) rfl (GW (sm2 _))) rfl (AJ (by decide))) ⟨rfl,rfl⟩)
noncomputable def Wr (xs:List V):Option V:=match xs with | x::r=>(match r with | y::r=>(match r with | []=>(Ci x).bind fun c=>(Ci y).bind fun k=>some (vi (BC c k)) | _=>none) | []=>none) | []=>none
theorem SP {n:Nat} {σ:Aa} {xs:List V} {v:V} (hn:2<=n) (h:Wr xs=some v):FN n 10 xs σ v σ:=by
 match xs,h with
 | [],h=>exact Ac h
 | [_],h=>exact Ac h
 | [x,y],h =>
  obtain ⟨c,e1,h⟩:=Ab h
  obtain ⟨k,e2,h⟩:=Ab h
  rw [Bo e1,Bo e2,<-AAA h]
  exact (Rl c k).more hn
 | _::_::_::_,h=>exact Ac h
noncomputable def Cfg.add (C:Cfg) (f:Nat) (g:List V->Aa->Option V) (h:∀ xs σ v,g xs σ=some v->FN C.n f xs σ v σ):Cfg:=⟨C.n,fun f' xs σ=>bif Nat.beq f' f then g xs σ else C.O f' xs σ,fun f' xs σ v e=>by
 cases q:Nat.beq f' f with
 | true=>rw [q] at e; rw [Nat.eq_of_beq_eq_true q]; exact h xs σ v e
 | false=>rw [q] at e; exact C.ok f' xs σ v e⟩
noncomputable def C1 (n:Nat) (hn:2<=n):Cfg:=(C0 n).add 10 (fun xs _=>Wr xs) fun _ _ _ h=>SP hn h
theorem T8 {σ:Aa} (sc:List Int) (k:Int) (h0:0<=k) (hk:k < 1000):FN 2 9 [.d (.list (sc.map .int)),vi k] σ (vi (sc.getD k.toNat 0)) σ:=by
 exact FN.same (C:=C0 1) (fn:=Uw) (by unfold Pg; rfl) rfl (AAL _) (by
  refine A8 (t:=decide (k < sc.length)) (Aq rfl (AI (A0 rfl) (BZ.trans (by rw [AAB]))) MN) (fun h=>?_) fun h=>Ad ?_
  ·have h:=AAG h
   refine A3 (v:=vi (sc.getD k.toNat 0)) (Ag rfl rfl (Ec (y:=.int (sc.getD k.toNat 0)) k h0 (by omega) ?_)) ⟨rfl,rfl⟩
   have:k.toNat < sc.length:=by omega
   simp [List.getD,this]
  ·have h:=ABG h
   refine A3 (v:=vi (sc.getD k.toNat 0)) ?_ ⟨rfl,rfl⟩
   rw [show sc.getD k.toNat 0=0 by
    have:sc.length<=k.toNat:=by omega
    simp [List.getD,this]]
   rfl)
end Mine
namespace Mine
open PySem
noncomputable def CY:List Nat:=[97,98,99,100,101,102,103,104,105,106,107,108,109,110,111,112,113,114,115,116,117,118,119,120,121,122,48,49,50,51,52,53,54,55,56,57]
noncomputable def Bg (t:List Nat):Bool:=!(decide ((t.length:Int) < 1)||decide ((t.length:Int) > 12))&&t.all fun c=>decide (c∈CY)
theorem ND:ACB "abcdefghijklmnopqrstuvwxyz0123456789" = Tx CY:=by decide +kernel
theorem BL (t:List Nat):Bg t=true ↔ 1<=t.length/\t.length<=12/\∀ c∈t,c∈CY:=by
 simp only [Bg,Bool.and_eq_true,Bool.not_eq_true',Bool.or_eq_false_iff,decide_eq_false_iff_not,List.all_eq_true,decide_eq_true_eq]
 constructor
 ·rintro ⟨⟨h1,h2⟩,h3⟩; exact ⟨by lia,by lia,h3⟩
 ·rintro ⟨h1,h2,h3⟩; exact ⟨⟨by lia,by lia⟩,h3⟩
noncomputable def sg (i:Int):Nat:=CY.getD i.toNat 0
theorem Ud (i:Int) (h0:0<=i) (h:i < 36):CY[i.toNat]? = some (sg i):=by
 have:i.toNat < CY.length:=by simp [CY]; (with_reducible assumption)
 simp [sg,List.getD,this]
theorem Ml (i:Int) (h0:0<=i) (h:i < 36):sg i∈CY:=AA5 (Ud i h0 h)
section
variable {σ:Aa}
theorem Mg {i:Int} (h0:0<=i) (h:i < 36):Bp (vs CY) (vi i) σ=some (vs [sg i]):=On i h0 (by lia) (Ud i h0 h)
noncomputable def num (j:Nat):List Nat:=(Nl (j:Int)).cps.toList
theorem KQ:∀ j:Nat,j < 130->Bg (num j)=true:=by decide +kernel
theorem OM:((List.range 130).map num).Nodup:=by decide +kernel
theorem JS {i:Int} (h0:0<=i) (h:i < 130):B6 .str σ [vi i]=some (vs (num i.toNat)):=by
 show (if i.natAbs < 1000000000000 then some (V.d (.str (Nl i))) else none)=_
 rw [if_pos (by lia)]
 unfold num
 rw [Int.toNat_of_nonneg h0]
 simp only [vs,MT]
theorem JQ {β:Type} [DecidableEq β]:∀ (l m:List β),l.Nodup->(∀ x∈l,x∈m)->l.length<=m.length
 | [],m,_,_=>by exact ABF _
 | a::l,m,hn,hs=>by
  have ha:a∈m:=hs a (by exact .head _)
  rw [ABX] at hn
  have:=JQ l (m.erase a) hn.2 (by
   intro x hx
   have hne:x≠a:=fun e=>hn.1 (e▸hx)
   exact (List.mem_erase_of_ne hne).mpr (hs x (by exact .tail _ hx)))
  rw [List.length_erase_of_mem ha] at this
  have h0:0 < m.length:=List.length_pos_iff.mpr (fun e=>by simp [e] at ha)
  simp; omega
theorem Qi (l:List (List Nat)) (hl:l.length < 130):∃ j,j<=l.length/\num j∉l:=by
 apply Classical.byContradiction
 intro hno
 have h1:((List.range (l.length+1)).map num).Nodup:=by
  have:(List.range (l.length+1)).map num=((List.range 130).map num).take (l.length+1):=by
   rw [<-List.map_take,List.take_range]; congr 2; lia
  rw [this]
  exact List.Sublist.nodup (List.take_sublist _ _) OM
 have:=JQ _ l h1 (by
  intro x hx
  simp only [AAP,ABZ] at hx
  obtain ⟨j,h2,rfl⟩:=hx
  apply Classical.byContradiction
  intro h3; exact hno ⟨j,by (exact ACA ‹_›),h3⟩)
 simp at this
 (exact ABU _ ‹_›)
theorem Qp (c k:Int):0<=BC c k/\BC c k < 2147483647:=AN _ (by decide)
theorem Tf (l:List (List Nat)) (h:l.length<=1000000) (h1:∀ t∈l,t.length<=1):JoinOk (Tx []) (l.map Tx)=true:=by
 refine PyProof.Rows.joinOk_of ?_
 have h2:((l.map Tx).map (·.length)).sum<=l.length:=by
  clear h
  induction l with
  | nil=>simp
  | cons a l ih =>
   have:=h1 a (by simp)
   have:=ih (fun t ht=>h1 t (by simp [ht]))
   simp only [ABP,List.sum_cons,AA2,Fv]; lia
 simp only [Fv,List.length_nil,Nat.mul_zero]
 lia
theorem Ww (l:List (List Nat)):Txt.join (Tx []) (l.map Tx)=Tx l.flatten:=by
 show Builtin.Str.glued _ _=_
 rw [StrLaws.glued_eq_join]
 induction l with
 | nil=>rfl
 | cons a l ih =>
  induction l with
  | nil=>simp [Str.join]
  | cons b l =>
   simp only [ABP,Str.join] at ih ⊢
   rw [ih,MU,MU]; simp
theorem Wu:ACB "" = Tx []:=by decide +kernel
theorem G5:∀ l:List Str,Ct BN (vss l)=some l
 | []=>rfl
 | x::l=>by show (Ct BN (vss l)).bind _=_; rw [G5 l]; rfl
theorem Od {O:Orc} {ρ:Ah} {elt es:E} {t:Nat} {m:Int} (g:Int->Nat) (hi:(ev O es).row ρ σ=some [vi m]) (hl:m<=1000) (hl2:-1000<=m)
 (hg:∀ i:Int,0<=i->i < m->(ev O elt).v ((ρ.set t none).set t (some (vi i))) σ=some (vs [g i])) :
 (ev O (.meth .join (.cst (.str (ACB ""))) (.cons (.comp elt [t] (.range es) .nil) .nil))).v ρ σ=some (vs ((List.range m.toNat).map fun j:Nat=>g (j:Int))):=by
 have h1:=Fr (O:=O) (ρ:=ρ) (σ:=σ) (elt:=elt) (t:=t) (it:=.range es) (ifs:=.nil) (ds:=(List.range m.toNat).map fun j:Nat=>.str (Tx [g (j:Int)])) (by
  rw [Cl (fun j:Nat=>vi (j:Int)) (fun _=>true) (fun j:Nat=>vs [g (j:Int)]) (itr hi (by lia) (by lia)) (by rw [ABV]; exact AAC (show m.toNat<=1000 by lia) (by decide)) (fun _ _=>rfl) (fun j hj _=>hg j (AB6 _) (by have:=ABZ.mp hj; lia)),List.filter_eq_self.mpr (fun _ _=>rfl),AAE]
  rfl)
 show (((ev O (.cons (.comp elt [t] (.range es) .nil) .nil)).row ρ σ).bind fun ys=>QG σ (.d (.str (ACB ""))) ys)=_
 rw [A0 h1,Wu]
 show ((Ct BN (((List.range m.toNat).map fun j:Nat=>PyData.str (Tx [g (j:Int)])).map V.d)).bind fun ss=>if JoinOk (Tx []) ss=true then some (V.d (.str (Txt.join (Tx []) ss))) else none)=_
 rw [show (((List.range m.toNat).map fun j:Nat=>PyData.str (Tx [g (j:Int)])).map V.d)=vss (((List.range m.toNat).map fun j:Nat=>[g (j:Int)]).map Tx) by show _=(((List.range m.toNat).map fun j:Nat=>[g (j:Int)]).map Tx).map fun y=>V.d (.str y); rw [AAE,AAE,AAE]; rfl,G5,bs,if_pos (Tf _ (by simp; lia) (by simp)),Ww]
 congr 3
 generalize List.range m.toNat=l
 congr 1
 induction l with
 | nil=>rfl
 | cons a l ih=>simp [ih]
end
theorem ON (m:Nat) (g:Nat->Int) (h1:1<=m) (h2:m<=12) (hg:∀ j,0<=g j/\g j < 36):Bg ((List.range m).map fun j=>sg (g j))=true:=by
 rw [BL]
 refine ⟨by simpa using h1,by simpa using h2,?_⟩
 intro x hx
 simp only [AAP] at hx
 obtain ⟨j,_,rfl⟩:=hx
 exact Ml _ (hg j).1 (hg j).2
theorem Q3 {u:List Nat} {x:Nat} {i j:Nat} (h:u.length<=12):(u.take i++[x]).length+(u.drop j).length<=line/\(u.take i).length + [x].length<=line:=by simp [line]; omega
theorem nm4 {u:List Nat} {x:Nat} {a:Int} (h2:u.length<=12) (h0:0<=a) (ha:a < u.length):1<=(u.take a.toNat++[x]++u.drop (a+1).toNat).length/\(u.take a.toNat++[x]++u.drop (a+1).toNat).length<=12:=by
 simp; omega
theorem PP {C:Cfg} {σ:Aa} {x:V} (hm:∀ c k,C.O 10 [vi c,vi k] σ=some (vi (BC c k))) (c:Int) (tk:List (List Nat)) (hx:A2 σ x=some (tk.map vs)) (hg:∀ x∈tk,Bg x=true) (hl:tk.length < 100) :
 Af C (fun fl σ'=>∃ r,Bg r=true/\r∉tk/\Hi fl=vs r/\σ'=σ) Ow.body (B3 Ow [vi c,x]) σ:=by
 show Af C _ _ [some (vi c),some x,none,none,none,none,none] σ
 have hlen:=len_of' hx
 rw [AAB] at hlen
 have htr:=tr_of' hx
 refine Az (v:=vs CY) (congrArg (fun s=>some (V.d (.str s))) ND) ?_
 refine Az (v:=vi (BC c 5)) (El (AY rfl rfl) (hm _ _)) ?_
 have hL:=Qp c 5
 generalize BC c 5=L at hL
 have h12:=AN L (j:=12) (by decide)
 have h36:=AN L (j:=36) (by decide)
 refine Az (v:=vs ((List.range (1+L.fmod 12).toNat).map fun j:Nat=>sg ((BC c j).fmod 36))) (Od (fun i=>sg ((BC c i).fmod 36)) (A0 (Ai rfl (Ai rfl rfl (AJ (by decide))) rfl)) (by omega) (by omega) (fun i _ _=>by
  have h:=AN (BC c i) (j:=36) (by decide)
  exact Ag rfl (Ai (El (AY rfl rfl) (hm _ _)) rfl (AJ (by decide))) (Mg h.1 h.2))) ?_
 have hf:Bg ((List.range (1+L.fmod 12).toNat).map fun j:Nat=>sg ((BC c j).fmod 36))=true:=ON _ (fun j=>(BC c j).fmod 36) (by omega) (by omega) (fun j=>AN _ (by decide))
 generalize ((List.range (1+L.fmod 12).toNat).map fun j:Nat=>sg ((BC c j).fmod 36))=f at hf
 let K:List Nat->Option V->Ah:=fun f z=>[some (vi c),some x,some (vs CY),some (vi L),some (vs f),none,z]
 let M:Ah->Aa->Prop:=fun ρ σ'=>(∃ f z,Bg f=true/\ρ=K f z)/\σ=σ'
 refine Df (M:=M) ?_ ?_
 ·refine A8 (t:=decide (c.fmod 8=1)) (Aq (Ai rfl rfl (AJ (by decide))) rfl BB) (fun h=>?_) (fun h=>?_)
  ·have hx:=AN L (j:=130) (by decide)
   exact Az (v:=vs (num (L.fmod 130).toNat)) (AI (A0 (Ai rfl rfl (AJ (by decide)))) (JS hx.1 hx.2)) (Ad (Ad ⟨_,rfl,⟨_,none,KQ _ (by omega),rfl⟩,rfl⟩))
  ·exact Ad (Ad ⟨_,rfl,⟨f,none,hf,rfl⟩,rfl⟩)
 rintro _ _ ⟨⟨f,z,hf,rfl⟩,rfl⟩
 refine Df (M:=M) ?_ ?_
 ·refine A8 (t:=decide (c.fmod 8=2) && !(tk.map vs).isEmpty) (Cr (Aq (Ai rfl rfl (AJ (by decide))) rfl BB) fun _=>htr) (fun h=>?_) (fun h=>?_)
  ·have hne:tk≠[]:=by
    intro e; rw [e] at h; simp at h
   have hlast:=List.getLast?_eq_some_getLast hne
   have hgl:=(BL _).mp (hg _ (List.getLast_mem hne))
   generalize tk.getLast hne=u at hlast hgl
   rw [List.getLast?_eq_getElem?] at hlast
   refine Az (v:=vs (u.take 11++[sg (L.fmod 36)])) (Ai (x:=vs (u.take 11)) (y:=vs [sg (L.fmod 36)]) ?_ (Ag rfl (Ai rfl rfl (AJ (by decide))) (Mg h36.1 h36.2)) (J8 _ _ (Q3 (j:=0) hgl.2.1).2)) (Ad (Ad ⟨_,rfl,⟨_,z,?_,rfl⟩,rfl⟩))
   ·rw [VS,Ag (z:=vs u) rfl rfl ((P8 hx).trans (Qj (by rw [AAB,ABI,hlast]; rfl))),bs]
    exact PH (σ:=σ) 11
   ·rw [BL]
    refine ⟨by simp,by simp; omega,?_⟩
    intro x hx
    simp only [AA0,AAJ] at hx
    rcases hx with hx | rfl
    ·exact hgl.2.2 x (List.mem_of_mem_take hx)
    ·exact Ml _ h36.1 h36.2
  ·exact Ad (Ad ⟨_,rfl,⟨f,z,hf,rfl⟩,rfl⟩)
 clear hf f z
 rintro _ _ ⟨⟨f,z,hf,rfl⟩,rfl⟩
 refine Df (M:=M) ?_ ?_
 ·refine A8 (t:=decide (c.fmod 8 > 4) && !(tk.map vs).isEmpty) (Cr (Aq (Ai rfl rfl (AJ (by decide))) rfl LB) fun _=>htr) (fun h=>?_) (fun h=>?_)
  ·have hne:tk≠[]:=by
    intro e; rw [e] at h; simp at h
   have hpos:0 < tk.length:=List.length_pos_iff.mpr hne
   have hlt:=AN L (j:=tk.length) (by omega)
   obtain ⟨u,hu⟩:∃ u,tk[(L.fmod tk.length).toNat]? = some u:=⟨_,AAN (by omega)⟩
   have hgu:=(BL _).mp (hg u (AA5 hu))
   refine Az (v:=vs u) (Ag rfl (Ai rfl (AI (A0 rfl) hlen) (AJ (by omega))) ((P8 hx).trans (Ms _ hlt.1 (by omega) (by rw [ABI,hu]; rfl)))) ?_
   have hat:=AN (L.fdiv 60) (j:=u.length) (by omega)
   refine Az (v:=vi ((L.fdiv 60).fmod u.length)) (Ai (Ai rfl rfl (Cy (by decide))) (AI (A0 rfl) N8) (AJ (by omega))) ?_
   generalize (L.fdiv 60).fmod u.length=a at hat
   have hs:=AN (L.fdiv 720) (j:=36) (by decide)
   refine Az (v:=vs (u.take a.toNat++[sg ((L.fdiv 720).fmod 36)]++u.drop (a+1).toNat)) (Ai (Ai (x:=vs (u.take a.toNat)) (y:=vs [sg ((L.fdiv 720).fmod 36)]) ?_ (Ag rfl (Ai (Ai rfl rfl (Cy (by decide))) rfl (AJ (by decide))) (Mg hs.1 hs.2)) (J8 _ _ (Q3 (j:=0) hgu.2.1).2)) (y:=vs (u.drop (a+1).toNat)) ?_ (J8 _ _ (Q3 hgu.2.1).1)) (Ad (Ad ⟨_,rfl,⟨_,some (vi a),?_,rfl⟩,rfl⟩))
   ·exact UF (σ:=σ) (a:=u) hat.1
   ·exact PI (σ:=σ) (a:=u) (i:=a+1) (by omega)
   ·rw [BL]
    refine ⟨(nm4 hgu.2.1 hat.1 hat.2).1,(nm4 hgu.2.1 hat.1 hat.2).2,?_⟩
    intro x hx
    simp only [AA0,AAJ] at hx
    rcases hx with (hx | rfl) | hx
    ·exact hgu.2.2 x (List.mem_of_mem_take hx)
    ·exact Ml _ hs.1 hs.2
    ·exact hgu.2.2 x (List.mem_of_mem_drop hx)
  ·exact Ad (Ad ⟨_,rfl,⟨f,z,hf,rfl⟩,rfl⟩)
 clear hf f z
 rintro _ _ ⟨⟨f,z,hf,rfl⟩,rfl⟩
 refine A8 (t:=!decide (f∈tk)) (Aq rfl rfl (by rw [GU,QS hx]; rfl)) (fun h=>?_) (fun h=>Ad ?_)
 ·exact A3 (v:=vs f) rfl ⟨f,hf,by simpa using h,rfl,rfl⟩
 ·have hc:(ev C.O (.comp (.bi .str (.cons (.var 5) .nil)) [5] (.range (.cons (.bin .Add (.bi .len (.cons (.var 1) .nil)) (.cst (.int 1))) .nil)) (.cons (.cmp .NotIn (.bi .str (.cons (.var 5) .nil)) (.var 1)) .nil))).v (K f z) σ=some (.d (.list (((List.range ((tk.length:Int)+1).toNat).filter fun j=>!decide (num j∈tk)).map fun j=>.str (Tx (num j))))):=by
   refine Fr ?_
   rw [Cl (fun j:Nat=>vi (j:Int)) (fun j=>!decide (num j∈tk)) (fun j=>vs (num j)) (itr (A0 (Ai (AI (A0 rfl) hlen) rfl rfl)) (by omega) (by omega)) (by rw [ABV]; exact AAC (show ((tk.length:Int)+1).toNat<=101 by omega) (by decide)) (fun j hj=>?_) (fun j hj _=>?_),AAE]
   ·rfl
   ·have hj:=ABZ.mp hj
    exact E9 (Aq (AI (A0 rfl) (JS (i:=(j:Int)) (by omega) (by omega))) rfl (by rw [GU,QS hx]; rfl))
   ·have hj:=ABZ.mp hj
    exact AI (A0 rfl) (JS (i:=(j:Int)) (by omega) (by omega))
  obtain ⟨j,hj1,hj2⟩:=Qi tk (ABT hl (by decide))
  have hmem:j∈(List.range ((tk.length:Int)+1).toNat).filter fun j=>!decide (num j∈tk):=AA4.mpr ⟨ABZ.mpr (by omega),by simpa using hj2⟩
  cases hfl:(List.range ((tk.length:Int)+1).toNat).filter fun j=>!decide (num j∈tk) with
  | nil=>rw [hfl] at hmem; cases hmem
  | cons i rest =>
   have hi:i∈(List.range ((tk.length:Int)+1).toNat).filter fun j=>!decide (num j∈tk):=by rw [hfl]; exact .head _
   have hi:=AA4.mp hi
   rw [hfl] at hc
   exact A3 (v:=vs (num i)) (Ag hc rfl (Ec 0 (by decide) (by decide) rfl)) ⟨num i,KQ i (by have:=ABZ.mp hi.1; omega),by simpa using hi.2,rfl,rfl⟩
theorem T5 {σ:Aa} {x:V} (c:Int) (tk:List (List Nat)) (hx:A2 σ x=some (tk.map vs)) (hg:∀ x∈tk,Bg x=true) (hl:tk.length < 100):∃ r,Bg r=true/\r∉tk/\FN 3 11 [vi c,x] σ (vs r) σ:=by
 obtain ⟨v,σ',⟨r,h1,h2,h3,h4⟩,h⟩:=FN.ends (C:=C1 2 (AAL _)) (f:=11) (fn:=Ow) (R:=fun v σ'=>∃ r,Bg r=true/\r∉tk/\v=vs r/\σ'=σ) (by unfold Pg; rfl) rfl (show 1<=2 by decide) (PP (fun _ _=>rfl) c tk hx hg hl)
 rw [h3,h4] at h
 exact ⟨r,h1,h2,h⟩
end Mine
namespace Mine
open PySem
noncomputable def PD:List Nat:=[32,33,34,35,36,38,39,40,41,42,43,44,45,46,47,48,49,50,51,52,53,54,55,56,57,58,59,60,61,62,63,64,65,66,67,68,69,70,71,72,73,74,75,76,77,78,79,80,81,82,83,84,85,86,87,88,89,90,91,92,93,94,95,96]
noncomputable def PC:List Nat:=[97,98,99,100,101,102,103,104,105,106,107,108,109,110,111,112,113,114,115,116,117,118,119,120,121,122,123,124,125,126]
noncomputable def HE:List Nat:=PD++PC
theorem Te:ACB " !\"#$&'()*+,-./0123456789:;<=>?@ABCDEFGHIJKLMNOPQRSTUVWXYZ[\\]^_`" = Tx PD:=by decide +kernel
theorem Td:ACB "abcdefghijklmnopqrstuvwxyz{|}~" = Tx PC:=by decide +kernel
theorem Wv:ACB ": " = Tx [58,32]:=by decide +kernel
noncomputable def so (i:Int):Nat:=HE.getD i.toNat 0
theorem Uc (i:Int) (h0:0<=i) (h:i < 94):HE[i.toNat]? = some (so i):=by
 have:i.toNat < HE.length:=Int.toNat_lt h0 |>.mpr h
 simp [so,List.getD,this]
theorem S2:∀ x∈HE,32<=x/\x<=126:=by decide +kernel
structure Bq (l:List Nat):Prop where
 len:l.length<=200
 ok:∀ x∈l,32<=x/\x<=126
section
variable {σ:Aa}
theorem UB {i:Int} (h0:0<=i) (h:i < 94):Bp (vs HE) (vi i) σ=some (vs [so i]):=On i h0 (by lia) (Uc i h0 h)
theorem PQ {C:Cfg} (c:Int):Af C (fun fl σ'=>∃ l,Bq l/\Hi fl=vs l/\σ'=σ) Ox.body (B3 Ox [vi c]) σ:=by
 show Af C _ _ [some (vi c),none,none,none,none] σ
 refine Az (v:=vs PD) (congrArg (fun s=>some (V.d (.str s))) Te) ?_
 refine Az (v:=vs HE) (Ai (y:=vs PC) rfl (congrArg (fun s=>some (V.d (.str s))) Td) (J8 _ _ (by decide))) ?_
 have h4:=AN c (j:=4) (by decide)
 refine Az (v:=vi (c.fmod 4)) (Ai rfl rfl (AJ (by decide))) ?_
 refine Df (M:=fun ρ σ'=>(∃ s:Int,0<=s/\s<=200/\ρ=[some (vi c),some (vs HE),some (vi s),none,none])/\σ=σ') ?_ ?_
 ·refine A8 (t:=decide ((c.fdiv 4).fmod 9=1)) (Aq (Ai (Ai rfl rfl (Cy (by decide))) rfl (AJ (by decide))) rfl BB) (fun h=>?_) (fun h=>?_)
  ·have h5:=AN (c.fdiv 36) (j:=201) (by decide)
   exact Az (v:=vi ((c.fdiv 36).fmod 201)) (Ai (Ai rfl rfl (Cy (by decide))) rfl (AJ (by decide))) (Ad (Ad ⟨_,rfl,⟨_,h5.1,by omega,rfl⟩,rfl⟩))
  ·exact Ad (Ad ⟨_,rfl,⟨_,h4.1,by omega,rfl⟩,rfl⟩)
 rintro _ _ ⟨⟨s,hs0,hs1,rfl⟩,rfl⟩
 have h5:=AN c (j:=5) (by decide)
 refine Az (v:=vs ((List.range s.toNat).map fun j:Nat=>so ((c.fdiv 7+j * (1+c.fmod 5)).fmod 94))) (Od (fun i=>so ((c.fdiv 7+i * (1+c.fmod 5)).fmod 94)) rfl (by omega) (by omega) (fun i _ _=>by
  have h:=AN (c.fdiv 7+i * (1+c.fmod 5)) (j:=94) (by decide)
  exact Ag rfl (Ai (Ai (Ai rfl rfl (Cy (by decide))) (Ai rfl (Ai rfl (Ai rfl rfl (AJ (by decide))) rfl) (GW (smr (by omega) (by omega)))) rfl) rfl (AJ (by decide))) (UB h.1 h.2))) ?_
 have hf1:((List.range s.toNat).map fun j:Nat=>so ((c.fdiv 7+j * (1+c.fmod 5)).fmod 94)).length=s.toNat:=by simp
 have hf2:∀ x∈((List.range s.toNat).map fun j:Nat=>so ((c.fdiv 7+j * (1+c.fmod 5)).fmod 94)),32<=x/\x<=126:=by
  intro x hx
  obtain ⟨j,_,rfl⟩:=AAP.mp hx
  have h:=AN (c.fdiv 7+j * (1+c.fmod 5)) (j:=94) (by decide)
  exact S2 _ (AA5 (Uc _ h.1 h.2))
 generalize ((List.range s.toNat).map fun j:Nat=>so ((c.fdiv 7+j * (1+c.fmod 5)).fmod 94))=f at hf1 hf2
 refine A8 (t:=decide ((c.fdiv 3).fmod 8=1)&&decide (s < 199)) (Cr (Aq (Ai (Ai rfl rfl (Cy (by decide))) rfl (AJ (by decide))) rfl BB) (fun _=>rfl)) (fun h=>?_) (fun h=>Ad ?_)
 ·simp only [Bool.and_eq_true,decide_eq_true_eq] at h
  refine A3 (v:=vs (f.take 1++[58,32]++f.drop 1)) (Ai (Ai (x:=vs (f.take 1)) (y:=vs [58,32]) (PH (σ:=σ) 1) (congrArg (fun s=>some (V.d (.str s))) Wv) (J8 _ _ (by simp [line]; omega))) (y:=vs (f.drop 1)) (Nn (σ:=σ) 1) (J8 _ _ (by simp [line]; omega))) ⟨_,⟨by simp; omega,?_⟩,rfl,rfl⟩
  intro x hx
  simp only [AA0,AAR,AA1,or_false] at hx
  rcases hx with (hx | rfl | rfl) | hx
  ·exact hf2 x (List.mem_of_mem_take hx)
  ·decide
  ·decide
  ·exact hf2 x (List.mem_of_mem_drop hx)
 ·exact A3 (v:=vs f) rfl ⟨f,⟨by omega,hf2⟩,rfl,rfl⟩
end
theorem Cm (x:PyData) (m:Nat):low m (.d x):=trivial
theorem Km (c:Int):∃ l,Bq l/\∀ σ,FN 2 12 [vi c] σ (vs l) σ:=by
 obtain ⟨v,σ',⟨l,h1,h2,h3⟩,h⟩:=FN.ends (C:=C0 1) (f:=12) (fn:=Ox) (zs:=[vi c]) (σ:=[]) (R:=fun v σ'=>∃ l,Bq l/\v=vs l/\σ'=[]) (by unfold Pg; rfl) rfl (AAL _) (PQ c)
 rw [h2,h3] at h
 exact ⟨l,h1,fun σ=>h.any (all_cons (Cm _ _) A9)⟩
noncomputable def Js (c:Int):List Nat:=Classical.choose (Km c)
theorem Q4 (c:Int):Bq (Js c):=(Classical.choose_spec (Km c)).1
theorem Q5 (c:Int) (σ:Aa):FN 2 12 [vi c] σ (vs (Js c)) σ:=(Classical.choose_spec (Km c)).2 σ
noncomputable def W1 (g:Int->V) (xs:List V):Option V:=match xs with | x::r=>(match r with | []=>(Ci x).bind fun c=>some (g c) | _=>none) | []=>none
theorem Tn {n f:Nat} {σ:Aa} {g:Int->V} {xs:List V} {v:V} (hf:∀ c,FN n f [vi c] σ (g c) σ) (h:W1 g xs=some v):FN n f xs σ v σ:=by
 match xs,h with
 | [],h=>exact Ac h
 | [x],h =>
  obtain ⟨c,e1,h⟩:=Ab h
  rw [Bo e1,<-AAA h]
  exact hf c
 | _::_::_,h=>exact Ac h
noncomputable def C2 (n:Nat) (hn:2<=n):Cfg:=(C1 n hn).add 12 (fun xs _=>W1 (fun c=>vs (Js c)) xs) fun _ σ _ h=>Tn (fun c=>(Q5 c σ).more hn) h
end Mine
namespace Mine
set_option tactic.hygienic true
noncomputable def FQ:List Nat:=[97,100,100]
noncomputable def G6:List Nat:=[115,101,116]
set_option genInjectivity true in
structure AH where
 word:List Nat
 mark:Option (List Nat×Int)
 text:Option (List Nat)
noncomputable abbrev Ch:=List Nat×List (List Nat)×List AH
noncomputable abbrev Mk:=List Nat×Int
noncomputable def aft (m x:Mk):List Mk->List Mk
 | []=>[x]
 | y::r=>if y=m then y::x::r else y::aft m x r
theorem VB (m x:Mk) (r:List Mk):aft m x (m::r)=m::x::r:=if_pos rfl
theorem VA {m x y:Mk} {r:List Mk} (h:y≠m):aft m x (y::r)=y::aft m x r:=if_neg h
noncomputable def Hk (o:Option Mk) (x:Mk) (r:List Mk):List Mk:=match o with | none=>x::r | some m=>aft m x r
noncomputable def AV (d:AH):Bool:=decide (d.word=FQ)
noncomputable def adds:List AH->Nat
 | []=>0
 | d::ds=>(if AV d then 1 else 0)+adds ds
noncomputable def Gy (nm:List Nat):List AH->Nat->List Mk->List Mk
 | [],_,r=>r
 | d::ds,k,r=>if AV d then Gy nm ds (k+1) (Hk d.mark (nm,(k:Int)) r) else Gy nm ds k r
noncomputable def HI:List Ch->List Mk->List Mk
 | [],r=>r
 | c::cs,r=>HI cs (Gy c.1 c.2.2 0 r)
noncomputable def FH (nm:List Nat) (k:Nat):Nat->List Mk
 | 0=>[]
 | n+1=>(nm,(k:Int))::FH nm (k+1) n
theorem HO {nm:List Nat} {k n:Nat} {m:Mk}:m∈FH nm k n ↔ m.1=nm/\(k:Int)<=m.2/\m.2 < (k:Int)+n:=by
 induction n generalizing k with
 | zero =>
  refine ⟨fun h=>(nomatch h),fun h=>?_⟩
  have h2:=h.2.2
  have h1:=h.2.1
  exact absurd h2 (by simp; omega)
 | succ n ih =>
  obtain ⟨a,b⟩:=m
  simp only [FH,AAR,ih,Prod.mk.injEq]
  constructor
  ·rintro (⟨rfl,rfl⟩ | ⟨rfl,h1,h2⟩)
   ·exact ⟨rfl,by omega,by omega⟩
   ·exact ⟨rfl,by omega,by omega⟩
  ·rintro ⟨rfl,h1,h2⟩
   by_cases e:b=k
   ·exact .inl ⟨rfl,e⟩
   ·exact .inr ⟨rfl,by omega,by omega⟩
theorem RS (m x:Mk) (r:List Mk):(aft m x r).Perm (x::r):=by
 induction r with
 | nil=>exact .refl _
 | cons y r ih =>
  unfold aft
  split
  ·exact .swap ..
  ·exact (ih.cons y).trans (.swap ..)
theorem DG (o:Option Mk) (x:Mk) (r:List Mk):(Hk o x r).Perm (x::r):=by
 cases o with
 | none=>exact .refl _
 | some m=>exact RS m x r
theorem OI (nm:List Nat) (ds:List AH) (k:Nat) (r:List Mk):(Gy nm ds k r).Perm (FH nm k (adds ds)++r):=by
 induction ds generalizing k r with
 | nil=>exact .refl _
 | cons d ds ih =>
  unfold Gy adds
  split
  ·rw [Nat.add_comm 1]
   exact (ih (k+1) _).trans (((DG ..).append_left _).trans List.perm_middle)
  ·rw [Nat.zero_add]; exact ih k r
theorem HH (cs:List Ch) (r:List Mk):(HI cs r).Perm ((cs.flatMap fun c=>FH c.1 0 (adds c.2.2))++r):=by
 induction cs generalizing r with
 | nil=>exact .refl _
 | cons c cs ih =>
  refine (ih _).trans (((OI c.1 c.2.2 0 r).append_left _).trans ?_)
  rw [List.flatMap_cons,<-ABQ]
  exact (List.perm_append_comm).append_right _
noncomputable def GL (q:Mk->Bool) (nm:List Nat):List AH->Nat->List Mk->Prop
 | [],_,_=>True
 | d::ds,k,r=>if AV d then (∀ m,d.mark=some m->q m=true/\m∈r)/\GL q nm ds (k+1) (Hk d.mark (nm,(k:Int)) r) else GL q nm ds k r
noncomputable def DOk (nm:List Nat) (ms:List Mk):List AH->Nat->Prop
 | [],_=>True
 | d::ds,k=>(∀ m,d.mark=some m->m∈ms\/(m.1=nm/\0<=m.2/\m.2 < (k:Int)))/\DOk nm ms ds (if AV d then k+1 else k)
theorem Vv {q:Mk->Bool} {nm:List Nat} {ms:List Mk} (ds:List AH) (k:Nat) (r:List Mk) (h:DOk nm ms ds k) (hq:∀ m∈ms,q m=true) (hn:∀ i:Int,q (nm,i)=true) (hm:∀ m∈ms,m∈r) (ho:∀ m:Mk,m.1=nm->0<=m.2->m.2 < (k:Int)->m∈r):GL q nm ds k r:=by
 induction ds generalizing k r with
 | nil=>exact trivial
 | cons d ds ih =>
  unfold DOk at h
  unfold GL
  split
  ·rename_i e
   rw [if_pos e] at h
   have sub:∀ m,m∈r->m∈Hk d.mark (nm,(k:Int)) r:=fun m hm=>(DG ..).mem_iff.mpr (.tail _ hm)
   refine ⟨fun m e1=>?_,ih (k+1) _ h.2 (fun m hm'=>sub m (hm m hm')) fun m h1 h2 h3=>?_⟩
   ·rcases h.1 m e1 with h2 | h2
    ·exact ⟨hq m h2,hm m h2⟩
    ·obtain ⟨a,b⟩:=m
     have:a=nm:=h2.1
     subst this
     exact ⟨hn b,ho _ rfl h2.2.1 h2.2.2⟩
   ·by_cases e2:m.2=(k:Int)
    ·obtain ⟨a,b⟩:=m
     have q1:a=nm:=h1
     have q2:b=(k:Int):=e2
     rw [q1,q2]
     exact (DG ..).mem_iff.mpr (.head _)
    ·exact sub m (ho m h1 h2 (by omega))
  ·rename_i e
   rw [if_neg e] at h
   exact ih k r h.2 hm ho
end Mine
namespace Mine
set_option tactic.hygienic true
section
variable {κ β:Type} [DecidableEq κ] {h t:List (κ×β)} {k:κ} {v:β}
theorem AX (q:κ×β) (h:List (κ×β)) (k:κ):Ao (q::h) k=if q.1=k then some q.2 else Ao h k:=by
 unfold Ao
 rw [List.find?_cons]
 by_cases e:q.1=k
 ·rw [AAI e,if_pos e]; rfl
 ·rw [AAT e,if_neg e]
theorem Iq (e:Ao h k=some v):Ao (h++t) k=some v:=by
 induction h with
 | nil=>cases e
 | cons q h ih =>
  rw [List.cons_append,AX] at *
  split at e
  ·rename_i q1; rw [if_pos q1]; exact e
  ·rename_i q1; rw [if_neg q1]; exact ih e
theorem EP (e:Ao h k=none):Ao (h++t) k=Ao t k:=by
 induction h with
 | nil=>rfl
 | cons q h ih =>
  rw [AX] at e
  rw [List.cons_append,AX]
  split at e
  ·cases e
  ·rename_i q1; rw [if_neg q1]; exact ih e
theorem CR:Ao h k=none ↔ k∉h.map (·.1):=by
 induction h with
 | nil=>simp [Ao]
 | cons q h ih =>
  rw [AX,ABP,AAR]
  by_cases e:q.1=k
  ·rw [if_pos e]; exact ⟨(fun q=>by cases q),fun q=>(q (.inl e.symm)).elim⟩
  ·rw [if_neg e,ih]; exact ⟨fun q1 q2=>q2.elim (fun q3=>e q3.symm) q1,fun q1 q2=>q1 (.inr q2)⟩
theorem AB:(∃ v,Ao h k=some v) ↔ k∈h.map (·.1):=by
 cases e:Ao h k with
 | none=>exact ⟨(fun ⟨v,q⟩=>by cases q),fun q=>(CR.mp e q).elim⟩
 | some v =>
  refine ⟨fun _=>?_,fun _=>⟨v,rfl⟩⟩
  by_cases q:k∈h.map (·.1)
  ·exact q
  ·rw [CR.mpr q] at e; cases e
theorem M7 {p:κ->Bool} (hk:p k=true):Ao (h.filter fun q=>p q.1) k=Ao h k:=by
 induction h with
 | nil=>rfl
 | cons q h ih =>
  by_cases e:p q.1=true
  ·rw [List.filter_cons_of_pos (by exact e),AX,AX,ih]
  ·rw [List.filter_cons_of_neg (by exact e),AX,ih,if_neg fun q1=>e (by rw [q1]; exact hk)]
theorem Gk:(h.any fun p=>p.1=k)=(Ao h k).isSome:=by
 induction h with
 | nil=>rfl
 | cons q h ih =>
  rw [List.any_cons,AX,ih]
  by_cases e:q.1=k
  ·rw [if_pos e,AAI e]; rfl
  ·rw [if_neg e,AAT e]; rfl
theorem FE (e:Ao h k=none):BG h k v=h++[(k,v)]:=by
 unfold BG
 rw [Gk,e]; rfl
theorem FF (k':κ):k'∈(BG h k v).map (·.1) ↔ k'=k\/k'∈h.map (·.1):=by
 unfold BG
 rw [Gk]
 cases e:Ao h k with
 | none=>simp [or_comm]
 | some d =>
  have hk:k∈h.map (·.1):=AB.mp ⟨d,e⟩
  have q1:(h.map fun p=>if p.1=k then (p.1,v) else p).map (·.1)=h.map (·.1):=by
   rw [AAE]
   refine List.map_congr_left fun p _=>?_
   show (if p.1=k then (p.1,v) else p).1=p.1
   split <;> rfl
  show k'∈(h.map fun p=>if p.1=k then (p.1,v) else p).map (·.1) ↔ _
  rw [q1]
  exact ⟨.inr,fun q=>q.elim (fun q=>q▸hk) id⟩
end
theorem Jx (l:List Int) (x:Int):x<=l.foldl (fun a b=>if a < b then b else a) x/\∀ y∈l,y<=l.foldl (fun a b=>if a < b then b else a) x:=by
 induction l generalizing x with
 | nil=>exact ⟨Int.le_refl _,fun y h=>by cases h⟩
 | cons z l ih =>
  have h:=ih (if x < z then z else x)
  rw [List.foldl_cons]
  have hx:x<=(if x < z then z else x)/\z<=(if x < z then z else x):=by split <;> omega
  refine ⟨Int.le_trans hx.1 h.1,fun y hy=>?_⟩
  rcases AAR.mp hy with rfl | hy
  ·exact Int.le_trans hx.2 h.1
  ·exact h.2 y hy
theorem Qt (z:Int) (l:List Int):∀ y∈l,y<=Ef z l:=by
 cases l with
 | nil=>intro y h; cases h
 | cons x r =>
  intro y hy
  rcases AAR.mp hy with rfl | hy
  ·exact (Jx r y).1
  ·exact (Jx r x).2 y hy
noncomputable def hv (h:List (List Nat×Int)) (ls:List (List Nat)):Int:=Ef 0 (ls.map fun l=>(Ao h l).getD 0+1)
noncomputable def hts:List (List Nat×Int)->List Ch->List (List Nat×Int)
 | h,[]=>h
 | h,c::cs=>hts (h++[(c.1,hv h c.2.1)]) cs
noncomputable def hgt (cs:List Ch) (n:List Nat):Int:=(Ao (hts [] cs) n).getD 0
theorem FW (h:List (List Nat×Int)) (a b:List Ch):hts h (a++b)=hts (hts h a) b:=by
 induction a generalizing h with
 | nil=>rfl
 | cons c a ih=>exact ih _
theorem BD (h:List (List Nat×Int)) (cs:List Ch):(hts h cs).map (·.1)=h.map (·.1)++cs.map (·.1):=by
 induction cs generalizing h with
 | nil=>simp [hts]
 | cons c cs ih=>rw [hts,ih]; simp
theorem Kc {h:List (List Nat×Int)} {cs:List Ch} {k:List Nat} {v:Int} (e:Ao h k=some v):Ao (hts h cs) k=some v:=by
 induction cs generalizing h with
 | nil=>exact e
 | cons c cs ih=>exact ih (Iq e)
theorem M6 (p:List Nat->Bool) (h:List (List Nat×Int)) (cs:List Ch) (hc:∀ c∈cs,p c.1=true->∀ l∈c.2.1,p l=true) :
 hts (h.filter fun q=>p q.1) (cs.filter fun c=>p c.1)=(hts h cs).filter fun q=>p q.1:=by
 induction cs generalizing h with
 | nil=>rfl
 | cons c cs ih =>
  have hc':=fun d hd=>hc d (List.mem_cons_of_mem _ hd)
  by_cases e:p c.1=true
  ·rw [List.filter_cons_of_pos (by exact e),hts,hts,<-ih _ hc',ABN,List.filter_cons_of_pos (by exact e),List.filter_nil]
   congr 4
   unfold hv
   congr 1
   exact List.map_congr_left fun l hl=>by rw [M7 (hc c (.head _) e l hl)]
  ·rw [List.filter_cons_of_neg (by exact e),hts,<-ih _ hc',ABN,List.filter_cons_of_neg (by exact e),List.filter_nil,AAV]
noncomputable def Dc (pre:List Ch) (ls:List (List Nat)):List Mk:=(pre.filter fun c=>decide (c.1∈ls)).flatMap fun c=>FH c.1 0 (adds c.2.2)
structure BE (cs:List Ch):Prop where
 nd:(cs.map (·.1)).Nodup
 ok:∀ pre c post,cs=pre++c::post->(∀ l∈c.2.1,l∈pre.map (·.1))/\DOk c.1 (Dc pre c.2.1) c.2.2 0
theorem BE.filter {cs:List Ch} (H:BE cs) {p:List Nat->Bool} (hc:∀ c∈cs,p c.1=true->∀ l∈c.2.1,p l=true):BE (cs.filter fun c=>p c.1):=by
 refine ⟨(List.Sublist.map _ List.filter_sublist).nodup H.nd,fun pre c post e=>?_⟩
 obtain ⟨a,b,e1,rfl,e2⟩:=AB8.mp e
 obtain ⟨a',b',e3,e4,e5,rfl⟩:=AB9.mp e2
 have e6:cs=(a++a')++c::b':=by rw [e1,e3,ABQ]
 obtain ⟨h1,h2⟩:=H.ok _ _ _ e6
 have hp:∀ l∈c.2.1,p l=true:=hc c (by rw [e6]; simp) e5
 have fa:(a++a').filter (fun c=>p c.1)=a.filter fun c=>p c.1:=by
  rw [ABN,List.filter_eq_nil_iff.mpr (fun x hx=>e4 x hx),AAV]
 refine ⟨fun l hl=>?_,?_⟩
 ·obtain ⟨d,hd,rfl⟩:=AAP.mp (h1 l hl)
  rw [<-fa]
  exact AAZ (AA4.mpr ⟨hd,hp _ hl⟩)
 ·have:Dc (a.filter fun c=>p c.1) c.2.1=Dc (a++a') c.2.1:=by
   unfold Dc
   rw [<-fa,AB2]
   congr 1
   refine List.filter_congr fun x _=>?_
   by_cases q:x.1∈c.2.1
   ·rw [hp _ q,AAI q]; rfl
   ·rw [AAT q]; rfl
  rw [this]; exact h2
theorem BE.lower {cs:List Ch} (H:BE cs) {c:Ch} (hc:c∈cs) {l:List Nat} (hl:l∈c.2.1):hgt cs l < hgt cs c.1:=by
 obtain ⟨pre,post,e⟩:=AB7 hc
 obtain ⟨h1,_⟩:=H.ok _ _ _ e
 have hk:=BD [] pre
 obtain ⟨v,hv'⟩:=AB.mpr (show l∈(hts [] pre).map (·.1) by rw [hk]; exact AA0.mpr (.inr (h1 l hl)))
 have hnew:Ao (hts [] pre) c.1=none:=by
  refine CR.mpr ?_
  rw [hk]
  have hn:=H.nd
  rw [e,AAQ,ABW] at hn
  exact fun q=>hn.2.2 c.1 (by simpa using q) c.1 (.head _) rfl
 have a1:Ao (hts [] cs) l=some v:=by rw [e,FW]; exact Kc hv'
 have a2:Ao (hts [] cs) c.1=some (hv (hts [] pre) c.2.1):=by
  rw [e,FW,hts]
  refine Kc ?_
  rw [EP hnew,AX,if_pos rfl]
 unfold hgt
 rw [a1,a2]
 have:=Qt 0 (c.2.1.map fun l=>(Ao (hts [] pre) l).getD 0+1) (v+1) (AAP.mpr ⟨l,hl,by rw [hv']; rfl⟩)
 show v < hv (hts [] pre) c.2.1
 unfold hv
 omega
def Bf (H:List Nat->Int) (a b:Ch):Prop:=H a.1 < H b.1\/(H a.1=H b.1/\b.1 < a.1)
structure JE (H:List Nat->Int) (cs O:List Ch):Prop where
 perm:O.Perm cs
 bf:O.Pairwise (Bf H)
theorem TN (H:List Nat->Int) (a b:Ch) (h:Bf H a b) (h':Bf H b a):False:=by
 rcases h with h | h <;> rcases h' with h' | h'
 ·omega
 ·omega
 ·omega
 ·exact List.lt_irrefl _ (List.lt_trans h.2 h'.2)
theorem JE.uniq {H:List Nat->Int} {cs O O':List Ch} (h:JE H cs O) (h':JE H cs O'):O=O':=CH (TN H) h.bf h'.bf (h.perm.trans h'.perm.symm)
theorem SG {cs O:List Ch} (H:BE cs) (ho:JE (hgt cs) cs O) {A B:List Ch} {c:Ch} (e:O=A++c::B) {q:Mk->Bool} (hq:∀ m:Mk,m.1∈c.2.1->q m=true) (hn:∀ i:Int,q (c.1,i)=true):GL q c.1 c.2.2 0 (HI A []):=by
 have hc:c∈cs:=ho.perm.mem_iff.mp (by rw [e]; simp)
 obtain ⟨pre,post,e1⟩:=AB7 hc
 obtain ⟨h1,h2⟩:=H.ok _ _ _ e1
 have lm:∀ m∈Dc pre c.2.1,∃ d∈pre,d.1∈c.2.1/\m∈FH d.1 0 (adds d.2.2):=fun m hm=>by
  obtain ⟨d,hd,hm'⟩:=List.mem_flatMap.mp hm
  have:=AA4.mp hd
  exact ⟨d,this.1,by simpa using this.2,hm'⟩
 refine Vv c.2.2 0 _ h2 (fun m hm=>?_) hn (fun m hm=>?_) fun m _ h3 h4=>by omega
 ·obtain ⟨d,_,h3,h4⟩:=lm m hm
  exact hq m (by rw [(HO.mp h4).1]; exact h3)
 ·obtain ⟨d,h3,h4,h5⟩:=lm m hm
  have hd:d∈O:=ho.perm.mem_iff.mpr (by rw [e1]; exact AAU _ h3)
  have low:=H.lower hc h4
  have hA:d∈A:=by
   rw [e] at hd
   rcases AA0.mp hd with hd | hd
   ·exact hd
   ·rcases AAR.mp hd with rfl | hd
    ·omega
    ·have hb:=ho.bf
     rw [e,List.pairwise_append] at hb
     rcases (List.pairwise_cons.mp hb.2.1).1 d hd with h6 | h6 <;> omega
  have:=HH A []
  rw [AAV] at this
  exact this.mem_iff.mpr (List.mem_flatMap.mpr ⟨d,hA,h5⟩)
end Mine
namespace Mine
open PySem
theorem Eg:ACB "add" = Tx FQ:=by decide +kernel
noncomputable def Ig:List Nat:=[99,117,116]
theorem QF:ACB "cut" = Tx Ig:=by decide +kernel
theorem GQ:ACB "set" = Tx G6:=by decide +kernel
theorem Vf:G6≠FQ:=by decide
theorem Ve:Ig≠FQ:=by decide
theorem Tc:Ig≠G6:=by decide
noncomputable def A1 (o:Option Mk):PyData:=match o with | none=>.none | some m=>.tuple [.str (Tx m.1),.int m.2]
noncomputable abbrev vm (m:Mk):V:=.d (A1 (some m))
noncomputable abbrev dms (ms:List Mk):PyData:=.list (ms.map fun m=>A1 (some m))
noncomputable def AH.data (d:AH):PyData:=.tuple (.str (Tx d.word)::A1 d.mark::(match d.text with | none=>[] | some l=>[.str (Tx l)]))
noncomputable abbrev dds (ds:List AH):PyData:=.list (ds.map AH.data)
noncomputable def Ch.data (c:Ch):PyData:=.tuple [.str (Tx c.1),dl c.2.1,dds c.2.2]
noncomputable abbrev vc (c:Ch):V:=.d (Ch.data c)
section
variable {σ:Aa}
theorem CE (d:AH):Bp (.d d.data) (vi 0) σ=some (vs d.word):=by
 unfold AH.data
 cases d.text <;> rfl
theorem CF (d:AH):Bp (.d d.data) (vi 1) σ=some (.d (A1 d.mark)):=by
 unfold AH.data
 cases d.text <;> rfl
theorem Et (d:AH) {l:List Nat} (h:d.text=some l):Bp (.d d.data) (vi 2) σ=some (vs l):=by
 unfold AH.data; rw [h]; rfl
theorem AL (c:Ch):Bp (vc c) (vi 0) σ=some (vs c.1):=rfl
theorem CC (c:Ch):Bp (vc c) (vi 1) σ=some (.d (dl c.2.1)):=rfl
theorem Cj (c:Ch):Bp (vc c) (vi 2) σ=some (.d (dds c.2.2)):=rfl
end
theorem Tm {σ:Aa} (m:Option Mk):B5 .Is (.d (A1 m)) (.d .none) σ=some m.isNone:=by cases m <;> rfl
theorem FS {σ:Aa} (m:Option Mk):B5 .IsNot (.d (A1 m)) (.d .none) σ=some (!m.isNone):=by cases m <;> rfl
structure CB (d:AH):Prop where
 shp:(d.word=FQ/\∃ l,d.text=some l/\Bq l)\/(d.word=G6/\∃ m l,d.mark=some m/\d.text=some l/\Bq l)\/(d.word=Ig/\∃ m,d.mark=some m)
theorem Hw:∀ ds:List AH,(ds.filter fun d=>decide (d.word=FQ)).length=adds ds
 | []=>rfl
 | d::ds=>by
  rw [List.filter_cons]
  show _=(if AV d then 1 else 0)+adds ds
  rw [<-Hw ds]
  unfold AV
  split
  ·rw [AA2,Nat.add_comm]
  ·rw [Nat.zero_add]
theorem Hv (ds:List AH):adds ds<=ds.length:=by rw [<-Hw]; exact AAX _ _
theorem CU:∀ (ds:List AH) (d:AH),adds (ds++[d])=adds ds+(if AV d then 1 else 0)
 | [],d=>by show (if AV d then 1 else 0)+0=0+_; rw [Nat.add_comm]
 | e::ds,d=>by show (if AV e then 1 else 0)+adds (ds++[d])=(if AV e then 1 else 0)+adds ds+_; rw [CU ds d,Nat.add_assoc]
theorem LZ {nm:List Nat} {ms:List Mk} {d:AH}:∀ (ds:List AH) (k:Nat),DOk nm ms ds k->(∀ m,d.mark=some m->m∈ms\/(m.1=nm/\0<=m.2/\m.2 < ((k+adds ds:Nat):Int)))->DOk nm ms (ds++[d]) k
 | [],k,_,h=>⟨h,trivial⟩
 | e::ds,k,⟨h1,h2⟩,h=>by
  refine ⟨h1,LZ ds _ h2 fun m hm=>?_⟩
  have:=h m hm
  have e1:(if AV e then k+1 else k)+adds ds=k+adds (e::ds):=by
   show _=k+((if AV e then 1 else 0)+adds ds)
   split <;> omega
  rw [e1]; exact this
theorem Bk {α:Type} (l:List α):l.filter (fun _=>true)=l:=List.filter_eq_self.mpr fun _ _=>rfl
section
variable {O:Orc} {ρ:Ah} {σ:Aa} {elt es:E} {t:Nat} {m:Int}
theorem Of (g:Int->PyData) (hi:(ev O es).row ρ σ=some [vi m]) (h0:0<=m) (hl:m<=1000000)
 (hg:∀ i:Int,0<=i->i < m->(ev O elt).v ((ρ.set t none).set t (some (vi i))) σ=some (.d (g i))):(ev O (.comp elt [t] (.range es) .nil)).v ρ σ=some (.d (.list ((List.range m.toNat).map fun j:Nat=>g (j:Int)))):=by
 refine Fr ?_
 rw [Cl (fun j:Nat=>vi (j:Int)) (fun _=>true) (fun j:Nat=>.d (g (j:Int))) (itr hi hl (by omega)) (by rw [ABV]; exact AAC (show m.toNat<=1000000 by omega) (by decide)) (fun _ _=>rfl) (fun j hj _=>hg j (AB6 _) (by have:=ABZ.mp hj; omega)),Bk,AAE]
 rfl
theorem CD {α:Type} {a ifs:E} {l:List α} (d:α->PyData) (p:α->Bool) (g:α->PyData) (ha:(ev O a).it ρ σ=some (l.map fun x=>.d (d x),[])) (hl:l.length<=line) (hp:∀ x∈l,(ev O ifs).ts ((ρ.set t none).set t (some (.d (d x)))) σ=some (p x))
 (hg:∀ x∈l,p x=true->(ev O elt).v ((ρ.set t none).set t (some (.d (d x)))) σ=some (.d (g x))):(ev O (.comp elt [t] a ifs)).v ρ σ=some (.d (.list ((l.filter p).map g))):=by
 refine Fr ?_
 rw [Cl (fun x=>.d (d x)) p (fun x=>.d (g x)) ha hl hp hg,AAE]
 rfl
theorem Bx {α:Type} {e:E} {l:List α} {d:α->PyData} (h:(ev O e).v ρ σ=some (.d (.list (l.map d)))) (he:(ev O e).it ρ σ=((ev O e).v ρ σ).bind (DT σ)):(ev O e).it ρ σ=some (l.map fun x=>.d (d x),[]):=by
 rw [he,h]
 show some ((l.map d).map V.d,[])=_
 rw [AAE]; rfl
end
theorem KO (t:List Nat) (k:Nat):((List.range k).map fun j:Nat=>A1 (some (t,(j:Int))))=((List.range k).map fun j:Nat=>(t,(j:Int))).map fun m=>A1 (some m):=by rw [AAE]; rfl
theorem Mq (nm:List Nat) (n k:Nat):FH nm k n=(List.range n).map fun j:Nat=>(nm,((k+j:Nat):Int)):=by
 induction n generalizing k with
 | zero=>rfl
 | succ n ih =>
  rw [List.range_succ_eq_map,ABP,AAE]
  show (nm,(k:Int))::FH nm (k+1) n=_
  rw [ih]
  congr 1
  refine List.map_congr_left fun j _=>?_
  show (nm,((k+1+j:Nat):Int))=(nm,((k+(j+1):Nat):Int))
  rw [show k+1+j=k+(j+1) by omega]
theorem EL (nm:List Nat) (n:Nat):FH nm 0 n=(List.range n).map fun j:Nat=>(nm,(j:Int)):=by
 rw [Mq]; simp
theorem Rm {σ:Aa} (c:Ch) (hd:c.2.2.length<=100):FN 2 14 [vc c] σ (.d (dms (FH c.1 0 (adds c.2.2)))) σ:=by
 exact FN.same (C:=C0 1) (fn:=Sd) (by unfold Pg; rfl) rfl (AAL _) (by
  have c1:=CD (O:=(C0 1).O) (ρ:=[some (vc c),none,none,none]) (σ:=σ) (elt:=.var 2) (t:=2) (a:=.sub (.var 0) (.cst (.int 2))) (ifs:=.cons (.cmp .Eq (.sub (.var 2) (.cst (.int 0))) (.cst (.str (ACB "add")))) .nil) (l:=c.2.2) AH.data (fun d=>decide (d.word=FQ)) AH.data (Bx (Ag rfl rfl (Cj c)) rfl) (AAC hd (by decide)) (fun d _=>E9 (Aq (Ag rfl rfl (CE d)) (congrArg (fun s=>some (V.d (.str s))) Eg) Fu)) (fun d _ _=>rfl)
  refine Az (v:=vi (adds c.2.2)) (AI (A0 c1) (BZ.trans (by rw [AAB,Hw]))) ?_
  have hk:=Hv c.2.2
  generalize adds c.2.2=k at hk
  refine A3 (Of (fun i=>A1 (some (c.1,i))) rfl (by omega) (by omega) (fun i _ _=>Cv (AY (Ag rfl rfl (AL c)) rfl) rfl)) ⟨?_,rfl⟩
  show V.d (.list ((List.range (k:Int).toNat).map fun j:Nat=>A1 (some (c.1,(j:Int)))))=_
  rw [Int.toNat_natCast,KO,EL])
end Mine
namespace Mine
open PySem
theorem Li {C:Cfg} {ρ:Ah} {σ:Aa} {es:E} {m:Int} (h:(ev C.O es).row ρ σ=some [vi m]) (h1:m<=1000000) (h2:-1000000<=m):C.it (.range es) ρ σ=some ((List.range m.toNat).map (fun j:Nat=>vi (j:Int)),[]):=itr h h1 h2
structure Sg (t:List Nat) (ms:List Mk) (p:Nat) (ds:List AH) (own:Nat):Prop where
 own:own=adds ds
 len:ds.length=p
 dok:DOk t ms ds 0
 ok:∀ d∈ds,CB d
theorem Sg.snoc {t:List Nat} {ms:List Mk} {p:Nat} {ds:List AH} {own own':Nat} {d:AH} (h:Sg t ms p ds own) (ho:own'=own+(if AV d then 1 else 0)) (hd:CB d) (hm:∀ m,d.mark=some m->m∈ms\/(m.1=t/\0<=m.2/\m.2 < (own:Int))):Sg t ms (p+1) (ds++[d]) own' :=
 ⟨by rw [ho,CU,h.own],by rw [AAF,h.len]; rfl,LZ ds 0 h.dok fun m e=>by rw [Nat.zero_add,<-h.own]; exact hm m e,fun e he=>by
  rcases AA0.mp he with he | he
  ·exact h.ok e he
  ·rw [AAJ.mp he]; exact hd⟩
theorem OH {C:Cfg} (hm:∀ c k σ,C.O 10 [vi c,vi k] σ=some (vi (BC c k))) (hl:∀ c σ,C.O 12 [vi c] σ=some (vs (Js c)))
 (t:List Nat) (c many:Int) (ms:List Mk) (h0:0<=many) (h1:many<=100) (hml:ms.length<=10000) :
 Af C (fun fl σ'=>∃ ds:List AH,ds.length=many.toNat/\DOk t ms ds 0/\(∀ d∈ds,CB d)/\Hi fl=.ref 0/\σ'=[.list (ds.map fun d=>.d d.data)]) K4.body (B3 K4 [vs t,vi c,vi many,.d (dms ms)]) []:=by
 show Af C _ _ [some (vs t),some (vi c),some (vi many),some (.d (dms ms)),none,none,none,none,none,none,none,none,none] []
 refine Bu (ws:=[]) rfl ?_
 refine Az (v:=vi 0) rfl ?_
 let K:Nat->Option V->Option V->Option V->Option V->Option V->Option V->Option V->Ah:=fun own z6 z7 z8 z9 z10 z11 z12=>[some (vs t),some (vi c),some (vi many),some (.d (dms ms)),some (.ref 0),some (vi own),z6,z7,z8,z9,z10,z11,z12]
 refine AS (l:=List.range many.toNat) (fun j:Nat=>vi (j:Int)) (fun p ρ σ=>∃ ds own,Sg t ms p.length ds own/\(∃ z6 z7 z8 z9 z10 z11 z12,ρ=K own z6 z7 z8 z9 z10 z11 z12)/\σ=[.list (ds.map fun d=>.d d.data)])
  (Li rfl (by omega) (by omega)) ⟨[],0,⟨rfl,rfl,trivial,fun d h=>nomatch h⟩,⟨none,none,none,none,none,none,none,rfl⟩,rfl⟩ ?_ ?_
 ·rintro p j q ρ σ hp ⟨ds,own,D,⟨z6,z7,z8,z9,z10,z11,z12,rfl⟩,rfl⟩
  have hpl:p.length < 100:=by
   have:=congrArg List.length hp
   rw [ABV,AAF,AA2] at this; omega
  have hdl:ds.length < 100:=D.len▸hpl
  have hon:own<=100:=by rw [D.own]; exact AAC (Hv ds) (Nat.le_of_lt hdl)
  have hll:(ds.map fun d=>V.d d.data).length < line:=by rw [AAB]; exact ABT hdl (by decide)
  have fin:∀ (d:AH) (own':Nat) (ρ:Ah),own'=own+(if AV d then 1 else 0)->CB d->(∀ m,d.mark=some m->m∈ms\/(m.1=t/\0<=m.2/\m.2 < (own:Int)))->(∃ z6 z7 z8 z9 z10 z11 z12,ρ=K own' z6 z7 z8 z9 z10 z11 z12) ->
   ∃ ρ',Fl.next ρ=.next ρ'/\∃ ds' own,Sg t ms (p++[j]).length ds' own/\(∃ z6 z7 z8 z9 z10 z11 z12,ρ'=K own z6 z7 z8 z9 z10 z11 z12)/\([O.list ((ds.map fun d=>V.d d.data)++[V.d d.data])]:Aa)=[O.list (ds'.map fun d=>V.d d.data)]:=fun d own' ρ ho hd hm hρ =>
   ⟨ρ,rfl,ds++[d],own',by rw [AAF]; exact D.snoc ho hd hm,hρ,by rw [AAQ]; rfl⟩
  have hown:(ev C.O (.comp (.tup (.cons (.var 0) (.cons (.var 12) .nil))) [12] (.range (.cons (.var 5) .nil)) .nil)).v (K own (some (vi j)) z7 z8 z9 z10 z11 z12) [.list (ds.map fun d=>.d d.data)]=some (.d (dms ((List.range own).map fun j:Nat=>(t,(j:Int))))):=by
   rw [Of (fun i=>A1 (some (t,i))) (m:=own) rfl (by omega) (by omega) (fun i _ _=>Cv (AY rfl rfl) rfl),Int.toNat_natCast,KO]
  obtain ⟨ks,hks,hks1,hks2⟩:∃ ks:List Mk,C.v (.bin .Add (.var 3) (.comp (.tup (.cons (.var 0) (.cons (.var 12) .nil))) [12] (.range (.cons (.var 5) .nil)) .nil)) (K own (some (vi j)) z7 z8 z9 z10 z11 z12) [.list (ds.map fun d=>.d d.data)]=some (.d (dms ks))/\(∀ m∈ks,m∈ms\/(m.1=t/\0<=m.2/\m.2 < (own:Int)))/\ks.length<=10100:=by
   refine ⟨ms++(List.range own).map (fun j:Nat=>(t,(j:Int))),Ai rfl hown ((Kt _ _ ?_).trans (by rw [<-AAQ])),?_,?_⟩
   ·simp [line]; omega
   ·intro m hm
    rcases AA0.mp hm with hm | hm
    ·exact .inl hm
    ·obtain ⟨i,hi,rfl⟩:=AAP.mp hm
     have:=ABZ.mp hi
     exact .inr ⟨rfl,AB6 i,by show (i:Int) < _; omega⟩
   ·simp; omega
  refine Az hks ?_
  refine Az (v:=vi (BC c j)) (El (AY rfl rfl) (hm _ _ _)) ?_
  generalize BC c j=L
  have hat:=AN (L.fdiv 5) (j:=(ks.length:Int)+1) (by omega)
  have hkl:∀ σ,B6 .len σ [.d (dms ks)]=some (vi ks.length):=fun σ=>BZ.trans (by rw [AAB])
  refine Az (v:=vi ((L.fdiv 5).fmod ((ks.length:Int)+1))) (Ai (Ai rfl rfl (Cy (by decide))) (Ai (AI (A0 rfl) (hkl _)) rfl rfl) (AJ (by omega))) ?_
  generalize (L.fdiv 5).fmod ((ks.length:Int)+1)=a at hat
  refine Az (v:=vs (Js (L.fdiv 365))) (El (A0 (Ai rfl rfl (Cy (by decide)))) (hl _ _)) ?_
  have hlo:=Q4 (L.fdiv 365)
  generalize Js (L.fdiv 365)=l at hlo
  have pick:∀ i:Int,0<=i->i < ks.length->∃ m,m∈ks/\∀ σ,Bp (.d (dms ks)) (vi i) σ=some (vm m):=fun i i0 i1=>by
   obtain ⟨m,hm1⟩:∃ m,ks[i.toNat]? = some m:=⟨_,AAN (by omega)⟩
   exact ⟨m,AA5 hm1,fun σ=>Ec _ i0 (by omega) (by rw [ABI,hm1]; rfl)⟩
  refine A8 (t:=decide (L.fmod 5 < 3) || !(!(ks.map fun m=>A1 (some m)).isEmpty)) (Dv (Aq (Ai rfl rfl (AJ (by decide))) rfl MN) fun _=>rfl) (fun h=>?_) (fun h=>?_)
  ·refine Az (v:=.d .none) rfl ?_
   refine Df (M:=fun ρ σ'=>(∃ o:Option Mk,(∀ m,o=some m->m∈ks)/\ρ=K own (some (vi j)) (some (.d (dms ks))) (some (vi L)) (some (vi a)) (some (vs l)) (some (.d (A1 o))) z12)/\[.list (ds.map fun d=>.d d.data)]=σ') ?_ ?_
   ·refine A8 (t:=decide (a > 0)) rfl (fun h=>?_) (fun h=>?_)
    ·have h:=AAG h
     obtain ⟨m,hm1,hm2⟩:=pick (a-1) (by omega) (by omega)
     exact Az (v:=vm m) (Ag rfl (Ai rfl rfl rfl) (hm2 _)) (Ad (Ad ⟨_,rfl,⟨some m,(fun m' e=>AAA e▸hm1),rfl⟩,rfl⟩))
    ·exact Ad (Ad ⟨_,rfl,⟨none,(fun m' e=>Ac e),rfl⟩,rfl⟩)
   rintro _ _ ⟨⟨o,ho,rfl⟩,rfl⟩
   refine AU (k:=0) (y:=.d (AH.data ⟨FQ,o,some l⟩)) rfl (A0 (Cv (Ko (x:=vs FQ) (congrArg (fun s=>some (V.d (.str s))) Eg) rfl rfl) rfl)) rfl hll ?_
   exact Az (v:=vi ((own:Int)+1)) rfl (Ad (Ad (fin ⟨FQ,o,some l⟩ (own+1) _ rfl ⟨.inl ⟨rfl,l,rfl,hlo⟩⟩ (fun m e=>hks1 m (ho m e)) ⟨_,_,_,_,_,_,_,rfl⟩)))
  ·have h2:=(Bool.or_eq_false_iff.mp h).2
   have hpos:0 < ks.length:=by
    cases ks with
    | nil=>cases h2
    | cons _ _=>exact Nat.succ_pos _
   have hi:=AN a (j:=(ks.length:Int)) (by omega)
   obtain ⟨m,hm1,hm2⟩:=pick (a.fmod ks.length) hi.1 hi.2
   refine A8 (t:=decide (L.fmod 5=3)) (Aq (Ai rfl rfl (AJ (by decide))) rfl BB) (fun h=>?_) (fun h=>?_)
   ·exact AU (k:=0) (y:=.d (AH.data ⟨Ig,some m,none⟩)) rfl (A0 (Cv (AY (x:=vs Ig) (congrArg (fun s=>some (V.d (.str s))) QF) (Ag rfl (Ai rfl (AI (A0 rfl) (hkl _)) (AJ (by omega))) (hm2 _))) rfl)) rfl hll (Ad (Ad (Ad (fin ⟨Ig,some m,none⟩ own _ rfl ⟨.inr (.inr ⟨rfl,m,rfl⟩)⟩ (fun m' e=>AAA e▸hks1 m hm1) ⟨_,_,_,_,_,_,_,rfl⟩))))
   ·exact AU (k:=0) (y:=.d (AH.data ⟨G6,some m,some l⟩)) rfl (A0 (Cv (Ko (x:=vs G6) (congrArg (fun s=>some (V.d (.str s))) GQ) (Ag rfl (Ai rfl (AI (A0 rfl) (hkl _)) (AJ (by omega))) (hm2 _)) rfl) rfl)) rfl hll (Ad (Ad (Ad (fin ⟨G6,some m,some l⟩ own _ rfl ⟨.inr (.inl ⟨rfl,m,l,rfl,rfl,hlo⟩)⟩ (fun m' e=>AAA e▸hks1 m hm1) ⟨_,_,_,_,_,_,_,rfl⟩))))
 ·rintro ρ σ ⟨ds,own,D,⟨z6,z7,z8,z9,z10,z11,z12,rfl⟩,rfl⟩
  exact A3 (v:=.ref 0) rfl ⟨ds,by rw [D.len,ABV],D.dok,D.ok,rfl,rfl⟩
theorem Rp (t:List Nat) (c many:Int) (ms:List Mk) (h0:0<=many) (h1:many<=100) (hml:ms.length<=10000):∃ ds:List AH,ds.length=many.toNat/\DOk t ms ds 0/\(∀ d∈ds,CB d)/\∀ σ,FN 3 15 [vs t,vi c,vi many,.d (dms ms)] σ (.d (dds ds)) σ:=by
 obtain ⟨v,σ',⟨ds,k1,k2,k3,k4,k5⟩,h⟩:=FN.ends (C:=C2 2 (AAL _)) (f:=15) (fn:=K4) (zs:=[vs t,vi c,vi many,.d (dms ms)]) (σ:=[]) (R:=fun v σ'=>∃ ds:List AH,ds.length=many.toNat/\DOk t ms ds 0/\(∀ d∈ds,CB d)/\v=.ref 0/\σ'=[.list (ds.map fun d=>.d d.data)]) (by unfold Pg; rfl) rfl (show 1<=2 by decide) (OH (fun _ _ _=>rfl) (fun _ _=>rfl) t c many ms h0 h1 hml)
 rw [k4,k5] at h
 exact ⟨ds,k1,k2,k3,fun σ=>(FN.seal (σ:=[]) (d:=dds ds) h ⟨_,rfl,ABF _,by rw [AAE]; rfl⟩).any (all_cons (Cm _ _) (all_cons (Cm _ _) (all_cons (Cm _ _) (all_cons (Cm _ _) A9))))⟩
end Mine
namespace Mine
open PySem
noncomputable def Mz (x:List Nat):List (List Nat)->List (List Nat)
 | []=>[x]
 | y::r=>if decide (x < y) then x::y::r else y::Mz x r
noncomputable def Aj:List (List Nat)->List (List Nat)
 | []=>[]
 | x::r=>Mz x (Aj r)
theorem OW (x:List Nat) (l:List (List Nat)):DV (Tx x) (l.map Tx)=(Mz x l).map Tx:=by
 induction l with
 | nil=>rfl
 | cons y l ih =>
  show (if Bh (Tx x) (Tx y)=true then Tx x::Tx y::l.map Tx else Tx y::DV (Tx x) (l.map Tx))=(if decide (x < y)=true then x::y::l else y::Mz x l).map Tx
  rw [LO,ih]
  cases decide (x < y) <;> rfl
theorem Fj (l:List (List Nat)):Dq (l.map Tx)=(Aj l).map Tx:=by
 induction l with
 | nil=>rfl
 | cons y l ih =>
  show DV (Tx y) (Dq (l.map Tx))=(Mz y (Aj l)).map Tx
  rw [ih,OW]
theorem An (l:List (List Nat)):(Aj l).Perm l:=by
 have ins:∀ (x:List Nat) (l:List (List Nat)),(Mz x l).Perm (x::l):=by
  intro x l
  induction l with
  | nil=>exact .refl _
  | cons y l ih =>
   unfold Mz
   split
   ·exact .refl _
   ·exact (ih.cons y).trans (.swap ..)
 induction l with
 | nil=>exact .refl _
 | cons y l ih=>exact (ins y _).trans (ih.cons y)
theorem BM (l:List (List Nat)) (h:l.Nodup):(Aj l).Pairwise (· < ·):=by
 have h1:=CX (l.map Tx)
 rw [Fj] at h1
 have h1:((Aj l).map Tx).Pairwise fun a b=>Bh b a=false:=h1
 rw [List.pairwise_map] at h1
 have h2:(Aj l).Nodup:=(An l).nodup_iff.mpr h
 refine (h1.and h2).imp fun {a b} q=>?_
 have q1:=q.1
 rw [LO] at q1
 exact Classical.byContradiction fun h=>q.2 (List.le_antisymm (List.not_lt.mp (ABG q1)) (List.not_lt.mp h))
theorem N3 (l:List (List Nat)):Ct BN (l.map vs)=some (l.map Tx):=by
 rw [show l.map vs=vss (l.map Tx) by show _=(l.map Tx).map _; rw [AAE]; rfl]
 exact G5 _
theorem CO {σ:Aa} {x:V} {l:List (List Nat)} (hx:A2 σ x=some (l.map vs)) (h:l.length < 64):B6 .sorted σ [x]=some (.d (dl (Aj l))):=by
 show (IK .sorted σ x).bind mkL=_
 show ((A2 σ x).bind fun ws=>(Ct BN ws).bind fun ss=>if ss.length < 64 then some (vss (Dq ss)) else none).bind mkL=_
 rw [hx,bs,N3,bs,if_pos (by rw [AAB]; exact h),bs,Fj]
 have e:vss ((Aj l).map Tx)=((Aj l).map fun t=>PyData.str (Tx t)).map V.d:=by
  show ((Aj l).map Tx).map _=_
  rw [AAE,AAE]; rfl
 rw [e]
 exact HV _ (by rw [AAB,(An l).length_eq]; exact AAC (Nat.le_of_lt h) (by decide))
theorem R4 (ds:List PyData) (k:Nat):GT k ds=(ds.zipIdx k).map fun p=>V.d (.tuple [.int (p.2:Int),p.1]):=by
 induction ds generalizing k with
 | nil=>rfl
 | cons x a ih=>show _::GT (k+1) a=_; rw [ih]; rfl
theorem NM:∀ (l:List Ch) (k:Nat),(l.zipIdx k).map (·.1.1)=l.map (·.1)
 | [],_=>rfl
 | _::l,k=>by rw [List.zipIdx_cons,ABP,ABP,NM l (k+1)]
theorem OR {α:Type} {σ:Aa} {k:Nat} {l:List α} {d:α->PyData} (h:σ[k]? = some (.list (l.map fun a=>V.d (d a)))):N6 σ (.ref k)=some (l.map d):=by
 show (CQ σ[k]?).bind DJ=_
 rw [h]
 show DJ (l.map fun a=>V.d (d a))=_
 rw [show (l.map fun a=>V.d (d a))=(l.map d).map V.d by rw [AAE]; rfl,Dk]
noncomputable abbrev lcs (cs:List Ch):O:=.list (cs.map vc)
theorem OG {C:Cfg} (hm:∀ c k σ,C.O 10 [vi c,vi k] σ=some (vi (BC c k))) (c:Int) (cs:List Ch) (hcs:cs.length<=60) :
 Af C (fun fl σ'=>∃ fs:List (List Nat),fs.Sublist (cs.map (·.1))/\Hi fl=.d (dl (Aj fs))/\σ'=[lcs cs,.list (fs.map vs)]) K2.body (B3 K2 [vi c,.ref 0]) [lcs cs]:=by
 show Af C _ _ [some (vi c),some (.ref 0),none,none,none,none,none] [lcs cs]
 refine Az (v:=vi (BC c 1)) (El (AY rfl rfl) (hm _ _ _)) ?_
 refine Bu (ws:=[]) rfl ?_
 let K:Int->Option V->Option V->Option V->Ah:=fun L z4 z5 z6=>[some (vi c),some (.ref 0),some (vi L),some (.ref 1),z4,z5,z6]
 have hlen:∀ o,B6 .len [lcs cs,o] [.ref 0]=some (vi cs.length):=fun o=>(Q9 rfl).trans (by rw [AAB])
 refine G9 (l:=cs.zipIdx) (kps:=[(0,(cs.map Ch.data).map V.d)]) (fun p=>V.d (.tuple [.int (p.2:Int),Ch.data p.1])) (fun p ρ σ=>∃ fs:List (List Nat),fs.Sublist (p.map (·.1.1))/\(∃ L z4 z5 z6,ρ=K L z4 z5 z6)/\σ=[lcs cs,.list (fs.map vs)]) ?_ ?_ (fun _ _=>.inr ⟨_,rfl,rfl⟩) ⟨[],.refl _,⟨_,none,none,none,rfl⟩,rfl⟩ ?_ ?_
 ·show (N6 [lcs cs,.list []] (.ref 0)).bind (fun ds=>some (GT 0 ds,Dd (.ref 0) (ds.map .d)))=_
  rw [OR (l:=cs) (d:=Ch.data) rfl,bs,R4,List.zipIdx_map,AAE]
  rfl
 ·rintro p ρ σ ⟨fs,_,_,rfl⟩ k ws hk
  obtain ⟨rfl,rfl⟩:=ABK (AAJ.mp hk)
  rw [AAE]; rfl
 ·rintro p ⟨ch,i⟩ q ρ σ hp ⟨fs,g1,⟨L,z4,z5,z6,rfl⟩,rfl⟩
  have hfl:fs.length < 100:=by
   have h1:=g1.length_le
   have h2:=congrArg List.length hp
   simp at h1 h2; omega
  show Af C _ _ (K L (some (vi i)) (some (vc ch)) z6) [lcs cs,.list (fs.map vs)]
  have h3:=AN c (j:=3) (by decide)
  refine Az (v:=vb (decide ((i:Int)=cs.length-1)&&decide (c.fmod 7=3))) (Og (Eb rfl (Ai (AI (A0 rfl) (hlen _)) rfl rfl) BB) fun _=>Eb (Ai rfl rfl (AJ (by decide))) rfl BB) ?_
  generalize (decide ((i:Int)=cs.length-1)&&decide (c.fmod 7=3))=last
  refine Df (M:=fun ρ σ=>∃ fs':List (List Nat),fs'.Sublist ((p++[(ch,i)]).map (·.1.1))/\ρ=K L (some (vi i)) (some (vc ch)) (some (vb last))/\σ=[lcs cs,.list (fs'.map vs)]) ?_ ?_
  ·refine A8 (t:=last||(decide (L.fmod (2+c.fmod 3)=0)&&(decide ((cs.length:Int) < 20)||decide ((i:Int).fmod 7=(L.fdiv 4).fmod 7))))
    (Dv rfl fun _=>Cr (Aq (Ai rfl (Ai rfl (Ai rfl rfl (AJ (by decide))) rfl) (AJ (by omega))) rfl BB) fun _=>Dv (Aq (AI (A0 rfl) (hlen _)) rfl MN) fun _=>Aq (Ai rfl rfl (AJ (by decide))) (Ai (Ai rfl rfl (Cy (by decide))) rfl (AJ (by decide))) BB) (fun _=>?_) (fun _=>?_)
   ·refine AU (k:=1) (y:=vs ch.1) rfl (A0 (Ag rfl rfl (AL ch))) rfl (by rw [AAB]; exact ABT hfl (by decide)) (Ad (Ad ⟨_,rfl,fs++[ch.1],?_,rfl,?_⟩))
    ·rw [AAQ]; exact g1.append (.refl _)
    ·rw [AAQ]; rfl
   ·exact Ad (Ad ⟨_,rfl,fs,by rw [AAQ]; exact g1.trans (List.sublist_append_left _ _),rfl,rfl⟩)
  rintro _ _ ⟨fs',k1,rfl,rfl⟩
  refine Az (v:=vi (L.fdiv 3)) (Ai rfl rfl (Cy (by decide))) ?_
  refine A8 (t:=decide (L.fdiv 3 < 100)) rfl (fun _=>?_) (fun _=>?_)
  ·exact Az (v:=vi (BC c ((i:Int)+2))) (El (AY rfl rfl) (hm _ _ _)) (Ad (Ad ⟨_,rfl,fs',k1,⟨_,_,_,_,rfl⟩,rfl⟩))
  ·exact Ad (Ad ⟨_,rfl,fs',k1,⟨_,_,_,_,rfl⟩,rfl⟩)
 ·rintro ρ σ ⟨fs,g1,⟨L,z4,z5,z6,rfl⟩,rfl⟩
  have g2:fs.Sublist (cs.map (·.1)):=by rw [<-NM cs 0]; exact g1
  have hl:=g2.length_le
  rw [AAB] at hl
  exact A3 (v:=.d (dl (Aj fs))) (AI (A0 rfl) (CO (x:=.ref 1) (N4 rfl) (by omega))) ⟨fs,g2,rfl,rfl⟩
theorem UY (cs:List Ch):∀ (k:Nat) o,([lcs cs]:Aa)[k]? = some o->E2 1 o:=fun k o e=>by
 cases k with
 | zero =>
  rw [<-AAA (show some (lcs cs)=some o from e)]
  intro v hv
  obtain ⟨c,_,rfl⟩:=AAP.mp hv
  exact trivial
 | succ k=>exact Ac e
theorem Rn {τ:Aa} (c:Int) (cs:List Ch) (hcs:cs.length<=60):∃ fs:List (List Nat),fs.Sublist (cs.map (·.1))/\FN 3 13 [vi c,.ref 0] (lcs cs::τ) (.d (dl (Aj fs))) (lcs cs::τ):=by
 obtain ⟨v,σ',⟨fs,k1,k2,k3⟩,h⟩:=FN.ends (C:=C1 2 (AAL _)) (f:=13) (fn:=K2) (zs:=[vi c,.ref 0]) (σ:=[lcs cs]) (R:=fun v σ'=>∃ fs:List (List Nat),fs.Sublist (cs.map (·.1))/\v=.d (dl (Aj fs))/\σ'=[lcs cs,.list (fs.map vs)]) (by unfold Pg; rfl) rfl (show 1<=2 by decide) (OG (fun _ _ _=>rfl) c cs hcs)
 rw [k2,k3] at h
 exact ⟨fs,k1,FN.tail (σ:=[lcs cs]) (σ':=[lcs cs]) (FN.seal (σ:=[lcs cs]) (τ:=[.list (fs.map vs)]) h rfl) rfl (all_cons (Cm _ _) (all_cons (show 0 < 1 by decide) A9)) (UY cs)⟩
end Mine
namespace Mine
open PySem
structure GenCh (c:Ch):Prop where
 name:Bg c.1=true
 few:c.2.1.length<=60
 rise:c.2.1.Pairwise (· < ·)
 deeds:c.2.2.length<=20
 ok:∀ d∈c.2.2,CB d
theorem La (pre:List Ch) (c:Ch) (ls:List (List Nat)):Dc (pre++[c]) ls=Dc pre ls++(if c.1∈ls then FH c.1 0 (adds c.2.2) else []):=by
 unfold Dc
 rw [ABN,List.flatMap_append]
 congr 1
 by_cases h:c.1∈ls
 ·rw [if_pos h,List.filter_cons_of_pos (by exact AAI h)]; simp
 ·rw [if_neg h,List.filter_cons_of_neg (by simpa using h)]; rfl
theorem BE.snoc {cs:List Ch} {c:Ch} (H:BE cs) (hn:c.1∉cs.map (·.1)) (hl:∀ l∈c.2.1,l∈cs.map (·.1)) (hd:DOk c.1 (Dc cs c.2.1) c.2.2 0):BE (cs++[c]):=by
 refine ⟨?_,fun pre x post e=>?_⟩
 ·rw [AAQ,ABW]
  refine ⟨H.nd,by simp,fun a ha b hb e=>hn ?_⟩
  have:b=c.1:=by simpa using hb
  rw [<-this,<-e]; exact ha
 ·rcases List.eq_nil_or_concat post with rfl | ⟨post',y,rfl⟩
  ·have e':cs++[c]=pre++[x]:=e
   obtain ⟨rfl,e2⟩:=List.append_inj' e' rfl
   cases e2
   exact ⟨hl,hd⟩
  ·have e':cs++[c]=(pre++x::post')++[y]:=by rw [e]; simp
   obtain ⟨e1,_⟩:=List.append_inj' e' rfl
   exact H.ok _ _ _ e1
theorem Vh:ACB "0" = Tx [48]:=by decide +kernel
theorem O0:Bg [48]=true:=by decide
noncomputable abbrev scD (ns:List Int):PyData:=.list (ns.map .int)
theorem Mh {σ:Aa} {ns:List Int} (i:Int) (h0:0<=i) (h:i < ns.length) (hn:ns.length<=1000):Bp (.d (scD ns)) (vi i) σ=some (vi (ns.getD i.toNat 0)):=by
 have hi:i.toNat < ns.length:=by omega
 refine Ec i h0 (by omega) ?_
 rw [ABI,AAN hi]
 show some (PyData.int ns[i.toNat])=some (.int (ns.getD i.toNat 0))
 rw [List.getD_eq_getElem?_getD,AAN hi]; rfl
noncomputable abbrev ltk (cs:List Ch):O:=.list (([48]::cs.map (·.1)).map vs)
noncomputable def RH:S:=match EF.body with | .cons _ (.cons _ (.cons (.for_ _ _ b) _))=>b | _=>.nil
theorem JH {C:Cfg} (hn:3<=C.n) (ns:List Int) (most k:Int) (hns:ns.length<=1000) (h0:0<=k) (hk:4 * (k+1)<=ns.length) (cs:List Ch) (hcs:cs.length < 60) (hg:∀ c∈cs,GenCh c) (hok:BE cs) (hnd:([48]::cs.map (·.1)).Nodup) (z5 z6 z7 z8 z9:Option V) :
 Af C (fun fl σ'=>∃ ρ',fl=.next ρ'/\∃ (c:Ch) (z5 z6 z7 z8 z9:Option V),GenCh c/\BE (cs++[c])/\([48]::(cs++[c]).map (·.1)).Nodup/\ρ'=[some (.d (scD ns)),some (vi most),some (.ref 0),some (.ref 1),some (vi k),z5,z6,z7,z8,z9]/\σ'=[lcs (cs++[c]),ltk (cs++[c])])
  RH [some (.d (scD ns)),some (vi most),some (.ref 0),some (.ref 1),some (vi k),z5,z6,z7,z8,z9] [lcs cs,ltk cs]:=by
 have hnm:∀ x∈([48]::cs.map (·.1)),Bg x=true:=by
  intro x hx
  rcases AAR.mp hx with rfl | hx
  ·exact O0
  ·obtain ⟨c,hc,rfl⟩:=AAP.mp hx
   exact (hg c hc).name
 have m4:∀ {e σ z5 z6 z7 z8 z9},(ev C.O (.bin .Mult (.cst (.int 4)) (.var 4))).v [some (.d (scD ns)),some (vi most),some (.ref 0),some (.ref 1),some (vi k),z5,z6,z7,z8,z9] σ=e ↔ some (vi (4 * k))=e:=by
  intro e σ z5 z6 z7 z8 z9
  rw [Ai rfl rfl (GW (sm4 k))]
 have cell:∀ (j:Int) {σ z5 z6 z7 z8 z9},0<=j->j < 4->(ev C.O (.sub (.var 0) (.bin .Add (.bin .Mult (.cst (.int 4)) (.var 4)) (.cst (.int j))))).v [some (.d (scD ns)),some (vi most),some (.ref 0),some (.ref 1),some (vi k),z5,z6,z7,z8,z9] σ=some (vi (ns.getD (4 * k+j).toNat 0)):=fun j {σ z5 z6 z7 z8 z9} j0 j4 =>
  Ag rfl (Ai (m4.mpr rfl) rfl rfl) (Mh (4 * k+j) (by omega) (by omega) hns)
 obtain ⟨t,t1,t2,t3⟩:=T5 (σ:=[lcs cs,ltk cs]) (x:=.ref 1) (ns.getD (4 * k).toNat 0) ([48]::cs.map (·.1)) (N4 rfl) hnm (by rw [AA2,AAB]; omega)
 refine AA (v:=vs t) rfl (.fcall ((Ae C.ok _).row (AY (Ag rfl (m4.mpr rfl) (Mh (4 * k) (by omega) (by omega) hns)) rfl)) (t3.more hn)) ?_
 refine AU (k:=1) (y:=vs t) rfl rfl rfl (by rw [AAB,AA2,AAB]; exact ABT (Nat.succ_lt_succ hcs) (by decide)) ?_
 obtain ⟨fs,f1,f2⟩:=Rn (τ:=[.list (([48]::cs.map (·.1)).map vs++[vs t])]) (ns.getD (4 * k+1).toNat 0) cs (Nat.le_of_lt hcs)
 refine AA (v:=.d (dl (Aj fs))) rfl (.fcall ((Ae C.ok _).row (AY (cell 1 (by decide) (by decide)) rfl)) (f2.more hn)) ?_
 refine Az (v:=.d (.list [])) rfl ?_
 have hfl:(Aj fs).length<=60:=by
  rw [(An fs).length_eq]
  have:=f1.length_le
  rw [AAB] at this; omega
 refine G9 (l:=cs) (kps:=[(0,cs.map vc)]) vc (fun pre ρ σ=>(∃ ms,ms=Dc pre (Aj fs)/\ms.length<=20 * pre.length/\∃ z8,ρ=[some (.d (scD ns)),some (vi most),some (.ref 0),some (.ref 1),some (vi k),some (vs t),some (.d (dl (Aj fs))),some (.d (dms ms)),z8,z9])/\σ=[lcs cs,.list (([48]::cs.map (·.1)).map vs++[vs t])]) rfl ?_ (fun _ _=>.inl rfl) ⟨⟨[],rfl,ABF _,_,rfl⟩,rfl⟩ ?_ ?_
 ·rintro p ρ σ ⟨_,rfl⟩ k ws hk
  obtain ⟨rfl,rfl⟩:=ABK (AAJ.mp hk)
  rfl
 ·rintro p c q ρ σ hp ⟨⟨ms,m1,m2,z8,rfl⟩,rfl⟩
  have hc:GenCh c:=hg c (by rw [hp]; simp)
  have hpl:p.length < 60:=by have:=congrArg List.length hp; simp at this; omega
  have hsn:=La p c (Aj fs)
  have hjd:=Hv c.2.2
  have hcd:=hc.deeds
  refine A8 (t:=decide (c.1∈Aj fs)) (Aq (Ag rfl rfl (AL c)) rfl (BU _ _)) (fun h=>?_) (fun h=>?_)
  ·have h:=AAG h
   refine AA (v:=.d (dms (ms++FH c.1 0 (adds c.2.2)))) rfl (GA (ws:=((ms++FH c.1 0 (adds c.2.2)).map fun m=>A1 (some m)).map V.d) (.bin ((Ae C.ok (.var 7)).v rfl) (.fcall ((Ae C.ok _).row (A0 rfl)) ((Rm c (by omega)).more (AAC (by decide) hn))) (Kr ?_)) (HV _ ?_)) (Ad (Ad ⟨_,rfl,⟨_,by rw [hsn,if_pos h,m1],?_,_,rfl⟩,rfl⟩))
   ·show (if _ then _ else _)=_
    rw [if_pos (by simp [line,EL]; omega)]
    simp [AAQ]
   ·simp [line,EL]; omega
   ·simp [EL]; omega
  ·exact Ad (Ad ⟨_,rfl,⟨ms,by rw [hsn,if_neg (ABG h),AAV]; exact m1,by rw [AAF]; omega,_,rfl⟩,rfl⟩)
 rintro _ _ ⟨⟨ms,m1,m2,z8,rfl⟩,rfl⟩
 have h5:=AN (ns.getD (4 * k+3).toNat 0) (j:=5) (by decide)
 refine Az (v:=vi ((ns.getD (4 * k+3).toNat 0).fmod 5)) (Ai (cell 3 (by decide) (by decide)) rfl (AJ (by decide))) ?_
 refine Df (M:=fun ρ σ=>(∃ m:Int,0<=m/\m<=20/\ρ=[some (.d (scD ns)),some (vi most),some (.ref 0),some (.ref 1),some (vi k),some (vs t),some (.d (dl (Aj fs))),some (.d (dms ms)),z8,some (vi m)])/\σ=[lcs cs,.list (([48]::cs.map (·.1)).map vs++[vs t])]) ?_ ?_
 ·refine A8 (t:=decide (((ns.getD (4 * k+3).toNat 0).fdiv 5).fmod 16=1)) (Aq (Ai (Ai (cell 3 (by decide) (by decide)) rfl (Cy (by decide))) rfl (AJ (by decide))) rfl BB) (fun h=>?_) (fun h=>?_)
  ·have h16:=AN ((ns.getD (4 * k+3).toNat 0).fdiv 80) (j:=16) (by decide)
   exact Az (v:=vi (20-((ns.getD (4 * k+3).toNat 0).fdiv 80).fmod 16)) (Ai rfl (Ai (Ai (cell 3 (by decide) (by decide)) rfl (Cy (by decide))) rfl (AJ (by decide))) rfl) (Ad (Ad ⟨_,rfl,⟨_,by omega,by omega,rfl⟩,rfl⟩))
  ·exact Ad (Ad ⟨_,rfl,⟨_,h5.1,by omega,rfl⟩,rfl⟩)
 rintro _ _ ⟨⟨m,hm0,hm1,rfl⟩,rfl⟩
 obtain ⟨ds,d1,d2,d3,d4⟩:=Rp t (ns.getD (4 * k+2).toNat 0) m ms hm0 (by omega) (by omega)
 refine BA (v:=AO) (σ':=[.list (cs.map vc++[vc (t,Aj fs,ds)]),.list (([48]::cs.map (·.1)).map vs++[vs t])]) rfl (.lmeth (k:=0) (ws:=cs.map vc) Ay slot_list_append type_list_append ((Ae C.ok (.var 2)).v rfl) (.cons (.tup (ds:=[.str (Tx t),dl (Aj fs),dds ds]) (.cons ((Ae C.ok (.var 5)).v rfl) (.cons ((Ae C.ok (.var 6)).v rfl) (.cons (.fcall ((Ae C.ok _).row (Oe rfl (Ko (cell 2 (by decide) (by decide)) rfl rfl))) ((d4 _).more hn)) .nil))) (show 3<=line by decide)) .nil) rfl rfl (KW (by rw [AAB]; exact ABT hcs (by decide)))) ?_
 have hfn:∀ l∈Aj fs,l∈cs.map (·.1):=fun l hl=>f1.subset ((An fs).mem_iff.mp hl)
 have hcn:t∉cs.map (·.1):=fun h=>t2 (.tail _ h)
 refine Ad ⟨_,rfl,(t,Aj fs,ds),some (vs t),some (.d (dl (Aj fs))),some (.d (dms ms)),z8,some (vi m),⟨t1,hfl,BM fs (f1.nodup hok.nd),by rw [d1]; omega,d3⟩,hok.snoc hcn hfn (m1▸d2),?_,rfl,?_⟩
 ·have:[48]::(cs++[(t,Aj fs,ds)]).map (·.1)=([48]::cs.map (·.1))++[t]:=by simp
  rw [this,ABW]
  exact ⟨hnd,by simp,fun a ha b hb e=>t2 (by rw [<-AAJ.mp hb,<-e]; exact ha)⟩
 ·simp [lcs,ltk,AAQ]
theorem X2 (m:Nat) (most:Int) (hm:m<=1000) (h0:0<=most) (h1:most<=60):0<=(if most < (m:Int).fdiv 4 then most else (m:Int).fdiv 4)/\(if most < (m:Int).fdiv 4 then most else (m:Int).fdiv 4)<=most/\4 * (if most < (m:Int).fdiv 4 then most else (m:Int).fdiv 4)<=m:=by
 rw [Int.fdiv_eq_ediv_of_nonneg _ (by decide)]
 split <;> omega
theorem KJ {C:Cfg} (hn:3<=C.n) (ns:List Int) (most:Int) (hns:ns.length<=1000) (h0:0<=most) (h1:most<=60) :
 Af C (fun fl σ'=>∃ cs:List Ch,(cs.length:Int)<=most/\(∀ c∈cs,GenCh c)/\BE cs/\[48]∉cs.map (·.1)/\Hi fl=.ref 0/\σ'=[lcs cs,ltk cs]) EF.body (B3 EF [.d (scD ns),vi most]) []:=by
 show Af C _ (.cons _ (.cons _ (.cons (.for_ [4] _ RH) _))) [some (.d (scD ns)),some (vi most),none,none,none,none,none,none,none,none] []
 refine Bu (ws:=[]) rfl ?_
 refine Bu (ws:=[vs [48]]) (by show (ev C.O (.lst _)).nl _ _=_; exact congrArg (fun s=>some [V.d (.str s)]) Vh) ?_
 obtain ⟨m0,m1,m2⟩:=X2 ns.length most hns h0 h1
 have hr:(ev C.O (.cons (.bi .min (.cons (.bin .FloorDiv (.bi .len (.cons (.var 0) .nil)) (.cst (.int 4))) (.cons (.var 1) .nil))) .nil)).row [some (.d (scD ns)),some (vi most),some (.ref 0),some (.ref 1),none,none,none,none,none,none] [.list [],.list [vs [48]]]=some [vi (if most < (ns.length:Int).fdiv 4 then most else (ns.length:Int).fdiv 4)] :=
  A0 (AI (AY (Ai (AI (A0 rfl) (BZ.trans (by rw [AAB]))) rfl (Cy (by decide))) rfl) rfl)
 generalize (if most < (ns.length:Int).fdiv 4 then most else (ns.length:Int).fdiv 4)=m at m0 m1 m2 hr
 refine AS (l:=List.range m.toNat) (fun j:Nat=>vi (j:Int)) (fun pre ρ σ=>∃ cs:List Ch,cs.length=pre.length/\(∀ c∈cs,GenCh c)/\BE cs/\([48]::cs.map (·.1)).Nodup/\(∃ z4 z5 z6 z7 z8 z9,ρ=[some (.d (scD ns)),some (vi most),some (.ref 0),some (.ref 1),z4,z5,z6,z7,z8,z9])/\σ=[lcs cs,ltk cs])
  (Li hr (by omega) (by omega)) ⟨[],rfl,(fun c h=>nomatch h),⟨ABY,fun pre c post e=>by simp at e⟩,by simp,⟨none,none,none,none,none,none,rfl⟩,rfl⟩ ?_ ?_
 ·rintro p j q ρ σ hp ⟨cs,g0,g1,g2,g3,⟨z4,z5,z6,z7,z8,z9,rfl⟩,rfl⟩
  have hj:j < m.toNat:=by
   have:j∈List.range m.toNat:=by rw [hp]; simp
   exact ABZ.mp this
  have hl:p.length < 60:=by
   have:=congrArg List.length hp
   simp at this; omega
  refine (JH hn ns most (j:Int) hns (AB6 _) (by omega) cs (by omega) g1 g2 g3 z5 z6 z7 z8 z9).mono fun fl σ' h=>?_
  obtain ⟨ρ',e,c,y5,y6,y7,y8,y9,k1,k2,k3,k4,k5⟩:=h
  refine ⟨ρ',e,cs++[c],by rw [AAF,AAF,g0]; rfl,fun x hx=>?_,k2,k3,⟨_,_,_,_,_,_,k4⟩,k5⟩
  rcases AA0.mp hx with hx | hx
  ·exact g1 x hx
  ·rw [AAJ.mp hx]; exact k1
 ·rintro ρ σ ⟨cs,g0,g1,g2,g3,⟨z4,z5,z6,z7,z8,z9,rfl⟩,rfl⟩
  refine A3 (v:=.ref 0) rfl ⟨cs,?_,g1,g2,(ABX.mp g3).1,rfl,rfl⟩
  rw [ABV] at g0; omega
theorem ME (ns:List Int) (most:Int) (hns:ns.length<=1000) (h0:0<=most) (h1:most<=60):∃ cs:List Ch,(cs.length:Int)<=most/\(∀ c∈cs,GenCh c)/\BE cs/\[48]∉cs.map (·.1)/\∀ σ,FN 4 16 [.d (scD ns),vi most] σ (.d (.list (cs.map Ch.data))) σ:=by
 obtain ⟨v,σ',⟨cs,k1,k2,k3,k6,k4,k5⟩,h⟩:=FN.ends (C:=C0 3) (f:=16) (fn:=EF) (zs:=[.d (scD ns),vi most]) (σ:=[]) (R:=fun v σ'=>∃ cs:List Ch,(cs.length:Int)<=most/\(∀ c∈cs,GenCh c)/\BE cs/\[48]∉cs.map (·.1)/\v=.ref 0/\σ'=[lcs cs,ltk cs]) (by unfold Pg; rfl) rfl (show 1<=3 by decide) (KJ (AAL _) ns most hns h0 h1)
 rw [k4,k5] at h
 exact ⟨cs,k1,k2,k3,k6,fun σ=>(FN.seal (σ:=[]) (d:=.list (cs.map Ch.data)) h ⟨_,rfl,ABF _,by rw [AAE]; rfl⟩).any (all_cons (Cm _ _) (all_cons (Cm _ _) A9))⟩
end Mine
namespace Mine
open PySem
theorem Fq {σ:Aa} {i j:Int}:B5 .NotEq (vi i) (vi j) σ=some (!decide (i=j)):=by
 show HS (B5 .Eq (vi i) (vi j) σ)=_
 rw [BB]; rfl
noncomputable abbrev N7 (ns:List Int):O:=.list (ns.map vi)
theorem Q8 {σ:Aa} (ns:List Int):B6 .len σ [.d (scD ns)]=some (vi ns.length):=BZ.trans (by rw [AAB])
theorem PO {C:Cfg} (hm:∀ c k σ,C.O 10 [vi c,vi k] σ=some (vi (BC c k))) (ns:List Int) (flag:Int) (hns:ns.length<=1000) :
 Af C (fun fl σ'=>∃ ns':List Int,ns'.length<=1000/\((Hi fl=.d (scD ns')/\σ'=[])\/(Hi fl=.ref 0/\σ'=[N7 ns']))) Ou.body (B3 Ou [.d (scD ns),vi flag,vi 10]) []:=by
 show Af C _ _ [some (.d (scD ns)),some (vi flag),some (vi 10),none,none] []
 refine A8 (t:=decide ((ns.length:Int) < 4) || !decide (flag.fmod 12=5)) (Dv (Aq (AI (A0 rfl) (Q8 ns)) rfl MN) fun _=>Aq (Ai rfl rfl (AJ (by decide))) rfl Fq) (fun h=>?_) (fun h=>Ad ?_)
 ·exact A3 (v:=.d (scD ns)) rfl ⟨ns,hns,.inl ⟨rfl,rfl⟩⟩
 ·have h4:=ABG (Bool.or_eq_false_iff.mp h).1
  refine Bu (ws:=[]) rfl ?_
  have hq:=AN (flag.fdiv 12) (j:=51) (by decide)
  refine AS (l:=List.range (4 * (10+(flag.fdiv 12).fmod 51)).toNat) (fun j:Nat=>vi (j:Int)) (fun p ρ σ=>∃ ns':List Int,ns'.length=p.length/\(∃ z,ρ=[some (.d (scD ns)),some (vi flag),some (vi 10),some (.ref 0),z])/\σ=[N7 ns'])
   (Li (A0 (Ai rfl (Ai rfl (Ai (y:=vi 51) (Ai rfl rfl (Cy (by decide))) rfl (AJ (by decide))) rfl) (GW (sm4 _)))) (by omega) (by omega)) ⟨[],rfl,⟨none,rfl⟩,rfl⟩ ?_ ?_
  ·rintro p j q ρ σ hp ⟨ns',g0,⟨z,rfl⟩,rfl⟩
   have hj:p.length=j/\j < 244:=by
    have h1:(List.range (4 * (10+(flag.fdiv 12).fmod 51)).toNat)[p.length]? = some j:=by rw [hp]; simp
    obtain ⟨h2,h3⟩:=AAM.mp h1
    rw [List.getElem_range] at h3
    rw [ABV] at h2
    omega
   have hi:=AN (j:Int) (j:=(ns.length:Int)) (by omega)
   refine AU (k:=0) (y:=vi (BC (ns.getD ((j:Int).fmod ns.length).toNat 0) j)) rfl (A0 (El (AY (Ag rfl (Ai rfl (AI (A0 rfl) (Q8 ns)) (AJ (by omega))) (Mh _ hi.1 hi.2 hns)) rfl) (hm _ _ _))) rfl (by rw [AAB,g0,hj.1]; exact ABT hj.2 (by decide)) ?_
   generalize BC (ns.getD ((j:Int).fmod ns.length).toNat 0) j=M
   have hx:(ns'.map vi++[vi M])[(j:Int).toNat]? = some (vi M):=by
    rw [Int.toNat_natCast,AA6 (by rw [AAB,g0,hj.1]; exact AAL _),AAB,g0,hj.1,Nat.sub_self]; rfl
   refine A8 (t:=decide ((j:Int).fmod 4=1)&&decide ((flag.fdiv 12).fmod 2=1)) (Cr (Aq (Ai rfl rfl (AJ (by decide))) rfl BB) fun _=>Aq (Ai (Ai rfl rfl (Cy (by decide))) rfl (AJ (by decide))) rfl BB) (fun h=>?_) (fun h=>?_)
   ·refine Tt (k:=0) (j:=(j:Int)) (z:=vi (M.fdiv 7 * 7+3)) (Ai (Ai (Ai (Ag rfl rfl (V8 (j:Int) (by omega) (by omega) rfl hx)) rfl (Cy (by decide))) rfl (GW (smr (by decide) (by decide)))) rfl rfl) rfl rfl rfl (by omega) (by rw [AAF,AAB,g0,hj.1]; show (j:Int) < ((j+1:Nat):Int); omega) (Ad (Ad ⟨_,rfl,ns'++[M.fdiv 7 * 7+3],by rw [AAF,AAF,g0]; rfl,⟨_,rfl⟩,?_⟩))
    show [O.list ((ns'.map vi++[vi M]).set (j:Int).toNat (vi (M.fdiv 7 * 7+3)))]=_
    rw [Int.toNat_natCast,List.set_append_right _ _ (by rw [AAB,g0,hj.1]; exact AAL _),AAB,g0,hj.1,Nat.sub_self,N7,AAQ]; rfl
   ·exact Ad (Ad ⟨_,rfl,ns'++[M],by rw [AAF,AAF,g0]; rfl,⟨_,rfl⟩,by show _=[O.list ((ns'++[M]).map vi)]; rw [AAQ]; rfl⟩)
  ·rintro ρ σ ⟨ns',g0,⟨z,rfl⟩,rfl⟩
   exact A3 (v:=.ref 0) rfl ⟨ns',by rw [g0,ABV]; omega,.inr ⟨rfl,rfl⟩⟩
theorem T2 (ns:List Int) (flag:Int) (hns:ns.length<=1000):∃ ns':List Int,ns'.length<=1000/\∀ σ,FN 3 33 [.d (scD ns),vi flag,vi 10] σ (.d (scD ns')) σ:=by
 obtain ⟨v,σ',⟨ns',k1,k2⟩,h⟩:=FN.ends (C:=C1 2 (AAL _)) (f:=33) (fn:=Ou) (zs:=[.d (scD ns),vi flag,vi 10]) (σ:=[]) (R:=fun v σ'=>∃ ns':List Int,ns'.length<=1000/\((v=.d (scD ns')/\σ'=[])\/(v=.ref 0/\σ'=[N7 ns']))) (by unfold Pg; rfl) rfl (show 1<=2 by decide) (PO (fun _ _ _=>rfl) ns flag hns)
 refine ⟨ns',k1,fun σ=>?_⟩
 refine FN.any (d:=scD ns') ?_ (all_cons (Cm _ _) (all_cons (Cm _ _) (all_cons (Cm _ _) A9)))
 rcases k2 with ⟨k2,k3⟩ | ⟨k2,k3⟩
 ·rw [k2,k3] at h; exact h
 ·rw [k2,k3] at h
  exact FN.seal (σ:=[]) h ⟨_,rfl,ABF _,by rw [AAE]; rfl⟩
theorem Fs {σ:Aa} {l:List PyData} (h:l.length<=line):B6 .list σ [.d (.list l)]=some (.d (.list l)):=HV l h
theorem NU {σ:Aa} (c:Ch) (hc:c.2.1.length<=line) (hd:c.2.2.length<=line):FN 2 17 [vc c] σ (vc c) σ:=by
 exact FN.same (C:=C0 1) (fn:=Uv) (by unfold Pg; rfl) rfl (AAL _)
  (A3 (v:=vc c) (Cv (Ko (Ag rfl rfl (AL c)) (AI (A0 (Ag rfl rfl (CC c))) (Fs (by rw [AAB]; exact hc))) (AI (A0 (Ag rfl rfl (Cj c))) (Fs (by rw [AAB]; exact hd)))) rfl) ⟨rfl,rfl⟩)
end Mine
namespace Mine
open PySem
theorem EQ (n:Nat) (a b:List Nat):eqN n (.str (Tx a)) (.str (Tx b))=some (decide (a=b)):=by
 rw [<-Kv]
 cases n <;> rfl
theorem TF (n:Nat) (a b:Int):eqN n (.int a) (.int b)=some (decide (a=b)):=by
 have h:(a == b)=decide (a=b):=by
  by_cases e:a=b
  ·rw [AAI e,beq_iff_eq.mpr e]
  ·rw [AAT e,beq_eq_false_iff_ne.mpr e]
 rw [<-h]
 cases n <;> rfl
def EqT {α:Type} (f:PyData->PyData->Option Bool) (g:α->PyData):Prop:=∀ a b,∃ r,f (g a) (g b)=some r/\(a=b->r=true)
theorem NZ {α:Type} {f:PyData->PyData->Option Bool} {g:α->PyData} (h:EqT f g):∀ l l':List α,∃ r,Dg f (l.map g) (l'.map g)=some r/\(l=l'->r=true)
 | [],[]=>⟨true,rfl,fun _=>rfl⟩
 | [],_::_=>⟨false,rfl,fun e=>nomatch e⟩
 | _::_,[]=>⟨false,rfl,fun e=>nomatch e⟩
 | a::l,b::l'=>by
  obtain ⟨r,h1,h2⟩:=h a b
  obtain ⟨r',h3,h4⟩:=NZ h l l'
  refine ⟨r&&r',?_,fun e=>?_⟩
  ·show (f (g a) (g b)).bind _=_
   rw [h1,bs,h3]; rfl
  ·obtain ⟨e1,e2⟩:=List.cons.inj e
   rw [h2 e1,h4 e2]; rfl
theorem Iz {α:Type} {n:Nat} {g:α->PyData} (h:EqT (eqN n) g):EqT (eqN (n+1)) fun l:List α=>.list (l.map g):=fun l l'=>by
 show ∃ r,(if (l.map g).length=(l'.map g).length then Dg (eqN n) (l.map g) (l'.map g) else some false)=some r/\_
 obtain ⟨r,h1,h2⟩:=NZ h l l'
 by_cases e:(l.map g).length=(l'.map g).length
 ·rw [if_pos e]; exact ⟨r,h1,h2⟩
 ·rw [if_neg e]; exact ⟨false,rfl,fun q=>absurd (congrArg (fun l=>(l.map g).length) q) e⟩
theorem NY (n:Nat):EqT (eqN n) fun t:List Nat=>.str (Tx t):=fun a b=>⟨_,EQ n a b,fun e=>AAI e⟩
theorem GC (n:Nat) (a b:Mk):eqN (n+1) (A1 (some a)) (A1 (some b))=some (decide (a=b)):=by
 show (eqN n (.str (Tx a.1)) (.str (Tx b.1))).bind (fun x=>((eqN n (.int a.2) (.int b.2)).bind fun y=>(some true).bind fun z=>some (y&&z)).bind fun y=>some (x&&y))=_
 rw [EQ,TF]
 show some (decide (a.1=b.1)&&(decide (a.2=b.2)&&true))=_
 congr 1
 rw [Bool.and_true,<-Bool.decide_and]
 exact decide_eq_decide.mpr Prod.ext_iff.symm
theorem Rx (n:Nat):EqT (eqN (n+1)) A1:=fun a b=>by
 cases a with
 | none=>cases b with
  | none=>exact ⟨true,rfl,fun _=>rfl⟩
  | some b=>exact ⟨false,rfl,fun e=>nomatch e⟩
 | some a=>cases b with
  | none=>exact ⟨false,rfl,fun e=>nomatch e⟩
  | some b=>exact ⟨_,GC n a b,fun e=>AAI (AAA e)⟩
theorem Ry (n:Nat):EqT (eqN (n+2)) AH.data:=fun a b=>by
 obtain ⟨r,h1,h2⟩:=Rx n a.mark b.mark
 have key:∀ (x y:List PyData) (r':Bool),Dg (eqN (n+1)) x y=some r'->eqN (n+2) (.tuple (.str (Tx a.word)::A1 a.mark::x)) (.tuple (.str (Tx b.word)::A1 b.mark::y))=some (decide (a.word=b.word)&&(r&&r')):=fun x y r' e=>by
  show (eqN (n+1) (.str (Tx a.word)) (.str (Tx b.word))).bind (fun p=>((eqN (n+1) (A1 a.mark) (A1 b.mark)).bind fun q=>(Dg (eqN (n+1)) x y).bind fun z=>some (q&&z)).bind fun q=>some (p&&q))=_
  rw [EQ,h1,e]; rfl
 unfold AH.data
 cases ha:a.text with
 | none=>cases hb:b.text with
  | none=>exact ⟨_,key [] [] true rfl,fun e=>by rw [AAI (congrArg AH.word e),h2 (congrArg AH.mark e)]; rfl⟩
  | some l=>exact ⟨_,key [] [_] false rfl,fun e=>by rw [e,hb] at ha; cases ha⟩
 | some k=>cases hb:b.text with
  | none=>exact ⟨_,key [_] [] false rfl,fun e=>by rw [e,hb] at ha; cases ha⟩
  | some l=>exact ⟨_,key [.str (Tx k)] [.str (Tx l)] (decide (k=l)&&true) (by
   show (eqN (n+1) (.str (Tx k)) (.str (Tx l))).bind (fun a=>(some true).bind fun b=>some (a&&b))=_
   rw [EQ]; rfl),fun e=>by
   rw [AAI (congrArg AH.word e),h2 (congrArg AH.mark e)]
   have:k=l:=by rw [e,hb] at ha; exact (AAA ha).symm
   rw [AAI this]; rfl⟩
theorem MI (a b:Ch):∃ r,eqN A6 (Ch.data a) (Ch.data b)=some r/\(a=b->r=true)/\(a.1≠b.1->r=false):=by
 obtain ⟨r,h1,h2⟩:=Iz (NY 38) a.2.1 b.2.1
 obtain ⟨r',h3,h4⟩:=Iz (Ry 36) a.2.2 b.2.2
 refine ⟨decide (a.1=b.1)&&(r&&(r'&&true)),?_,fun e=>?_,fun e=>?_⟩
 ·show (eqN 39 (.str (Tx a.1)) (.str (Tx b.1))).bind (fun p=>((eqN 39 (dl a.2.1) (dl b.2.1)).bind fun q=>((eqN 39 (dds a.2.2) (dds b.2.2)).bind fun u=>(some true).bind fun w=>some (u&&w)).bind fun u=>some (q&&u)).bind fun q=>some (p&&q))=_
  rw [EQ,h1,h3]; rfl
 ·rw [AAI (congrArg (·.1) e),h2 (congrArg (·.2.1) e),h4 (congrArg (·.2.2) e)]; rfl
 ·rw [AAT e]; rfl
theorem QU (c:Ch):∀ l:List Ch,∃ q,inD (Ch.data c) (l.map Ch.data)=some q
 | []=>⟨false,rfl⟩
 | a::l=>by
  obtain ⟨r,h1,_⟩:=MI a c
  obtain ⟨q,h2⟩:=QU c l
  exact ⟨r||q,by show (eqN A6 (Ch.data a) (Ch.data c)).bind _=_; rw [h1,bs,h2]; rfl⟩
noncomputable def oth (c:Ch) (l:List Ch):List Ch:=l.filter fun x=>!decide (x.1=c.1)
theorem Qd {c:Ch} {l:List Ch} (h:c.1∉l.map (·.1)):oth c (c::l)=l:=by
 unfold oth
 rw [List.filter_cons_of_neg (by simp)]
 refine List.filter_eq_self.mpr fun x hx=>?_
 have:x.1≠c.1:=fun q=>h (by rw [<-q]; exact AAZ hx)
 simp [this]
theorem Qe {a c:Ch} {l:List Ch} (h:a.1≠c.1):oth c (a::l)=a::oth c l:=by
 unfold oth
 exact List.filter_cons_of_pos (by simp [h])
theorem Kb (c:Ch):∀ l:List Ch,c∈l->(l.map (·.1)).Nodup->(∃ j,FV (Ch.data c) (l.map Ch.data)=some j/\l.eraseIdx j=oth c l)/\(c::oth c l).Perm l
 | [],h,_=>nomatch h
 | a::l,h,nd=>by
  obtain ⟨r,h1,h2,h3⟩:=MI a c
  have nd':=ABX.mp nd
  by_cases e:a=c
  ·subst e
   have e2:=Qd (c:=a) nd'.1
   refine ⟨⟨0,?_,?_⟩,by rw [e2]⟩
   ·show (eqN A6 (Ch.data a) (Ch.data a)).bind _=_
    rw [h1,bs,h2 rfl]; rfl
   ·rw [e2]; rfl
  ·have hc:c∈l:=(AAR.mp h).resolve_left fun q=>e q.symm
   have hne:a.1≠c.1:=fun q=>nd'.1 (by show a.1∈l.map (·.1); rw [q]; exact AAZ hc)
   obtain ⟨⟨j,j1,j2⟩,j3⟩:=Kb c l hc nd'.2
   refine ⟨⟨j+1,?_,?_⟩,by rw [Qe hne]; exact (List.Perm.swap ..).trans (j3.cons a)⟩
   ·show (eqN A6 (Ch.data a) (Ch.data c)).bind _=_
    rw [h1,bs,h3 hne]
    show (FV (Ch.data c) (l.map Ch.data)).bind _=_
    rw [j1]; rfl
   ·rw [List.eraseIdx_cons_succ,j2,Qe hne]
theorem Py (bl:List Bool) (σ:Aa):B6 .all σ [.d (.list (bl.map .bool))]=some (vb (bl.all id)):=by
 have h:Ct Ei ((bl.map PyData.bool).map V.d)=some bl:=by
  induction bl with
  | nil=>rfl
  | cons a l ih=>show (Ct Ei ((l.map PyData.bool).map V.d)).bind _=_; rw [ih]; rfl
 show (Ct Ei ((bl.map PyData.bool).map V.d)).bind _=_
 rw [h]; rfl
def BR (cs:List Ch):Prop:=∀ pre c post,cs=pre++c::post->∀ l∈c.2.1,l∈pre.map (·.1)
theorem BR.snoc {cs:List Ch} {c:Ch} (h:BR cs) (hc:∀ l∈c.2.1,l∈cs.map (·.1)):BR (cs++[c]):=fun pre x post e=>by
 rcases List.eq_nil_or_concat post with rfl | ⟨post',y,rfl⟩
 ·have e':cs++[c]=pre++[x]:=e
  obtain ⟨rfl,e2⟩:=List.append_inj' e' rfl
  rw [<-(List.cons.inj e2).1]; exact hc
 ·have e':cs++[c]=(pre++x::post')++[y]:=by rw [e]; simp
  obtain ⟨e1,_⟩:=List.append_inj' e' rfl
  exact h _ _ _ e1
structure GH (cs L F:List Ch):Prop where
 sub:L.Sublist cs
 perm:(F++L).Perm cs
 topo:BR F
theorem GH.ready {cs:List Ch} (H:BE cs) {c:Ch} {L F:List Ch} (h:GH cs (c::L) F):∀ l∈c.2.1,l∈F.map (·.1):=fun l hl=>by
 have hc:c∈cs:=h.sub.subset (.head _)
 obtain ⟨pre,post,rfl⟩:=AB7 hc
 obtain ⟨x,hx,rfl⟩:=AAP.mp ((H.ok pre c post rfl).1 l hl)
 have nd:(pre++c::post).Nodup:=(List.pairwise_map.mp H.nd).imp fun h e=>h (congrArg (·.1) e)
 have nd':=ABW.mp nd
 rcases AA0.mp (h.perm.mem_iff.mpr (AAU _ hx)) with q | q
 ·exact AAZ q
 ·exfalso
  have hs:(c::L).Sublist (c::post):=by
   rcases List.sublist_append_iff.mp h.sub with ⟨l1,l2,e,s1,s2⟩
   cases l1 with
   | nil=>rw [show c::L=l2 from e]; exact s2
   | cons y l1 =>
    obtain ⟨e1,_⟩:=List.cons.inj (show c::L=y::(l1++l2) from e)
    exact absurd rfl (nd'.2.2 c (e1▸s1.subset (.head _)) c (.head _))
  exact nd'.2.2 x hx x (hs.subset q) rfl
theorem GH.take {cs L F:List Ch} (hn:(cs.map (·.1)).Nodup) (h:GH cs L F) {c:Ch} (hc:c∈L) (hl:∀ l∈c.2.1,l∈F.map (·.1)):GH cs (oth c L) (F++[c])/\(oth c L).length+1=L.length:=by
 have hp:=(Kb c L hc ((h.sub.map _).nodup hn)).2
 refine ⟨⟨List.filter_sublist.trans h.sub,?_,h.topo.snoc hl⟩,hp.length_eq⟩
 rw [ABQ]
 exact (hp.append_left F).trans h.perm
end Mine
namespace Mine
open PySem
theorem Eh {O:Orc} {ρ:Ah} {σ:Aa} {es:E} {xs:List V} {b:Bi} {p:Bool} (h1:(ev O es).row ρ σ=some xs) (h2:B6 b σ xs=some (vb p)):(ev O (.bi b es)).t ρ σ=some p:=by rw [Xq,h1,bs,h2]; rfl
noncomputable def Wy (m:Nat):Bool:=match m with | 0=>false | _+1=>true
theorem J2 {α β:Type} (f:α->β):∀ (l:List α) (j:Nat),(l.map f).eraseIdx j=(l.eraseIdx j).map f
 | [],_=>rfl
 | _::_,0=>rfl
 | a::l,j+1=>congrArg (f a :: ·) (J2 f l j)
noncomputable def rdy (F:List Ch) (c:Ch):Bool:=(c.2.1.map fun l=>decide (l∈F.map (·.1))).all id
theorem Nx {F:List Ch} {c:Ch}:rdy F c=true ↔ ∀ l∈c.2.1,l∈F.map (·.1):=by
 unfold rdy
 rw [List.all_map,List.all_eq_true]
 exact forall_congr' fun l=>forall_congr' fun _=>decide_eq_true_iff
theorem Mn {C:Cfg} (hm:∀ c k σ,C.O 10 [vi c,vi k] σ=some (vi (BC c k))) (cs:List Ch) (cell:Int) (hcs:cs.length<=60) (hg:∀ c∈cs,GenCh c) (H:BE cs) :
 Af C (fun fl σ'=>∃ F,F.Perm cs/\BR F/\Hi fl=.ref 2/\σ'=[lcs [],.list ((F.map (·.1)).map vs),lcs F]) Hy.body (B3 Hy [.d (.list (cs.map Ch.data)),vi cell]) []:=by
 show Af C _ _ [some (.d (.list (cs.map Ch.data))),some (vi cell),none,none,none,none,none,none] []
 refine Bu (ws:=cs.map vc) ?_ ?_
 ·show (some ((cs.map Ch.data).map V.d)).bind (fun ws=>if ws.length<=line then some ws else none)=_
  rw [bs,if_pos (by simp [line]; omega),AAE]; rfl
 refine Bu (ws:=[]) rfl ?_
 refine Bu (ws:=[]) rfl ?_
 let K:Option V->Option V->Option V->Ah:=fun z5 z6 z7=>[some (.d (.list (cs.map Ch.data))),some (vi cell),some (.ref 0),some (.ref 1),some (.ref 2),z5,z6,z7]
 let St:List Ch->List Ch->Aa:=fun L F=>[lcs L,.list ((F.map (·.1)).map vs),lcs F]
 refine QZ (fun m ρ σ=>∃ L F,L.length=m/\GH cs L F/\(∃ z5 z6 z7,ρ=K z5 z6 z7)/\σ=St L F) Wy cs.length ⟨cs,[],rfl,⟨.refl _,.refl _,fun pre c post e=>by simp at e⟩,⟨none,none,none,rfl⟩,rfl⟩ ?_ rfl ?_ ?_
 ·rintro m ρ σ ⟨L,F,rfl,T,⟨z5,z6,z7,rfl⟩,rfl⟩
  show some (!(L.map vc).isEmpty)=_
  cases L <;> rfl
 ·rintro m ρ σ ⟨L,F,hL,T,⟨z5,z6,z7,rfl⟩,rfl⟩ _
  have hLl:L.length<=60:=AAC T.sub.length_le hcs
  have hFl:F.length<=60:=by have:=T.perm.length_eq; rw [AAF] at this; omega
  refine Ht (ds:=(L.filter (rdy F)).map Ch.data) ?_ ?_
  ·rw [show C.nl _ _ _=some ((L.filter (rdy F)).map vc) from Cl (l:=L) (kps:=[(0,L.map vc)]) vc (rdy F) vc rfl (AAC hLl (by decide)) (fun c hc=>?_) (fun c _ _=>rfl),AAE]
   ·rfl
   ·have hcl:c.2.1.length<=line:=AAC (hg c (T.sub.subset hc)).few (by decide)
    refine E9 (Eh (A0 (CD (l:=c.2.1) (fun t=>.str (Tx t)) (fun _=>true) (fun l=>.bool (decide (l∈F.map (·.1)))) (Bx (Ag rfl rfl (CC c)) rfl) hcl (fun _ _=>rfl) (fun l _ _=>Eb rfl rfl (show inV (St L F) (vs l) (.ref 1)=_ from QR (l:=F.map (·.1)) rfl)))) ?_)
    rw [Bk,show (c.2.1.map fun l=>PyData.bool (decide (l∈F.map (·.1))))=(c.2.1.map fun l=>decide (l∈F.map (·.1))).map PyData.bool by rw [AAE]; rfl]
    exact Py _ _
  have hpos:0 < (L.filter (rdy F)).length:=by
   cases L with
   | nil=>cases hL
   | cons c L=>rw [List.filter_cons_of_pos (Nx.mpr (T.ready H))]; exact Nat.succ_pos _
  have hrl:∀ σ,B6 .len σ [.d (.list ((L.filter (rdy F)).map Ch.data))]=some (vi (L.filter (rdy F)).length):=fun σ=>BZ.trans (by rw [AAB])
  have hat:=AN (BC cell L.length) (j:=((L.filter (rdy F)).length:Int)) (by omega)
  obtain ⟨c,hc⟩:∃ c,(L.filter (rdy F))[((BC cell L.length).fmod (L.filter (rdy F)).length).toNat]? = some c:=⟨_,AAN (by omega)⟩
  have hfl:(L.filter (rdy F)).length<=60:=AAC (AAX _ _) hLl
  have hlen:B6 .len (St L F) [.ref 0]=some (vi L.length):=(Q9 rfl).trans (by rw [AAB])
  refine Az (v:=vc c) (Ag rfl (Ai (El (AY rfl (AI (A0 rfl) hlen)) (hm _ _ _)) (AI (A0 rfl) (hrl _)) (AJ (by omega))) (Ec _ hat.1 (by omega) (by rw [ABI,hc]; rfl))) ?_
  have hcm:=AA4.mp (AA5 hc)
  have hnL:(L.map (·.1)).Nodup:=(T.sub.map _).nodup H.nd
  obtain ⟨q,hq⟩:=QU c L
  obtain ⟨⟨j,j1,j2⟩,_⟩:=Kb c L hcm.1 hnL
  obtain ⟨T',hl'⟩:=T.take H.nd hcm.1 (Nx.mp hcm.2)
  refine OZ (k:=0) (d:=Ch.data c) (ds:=L.map Ch.data) rfl rfl (by show some (lcs L)=_; rw [AAE]; rfl) hq j1 ?_
  rw [show (((L.map Ch.data).map V.d).eraseIdx j)=(oth c L).map vc by rw [AAE,<-j2]; exact J2 _ _ _]
  refine AU (k:=1) (y:=vs c.1) rfl (A0 (Ag rfl rfl (AL c))) rfl (by simp [line]; omega) ?_
  refine AU (k:=2) (y:=vc c) rfl rfl rfl (by simp [line]; omega) (Ad ⟨_,rfl,oth c L,F++[c],by omega,T',⟨_,_,_,rfl⟩,?_⟩)
  simp [St,lcs,AAQ]
 ·rintro m ρ σ ⟨L,F,rfl,T,⟨z5,z6,z7,rfl⟩,rfl⟩ h
  cases L with
  | cons _ _=>cases h
  | nil=>exact A3 (v:=.ref 2) rfl ⟨F,by have:=T.perm; rwa [AAV] at this,T.topo,rfl,rfl⟩
theorem Jy (cs:List Ch) (cell:Int) (hcs:cs.length<=60) (hg:∀ c∈cs,GenCh c) (H:BE cs):∃ F,F.Perm cs/\BR F/\∀ σ,FN 3 18 [.d (.list (cs.map Ch.data)),vi cell] σ (.d (.list (F.map Ch.data))) σ:=by
 obtain ⟨v,σ',⟨F,k1,k2,k3,k4⟩,h⟩:=FN.ends (C:=C1 2 (AAL _)) (f:=18) (fn:=Hy) (zs:=[.d (.list (cs.map Ch.data)),vi cell]) (σ:=[]) (R:=fun v σ'=>∃ F,F.Perm cs/\BR F/\v=.ref 2/\σ'=[lcs [],.list ((F.map (·.1)).map vs),lcs F]) (by unfold Pg; rfl) rfl (show 1<=2 by decide) (Mn (fun _ _ _=>rfl) cs cell hcs hg H)
 rw [k3,k4] at h
 exact ⟨F,k1,k2,fun σ=>(FN.seal (σ:=[]) (d:=.list (F.map Ch.data)) h ⟨_,rfl,ABF _,by show some (lcs F)=_; rw [AAE]; rfl⟩).any (all_cons (Cm _ _) (all_cons (Cm _ _) A9))⟩
end Mine
namespace Mine
open PySem
theorem By {C:Cfg} {P:Fl->Aa->Prop} {r a:S} {ρ:Ah} {σ:Aa} {c:E} {t:Bool} (h:C.t c ρ σ=some t) (e:t=false) (k:Af C P r ρ σ):Af C P (.cons (.ite c a .nil) r) ρ σ:=FY (e▸h) k
theorem Po (l:List Nat) (c:Nat):Txt.contains (Tx l) (Tx [c])=decide (c∈l):=by
 have h:=StrLaws.found_one (Tx l) c
 rw [Hx] at h
 exact h
theorem Jl:∀ l:List Nat,Fm l=l.map fun c=>vs [c]
 | []=>rfl
 | c::l=>by show _::Fm l=_; rw [Jl l]; rfl
theorem NF {C:Cfg} {ρ:Ah} {σ:Aa} {i:Nat} {l:List Nat} (h:B2 ρ i=some (vs l)) (ha:∀ c∈l,c < 128):C.it (.var i) ρ σ=some (l.map fun c=>vs [c],[]):=by
 show (B2 ρ i).bind (DT σ)=_
 rw [h]
 show (if (Tx l).cps.all (· < 128)=true then some (Fm (Tx l).cps.toList,[]) else none)=_
 rw [if_pos,Hx,Jl]
 show l.toArray.all (· < 128)=true
 rw [List.all_toArray,List.all_eq_true]
 exact fun c hc=>AAI (ha c hc)
theorem FR {C:Cfg} {ρ:Ah} {σ:Aa} {i:Nat} {α:Type} {l:List α} {d:α->PyData} (h:B2 ρ i=some (.d (.list (l.map d)))):C.it (.var i) ρ σ=some (l.map fun a=>.d (d a),[]):=Bx h rfl
theorem KG:∀ c∈CY,c < 128:=by decide +kernel
theorem Pf {σ:Aa} (t:List Nat) (h:Bg t=true):FN 2 2 [vs t] σ (vb true) σ:=by
 obtain ⟨n1,n2,n3⟩:=(BL t).mp h
 exact FN.same (C:=C0 1) (fn:=LU) (by unfold Pg; rfl) rfl (AAL _) (by
  show Af _ _ _ [some (vs t),none] σ
  refine By (Dv (Aq (AI (A0 rfl) N8) rfl MN) fun _=>Aq (AI (A0 rfl) N8) rfl LB) (by rw [AAT (by omega),AAT (by omega)]; rfl) ?_
  ·refine AS (fun c=>vs [c]) (fun _ ρ σ'=>(∃ z,ρ=[some (vs t),z])/\σ=σ') (NF rfl fun c hc=>KG c (n3 c hc)) ⟨⟨none,rfl⟩,rfl⟩ ?_ ?_
   ·rintro p c q ρ _ hp ⟨⟨z,rfl⟩,rfl⟩
    exact By (t:=!Txt.contains (Tx CY) (Tx [c])) (Aq (y:=vs CY) rfl (congrArg (fun s=>some (V.d (.str s))) ND) rfl) (by rw [Po,AAI (n3 c (by rw [hp]; simp))]; rfl) (Ad ⟨_,rfl,⟨_,rfl⟩,rfl⟩)
   ·rintro ρ _ ⟨⟨z,rfl⟩,rfl⟩
    exact A3 (v:=vb true) rfl ⟨rfl,rfl⟩)
theorem Ph {σ:Aa} (t:List Nat) (h:Bq t):FN 2 3 [vs t] σ (vb true) σ:=by
 exact FN.same (C:=C0 1) (fn:=LV) (by unfold Pg; rfl) rfl (AAL _) (by
  show Af _ _ _ [some (vs t),none] σ
  refine By (Aq (AI (A0 rfl) N8) rfl LB) (AAT (by have:=h.len; omega)) ?_
  ·refine AS (fun c=>vs [c]) (fun _ ρ σ'=>(∃ z,ρ=[some (vs t),z])/\σ=σ') (NF rfl fun c hc=>by have:=h.ok c hc; omega) ⟨⟨none,rfl⟩,rfl⟩ ?_ ?_
   ·rintro p c q ρ _ hp ⟨⟨z,rfl⟩,rfl⟩
    have hc:=h.ok c (by rw [hp]; simp)
    exact By (Dv (Aq (x:=vi c) (AI (A0 rfl) rfl) rfl MN) fun _=>Aq (x:=vi c) (AI (A0 rfl) rfl) rfl LB) (by rw [AAT (by omega),AAT (by omega)]; rfl) (Ad ⟨_,rfl,⟨_,rfl⟩,rfl⟩)
   ·rintro ρ _ ⟨⟨z,rfl⟩,rfl⟩
    exact A3 (v:=vb true) rfl ⟨rfl,rfl⟩)
noncomputable def Si (P:List Nat->Prop) (xs:List V):Option V:=match xs with | x::r=>(match r with | []=>(BN x).bind fun z=>@ite _ (P z.cps.toList) (Classical.propDecidable _) (some (vb true)) none | _=>none) | []=>none
theorem MZ {n f:Nat} {σ:Aa} {P:List Nat->Prop} {xs:List V} {v:V} (hf:∀ t,P t->FN n f [vs t] σ (vb true) σ) (h:Si P xs=some v):FN n f xs σ v σ:=by
 match xs,h with
 | [],h=>exact Ac h
 | [x],h =>
  obtain ⟨z,e1,h⟩:=Ab h
  obtain ⟨q,h⟩:=@Ba _ _ _ _ (Classical.propDecidable _) h
  rw [Br e1,<-h,<-MT z]
  exact hf _ q
 | _::_::_,h=>exact Ac h
theorem JG {P:List Nat->Prop} {t:List Nat} (h:P t):Si P [vs t]=some (vb true):=by
 show @ite _ (P (Tx t).cps.toList) (Classical.propDecidable _) (some (vb true)) none=_
 rw [Hx]; exact @if_pos _ (Classical.propDecidable _) h _ _ _
noncomputable def C3 (n:Nat) (hn:2<=n):Cfg:=(C0 n).add 2 (fun xs _=>Si (Bg · = true) xs) fun _ _ _ h=>MZ (fun t ht=>(Pf t ht).more hn) h
noncomputable def C4 (n:Nat) (hn:2<=n):Cfg:=(C0 n).add 3 (fun xs _=>Si Bq xs) fun _ _ _ h=>MZ (fun t ht=>(Ph t ht).more hn) h
theorem Hz {α β:Type} (d:α->PyData) (d':β->PyData):∀ (l:List α) (m:List β),He ((l.map d).map .d) ((m.map d').map .d)=(l.zip m).map fun p=>V.d (.tuple [d p.1,d' p.2])
 | [],_=>rfl
 | _::_,[]=>rfl
 | a::l,b::m=>by show _::He ((l.map d).map .d) ((m.map d').map .d)=_; rw [Hz d d' l m]; rfl
theorem MC {σ:Aa} (t:List Nat) (ls:List (List Nat)) (ht:Bg t=true) (hl:∀ l∈ls,Bg l=true) (hr:ls.Pairwise (· < ·)) (hn:t∉ls) (hlen:ls.length<=1000):FN 3 4 [vs t,.d (dl ls)] σ AO σ:=by
 exact FN.same (C:=C3 2 (AAL _)) (fn:=Gq) (by unfold Pg; rfl) rfl (show 1<=2 by decide) (by
  show Af _ _ _ [some (vs t),some (.d (dl ls)),none,none,none] σ
  refine FY (CN (p:=true) (J4 (A0 rfl) (JG (P:=(Bg · = true)) ht))) ?_
  refine AS (l:=ls) (fun l=>vs l) (fun _ ρ σ'=>(∃ z2,ρ=[some (vs t),some (.d (dl ls)),z2,none,none])/\σ=σ') (FR rfl) ⟨⟨none,rfl⟩,rfl⟩ ?_ ?_
  ·rintro p l q ρ _ hp ⟨⟨z,rfl⟩,rfl⟩
   exact FY (CN (p:=true) (J4 (A0 rfl) (JG (P:=(Bg · = true)) (hl l (by rw [hp]; simp))))) (Ad ⟨_,rfl,⟨_,rfl⟩,rfl⟩)
  rintro ρ _ ⟨⟨z2,rfl⟩,rfl⟩
  refine G9 (l:=ls.zip (ls.drop 1)) (kps:=[]) (fun p=>V.d (.tuple [.str (Tx p.1),.str (Tx p.2)])) (fun _ ρ σ'=>(∃ z3 z4,ρ=[some (vs t),some (.d (dl ls)),z2,z3,z4])/\σ=σ') ?_ (fun _ _ _ _ _ _ m=>nomatch m) (fun _ _=>.inr ⟨_,rfl,rfl⟩) ⟨⟨none,none,rfl⟩,rfl⟩ ?_ ?_
  ·have hs:(ev (C3 2 (AAL _)).O (.slc (.var 1) (.cst (.int 1)) .nil)).v [some (vs t),some (.d (dl ls)),z2,none,none] σ=some (.d (dl (ls.drop 1))):=(Jk (σ:=σ) (i:=1) (l:=ls.map fun t=>PyData.str (Tx t)) (by decide) (by rw [AAB]; exact AAC hlen (by decide))).trans (by rw [<-List.map_drop]; rfl)
   show ((ev (C3 2 (AAL _)).O (.slc (.var 1) (.cst (.int 1)) .nil)).v [some (vs t),some (.d (dl ls)),z2,none,none] σ).bind (fun y=>(A2 σ (.d (dl ls))).bind fun ds=>(A2 σ y).bind fun ds'=>some (He ds ds',Dd (.d (dl ls)) ds++Dd y ds'))=_
   rw [hs,bs]
   show some (He ((ls.map fun t=>PyData.str (Tx t)).map V.d) (((ls.drop 1).map fun t=>PyData.str (Tx t)).map V.d),_)=_
   rw [Hz]; rfl
  ·rintro p ⟨a,b⟩ q ρ _ hp ⟨⟨z3,z4,rfl⟩,rfl⟩
   refine FY ?_ (Ad ⟨_,rfl,⟨_,_,rfl⟩,rfl⟩)
   have hab:a < b:=by
    have hm:(a,b)∈ls.zip (ls.drop 1):=by rw [hp]; simp
    obtain ⟨j,hj⟩:=List.mem_iff_getElem?.mp hm
    obtain ⟨j1,j2⟩:=List.getElem?_zip_eq_some.mp hj
    rw [List.getElem?_drop] at j2
    obtain ⟨k1,k2⟩:=AAM.mp j1
    obtain ⟨k3,k4⟩:=AAM.mp j2
    have k2:ls[j]=a:=k2
    have k4:ls[1+j]=b:=k4
    rw [<-k2,<-k4]
    exact List.pairwise_iff_getElem.mp hr j (1+j) k1 k3 (by omega)
   show some (!Bh (Tx a) (Tx b))=_
   rw [LO,AAI hab]; rfl
  rintro ρ _ ⟨⟨z3,z4,rfl⟩,rfl⟩
  refine FY (Aq rfl rfl ((BU t ls).trans (by rw [AAT hn]))) (Ad ⟨rfl,rfl⟩))
theorem Pj {σ:Aa} (d:AH) (h:CB d):FN 3 5 [.d d.data] σ AO σ:=by
 exact FN.same (C:=C4 2 (AAL _)) (fn:=Ha) (by unfold Pg; rfl) rfl (show 1<=2 by decide) (by
  show Af _ _ _ [some (.d d.data)] σ
  have w:∀ {s:String} {k:List Nat},Str.ofString s=Tx k->(ev (C4 2 (AAL _)).O (.cmp .NotEq (.sub (.var 0) (.cst (.int 0))) (.cst (.str (Str.ofString s))))).t [some (.d d.data)] σ=some (!decide (d.word=k)):=fun {s k} e=>Aq (Ag rfl rfl (CE d)) (congrArg (fun s=>some (V.d (.str s))) e) G2
  have hm:(ev (C4 2 (AAL _)).O (.cmp .Is (.sub (.var 0) (.cst (.int 1))) (.cst .none))).t [some (.d d.data)] σ=some d.mark.isNone:=Aq (Ag rfl rfl (CF d)) rfl (Tm d.mark)
  refine By (R5 (w Eg) (fun _=>w QF) (fun _ _=>w GQ)) (by rcases h.shp with ⟨e,_⟩ | ⟨e,_⟩ | ⟨e,_⟩ <;> rw [e] <;> rfl) ?_
  refine By (Cr (w Eg) (fun _=>hm)) (by rcases h.shp with ⟨e,_⟩ | ⟨e,m,l,e2,_⟩ | ⟨e,m,e2⟩ <;> rw [e] <;> first | rfl | (rw [e2]; rfl)) ?_
  have hl:∀ l,d.text=some l->Bq l->(ev (C4 2 (AAL _)).O (.not (.fcall 3 (.cons (.sub (.var 0) (.cst (.int 2))) .nil)))).t [some (.d d.data)] σ=some false:=fun l e ok=>CN (p:=true) (J4 (A0 (Ag rfl rfl (Et d e))) (JG ok))
  have hc:d.word=Ig\/∃ l,d.text=some l/\Bq l:=by
   rcases h.shp with ⟨_,l,e,k⟩ | ⟨_,m,l,_,e,k⟩ | ⟨e,_⟩
   ·exact .inr ⟨l,e,k⟩
   ·exact .inr ⟨l,e,k⟩
   ·exact .inl e
  exact By (Cr (q:=false) (w QF) fun q=>hc.elim (fun e=>by rw [AAI e] at q; cases q) fun ⟨l,e,k⟩=>hl l e k) (Bool.and_false _) (Ad ⟨rfl,rfl⟩))
end Mine
namespace Mine
open PySem
section
variable {κ κ' α β:Type} [DecidableEq κ] [DecidableEq κ'] (φ:κ->κ') (f:α->β)
noncomputable def A7 (kvs:List (κ×α)):List (κ'×β):=kvs.map fun p=>(φ p.1,f p.2)
theorem Bl (kvs:List (κ×α)):(A7 φ f kvs).length=kvs.length:=AAB ..
theorem Qu (a b:List (κ×α)):A7 φ f (a++b)=A7 φ f a++A7 φ f b:=AAQ ..
variable {φ} (hφ:∀ a b,φ a=φ b->a=b)
include hφ
theorem AK (kvs:List (κ×α)) (k:κ):Ao (A7 φ f kvs) (φ k)=(Ao kvs k).map f:=by
 induction kvs with
 | nil=>rfl
 | cons q r ih =>
  show Ao ((φ q.1,f q.2)::A7 φ f r) (φ k)=_
  rw [AX,AX,ih]
  by_cases e:q.1=k
  ·rw [if_pos e,if_pos (congrArg φ e)]; rfl
  ·rw [if_neg e,if_neg (fun h=>e (hφ _ _ h))]
theorem Bs (kvs:List (κ×α)) (k:κ) (v:α):BG (A7 φ f kvs) (φ k) (f v)=A7 φ f (BG kvs k v):=by
 unfold BG
 have h:((A7 φ f kvs).any fun p=>p.1=φ k)=kvs.any fun p=>p.1=k:=by
  rw [Gk,Gk,AK f hφ]; cases Ao kvs k <;> rfl
 rw [h]
 split
 ·unfold A7
  rw [AAE,AAE]
  refine List.map_congr_left fun p _=>?_
  show (if (φ p.1)=φ k then (φ p.1,f v) else (φ p.1,f p.2))=(φ (if p.1=k then (p.1,v) else p).1,f (if p.1=k then (p.1,v) else p).2)
  by_cases e:p.1=k
  ·rw [if_pos e,if_pos (congrArg φ e)]
  ·rw [if_neg e,if_neg (fun h=>e (hφ _ _ h))]
 ·rw [Qu]; rfl
end
noncomputable def mk2 (m:Mk):Str×Int:=(Tx m.1,m.2)
theorem BI:∀ a b:List Nat,Tx a=Tx b->a=b:=fun _ _=>ED
theorem Db:∀ a b:Mk,mk2 a=mk2 b->a=b:=fun ⟨a,i⟩ ⟨b,j⟩ h=>by
 have h1:=congrArg Prod.fst h
 have h2:=congrArg Prod.snd h
 rw [ED (show Tx a=Tx b from h1),(show i=j from h2)]
theorem OK {κ β:Type} [DecidableEq κ] {h:List (κ×β)} {k:κ} {v:β} (nd:(h.map (·.1)).Nodup):((BG h k v).map (·.1)).Nodup:=by
 unfold BG
 split
 ·rw [AAE,show ((fun x:κ×β=>x.1)∘fun p=>if p.1=k then (p.1,v) else p)=fun x=>x.1 from funext fun p=>by show (if p.1=k then (p.1,v) else p).1=p.1; split <;> rfl]
  exact nd
 ·rename_i q
  rw [AAQ,ABW]
  refine ⟨nd,ABX.mpr ⟨AA1,ABY⟩,fun a ha b hb e=>q ?_⟩
  obtain ⟨p,hp,rfl⟩:=AAP.mp ha
  exact List.any_eq_true.mpr ⟨p,hp,AAI (e.trans (AAJ.mp hb))⟩
section
variable {σ:Aa} {k:Nat}
theorem BV {kvs:List (Str×PyData)} {a:List Nat} {d:PyData} (hk:σ[k]? = some (.dictS kvs)) (hd:Ao kvs (Tx a)=some d):Bp (.ref k) (vs a) σ=some (.d d):=by
 show O6 σ (vs a) σ[k]? = _
 rw [hk]
 show (Ao kvs (Tx a)).bind _=_
 rw [hd]; rfl
theorem W2 {kvs:List (Str×PyData)} {a:List Nat} (hk:σ[k]? = some (.dictS kvs)):inV σ (vs a) (.ref k)=some (Ao kvs (Tx a)).isSome:=by
 show inO σ (vs a) k σ[k]? = _
 rw [hk]; rfl
theorem P9 {kvs:List ((Str×Int)×PyData)} {m:Mk} {d:PyData} (hk:σ[k]? = some (.dictP kvs)) (hd:Ao kvs (mk2 m)=some d):Bp (.ref k) (vm m) σ=some (.d d):=by
 show O6 σ (vm m) σ[k]? = _
 rw [hk]
 show (Ao kvs (mk2 m)).bind _=_
 rw [hd]; rfl
theorem W3 {kvs:List ((Str×Int)×PyData)} {m:Mk} (hk:σ[k]? = some (.dictP kvs)):inV σ (vm m) (.ref k)=some (Ao kvs (mk2 m)).isSome:=by
 show inO σ (vm m) k σ[k]? = _
 rw [hk]; rfl
end
theorem NN (m x:Mk):∀ r:List Mk,m∈r->∃ j,FV (A1 (some m)) (r.map fun m=>A1 (some m))=some j/\j < r.length/\r.take (j+1)++x::r.drop (j+1)=aft m x r
 | [],h=>by cases h
 | y::r,h=>by
  have e0:eqN A6 (A1 (some y)) (A1 (some m))=some (decide (y=m)):=GC 39 y m
  by_cases e:y=m
  ·subst e
   refine ⟨0,?_,Nat.succ_pos _,?_⟩
   ·show (eqN A6 (A1 (some y)) (A1 (some y))).bind _=_
    rw [e0,AAI rfl]; rfl
   ·rw [VB]; rfl
  ·obtain ⟨j,h1,h2,h3⟩:=NN m x r ((AAR.mp h).resolve_left fun q=>e q.symm)
   refine ⟨j+1,?_,Nat.succ_lt_succ h2,?_⟩
   ·show (eqN A6 (A1 (some y)) (A1 (some m))).bind _=_
    rw [e0,AAT e]
    show (FV (A1 (some m)) (r.map fun m=>A1 (some m))).bind _=_
    rw [h1]; rfl
   ·rw [VA e,<-h3]; rfl
theorem QT (m:Mk):∀ r:List Mk,∃ q,inD (A1 (some m)) (r.map fun m=>A1 (some m))=some q
 | []=>⟨false,rfl⟩
 | y::r=>by
  obtain ⟨q,h⟩:=QT m r
  have e0:eqN A6 (A1 (some y)) (A1 (some m))=some (decide (y=m)):=GC 39 y m
  exact ⟨decide (y=m)||q,by show (eqN A6 (A1 (some y)) (A1 (some m))).bind _=_; rw [e0,bs,h]; rfl⟩
theorem MP (r:List Mk):DJ (r.map vm)=some (r.map fun m=>A1 (some m)):=by
 have:=Dk (r.map fun m=>A1 (some m))
 rw [AAE] at this; exact this
theorem NL {σ:Aa} {k j:Nat} {r:List Mk} {m:Mk} (hk:σ[k]? = some (.list (r.map vm))) (hj:FV (A1 (some m)) (r.map fun m=>A1 (some m))=some j):Ik σ (.ref k) [vm m]=some (vi j):=by
 obtain ⟨q,hq⟩:=QT m r
 show (CQ σ[k]?).bind _=_
 rw [hk]
 show (DJ (r.map vm)).bind _=_
 rw [MP,bs]
 show (inD (A1 (some m)) (r.map fun m=>A1 (some m))).bind _=_
 rw [hq,bs,hj]; rfl
structure ChkOk (c:Ch):Prop extends GenCh c where
 lnm:∀ l∈c.2.1,Bg l=true
 self:c.1∉c.2.1
 mks:∀ d∈c.2.2,∀ m,d.mark=some m->m.1=c.1\/m.1∈c.2.1
theorem Vq {C:Cfg} {P:Fl->Aa->Prop} {r:S} {ρ:Ah} {σ:Aa} {es:E} {i j l:Nat} {u w z:V} {v:V} (h:C.v (.tup es) ρ σ=some v) (hv:BY v=some [u,w,z]) (k:Af C P r (((ρ.set l (some z)).set j (some w)).set i (some u)) σ):Af C P (.cons (.swl i j l es) r) ρ σ :=
 Cq (fl:=.next (((ρ.set l (some z)).set j (some w)).set i (some u))) (fun Q q=>.swl ((Ae C.ok (.tup es)).v h) hv q) k
theorem Rq {σ:Aa} (c:Ch) (h:ChkOk c):FN 4 6 [vc c] σ AO σ:=by
 exact FN.same (C:=C0 3) (fn:=Sf) (by unfold Pg; rfl) rfl (show 1<=3 by decide) (by
  show Af _ _ _ [some (vc c),none,none,none,none] σ
  refine Vq (Cv (Ko (Ag rfl rfl (AL c)) (Ag rfl rfl (CC c)) (Ag rfl rfl (Cj c))) rfl) rfl ?_
  refine BA (v:=AO) rfl (.fcall ((Ae (C0 3).ok _).row rfl) (MC c.1 c.2.1 h.name h.lnm h.rise h.self (AAC h.few (by decide)))) ?_
  refine By (Aq (AI (A0 rfl) (BZ.trans (by rw [AAB]))) rfl LB) (AAT (by have:=h.deeds; omega)) ?_
  refine AS (l:=c.2.2) (fun d=>.d d.data) (fun _ ρ σ'=>(∃ z,ρ=[some (vc c),some (vs c.1),some (.d (dl c.2.1)),some (.d (dds c.2.2)),z])/\σ=σ') (FR rfl) ⟨⟨none,rfl⟩,rfl⟩ ?_ ?_
  ·rintro p d q ρ _ hp ⟨⟨z,rfl⟩,rfl⟩
   exact BA (v:=AO) rfl (.fcall ((Ae (C0 3).ok _).row rfl) (Pj d (h.ok d (by rw [hp]; simp)))) (Ad ⟨_,rfl,⟨_,rfl⟩,rfl⟩)
  rintro ρ _ ⟨⟨z,rfl⟩,rfl⟩
  refine AS (l:=c.2.2) (fun d=>.d d.data) (fun _ ρ σ'=>(∃ z,ρ=[some (vc c),some (vs c.1),some (.d (dl c.2.1)),some (.d (dds c.2.2)),z])/\σ=σ') (FR rfl) ⟨⟨z,rfl⟩,rfl⟩ ?_ ?_
  ·rintro p d q ρ _ hp ⟨⟨z,rfl⟩,rfl⟩
   have hm:=Ag (O:=(C0 3).O) (ρ:=[some (vc c),some (vs c.1),some (.d (dl c.2.1)),some (.d (dds c.2.2)),some (.d d.data)]) (σ:=σ) (a:=.var 4) (i:=.cst (.int 1)) rfl rfl (CF d)
   refine By (R5 (q:=!decide ((d.mark.getD ([],0)).1=c.1)) (s:=false) (Aq hm rfl (FS d.mark)) (fun q=>?_) fun q q'=>?_) (by rw [Bool.and_false,Bool.and_false]) (Ad ⟨_,rfl,⟨_,rfl⟩,rfl⟩)
   ·cases e:d.mark with
    | none=>rw [e] at q; cases q
    | some m =>
     rw [e] at hm
     exact Aq (Ag hm rfl rfl) rfl G2
   ·cases e:d.mark with
    | none=>rw [e] at q; cases q
    | some m =>
     rw [e] at hm q'
     have hl:m.1∈c.2.1:=(h.mks d (by rw [hp]; simp) m e).resolve_left fun e2=>by
      have q':(!decide (m.1=c.1))=true:=q'
      rw [AAI e2] at q'; cases q'
     exact Aq (x:=vs m.1) (Ag hm rfl rfl) rfl (by rw [GU,BU,AAI hl]; rfl)
  ·rintro ρ _ ⟨⟨z,rfl⟩,rfl⟩
   exact Ad ⟨rfl,rfl⟩)
theorem TA {σ:Aa} (c:Ch) (hd:c.2.2.length<=100):FN 2 7 [vc c] σ (.d (dds (c.2.2.filter fun d=>decide (d.word=FQ)))) σ:=by
 exact FN.same (C:=C0 1) (fn:=LX) (by unfold Pg; rfl) rfl (AAL _)
  (A3 (CD (l:=c.2.2) AH.data (fun d=>decide (d.word=FQ)) AH.data (Bx (Ag rfl rfl (Cj c)) rfl) (AAC hd (by decide)) (fun d _=>E9 (Aq (Ag rfl rfl (CE d)) (congrArg (fun s=>some (V.d (.str s))) Eg) Fu)) (fun d _ _=>rfl)) ⟨rfl,rfl⟩)
end Mine
namespace Mine
open PySem
inductive Blw (F:List Ch):List Nat->List Nat->Prop
 | one {c:Ch} {l:List Nat} (hc:c∈F) (hl:l∈c.2.1):Blw F c.1 l
 | more {c:Ch} {l m:List Nat} (hc:c∈F) (hl:l∈c.2.1) (h:Blw F l m):Blw F c.1 m
theorem Hn {F:List Ch} (nd:(F.map (·.1)).Nodup) {a b:Ch} (ha:a∈F) (hb:b∈F) (e:a.1=b.1):a=b:=by
 induction F with
 | nil=>cases ha
 | cons x F ih =>
  have nd:=ABX.mp nd
  rcases AAR.mp ha with q | q <;> rcases AAR.mp hb with r | r
  ·rw [q,r]
  ·exact absurd (AAZ (f:=(·.1)) r) (by rw [<-e,q]; exact nd.1)
  ·exact absurd (AAZ (f:=(·.1)) q) (by rw [e,r]; exact nd.1)
  ·exact ih nd.2 q r
section
variable {F G:List Ch} {a b m:List Nat} {c:Ch}
theorem Blw.mono (h:∀ c∈F,c∈G) (x:Blw F a b):Blw G a b:=by
 induction x with
 | one hc hl=>exact .one (h _ hc) hl
 | more hc hl _ ih=>exact .more (h _ hc) hl ih
theorem Blw.step (nd:(F.map (·.1)).Nodup) (hc:c∈F):Blw F c.1 m ↔ ∃ l∈c.2.1,m=l\/Blw F l m:=by
 refine ⟨fun h=>?_,fun ⟨l,hl,h⟩=>h.elim (fun e=>e▸.one hc hl) (.more hc hl)⟩
 generalize en:c.1=n at h
 cases h with
 | one hc' hl=>exact ⟨_,Hn nd hc' hc en.symm▸hl,.inl rfl⟩
 | more hc' hl h=>exact ⟨_,Hn nd hc' hc en.symm▸hl,.inr h⟩
theorem BR.lean (ht:BR F) (hc:c∈F) {l:List Nat} (hl:l∈c.2.1):l∈F.map (·.1):=by
 obtain ⟨p,q,e⟩:=AB7 hc
 rw [e,AAQ]
 exact AAU _ (ht p c q e l hl)
theorem Blw.names (ht:BR F) (x:Blw F a b):b∈F.map (·.1):=by
 induction x with
 | one hc hl=>exact ht.lean hc hl
 | more _ _ _ ih=>exact ih
theorem Blw.snoc (ht:BR F) (hn:c.1∉F.map (·.1)) (ha:a∈F.map (·.1)):Blw (F++[c]) a b ↔ Blw F a b:=by
 refine ⟨fun x=>?_,Blw.mono fun x hx=>AAU _ hx⟩
 have inF:∀ {c':Ch},c'∈F++[c]->c'.1∈F.map (·.1)->c'∈F:=fun {c'} h1 h2=>(AA0.mp h1).elim id fun q=>by
  rw [AAJ.mp q] at h2; exact absurd h2 hn
 induction x with
 | one hc hl=>exact .one (inF hc ha) hl
 | more hc hl _ ih=>exact .more (inF hc ha) hl (ih (ht.lean (inF hc ha) hl))
end
end Mine
namespace Mine
open PySem
noncomputable abbrev hK (F:List Ch):List (List Nat×Ch):=F.map fun c=>(c.1,c)
noncomputable abbrev oH (F:List Ch):O:=.dictS (A7 Tx Ch.data (hK F))
abbrev Gsl:=List (List Nat×List (List Nat))
noncomputable abbrev oG (gs:Gsl):O:=.dictS (A7 Tx dl gs)
noncomputable abbrev oT (hs:List (List Nat×Int)):O:=.dictS (A7 Tx PyData.int hs)
noncomputable abbrev W (F:List Ch) (gs:Gsl) (hs:List (List Nat×Int)):Aa:=[oH F,oG gs,oT hs]
noncomputable abbrev self:V:=.obj [0,1,2]
theorem Kg (F:List Ch):(hK F).map (·.1)=F.map (·.1):=by rw [AAE]; rfl
theorem Pb {F:List Ch} (nd:(F.map (·.1)).Nodup) {c:Ch} (hc:c∈F):Ao (hK F) c.1=some c:=by
 induction F with
 | nil=>cases hc
 | cons a F ih =>
  have nd':=ABX.mp nd
  show Ao ((a.1,a)::hK F) c.1=_
  rw [AX]
  rcases AAR.mp hc with rfl | hc
  ·exact if_pos rfl
  ·rw [if_neg fun e=>nd'.1 (by show a.1∈F.map (·.1); rw [show a.1=c.1 from e]; exact AAZ hc)]
   exact ih nd'.2 hc
theorem inH {F:List Ch} (n:List Nat):(Ao (A7 Tx Ch.data (hK F)) (Tx n)).isSome=decide (n∈F.map (·.1)):=by
 rw [AK Ch.data BI]
 have h:=AB (h:=hK F) (k:=n)
 rw [Kg] at h
 cases e:Ao (hK F) n with
 | none=>exact (AAT fun q=>by obtain ⟨v,hv⟩:=h.mpr q; rw [e] at hv; cases hv).symm
 | some c=>exact (AAI (h.mp ⟨c,e⟩)).symm
theorem Ip {C:Cfg} {P:Fl->Aa->Prop} {r a b:S} {ρ:Ah} {σ:Aa} {c:E} {t:Bool} (h:C.t c ρ σ=some t) (e:t=true) (k:Af C (Pz C P r) a ρ σ):Af C P (.cons (.ite c a b) r) ρ σ:=Ll (t:=true) (e▸h) k
section
variable {O:Orc} {ρ:Ah} {σ:Aa}
theorem CM (h:B2 ρ 0=some self):(ev O (.attr (ACB "held") (.var 0))).v ρ σ=some (.ref 0):=by
 show (B2 ρ 0).bind (TP (ACB "held"))=_
 rw [h]; kernel_rfl
theorem CV (h:B2 ρ 0=some self):(ev O (.attr (ACB "grounds") (.var 0))).v ρ σ=some (.ref 1):=by
 show (B2 ρ 0).bind (TP (ACB "grounds"))=_
 rw [h]; kernel_rfl
theorem DK (h:B2 ρ 0=some self):(ev O (.attr (ACB "heights") (.var 0))).v ρ σ=some (.ref 2):=by
 show (B2 ρ 0).bind (TP (ACB "heights"))=_
 rw [h]; kernel_rfl
end
def Us (F:List Ch) (c:Ch):Prop:=∀ pre d post,c.2.2=pre++d::post->∀ m,d.mark=some m->(m.1=c.1/\0<=m.2/\m.2 < (adds pre:Int))\/(m.1≠c.1/\∃ c'∈F,c'.1=m.1/\0<=m.2/\m.2 < (adds c'.2.2:Int))
theorem MB {F:List Ch} {gs:Gsl} {hs:List (List Nat×Int)} (nd:(F.map (·.1)).Nodup) (hg:∀ c∈F,c.2.2.length<=100) (c:Ch) (hm:Us F c):FN 3 37 [self,vc c] (W F gs hs) AO (W F gs hs):=by
 exact FN.same (C:=C0 2) (fn:=Dm) (by unfold Pg; rfl) rfl (show 1<=2 by decide) (by
  show Af _ _ _ [some self,some (vc c),none,none,none,none] (W F gs hs)
  refine Az (v:=vi 0) rfl ?_
  let K:Int->Option V->Option V->Option V->Ah:=fun own z3 z4 z5=>[some self,some (vc c),some (vi own),z3,z4,z5]
  refine AS (l:=c.2.2) (fun d=>.d d.data) (fun p ρ σ'=>(∃ z3 z4 z5,ρ=K (adds p) z3 z4 z5)/\W F gs hs=σ') (Bx (Ag rfl rfl (Cj c)) rfl) ⟨⟨none,none,none,rfl⟩,rfl⟩ ?_ ?_
  ·rintro p d q ρ _ hp ⟨⟨z3,z4,z5,rfl⟩,rfl⟩
   show Af _ _ _ (K (adds p) (some (.d d.data)) z4 z5) _
   refine Az (v:=.d (A1 d.mark)) (Ag rfl rfl (CF d)) ?_
   refine Df (M:=fun ρ σ'=>(∃ z5,ρ=K (adds p) (some (.d d.data)) (some (.d (A1 d.mark))) z5)/\W F gs hs=σ') ?_ ?_
   ·refine A8 (t:=!d.mark.isNone) (Aq rfl rfl (FS d.mark)) (fun e=>?_) fun e=>Ad (Ad ⟨_,rfl,⟨_,rfl⟩,rfl⟩)
    cases em:d.mark with
    | none=>rw [em] at e; cases e
    | some m =>
     show Af _ _ _ (K (adds p) (some (.d d.data)) (some (vm m)) z5) _
     refine Az (v:=vi (adds p)) rfl ?_
     have s0:∀ {z5 σ},(ev (C0 2).O (.sub (.var 4) (.cst (.int 0)))).v (K (adds p) (some (.d d.data)) (some (vm m)) z5) σ=some (vs m.1):=Ag rfl rfl rfl
     have s1:∀ {z5 σ},(ev (C0 2).O (.sub (.var 4) (.cst (.int 1)))).v (K (adds p) (some (.d d.data)) (some (vm m)) z5) σ=some (vi m.2):=Ag rfl rfl rfl
     have fin:∀ n:Nat,0<=m.2->m.2 < (n:Int)->Af (C0 2) (Pz (C0 2) (fun fl σ'=>∃ ρ',fl=.next ρ'/\(∃ z5,ρ'=K (adds p) (some (.d d.data)) (some (vm m)) z5)/\W F gs hs=σ') .nil) (.cons (.ite (.bop .Or (.cons (.cmp .Lt (.sub (.var 4) (.cst (.int 1))) (.cst (.int 0))) (.cons (.cmp .GtE (.sub (.var 4) (.cst (.int 1))) (.var 5)) .nil))) .any .nil) .nil) (K (adds p) (some (.d d.data)) (some (vm m)) (some (vi n))) (W F gs hs):=fun n n0 n1 =>
      By (Dv (Aq s1 rfl MN) fun _=>Aq s1 rfl X9) (by rw [AAT (by omega),AAT (by omega)]; rfl) (Ad (Ad ⟨_,rfl,⟨_,rfl⟩,rfl⟩))
     rcases hm p d q hp m em with ⟨m1,m2,m3⟩ | ⟨m1,c',hc',m2,m3,m4⟩
     ·exact By (Aq s0 (Ag rfl rfl (AL c)) G2) (by rw [AAI m1]; rfl) (fin _ m2 m3)
     ·refine Ip (Aq s0 (Ag rfl rfl (AL c)) G2) (by rw [AAT m1]; rfl) ?_
      have hh:Bp (.ref 0) (vs m.1) (W F gs hs)=some (vc c'):=BV rfl (by rw [AK Ch.data BI,<-m2,Pb nd hc']; rfl)
      refine AA (v:=vi (adds c'.2.2)) rfl (.bi1 (.cons (.fcall (.cons ((Ae (C0 2).ok _).v (Ag (CM rfl) s0 hh)) .nil) (TA c' (hg c' hc'))) .nil) (N9 ?_)) (Ad (fin _ m3 m4))
      exact (BZ (σ:=W F gs hs)).trans (by rw [AAB,Hw])
   ·rintro _ _ ⟨⟨z5,rfl⟩,rfl⟩
    refine A8 (t:=decide (d.word=FQ)) (Aq (Ag rfl rfl (CE d)) (congrArg (fun s=>some (V.d (.str s))) Eg) Fu) (fun e=>?_) fun e=>?_
    ·exact Az (v:=vi ((adds p:Int)+1)) rfl (Ad (Ad ⟨_,rfl,⟨_,_,_,by rw [CU,show AV d=true from e]; rfl⟩,rfl⟩))
    ·exact Ad (Ad ⟨_,rfl,⟨_,_,_,by rw [CU,show AV d=false from e]; rfl⟩,rfl⟩)
  ·rintro ρ _ ⟨⟨z3,z4,z5,rfl⟩,rfl⟩
   exact Ad ⟨rfl,rfl⟩)
theorem NI {F:List Ch} {τ:Aa} (n:List Nat):B5 .In (vs n) (.ref 0) (oH F::τ)=some (decide (n∈F.map (·.1))):=by
 show inV (oH F::τ) (vs n) (.ref 0)=_
 rw [W2 (kvs:=A7 Tx Ch.data (hK F)) rfl,inH]
theorem HT {F:List Ch} {τ:Aa} (n:List Nat):B5 .NotIn (vs n) (.ref 0) (oH F::τ)=some (!decide (n∈F.map (·.1))):=by
 show HS (B5 .In (vs n) (.ref 0) (oH F::τ))=_
 rw [NI]; rfl
structure Jh (F:List Ch) (gs:Gsl):Prop where
 nd:(F.map (·.1)).Nodup
 topo:BR F
 gen:∀ c∈F,GenCh c
 len:F.length<=60
 gk:gs.map (·.1)=F.map (·.1)
 gin:∀ p∈gs,(p.2.length<=60/\p.2.Pairwise (· < ·))/\∀ l,l∈p.2 ↔ Blw F p.1 l
structure Sh (F:List Ch) (c:Ch):Prop extends ChkOk c where
 new:c.1∉F.map (·.1)
 lin:∀ l∈c.2.1,l∈F.map (·.1)
 mrk:Us F c
 room:F.length < 60
theorem Jq:∀ (l:List Int) (b:Int),l.foldl (fun a b=>if a < b then b else a) b+1=(l.map (· + 1)).foldl (fun a b=>if a < b then b else a) (b+1)
 | [],_=>rfl
 | x::l,b=>by
  rw [ABP,List.foldl_cons,List.foldl_cons,Jq l]
  congr 1
  split <;> split <;> omega
theorem SQ (l:List Int):1+Ef (-1) l=Ef 0 (l.map (· + 1)):=by
 cases l with
 | nil=>rfl
 | cons x l =>
  show 1+l.foldl _ x=(l.map (· + 1)).foldl _ (x+1)
  rw [Int.add_comm,Jq]
theorem Jr (l:List Int):Ct Ci (l.map vi)=some l:=by
 induction l with
 | nil=>rfl
 | cons x l ih=>show (Ct Ci (l.map vi)).bind _=_; rw [ih]; rfl
structure K0 (F:List Ch) (gd:List (List Nat×Bool)):Prop where
 nd:(gd.map (·.1)).Nodup
 sub:∀ n∈gd.map (·.1),n∈F.map (·.1)
def VL (F:List Ch) (ls:List (List Nat)) (gd:List (List Nat×Bool)):Prop:=∀ n,n∈gd.map (·.1) ↔ ∃ l∈ls,n=l\/Blw F l n
theorem K0.put {F:List Ch} {gd:List (List Nat×Bool)} (h:K0 F gd) {n:List Nat} (hn:n∈F.map (·.1)):K0 F (BG gd n true) :=
 ⟨OK h.nd,fun k hk=>((FF k).mp hk).elim (fun e=>e▸hn) (h.sub k)⟩
theorem K0.len {F:List Ch} {gd:List (List Nat×Bool)} (h:K0 F gd):gd.length<=F.length:=by
 have:=JQ _ _ h.nd h.sub
 rwa [AAB,AAB] at this
noncomputable abbrev oB (gd:List (List Nat×Bool)):O:=.dictS (A7 Tx PyData.bool gd)
theorem Vg {σ:Aa} {k:Nat} {gd:List (List Nat×Bool)} (hk:σ[k]? = some (oB gd)) (hl:∀ n∈gd.map (·.1),n.length<=12) (h:gd.length<=60):B6 .list σ [.ref k]=some (.d (dl (gd.map (·.1)))):=by
 show (NC σ[k]?).bind mkL=_
 rw [hk]
 show ((if (A7 Tx PyData.bool gd).all (fun p=>decide (p.1.length<=line))=true then some (vss ((A7 Tx PyData.bool gd).map (·.1))) else none).bind mkL)=_
 rw [if_pos,bs]
 ·have e:vss ((A7 Tx PyData.bool gd).map (·.1))=((gd.map (·.1)).map fun t=>PyData.str (Tx t)).map V.d:=by
   show ((A7 Tx PyData.bool gd).map (·.1)).map _=_
   unfold A7
   rw [AAE,AAE,AAE,AAE]; rfl
  rw [e]
  exact HV _ (by rw [AAB,AAB]; exact AAC h (by decide))
 ·rw [List.all_eq_true]
  intro p hp
  obtain ⟨q,hq,rfl⟩:=AAP.mp hp
  refine AAI ?_
  show (Tx q.1).length<=line
  rw [Fv]; exact AAC (hl q.1 (AAZ hq)) (by decide)
theorem SA {F:List Ch} {gs:Gsl} (w:Jh F gs) (c:Ch) (h:Sh F c) :
 Af (C0 4) (fun fl σ'=>∃ gd,(K0 F gd/\VL F c.2.1 gd)/\Hi fl=AO/\σ'=W (F++[c]) (gs++[(c.1,Aj (gd.map (·.1)))]) (hts [] (F++[c]))++[oB gd]) Ee.body (B3 Ee [self,vc c]) (W F gs (hts [] F)):=by
 have hnm:∀ n∈F.map (·.1),n.length<=12:=fun n hn=>by
  obtain ⟨x,hx,rfl⟩:=AAP.mp hn
  exact ((BL _).mp (w.gen x hx).name).2.1
 show Af _ _ _ [some self,some (vc c),none,none,none,none] _
 refine BA (v:=AO) rfl (.fcall ((Ae (C0 4).ok _).row rfl) (Rq c h.toChkOk)) ?_
 refine Az (v:=vs c.1) (Ag rfl rfl (AL c)) ?_
 refine By (Aq (y:=.ref 0) rfl (CM rfl) (NI c.1)) (AAT h.new) ?_
 refine AS (l:=c.2.1) (fun l=>vs l) (fun _ ρ σ'=>(∃ z,ρ=[some self,some (vc c),some (vs c.1),z,none,none])/\W F gs (hts [] F)=σ') (Bx (Ag rfl rfl (CC c)) rfl) ⟨⟨none,rfl⟩,rfl⟩ ?_ ?_
 ·rintro p l q ρ _ hp ⟨⟨z,rfl⟩,rfl⟩
  exact By (Aq (y:=.ref 0) rfl (CM rfl) (HT l)) (by rw [AAI (h.lin l (by rw [hp]; simp))]; rfl) (Ad ⟨_,rfl,⟨_,rfl⟩,rfl⟩)
 rintro ρ _ ⟨⟨z3,rfl⟩,rfl⟩
 refine BA (v:=AO) rfl (.mcall (f:=37) Ay (by unfold mtP; kernel_rfl) ((Ae (C0 4).ok (.var 0)).v rfl) ((Ae (C0 4).ok _).row rfl) ((MB w.nd (fun x hx=>AAC (w.gen x hx).deeds (by decide)) c h.mrk).more (by decide))) ?_
 have hF:=w.len
 refine DW (z:=AO) (y:=AO) (k:=0) (w:=Tx c.1) (dd:=Ch.data c) (kvs:=A7 Tx Ch.data (hK F)) (Cv (Ko rfl (AI (A0 (Ag rfl rfl (CC c))) (Fs (by rw [AAB]; exact AAC h.few (by decide)))) (AI (A0 (Ag rfl rfl (Cj c))) (Fs (by rw [AAB]; exact AAC h.deeds (by decide))))) rfl) (CM rfl) rfl rfl (by rw [Bl,AAB]; exact AAS hF (by decide)) ?_
 have eH:BG (A7 Tx Ch.data (hK F)) (Tx c.1) (Ch.data c)=A7 Tx Ch.data (hK (F++[c])):=by
  rw [Bs Ch.data BI,FE (CR.mpr (by rw [Kg]; exact h.new))]
  show A7 Tx Ch.data (F.map (fun c=>(c.1,c))++[(c.1,c)])=A7 Tx Ch.data ((F++[c]).map fun c=>(c.1,c))
  rw [AAQ]; rfl
 show Af _ _ _ _ [.dictS (BG (A7 Tx Ch.data (hK F)) (Tx c.1) (Ch.data c)),oG gs,oT (hts [] F)]
 rw [eH]
 refine Kj ?_
 let St:List (List Nat×Bool)->Aa:=fun gd=>[oH (F++[c]),oG gs,oT (hts [] F),oB gd]
 let K:Option V->Option V->Ah:=fun z3 z5=>[some self,some (vc c),some (vs c.1),z3,some (.ref 3),z5]
 refine AS (l:=c.2.1) (fun l=>vs l) (fun p ρ σ'=>∃ gd,(K0 F gd/\VL F p gd)/\(∃ z3 z5,ρ=K z3 z5)/\St gd=σ') (Bx (Ag rfl rfl (CC c)) rfl) ⟨[],⟨⟨ABY,(fun n h=>nomatch h)⟩,fun n=>⟨(fun h=>nomatch h),fun ⟨l,h,_⟩=>nomatch h⟩⟩,⟨z3,none,rfl⟩,rfl⟩ ?_ ?_
 ·rintro p l q ρ _ hp ⟨gd,⟨G,GI⟩,⟨z3,z5,rfl⟩,rfl⟩
  have hl:=h.lin l (by rw [hp]; simp)
  have hgl:=G.len
  refine DW (z:=AO) (y:=AO) (k:=3) (w:=Tx l) (dd:=.bool true) (kvs:=A7 Tx PyData.bool gd) rfl rfl rfl rfl (by rw [Bl]; exact AAS (AAC hgl hF) (by decide)) ?_
  rw [Bs PyData.bool BI]
  obtain ⟨ls,hls⟩:=AB.mpr (show l∈gs.map (·.1) by rw [w.gk]; exact hl)
  obtain ⟨pr,hpr,epr,epl⟩:∃ pr∈gs,pr.2=ls/\pr.1=l:=by
   unfold Ao at hls
   obtain ⟨pr,e1,e2⟩:=ABL.mp hls
   exact ⟨pr,ABH e1,e2,by simpa using List.find?_some e1⟩
  have hin:=w.gin pr hpr
  rw [epr,epl] at hin
  show Af _ _ _ (K (some (vs l)) z5) (St (BG gd l true))
  refine AS (l:=ls) (fun l=>vs l) (fun p' ρ σ'=>∃ gd,(K0 F gd/\∀ n,n∈gd.map (·.1) ↔ (∃ l∈p,n=l\/Blw F l n)\/n=l\/n∈p')/\(∃ z5,ρ=K (some (vs l)) z5)/\St gd=σ') (Bx (Ag (CV rfl) rfl (BV (kvs:=A7 Tx dl gs) rfl (by rw [AK dl BI,hls]; rfl))) rfl) ⟨_,⟨G.put hl,fun n=>by rw [FF,GI n]; simp [or_comm]⟩,⟨z5,rfl⟩,rfl⟩ ?_ ?_
  ·rintro p' l' q' ρ _ hp' ⟨gd,⟨G,GJ⟩,⟨z5,rfl⟩,rfl⟩
   have hgl:=G.len
   refine DW (z:=AO) (y:=AO) (k:=3) (w:=Tx l') (dd:=.bool true) (kvs:=A7 Tx PyData.bool gd) rfl rfl rfl rfl (by rw [Bl]; exact AAS (AAC hgl hF) (by decide)) (Ad ⟨_,rfl,BG gd l' true,⟨G.put (((hin.2 l').mp (by rw [hp']; simp)).names w.topo),fun n=>by
    rw [FF,GJ n,AA0,AAJ]
    constructor
    ·rintro (h | h | h | h)
     ·exact .inr (.inr (.inr h))
     ·exact .inl h
     ·exact .inr (.inl h)
     ·exact .inr (.inr (.inl h))
    ·rintro (h | h | h | h)
     ·exact .inr (.inl h)
     ·exact .inr (.inr (.inl h))
     ·exact .inr (.inr (.inr h))
     ·exact .inl h⟩,⟨_,rfl⟩,?_⟩)
   rw [Bs PyData.bool BI]; rfl
  ·rintro ρ _ ⟨gd,⟨G,GJ⟩,⟨z5,rfl⟩,rfl⟩
   refine Ad ⟨_,rfl,gd,⟨G,fun n=>?_⟩,⟨_,_,rfl⟩,rfl⟩
   rw [GJ n,hin.2 n]
   constructor
   ·rintro (⟨x,hx,h⟩ | h)
    ·exact ⟨x,AAU _ hx,h⟩
    ·exact ⟨l,AAW _ (.head _),h⟩
   ·rintro ⟨x,hx,h⟩
    rcases AA0.mp hx with hx | hx
    ·exact .inl ⟨x,hx,h⟩
    ·exact .inr (AAJ.mp hx▸h)
 rintro ρ _ ⟨gd,⟨G,GI⟩,⟨z3',z5,rfl⟩,rfl⟩
 have hgl:=AAC G.len hF
 have hkeys:=Vg (σ:=St gd) (k:=3) rfl (fun n hn=>hnm n (G.sub n hn)) hgl
 have hgs:gs.length<=60:=by have:=congrArg List.length w.gk; rw [AAB,AAB] at this; omega
 refine DW (z:=AO) (y:=AO) (k:=1) (w:=Tx c.1) (dd:=dl (Aj (gd.map (·.1)))) (kvs:=A7 Tx dl gs) (AI (A0 (AI (A0 rfl) hkeys)) (CO (by show some (((gd.map (·.1)).map fun t=>PyData.str (Tx t)).map V.d)=_; rw [AAE]; rfl) (by rw [AAB]; omega))) (CV rfl) rfl rfl (by rw [Bl]; exact AAS hgs (by decide)) ?_
 rw [Bs dl BI,FE (CR.mpr (by rw [w.gk]; exact h.new))]
 have hhl:(hts [] F).length<=60:=by have:=congrArg List.length (BD [] F); rw [AAB,AAF,AAB] at this; simp at this; omega
 have hget:∀ l∈c.2.1,Ao (hts [] F) l=some ((Ao (hts [] F) l).getD 0):=fun l hl=>by
  obtain ⟨v,hv⟩:=AB.mpr (show l∈(hts [] F).map (·.1) by rw [BD]; exact h.lin l hl)
  rw [hv]; rfl
 have hcomp:(ev (C0 4).O (.comp (.sub (.attr (ACB "heights") (.var 0)) (.var 3)) [3] (.sub (.var 1) (.cst (.int 1))) .nil)).v (K z3' z5) [oH (F++[c]),oG (gs++[(c.1,Aj (gd.map (·.1)))]),oT (hts [] F),oB gd]=some (.d (.list (c.2.1.map fun l=>.int ((Ao (hts [] F) l).getD 0)))):=by
  rw [CD (l:=c.2.1) (fun t=>.str (Tx t)) (fun _=>true) (fun l=>.int ((Ao (hts [] F) l).getD 0)) (Bx (Ag rfl rfl (CC c)) rfl) (AAC h.few (by decide)) (fun _ _=>rfl) (fun l hl _=>Ag (DK rfl) rfl (BV (k:=2) (kvs:=A7 Tx PyData.int (hts [] F)) rfl (by rw [AK PyData.int BI,hget l hl]; rfl))),Bk]
 have hmax:(ev (C0 4).O (.maxd (.comp (.sub (.attr (ACB "heights") (.var 0)) (.var 3)) [3] (.sub (.var 1) (.cst (.int 1))) .nil) (.neg (.cst (.int 1))))).v (K z3' z5) [oH (F++[c]),oG (gs++[(c.1,Aj (gd.map (·.1)))]),oT (hts [] F),oB gd]=some (vi (Ef (-1) (c.2.1.map fun l=>(Ao (hts [] F) l).getD 0))):=by
  show ((ev (C0 4).O (.comp _ _ _ _)).v _ _).bind _=_
  rw [hcomp,bs]
  show (Ct Ci ((c.2.1.map fun l=>PyData.int ((Ao (hts [] F) l).getD 0)).map V.d)).bind _=_
  rw [show (c.2.1.map fun l=>PyData.int ((Ao (hts [] F) l).getD 0)).map V.d=(c.2.1.map fun l=>(Ao (hts [] F) l).getD 0).map vi by rw [AAE,AAE]; rfl,Jr]
  rfl
 refine DW (z:=AO) (y:=AO) (k:=2) (w:=Tx c.1) (dd:=.int (hv (hts [] F) c.2.1)) (kvs:=A7 Tx PyData.int (hts [] F)) ((Ai rfl hmax rfl).trans ?_) (DK rfl) rfl rfl (by rw [Bl]; exact AAS hhl (by decide)) (Ad ⟨gd,⟨G,GI⟩,rfl,?_⟩)
 ·rw [SQ,AAE]; rfl
 ·rw [Bs PyData.int BI,FE (CR.mpr (by rw [BD]; exact h.new)),FW]; rfl
end Mine
namespace Mine
open PySem
theorem Fa {F:List Ch} {gs:Gsl} {hs:List (List Nat×Int)} (m k:Nat) (o:O) (e:(W F gs hs)[k]? = some o):E2 m o:=by
 match k,e with
 | 0,e=>rw [<-AAA (show some (oH F)=some o from e)]; exact trivial
 | 1,e=>rw [<-AAA (show some (oG gs)=some o from e)]; exact trivial
 | 2,e=>rw [<-AAA (show some (oT hs)=some o from e)]; exact trivial
 | k+3,e=>exact Ac e
theorem DF:low 3 self:=fun k hk=>by
 have:k∈[0,1,2]:=hk
 simp at this; omega
theorem Rr {F:List Ch} {gs:Gsl} (w:Jh F gs) (c:Ch) (h:Sh F c):∃ gs',Jh (F++[c]) gs'/\∀ τ,FN 5 36 [self,vc c] (W F gs (hts [] F)++τ) AO (W (F++[c]) gs' (hts [] (F++[c]))++τ):=by
 obtain ⟨v,σ',⟨gd,⟨G,GI⟩,k1,k2⟩,hf⟩:=FN.ends (C:=C0 4) (f:=36) (fn:=Ee) (zs:=[self,vc c]) (σ:=W F gs (hts [] F)) (R:=fun v σ'=>∃ gd,(K0 F gd/\VL F c.2.1 gd)/\v=AO/\σ'=W (F++[c]) (gs++[(c.1,Aj (gd.map (·.1)))]) (hts [] (F++[c]))++[oB gd]) (by unfold Pg; rfl) rfl (show 1<=4 by decide) (SA w c h)
 rw [k1,k2] at hf
 have sub:∀ l,l∈F.map (·.1)->l∈(F++[c]).map (·.1):=fun l hl=>by rw [AAQ]; exact AAU _ hl
 have nd':((F++[c]).map (·.1)).Nodup:=by
  rw [AAQ,ABW]
  exact ⟨w.nd,ABX.mpr ⟨AA1,ABY⟩,fun a ha b hb e=>h.new (by have hb:b=c.1:=AAJ.mp hb; rw [<-hb,<-e]; exact ha)⟩
 refine ⟨gs++[(c.1,Aj (gd.map (·.1)))],⟨nd',w.topo.snoc h.lin,fun x hx=>?_,?_,?_,fun p hp=>?_⟩,fun τ=>?_⟩
 ·rcases AA0.mp hx with hx | hx
  ·exact w.gen x hx
  ·rw [AAJ.mp hx]; exact h.toGenCh
 ·rw [AAF]; exact h.room
 ·rw [AAQ,AAQ,w.gk]; rfl
 ·rcases AA0.mp hp with hp | hp
  ·have hp1:p.1∈F.map (·.1):=by rw [<-w.gk]; exact AAZ hp
   exact ⟨(w.gin p hp).1,fun l=>((w.gin p hp).2 l).trans (Blw.snoc w.topo h.new hp1).symm⟩
  ·rw [AAJ.mp hp]
   refine ⟨⟨?_,BM _ G.nd⟩,fun l=>?_⟩
   ·show (Aj _).length<=60
    rw [(An _).length_eq,AAB]; exact AAC G.len w.len
   ·show l∈Aj _ ↔ Blw (F++[c]) c.1 l
    rw [(An _).mem_iff,GI l,Blw.step (F:=F++[c]) nd' (AAW _ (.head _))]
    refine exists_congr fun x=>and_congr_right fun hx=>or_congr Iff.rfl (Blw.snoc w.topo h.new (h.lin x hx)).symm
 ·exact FN.tail (FN.seal' (σ:=W F gs (hts [] F)) (τ:=[oB gd]) (d:=.none) hf rfl (Fa 3) rfl) rfl (all_cons DF (all_cons (Cm _ _) A9)) (Fa 3)
theorem MY {nm:List Nat} {ms:List Mk}:∀ {ds:List AH} {k:Nat},DOk nm ms ds k->∀ pre d post,ds=pre++d::post->∀ m,d.mark=some m->m∈ms\/(m.1=nm/\0<=m.2/\m.2 < ((k+adds pre:Nat):Int))
 | [],_,_,pre,d,post,e=>by simp at e
 | a::ds,k,h,[],d,post,e=>by
  obtain ⟨rfl,_⟩:=List.cons.inj e
  exact h.1
 | a::ds,k,h,b::pre,d,post,e=>by
  obtain ⟨rfl,e2⟩:=List.cons.inj e
  intro m hm
  have:=MY h.2 pre d post e2 m hm
  have e1:(if AV a then k+1 else k)+adds pre=k+adds (a::pre):=by
   show _=k+((if AV a then 1 else 0)+adds pre)
   split <;> omega
  rw [e1] at this; exact this
theorem Jp {cs:List Ch} (nd:(cs.map (·.1)).Nodup) {a b:Ch} (ha:a∈cs) (hb:b∈cs) (e:a.1=b.1):a=b:=by
 have h1:=Pb nd ha
 rw [e,Pb nd hb] at h1
 exact (AAA h1).symm
theorem HY {pre:List Ch} {ls:List (List Nat)} {m:Mk} (h:m∈Dc pre ls):∃ c'∈pre,c'.1∈ls/\c'.1=m.1/\0<=m.2/\m.2 < (adds c'.2.2:Int):=by
 obtain ⟨c',h1,h2⟩:=List.mem_flatMap.mp h
 have h1:=AA4.mp h1
 have h3:=HO.mp h2
 exact ⟨c',h1.1,AAG h1.2,h3.1.symm,by have:=h3.2.1; simpa using this,by have:=h3.2.2; simpa using this⟩
theorem RT {cs F pre post:List Ch} {c:Ch} (H:BE cs) (hg:∀ c∈cs,GenCh c) (hl:cs.length<=60) (hp:F.Perm cs) (ht:BR F) (e:F=pre++c::post):Sh pre c:=by
 have hc:c∈cs:=hp.mem_iff.mp (by rw [e]; simp)
 have hpre:∀ x∈pre,x∈cs:=fun x hx=>hp.mem_iff.mp (by rw [e]; exact AAU _ hx)
 obtain ⟨a,b,ec⟩:=AB7 hc
 obtain ⟨h1,h2⟩:=H.ok a c b ec
 have ha:∀ x∈a,x∈cs:=fun x hx=>by rw [ec]; exact AAU _ hx
 have ndF:(F.map (·.1)).Nodup:=(hp.map _).nodup_iff.mpr H.nd
 have lin:=ht pre c post e
 have self':c.1∉c.2.1:=fun q=>by
  have nd:=H.nd
  rw [ec,AAQ,ABP,ABW] at nd
  exact nd.2.2 c.1 (h1 c.1 q) c.1 (.head _) rfl
 refine ⟨⟨hg c hc,fun l hl=>?_,self',fun d hd m hm=>?_⟩,?_,lin,fun p d q ed m hm=>?_,?_⟩
 ·obtain ⟨x,hx,rfl⟩:=AAP.mp (lin l hl)
  exact (hg x (hpre x hx)).name
 ·obtain ⟨p,q,ed⟩:=AB7 hd
  rcases MY h2 p d q ed m hm with q | q
  ·obtain ⟨c',_,k1,k2,_⟩:=HY q
   exact .inr (k2▸k1)
  ·exact .inl q.1
 ·rw [e,AAQ,ABP,ABW] at ndF
  exact fun q=>ndF.2.2 c.1 q c.1 (.head _) rfl
 ·rcases MY h2 p d q ed m hm with q | q
  ·obtain ⟨c',k0,k1,k2,k3,k4⟩:=HY q
   obtain ⟨x,hx,ex⟩:=AAP.mp (lin c'.1 k1)
   obtain rfl:=Jp H.nd (hpre x hx) (ha c' k0) ex
   exact .inr ⟨fun q=>self' (by rw [<-q,<-k2]; exact k1),x,hx,k2,k3,k4⟩
  ·exact .inl ⟨q.1,q.2.1,by have:=q.2.2; rwa [Nat.zero_add] at this⟩
 ·have:=hp.length_eq
  rw [e,AAF,AA2] at this; omega
theorem Lo {cs F:List Ch} (H:BE cs) (hg:∀ c∈cs,GenCh c) (hl:cs.length<=60) (hp:F.Perm cs) (ht:BR F):∃ gs,Jh F gs/\FN 6 27 [.d (.list (F.map Ch.data))] [] self (W F gs (hts [] F)):=by
 obtain ⟨v,σ',⟨gs,k1,k2,k3⟩,h⟩:=FN.ends (C:=C0 5) (f:=27) (fn:=Sa) (zs:=[.d (.list (F.map Ch.data))]) (σ:=[]) (R:=fun v σ'=>∃ gs,Jh F gs/\v=self/\σ'=W F gs (hts [] F)) (by unfold Pg; rfl) rfl (show 1<=5 by decide) (by
  show Af _ _ _ [some (.d (.list (F.map Ch.data))),none,none] []
  refine AA (v:=self) (σ':=W [] [] []) rfl (.new (f:=35) (nv:=1) (by unfold mtP; kernel_rfl) (by unfold Pg; rfl)) ?_
  refine AS (l:=F) vc (fun p ρ σ=>∃ gs,Jh p gs/\(∃ z,ρ=[some (.d (.list (F.map Ch.data))),some self,z])/\W p gs (hts [] p)=σ) (FR rfl) ⟨[],⟨ABY,fun pre c post e=>by simp at e,(fun c h=>nomatch h),ABF _,rfl,fun p h=>nomatch h⟩,⟨none,rfl⟩,rfl⟩ ?_ ?_
  ·rintro p c q ρ _ e ⟨gs,w,⟨z,rfl⟩,rfl⟩
   have A:=RT H hg hl hp ht e
   obtain ⟨gs',w',hf⟩:=Rr w c A
   exact BA (v:=AO) rfl (.mcall (f:=36) Ay (by unfold mtP; kernel_rfl) ((Ae (C0 5).ok (.var 1)).v rfl) (.cons (.fcall ((Ae (C0 5).ok _).row rfl) ((NU c (AAC A.few (by decide)) (AAC A.deeds (by decide))).more (by decide))) .nil) (hf [])) (Ad ⟨_,rfl,gs',w',⟨_,rfl⟩,(AAV _).symm⟩)
  ·rintro ρ _ ⟨gs,w,⟨z,rfl⟩,rfl⟩
   exact A3 (v:=self) rfl ⟨gs,w,rfl,rfl⟩)
 rw [k2,k3] at h
 exact ⟨gs,k1,h⟩
end Mine
namespace Mine
open PySem
noncomputable def ltI (a b:Int):Bool:=decide (a < b)
theorem Ew {κ κ' α α':Type} {lt:κ->κ->Bool} {lt':κ'->κ'->Bool} (f:κ×α->κ'×α') (h:∀ p q,lt' (f p).1 (f q).1=lt p.1 q.1) (l:List (κ×α)):AC lt' (l.map f)=(AC lt l).map f:=by
 have ins:∀ (p:κ×α) (l:List (κ×α)),Cu lt' (f p) (l.map f)=(Cu lt p l).map f:=by
  intro p l
  induction l with
  | nil=>rfl
  | cons q r ih =>
   show (if lt' (f q).1 (f p).1 then f q::Cu lt' (f p) (r.map f) else f p::f q::r.map f)=(if lt q.1 p.1 then q::Cu lt p r else p::q::r).map f
   rw [h,ih]
   split <;> rfl
 induction l with
 | nil=>rfl
 | cons p r ih =>
  show Cu lt' (f p) (AC lt' (r.map f))=(Cu lt p (AC lt r)).map f
  rw [ih,ins]
noncomputable def ltN (a b:List Nat):Bool:=decide (a < b)
theorem X3:RX ltN:=⟨fun a=>AAT (List.lt_irrefl a),fun a b c h h'=>AAI (List.lt_trans (AAG h) (AAG h')),fun a b h h'=>List.le_antisymm (List.not_lt.mp (ABG h')) (List.not_lt.mp (ABG h))⟩
theorem X4:RX ltI:=⟨fun a=>AAT (Int.lt_irrefl a),fun a b c h h'=>AAI (Int.lt_trans (AAG h) (AAG h')),fun a b h h'=>by have:=ABG h; have:=ABG h'; omega⟩
noncomputable def AD (cs:List Ch):List Ch:=((AC ltN (cs.map fun c=>(c.1,c)).reverse).reverse).map (·.2)
noncomputable def Al (cs:List Ch):List Ch:=(AC ltI ((AD cs).map fun c=>(hgt cs c.1,c))).map (·.2)
theorem EA (cs:List Ch):(AD cs).Perm cs:=by
 have h:=((List.reverse_perm _).trans ((Bj (lt:=ltN) (cs.map fun c=>(c.1,c)).reverse).trans (List.reverse_perm _))).map (·.2)
 rw [AAE,show ((fun x:List Nat×Ch=>x.2)∘fun c:Ch=>(c.1,c))=id from rfl,List.map_id] at h
 exact h
theorem Gg {cs:List Ch} (hn:(cs.map (·.1)).Nodup):(AD cs).Pairwise fun a b=>b.1 < a.1:=by
 have h0:(cs.map fun c=>(c.1,c)).reverse.Pairwise fun a b:List Nat×Ch=>a.1≠b.1:=by
  rw [List.pairwise_reverse,List.pairwise_map]
  have:=hn
  rw [List.Nodup,List.pairwise_map] at this
  exact this.imp fun h e=>h e.symm
 have h1:=Eu X3 _ h0
 unfold AD
 rw [List.pairwise_map,List.pairwise_reverse]
 refine h1.imp_of_mem fun {a b} ha hb h=>?_
 have key:∀ x:List Nat×Ch,x∈AC ltN (cs.map fun c=>(c.1,c)).reverse->x.1=x.2.1:=fun x hx=>by
  have:=List.mem_reverse.mp ((Bj _).mem_iff.mp hx)
  obtain ⟨c,_,rfl⟩:=AAP.mp this
  rfl
 rcases h with h | h
 ·rw [<-key a ha,<-key b hb]; exact AAG h
 ·exact (h.2 h.1).elim
theorem Ck {cs:List Ch} (hn:(cs.map (·.1)).Nodup):JE (hgt cs) cs (Al cs):=by
 have h0:((AD cs).map fun c=>(hgt cs c.1,c)).Pairwise fun a b:Int×Ch=>b.2.1 < a.2.1:=by
  rw [List.pairwise_map]; exact Gg hn
 refine ⟨?_,?_⟩
 ·have h:=(Bj (lt:=ltI) ((AD cs).map fun c=>(hgt cs c.1,c))).map (·.2)
  rw [AAE,show ((fun x:Int×Ch=>x.2)∘fun c:Ch=>(hgt cs c.1,c))=id from rfl,List.map_id] at h
  have h2:(Al cs).Perm (AD cs):=h
  exact h2.trans (EA cs)
 ·have h1:=Eu X4 _ h0
  unfold Al
  rw [List.pairwise_map]
  refine h1.imp_of_mem fun {a b} ha hb h=>?_
  have key:∀ x:Int×Ch,x∈AC ltI ((AD cs).map fun c=>(hgt cs c.1,c))->x.1=hgt cs x.2.1:=fun x hx=>by
   obtain ⟨c,_,rfl⟩:=AAP.mp ((Bj _).mem_iff.mp hx)
   rfl
  unfold Bf
  rw [<-key a ha,<-key b hb]
  exact h.imp AAG id
theorem Kd {F:List Ch} (nd:(F.map (·.1)).Nodup) (ht:BR F) {c:Ch} (hc:c∈F):hgt F c.1=Ef 0 (c.2.1.map fun l=>hgt F l+1):=by
 obtain ⟨pre,post,rfl⟩:=AB7 hc
 have nd':=nd
 rw [AAQ,ABP,ABW] at nd'
 have hn:Ao (hts [] pre) c.1=none:=CR.mpr (by rw [BD]; exact fun q=>nd'.2.2 c.1 q c.1 (.head _) rfl)
 have old:∀ {n v},Ao (hts [] pre++[(c.1,hv (hts [] pre) c.2.1)]) n=some v->hgt (pre++c::post) n=v:=fun {n v} e=>by
  unfold hgt
  rw [FW,hts,Kc e]; rfl
 rw [old (v:=hv (hts [] pre) c.2.1) (by rw [EP hn,AX,if_pos rfl])]
 unfold hv
 congr 1
 refine List.map_congr_left fun l hl=>?_
 obtain ⟨v,hv'⟩:=AB.mpr (show l∈(hts [] pre).map (·.1) by rw [BD]; exact ht pre c post rfl l hl)
 rw [old (Iq hv'),hv']; rfl
theorem Io {F G:List Ch} (nd:(F.map (·.1)).Nodup) (hp:G.Perm F) (hF:BR F) (hG:BR G):∀ c∈F,hgt F c.1=hgt G c.1:=by
 have ndG:(G.map (·.1)).Nodup:=(hp.map _).nodup_iff.mpr nd
 have key:∀ (post pre:List Ch),F=pre++post->(∀ c∈pre,hgt F c.1=hgt G c.1)->∀ c∈F,hgt F c.1=hgt G c.1:=by
  intro post
  induction post with
  | nil=>intro pre e h; rw [AAV] at e; rw [e] at h ⊢; exact h
  | cons x post ih =>
   intro pre e h
   refine ih (pre++[x]) (by rw [ABQ]; exact e) fun c hc=>?_
   rcases AA0.mp hc with hc | hc
   ·exact h c hc
   ·rw [AAJ.mp hc]
    have hx:x∈F:=by rw [e]; simp
    rw [Kd nd hF hx,Kd ndG hG (hp.mem_iff.mpr hx)]
    congr 1
    refine List.map_congr_left fun l hl=>?_
    obtain ⟨y,hy,rfl⟩:=AAP.mp (hF pre x post e l hl)
    rw [h y hy]
 exact key F [] rfl fun c h=>nomatch h
theorem BE.topo {cs:List Ch} (H:BE cs):BR cs:=fun pre c post e=>(H.ok pre c post e).1
theorem Qf {F G:List Ch} (nd:(F.map (·.1)).Nodup) (hp:G.Perm F) (hF:BR F) (hG:BR G):Al G=Al F:=by
 have ndG:(G.map (·.1)).Nodup:=(hp.map _).nodup_iff.mpr nd
 have h1:=Ck nd
 have h2:=Ck ndG
 refine JE.uniq (H:=hgt F) (cs:=F) ⟨h2.perm.trans hp,h2.bf.imp_of_mem fun {a b} ha hb h=>?_⟩ h1
 have ea:=Io nd hp hF hG a (hp.mem_iff.mp (h2.perm.mem_iff.mp ha))
 have eb:=Io nd hp hF hG b (hp.mem_iff.mp (h2.perm.mem_iff.mp hb))
 unfold Bf at h ⊢
 rw [ea,eb]; exact h
end Mine
namespace Mine
open PySem
theorem EO {C:Cfg} {P:Fl->Aa->Prop} {r body:S} {ρ:Ah} {σ σ₁:Aa} {it:E} {x:Nat} {α:Type} {l:List α} (w:α->V) (J:List α->Ah->Aa->Prop) (hit:SI C.n it ρ σ (l.map w) [] σ₁) (hJ:J [] ρ σ₁)
 (hf:∀ p a q ρ σ,l=p++a::q->J p ρ σ->Af C (fun fl σ'=>∃ ρ',fl=.next ρ'/\J (p++[a]) ρ' σ') body (ρ.set x (some (w a))) σ) (k:∀ ρ' σ',J l ρ' σ'->Af C P r ρ' σ'):Af C P (.cons (.for_ [x] it body) r) ρ σ:=by
 obtain ⟨ρe,σe,h1,h2⟩:=Nd (C:=C) (body:=body) (ts:=[x]) (kps:=[]) w J l [] ρ σ₁ (fun _ _ _ _ _ _ m=>nomatch m) (fun _ _=>.inl rfl) hJ hf
 exact Cq (fl:=.next ρe) (fun Q q=>.for_ hit (h2 Q q)) (k ρe σe h1)
theorem Ix (cs:List Ch) (hg:∀ c∈cs,c.2.1.length<=60) (hl:cs.length<=60) (nd:(cs.map (·.1)).Nodup) (ht:BR cs):FN 2 19 [.d (.list (cs.map Ch.data))] [] (.ref 0) [oT (hts [] cs)]:=by
 exact FN.same (C:=C0 1) (fn:=LW) (by unfold Pg; rfl) rfl (AAL _) (by
  show Af _ _ _ [some (.d (.list (cs.map Ch.data))),none,none,none] []
  refine Kj ?_
  refine AS (l:=cs) vc (fun p ρ σ=>(∃ z2 z3,ρ=[some (.d (.list (cs.map Ch.data))),some (.ref 0),z2,z3])/\[oT (hts [] p)]=σ) (FR rfl) ⟨⟨none,none,rfl⟩,rfl⟩ ?_ ?_
  ·rintro p c q ρ _ e ⟨⟨z2,z3,rfl⟩,rfl⟩
   have hc:c∈cs:=by rw [e]; simp
   have hget:∀ l∈c.2.1,Ao (hts [] p) l=some ((Ao (hts [] p) l).getD 0):=fun l hl=>by
    obtain ⟨v,hv⟩:=AB.mpr (show l∈(hts [] p).map (·.1) by rw [BD]; exact ht p c q e l hl)
    rw [hv]; rfl
   have hcomp:(ev (C0 1).O (.comp (.bin .Add (.sub (.var 1) (.var 3)) (.cst (.int 1))) [3] (.sub (.var 2) (.cst (.int 1))) .nil)).v [some (.d (.list (cs.map Ch.data))),some (.ref 0),some (vc c),z3] [oT (hts [] p)]=some (.d (.list (c.2.1.map fun l=>.int ((Ao (hts [] p) l).getD 0+1)))):=by
    rw [CD (l:=c.2.1) (fun t=>.str (Tx t)) (fun _=>true) (fun l=>.int ((Ao (hts [] p) l).getD 0+1)) (Bx (Ag rfl rfl (CC c)) rfl) (AAC (hg c hc) (by decide)) (fun _ _=>rfl) (fun l hl _=>Ai (Ag rfl rfl (BV (k:=0) (kvs:=A7 Tx PyData.int (hts [] p)) rfl (by rw [AK PyData.int BI,hget l hl]; rfl))) rfl rfl),Bk]
   have hmax:(ev (C0 1).O (.maxd (.comp (.bin .Add (.sub (.var 1) (.var 3)) (.cst (.int 1))) [3] (.sub (.var 2) (.cst (.int 1))) .nil) (.cst (.int 0)))).v [some (.d (.list (cs.map Ch.data))),some (.ref 0),some (vc c),z3] [oT (hts [] p)]=some (vi (hv (hts [] p) c.2.1)):=by
    show ((ev (C0 1).O (.comp _ _ _ _)).v _ _).bind _=_
    rw [hcomp,bs]
    show (Ct Ci ((c.2.1.map fun l=>PyData.int ((Ao (hts [] p) l).getD 0+1)).map V.d)).bind _=_
    rw [show (c.2.1.map fun l=>PyData.int ((Ao (hts [] p) l).getD 0+1)).map V.d=(c.2.1.map fun l=>(Ao (hts [] p) l).getD 0+1).map vi by rw [AAE,AAE]; rfl,Jr]
    rfl
   have hpl:(hts [] p).length<=60:=by
    have h1:=congrArg List.length (BD [] p)
    have h2:=congrArg List.length e
    simp at h1 h2; omega
   refine DW (z:=AO) (y:=AO) (k:=0) (w:=Tx c.1) (dd:=.int (hv (hts [] p) c.2.1)) (kvs:=A7 Tx PyData.int (hts [] p)) hmax rfl (Ag rfl rfl (AL c)) rfl (by rw [Bl]; exact AAS hpl (by decide)) (Ad ⟨_,rfl,⟨_,_,rfl⟩,?_⟩)
   rw [Bs PyData.int BI,FE (CR.mpr ?_),FW]
   ·rfl
   ·rw [BD]
    rw [e,AAQ,ABP,ABW] at nd
    exact fun q=>nd.2.2 c.1 q c.1 (.head _) rfl
  ·rintro ρ _ ⟨⟨z2,z3,rfl⟩,rfl⟩
   exact A3 (v:=.ref 0) rfl ⟨rfl,rfl⟩)
noncomputable abbrev Sm:=List Mk×List (Mk×List Nat)×List (Mk×Bool)
noncomputable def stD (nm:List Nat) (k:Nat) (d:AH) (s:Sm):Sm :=
 if AV d then (Hk d.mark (nm,(k:Int)) s.1,BG s.2.1 (nm,(k:Int)) (d.text.getD []),s.2.2)
 else if d.word=G6 then (s.1,BG s.2.1 (d.mark.getD ([],0)) (d.text.getD []),s.2.2) else (s.1,s.2.1,BG s.2.2 (d.mark.getD ([],0)) true)
noncomputable def Fi (nm:List Nat):List AH->Nat->Sm->Sm
 | [],_,s=>s
 | d::ds,k,s=>Fi nm ds (if AV d then k+1 else k) (stD nm k d s)
noncomputable def stC (s:Sm) (c:Ch):Sm:=Fi c.1 c.2.2 0 s
noncomputable def Ax (O:List Ch):Sm:=O.foldl stC ([],[],[])
theorem DA (nm:List Nat) (d:AH):∀ (D:List AH) (k:Nat) (s:Sm),Fi nm (D++[d]) k s=stD nm (k+adds D) d (Fi nm D k s)
 | [],k,s=>rfl
 | e::D,k,s=>by
  show Fi nm (D++[d]) (if AV e then k+1 else k) (stD nm k e s)=stD nm (k+((if AV e then 1 else 0)+adds D)) d (Fi nm D (if AV e then k+1 else k) (stD nm k e s))
  rw [DA nm d D]
  congr 1
  split <;> omega
theorem S0 (nm:List Nat) (k:Nat) (d:AH) (s:Sm):(stD nm k d s).1=if AV d then Hk d.mark (nm,(k:Int)) s.1 else s.1:=by
 unfold stD
 split
 ·rfl
 ·split <;> rfl
theorem F6 (nm:List Nat):∀ (ds:List AH) (k:Nat) (s:Sm),(Fi nm ds k s).1=Gy nm ds k s.1
 | [],_,_=>rfl
 | d::ds,k,s=>by
  show (Fi nm ds _ (stD nm k d s)).1=if AV d then Gy nm ds (k+1) (Hk d.mark (nm,(k:Int)) s.1) else Gy nm ds k s.1
  rw [F6,S0]
  split <;> rfl
theorem HD (O:List Ch) (c:Ch):Ax (O++[c])=stC (Ax O) c:=by
 unfold Ax
 rw [List.foldl_append]; rfl
theorem Gv (O:List Ch):(Ax O).1=HI O []:=by
 have key:∀ (O:List Ch) (s:Sm),(O.foldl stC s).1=HI O s.1:=by
  intro O
  induction O with
  | nil=>exact fun _=>rfl
  | cons c O ih =>
   intro s
   show (O.foldl stC (stC s c)).1=HI O (Gy c.1 c.2.2 0 s.1)
   rw [ih,show (stC s c).1=Gy c.1 c.2.2 0 s.1 from F6 ..]
 exact key O _
theorem Kf {κ β:Type} [DecidableEq κ] {h:List (κ×β)} {k k':κ} {v:β} (e:k'=k\/∃ l,Ao h k'=some l):∃ l,Ao (BG h k v) k'=some l:=by
 rw [AB,FF]
 rcases e with e | e
 ·exact .inl e
 ·exact .inr (AB.mp e)
structure D5 (B:Nat) (s:Sm):Prop where
 row:s.1.length<=B
 wd:s.2.1.length<=B
 gn:s.2.2.length<=B
 has:∀ m∈s.1,∃ l,Ao s.2.1 m=some l
theorem D5.step {B:Nat} {s:Sm} (h:D5 B s) (nm:List Nat) (k:Nat) (d:AH):D5 (B+1) (stD nm k d s):=by
 unfold stD
 split
 ·refine ⟨?_,AAC (EK _ _ _) (ABS h.wd),AB4 h.gn,fun m hm=>?_⟩
  ·show (Hk _ _ _).length<=_
   rw [(DG ..).length_eq,AA2]; exact ABS h.row
  ·rcases AAR.mp ((DG ..).mem_iff.mp hm) with q | q
   ·exact Kf (.inl q)
   ·exact Kf (.inr (h.has m q))
 ·split
  ·exact ⟨AB4 h.row,AAC (EK _ _ _) (ABS h.wd),AB4 h.gn,fun m hm=>Kf (.inr (h.has m hm))⟩
  ·exact ⟨AB4 h.row,AB4 h.wd,AAC (EK _ _ _) (ABS h.gn),h.has⟩
noncomputable abbrev Fh (l:List Nat):PyData:=.str (Tx l)
noncomputable abbrev oR (r:List Mk):O:=.list (r.map vm)
noncomputable abbrev oW (wd:List (Mk×List Nat)):O:=.dictP (A7 mk2 Fh wd)
noncomputable abbrev oN (gn:List (Mk×Bool)):O:=.dictP (A7 mk2 PyData.bool gn)
noncomputable abbrev three (s:Sm):Aa:=[oR s.1,oW s.2.1,oN s.2.2]
theorem Kn {q:Mk->Bool} {nm:List Nat} {d:AH} {D2:List AH} (hd:AV d=true):∀ (D1:List AH) (k:Nat) (r:List Mk),GL q nm (D1++d::D2) k r->∀ m,d.mark=some m->m∈Gy nm D1 k r
 | [],k,r,h,m,hm=>by
  have h:(if AV d then (∀ m,d.mark=some m->q m=true/\m∈r)/\GL q nm D2 (k+1) (Hk d.mark (nm,(k:Int)) r) else GL q nm D2 k r):=h
  rw [if_pos hd] at h
  exact (h.1 m hm).2
 | e::D1,k,r,h,m,hm=>by
  have h:(if AV e then (∀ m,e.mark=some m->q m=true/\m∈r)/\GL q nm (D1++d::D2) (k+1) (Hk e.mark (nm,(k:Int)) r) else GL q nm (D1++d::D2) k r):=h
  show m∈if AV e then Gy nm D1 (k+1) (Hk e.mark (nm,(k:Int)) r) else Gy nm D1 k r
  by_cases he:AV e=true
  ·rw [if_pos he] at h ⊢
   exact Kn hd D1 _ _ h.2 m hm
  ·rw [if_neg he] at h ⊢
   exact Kn hd D1 _ _ h m hm
theorem IF {d:AH} (h:CB d):(AV d=true/\d.word=FQ/\∃ l,d.text=some l)\/(AV d=false/\d.word=G6/\∃ m l,d.mark=some m/\d.text=some l)\/(AV d=false/\d.word=Ig/\∃ m,d.mark=some m):=by
 rcases h.shp with ⟨e,l,e2,_⟩ | ⟨e,m,l,e2,e3,_⟩ | ⟨e,m,e2⟩
 ·exact .inl ⟨AAI e,e,l,e2⟩
 ·exact .inr (.inl ⟨AAT (by rw [e]; exact Vf),e,m,l,e2,e3⟩)
 ·exact .inr (.inr ⟨AAT (by rw [e]; exact Ve),e,m,e2⟩)
theorem QN {m:Option Mk} {x:Mk} {row:List Mk} (hm:∀ k,m=some k->k∈row):∃ a:Nat,a<=row.length/\row.take a++x::row.drop a=Hk m x row/\(m=none->a=0)/\∀ k,m=some k->∃ j,a=j+1/\FV (A1 (some k)) (row.map fun m=>A1 (some m))=some j:=by
 cases m with
 | none=>exact ⟨0,ABF _,rfl,fun _=>rfl,fun k e=>Ac e⟩
 | some k =>
  obtain ⟨j,j1,j2,j3⟩:=NN k x row (hm k rfl)
  exact ⟨j+1,j2,j3,fun e=>Ho e,fun k' e=>AAA e▸⟨j,rfl,j1⟩⟩
end Mine
namespace Mine
open PySem
noncomputable def Qz:S:=match MX.body with | .cons _ (.cons _ (.cons _ (.cons (.for_ _ _ b) _)))=>b | _=>.nil
noncomputable def Uj:S:=match Qz with | .cons _ (.cons (.for_ _ _ b) _)=>b | _=>.nil
theorem Uq {O:Orc} {ρ:Ah} {σ:Aa} {i:Nat} {es:E} {k:Nat} {ys:List V} {v:V} (h1:B2 ρ i=some (.ref k)) (h2:(ev O es).row ρ σ=some ys) (h3:Ik σ (.ref k) ys=some v):(ev O (.meth .index (.var i) es)).v ρ σ=some v:=by
 show ((B2 ρ i).bind fun x=>((ev O es).row ρ σ).bind fun ys=>Ik σ x ys)=_
 rw [h1,bs,h2,bs]; exact h3
section
variable {C:Cfg} {o0:O} {a0 a1 a2 z9 z10 z11:Option V} {c:Ch} {d:AH} {s:Sm} {own B:Nat}
theorem Mc (hd:CB d) (hm:AV d=true->∀ m,d.mark=some m->m∈s.1) (hs:D5 B s) (hB:B<=10000) :
 Af C (fun fl σ'=>∃ ρ',fl=.next ρ'/\(∃ z10,ρ'=[a0,a1,a2,some (vc c),some (.ref 1),some (.ref 2),some (.ref 3),some (vi ((own+(if AV d then 1 else 0):Nat):Int)),some (.d d.data),z9,z10,z11])/\σ'=o0::three (stD c.1 own d s))
  Uj [a0,a1,a2,some (vc c),some (.ref 1),some (.ref 2),some (.ref 3),some (vi own),some (.d d.data),z9,z10,z11] (o0::three s):=by
 obtain ⟨row,wd,gn⟩:=s
 have hx:∀ {ρ:Ah} {σ:Aa},B2 ρ 8=some (.d d.data)->(ev C.O (.sub (.var 8) (.cst (.int 1)))).v ρ σ=some (.d (A1 d.mark)):=fun h=>Ag h rfl (CF d)
 have hw:∀ {ρ:Ah} {σ:Aa} {s:String} {k:List Nat},Str.ofString s=Tx k->B2 ρ 8=some (.d d.data)->C.t (.cmp .Eq (.sub (.var 8) (.cst (.int 0))) (.cst (.str (Str.ofString s)))) ρ σ=some (decide (d.word=k)):=fun e h=>Aq (Ag h rfl (CE d)) (congrArg (fun s=>some (V.d (.str s))) e) Fu
 have htup:∀ {z10:Option V} {σ:Aa},(ev C.O (.tup (.cons (.sub (.var 3) (.cst (.int 0))) (.cons (.var 7) .nil)))).v [a0,a1,a2,some (vc c),some (.ref 1),some (.ref 2),some (.ref 3),some (vi own),some (.d d.data),z9,z10,z11] σ=some (vm (c.1,(own:Int))):=Cv (AY (Ag rfl rfl (AL c)) rfl) rfl
 have hwl:wd.length < line:=AAS (AAC hs.wd hB) (by decide)
 have hgl:gn.length < line:=AAS (AAC hs.gn hB) (by decide)
 have hrl:row.length < line:=AAS (AAC hs.row hB) (by decide)
 rcases IF hd with ⟨ia,e1,l,e2⟩ | ⟨ia,e1,m,l,e2,e3⟩ | ⟨ia,e1,m,e2⟩
 ·refine Ip (hw Eg rfl) (AAI e1) ?_
  refine Az (v:=vi 0) rfl ?_
  obtain ⟨a,h1,h2,h3,h4⟩:=QN (x:=(c.1,(own:Int))) (hm ia)
  refine Df (M:=fun ρ σ'=>ρ=[a0,a1,a2,some (vc c),some (.ref 1),some (.ref 2),some (.ref 3),some (vi own),some (.d d.data),z9,some (vi (a:Int)),z11]/\σ'=o0::three (row,wd,gn)) ?_ ?_
  ·refine A8 (t:=!d.mark.isNone) (Aq (hx rfl) rfl (FS d.mark)) (fun e=>?_) fun e=>?_
   ·cases em:d.mark with
    | none=>rw [em] at e; cases e
    | some k =>
     obtain ⟨j,j1,j2⟩:=h4 k em
     refine Az (v:=vi (a:Int)) ((Ai (Uq (k:=1) rfl (A0 (x:=vm k) ((hx rfl).trans (by rw [em]))) (NL rfl j2)) rfl rfl).trans (by rw [j1]; rfl)) (Ad (Ad ⟨_,rfl,rfl,rfl⟩))
   ·have em:d.mark=none:=by
     cases em:d.mark with
     | none=>rfl
     | some k=>rw [em] at e; cases e
    rw [h3 em]; exact Ad (Ad ⟨_,rfl,rfl,rfl⟩)
  rintro _ _ ⟨rfl,rfl⟩
  refine Jw (k:=1) (i:=(a:Int)) (y:=vm (c.1,(own:Int))) rfl (AY rfl htup) rfl (by rw [AAB]; exact hrl) (AB6 _) (by rw [AAB]; exact h1) ?_
  refine DX (k:=2) (w:=mk2 (c.1,(own:Int))) (dd:=Fh l) (kvs:=A7 mk2 Fh wd) (Ag rfl rfl (Et d e2)) rfl htup rfl (by rw [Bl]; exact hwl) ?_
  refine Az (v:=vi ((own:Int)+1)) rfl (Ad (Ad ⟨_,rfl,⟨_,by rw [if_pos ia]; rfl⟩,?_⟩))
  unfold stD
  rw [if_pos ia,Bs Fh Db,e2]
  show [o0,O.list ((row.map vm).take (a:Int).toNat++vm (c.1,(own:Int))::(row.map vm).drop (a:Int).toNat),oW (BG wd (c.1,(own:Int)) l),oN gn]=_
  rw [Int.toNat_natCast,<-List.map_take,<-List.map_drop,<-ABP (f:=vm),<-AAQ,h2]; rfl
 ·refine A8 (hw Eg rfl) (fun e=>absurd (AAG e) (by rw [e1]; exact Vf)) fun _=>?_
  refine Ip (hw GQ rfl) (AAI e1) ?_
  refine DX (k:=2) (w:=mk2 m) (dd:=Fh l) (kvs:=A7 mk2 Fh wd) (Ag rfl rfl (Et d e3)) rfl ((hx rfl).trans (by rw [e2]; rfl)) rfl (by rw [Bl]; exact hwl) (Ad (Ad (Ad ⟨_,rfl,⟨_,by rw [ia]; rfl⟩,?_⟩)))
  unfold stD
  rw [if_neg (by rw [ia]; decide),if_pos e1,Bs Fh Db,e2,e3]; rfl
 ·refine A8 (hw Eg rfl) (fun e=>absurd (AAG e) (by rw [e1]; exact Ve)) fun _=>?_
  refine A8 (hw GQ rfl) (fun e=>absurd (AAG e) (by rw [e1]; exact Tc)) fun _=>?_
  refine DX (k:=3) (w:=mk2 m) (dd:=.bool true) (kvs:=A7 mk2 PyData.bool gn) rfl rfl ((hx rfl).trans (by rw [e2]; rfl)) rfl (by rw [Bl]; exact hgl) (Ad (Ad (Ad ⟨_,rfl,⟨_,by rw [ia]; rfl⟩,?_⟩)))
  unfold stD
  rw [if_neg (by rw [ia]; decide),if_neg (by rw [e1]; exact Tc),Bs PyData.bool Db,e2]; rfl
end
end Mine
namespace Mine
open PySem
theorem Gm {α β γ:Type} {R:β->γ->Prop} {f:α->β} {g:α->γ}:∀ {l:List α},(∀ a∈l,R (f a) (g a))->Aw R (l.map f) (l.map g)
 | [],_=>trivial
 | _::_,h=>⟨h _ (.head _),Gm fun b hb=>h b (.tail _ hb)⟩
theorem Fy {α β γ:Type} (f:α->β) (g:α->γ):∀ l:List α,(l.map f).zip (l.map g)=l.map fun a=>(f a,g a)
 | []=>rfl
 | a::l=>congrArg ((f a,g a) :: ·) (Fy f g l)
theorem RC {a b:Ch} (h:Ch.data a=Ch.data b):a.1=b.1:=by
 unfold Ch.data at h
 injection h with h
 injection h with h
 injection h with h
 exact ED h
theorem IG {cs:List Ch} (nd:(cs.map (·.1)).Nodup):(cs.map Ch.data).Nodup:=by
 rw [List.Nodup,List.pairwise_map] at nd ⊢
 exact nd.imp fun h e=>h (RC e)
theorem O9 (cs:List Ch):CP true Bh ((cs.map fun c=>Tx c.1).zip (cs.map Ch.data))=(AD cs).map Ch.data:=by
 rw [Fy]
 show (AC Bh (cs.map fun c=>(Tx c.1,Ch.data c)).reverse).reverse.map (·.2)=(((AC ltN (cs.map fun c=>(c.1,c)).reverse).reverse).map (·.2)).map Ch.data
 rw [show (cs.map fun c=>(Tx c.1,Ch.data c)).reverse=((cs.map fun c=>(c.1,c)).reverse).map fun p=>(Tx p.1,Ch.data p.2) by rw [<-List.map_reverse,<-List.map_reverse,AAE]; rfl,Ew (lt:=ltN) (fun p=>(Tx p.1,Ch.data p.2)) (fun p q=>LO ..),<-List.map_reverse,AAE,AAE]
 rfl
theorem PA (cs:List Ch):CP false OV.lt (((AD cs).map fun c=>hgt cs c.1).zip ((AD cs).map Ch.data))=(Al cs).map Ch.data:=by
 rw [Fy]
 show (AC ltI ((AD cs).map fun c=>(hgt cs c.1,Ch.data c))).map (·.2)=((AC ltI ((AD cs).map fun c=>(hgt cs c.1,c))).map (·.2)).map Ch.data
 rw [show ((AD cs).map fun c=>(hgt cs c.1,Ch.data c))=((AD cs).map fun c=>(hgt cs c.1,c)).map fun p=>(p.1,Ch.data p.2) by rw [AAE]; rfl,Ew (lt:=ltI) (fun p:Int×Ch=>(p.1,Ch.data p.2)) (fun p q=>rfl),AAE,AAE]
 rfl
theorem Ke {cs:List Ch} {n:List Nat} (h:n∈cs.map (·.1)):Ao (hts [] cs) n=some (hgt cs n):=by
 obtain ⟨v,hv⟩:=AB.mpr (show n∈(hts [] cs).map (·.1) by rw [BD]; exact h)
 unfold hgt
 rw [hv]; rfl
noncomputable abbrev Pr:=Mk×List Nat
noncomputable def prD (x:Pr):PyData:=.tuple [A1 (some x.1),.str (Tx x.2)]
noncomputable def AT (s:Sm):List Pr:=(s.1.filter fun m=>(Ao s.2.2 m).isNone).map fun m=>(m,(Ao s.2.1 m).getD [])
theorem D5.foldl {s:Sm} (nm:List Nat):∀ (ds:List AH) {B:Nat},D5 B s->D5 (B+ds.length) (Fi nm ds 0 s):=by
 have key:∀ (ds:List AH) (k B:Nat) (s:Sm),D5 B s->D5 (B+ds.length) (Fi nm ds k s):=by
  intro ds
  induction ds with
  | nil=>exact fun _ _ _ h=>h
  | cons d ds ih =>
   intro k B s h
   have:=ih (if AV d then k+1 else k) (B+1) _ (h.step nm k d)
   rw [Nat.add_assoc,Nat.add_comm 1] at this
   exact this
 exact fun ds {B} h=>key ds 0 B s h
theorem Ep {s:Sm}:(AT s).length<=s.1.length:=by
 unfold AT
 rw [AAB]; exact AAX _ _
theorem N2 {C:Cfg} {ρ:Ah} {σ:Aa} {iv iw ig k:Nat} {t:Nat} {s:Sm} {B:Nat} (hs:D5 B s) (hB:B<=10000) (h1:B2 ρ iv=some (.ref k)) (hr:σ[k]? = some (oR s.1))
 (hin:∀ m,C.t (.cmp .NotIn (.var t) (.var ig)) ((ρ.set t none).set t (some (vm m))) σ=some (Ao s.2.2 m).isNone)
 (hel:∀ m l,Ao s.2.1 m=some l->C.v (.tup (.cons (.var t) (.cons (.sub (.var iw) (.var t)) .nil))) ((ρ.set t none).set t (some (vm m))) σ=some (.d (prD (m,l)))) :
 C.nl (.comp (.tup (.cons (.var t) (.cons (.sub (.var iw) (.var t)) .nil))) [t] (.var iv) (.cons (.cmp .NotIn (.var t) (.var ig)) .nil)) ρ σ=some ((AT s).map fun x=>.d (prD x)):=by
 have hit:(ev C.O (.var iv)).it ρ σ=some (s.1.map vm,[(k,s.1.map vm)]):=by
  show (B2 ρ iv).bind (DT σ)=_
  rw [h1]
  show (CQ σ[k]?).bind _=_
  rw [hr]; rfl
 rw [show C.nl _ _ _=_ from Cl vm (fun m=>(Ao s.2.2 m).isNone) (fun m=>.d (prD (m,(Ao s.2.1 m).getD []))) hit (AAC (AAC hs.row hB) (by decide)) (fun m _=>E9 (hin m)) (fun m hm _=>?_)]
 ·unfold AT
  rw [AAE]; rfl
 ·obtain ⟨l,hl⟩:=hs.has m hm
  rw [hl]; exact hel m l hl
theorem Qn {σ:Aa} {k:Nat} {gn:List (Mk×Bool)} {m:Mk} (hk:σ[k]? = some (oN gn)):B5 .NotIn (vm m) (.ref k) σ=some (Ao gn m).isNone:=by
 rw [GU,W3 hk,AK PyData.bool Db]
 cases Ao gn m <;> rfl
theorem P4 {C:Cfg} {o0:O} {a0 a1 a2 z7 z8 z9 z10 z11:Option V} {c:Ch} {s:Sm} {B:Nat} (hg:GenCh c) (hf:GL (fun _=>true) c.1 c.2.2 0 s.1) (hs:D5 B s) (hB:B<=9900) :
 Af C (fun fl σ'=>∃ ρ',fl=.next ρ'/\(∃ z7 z8 z10,ρ'=[a0,a1,a2,some (vc c),some (.ref 1),some (.ref 2),some (.ref 3),z7,z8,z9,z10,z11])/\σ'=o0::three (stC s c)) Qz [a0,a1,a2,some (vc c),some (.ref 1),some (.ref 2),some (.ref 3),z7,z8,z9,z10,z11] (o0::three s):=by
 show Af C _ (.cons _ (.cons (.for_ [8] _ Uj) _)) _ _
 refine Az (v:=vi 0) rfl ?_
 refine AS (l:=c.2.2) (fun d=>.d d.data) (fun p ρ σ=>D5 (B+p.length) (Fi c.1 p 0 s)/\(∃ z8 z10,ρ=[a0,a1,a2,some (vc c),some (.ref 1),some (.ref 2),some (.ref 3),some (vi (adds p)),z8,z9,z10,z11])/\σ=o0::three (Fi c.1 p 0 s)) (Bx (Ag rfl rfl (Cj c)) rfl) ⟨hs,⟨_,_,rfl⟩,rfl⟩ ?_ ?_
 ·rintro p d q ρ σ e ⟨h1,⟨z8,z10,rfl⟩,rfl⟩
  have hpl:p.length < 20:=by
   have h:=congrArg List.length e
   have:=hg.deeds
   rw [AAF,AA2] at h; omega
  refine (Mc (B:=B+p.length) (own:=adds p) (hg.ok d (by rw [e]; simp)) (fun ia m hm=>?_) h1 (by omega)).mono fun fl σ' h=>?_
  ·rw [F6]; exact Kn ia p 0 s.1 (e▸hf) m hm
  ·obtain ⟨ρ',e1,⟨z10,e2⟩,e3⟩:=h
   refine ⟨ρ',e1,?_,⟨_,z10,by rw [e2,CU]⟩,?_⟩
   ·rw [DA,AAF]; exact h1.step _ _ _
   ·rw [e3,DA,Nat.zero_add]
 ·rintro ρ σ ⟨h1,⟨z8,z10,rfl⟩,rfl⟩
  exact Ad ⟨_,rfl,⟨_,_,_,rfl⟩,rfl⟩
end Mine
namespace Mine
open PySem
theorem NW {cs A B:List Ch} {c:Ch} (H:BE cs) (e:Al cs=A++c::B):GL (fun _=>true) c.1 c.2.2 0 (HI A []):=SG H (Ck H.nd) e (fun _ _=>rfl) (fun _=>rfl)
theorem D4 {A:List Ch} (hg:∀ c∈A,GenCh c):D5 (20 * A.length) (Ax A):=by
 have key:∀ (A:List Ch) (B:Nat) (s:Sm),(∀ c∈A,GenCh c)->D5 B s->D5 (B+20 * A.length) (A.foldl stC s):=by
  intro A
  induction A with
  | nil=>exact fun _ _ _ h=>h
  | cons c A ih =>
   intro B s hg h
   have h1:D5 (B+c.2.2.length) (stC s c):=D5.foldl c.1 c.2.2 h
   have hd:=(hg c (.head _)).deeds
   have h2:D5 (B+20) (stC s c):=⟨AAC h1.row (by omega),AAC h1.wd (by omega),AAC h1.gn (by omega),h1.has⟩
   have:=ih (B+20) _ (fun x hx=>hg x (.tail _ hx)) h2
   rw [AA2,Nat.mul_add,Nat.mul_one,Nat.add_comm (20 * A.length),<-Nat.add_assoc]
   exact this
 have:=key A 0 ([],[],[]) hg ⟨AAL _,AAL _,AAL _,fun m h=>nomatch h⟩
 rw [Nat.zero_add] at this
 exact this
section
variable {n:Nat} {cs:List Ch} {ρ:Ah} {σ:Aa}
theorem OF (hl:cs.length<=60) (nd:(cs.map (·.1)).Nodup) {i:Nat} {a:E} (ha:SE (n+1) a ρ σ (.d (.list (cs.map Ch.data))) σ) (hi:i < ρ.length):SE (n+1) (.sortk true a i (.sub (.var i) (.cst (.int 0)))) ρ σ (.d (.list ((AD cs).map Ch.data))) σ:=by
 rw [<-O9]
 refine SE.frz (SL.sortk (K:=Xu) (bs:=cs.map fun c=>Tx c.1) (xs:=cs.map Ch.data) ha rfl (IG nd) (by rw [AAB]; omega) ?_)
 rw [AAE]
 refine Gm fun c hc=>(Ae (C0 n).ok _).v (Ag (x:=vc c) ?_ rfl (AL c))
 show B2 (ρ.set i (some (vc c))) i=_
 unfold B2
 rw [AB1 hi]
theorem PN (hl:cs.length<=60) (nd:(cs.map (·.1)).Nodup) {i j k:Nat} {a:E} (ha:SE (n+1) a ρ σ (.d (.list ((AD cs).map Ch.data))) σ) (hi:i < ρ.length) (hj:B2 ρ j=some (.ref k)) (hij:j≠i) (hk:σ[k]? = some (oT (hts [] cs))) :
 SE (n+1) (.sortk false a i (.sub (.var j) (.sub (.var i) (.cst (.int 0))))) ρ σ (.d (.list ((Al cs).map Ch.data))) σ:=by
 have hp:=EA cs
 have hk':Aw (fun w b=>SE n (.sub (.var j) (.sub (.var i) (.cst (.int 0)))) (ρ.set i (some w)) σ (OV.kv b) σ) (((AD cs).map Ch.data).map .d) ((AD cs).map fun c=>hgt cs c.1):=by
  rw [AAE]
  refine Gm fun c hc=>(Ae (C0 n).ok _).v (Ag (x:=.ref k) (y:=vs c.1) ?_ (Ag (x:=vc c) ?_ rfl (AL c)) (BV hk ?_))
  ·show B2 (ρ.set i (some (vc c))) j=_
   unfold B2 at hj ⊢
   rw [List.getElem?_set_ne (Ne.symm hij)]; exact hj
  ·show B2 (ρ.set i (some (vc c))) i=_
   unfold B2
   rw [AB1 hi]
  ·rw [AK PyData.int BI,Ke (AAZ (hp.mem_iff.mp hc))]; rfl
 have h:=SL.sortk (K:=OV) (rev:=false) ha rfl (IG ((hp.map _).nodup_iff.mpr nd)) (by rw [AAB,hp.length_eq]; omega) hk'
 exact SE.frz ((congrArg (fun l:List PyData=>SL (n+1) (.sortk false a i (.sub (.var j) (.sub (.var i) (.cst (.int 0))))) ρ σ (l.map V.d) σ) (PA cs)).mp h)
end
noncomputable abbrev rowD' (s:Sm):PyData:=dms s.1
noncomputable abbrev CW (s:Sm):PyData:=.list ((AT s).map prD)
theorem Vp {C:Cfg} {P:Fl->Aa->Prop} {r:S} {ρ:Ah} {σ σ₁:Aa} {es:E} {xs:List Nat} {ws:List V} {v:V} (h:SE C.n (.tup es) ρ σ v σ₁) (hv:BY v=some ws) (hl:ws.length=xs.length) (k:Af C P r (DB ρ xs ws) σ₁):Af C P (.cons (.swp xs es) r) ρ σ :=
 Cq (fl:=.next (DB ρ xs ws)) (fun Q q=>.swp h hv hl q) k
theorem Lr {cs:List Ch} (H:BE cs) (hg:∀ c∈cs,GenCh c) (hl:cs.length<=60):∀ σ,FN 4 20 [.d (.list (cs.map Ch.data))] σ (.d (.tuple [rowD' (Ax (Al cs)),CW (Ax (Al cs))])) σ:=by
 have hO:=Ck H.nd
 have hgo:∀ c∈Al cs,GenCh c:=fun c hc=>hg c (hO.perm.mem_iff.mp hc)
 obtain ⟨v,σ',⟨k2,k3⟩,h⟩:=FN.ends (C:=C0 3) (f:=20) (fn:=MX) (zs:=[.d (.list (cs.map Ch.data))]) (σ:=[]) (R:=fun v σ'=>v=.tup [.inr 1,.inl (CW (Ax (Al cs)))]/\σ'=oT (hts [] cs)::three (Ax (Al cs))) (by unfold Pg; rfl) rfl (show 1<=3 by decide) (by
  show Af _ _ (.cons _ (.cons _ (.cons _ (.cons (.for_ [3] _ Qz) _)))) [some (.d (.list (cs.map Ch.data))),none,none,none,none,none,none,none,none,none,none,none] []
  refine AA (v:=.ref 0) (σ':=[oT (hts [] cs)]) rfl (.fcall ((Ae (C0 3).ok _).row rfl) ((Ix cs (fun c hc=>(hg c hc).few) hl H.nd H.topo).more (by decide))) ?_
  refine AA rfl (OF (n:=2) hl H.nd ((Ae (C0 3).ok (.var 0)).v rfl) (show 3 < 12 by decide)) ?_
  refine Vp (v:=.tup [.inr 1,.inr 2,.inr 3]) (σ₁:=oT (hts [] cs)::three ([],[],[])) (.tupR (.cons (SE.trk (.lst .nil (ABF _))) (.cons .dctP (.cons .dctP .nil))) (show 3<=line by decide)) rfl rfl ?_
  let K:Option V->Option V->Option V->Option V->Ah:=fun z3 z7 z8 z10=>[some (.d (.list (cs.map Ch.data))),some (.ref 0),some (.d (.list ((AD cs).map Ch.data))),z3,some (.ref 1),some (.ref 2),some (.ref 3),z7,z8,none,z10,none]
  refine EO (l:=Al cs) vc (fun p ρ σ=>(∃ z3 z7 z8 z10,ρ=K z3 z7 z8 z10)/\σ=oT (hts [] cs)::three (Ax p)) (SI.lst (PN (n:=2) (j:=1) (k:=0) hl H.nd ((Ae (C0 3).ok (.var 2)).v rfl) (show 9 < 12 by decide) rfl (by decide) rfl) (by show some (((Al cs).map Ch.data).map V.d)=_; rw [AAE]; rfl)) ⟨⟨none,none,none,none,rfl⟩,rfl⟩ ?_ ?_
  ·rintro p c q ρ σ e ⟨⟨z3,z7,z8,z10,rfl⟩,rfl⟩
   have hpl:p.length < 60:=by
    have h1:=congrArg List.length e
    rw [hO.perm.length_eq,AAF,AA2] at h1; omega
   refine (P4 (B:=20 * p.length) (hgo c (by rw [e]; simp)) (by rw [Gv]; exact NW H e) (D4 fun x hx=>hgo x (by rw [e]; exact AAU _ hx)) (by omega)).mono fun fl σ' h=>?_
   obtain ⟨ρ',e1,⟨z7,z8,z10,e2⟩,e3⟩:=h
   exact ⟨ρ',e1,⟨_,z7,z8,z10,e2⟩,by rw [e3,HD]⟩
  ·rintro ρ σ ⟨⟨z3,z7,z8,z10,rfl⟩,rfl⟩
   have hs:=D4 hgo
   have hol:(Al cs).length<=60:=by rw [hO.perm.length_eq]; exact hl
   have ht:=N2 (C:=C0 3) (ρ:=K z3 z7 z8 z10) (σ:=oT (hts [] cs)::three (Ax (Al cs))) (iv:=4) (iw:=5) (ig:=6) (k:=1) (t:=11) hs (by omega) rfl rfl (fun m=>Aq rfl rfl (Qn rfl)) (fun m l hl=>Cv (AY rfl (Ag rfl rfl (P9 rfl (by rw [AK Fh Db,hl]; rfl)))) rfl)
   refine A3 (v:=.tup [.inr 1,.inl (CW (Ax (Al cs)))]) (Cv (AY rfl (Fr (ds:=(AT (Ax (Al cs))).map prD) (ht.trans (by rw [AAE]; rfl)))) rfl) ⟨rfl,rfl⟩)
 rw [k2,k3] at h
 refine fun σ=>(FN.seal (σ:=[]) (τ:=oT (hts [] cs)::three (Ax (Al cs))) (d:=.tuple [rowD' (Ax (Al cs)),CW (Ax (Al cs))]) h ⟨_,rfl,⟨⟨_,rfl,ABF _,?_⟩,rfl,trivial⟩⟩).any (all_cons (Cm _ _) A9)
 show some (oR _)=_
 rw [AAE]; rfl
end Mine
namespace Mine
open PySem
noncomputable abbrev nms (F:List Ch):List (List Nat):=F.map (·.1)
theorem OC (cs:List Ch):CP false OV.lt (((AD cs).map fun c=>hgt cs c.1).zip ((AD cs).map fun c=>PyData.str (Tx c.1)))=(Al cs).map fun c=>PyData.str (Tx c.1):=by
 rw [Fy]
 show (AC ltI ((AD cs).map fun c=>(hgt cs c.1,PyData.str (Tx c.1)))).map (·.2)=((AC ltI ((AD cs).map fun c=>(hgt cs c.1,c))).map (·.2)).map fun c=>PyData.str (Tx c.1)
 rw [show ((AD cs).map fun c=>(hgt cs c.1,PyData.str (Tx c.1)))=((AD cs).map fun c=>(hgt cs c.1,c)).map fun p=>(p.1,PyData.str (Tx p.2.1)) by rw [AAE]; rfl,Ew (lt:=ltI) (fun p:Int×Ch=>(p.1,PyData.str (Tx p.2.1))) (fun p q=>rfl),AAE,AAE]
 rfl
theorem O7 {cs:List Ch} (nd:(cs.map (·.1)).Nodup):(cs.map fun c=>PyData.str (Tx c.1)).Nodup:=by
 rw [List.Nodup,List.pairwise_map] at nd ⊢
 exact nd.imp fun h e=>h (by injection e with e; exact ED e)
theorem MA {F:List Ch} {σ:Aa} (hl:F.length<=60) (nd:(F.map (·.1)).Nodup) (hk:σ[2]? = some (oT (hts [] F))):FN 3 8 [.d (dl (nms F)),.ref 2] σ (.d (dl (nms (Al F)))) σ:=by
 have hp:=EA F
 exact FN.same (C:=C0 2) (fn:=LT) (by unfold Pg; rfl) rfl (show 1<=2 by decide) (by
  show Af _ _ _ [some (.d (dl (nms F))),some (.ref 2),none,none] σ
  have e1:vss ((AD F).map fun c=>Tx c.1)=((AD F).map fun c=>PyData.str (Tx c.1)).map V.d:=by
   show ((AD F).map fun c=>Tx c.1).map _=_
   rw [AAE,AAE]; rfl
  have hs1:SL 2 (.sortr (.var 0)) [some (.d (dl (nms F))),some (.ref 2),none,none] σ (vss ((AD F).map fun c=>Tx c.1)) σ:=by
   refine SL.sortr (ss:=F.map fun c=>Tx c.1) ((Ae (C0 2).ok (.var 0)).v rfl) ?_ (by rw [AAB]; omega) (hp.map _) ?_
   ·show some ((((F.map (·.1)).map fun t=>PyData.str (Tx t))).map V.d)=some ((F.map fun c=>Tx c.1).map _)
    rw [AAE,AAE,AAE]; rfl
   ·show (((AD F).map fun c=>Tx c.1).reverse).Pairwise fun a b=>Bh b a=false
    rw [List.pairwise_reverse,List.pairwise_map]
    exact (Gg nd).imp fun {a b} h=>by rw [LO]; exact AAT fun q=>List.lt_irrefl _ (List.lt_trans q h)
  rw [e1] at hs1
  refine AA (v:=.d (.list ((AD F).map fun c:Ch=>PyData.str (Tx c.1)))) rfl (SE.frz (n:=2) (ds:=(AD F).map fun c:Ch=>PyData.str (Tx c.1)) hs1) ?_
  have hk':Aw (fun w b=>SE 1 (.sub (.var 1) (.var 3)) (([some (.d (dl (nms F))),some (.ref 2),some (.d (.list ((AD F).map fun c=>PyData.str (Tx c.1)))),none]:Ah).set 3 (some w)) σ (OV.kv b) σ) (((AD F).map fun c=>PyData.str (Tx c.1)).map .d) ((AD F).map fun c=>hgt F c.1):=by
   rw [AAE]
   refine Gm fun c hc=>(Ae (C0 1).ok _).v (Ag (x:=.ref 2) (y:=vs c.1) rfl rfl (BV hk ?_))
   rw [AK PyData.int BI,Ke (AAZ (hp.mem_iff.mp hc))]; rfl
  have h:=SL.sortk (n:=1) (K:=OV) (rev:=false) (a:=.var 2) ((Ae (C0 2).ok (.var 2)).v rfl) rfl (O7 ((hp.map _).nodup_iff.mpr nd)) (by rw [AAB,hp.length_eq]; omega) hk'
  refine Du (v:=.d (dl (nms (Al F)))) (SE.frz (ds:=(Al F).map fun c=>PyData.str (Tx c.1)) ((congrArg (fun l:List PyData=>SL 2 (.sortk false (.var 2) 3 (.sub (.var 1) (.var 3))) _ σ (l.map V.d) σ) (OC F)).mp h) |> fun q=>?_) ⟨rfl,rfl⟩
  show SE 2 _ _ _ (.d (.list ((nms (Al F)).map fun t=>.str (Tx t)))) _
  rw [AAE]; exact q)
noncomputable def Re:S:=match Ed.body with | .cons _ (.cons _ (.cons _ (.cons (.for_ _ _ b) _)))=>b | _=>.nil
noncomputable def Um:S:=match Re with | .cons _ (.cons (.for_ _ _ b) _)=>b | _=>.nil
section
variable {C:Cfg} {F:List Ch} {gs:Gsl} {hs:List (List Nat×Int)} {z7 z8:Option V} {c:Ch} {d:AH} {s:Sm} {own B:Nat}
noncomputable abbrev gK (c:Ch) (z5 z6 z7 z8:Option V):Ah:=[some self,some (.ref 3),some (.ref 4),some (.ref 5),some (vs c.1),z5,z6,z7,z8]
theorem Me (hd:CB d) (hm:AV d=true->∀ m,d.mark=some m->m∈s.1) (hs':D5 B s) (hB:B<=10000) :
 Af C (fun fl σ'=>∃ ρ',fl=.next ρ'/\(∃ z7 z8,ρ'=gK c (some (vi ((own+(if AV d then 1 else 0):Nat):Int))) (some (.d d.data)) z7 z8)/\σ'=W F gs hs++three (stD c.1 own d s))
  Um (gK c (some (vi own)) (some (.d d.data)) z7 z8) (W F gs hs++three s):=by
 obtain ⟨row,wd,gn⟩:=s
 have hx:∀ {ρ:Ah} {σ:Aa},B2 ρ 6=some (.d d.data)->(ev C.O (.sub (.var 6) (.cst (.int 1)))).v ρ σ=some (.d (A1 d.mark)):=fun h=>Ag h rfl (CF d)
 have hw:∀ {ρ:Ah} {σ:Aa} {s:String} {k:List Nat},Str.ofString s=Tx k->B2 ρ 6=some (.d d.data)->C.t (.cmp .Eq (.sub (.var 6) (.cst (.int 0))) (.cst (.str (Str.ofString s)))) ρ σ=some (decide (d.word=k)):=fun e h=>Aq (Ag h rfl (CE d)) (congrArg (fun s=>some (V.d (.str s))) e) Fu
 have hwl:wd.length < line:=AAS (AAC hs'.wd hB) (by decide)
 have hgl:gn.length < line:=AAS (AAC hs'.gn hB) (by decide)
 have hrl:row.length < line:=AAS (AAC hs'.row hB) (by decide)
 rcases IF hd with ⟨ia,e1,l,e2⟩ | ⟨ia,e1,m,l,e2,e3⟩ | ⟨ia,e1,m,e2⟩
 ·refine Ip (hw Eg rfl) (AAI e1) ?_
  refine Az (v:=vm (c.1,(own:Int))) (Cv (AY rfl rfl) rfl) ?_
  refine Az (v:=vi ((own:Int)+1)) rfl ?_
  refine Az (v:=vi 0) rfl ?_
  obtain ⟨a,h1,h2,h3,h4⟩:=QN (x:=(c.1,(own:Int))) (hm ia)
  refine Df (M:=fun ρ σ'=>ρ=gK c (some (vi ((own:Int)+1))) (some (.d d.data)) (some (vm (c.1,(own:Int)))) (some (vi (a:Int)))/\σ'=W F gs hs++three (row,wd,gn)) ?_ ?_
  ·refine A8 (t:=!d.mark.isNone) (Aq (hx rfl) rfl (FS d.mark)) (fun e=>?_) fun e=>?_
   ·cases em:d.mark with
    | none=>rw [em] at e; cases e
    | some k =>
     obtain ⟨j,j1,j2⟩:=h4 k em
     exact Az (v:=vi (a:Int)) ((Ai (Uq (k:=3) rfl (A0 (x:=vm k) ((hx rfl).trans (by rw [em]))) (NL rfl j2)) rfl rfl).trans (by rw [j1]; rfl)) (Ad (Ad ⟨_,rfl,rfl,rfl⟩))
   ·have em:d.mark=none:=by
     cases em:d.mark with
     | none=>rfl
     | some k=>rw [em] at e; cases e
    rw [h3 em]; exact Ad (Ad ⟨_,rfl,rfl,rfl⟩)
  rintro _ _ ⟨rfl,rfl⟩
  refine Jw (k:=3) (i:=(a:Int)) (y:=vm (c.1,(own:Int))) rfl (AY rfl rfl) rfl (by rw [AAB]; exact hrl) (AB6 _) (by rw [AAB]; exact h1) ?_
  refine DX (k:=4) (w:=mk2 (c.1,(own:Int))) (dd:=Fh l) (kvs:=A7 mk2 Fh wd) (Ag rfl rfl (Et d e2)) rfl rfl rfl (by rw [Bl]; exact hwl) (Ad (Ad ⟨_,rfl,⟨_,_,by rw [if_pos ia]; rfl⟩,?_⟩))
  unfold stD
  rw [if_pos ia,Bs Fh Db,e2]
  show W F gs hs++[O.list ((row.map vm).take (a:Int).toNat++vm (c.1,(own:Int))::(row.map vm).drop (a:Int).toNat),oW (BG wd (c.1,(own:Int)) l),oN gn]=_
  rw [Int.toNat_natCast,<-List.map_take,<-List.map_drop,<-ABP (f:=vm),<-AAQ,h2]; rfl
 ·refine A8 (hw Eg rfl) (fun e=>absurd (AAG e) (by rw [e1]; exact Vf)) fun _=>?_
  refine Ip (hw GQ rfl) (AAI e1) ?_
  refine DX (k:=4) (w:=mk2 m) (dd:=Fh l) (kvs:=A7 mk2 Fh wd) (Ag rfl rfl (Et d e3)) rfl ((hx rfl).trans (by rw [e2]; rfl)) rfl (by rw [Bl]; exact hwl) (Ad (Ad (Ad ⟨_,rfl,⟨_,_,by rw [ia]; rfl⟩,?_⟩)))
  unfold stD
  rw [if_neg (by rw [ia]; decide),if_pos e1,Bs Fh Db,e2,e3]; rfl
 ·refine A8 (hw Eg rfl) (fun e=>absurd (AAG e) (by rw [e1]; exact Ve)) fun _=>?_
  refine A8 (hw GQ rfl) (fun e=>absurd (AAG e) (by rw [e1]; exact Tc)) fun _=>?_
  refine DX (k:=5) (w:=mk2 m) (dd:=.bool true) (kvs:=A7 mk2 PyData.bool gn) rfl rfl ((hx rfl).trans (by rw [e2]; rfl)) rfl (by rw [Bl]; exact hgl) (Ad (Ad (Ad ⟨_,rfl,⟨_,_,by rw [ia]; rfl⟩,?_⟩)))
  unfold stD
  rw [if_neg (by rw [ia]; decide),if_neg (by rw [e1]; exact Tc),Bs PyData.bool Db,e2]; rfl
end
end Mine
namespace Mine
open PySem
structure Wov (cs F:List Ch) (gs:Gsl):Prop where
 H:BE cs
 gen:∀ c∈cs,GenCh c
 len:cs.length<=60
 perm:F.Perm cs
 w:Jh F gs
theorem Wov.ord {cs F:List Ch} {gs:Gsl} (h:Wov cs F gs):Al F=Al cs:=Qf h.H.nd h.perm h.H.topo h.w.topo
theorem QE {σ:Aa} {k:Nat} {F:List Ch} (hk:σ[k]? = some (oH F)) (hl:∀ n∈nms F,n.length<=12) (h:F.length<=60):B6 .list σ [.ref k]=some (.d (dl (nms F))):=by
 show (NC σ[k]?).bind mkL=_
 rw [hk]
 show ((if (A7 Tx Ch.data (hK F)).all (fun p=>decide (p.1.length<=line))=true then some (vss ((A7 Tx Ch.data (hK F)).map (·.1))) else none).bind mkL)=_
 rw [if_pos,bs]
 ·have e:vss ((A7 Tx Ch.data (hK F)).map (·.1))=((nms F).map fun t=>PyData.str (Tx t)).map V.d:=by
   show ((A7 Tx Ch.data (hK F)).map (·.1)).map _=_
   unfold A7
   rw [AAE,AAE,AAE,AAE,AAE]; rfl
  rw [e]
  exact HV _ (by rw [AAB,AAB]; exact AAC h (by decide))
 ·rw [List.all_eq_true]
  intro p hp
  obtain ⟨q,hq,rfl⟩:=AAP.mp hp
  obtain ⟨c,hc,rfl⟩:=AAP.mp hq
  refine AAI ?_
  show (Tx c.1).length<=line
  rw [Fv]; exact AAC (hl c.1 (AAZ hc)) (by decide)
section
variable {C:Cfg} {F:List Ch} {gs:Gsl} {hs:List (List Nat×Int)} {z5 z6 z7 z8:Option V} {c:Ch} {s:Sm} {B:Nat}
theorem P5 (nd:(F.map (·.1)).Nodup) (hc:c∈F) (hg:GenCh c) (hf:GL (fun _=>true) c.1 c.2.2 0 s.1) (hs':D5 B s) (hB:B<=9900) :
 Af C (fun fl σ'=>∃ ρ',fl=.next ρ'/\(∃ z5 z6 z7 z8,ρ'=gK c z5 z6 z7 z8)/\σ'=W F gs hs++three (stC s c)) Re (gK c z5 z6 z7 z8) (W F gs hs++three s):=by
 show Af C _ (.cons _ (.cons (.for_ [6] _ Um) _)) _ _
 refine Az (v:=vi 0) rfl ?_
 refine AS (l:=c.2.2) (fun d=>.d d.data) (fun p ρ σ=>D5 (B+p.length) (Fi c.1 p 0 s)/\(∃ z6 z7 z8,ρ=gK c (some (vi (adds p))) z6 z7 z8)/\σ=W F gs hs++three (Fi c.1 p 0 s)) (Bx (Ag (Ag (CM rfl) rfl (BV (a:=c.1) (kvs:=A7 Tx Ch.data (hK F)) rfl (by rw [AK Ch.data BI,Pb nd hc]; rfl))) rfl (Cj c)) rfl) ⟨hs',⟨_,_,_,rfl⟩,rfl⟩ ?_ ?_
 ·rintro p d q ρ σ e ⟨h1,⟨z6,z7,z8,rfl⟩,rfl⟩
  have hpl:p.length < 20:=by
   have h:=congrArg List.length e
   have:=hg.deeds
   rw [AAF,AA2] at h; omega
  refine (Me (B:=B+p.length) (own:=adds p) (hg.ok d (by rw [e]; simp)) (fun ia m hm=>?_) h1 (by omega)).mono fun fl σ' h=>?_
  ·rw [F6]; exact Kn ia p 0 s.1 (e▸hf) m hm
  ·obtain ⟨ρ',e1,⟨z7,z8,e2⟩,e3⟩:=h
   refine ⟨ρ',e1,?_,⟨_,z7,z8,by rw [e2,CU]⟩,?_⟩
   ·rw [DA,AAF]; exact h1.step _ _ _
   ·rw [e3,DA,Nat.zero_add]
 ·rintro ρ σ ⟨h1,⟨z6,z7,z8,rfl⟩,rfl⟩
  exact Ad ⟨_,rfl,⟨_,_,_,_,rfl⟩,rfl⟩
end
theorem Lu {cs F:List Ch} {gs:Gsl} (h:Wov cs F gs):FN 4 45 [self] (W F gs (hts [] F)) (.tup [.inr 3,.inr 4,.inr 5]) (W F gs (hts [] F)++three (Ax (Al cs))):=by
 have hO:=Ck h.H.nd
 have hgo:∀ c∈Al cs,GenCh c:=fun c hc=>h.gen c (hO.perm.mem_iff.mp hc)
 have hnm:∀ n∈nms F,n.length<=12:=fun n hn=>by
  obtain ⟨x,hx,rfl⟩:=AAP.mp hn
  exact ((BL _).mp (h.w.gen x hx).name).2.1
 exact FN.same (C:=C0 3) (fn:=Ed) (by unfold Pg; rfl) rfl (show 1<=3 by decide) (by
  show Af _ _ (.cons _ (.cons _ (.cons _ (.cons (.for_ [4] _ Re) _)))) [some self,none,none,none,none,none,none,none,none] (W F gs (hts [] F))
  refine Bu (ws:=[]) rfl ?_
  refine Ki ?_
  refine Ki ?_
  let K:Option V->Option V->Option V->Option V->Option V->Ah:=fun z4 z5 z6 z7 z8=>[some self,some (.ref 3),some (.ref 4),some (.ref 5),z4,z5,z6,z7,z8]
  show Af _ _ _ (K none none none none none) (W F gs (hts [] F)++three ([],[],[]))
  refine EO (l:=Al cs) (fun c=>vs c.1) (fun p ρ σ=>(∃ z4 z5 z6 z7 z8,ρ=K z4 z5 z6 z7 z8)/\σ=W F gs (hts [] F)++three (Ax p)) (SI.lst (.fcall ((Ae (C0 3).ok _).row (AY (AI (A0 (CM rfl)) (QE rfl hnm h.w.len)) (DK rfl))) (MA h.w.len h.w.nd rfl)) (by
   rw [h.ord]
   show some (((nms (Al cs)).map fun t=>PyData.str (Tx t)).map V.d)=_
   rw [AAE,AAE]; rfl)) ⟨⟨_,_,_,_,_,rfl⟩,rfl⟩ ?_ ?_
  ·rintro p c q ρ σ e ⟨⟨z4,z5,z6,z7,z8,rfl⟩,rfl⟩
   have hpl:p.length < 60:=by
    have h1:=congrArg List.length e
    have:=h.len
    rw [hO.perm.length_eq,AAF,AA2] at h1; omega
   have hc:c∈Al cs:=by rw [e]; simp
   refine (P5 (B:=20 * p.length) h.w.nd (h.perm.mem_iff.mpr (hO.perm.mem_iff.mp hc)) (hgo c hc) (by rw [Gv]; exact NW h.H e) (D4 fun x hx=>hgo x (by rw [e]; exact AAU _ hx)) (by omega)).mono fun fl σ' h=>?_
   obtain ⟨ρ',e1,⟨z5,z6,z7,z8,e2⟩,e3⟩:=h
   exact ⟨ρ',e1,⟨_,z5,z6,z7,z8,e2⟩,by rw [e3,HD]⟩
  ·rintro ρ σ ⟨⟨z4,z5,z6,z7,z8,rfl⟩,rfl⟩
   exact A3 (v:=.tup [.inr 3,.inr 4,.inr 5]) rfl ⟨rfl,rfl⟩)
end Mine
namespace Mine
open PySem
theorem Ih {a b:List (List Nat)} (h:a.Perm b) (nd:a.Nodup):Aj a=Aj b:=CH (fun x y p q=>List.lt_irrefl _ (List.lt_trans p q)) (BM a nd) (BM b (h.nodup_iff.mp nd)) ((An a).trans (h.trans (An b).symm))
section
variable {cs F:List Ch} {gs:Gsl}
theorem Rj (h:Wov cs F gs):FN 5 46 [self] (W F gs (hts [] F)) (.ref 3) (W F gs (hts [] F)++three (Ax (Al cs))):=by
 exact FN.same (C:=C0 4) (fn:=IW) (by unfold Pg; rfl) rfl (show 1<=4 by decide) (by
  show Af _ _ _ [some self] (W F gs (hts [] F))
  exact Du (v:=.ref 3) (.sub (.mcall (f:=45) Ay (by unfold mtP; kernel_rfl) ((Ae (C0 4).ok (.var 0)).v rfl) .nil (Lu h)) ((Ae (C0 4).ok (.cst (.int 0))).v rfl) (Gu rfl)) ⟨rfl,rfl⟩)
theorem fn_row' (h:Wov cs F gs):FN 5 46 [self] (W F gs (hts [] F)) (.d (dms (Ax (Al cs)).1)) (W F gs (hts [] F)) :=
 FN.seal' (σ':=W F gs (hts [] F)) (τ:=three (Ax (Al cs))) (Rj h) rfl (Fa 3) ⟨_,rfl,AAL _,by
  show some (oR _)=_
  rw [AAE]; rfl⟩
theorem NS (h:Wov cs F gs):FN 5 47 [self] (W F gs (hts [] F)) (.ref 6) (W F gs (hts [] F)++(three (Ax (Al cs))++[.list ((AT (Ax (Al cs))).map fun x=>.d (prD x))])):=by
 have hO:=Ck h.H.nd
 have hs:=D4 (A:=Al cs) fun c hc=>h.gen c (hO.perm.mem_iff.mp hc)
 have hol:(Al cs).length<=60:=by rw [hO.perm.length_eq]; exact h.len
 exact FN.same (C:=C0 4) (fn:=Hb) (by unfold Pg; rfl) rfl (show 1<=4 by decide) (by
  show Af _ _ _ [some self,none,none,none,none] (W F gs (hts [] F))
  refine Ra (.mcall (f:=45) Ay (by unfold mtP; kernel_rfl) ((Ae (C0 4).ok (.var 0)).v rfl) .nil (Lu h)) (fun {K ex} hc ts k p env=>hc (fun ex=>swappedStores [.Tuple ts k p] ex env=pure none) (by intros; rfl)) (vs:=[.ref 3,.ref 4,.ref 5]) rfl rfl ?_
  exact NO (N2 (C:=C0 4) (ρ:=[some self,some (.ref 3),some (.ref 4),some (.ref 5),none]) (σ:=W F gs (hts [] F)++three (Ax (Al cs))) (iv:=1) (iw:=2) (ig:=3) (k:=3) (t:=4) hs (by omega) rfl rfl (fun m=>Aq rfl rfl (Qn rfl)) (fun m l hl=>Cv (AY rfl (Ag rfl rfl (P9 rfl (by rw [AK Fh Db,hl]; rfl)))) rfl)) ⟨rfl,rfl⟩)
theorem fn_told' (h:Wov cs F gs):FN 5 47 [self] (W F gs (hts [] F)) (.d (CW (Ax (Al cs)))) (W F gs (hts [] F)) :=
 FN.seal' (σ':=W F gs (hts [] F)) (NS h) rfl (Fa 3) ⟨_,rfl,(show 3<=6 by decide),by
  show some (O.list _)=_
  rw [AAE]; rfl⟩
theorem Lq (h:Wov cs F gs):FN 2 40 [self] (W F gs (hts [] F)) (.ref 3) (W F gs (hts [] F)++[.list ((Aj (nms cs)).map vs)]):=by
 have hnm:∀ n∈nms F,n.length<=12:=fun n hn=>by
  obtain ⟨x,hx,rfl⟩:=AAP.mp hn
  exact ((BL _).mp (h.w.gen x hx).name).2.1
 have hlen:=h.w.len
 obtain ⟨v,σ',⟨k2,k3⟩,hf⟩:=FN.ends (C:=C0 1) (f:=40) (fn:=Gr) (zs:=[self]) (σ:=W F gs (hts [] F)) (R:=fun v σ'=>v=.ref 3/\σ'=W F gs (hts [] F)++[.list ((Aj (nms F)).map vs)]) (by unfold Pg; rfl) rfl (AAL _) (by
  show Af _ _ _ [some self] (W F gs (hts [] F))
  refine NO (ws:=(Aj (nms F)).map vs) ?_ ⟨rfl,rfl⟩
  show (((ev (C0 1).O (.cons _ .nil)).row _ _).bind (Ok .sorted _)).bind _=_
  rw [A0 (AI (A0 (CM rfl)) (QE rfl hnm h.w.len)),bs]
  show ((Ct BN (((nms F).map fun t=>PyData.str (Tx t)).map V.d)).bind fun ss=>if ss.length < 64 then some (vss (Dq ss)) else none).bind _=_
  rw [show ((nms F).map fun t=>PyData.str (Tx t)).map V.d=(nms F).map vs by rw [AAE]; rfl,N3,bs,if_pos (by rw [AAB,AAB]; omega),bs,Fj]
  have e:vss ((Aj (nms F)).map Tx)=(Aj (nms F)).map vs:=by
   show ((Aj (nms F)).map Tx).map _=_
   rw [AAE]; rfl
  rw [e,if_pos]
  rw [AAB,(An _).length_eq,AAB]
  exact AAC hlen (by decide))
 rw [k2,k3,Ih (h.perm.map _) h.w.nd] at hf
 exact hf
theorem NT (h:Wov cs F gs):FN 6 48 [self] (W F gs (hts [] F)) (.ref 3) (W F gs (hts [] F)++[.list ((AT (Ax (Al cs))).map fun x=>vs x.2)]):=by
 have hO:=Ck h.H.nd
 have hs:=D4 (A:=Al cs) fun c hc=>h.gen c (hO.perm.mem_iff.mp hc)
 have hol:(Al cs).length<=60:=by rw [hO.perm.length_eq]; exact h.len
 have ht:(AT (Ax (Al cs))).length<=line:=AAC Ep (AAC hs.row (AAC (show 20 * (Al cs).length<=10000 by omega) (by decide)))
 exact FN.same (C:=C0 5) (fn:=Hc) (by unfold Pg; rfl) rfl (show 1<=5 by decide) (by
  show Af _ _ _ [some self,none] (W F gs (hts [] F))
  refine Du (v:=.ref 3) (SE.trk (SL.comp (vs:=(AT (Ax (Al cs))).map fun x=>V.d (prD x)) (kps:=[]) (ws:=(AT (Ax (Al cs))).map fun x=>vs x.2) (SI.lst (.mcall (f:=47) Ay (by unfold mtP; kernel_rfl) ((Ae (C0 5).ok (.var 0)).v rfl) .nil (fn_told' h)) (by
   show some (((AT (Ax (Al cs))).map prD).map V.d)=_
   rw [AAE]; rfl)) (Di (kps:=[]) (Ae (C0 5).ok _) (Ae (C0 5).ok _) (fun _ _ m=>nomatch m) ?_) (by rw [AAB]; exact ht))) ⟨rfl,rfl⟩
  rw [CT (fun x:Pr=>V.d (prD x)) (fun x=>some (vs x.2)) _ (fun x _=>rfl),List.filterMap_eq_map'])
end
end Mine
namespace Mine
open PySem
def Dz (σ:Aa) (x:V) (ds:List PyData):Prop:=x=.d (.list ds)\/∃ k,x=.ref k/\σ[k]? = some (.list (ds.map .d))
section
variable {σ:Aa} {x:V} {ds:List PyData}
theorem Dz.lst (h:Dz σ x ds):A2 σ x=some (ds.map .d):=by
 rcases h with rfl | ⟨k,rfl,h⟩
 ·rfl
 ·show CQ σ[k]? = _
  rw [h]; rfl
theorem Dz.snap (h:Dz σ x ds):snap σ x=some (.list ds):=by
 rcases h with rfl | ⟨k,rfl,h⟩
 ·rfl
 ·show Q1 (CQ σ[k]?)=_
  rw [h]
  show (DJ (ds.map V.d)).bind _=_
  rw [Dk]; rfl
theorem Dz.isi (h:Dz σ x ds):B6 .isinstance σ [x,.ty "list"]=some (vb true):=by
 rcases h with rfl | ⟨k,rfl,h⟩
 ·rfl
 ·show ((O1 σ (.ref k)).bind _).bind _=_
  rw [show O1 σ (.ref k)=some "list" by show (CQ σ[k]?).bind _=_; rw [h]; rfl]
  rfl
theorem Dz.len (h:Dz σ x ds):B6 .len σ [x]=some (vi ds.length):=(len_of' h.lst).trans (by rw [AAB])
theorem Dz.keep (h:Dz σ x ds):Co σ (Dd x (ds.map .d)):=FP h.lst
theorem Tj (l:List Nat):B6 .isinstance σ [vs l,.ty "str"]=some (vb true):=rfl
end
theorem Rz (q:Str×Int):eqN A6 (.tuple [.str q.1,.int q.2]) (.tuple [.str q.1,.int q.2])=some true:=by
 have:=GC 39 (q.1.cps.toList,q.2) (q.1.cps.toList,q.2)
 rw [AAI rfl] at this
 have e:Tx q.1.cps.toList=q.1:=MT q.1
 unfold A1 at this
 show eqN A6 _ _=_
 rw [<-e]; exact this
theorem Ls {σ:Aa} (q:Str×Int):FN 2 21 [vp q,vp q] σ (vb true) σ:=by
 exact FN.same (C:=C0 1) (fn:=IV) (by unfold Pg; rfl) rfl (AAL _) (by
  show Af _ _ _ [some (vp q),some (vp q)] σ
  refine By (Up (p:=false) (q:=false) (s:=false) (CN (p:=true) (Eh (AY rfl rfl) rfl)) (fun _=>Aq (AI (A0 rfl) rfl) rfl Fq) fun _ _=>CN (p:=true) (Eh (AY (x:=.d (.str q.1)) (Ag rfl rfl rfl) rfl) rfl)) rfl ?_
  refine By (Dv (p:=false) (q:=false) (CN (p:=true) (Eh (AY (x:=vi q.2) (Ag rfl rfl rfl) rfl) rfl)) fun _=>Eh (AY (x:=vi q.2) (Ag rfl rfl rfl) rfl) rfl) rfl ?_
  exact A3 (Eb (p:=true) rfl rfl (Rz q)) ⟨rfl,rfl⟩)
noncomputable def Q7 (xs:List V):Option V:=match xs with | x::r=>(match r with | y::r=>(match r with | []=>(HN x).bind fun p=>(HN y).bind fun q=>if p=q then some (vb true) else none | _=>none) | []=>none) | []=>none
theorem Q6 {n:Nat} {σ:Aa} {xs:List V} {v:V} (hn:2<=n) (h:Q7 xs=some v):FN n 21 xs σ v σ:=by
 match xs,h with
 | [],h=>exact Ac h
 | [_],h=>exact Ac h
 | [x,y],h =>
  obtain ⟨c,e1,h⟩:=Ab h
  obtain ⟨k,e2,h⟩:=Ab h
  obtain ⟨e3,h⟩:=Ba h
  rw [E0 e1,E0 e2,<-h,<-e3]
  exact (Ls c).more hn
 | _::_::_::_,h=>exact Ac h
theorem Jt (m:Mk):Q7 [vm m,vm m]=some (vb true):=by
 show (if mk2 m=mk2 m then some (vb true) else none)=_
 exact if_pos rfl
noncomputable def C5 (n:Nat) (hn:2<=n):Cfg:=(C0 n).add 21 (fun xs _=>Q7 xs) fun _ _ _ h=>Q6 hn h
theorem K5 {α:Type}:∀ l:List α,l.zip l=l.map fun a=>(a,a)
 | []=>rfl
 | a::l=>congrArg ((a,a) :: ·) (K5 l)
theorem NE {C:Cfg} {ρ:Ah} {σ:Aa} {x:V} {α:Type} {l:List α} {d:α->PyData} (h1:B2 ρ 0=some x) (h2:B2 ρ 1=some (.d (.list (l.map d)))) (hx:Dz σ x (l.map d)):C.it (.zip (.var 0) (.var 1)) ρ σ=some (l.map (fun a=>V.d (.tuple [d a,d a])),Dd x ((l.map d).map .d)):=by
 show ((B2 ρ 0).bind fun x=>(B2 ρ 1).bind fun y=>(A2 σ x).bind fun ds=>(A2 σ y).bind fun ds'=>some (He ds ds',Dd x ds++Dd y ds'))=_
 rw [h1,bs,h2,bs,hx.lst,bs]
 show some (He ((l.map d).map V.d) ((l.map d).map V.d),_)=_
 rw [Hz,K5,AAE]
 show some (_,Dd x ((l.map d).map .d)++[])=_
 rw [AAV]; rfl
theorem IN {σ:Aa} {α:Type} (l:List α):B6 .all σ [.d (.list (l.map fun _=>PyData.bool true))]=some (vb true):=by
 show (Ct Ei ((l.map fun _=>PyData.bool true).map V.d)).bind _=_
 have:Ct Ei ((l.map fun _=>PyData.bool true).map V.d)=some (l.map fun _=>true):=by
  induction l with
  | nil=>rfl
  | cons a l ih=>show (Ct Ei ((l.map fun _=>PyData.bool true).map V.d)).bind _=_; rw [ih]; rfl
 rw [this,bs]
 congr 2
 rw [List.all_eq_true.mpr fun x hx=>?_]
 obtain ⟨_,_,rfl⟩:=AAP.mp hx; rfl
theorem M9 {σ:Aa} {x:V} (r:List Mk) (hx:Dz σ x (r.map fun m=>A1 (some m))) (hl:r.length<=10000):FN 3 22 [x,.d (dms r)] σ (vb true) σ:=by
 have hl':r.length<=line:=AAC hl (by decide)
 exact FN.same (C:=C5 2 (AAL _)) (fn:=JF) (by unfold Pg; rfl) rfl (show 1<=2 by decide) (by
  show Af _ _ _ [some x,some (.d (dms r)),none,none] σ
  refine By (Dv (p:=false) (q:=false) (CN (p:=true) (Eh (AY rfl rfl) hx.isi)) (fun _=>(Aq (AI (A0 rfl) hx.len) (AI (A0 rfl) BZ) Fq).trans (by rw [AAI rfl]; rfl))) rfl ?_
  have hit:=NE (C:=C5 2 (AAL _)) (ρ:=[some x,some (.d (dms r)),none,none]) rfl rfl hx
  refine A3 (AI (A0 (x:=.d (.list (r.map fun _=>PyData.bool true))) ?_) (IN r)) ⟨rfl,rfl⟩
  show (((ev (C5 2 (AAL _)).O (.zip (.var 0) (.var 1))).it _ _).bind fun q=>Dw _ q.1).bind mkL=_
  rw [show (ev (C5 2 (AAL _)).O (.zip (.var 0) (.var 1))).it _ _=_ from hit]
  show (Dw _ (r.map _)).bind mkL=_
  rw [CT (fun m:Mk=>V.d (.tuple [A1 (some m),A1 (some m)])) (fun _=>some (vb true)) r (fun m _=>?_),bs,List.filterMap_eq_map']
  ·rw [show (r.map fun _=>vb true)=(r.map fun _=>PyData.bool true).map V.d by rw [AAE]; rfl]
   exact HV _ (by rw [AAB]; exact hl')
  ·show ((ev (C5 2 (AAL _)).O (.fcall 21 (.cons (.var 2) (.cons (.var 3) .nil)))).v [some x,some (.d (dms r)),some (vm m),some (vm m)] σ).bind _=_
   rw [El (AY rfl rfl) (Jt m)]; rfl)
theorem Lp {σ:Aa} {x:V} (r:List Pr) (hx:Dz σ x (r.map prD)) (hl:r.length<=10000):FN 3 23 [x,.d (.list (r.map prD))] σ (vb true) σ:=by
 have hl':r.length<=line:=AAC hl (by decide)
 exact FN.same (C:=C5 2 (AAL _)) (fn:=IT) (by unfold Pg; rfl) rfl (show 1<=2 by decide) (by
  show Af _ _ _ [some x,some (.d (.list (r.map prD))),none,none] σ
  refine By (Dv (p:=false) (q:=false) (CN (p:=true) (Eh (AY rfl rfl) hx.isi)) (fun _=>(Aq (AI (A0 rfl) hx.len) (AI (A0 rfl) BZ) Fq).trans (by rw [AAI rfl]; rfl))) rfl ?_
  have hit:=NE (C:=C5 2 (AAL _)) (ρ:=[some x,some (.d (.list (r.map prD))),none,none]) rfl rfl hx
  refine G9 (l:=r) (fun a=>V.d (.tuple [prD a,prD a])) (fun _ ρ σ'=>(∃ z2 z3,ρ=[some x,some (.d (.list (r.map prD))),z2,z3])/\σ=σ') hit (fun _ _ _ h=>h.2▸hx.keep) (fun _ _=>.inr ⟨_,rfl,rfl⟩) ⟨⟨none,none,rfl⟩,rfl⟩ ?_ ?_
  ·rintro p a q ρ _ hp ⟨⟨z2,z3,rfl⟩,rfl⟩
   show Af _ _ _ [some x,some (.d (.list (r.map prD))),some (.d (prD a)),some (.d (prD a))] σ
   refine By (Up (p:=false) (q:=false) (s:=false) (CN (p:=true) (Eh (AY rfl rfl) rfl)) (fun _=>Aq (AI (A0 rfl) rfl) rfl Fq) fun _ _=>CN (p:=true) (Eh (AY (x:=vs a.2) (Ag rfl rfl rfl) rfl) rfl)) rfl ?_
   refine By (Dv (p:=false) (q:=false) (CN (p:=true) (J4 (AY (x:=vm a.1) (y:=vm a.1) (Ag rfl rfl rfl) (Ag rfl rfl rfl)) (Jt a.1))) fun _=>(Aq (x:=vs a.2) (y:=vs a.2) (Ag rfl rfl rfl) (Ag rfl rfl rfl) G2).trans (by rw [AAI rfl]; rfl)) rfl (Ad ⟨_,rfl,⟨_,_,rfl⟩,rfl⟩)
  ·rintro ρ _ ⟨⟨z2,z3,rfl⟩,rfl⟩
   exact A3 (v:=vb true) rfl ⟨rfl,rfl⟩)
theorem DZ {σ:Aa} {x:V} (r:List (List Nat)) (hx:Dz σ x (r.map fun t=>.str (Tx t))) (hl:r.length<=10000):FN 2 24 [x,.d (dl r)] σ (vb true) σ:=by
 have hl':r.length<=line:=AAC hl (by decide)
 exact FN.same (C:=C0 1) (fn:=GY) (by unfold Pg; rfl) rfl (AAL _) (by
  show Af _ _ _ [some x,some (.d (dl r)),none] σ
  refine By (Dv (p:=false) (q:=false) (CN (p:=true) (Eh (AY rfl rfl) hx.isi)) (fun _=>(Aq (AI (A0 rfl) hx.len) (AI (A0 rfl) BZ) Fq).trans (by rw [AAI rfl]; rfl))) rfl ?_
  refine A3 (Og (p:=true) (q:=true) (AI (A0 (x:=.d (.list (r.map fun _=>PyData.bool true))) ?_) (IN r)) fun _=>Eb rfl rfl ?_) ⟨rfl,rfl⟩
  ·have hit:(ev (C0 1).O (.var 0)).it [some x,some (.d (dl r)),none] σ=some (r.map vs,Dd x ((r.map fun t=>PyData.str (Tx t)).map .d)):=by
    show DT σ x=_
    have e:DT σ x=(A2 σ x).bind fun ws=>some (ws,Dd x ws):=by rcases hx with rfl | ⟨k,rfl,_⟩ <;> rfl
    rw [e,hx.lst,bs,AAE]; rfl
   refine Fr ?_
   rw [Cl (t:=2) vs (fun _=>true) (fun _=>vb true) hit hl' (fun _ _=>rfl) (fun a _ _=>AI (AY rfl rfl) (Tj a)),Bk,AAE]; rfl
  ·show (snap σ x).bind (fun d=>(snap σ (.d (dl r))).bind fun d'=>eqN A6 d d')=_
   rw [hx.snap,bs]
   obtain ⟨q,q1,q2⟩:=Iz (NY 39) r r
   exact (show eqN A6 (dl r) (dl r)=some q from q1).trans (by rw [q2 rfl]))
end Mine
namespace Mine
open PySem
theorem Wa {F:List Ch} {gs:Gsl} {hs:List (List Nat×Int)} {τ:Aa} {k:Nat} {o:O}:(W F gs hs++τ).set (k+3) o=W F gs hs++τ.set k o:=rfl
section
variable {cs F:List Ch} {gs:Gsl}
theorem Kl (h:Wov cs F gs) (a:Int):FN 7 25 [self,.d (dms (Ax (Al cs)).1),.d (CW (Ax (Al cs))),.d (dl (Aj (nms cs))),vi a] (W F gs (hts [] F)) (vb true) (W F gs (hts [] F)):=by
 have hO:=Ck h.H.nd
 have hs:=D4 (A:=Al cs) fun c hc=>h.gen c (hO.perm.mem_iff.mp hc)
 have hol:(Al cs).length<=60:=by rw [hO.perm.length_eq]; exact h.len
 have hr:(Ax (Al cs)).1.length<=10000:=AAC hs.row (by omega)
 have ht:(AT (Ax (Al cs))).length<=10000:=AAC Ep hr
 have hn:(Aj (nms cs)).length<=10000:=by rw [(An _).length_eq,AAB]; exact AAC h.len (by decide)
 obtain ⟨v,σ',⟨k2,τ,k3⟩,hf⟩:=FN.ends (C:=C0 6) (f:=25) (fn:=GZ) (zs:=[self,.d (dms (Ax (Al cs)).1),.d (CW (Ax (Al cs))),.d (dl (Aj (nms cs))),vi a]) (σ:=W F gs (hts [] F)) (R:=fun v σ'=>v=vb true/\∃ τ,σ'=W F gs (hts [] F)++τ) (by unfold Pg; rfl) rfl (show 1<=6 by decide) (by
  let K:Option V->Option V->Option V->Ah:=fun z5 z6 z7=>[some self,some (.d (dms (Ax (Al cs)).1)),some (.d (CW (Ax (Al cs)))),some (.d (dl (Aj (nms cs)))),some (vi a),z5,z6,z7]
  show Af _ _ _ (K none none none) (W F gs (hts [] F))
  refine Df (M:=fun ρ σ'=>∃ k τ ws,ρ=K (some (.ref (k+3))) (some (vb true)) none/\(W F gs (hts [] F)++τ)[k+3]? = some (.list ws)/\W F gs (hts [] F)++τ=σ') ?_ ?_
  ·refine A8 (Aq rfl rfl BB) (fun _=>?_) fun _=>?_
   ·refine AA (v:=.ref 3) rfl (.mcall (f:=46) Ay (by unfold mtP; kernel_rfl) ((Ae (C0 6).ok (.var 0)).v rfl) .nil ((Rj h).more (by decide))) ?_
    refine AA (v:=vb true) rfl (.fcall ((Ae (C0 6).ok _).row rfl) ((M9 (Ax (Al cs)).1 (.inr ⟨3,rfl,?_⟩) hr).more (by decide))) (Ad (Ad ⟨_,rfl,0,_,_,rfl,rfl,rfl⟩))
    show some (oR _)=_
    rw [AAE]; rfl
   refine A8 (Aq rfl rfl BB) (fun _=>?_) fun _=>?_
   ·refine AA (v:=.ref 6) rfl (.mcall (f:=47) Ay (by unfold mtP; kernel_rfl) ((Ae (C0 6).ok (.var 0)).v rfl) .nil ((NS h).more (by decide))) ?_
    refine AA (v:=vb true) rfl (.fcall ((Ae (C0 6).ok _).row rfl) ((Lp (AT (Ax (Al cs))) (.inr ⟨6,rfl,?_⟩) ht).more (by decide))) (Ad (Ad (Ad ⟨_,rfl,3,_,_,rfl,rfl,rfl⟩)))
    show some (O.list _)=_
    rw [AAE]; rfl
   refine A8 (Aq rfl rfl BB) (fun _=>?_) fun _=>?_
   ·refine AA (v:=.ref 3) rfl (.mcall (f:=40) Ay (by unfold mtP; kernel_rfl) ((Ae (C0 6).ok (.var 0)).v rfl) .nil ((Lq h).more (by decide))) ?_
    refine AA (v:=vb true) rfl (.fcall ((Ae (C0 6).ok _).row rfl) ((DZ (Aj (nms cs)) (.inr ⟨3,rfl,?_⟩) hn).more (by decide))) (Ad (Ad (Ad (Ad ⟨_,rfl,0,_,_,rfl,rfl,rfl⟩))))
    show some (O.list _)=_
    rw [AAE]; rfl
   ·refine AA (v:=.ref 3) rfl (.mcall (f:=48) Ay (by unfold mtP; kernel_rfl) ((Ae (C0 6).ok (.var 0)).v rfl) .nil ((NT h).more (by decide))) ?_
    refine AA (v:=vb true) rfl (.fcall ((Ae (C0 6).ok _).row (AY (x:=.ref 3) (y:=.d (dl ((AT (Ax (Al cs))).map (·.2)))) rfl ?_)) ((DZ ((AT (Ax (Al cs))).map (·.2)) (.inr ⟨3,rfl,?_⟩) (by rw [AAB]; exact ht)).more (by decide))) (Ad (Ad (Ad (Ad ⟨_,rfl,0,_,_,rfl,rfl,rfl⟩))))
    ·rw [CD (l:=AT (Ax (Al cs))) prD (fun _=>true) (fun x=>.str (Tx x.2)) (Bx rfl rfl) (AAC ht (by decide)) (fun _ _=>rfl) (fun x _ _=>Ag rfl rfl rfl),Bk]
     show some (V.d (.list _))=some (V.d (.list (((AT (Ax (Al cs))).map (·.2)).map fun t=>.str (Tx t))))
     rw [AAE]; rfl
    ·show some (O.list _)=_
     rw [AAE,AAE]; rfl
  ·rintro ρ _ ⟨k,τ,ws,rfl,hk,rfl⟩
   exact Ll (t:=true) rfl (Rb (k:=k+3) rfl hk (Ad (A3 (v:=vb true) rfl ⟨rfl,τ.set k (.list []),Wa⟩))))
 rw [k2,k3] at hf
 exact FN.seal (d:=.bool true) hf rfl
end
end Mine
namespace Mine
open PySem
noncomputable def Cfg.know (C:Cfg) (f:Nat) (v:V) (P:List V->Aa->Prop) (h:∀ xs σ,P xs σ->FN C.n f xs σ v σ):Cfg:=C.add f (fun xs σ=>@ite _ (P xs σ) (Classical.propDecidable _) (some v) none) fun xs σ u e=>by
 obtain ⟨q,e⟩:=@Ba _ _ _ _ (Classical.propDecidable _) e
 rw [<-e]; exact h xs σ q
theorem NB {C:Cfg} {f:Nat} {v:V} {P:List V->Aa->Prop} {hk:∀ xs σ,P xs σ->FN C.n f xs σ v σ} {xs:List V} {σ:Aa} (h:P xs σ):(C.know f v P hk).O f xs σ=some v:=by
 show (bif Nat.beq f f then @ite _ (P xs σ) (Classical.propDecidable _) (some v) none else C.O f xs σ)=_
 rw [Nat.beq_refl f]
 exact @if_pos _ (Classical.propDecidable _) h _ _ _
section
variable {cs F:List Ch} {gs:Gsl}
theorem Jz (h:Wov cs F gs):FN 8 26 [self,.d (.list (cs.map Ch.data))] (W F gs (hts [] F)) (vb true) (W F gs (hts [] F)):=by
 let C:Cfg:=(C0 7).know 25 (vb true) (fun xs σ=>(∃ a,xs=[self,.d (dms (Ax (Al cs)).1),.d (CW (Ax (Al cs))),.d (dl (Aj (nms cs))),vi a])/\σ=W F gs (hts [] F)) (by rintro _ _ ⟨⟨a,rfl⟩,rfl⟩; exact Kl h a)
 exact FN.same (C:=C) (fn:=Ov) (by unfold Pg; rfl) rfl (show 1<=7 by decide) (by
  show Af _ _ _ [some self,some (.d (.list (cs.map Ch.data))),none,none,none,none,none,none] (W F gs (hts [] F))
  refine Ra (.fcall ((Ae C.ok _).row rfl) ((Lr h.H h.gen h.len _).more (show 4<=7 by decide))) (fun {K ex} hc ts k p env=>hc (fun ex=>swappedStores [.Tuple ts k p] ex env=pure none) (by intros; rfl)) (vs:=[.d (dms (Ax (Al cs)).1),.d (CW (Ax (Al cs)))]) rfl rfl ?_
  let K:Option V->Option V->Option V->Ah:=fun z4 z6 z7=>[some self,some (.d (.list (cs.map Ch.data))),some (.d (dms (Ax (Al cs)).1)),some (.d (CW (Ax (Al cs)))),z4,none,z6,z7]
  show Af _ _ _ (K none none none) _
  have hc:(ev C.O (.comp (.sub (.var 5) (.cst (.int 0))) [5] (.var 1) .nil)).v (K none none none) (W F gs (hts [] F))=some (.d (dl (nms cs))):=by
   rw [CD (l:=cs) Ch.data (fun _=>true) (fun c=>.str (Tx c.1)) (Bx rfl rfl) (AAC h.len (by decide)) (fun _ _=>rfl) (fun c _ _=>Ag rfl rfl (AL c)),Bk]
   show some (V.d (.list _))=some (V.d (.list ((nms cs).map fun t=>.str (Tx t))))
   rw [AAE]; rfl
  refine Az (v:=.d (dl (Aj (nms cs)))) (AI (A0 hc) (CO (by show some (((nms cs).map fun t=>PyData.str (Tx t)).map V.d)=_; rw [AAE]; rfl) (by rw [AAB]; have:=h.len; omega))) ?_
  refine AS (l:=List.range 5) (fun j:Nat=>vi (j:Int)) (fun _ ρ σ=>(∃ z6 z7,ρ=K (some (.d (dl (Aj (nms cs))))) z6 z7)/\W F gs (hts [] F)=σ) (itr (m:=5) rfl (by decide) (by decide)) ⟨⟨_,_,rfl⟩,rfl⟩ ?_ ?_
  ·rintro p j q ρ _ e ⟨⟨z6,z7,rfl⟩,rfl⟩
   have hj:j < 5:=ABZ.mp (by rw [e]; simp)
   refine Az (Ai (Ai (Ai rfl (Ai rfl (Ai (Ai (AI (A0 rfl) BZ) rfl (AJ (by decide))) rfl (GW (smr (by decide) (by decide)))) rfl) (GW (by rw [KE (by omega) (by omega)]; rfl))) (AI (A0 rfl) BZ) rfl) rfl (AJ (by decide))) ?_
   exact Ll (t:=false) (CN (p:=true) (J4 (xs:=[self,.d (dms (Ax (Al cs)).1),.d (CW (Ax (Al cs))),.d (dl (Aj (nms cs))),vi _]) rfl (NB (C:=C0 7) ⟨⟨_,rfl⟩,rfl⟩))) (Ad (Ad ⟨_,rfl,⟨_,_,rfl⟩,rfl⟩))
  ·rintro ρ _ ⟨⟨z6,z7,rfl⟩,rfl⟩
   exact A3 (v:=vb true) rfl ⟨rfl,rfl⟩)
end
end Mine
namespace Mine
open PySem
theorem Tu {C:Cfg} {P:Fl->Aa->Prop} {r body:S} {ρ:Ah} {σ σ₁:Aa} {it:E} {ts:List Nat} {α:Type} {l:List α} (w:α->V) (J:List α->Ah->Aa->Prop) (hit:SI C.n it ρ σ (l.map w) [] σ₁) (hb:∀ a,a∈l->EB ts (w a)) (hJ:J [] ρ σ₁)
 (hf:∀ p a q ρ σ,l=p++a::q->J p ρ σ->Af C (fun fl σ'=>∃ ρ',fl=.next ρ'/\J (p++[a]) ρ' σ') body (Cw ρ ts (w a)) σ) (k:∀ ρ' σ',J l ρ' σ'->Af C P r ρ' σ'):Af C P (.cons (.for_ ts it body) r) ρ σ:=by
 obtain ⟨ρe,σe,h1,h2⟩:=Nd (C:=C) (body:=body) (ts:=ts) (kps:=[]) w J l [] ρ σ₁ (fun _ _ _ _ _ _ m=>nomatch m) hb hJ hf
 exact Cq (fl:=.next ρe) (fun Q q=>.for_ hit (h2 Q q)) (k ρe σe h1)
theorem PW {k j:Nat} {p q:List Nat} (e:List.range k=p++j::q):j=p.length:=by
 have h1:(List.range k)[p.length]? = some j:=by rw [e,AA6 (AAL _),Nat.sub_self]; rfl
 obtain ⟨h2,h3⟩:=AAM.mp h1
 rw [List.getElem_range] at h3
 exact h3.symm
theorem WH {O:Orc} {ρ:Ah} {σ:Aa} {es:E} {b:Bi} {xs ws:List V} (h:(ev O es).row ρ σ=some xs) (h2:Ok b σ xs=some ws) (hl:ws.length<=line):(ev O (.bi b es)).nl ρ σ=some ws:=by
 show (((ev O es).row ρ σ).bind (Ok b σ)).bind (fun ws=>if ws.length<=line then some ws else none)=_
 rw [h,bs,h2,bs,if_pos hl]
end Mine
namespace Mine
open PySem
theorem CZ {l:List (List Nat)} (h:l.Pairwise (· < ·)):l.Nodup:=h.imp fun {a b} (h:a < b) (e:a=b)=>List.lt_irrefl b (by rw [e] at h; exact h)
section
variable {C:Cfg} {P:Fl->Aa->Prop} {c:E} {body r:S} {ρ:Ah} {σ:Aa}
theorem Na (J:Nat->Ah->Aa->Prop) (B:Ah->Aa->Bool) (ht:∀ m ρ σ,J m ρ σ->C.t c ρ σ=some (B ρ σ)) (h0:∀ ρ σ,J 0 ρ σ->B ρ σ=false)
 (hf:∀ m ρ σ,J (m+1) ρ σ->B ρ σ=true->Af C (fun fl σ'=>∃ ρ',fl=.next ρ'/\J m ρ' σ') body ρ σ):∀ (m:Nat) (ρ:Ah) (σ:Aa),J m ρ σ->∃ ρe σe m',J m' ρe σe/\B ρe σe=false/\∀ Q:Fl->Aa->Prop,Q (.next ρe) σe->WhQ C.n c body Q (m+1) ρ σ
 | 0,ρ,σ,hJ=>⟨ρ,σ,0,hJ,h0 ρ σ hJ,fun Q q=>⟨false,σ,(Ae C.ok c).t (h0 ρ σ hJ▸ht 0 ρ σ hJ),fun _=>q,fun h=>ff_ h⟩⟩
 | m+1,ρ,σ,hJ=>by
  have h:=ht (m+1) ρ σ hJ
  cases e:B ρ σ with
  | false=>rw [e] at h; exact ⟨ρ,σ,m+1,hJ,e,fun Q q=>⟨false,σ,(Ae C.ok c).t h,fun _=>q,fun h=>ff_ h⟩⟩
  | true =>
   rw [e] at h
   obtain ⟨fl,σ₁,⟨ρ1,rfl,h1⟩,h2⟩:=hf m ρ σ hJ e
   obtain ⟨ρe,σe,m',h3,h5,h4⟩:=Na J B ht h0 hf m ρ1 σ₁ h1
   exact ⟨ρe,σe,m',h3,h5,fun Q q=>⟨true,σ,(Ae C.ok c).t h,fun h=>tt_ h,fun _=>SSs.mono (fun f s e=>by rw [e.1,e.2]; exact h4 Q q) h2⟩⟩
theorem OY (J:Nat->Ah->Aa->Prop) (B:Ah->Aa->Bool) (m:Nat) (hJ:J m ρ σ) (ht:∀ m ρ σ,J m ρ σ->C.t c ρ σ=some (B ρ σ)) (h0:∀ ρ σ,J 0 ρ σ->B ρ σ=false)
 (hf:∀ m ρ σ,J (m+1) ρ σ->B ρ σ=true->Af C (fun fl σ'=>∃ ρ',fl=.next ρ'/\J m ρ' σ') body ρ σ) (k:∀ m' ρ' σ',J m' ρ' σ'->B ρ' σ'=false->Af C P r ρ' σ'):Af C P (.cons (.while_ c body) r) ρ σ:=by
 obtain ⟨ρe,σe,m',h1,h2,h3⟩:=Na (C:=C) J B ht h0 hf m ρ σ hJ
 exact Cq (fl:=.next ρe) (fun Q q=>.while_ (h3 Q q)) (k m' ρe σe h1 h2)
end
theorem Blw.trans {F:List Ch} {a b c:List Nat} (x:Blw F a b) (y:Blw F b c):Blw F a c:=by
 induction x with
 | one hc hl=>exact .more hc hl y
 | more hc hl _ ih=>exact .more hc hl (ih y)
noncomputable def rem (fs:List (List Nat)):List Ch->Nat
 | []=>0
 | c::cs=>(if c.1∈fs then 0 else c.2.1.length)+rem fs cs
theorem KM (fs:List (List Nat)) (n:List Nat):∀ cs:List Ch,n∉nms cs->rem (fs++[n]) cs=rem fs cs
 | [],_=>rfl
 | c::cs,h=>by
  have h1:c.1≠n:=fun e=>h (e▸.head _)
  show (if c.1∈fs++[n] then 0 else c.2.1.length)+rem (fs++[n]) cs=(if c.1∈fs then 0 else c.2.1.length)+rem fs cs
  rw [KM fs n cs fun q=>h (.tail _ q)]
  congr 1
  have:(c.1∈fs++[n]) ↔ c.1∈fs:=by rw [AA0,AAJ]; exact ⟨fun q=>q.resolve_right h1,.inl⟩
  simp only [this]
theorem Nw {fs:List (List Nat)} {c:Ch} (hf:c.1∉fs):∀ {cs:List Ch},(nms cs).Nodup->c∈cs->rem fs cs=c.2.1.length+rem (fs++[c.1]) cs
 | a::cs,nd,hc=>by
  have nd:=ABX.mp nd
  show (if a.1∈fs then 0 else a.2.1.length)+rem fs cs=c.2.1.length+((if a.1∈fs++[c.1] then 0 else a.2.1.length)+rem (fs++[c.1]) cs)
  rcases AAR.mp hc with e | hc
  ·subst e
   rw [if_neg hf,if_pos (AAW _ (.head _)),KM fs c.1 cs nd.1,Nat.zero_add]
  ·have h1:a.1≠c.1:=fun e=>nd.1 (show a.1∈nms cs by rw [e]; exact AAZ hc)
   rw [Nw hf nd.2 hc]
   have:(a.1∈fs++[c.1]) ↔ a.1∈fs:=by rw [AA0,AAJ]; exact ⟨fun q=>q.resolve_right h1,.inl⟩
   simp only [this]; omega
theorem PV (fs:List (List Nat)):∀ cs:List Ch,(∀ c∈cs,c.2.1.length<=60)->rem fs cs<=60 * cs.length
 | [],_=>AAL _
 | c::cs,h=>by
  have:=PV fs cs fun x hx=>h x (.tail _ hx)
  have:=h c (.head _)
  show (if c.1∈fs then 0 else c.2.1.length)+rem fs cs<=60 * (cs.length+1)
  split <;> omega
structure Hm (cs:List Ch) (ns fs wt:List (List Nat)):Prop where
 nd:fs.Nodup
 sub:∀ n,n∈fs\/n∈wt->∃ o∈ns,n=o\/Blw cs o n
 all:∀ o∈ns,o∈fs\/o∈wt
 cov:∀ c∈cs,c.1∈fs->∀ l∈c.2.1,l∈fs\/l∈wt
section
variable {cs:List Ch} {ns fs wt:List (List Nat)}
theorem Hm.names (h:Hm cs ns fs wt) (ht:BR cs) (hn:∀ n∈ns,n∈nms cs) {n:List Nat} (q:n∈fs\/n∈wt):n∈nms cs:=by
 obtain ⟨o,ho,e | e⟩:=h.sub n q
 ·rw [e]; exact hn o ho
 ·exact e.names ht
theorem Hm.skip {n:List Nat} (h:Hm cs ns fs (wt++[n])) (hn:n∈fs):Hm cs ns fs wt:=by
 have drop:∀ {x},x∈fs\/x∈wt++[n]->x∈fs\/x∈wt:=fun {x} q=>q.elim .inl fun q=>(AA0.mp q).elim .inr fun q=>.inl (AAJ.mp q▸hn)
 exact ⟨h.nd,fun x q=>h.sub x (q.imp id (AAU _)),fun o ho=>drop (h.all o ho),fun c hc hf l hl=>drop (h.cov c hc hf l hl)⟩
theorem Hm.take {c:Ch} (nd:(nms cs).Nodup) (h:Hm cs ns fs (wt++[c.1])) (hc:c∈cs) (hn:c.1∉fs):Hm cs ns (fs++[c.1]) (wt++c.2.1):=by
 have mv:∀ {x},x∈fs\/x∈wt++[c.1]->x∈fs++[c.1]\/x∈wt++c.2.1:=fun {x} q=>q.elim (fun q=>.inl (AAU _ q)) fun q=>(AA0.mp q).elim (fun q=>.inr (AAU _ q)) fun q=>.inl (AAW _ q)
 have here:c.1∈fs\/c.1∈wt++[c.1]:=.inr (AAW _ (.head _))
 refine ⟨ABW.mpr ⟨h.nd,ABX.mpr ⟨AA1,ABY⟩,fun a ha b hb e=>hn (by rw [<-AAJ.mp hb,<-e]; exact ha)⟩,fun x q=>?_,fun o ho=>mv (h.all o ho),fun d hd hf l hl=>?_⟩
 ·rcases q with q | q
  ·rcases AA0.mp q with q | q
   ·exact h.sub x (.inl q)
   ·rw [AAJ.mp q]; exact h.sub _ here
  ·rcases AA0.mp q with q | q
   ·exact h.sub x (.inr (AAU _ q))
   ·obtain ⟨o,ho,e⟩:=h.sub _ here
    refine ⟨o,ho,.inr ?_⟩
    rcases e with e | e
    ·rw [<-e]; exact .one hc q
    ·exact Blw.trans e (.one hc q)
 ·rcases AA0.mp hf with hf | hf
  ·exact mv (h.cov d hd hf l hl)
  ·rw [Hn nd hd hc (AAJ.mp hf)] at hl
   exact .inr (AAW _ hl)
theorem Hm.done (h:Hm cs ns fs []) {n:List Nat}:n∈fs ↔ ∃ o∈ns,n=o\/Blw cs o n:=by
 have up:∀ {a b:List Nat},Blw cs a b->a∈fs->b∈fs:=fun x=>by
  induction x with
  | one hc hl=>exact fun q=>(h.cov _ hc q _ hl).resolve_right AA1
  | more hc hl _ ih=>exact fun q=>ih ((h.cov _ hc q _ hl).resolve_right AA1)
 refine ⟨fun q=>h.sub n (.inl q),fun ⟨o,ho,e⟩=>?_⟩
 have h1:=(h.all o ho).resolve_right AA1
 exact e.elim (fun e=>e▸h1) fun e=>up e h1
end
end Mine
namespace Mine
open PySem
noncomputable abbrev lnK (cs:List Ch):Gsl:=cs.map fun c=>(c.1,c.2.1)
noncomputable abbrev oL (cs:List Ch):O:=.dictS (A7 Tx dl (lnK cs))
theorem X7 {F:List Ch} (nd:(F.map (·.1)).Nodup) {c:Ch} (hc:c∈F):Ao (lnK F) c.1=some c.2.1:=by
 induction F with
 | nil=>cases hc
 | cons a F ih =>
  have nd':=ABX.mp nd
  show Ao ((a.1,a.2.1)::lnK F) c.1=_
  rw [AX]
  rcases AAR.mp hc with rfl | hc
  ·exact if_pos rfl
  ·rw [if_neg fun e=>nd'.1 (by show a.1∈F.map (·.1); rw [show a.1=c.1 from e]; exact AAZ hc)]
   exact ih nd'.2 hc
theorem J1 {cs:List Ch} (nd:(nms cs).Nodup) (ht:BR cs) (hl:cs.length<=60) (hg:∀ c∈cs,c.2.1.length<=60) {ns:List (List Nat)} (hn:∀ n∈ns,n∈nms cs) (hnl:ns.length<=100):∃ fs:List (List Nat),fs.Nodup/\(∀ n,n∈fs ↔ ∃ o∈ns,n=o\/Blw cs o n)/\∀ σ,FN 2 28 [.d (.list (cs.map Ch.data)),.d (dl ns)] σ (.d (dl fs)) σ:=by
 let C:=C0 1
 obtain ⟨v,σ',⟨fs,wt,g1,g2,k2,k3⟩,h⟩:=FN.ends (C:=C) (f:=28) (fn:=Oy) (zs:=[.d (.list (cs.map Ch.data)),.d (dl ns)]) (σ:=[]) (R:=fun v σ'=>∃ fs wt,Hm cs ns fs wt/\wt=[]/\v=.ref 1/\σ'=[oL cs,.list (fs.map vs),.list (wt.map vs)]) (by unfold Pg; rfl) rfl (AAL _) (by
  let K:Option V->Option V->Option V->Option V->Option V->Ah:=fun z2 z3 z4 z5 z6=>[some (.d (.list (cs.map Ch.data))),some (.d (dl ns)),z2,z3,z4,z5,z6]
  show Af C _ _ (K none none none none none) []
  refine Kj ?_
  refine AS (l:=cs) vc (fun p ρ σ=>(∃ z3,ρ=K (some (.ref 0)) z3 none none none)/\[oL p]=σ) (FR rfl) ⟨⟨none,rfl⟩,rfl⟩ ?_ ?_
  ·rintro p c q ρ _ e ⟨⟨z3,rfl⟩,rfl⟩
   have hpl:(lnK p).length<=60:=by
    have h2:=congrArg List.length e
    rw [AAF,AA2] at h2
    rw [AAB]; omega
   refine DW (z:=AO) (y:=AO) (k:=0) (w:=Tx c.1) (dd:=dl c.2.1) (kvs:=A7 Tx dl (lnK p)) (Ag rfl rfl (CC c)) rfl (Ag rfl rfl (AL c)) rfl (by rw [Bl]; exact AAS hpl (by decide)) (Ad ⟨_,rfl,⟨_,rfl⟩,?_⟩)
   rw [Bs dl BI,FE (CR.mpr ?_),oL,lnK,lnK,AAQ]
   ·rfl
   ·rw [lnK,AAE]
    show c.1∉p.map (·.1)
    rw [e,nms,AAQ,ABP,ABW] at nd
    exact fun q=>nd.2.2 c.1 q c.1 (.head _) rfl
  rintro ρ _ ⟨⟨z3,rfl⟩,rfl⟩
  refine Bu (ws:=[]) rfl ?_
  refine Bu (ws:=ns.map vs) (WH (A0 rfl) (by show some ((ns.map fun t=>PyData.str (Tx t)).map V.d)=_; rw [AAE]; rfl) (by rw [AAB]; exact AAC hnl (by decide))) ?_
  let St:List (List Nat)->List (List Nat)->Aa:=fun fs wt=>[oL cs,.list (fs.map vs),.list (wt.map vs)]
  have hr:=PV [] cs hg
  refine OY (fun m ρ σ=>m<=10000/\∃ fs wt,Hm cs ns fs wt/\wt.length+rem fs cs=m/\(∃ z6,ρ=K (some (.ref 0)) z3 (some (.ref 1)) (some (.ref 2)) z6)/\St fs wt=σ) (fun ρ σ=>match σ with | [_,_,.list ws]=>!ws.isEmpty | _=>false) (ns.length+rem [] cs) ⟨by omega,[],ns,⟨ABY,fun n q=>⟨n,q.resolve_left AA1,.inl rfl⟩,fun o ho=>.inr ho,fun c _ q=>nomatch q⟩,rfl,⟨_,rfl⟩,rfl⟩ ?_ ?_ ?_ ?_
  ·rintro m ρ _ ⟨_,fs,wt,_,_,⟨z6,rfl⟩,rfl⟩
   exact tr_of' (σ:=St fs wt) (x:=.ref 2) (ws:=wt.map vs) rfl
  ·rintro ρ _ ⟨_,fs,wt,_,e,_,rfl⟩
   have:wt=[]:=List.length_eq_zero_iff.mp (by omega)
   subst this; rfl
  ·rintro m ρ _ ⟨hm,fs,wt,G,e,⟨z6,rfl⟩,rfl⟩ hB
   rcases List.eq_nil_or_concat wt with rfl | ⟨wt,y,rfl⟩
   ·cases hB
   rw [List.concat_eq_append] at G e ⊢
   rw [AAF] at e
   have e:wt.length+1+rem fs cs=m+1:=e
   have hy:y∈nms cs:=G.names ht hn (.inr (AAW _ (.head _)))
   obtain ⟨c,hc,rfl⟩:=AAP.mp hy
   have hfl:fs.length<=60:=by
    have:=JQ fs (nms cs) G.nd fun n q=>G.names ht hn (.inl q)
    rw [AAB] at this; omega
   refine Vr (k:=2) (ws:=wt.map vs) (y:=vs c.1) rfl (by show some (O.list ((wt++[c.1]).map vs))=_; rw [AAQ]; rfl) ?_
   show Af _ _ _ (K (some (.ref 0)) z3 (some (.ref 1)) (some (.ref 2)) (some (vs c.1))) (St fs wt)
   refine A8 (t:=!decide (c.1∈fs)) (Aq rfl rfl (by rw [GU,QS (l:=fs) (x:=.ref 1) (N4 rfl)]; rfl)) (fun q=>?_) fun q=>?_
   ·have q:c.1∉fs:=fun h=>by rw [AAI h] at q; cases q
    have er:=Nw q nd hc
    refine AU (k:=1) (ws:=fs.map vs) (y:=vs c.1) rfl rfl rfl (by rw [AAB]; exact AAS hfl (by decide)) ?_
    refine Pa (k:=2) (ws:=wt.map vs) (us:=c.2.1.map vs) (y:=.d (dl c.2.1)) rfl (A0 (Ag rfl rfl (BV (k:=0) (kvs:=A7 Tx dl (lnK cs)) rfl (by rw [AK dl BI,X7 nd hc]; rfl)))) rfl (by show some ((c.2.1.map fun t=>PyData.str (Tx t)).map V.d)=_; rw [AAE]; rfl) (by rw [AAB,AAB]; exact AAC (show wt.length+c.2.1.length<=10100 by have:=hg c hc; omega) (by decide)) (Ad (Ad ⟨_,rfl,by omega,fs++[c.1],wt++c.2.1,G.take nd hc q,by rw [AAF]; omega,⟨_,rfl⟩,?_⟩))
    show [oL cs,O.list ((fs++[c.1]).map vs),O.list ((wt++c.2.1).map vs)]=[oL cs,O.list (fs.map vs++[vs c.1]),O.list (wt.map vs++c.2.1.map vs)]
    rw [AAQ,AAQ]; rfl
   ·have q:c.1∈fs:=AAG (by cases h:decide (c.1∈fs) with | true=>rfl | false=>rw [h] at q; cases q)
    exact Ad (Ad ⟨_,rfl,by omega,fs,wt,G.skip q,by omega,⟨_,rfl⟩,rfl⟩)
  ·rintro m ρ _ ⟨_,fs,wt,G,e,⟨z6,rfl⟩,rfl⟩ hB
   have:wt=[]:=by
    cases wt with
    | nil=>rfl
    | cons _ _=>cases hB
   exact A3 (v:=.ref 1) rfl ⟨fs,wt,G,this,rfl,rfl⟩)
 rw [k2,k3] at h
 subst g2
 refine ⟨fs,g1.nd,fun n=>g1.done,fun σ=>(FN.seal (σ:=[]) (d:=dl fs) h ⟨_,rfl,ABF _,?_⟩).any (all_cons (Cm _ _) (all_cons (Cm _ _) A9))⟩
 show some (O.list _)=_
 rw [AAE]; rfl
end Mine
namespace Mine
open PySem
noncomputable def Cfg.knowF (C:Cfg) (f:Nat) {α:Type} (arg:α->List V) (out:α->V) (h:∀ a σ,FN C.n f (arg a) σ (out a) σ):Cfg:=C.add f (fun xs _=>@dite _ (∃ a,arg a=xs) (Classical.propDecidable _) (fun q=>some (out (Classical.choose q))) fun _=>none) fun xs σ v e=>by
 by_cases q:∃ a,arg a=xs
 ·rw [dif_pos q] at e
  rw [<-AAA e]
  have:=h (Classical.choose q) σ
  rw [Classical.choose_spec q] at this; exact this
 ·rw [dif_neg q] at e; exact Ac e
theorem Ie {C:Cfg} {f:Nat} {α:Type} {arg:α->List V} {out:α->V} {h:∀ a σ,FN C.n f (arg a) σ (out a) σ} (inj:∀ a b,arg a=arg b->out a=out b) (a:α) (σ:Aa):(C.knowF f arg out h).O f (arg a) σ=some (out a):=by
 have q:∃ b,arg b=arg a:=⟨a,rfl⟩
 show (bif Nat.beq f f then @dite _ (∃ b,arg b=arg a) (Classical.propDecidable _) (fun q=>some (out (Classical.choose q))) fun _=>none else C.O f (arg a) σ)=_
 rw [Nat.beq_refl f]
 show @dite _ (∃ b,arg b=arg a) (Classical.propDecidable _) (fun q=>some (out (Classical.choose q))) (fun _=>none)=_
 rw [dif_pos q,inj _ _ (Classical.choose_spec q)]
theorem Qm {O:Orc} {ρ:Ah} {σ:Aa} {α:Type} {l:List α} {elt ifs:E} {i k t:Nat} (w:α->V) (p:α->Bool) (g:α->V) (h1:B2 ρ i=some (.ref k)) (h2:σ[k]? = some (.list (l.map w))) (hl:l.length<=line)
 (hp:∀ a∈l,(ev O ifs).ts ((ρ.set t none).set t (some (w a))) σ=some (p a)) (hg:∀ a∈l,p a=true->(ev O elt).v ((ρ.set t none).set t (some (w a))) σ=some (g a)):(ev O (.comp elt [t] (.var i) ifs)).nl ρ σ=some ((l.filter p).map g):=by
 refine Cl (kps:=[(k,l.map w)]) w p g ?_ hl hp hg
 show (B2 ρ i).bind (DT σ)=_
 rw [h1]
 show (CQ σ[k]?).bind _=_
 rw [h2]; rfl
theorem JB {σ:Aa} {α:Type} (f:α->Bool) (l:List α):B6 .any σ [.d (.list (l.map fun a=>PyData.bool (f a)))]=some (vb (l.any f)):=by
 show (Ct Ei ((l.map fun a=>PyData.bool (f a)).map V.d)).bind _=_
 have:Ct Ei ((l.map fun a=>PyData.bool (f a)).map V.d)=some (l.map f):=by
  induction l with
  | nil=>rfl
  | cons a l ih=>show (Ct Ei ((l.map fun a=>PyData.bool (f a)).map V.d)).bind _=_; rw [ih]; rfl
 rw [this,bs,List.any_map]; rfl
theorem V1 (a:Option Mk) (m:Mk):eqN A6 (A1 a) (A1 (some m))=some (decide (a=some m)):=by
 cases a with
 | none=>rfl
 | some a =>
  have:decide (a=m)=decide (some a=some m):=decide_eq_decide.mpr ⟨fun e=>e▸rfl,AAA⟩
  rw [<-this]; exact GC 39 a m
noncomputable def DO (m:Mk) (d:AH):Bool:=decide (d.word=G6)&&decide (d.mark=some m)
noncomputable def Fo (m:Mk) (c:Ch):Bool:=c.2.2.any (DO m)
noncomputable def Bw (cs:List Ch) (m:Mk):List (List Nat):=nms (cs.filter (Fo m))
structure Opn (cs:List Ch) (m:Mk) (us:List (List Nat)):Prop where
 rise:us.Pairwise (· < ·)
 mem:∀ n,n∈us ↔ n∈Bw cs m/\¬ ∃ o∈Bw cs m,Blw cs o n
theorem Opn.uniq {cs:List Ch} {m:Mk} {us us':List (List Nat)} (h:Opn cs m us) (h':Opn cs m us'):us=us' :=
 CH (fun x y p q=>List.lt_irrefl _ (List.lt_trans p q)) h.rise h'.rise ((List.perm_ext_iff_of_nodup (CZ h.rise) (CZ h'.rise)).mpr fun n=>(h.mem n).trans (h'.mem n).symm)
theorem Blw.lower {F:List Ch} (nd:(F.map (·.1)).Nodup) (ht:BR F) {a b:List Nat} (x:Blw F a b):hgt F b < hgt F a:=by
 have one:∀ {c:Ch} {l:List Nat},c∈F->l∈c.2.1->hgt F l < hgt F c.1:=fun {c l} hc hl=>by
  rw [Kd nd ht hc]
  have:=Qt 0 (c.2.1.map fun l=>hgt F l+1) (hgt F l+1) (AAZ hl)
  omega
 induction x with
 | one hc hl=>exact one hc hl
 | more hc hl _ ih=>have:=one hc hl; omega
theorem DC {cs:List Ch} {m:Mk} {n:List Nat} (h:n∈Bw cs m):n∈nms cs:=by
 obtain ⟨c,hc,rfl⟩:=AAP.mp h
 exact AAZ (AA4.mp hc).1
theorem KI (cs:List Ch) (m:Mk):(Bw cs m).length<=cs.length:=by
 rw [Bw,AAB]; exact AAX _ _
theorem Kk {cs:List Ch} (nd:(nms cs).Nodup) (ht:BR cs) (hl:cs.length<=60) (hg:∀ c∈cs,GenCh c) (m:Mk):∃ us:List (List Nat),Opn cs m us/\us.length<=60/\∀ σ,FN 3 31 [.d (.list (cs.map Ch.data)),vm m] σ (.d (dl us)) σ:=by
 have hgr:∀ n:{n // n∈nms cs},∃ fs:List (List Nat),(∀ x,x∈fs ↔ x=n.1\/Blw cs n.1 x)/\∀ σ,FN 2 28 [.d (.list (cs.map Ch.data)),.d (dl [n.1])] σ (.d (dl fs)) σ:=fun n=>by
  obtain ⟨fs,_,h2,h3⟩:=J1 nd ht hl (fun c hc=>(hg c hc).few) (ns:=[n.1]) (fun x hx=>by rw [AAJ.mp hx]; exact n.2) (show 1<=100 by decide)
  refine ⟨fs,fun x=>(h2 x).trans ⟨fun ⟨o,ho,e⟩=>?_,fun e=>⟨n.1,.head _,e⟩⟩,h3⟩
  rw [AAJ.mp ho] at e; exact e
 obtain ⟨gr,hgr⟩:=Classical.axiomOfChoice hgr
 let C:Cfg:=(C0 2).knowF 28 (fun n:{n // n∈nms cs}=>[.d (.list (cs.map Ch.data)),.d (dl [n.1])]) (fun n=>.d (dl (gr n))) (fun n σ=>(hgr n).2 σ)
 have hgO:∀ (n:{n // n∈nms cs}) σ,C.O 28 [.d (.list (cs.map Ch.data)),.d (dl [n.1])] σ=some (.d (dl (gr n))):=fun n σ=>Ie (C:=C0 2) (fun a b e=>by
  injection e with _ e
  injection e with e _
  injection e with e
  injection e with e
  injection e with e _
  injection e with e
  rw [Subtype.ext (ED e)]) n σ
 have hsl:(Bw cs m).length<=60:=AAC (KI cs m) hl
 let gi:List Nat->List Nat->Bool:=fun o n=>@decide (∃ h:o∈nms cs,n∈gr ⟨o,h⟩) (Classical.propDecidable _)
 have gi_eq:∀ (o:List Nat) (h:o∈nms cs) (n:List Nat),gi o n=decide (n∈gr ⟨o,h⟩):=fun o h n=>by
  by_cases q:n∈gr ⟨o,h⟩
  ·rw [AAI q]; exact @AAI _ (Classical.propDecidable _) ⟨h,q⟩
  ·rw [AAT q]; exact @AAT _ (Classical.propDecidable _) fun ⟨_,r⟩=>q r
 let op:List Nat->Bool:=fun n=>!((Bw cs m).filter fun o=>!decide (o=n)).any fun o=>gi o n
 obtain ⟨v,σ',⟨k2,k3⟩,h⟩:=FN.ends (C:=C) (f:=31) (fn:=IS) (zs:=[.d (.list (cs.map Ch.data)),vm m]) (σ:=[]) (R:=fun v σ'=>v=.d (dl (Aj ((Bw cs m).filter op)))/\σ'=[.list ((Bw cs m).map vs),.list (((Bw cs m).filter op).map vs)]) (by unfold Pg; rfl) rfl (show 1<=2 by decide) (by
  let K:Option V->Option V->Option V->Option V->Ah:=fun z2 z3 z5 z6=>[some (.d (.list (cs.map Ch.data))),some (vm m),z2,z3,none,z5,z6,none]
  show Af C _ _ (K none none none none) []
  refine Bu (ws:=[]) rfl ?_
  refine AS (l:=cs) vc (fun p ρ σ=>(∃ z3,ρ=K (some (.ref 0)) z3 none none)/\[.list ((Bw p m).map vs)]=σ) (FR rfl) ⟨⟨none,rfl⟩,rfl⟩ ?_ ?_
  ·rintro p c q ρ _ e ⟨⟨z3,rfl⟩,rfl⟩
   have hc:c∈cs:=by rw [e]; simp
   have hpl:(Bw p m).length<=60:=by
    have h1:=KI p m
    have h2:=congrArg List.length e
    rw [AAF,AA2] at h2; omega
   have hsn:Bw (p++[c]) m=if Fo m c then Bw p m++[c.1] else Bw p m:=by
    unfold Bw nms
    rw [ABN,List.filter_cons]
    cases Fo m c with
    | true=>rw [AAQ]; rfl
    | false=>exact congrArg _ (AAV _)
   have hcomp:(ev C.O (.comp (.var 4) [4] (.sub (.var 3) (.cst (.int 2))) (.cons (.bop .And (.cons (.cmp .Eq (.sub (.var 4) (.cst (.int 0))) (.cst (.str (ACB "set")))) (.cons (.cmp .Eq (.sub (.var 4) (.cst (.int 1))) (.var 1)) .nil))) .nil))).v (K (some (.ref 0)) (some (vc c)) none none) [.list ((Bw p m).map vs)]=some (.d (.list ((c.2.2.filter (DO m)).map AH.data))) :=
    CD (l:=c.2.2) AH.data (DO m) AH.data (Bx (Ag rfl rfl (Cj c)) rfl) (AAC (hg c hc).deeds (by decide)) (fun d _=>E9 (Cr (Aq (Ag rfl rfl (CE d)) (congrArg (fun s=>some (V.d (.str s))) GQ) Fu) fun _=>Aq (Ag rfl rfl (CF d)) rfl (V1 d.mark m))) (fun d _ _=>rfl)
   have hs:decide (((c.2.2.filter (DO m)).length:Int) > 0)=Fo m c:=by
    unfold Fo
    cases h:c.2.2.any (DO m) with
    | true =>
     obtain ⟨d,h1,h2⟩:=List.any_eq_true.mp h
     have:=List.length_pos_of_mem (AA4.mpr ⟨h1,h2⟩)
     exact AAI (by omega)
    | false =>
     rw [List.filter_eq_nil_iff.mpr fun d hd=>List.any_eq_false.mp h d hd]; rfl
   refine A8 (t:=Fo m c) ((Aq (AI (A0 hcomp) (BZ.trans (by rw [AAB]))) rfl LB).trans (congrArg some hs)) (fun h=>?_) fun h=>?_
   ·refine AU (k:=0) (ws:=(Bw p m).map vs) (y:=vs c.1) rfl (A0 (Ag rfl rfl (AL c))) rfl (by rw [AAB]; exact AAS hpl (by decide)) (Ad (Ad ⟨_,rfl,⟨_,rfl⟩,?_⟩))
    rw [hsn,if_pos h,AAQ]; rfl
   ·refine Ad (Ad ⟨_,rfl,⟨_,rfl⟩,?_⟩)
    rw [hsn,if_neg (by rw [h]; exact ABB)]
  rintro ρ _ ⟨⟨z3,rfl⟩,rfl⟩
  refine Bu (ws:=[]) rfl ?_
  let St:List (List Nat)->Aa:=fun fs=>[.list ((Bw cs m).map vs),.list (fs.map vs)]
  refine G9 (l:=Bw cs m) (kps:=[(0,(Bw cs m).map vs)]) (ts:=[6]) vs (fun p ρ σ=>(∃ z6,ρ=K (some (.ref 0)) z3 (some (.ref 1)) z6)/\St (p.filter op)=σ) rfl ?_ (fun _ _=>.inl rfl) ⟨⟨none,rfl⟩,rfl⟩ ?_ ?_
  ·rintro p ρ _ ⟨_,rfl⟩ k ws hk
   obtain ⟨rfl,rfl⟩:=ABK (AAJ.mp hk)
   rfl
  ·rintro p n q ρ _ e ⟨⟨z6,rfl⟩,rfl⟩
   show Af C _ _ (K (some (.ref 0)) z3 (some (.ref 1)) (some (vs n))) (St (p.filter op))
   have hpl:(p.filter op).length<=60:=by
    have h1:=AAX op p
    have h2:=congrArg List.length e
    rw [AAF,AA2] at h2; omega
   have hcomp:(ev C.O (.comp (.cmp .In (.var 6) (.fcall 28 (.cons (.var 0) (.cons (.lst (.cons (.var 7) .nil)) .nil)))) [7] (.var 2) (.cons (.cmp .NotEq (.var 7) (.var 6)) .nil))).v (K (some (.ref 0)) z3 (some (.ref 1)) (some (vs n))) (St (p.filter op))=some (.d (.list (((Bw cs m).filter fun o=>!decide (o=n)).map fun o=>.bool (gi o n)))):=by
    refine Fr ?_
    rw [Qm (k:=0) (l:=Bw cs m) vs (fun o=>!decide (o=n)) (fun o=>vb (gi o n)) rfl rfl (AAC hsl (by decide)) (fun o _=>E9 (Aq rfl rfl G2)) (fun o ho _=>?_),AAE]
    ·rfl
    ·have hon:=DC ho
     refine Eb (x:=vs n) (y:=.d (dl (gr ⟨o,hon⟩))) rfl (El (AY rfl (y:=.d (dl [o])) rfl) (hgO ⟨o,hon⟩ _)) ?_
     rw [RJ,BU,gi_eq o hon n]
   refine A8 (t:=op n) (CN (Eh (A0 hcomp) (JB _ _))) (fun h=>?_) fun h=>?_
   ·refine AU (k:=1) (ws:=(p.filter op).map vs) (y:=vs n) rfl rfl rfl (by rw [AAB]; exact AAS hpl (by decide)) (Ad (Ad ⟨_,rfl,⟨_,rfl⟩,?_⟩))
    show St ((p++[n]).filter op)=_
    rw [ABN,List.filter_cons_of_pos h]
    show [_,O.list ((p.filter op++[n]).map vs)]=_
    rw [AAQ]; rfl
   ·refine Ad (Ad ⟨_,rfl,⟨_,rfl⟩,?_⟩)
    show St ((p++[n]).filter op)=_
    rw [ABN,List.filter_cons_of_neg (by rw [h]; exact ABB)]
    show St (p.filter op++[])=_
    rw [AAV]
  ·rintro ρ _ ⟨⟨z6,rfl⟩,rfl⟩
   exact A3 (v:=.d (dl (Aj ((Bw cs m).filter op)))) (AI (A0 rfl) (CO (x:=.ref 1) (N4 rfl) (by have:=AAX op (Bw cs m); omega))) ⟨rfl,rfl⟩)
 rw [k2,k3] at h
 have nds:(Bw cs m).Nodup:=List.Nodup.sublist ((List.filter_sublist (p:=Fo m) (l:=cs)).map (fun c:Ch=>c.1)) nd
 refine ⟨Aj ((Bw cs m).filter op),⟨BM _ (nds.filter _),fun n=>?_⟩,by rw [(An _).length_eq]; exact AAC (AAX _ _) hsl,fun σ=>(FN.seal (σ:=[]) (d:=dl (Aj ((Bw cs m).filter op))) h rfl).any (all_cons (Cm _ _) (all_cons (Cm _ _) A9))⟩
 rw [(An _).mem_iff,AA4]
 refine and_congr_right fun hn=>?_
 show (!((Bw cs m).filter fun o=>!decide (o=n)).any fun o=>gi o n)=true ↔ _
 rw [Bool.not_eq_true',List.any_eq_false]
 constructor
 ·rintro h ⟨o,ho,hb⟩
  have hne:o≠n:=fun e=>by rw [e] at hb; exact absurd (hb.lower nd ht) (Int.lt_irrefl _)
  refine h o (AA4.mpr ⟨ho,by rw [AAT hne]; rfl⟩) ((gi_eq o (DC ho) n).trans (AAI (((hgr ⟨o,DC ho⟩).1 n).mpr (.inr hb))))
 ·intro h o ho q
  obtain ⟨h1,h2⟩:=AA4.mp ho
  have h3:=DC h1
  have h4:=AAG ((gi_eq o h3 n).symm.trans q)
  have hne:o≠n:=fun e=>by rw [AAI e] at h2; cases h2
  exact h ⟨o,h1,(((hgr ⟨o,h3⟩).1 n).mp h4).resolve_left fun e=>hne e.symm⟩
end Mine
namespace Mine
open PySem
theorem Tv {κ β:Type} [DecidableEq κ] (h:List (κ×β)) (k k':κ) (v:β):Ao (BG h k v) k'=if k'=k then some v else Ao h k':=by
 unfold BG
 rw [Gk]
 cases e:Ao h k with
 | none =>
  show Ao (h++[(k,v)]) k'=_
  by_cases q:k'=k
  ·subst q
   rw [if_pos rfl,EP e,AX,if_pos rfl]
  ·rw [if_neg q]
   cases e':Ao h k' with
   | none=>rw [EP e',AX,if_neg fun r=>q r.symm]; rfl
   | some x=>exact Iq e'
 | some d =>
  show Ao (h.map fun p=>if p.1=k then (p.1,v) else p) k'=_
  have key:∀ h:List (κ×β),Ao (h.map fun p=>if p.1=k then (p.1,v) else p) k'=if k'=k then (Ao h k').map fun _=>v else Ao h k':=by
   intro h
   induction h with
   | nil=>show none=_; split <;> rfl
   | cons p h ih =>
    rw [ABP,AX,AX,ih]
    by_cases q:k'=k
    ·subst q
     rw [if_pos rfl,if_pos rfl]
     by_cases r:p.1=k'
     ·rw [if_pos r,if_pos r,if_pos r]; rfl
     ·rw [if_neg r,if_neg r,if_neg r]
    ·rw [if_neg q,if_neg q]
     by_cases r:p.1=k
     ·rw [if_pos r,if_neg fun s=>q (s.symm.trans r),if_neg fun s=>q (s.symm.trans r)]
     ·rw [if_neg r]
  rw [key h]
  by_cases q:k'=k
  ·subst q
   rw [if_pos rfl,if_pos rfl,e]; rfl
  ·rw [if_neg q,if_neg q]
section
variable {O:Orc} {ρ:Ah} {σ:Aa} {es:E} {i k:Nat} {kvs:List ((Str×Int)×PyData)} {m:Mk} {z:V}
theorem Ur (h1:B2 ρ i=some (.ref k)) (h2:(ev O es).row ρ σ=some [vm m,z]) (h3:σ[k]? = some (.dictP kvs)):(ev O (.meth .get (.var i) es)).v ρ σ=some (dfl (Ao kvs (mk2 m)) z):=by
 show ((B2 ρ i).bind fun x=>((ev O es).row ρ σ).bind fun ys=>R7 σ x ys)=_
 rw [h1,bs,h2,bs]
 show R8 σ[k]? (vm m) z=_
 rw [h3]; rfl
end
noncomputable abbrev oS (st:List (Mk×List (List Nat))):O:=.dictP (A7 mk2 dl st)
theorem R9 (st:List (Mk×List (List Nat))) (m:Mk):dfl (Ao (A7 mk2 dl st) (mk2 m)) (.d (.list []))=.d (dl ((Ao st m).getD [])):=by
 rw [AK dl Db]
 cases Ao st m <;> rfl
section
variable {cs F:List Ch} {gs:Gsl}
theorem GB (h:Wov cs F gs) (τ:Aa):FN 2 40 [self] (W F gs (hts [] F)++τ) (.d (dl (Aj (nms cs)))) (W F gs (hts [] F)++τ) :=
 FN.tail (FN.seal' (σ':=W F gs (hts [] F)) (Lq h) rfl (Fa 3) ⟨_,rfl,AAL _,by
  show some (O.list _)=_
  rw [AAE]; rfl⟩) rfl (all_cons DF A9) (Fa 3)
theorem Rg (h:Wov cs F gs) (τ:Aa):FN 5 47 [self] (W F gs (hts [] F)++τ) (.d (CW (Ax (Al cs)))) (W F gs (hts [] F)++τ):=FN.tail (fn_told' h) rfl (all_cons DF A9) (Fa 3)
structure WN (sn:Mk->List Nat->Bool) (p:List (List Nat)) (n:List Nat) (pd:List AH) (B:Nat) (st:List (Mk×List (List Nat))):Prop where
 get:∀ m,(Ao st m).getD []=p.filter (sn m)++(if pd.any (DO m) then [n] else [])
 len:st.length<=B
theorem M8 (h:Wov cs F gs) (τ:Aa):∃ st:List (Mk×List (List Nat)),(∀ m,(Ao st m).getD []=(Aj (nms cs)).filter fun n=>decide (n∈Bw cs m))/\FN 3 49 [self] (W F gs (hts [] F)++τ) (.ref (W F gs (hts [] F)++τ).length) ((W F gs (hts [] F)++τ)++[oS st]):=by
 let σ0:=W F gs (hts [] F)++τ
 let sn:Mk->List Nat->Bool:=fun m n=>decide (n∈Bw cs m)
 have ndL:(Aj (nms cs)).Nodup:=CZ (BM _ h.H.nd)
 have hLl:(Aj (nms cs)).length<=60:=by rw [(An _).length_eq,AAB]; exact h.len
 let C:=C0 2
 have at0:∀ {o:O},(σ0++[o])[σ0.length]? = some o:=fun {o}=>by rw [AA6 (AAL _),Nat.sub_self]; rfl
 have set0:∀ {o o':O},(σ0++[o]).set σ0.length o'=σ0++[o']:=fun {o o'}=>by rw [List.set_append_right _ _ (AAL _),Nat.sub_self]; rfl
 obtain ⟨v,σ',⟨st,k1,k2,k3⟩,hf⟩:=FN.ends (C:=C) (f:=49) (fn:=EH) (zs:=[self]) (σ:=σ0) (R:=fun v σ'=>∃ st:List (Mk×List (List Nat)),(∀ m,(Ao st m).getD []=(Aj (nms cs)).filter (sn m))/\v=.ref σ0.length/\σ'=σ0++[oS st]) (by unfold Pg; rfl) rfl (show 1<=2 by decide) (by
  let K:Option V->Option V->Ah:=fun z2 z3=>[some self,some (.ref σ0.length),z2,z3]
  show Af C _ _ [some self,none,none,none] σ0
  refine Ki ?_
  refine EO (l:=Aj (nms cs)) vs (fun p ρ σ=>∃ st,WN sn p [] [] (20 * p.length) st/\(∃ z2 z3,ρ=K z2 z3)/\σ=σ0++[oS st]) (SI.lst (.mcall (f:=40) Ay (by unfold mtP; kernel_rfl) ((Ae C.ok (.var 0)).v rfl) .nil (GB h (τ++[.dictP []]))) (by show some (((Aj (nms cs)).map fun t=>PyData.str (Tx t)).map V.d)=_; rw [AAE]; rfl)) ⟨[],⟨fun m=>rfl,ABF _⟩,⟨none,none,rfl⟩,rfl⟩ ?_ ?_
  ·rintro p n q ρ _ e ⟨st,S,⟨z2,z3,rfl⟩,rfl⟩
   have hn:n∈nms cs:=(An _).mem_iff.mp (by rw [e]; simp)
   have hnp:n∉p:=fun r=>by rw [e,ABW] at ndL; exact ndL.2.2 n r n (.head _) rfl
   obtain ⟨c,hc,rfl⟩:=AAP.mp hn
   have hcF:c∈F:=h.perm.mem_iff.mpr hc
   have hg:=h.gen c hc
   have hpl:p.length<=60:=by
    have:=congrArg List.length e
    rw [AAF,AA2] at this; omega
   show Af C _ _ (K (some (vs c.1)) z3) (σ0++[oS st])
   refine AS (l:=c.2.2) (fun d=>.d d.data) (fun pd ρ σ=>∃ st,WN sn p c.1 pd (20 * p.length+pd.length) st/\(∃ z3,ρ=K (some (vs c.1)) z3)/\σ=σ0++[oS st]) (Bx (Ag (Ag (CM rfl) rfl (BV (a:=c.1) (kvs:=A7 Tx Ch.data (hK F)) rfl (by rw [AK Ch.data BI,Pb h.w.nd hcF]; rfl))) rfl (Cj c)) rfl) ⟨st,⟨fun m=>(S.get m).trans rfl,S.len⟩,⟨_,rfl⟩,rfl⟩ ?_ ?_
   ·rintro pd d qd ρ _ ed ⟨st,S,⟨z3,rfl⟩,rfl⟩
    have hw:C.t (.cmp .Eq (.sub (.var 3) (.cst (.int 0))) (.cst (.str (ACB "set")))) (K (some (vs c.1)) (some (.d d.data))) (σ0++[oS st])=some (decide (d.word=G6)):=Aq (Ag rfl rfl (CE d)) (congrArg (fun s=>some (V.d (.str s))) GQ) Fu
    have any_sn:∀ m,(pd++[d]).any (DO m)=(pd.any (DO m)||DO m d):=fun m=>by rw [List.any_append]; congr 1; exact Bool.or_false _
    have hlen:20 * p.length+(pd++[d]).length=20 * p.length+pd.length+1:=by rw [AAF]; rfl
    have hget:∀ {m:Mk},d.mark=some m->(ev C.O (.meth .get (.var 1) (.cons (.sub (.var 3) (.cst (.int 1))) (.cons (.lst .nil) .nil)))).v (K (some (vs c.1)) (some (.d d.data))) (σ0++[oS st])=some (.d (dl ((Ao st m).getD []))):=fun {m} em=>by
     rw [Ur (k:=σ0.length) (m:=m) (z:=.d (.list [])) (kvs:=A7 mk2 dl st) rfl (AY ((Ag rfl rfl (CF d)).trans (by rw [em])) rfl) at0,R9]
    by_cases ew:d.word=G6
    ·obtain ⟨m,em⟩:∃ m,d.mark=some m:=by
      rcases (hg.ok d (by rw [ed]; simp)).shp with ⟨e1,_⟩ | ⟨_,m,l,e2,_⟩ | ⟨e1,m,e2⟩
      ·exact absurd (ew.symm.trans e1) (by decide)
      ·exact ⟨m,e2⟩
      ·exact ⟨m,e2⟩
     have sd:∀ m',DO m' d=decide (m=m'):=fun m'=>by
      unfold DO
      rw [AAI ew,em,Bool.true_and]
      exact decide_eq_decide.mpr ⟨fun e=>AAA e,fun e=>e▸rfl⟩
     have hin:(c.1∈(Ao st m).getD []) ↔ pd.any (DO m)=true:=by
      rw [S.get m,AA0]
      constructor
      ·rintro (r | r)
       ·exact absurd (AA4.mp r).1 hnp
       ·by_cases q:pd.any (DO m)=true
        ·exact q
        ·rw [if_neg q] at r; cases r
      ·intro r
       rw [if_pos r]; exact .inr (.head _)
     refine A8 (t:=decide (d.word=G6) && !decide (c.1∈(Ao st m).getD [])) (Cr hw fun _=>Aq rfl (hget em) (by rw [GU,BU]; rfl)) (fun hh=>?_) fun hh=>?_
     ·have hh:c.1∉(Ao st m).getD []:=ABG (by have:=(AAH.mp hh).2; rw [Bool.not_eq_true'] at this; exact this)
      have hno:pd.any (DO m)=false:=by
       cases q:pd.any (DO m) with
       | false=>rfl
       | true=>exact absurd (hin.mpr q) hh
      have hgl:((Ao st m).getD []).length<=60:=by
       rw [S.get m,hno,if_neg (by decide),AAV]
       exact AAC (AAX _ _) hpl
      have hdl:c.2.2.length<=20:=hg.deeds
      have hpd:pd.length<=20:=by
       have:=congrArg List.length ed
       rw [AAF,AA2] at this; omega
      have hsl:=S.len
      refine DX (k:=σ0.length) (w:=mk2 m) (dd:=dl ((Ao st m).getD []++[c.1])) (kvs:=A7 mk2 dl st) (Ai (hget em) (y:=.d (dl [c.1])) rfl ((Kt _ _ ?_).trans (by rw [<-AAQ]))) rfl ((Ag rfl rfl (CF d)).trans (by rw [em]; rfl)) at0 (by rw [Bl]; exact AAS (show st.length<=10000 by omega) (by decide)) (Ad (Ad ⟨_,rfl,BG st m ((Ao st m).getD []++[c.1]),⟨fun m'=>?_,?_⟩,⟨_,rfl⟩,?_⟩))
      ·rw [AAB,AAB]; exact AAC (show _+1<=100 by omega) (by decide)
      ·rw [Tv,any_sn,sd]
       by_cases q:m'=m
       ·subst q
        rw [if_pos rfl,AAI rfl,Bool.or_true,if_pos rfl]
        show (Ao st m').getD []++[c.1]=_
        rw [S.get m',hno,if_neg (by decide),AAV]
       ·rw [if_neg q,AAT fun r=>q r.symm,Bool.or_false]; exact S.get m'
      ·rw [hlen]; exact AAC (EK _ _ _) (ABS S.len)
      ·rw [Bs dl Db,set0]
     ·have hh:c.1∈(Ao st m).getD []:=by
       rw [AAI ew,Bool.true_and] at hh
       exact AAG (by cases r:decide (c.1∈(Ao st m).getD []) with | true=>rfl | false=>rw [r] at hh; cases hh)
      refine Ad (Ad ⟨_,rfl,st,⟨fun m'=>?_,by rw [hlen]; exact AB4 S.len⟩,⟨_,rfl⟩,rfl⟩)
      rw [any_sn,sd,S.get m']
      by_cases q:m=m'
      ·subst q
       rw [hin.mp hh]; rfl
      ·rw [AAT q,Bool.or_false]
    ·refine By (Cr (q:=true) hw (fun q=>absurd (AAG q) ew)) (by rw [AAT ew]; rfl) (Ad ⟨_,rfl,st,⟨fun m=>?_,by rw [hlen]; exact AB4 S.len⟩,⟨_,rfl⟩,rfl⟩)
     rw [any_sn,show DO m d=false by unfold DO; rw [AAT ew]; rfl,Bool.or_false]
     exact S.get m
   ·rintro ρ _ ⟨st,S,⟨z3,rfl⟩,rfl⟩
    refine Ad ⟨_,rfl,st,⟨fun m=>?_,?_⟩,⟨_,_,rfl⟩,rfl⟩
    ·rw [S.get m,ABN]
     show _=(p.filter (sn m)++[c.1].filter (sn m))++[]
     rw [AAV,List.filter_cons]
     have:sn m c.1=c.2.2.any (DO m):=by
      by_cases q:c.2.2.any (DO m)=true
      ·rw [q]; exact AAI (AAZ (AA4.mpr ⟨hc,q⟩))
      ·rw [Bool.not_eq_true] at q
       rw [q]
       refine AAT fun r=>?_
       obtain ⟨c',hc',e'⟩:=AAP.mp r
       obtain ⟨h1,h2⟩:=AA4.mp hc'
       rw [Hn h.H.nd h1 hc e'] at h2
       exact ABB (q.symm.trans h2)
     rw [this]; rfl
    ·have:=hg.deeds
     have:=S.len
     rw [AAF,show [c.1].length=1 from rfl]; omega
  ·rintro ρ _ ⟨st,S,⟨z2,z3,rfl⟩,rfl⟩
   exact A3 (v:=.ref σ0.length) rfl ⟨st,fun m=>(S.get m).trans (AAV _),rfl,rfl⟩)
 rw [k2,k3] at hf
 exact ⟨st,k1,hf⟩
end
end Mine
namespace Mine
open PySem
noncomputable abbrev gdL (gs:Gsl) (o:List Nat):List (List Nat):=(Ao gs o).getD []
noncomputable def opB (gs:Gsl) (ns:List (List Nat)) (n:List Nat):Bool:=!ns.any fun o=>decide (n∈gdL gs o)
section
variable {cs F:List Ch} {gs:Gsl}
theorem T4 {σ:Aa} (hσ:σ[1]? = some (oG gs)) {ns:List (List Nat)} (hn:∀ n∈ns,n∈gs.map (·.1)) (hl:ns.length<=60):FN 2 50 [self,.d (dl ns)] σ (.ref σ.length) (σ++[.list ((ns.filter (opB gs ns)).map vs)]):=by
 let C:=C0 1
 have at0:∀ {o:O},(σ++[o])[σ.length]? = some o:=fun {o}=>by rw [AA6 (AAL _),Nat.sub_self]; rfl
 have set0:∀ {o o':O},(σ++[o]).set σ.length o'=σ++[o']:=fun {o o'}=>by rw [List.set_append_right _ _ (AAL _),Nat.sub_self]; rfl
 have at1:∀ {o:O},(σ++[o])[1]? = some (oG gs):=fun {o}=>(ABE (AAM.mp hσ).1).trans hσ
 exact FN.same (C:=C) (fn:=DM) (by unfold Pg; rfl) rfl (AAL _) (by
  let K:Option V->Ah:=fun z3=>[some self,some (.d (dl ns)),some (.ref σ.length),z3,none]
  show Af C _ _ [some self,some (.d (dl ns)),none,none,none] σ
  refine Bu (ws:=[]) rfl ?_
  refine AS (l:=ns) vs (fun p ρ σ'=>(∃ z3,ρ=K z3)/\σ++[.list ((p.filter (opB gs ns)).map vs)]=σ') (FR rfl) ⟨⟨none,rfl⟩,rfl⟩ ?_ ?_
  ·rintro p n q ρ _ e ⟨⟨z3,rfl⟩,rfl⟩
   have hpl:(p.filter (opB gs ns)).length<=60:=by
    have h1:=AAX (opB gs ns) p
    have h2:=congrArg List.length e
    rw [AAF,AA2] at h2; omega
   have hcomp:(ev C.O (.comp (.cmp .In (.var 3) (.sub (.attr (ACB "grounds") (.var 0)) (.var 4))) [4] (.var 1) .nil)).v (K (some (vs n))) (σ++[.list ((p.filter (opB gs ns)).map vs)])=some (.d (.list (ns.map fun o=>.bool (decide (n∈gdL gs o))))):=by
    rw [CD (l:=ns) (fun t=>.str (Tx t)) (fun _=>true) (fun o=>.bool (decide (n∈gdL gs o))) (Bx rfl rfl) (AAC hl (by decide)) (fun _ _=>rfl) (fun o ho _=>?_),Bk]
    obtain ⟨ls,hls⟩:=AB.mpr (hn o ho)
    refine Eb (x:=vs n) (y:=.d (dl (gdL gs o))) rfl (Ag (CV rfl) rfl (BV (a:=o) at1 (by rw [AK dl BI,gdL,hls]; rfl))) ?_
    rw [RJ,BU]
   refine A8 (t:=opB gs ns n) (CN (Eh (A0 hcomp) (JB _ _))) (fun h=>?_) fun h=>?_
   ·refine AU (k:=σ.length) (ws:=(p.filter (opB gs ns)).map vs) (y:=vs n) rfl rfl at0 (by rw [AAB]; exact AAS hpl (by decide)) (Ad (Ad ⟨_,rfl,⟨_,rfl⟩,?_⟩))
    rw [set0,ABN,List.filter_cons_of_pos h,AAQ]; rfl
   ·refine Ad (Ad ⟨_,rfl,⟨_,rfl⟩,?_⟩)
    rw [ABN,List.filter_cons_of_neg (by rw [h]; exact ABB)]
    show σ++[O.list ((p.filter (opB gs ns)++[]).map vs)]=_
    rw [AAV]
  ·rintro ρ _ ⟨⟨z3,rfl⟩,rfl⟩
   exact A3 (v:=.ref σ.length) rfl ⟨rfl,rfl⟩)
noncomputable def onF (cs:List Ch) (gs:Gsl) (m:Mk):List (List Nat):=((Aj (nms cs)).filter fun n=>decide (n∈Bw cs m)).filter (opB gs ((Aj (nms cs)).filter fun n=>decide (n∈Bw cs m)))
theorem UP (h:Wov cs F gs) (m:Mk):(onF cs gs m).length<=60:=by
 have h1:=AAX (opB gs ((Aj (nms cs)).filter fun n=>decide (n∈Bw cs m))) ((Aj (nms cs)).filter fun n=>decide (n∈Bw cs m))
 have h2:=AAX (fun n=>decide (n∈Bw cs m)) (Aj (nms cs))
 rw [(An _).length_eq,AAB] at h2
 exact AAC h1 (AAC h2 h.len)
theorem UO (h:Wov cs F gs) (m:Mk):Opn cs m (onF cs gs m):=by
 have mem:∀ o,o∈((Aj (nms cs)).filter fun n=>decide (n∈Bw cs m)) ↔ o∈Bw cs m:=fun o=>by
  rw [AA4,(An _).mem_iff]
  exact ⟨fun q=>AAG q.2,fun q=>⟨DC q,AAI q⟩⟩
 have ground:∀ o∈Bw cs m,∀ n,n∈gdL gs o ↔ Blw cs o n:=fun o ho n=>by
  have hoF:o∈gs.map (·.1):=by rw [h.w.gk]; exact (h.perm.map _).mem_iff.mpr (DC ho)
  obtain ⟨ls,hls⟩:=AB.mpr hoF
  obtain ⟨pr,hpr,epr,epl⟩:∃ pr∈gs,pr.2=ls/\pr.1=o:=by
   unfold Ao at hls
   obtain ⟨pr,e1,e2⟩:=ABL.mp hls
   exact ⟨pr,ABH e1,e2,by simpa using List.find?_some e1⟩
  have:=(h.w.gin pr hpr).2 n
  rw [epr,epl] at this
  rw [gdL,hls]
  exact this.trans ⟨Blw.mono fun c hc=>h.perm.mem_iff.mp hc,Blw.mono fun c hc=>h.perm.mem_iff.mpr hc⟩
 refine ⟨((BM _ h.H.nd).filter _).filter _,fun n=>?_⟩
 unfold onF
 rw [AA4,mem]
 refine and_congr_right fun hn=>?_
 unfold opB
 rw [Bool.not_eq_true',List.any_eq_false]
 constructor
 ·rintro q ⟨o,ho,hb⟩
  exact q o ((mem o).mpr ho) (AAI ((ground o ho n).mpr hb))
 ·intro q o ho r
  have ho:=(mem o).mp ho
  exact q ⟨o,ho,(ground o ho n).mp (AAG r)⟩
end
end Mine
namespace Mine
open PySem
structure ShK (D L:Nat) (d:PyData):Prop where
 able:d.showable=true
 nod:d.hasDict=false
 dep:d.depth<=D
 len:d.shown.length<=L
section
variable {D L L' n:Nat} {d a b:PyData} {ds:List PyData}
theorem ShK.str {l:List Nat} (hl:l.length<=n) (hc:∀ c∈l,c < 4294967296):ShK 0 (10 * n+2) (.str (Tx l)):=by
 refine ⟨by simp only [PyData.showable],by simp only [PyData.hasDict],by simp only [PyData.depth,AAL],?_⟩
 simp only [PyData.shown]
 have:=StrLaws.reprText_len (Tx l) (by rw [Hx]; exact hc)
 rw [Fv] at this; omega
theorem ShK.int {i:Int} (h:i.natAbs < 1000):ShK 0 13 (.int i):=by
 refine ⟨?_,by simp only [PyData.hasDict],by simp only [PyData.depth,AAL],PyData.shown_int_le (ABT h (by decide))⟩
 simp only [PyData.showable]
 refine AAI ?_
 by_cases h0:i.natAbs=0
 ·rw [h0]; decide
 ·exact ABT ((Nat.log2_lt (k:=10) h0).mpr (ABT h (by decide))) (by decide)
theorem ShK.tup (h1:ShK D L a) (h2:ShK D L' b):ShK (D+1) (L+L' + 7) (.tuple [a,b]):=by
 refine ⟨by simp only [PyData.showable,PyData.showableAll,h1.able,h2.able,Bool.and_self],by simp only [PyData.hasDict,PyData.hasDictAll,h1.nod,h2.nod,Bool.or_self],?_,?_⟩
 ·simp only [PyData.depth,PyData.depthAll]
  have:=h1.dep; have:=h2.dep; omega
 ·simp only [PyData.shown,PyData.shownAll]
  have h3:=tupleText_len_le [a.shown,b.shown]
  simp only [ABP,List.map_nil,List.sum_cons,List.sum_nil,AA2,List.length_nil] at h3
  have:=h1.len; have:=h2.len; omega
theorem ShK.all:∀ ds:List PyData,(∀ d∈ds,ShK D L d)->PyData.showableAll ds=true/\PyData.hasDictAll ds=false/\PyData.depthAll ds<=D/\((PyData.shownAll ds).map (·.length)).sum+2 * (PyData.shownAll ds).length<=ds.length * (L+2)
 | [],_=>by simp only [PyData.showableAll,PyData.hasDictAll,PyData.depthAll,PyData.shownAll]; exact ⟨trivial,trivial,ABF _,ABF _⟩
 | d::ds,h=>by
  obtain ⟨a1,a2,a3,a4⟩:=ShK.all ds fun x hx=>h x (.tail _ hx)
  have hd:=h d (.head _)
  refine ⟨by simp only [PyData.showableAll,hd.able,a1,Bool.and_self],by simp only [PyData.hasDictAll,hd.nod,a2,Bool.or_self],by simp only [PyData.depthAll]; exact Nat.max_le.mpr ⟨hd.dep,a3⟩,?_⟩
  simp only [PyData.shownAll,ABP,List.sum_cons,AA2]
  have:=hd.len
  rw [Nat.add_mul]; omega
theorem ShK.lst (h:∀ d∈ds,ShK D L d) (hn:ds.length<=n):ShK (D+1) (n * (L+2)+3) (.list ds):=by
 obtain ⟨a1,a2,a3,a4⟩:=ShK.all ds h
 refine ⟨by simp only [PyData.showable,a1],by simp only [PyData.hasDict,a2],by simp only [PyData.depth]; omega,?_⟩
 simp only [PyData.shown]
 have h3:=listText_len_le (PyData.shownAll ds)
 have h4:=Nat.mul_le_mul_right (L+2) hn
 omega
theorem ShK.shw (h:ShK D L d) (hd:D<=50) (hl:L<=line):Shw d:=⟨h.able,h.nod,AAC h.dep hd,AAC h.len hl⟩
end
section
variable {cs F O:List Ch} {c:Ch} {m x:Mk} {r:List Mk}
theorem S4 {c:Nat} (h:c∈CY):c < 4294967296:=ABT (KG c h) (by decide)
theorem Np {t:List Nat} (h:Bg t=true):ShK 0 122 (.str (Tx t)):=ShK.str (n:=12) ((BL t).mp h).2.1 fun c hc=>S4 (((BL t).mp h).2.2 c hc)
theorem Nq {t:List Nat} (h:Bq t):ShK 0 2002 (.str (Tx t)):=ShK.str (n:=200) h.len fun c hc=>AAS (h.ok c hc).2 (by decide)
theorem Uh (hg:∀ c∈O,GenCh c) (hm:m∈(Ax O).1):Bg m.1=true/\m.2.natAbs < 1000:=by
 rw [Gv] at hm
 have hm:=(HH O []).mem_iff.mp hm
 rw [AAV] at hm
 obtain ⟨c,hc,h⟩:=List.mem_flatMap.mp hm
 obtain ⟨h1,h2,h3⟩:=HO.mp h
 have h4:=Hv c.2.2
 have h5:=(hg c hc).deeds
 exact ⟨h1▸(hg c hc).name,by omega⟩
theorem JM (hg:∀ c∈O,GenCh c) (hm:m∈(Ax O).1):ShK 1 142 (A1 (some m)):=(Np (Uh hg hm).1).tup (.int (Uh hg hm).2)
theorem UK {κ β:Type} [DecidableEq κ] {h:List (κ×β)} {k:κ} {v:β} {p:κ×β} (hp:p∈BG h k v):p.2=v\/p∈h:=by
 unfold BG at hp
 split at hp
 ·obtain ⟨q,hq,rfl⟩:=AAP.mp hp
  split
  ·exact .inl rfl
  ·exact .inr hq
 ·rcases AA0.mp hp with q | q
  ·exact .inr q
  ·rw [AAJ.mp q]; exact .inl rfl
theorem Sj {s:Sm} {nm:List Nat} {k:Nat} {d:AH} (h:∀ p∈s.2.1,Bq p.2) (hd:CB d):∀ p∈(stD nm k d s).2.1,Bq p.2:=by
 have ht:d.word=Ig\/Bq (d.text.getD []):=by
  rcases hd.shp with ⟨_,l,e2,hl⟩ | ⟨_,_,l,_,e3,hl⟩ | ⟨e,_⟩
  ·exact .inr (by rw [e2]; exact hl)
  ·exact .inr (by rw [e3]; exact hl)
  ·exact .inl e
 have put:∀ k':Mk,d.word≠Ig->∀ p∈BG s.2.1 k' (d.text.getD []),Bq p.2:=fun k' hw p hp=>by
  rcases UK hp with q | q
  ·rw [q]; exact ht.resolve_left hw
  ·exact h p q
 unfold stD
 split
 ·rename_i q
  exact put _ fun e=>by have:=AAG q; rw [e] at this; exact absurd this (by decide)
 ·split
  ·rename_i q
   exact put _ fun e=>by rw [e] at q; exact absurd q (by decide)
  ·exact h
theorem K7 (nm:List Nat):∀ (ds:List AH) (k:Nat) (s:Sm),(∀ p∈s.2.1,Bq p.2)->(∀ d∈ds,CB d)->∀ p∈(Fi nm ds k s).2.1,Bq p.2
 | [],_,_,h,_=>h
 | d::ds,k,s,h,hd=>K7 nm ds _ _ (Sj h (hd d (.head _))) fun x hx=>hd x (.tail _ hx)
theorem U0 (hg:∀ c∈O,GenCh c):∀ p∈(Ax O).2.1,Bq p.2:=by
 have key:∀ (O:List Ch) (s:Sm),(∀ p∈s.2.1,Bq p.2)->(∀ c∈O,GenCh c)->∀ p∈(O.foldl stC s).2.1,Bq p.2:=by
  intro O
  induction O with
  | nil=>exact fun _ h _=>h
  | cons c O ih=>exact fun s h hg=>ih _ (K7 c.1 c.2.2 0 s h (hg c (.head _)).ok) fun x hx=>hg x (.tail _ hx)
 exact key O _ (fun p h=>nomatch h) hg
theorem Vt {κ β:Type} [DecidableEq κ] {h:List (κ×β)} {k:κ} {v:β} (e:Ao h k=some v):∃ p∈h,p.2=v:=by
 unfold Ao at e
 obtain ⟨p,e1,e2⟩:=ABL.mp e
 exact ⟨p,ABH e1,e2⟩
theorem JJ (hg:∀ c∈O,GenCh c) {y:Pr} (hy:y∈AT (Ax O)):y.1∈(Ax O).1/\Bq y.2:=by
 obtain ⟨m,hm,rfl⟩:=AAP.mp hy
 have hm:=(AA4.mp hm).1
 refine ⟨hm,?_⟩
 obtain ⟨l,e⟩:=(D4 hg).has m hm
 show Bq ((Ao (Ax O).2.1 m).getD [])
 rw [e]
 obtain ⟨p,hp,rfl⟩:=Vt e
 exact U0 hg p hp
theorem Nt (hg:∀ c∈O,GenCh c) (hl:O.length<=60):(Ax O).1.length<=1200:=AAC (D4 hg).row (by omega)
theorem H9 (hg:∀ c∈O,GenCh c) (hl:O.length<=60):(AT (Ax O)).length<=1200:=AAC Ep (Nt hg hl)
theorem S5 (hg:∀ c∈O,GenCh c) (hl:O.length<=60):Shw (dms (Ax O).1):=by
 refine (ShK.lst (D:=1) (L:=142) (n:=1200) (fun d hd=>?_) (by rw [AAB]; exact Nt hg hl)).shw (by decide) (by decide)
 obtain ⟨m,hm,rfl⟩:=AAP.mp hd
 exact JM hg hm
theorem PJ (hg:∀ c∈O,GenCh c) (hl:O.length<=60):Shw (CW (Ax O)):=by
 refine (ShK.lst (D:=2) (L:=2151) (n:=1200) (fun d hd=>?_) (by rw [AAB]; exact H9 hg hl)).shw (by decide) (by decide)
 obtain ⟨y,hy,rfl⟩:=AAP.mp hd
 obtain ⟨h1,h2⟩:=JJ hg hy
 have h3:=Nq h2
 exact (JM hg h1).tup ⟨h3.able,h3.nod,AAC h3.dep (by decide),h3.len⟩
theorem PK (hg:∀ c∈O,GenCh c) (hl:O.length<=60):Shw (dl ((AT (Ax O)).map (·.2))):=by
 refine (ShK.lst (D:=0) (L:=2002) (n:=1200) (fun d hd=>?_) (by rw [AAB,AAB]; exact H9 hg hl)).shw (by decide) (by decide)
 obtain ⟨t,ht,rfl⟩:=AAP.mp hd
 obtain ⟨y,hy,rfl⟩:=AAP.mp ht
 exact Nq (JJ hg hy).2
theorem HG {ns:List (List Nat)} (h:∀ n∈ns,Bg n=true) (hl:ns.length<=60):ShK 1 7443 (dl ns):=by
 refine ShK.lst (D:=0) (L:=122) (n:=60) (fun d hd=>?_) (by rw [AAB]; exact hl)
 obtain ⟨t,ht,rfl⟩:=AAP.mp hd
 exact Np (h t ht)
end
end Mine
namespace Mine
open PySem
noncomputable abbrev duV (on:Mk->List (List Nat)) (m:Mk):PyData:=.tuple [A1 (some m),dl (on m)]
noncomputable abbrev duL (on:Mk->List (List Nat)) (p:List Pr):List PyData:=(p.filter fun x=>decide (1 < (on x.1).length)).map fun x=>duV on x.1
theorem Gd (on:Mk->List (List Nat)) (p:List Pr) (x:Pr):duL on (p++[x])=if 1 < (on x.1).length then duL on p++[duV on x.1] else duL on p:=by
 unfold duL
 rw [ABN,List.filter_cons,AAQ]
 by_cases q:1 < (on x.1).length
 ·rw [if_pos q,if_pos (AAI q)]; rfl
 ·rw [if_neg q,if_neg (by rw [AAT q]; exact ABB)]; exact AAV _
section
variable {cs F:List Ch} {gs:Gsl}
theorem Rk {σ:Aa} (hσ:σ[1]? = some (oG gs)) {ns:List (List Nat)} (hn:∀ n∈ns,n∈gs.map (·.1)) (hl:ns.length<=60):FN 2 50 [self,.d (dl ns)] σ (.d (dl (ns.filter (opB gs ns)))) σ :=
 FN.seal (T4 hσ hn hl) ⟨_,rfl,AAL _,by
  rw [AA6 (AAL _),Nat.sub_self,AAE]; rfl⟩
theorem J0 (h:Wov cs F gs):FN 6 51 [self] (W F gs (hts [] F)) (.d (.list (duL (onF cs gs) (AT (Ax (Al cs)))))) (W F gs (hts [] F)):=by
 let σ0:=W F gs (hts [] F)
 let on:=onF cs gs
 let T:=AT (Ax (Al cs))
 have hO:=Ck h.H.nd
 have hs:=D4 (A:=Al cs) fun c hc=>h.gen c (hO.perm.mem_iff.mp hc)
 have hol:(Al cs).length<=60:=by rw [hO.perm.length_eq]; exact h.len
 have hT:T.length<=10000:=AAC Ep (AAC hs.row (by omega))
 obtain ⟨st,s1,s2⟩:=M8 h [.list []]
 let C:=C0 5
 let St:List Pr->Aa:=fun p=>σ0++[.list ((duL on p).map .d),oS st]
 have hq:FN 6 51 [self] σ0 (.ref 3) (σ0++[.list ((duL on T).map .d),oS st]):=by
  exact FN.same (C:=C) (fn:=DL) (by unfold Pg; rfl) rfl (show 1<=5 by decide) (by
   let K:Option V->Option V->Ah:=fun z3 z4=>[some self,some (.ref 3),some (.ref 4),z3,z4]
   show Af C _ _ [some self,none,none,none,none] σ0
   refine Bu (ws:=[]) rfl ?_
   refine AA (v:=.ref 4) (σ':=St []) rfl (.mcall (f:=49) Ay (by unfold mtP; kernel_rfl) ((Ae C.ok (.var 0)).v rfl) .nil (s2.more (show 3<=5 by decide))) ?_
   refine EO (l:=T) (fun x=>.d (prD x)) (fun p ρ σ=>(∃ z3 z4,ρ=K z3 z4)/\σ=St p) (SI.lst (.mcall (f:=47) Ay (by unfold mtP; kernel_rfl) ((Ae C.ok (.var 0)).v rfl) .nil (Rg h [.list [],oS st])) (by show some ((T.map prD).map V.d)=_; rw [AAE]; rfl)) ⟨⟨none,none,rfl⟩,rfl⟩ ?_ ?_
   ·rintro p x q ρ _ e ⟨⟨z3,z4,rfl⟩,rfl⟩
    have hpl:(duL on p).length<=10000:=by
     have h1:=AAX (fun x:Pr=>decide (1 < (on x.1).length)) p
     have h2:=congrArg List.length e
     rw [AAF,AA2] at h2
     rw [AAB]; omega
    have hsub:∀ n∈((Aj (nms cs)).filter fun n=>decide (n∈Bw cs x.1)),n∈gs.map (·.1):=fun n hn=>by
     rw [h.w.gk]
     exact (h.perm.map _).mem_iff.mpr ((An _).mem_iff.mp (AA4.mp hn).1)
    have hsl:((Aj (nms cs)).filter fun n=>decide (n∈Bw cs x.1)).length<=60:=by
     have h2:=AAX (fun n=>decide (n∈Bw cs x.1)) (Aj (nms cs))
     rw [(An _).length_eq,AAB] at h2
     exact AAC h2 h.len
    have hx:∀ {z4:Option V} {σ:Aa},(ev C.O (.sub (.var 3) (.cst (.int 0)))).v (K (some (.d (prD x))) z4) σ=some (vm x.1):=Ag rfl rfl rfl
    have hget:(ev C.O (.meth .get (.var 2) (.cons (.sub (.var 3) (.cst (.int 0))) (.cons (.lst .nil) .nil)))).v (K (some (.d (prD x))) z4) (St p)=some (.d (dl ((Aj (nms cs)).filter fun n=>decide (n∈Bw cs x.1)))):=by
     rw [Ur (k:=4) (m:=x.1) (z:=.d (.list [])) (kvs:=A7 mk2 dl st) rfl (AY hx rfl) rfl,R9,s1]
    refine AA (v:=.d (dl (on x.1))) (σ':=St p) rfl (.mcall (f:=50) Ay (by unfold mtP; kernel_rfl) ((Ae C.ok (.var 0)).v rfl) ((Ae C.ok _).row (A0 hget)) ((Rk (gs:=gs) (σ:=St p) rfl hsub hsl).more (show 2<=5 by decide))) ?_
    show Af C _ _ (K (some (.d (prD x))) (some (.d (dl (on x.1))))) _
    refine A8 (t:=decide (((on x.1).length:Int) > 1)) (Aq (AI (A0 rfl) (BZ.trans (by rw [AAB]))) rfl LB) (fun hh=>?_) fun hh=>?_
    ·have hh:=AAG hh
     refine AU (k:=3) (ws:=(duL on p).map .d) (y:=.d (duV on x.1)) rfl (A0 (Cv (AY hx rfl) rfl)) rfl (by rw [AAB]; exact AAS hpl (by decide)) (Ad (Ad ⟨_,rfl,⟨_,_,rfl⟩,?_⟩))
     show σ0++[O.list ((duL on p).map .d++[V.d (duV on x.1)]),oS st]=σ0++[O.list ((duL on (p++[x])).map .d),oS st]
     rw [Gd,if_pos (by omega),AAQ]; rfl
    ·have hh:=ABG hh
     refine Ad (Ad ⟨_,rfl,⟨_,_,rfl⟩,?_⟩)
     show σ0++[O.list ((duL on p).map .d),oS st]=σ0++[O.list ((duL on (p++[x])).map .d),oS st]
     rw [Gd,if_neg (by omega)]
   ·rintro ρ _ ⟨⟨z3,z4,rfl⟩,rfl⟩
    exact A3 (v:=.ref 3) rfl ⟨rfl,rfl⟩)
 exact FN.seal hq ⟨duL on T,rfl,AAL _,rfl⟩
theorem Pe (h:Wov cs F gs):FN 2 40 [self] (W F gs (hts [] F)) (.d (dl (Aj (nms cs)))) (W F gs (hts [] F)):=by
 have:=GB h []
 rw [AAV] at this; exact this
theorem Rh (h:Wov cs F gs):FN 6 48 [self] (W F gs (hts [] F)) (.d (dl ((AT (Ax (Al cs))).map (·.2)))) (W F gs (hts [] F)) :=
 FN.seal (NT h) ⟨_,rfl,AAL _,by
  show some (O.list _)=_
  rw [AAE,AAE]; rfl⟩
noncomputable def Dj (cs:List Ch) (gs:Gsl):List PyData :=
 [dms (Ax (Al cs)).1,CW (Ax (Al cs)),dl (Aj (nms cs)),dl ((AT (Ax (Al cs))).map (·.2)),.list (duL (onF cs gs) (AT (Ax (Al cs))))]
theorem UN (m:Mk) {n:List Nat} (hn:n∈onF cs gs m):n∈nms cs:=(An _).mem_iff.mp (AA4.mp (AA4.mp hn).1).1
theorem TQ (h:Wov cs F gs):∀ d∈Dj cs gs,Shw d:=by
 have hO:=Ck h.H.nd
 have hg:∀ c∈Al cs,GenCh c:=fun c hc=>h.gen c (hO.perm.mem_iff.mp hc)
 have hl:(Al cs).length<=60:=by rw [hO.perm.length_eq]; exact h.len
 have nm:∀ n∈nms cs,Bg n=true:=fun n hn=>by
  obtain ⟨c,hc,rfl⟩:=AAP.mp hn
  exact (h.gen c hc).name
 have hn:ShK 1 7443 (dl (Aj (nms cs))):=HG (fun n hn=>nm n ((An _).mem_iff.mp hn)) (by rw [(An _).length_eq,AAB]; exact h.len)
 refine all_cons (S5 hg hl) (all_cons (PJ hg hl) (all_cons (hn.shw (by decide) (by decide)) (all_cons (PK hg hl) (all_cons ?_ A9))))
 refine (ShK.lst (D:=2) (L:=7592) (n:=1200) (fun d hd=>?_) (by rw [AAB]; exact AAC (AAX _ _) (H9 hg hl))).shw (by decide) (by decide)
 obtain ⟨y,hy,rfl⟩:=AAP.mp hd
 exact (JM hg (JJ hg (AA4.mp hy).1).1).tup (HG (fun n hn=>nm n (UN _ hn)) (UP h _))
end
end Mine
namespace Mine
open PySem
noncomputable abbrev kp (d:PyData):PyData:=.tuple [d,.str d.shown]
def ShL (d:PyData):Prop:=Shw d/\∃ ds,d=.list ds
theorem JO {σ:Aa} {d:PyData} (h:ShL d):B6 .repr σ [.d d]=some (.d (.str d.shown)):=by
 obtain ⟨h1,ds,rfl⟩:=h
 show (bif OD (.list ds) then some (V.d (.str (PyData.list ds).shown)) else none)=_
 rw [No.mpr h1]; rfl
theorem PM {α:Type} {l:List α} {k:Nat} {a:α} (h:l[k]? = some a):l.set k a=l:=by
 obtain ⟨h1,rfl⟩:=AAM.mp h
 exact List.set_getElem_self h1
section
variable {cs F:List Ch} {gs:Gsl}
theorem Oq (h:Wov cs F gs):∀ d∈Dj cs gs,ShL d:=fun d hd=>⟨TQ h d hd,by
 revert d
 exact all_cons ⟨_,rfl⟩ (all_cons ⟨_,rfl⟩ (all_cons ⟨_,rfl⟩ (all_cons ⟨_,rfl⟩ (all_cons ⟨_,rfl⟩ A9))))⟩
theorem T6 (h:Wov cs F gs) {b i:Nat} {σ:Aa} {hs:List PyData} (hi:σ[i]? = some (.list (hs.map .d))) (hl:hs.length<=100)
 (hf:∀ (n f:Nat) (d:PyData),FN n f [self] (W F gs (hts [] F)) (.d d) (W F gs (hts [] F))->FN n f [.obj [b,b+1,b+2]] σ (.d d) σ) :
 FN 7 64 [.obj [b,b+1,b+2],.ref i] σ AO (σ.set i (.list ((hs++(Dj cs gs).map kp).map .d))):=by
 let C:=C0 6
 let me:V:=.obj [b,b+1,b+2]
 have hA:(Dj cs gs).length=5:=rfl
 have shl:=Oq h
 have rows:SEs C.n (.cons (.mcall (ACB "row") (.var 0) .nil) (.cons (.mcall (ACB "told") (.var 0) .nil) (.cons (.mcall (ACB "names") (.var 0) .nil) (.cons (.mcall (ACB "text") (.var 0) .nil) (.cons (.mcall (ACB "questions") (.var 0) .nil) .nil))))) [some me,some (.ref i),none] σ ((Dj cs gs).map .d) σ :=
  .cons (.mcall (f:=46) Ay (by unfold mtP; kernel_rfl) ((Ae C.ok (.var 0)).v rfl) .nil ((hf _ _ _ (fn_row' h)).more (show 5<=6 by decide)))
  (.cons (.mcall (f:=47) Ay (by unfold mtP; kernel_rfl) ((Ae C.ok (.var 0)).v rfl) .nil ((hf _ _ _ (fn_told' h)).more (show 5<=6 by decide)))
  (.cons (.mcall (f:=40) Ay (by unfold mtP; kernel_rfl) ((Ae C.ok (.var 0)).v rfl) .nil ((hf _ _ _ (Pe h)).more (show 2<=6 by decide)))
  (.cons (.mcall (f:=48) Ay (by unfold mtP; kernel_rfl) ((Ae C.ok (.var 0)).v rfl) .nil (hf _ _ _ (Rh h)))
  (.cons (.mcall (f:=51) Ay (by unfold mtP; kernel_rfl) ((Ae C.ok (.var 0)).v rfl) .nil (hf _ _ _ (J0 h))) .nil))))
 have hlst:=SE.frz (SL.lst rows (show 5<=line by decide))
 generalize Dj cs gs=A at hA shl hlst
 exact FN.same (C:=C) (fn:=Ut) (by unfold Pg; rfl) rfl (show 1<=6 by decide) (by
  show Af C _ _ [some me,some (.ref i),none] σ
  refine EO (l:=A) V.d (fun p ρ σ'=>(∃ z,ρ=[some me,some (.ref i),z])/\σ'=σ.set i (.list ((hs++p.map kp).map .d))) (SI.lst hlst rfl) ⟨⟨_,rfl⟩,by rw [List.map_nil,AAV,PM hi]⟩ ?_ ?_
  ·rintro p x q ρ _ e ⟨⟨z,rfl⟩,rfl⟩
   have hpl:p.length<=5:=by
    have:=congrArg List.length e
    rw [hA,AAF,AA2] at this; omega
   refine AU (k:=i) (ws:=(hs++p.map kp).map .d) (y:=.d (kp x)) rfl (A0 (Cv (AY rfl (AI (A0 rfl) (JO (shl x (by rw [e]; exact AAW _ (.head _)))))) rfl)) (AB1 (AAM.mp hi).1) (by rw [AAB,AAF,AAB]; exact AAS (show hs.length+p.length<=200 by omega) (by decide)) (Ad ⟨_,rfl,⟨_,rfl⟩,?_⟩)
   rw [List.set_set,AAQ (l₁:=p),<-ABQ,AAQ (l₁:=hs++p.map kp)]; rfl
  ·rintro ρ _ ⟨⟨z,rfl⟩,rfl⟩
   exact Ad ⟨rfl,rfl⟩)
end
theorem TG {σ:Aa} (z:Str):B5 .Eq (.d (.str z)) (.d (.str z)) σ=some true:=by
 show some (z == z)=_
 rw [beq_self_eq_true]
theorem T7 {i:Nat} {σ:Aa} {hs:List PyData} (hi:σ[i]? = some (.list ((hs.map kp).map .d))) (hl:hs.length<=1000) (hh:∀ d∈hs,ShL d):FN 2 65 [.ref i] σ (vb true) σ:=by
 have hl':hs.length<=line:=AAC hl (by decide)
 exact FN.same (C:=C0 1) (fn:=Uu) (by unfold Pg; rfl) rfl (AAL _) (by
  show Af _ _ _ [some (.ref i),none,none] σ
  refine A3 (AI (A0 (x:=.d (.list (hs.map fun _=>PyData.bool true))) ?_) (IN hs)) ⟨rfl,rfl⟩
  show (((CQ σ[i]?).bind fun ws=>some (ws,Dd (.ref i) ws)).bind fun q=>Dw _ q.1).bind mkL=_
  rw [hi]
  show (Dw _ ((hs.map kp).map V.d)).bind mkL=_
  rw [AAE]
  rw [CT (V.d∘kp) (fun _=>some (vb true)) hs (fun d hd=>?_),bs,List.filterMap_eq_map']
  ·rw [show (hs.map fun _=>vb true)=(hs.map fun _=>PyData.bool true).map V.d by rw [AAE]; rfl]
   exact HV _ (by rw [AAB]; exact hl')
  ·show ((ev (C0 1).O (.cmp .Eq (.bi .repr (.cons (.var 1) .nil)) (.var 2))).v [some (.ref i),some (.d d),some (.d (.str d.shown))] σ).bind _=_
   rw [Eb (AI (A0 rfl) (JO (hh d hd))) rfl (TG _)]; rfl)
end Mine
namespace Mine
open PySem PySem.Calls PySem.SeqAt
noncomputable def IE {κ β:Type} [DecidableEq κ] (kvs:List (κ×β)) (z:κ):List (κ×β):=kvs.filter fun p=>decide (p.1≠z)
theorem Aw.filter {α β:Type} {R:α->β->Prop} {p:α->Bool} {q:β->Bool} (h:∀ a b,R a b->p a=q b):∀ {as:List α} {bs:List β},Aw R as bs->Aw R (as.filter p) (bs.filter q)
 | [],[],_=>trivial
 | a::as,b::bs,x=>by
  rw [List.filter_cons,List.filter_cons,<-h a b x.1]
  cases p a with
  | true=>exact ⟨x.1,Aw.filter h x.2⟩
  | false=>exact Aw.filter h x.2
 | [],_::_,x=>x.elim
 | _::_,[],x=>x.elim
section
variable {n:Nat} {a b:E} {ρ:Ah} {σ σ₁ σ₂:Aa} {k:Nat} {kvs:List (Str×PyData)} {z:Str} {d:PyData}
theorem SE.popS (hb0:Ek a) (ha:SE n a ρ σ (.ref k) σ₁) (hb:SEs n b ρ σ₁ [.d (.str z)] σ₂) (h0:σ₁[k]? = some (.dictS kvs)) (h1:σ₂[k]? = some (.dictS kvs)) (hd:Ao kvs z=some d) (hl:kvs.length < line):SE n (.meth .pop a b) ρ σ (.d d) (σ₂.set k (.dictS (IE kvs z))):=by
 refine SE.meth hb0 F.plainAttrs_dict F.slot_dict_pop F.type_dict_pop ha hb (fun r g s X A hx=>?_) fun r g s X Ys A hx hy=>?_
 ·obtain ⟨c,hk,rfl⟩:=hx
  refine ⟨ES A hk h0 (fun _ q=>nomatch q),fun l e=>?_⟩
  obtain rfl:=ABR e
  exact A.has.ob k c _ hk h0 _ fun x hx rx=>rx _ fun _ _ _ ho _ _ _ _ _ _=>⟨x,hx,ho.2.1⟩
 ·obtain ⟨c,hk,rfl⟩:=hx
  obtain ⟨Y,rfl,ry⟩:=hy.one
  obtain ⟨t,rfl,_⟩:=ry
  refine A.has.dictS hk h1 fun ws hD hr=>?_
  rcases Ir hr z with ⟨e1,_⟩ | ⟨d',v,e1,e2,rv⟩
  ·exact Am e1 hd
  ·rw [Av hd e1]
   refine call_meetsIn F.slot_dict_pop hD.typeIs F.entry_dict_pop (F.args_dict_pop_2 _ _) (meets_dict_pop_there (strKind r.T.prog r.T.w) (k:=z) c (strKind_is _ _ z t) [] (.inl rfl) rfl) ⟨ws,v,hD,Mx hr hl,e2,fun h' hD' hs=>?_⟩
   obtain ⟨x,es,ep,hx,ho,hdd,hk',hp,hn⟩:=hD'
   refine .mk g (.refl _ _) (A.has.turn (ob:=.dictS (IE kvs z)) hk (fun b x hb e=>(hs.2 b hb).trans e) hx fun R_ kk=>kk es ep _ ho hdd hk' hp hn (hr.filter fun p q h=>by rw [h.1]) (AAC (AAX _ _) (Nat.le_of_lt hl))) rv
end
section
variable {T:Top} {g g':G} {σ τ N:Aa} {s s':Shared} {n f j:Nat} {xs:List V}
theorem FN.newR (hf:FN n f xs [] (.ref j) N) (hx:∀ x,x∈xs->low 0 x) (hw:∀ o∈N,E2 0 o):FN n f xs σ (.ref (σ.length+j)) (σ++N):=fun r g s a Xs h At_ R=>by
 have H:Has r.T g (σ++([]++[])) s:=by rw [AAV,AAV]; exact At_.has
 have e:g.mu=g.mu++([]++[]):=(AAV _).symm
 refine AAO (hf r (g.mid g.mu [] [] s.heap) s a Xs h ⟨At_.ok,At_.frames,At_.top,At_.depth,At_.units,At_.hh,At_.frs.sub fun a o h=>(DR (KT e (At_.has.ah a o h).2)).trans h,H.mid e At_.has.len rfl (fun o ho=>nomatch ho)⟩ (Aw.imp (fun v X hv rx=>HJ JW (hx v hv) rx) R)) (fun X s' p=>p _ fun g' le H' rX=>?_) fun _ _ h=>h
 obtain ⟨c,hc,rfl⟩:=rX
 have:=H.unmid (σ':=[]) (N:=N) (D:=g'.mu) e At_.has.len rfl rfl hw le H' rfl
 rw [AAV,AAV] at this
 exact .mk ⟨g'.fz,g.hid,g.mu++g'.mu⟩ ⟨⟨le.fz,fun _ _ q=>CS q⟩,fun _ _=>rfl⟩ this ⟨c,at_right' At_.has.len hc,rfl⟩
theorem SH {b:Nat} {v:Value} {fz hid:Addr->Option Obj} (hb:g.mu.length=b) (r:As T g' (.obj [0,1,2]) v):As T ⟨g'.fz,hid,g.mu++g'.mu⟩ (.obj [b,b+1,b+2]) v:=by
 refine r (fun v=>As T ⟨g'.fz,hid,g.mu++g'.mu⟩ (.obj [b,b+1,b+2]) v) fun a d o mA h1 h2 h3 h4 h5 h6 h7 h8=>fun R_ k=>k a d o mA h1 h2 h3 h4 h5 h6 h7 ?_
 obtain ⟨⟨a0,p0,q0⟩,⟨a1,p1,q1⟩,⟨a2,p2,q2⟩,_⟩:=h8
 rw [<-hb]
 exact ⟨⟨a0,BQ p0,q0⟩,⟨a1,BQ p1,q1⟩,⟨a2,BQ p2,q2⟩,trivial⟩
theorem FN.newO (hf:FN n f xs [] (.obj [0,1,2]) N) (hx:∀ x,x∈xs->low 0 x) (hw:∀ o∈N,E2 0 o):FN n f xs σ (.obj [σ.length,σ.length+1,σ.length+2]) (σ++N):=fun r g s a Xs h At_ R=>by
 have H:Has r.T g (σ++([]++[])) s:=by rw [AAV,AAV]; exact At_.has
 have e:g.mu=g.mu++([]++[]):=(AAV _).symm
 refine AAO (hf r (g.mid g.mu [] [] s.heap) s a Xs h ⟨At_.ok,At_.frames,At_.top,At_.depth,At_.units,At_.hh,At_.frs.sub fun a o h=>(DR (KT e (At_.has.ah a o h).2)).trans h,H.mid e At_.has.len rfl (fun o ho=>nomatch ho)⟩ (Aw.imp (fun v X hv rx=>HJ JW (hx v hv) rx) R)) (fun X s' p=>p _ fun g' le H' rX=>?_) fun _ _ h=>h
 have:=H.unmid (σ':=[]) (N:=N) (D:=g'.mu) e At_.has.len rfl rfl hw le H' rfl
 rw [AAV,AAV] at this
 exact .mk ⟨g'.fz,g.hid,g.mu++g'.mu⟩ ⟨⟨le.fz,fun _ _ q=>CS q⟩,fun _ _=>rfl⟩ this (SH (fz:=g.fz) At_.has.len rX)
end
end Mine
namespace Mine
open PySem
section
variable {cs F:List Ch} {gs:Gsl} {hs:List (List Nat×Int)} {a:List Nat} {τ:Aa}
theorem Gb (ha:a∈nms F):FN 2 38 [self,vs a] (W F gs hs++τ) AO (W F gs hs++τ):=by
 exact FN.same (C:=C0 1) (fn:=EI) (by unfold Pg; rfl) rfl (AAL _) (by
  show Af _ _ _ [some self,some (vs a)] _
  exact By (t:=!decide (a∈nms F)) (Aq (y:=.ref 0) rfl (CM rfl) (HT a)) (by rw [AAI ha]; rfl) (Ad ⟨rfl,rfl⟩))
theorem NP (ha:a∉nms F):FX 2 38 [self,vs a] (W F gs hs++τ) 5 (W F gs hs++τ):=by
 refine FX.of (n:=1) (fn:=EI) (by unfold Pg; rfl) rfl (.head (.ite (σ₁:=W F gs hs++τ) ((Ae (C0 1).ok _).t ?_) (.head (.rse ((Ae (C0 1).ok (.cons (.cst (.str (ACB "no change has this name"))) .nil)).row rfl) (show 1<=line by decide) rfl)))) (AAL _)
 show (ev (C0 1).O _).t [some self,some (vs a)] _=_
 refine (Aq (y:=.ref 0) rfl (CM rfl) (HT a)).trans ?_
 rw [AAT ha]; rfl
theorem QY (ha:a∈nms F):Ao (A7 Tx PyData.int (hts [] F)) (Tx a)=some (.int (hgt F a)):=by rw [AK PyData.int BI,Ke ha]; rfl
theorem Pi (ha:a∈nms F):FN 3 42 [self,vs a] (W F gs (hts [] F)++τ) (vi (hgt F a)) (W F gs (hts [] F)++τ):=by
 exact FN.same (C:=C0 2) (fn:=D7) (by unfold Pg; rfl) rfl (show 1<=2 by decide) (by
  show Af _ _ _ [some self,some (vs a)] _
  refine BA (v:=AO) rfl (.mcall (f:=38) Ay (by unfold mtP; kernel_rfl) ((Ae (C0 2).ok (.var 0)).v rfl) ((Ae (C0 2).ok _).row rfl) (Gb ha)) ?_
  exact A3 (v:=vi (hgt F a)) (Ag (DK rfl) rfl (BV (a:=a) rfl (QY ha))) ⟨rfl,rfl⟩)
theorem Pc (ha:a∉nms F):FX 3 42 [self,vs a] (W F gs hs++τ) 5 (W F gs hs++τ) :=
 FX.of (n:=2) (fn:=D7) (by unfold Pg; rfl) rfl (.head (.exp rfl (.mcall (f:=38) Ay (by unfold mtP; kernel_rfl) ((Ae (C0 2).ok (.var 0)).v rfl) ((Ae (C0 2).ok _).row rfl) (NP ha)) rfl)) (show 1<=2 by decide)
theorem T1 (ha:a∉nms F):FX 3 39 [self,vs a] (W F gs hs++τ) 5 (W F gs hs++τ) :=
 FX.of (n:=2) (fn:=EG) (by unfold Pg; rfl) rfl (.head (.exp rfl (.mcall (f:=38) Ay (by unfold mtP; kernel_rfl) ((Ae (C0 2).ok (.var 0)).v rfl) ((Ae (C0 2).ok _).row rfl) (NP ha)) rfl)) (show 1<=2 by decide)
theorem Pk {c:Ch} (nd:(F.map (·.1)).Nodup) (hg:∀ c∈F,GenCh c) (hc:c∈F):FN 3 41 [self,vs c.1] (W F gs hs++τ) (vc c) (W F gs hs++τ):=by
 have ha:c.1∈nms F:=AAZ hc
 exact FN.same (C:=C0 2) (fn:=Ff) (by unfold Pg; rfl) rfl (show 1<=2 by decide) (by
  show Af _ _ _ [some self,some (vs c.1),none] _
  refine BA (v:=AO) rfl (.mcall (f:=38) Ay (by unfold mtP; kernel_rfl) ((Ae (C0 2).ok (.var 0)).v rfl) ((Ae (C0 2).ok _).row rfl) (Gb ha)) ?_
  refine Az (v:=vc c) (Ag (CM rfl) rfl (BV (a:=c.1) rfl (by rw [AK Ch.data BI,Pb nd hc]; rfl))) ?_
  exact A3 (v:=vc c) (Cv (Ko rfl (AI (A0 (Ag rfl rfl (CC c))) (Fs (by rw [AAB]; exact AAC (hg c hc).few (by decide)))) (AI (A0 (Ag rfl rfl (Cj c))) (Fs (by rw [AAB]; exact AAC (hg c hc).deeds (by decide))))) rfl) ⟨rfl,rfl⟩)
theorem Lm (w:Jh F gs) (ha:a∈nms F):∃ ls,Ao gs a=some ls/\(ls.length<=60/\ls.Pairwise (· < ·))/\∀ l,l∈ls ↔ Blw F a l:=by
 obtain ⟨ls,hls⟩:=AB.mpr (show a∈gs.map (·.1) by rw [w.gk]; exact ha)
 obtain ⟨pr,hpr,epr,epl⟩:∃ pr∈gs,pr.2=ls/\pr.1=a:=by
  unfold Ao at hls
  obtain ⟨pr,e1,e2⟩:=ABL.mp hls
  exact ⟨pr,ABH e1,e2,by simpa using List.find?_some e1⟩
 have:=w.gin pr hpr
 rw [epr,epl] at this
 exact ⟨ls,hls,this⟩
theorem MD (w:Jh F gs) (ha:a∈nms F):FN 3 43 [self,vs a] (W F gs hs++τ) (.d (dl (gdL gs a))) (W F gs hs++τ):=by
 obtain ⟨ls,hls,⟨hl,_⟩,_⟩:=Lm w ha
 have el:gdL gs a=ls:=by rw [gdL,hls]; rfl
 rw [el]
 exact FN.same (C:=C0 2) (fn:=Fe) (by unfold Pg; rfl) rfl (show 1<=2 by decide) (by
  show Af _ _ _ [some self,some (vs a)] _
  refine BA (v:=AO) rfl (.mcall (f:=38) Ay (by unfold mtP; kernel_rfl) ((Ae (C0 2).ok (.var 0)).v rfl) ((Ae (C0 2).ok _).row rfl) (Gb ha)) ?_
  exact A3 (v:=.d (dl ls)) (AI (A0 (Ag (CV rfl) rfl (BV (a:=a) rfl (by rw [AK dl BI,hls]; rfl)))) (Fs (by rw [AAB]; exact AAC hl (by decide)))) ⟨rfl,rfl⟩)
noncomputable def lnL (cs:List Ch) (gs:Gsl) (a:List Nat):List (List Nat):=(Aj (nms cs)).filter fun n=>decide (a∈gdL gs n)
theorem Iw (h:Wov cs F gs) (ha:a∈nms F):FN 4 44 [self,vs a] (W F gs (hts [] F)++τ) (.d (dl (lnL cs gs a))) (W F gs (hts [] F)++τ):=by
 let C:=C0 3
 let σ:=W F gs (hts [] F)++τ
 have hl:(Aj (nms cs)).length<=60:=by rw [(An _).length_eq,AAB]; exact h.len
 exact FN.same (C:=C) (fn:=EJ) (by unfold Pg; rfl) rfl (show 1<=3 by decide) (by
  show Af C _ _ [some self,some (vs a),none] σ
  refine BA (v:=AO) rfl (.mcall (f:=38) Ay (by unfold mtP; kernel_rfl) ((Ae C.ok (.var 0)).v rfl) ((Ae C.ok _).row rfl) ((Gb ha).more (show 2<=3 by decide))) ?_
  refine Du (v:=.d (dl (lnL cs gs a))) (SE.frz (SL.comp (vs:=(Aj (nms cs)).map vs) (kps:=[]) (ws:=((lnL cs gs a).map fun t=>PyData.str (Tx t)).map V.d) (SI.lst (.mcall (f:=40) Ay (by unfold mtP; kernel_rfl) ((Ae C.ok (.var 0)).v rfl) .nil ((GB h τ).more (show 2<=3 by decide))) (by
   show some (((Aj (nms cs)).map fun t=>PyData.str (Tx t)).map V.d)=_
   rw [AAE]; rfl)) (Di (kps:=[]) (Ae C.ok _) (Ae C.ok _) (fun _ _ m=>nomatch m) ?_) (by
   rw [AAB,AAB]
   exact AAC (AAX _ _) (AAC hl (by decide))))) ⟨rfl,rfl⟩
  rw [CT vs (fun n=>if decide (a∈gdL gs n)=true then some (vs n) else none) (Aj (nms cs)) (fun n hn=>?_)]
  ·congr 1
   rw [lnL,AAE]
   generalize Aj (nms cs)=L
   induction L with
   | nil=>rfl
   | cons n L ih =>
    rw [List.filterMap_cons,List.filter_cons]
    by_cases q:decide (a∈gdL gs n)=true
    ·rw [if_pos q,if_pos q,ABP,<-ih]; rfl
    ·rw [if_neg q,if_neg q,<-ih]
  ·have hnF:n∈nms F:=(h.perm.map _).mem_iff.mpr ((An _).mem_iff.mp hn)
   obtain ⟨ls,hls,_⟩:=Lm h.w hnF
   have ht:(ev C.O (.cons (.cmp .In (.var 1) (.sub (.attr (ACB "grounds") (.var 0)) (.var 2))) .nil)).ts [some self,some (vs a),some (vs n)] σ=some (decide (a∈gdL gs n)):=by
    exact E9 (Aq (O:=C.O) (ρ:=[some self,some (vs a),some (vs n)]) (σ:=σ) (a:=.var 1) (b:=.sub (.attr (ACB "grounds") (.var 0)) (.var 2)) (x:=vs a) (y:=.d (dl (gdL gs n))) (cop:=.In) rfl (Ag (CV rfl) rfl (BV (a:=n) rfl (by rw [AK dl BI,gdL,hls]; rfl))) (by rw [RJ,BU]))
   show ((ev C.O (.cons (.cmp .In (.var 1) (.sub (.attr (ACB "grounds") (.var 0)) (.var 2))) .nil)).ts [some self,some (vs a),some (vs n)] σ).bind _=_
   rw [ht]
   cases decide (a∈gdL gs n) <;> rfl)
end
end Mine
namespace Mine
open PySem
noncomputable def Cfg.knowA (C:Cfg) (f:Nat) {α:Type} (arg:α->List V) (out:α->V) (P:Aa->Prop) (h:∀ a σ,P σ->FN C.n f (arg a) σ (out a) σ):Cfg:=C.add f (fun xs σ=>@dite _ (P σ/\∃ a,arg a=xs) (Classical.propDecidable _) (fun q=>some (out (Classical.choose q.2))) fun _=>none) fun xs σ v e=>by
 by_cases q:P σ/\∃ a,arg a=xs
 ·rw [dif_pos q] at e
  rw [<-AAA e]
  have:=h (Classical.choose q.2) σ q.1
  rw [Classical.choose_spec q.2] at this; exact this
 ·rw [dif_neg q] at e; exact Ac e
theorem De {C:Cfg} {f:Nat} {α:Type} {arg:α->List V} {out:α->V} {P:Aa->Prop} {h:∀ a σ,P σ->FN C.n f (arg a) σ (out a) σ} (inj:∀ a b,arg a=arg b->out a=out b) (a:α) {σ:Aa} (hσ:P σ):(C.knowA f arg out P h).O f (arg a) σ=some (out a):=by
 have q:P σ/\∃ b,arg b=arg a:=⟨hσ,a,rfl⟩
 show (bif Nat.beq f f then @dite _ (P σ/\∃ b,arg b=arg a) (Classical.propDecidable _) (fun q=>some (out (Classical.choose q.2))) fun _=>none else C.O f (arg a) σ)=_
 rw [Nat.beq_refl f]
 show @dite _ (P σ/\∃ b,arg b=arg a) (Classical.propDecidable _) (fun q=>some (out (Classical.choose q.2))) (fun _=>none)=_
 rw [dif_pos q,inj _ _ (Classical.choose_spec q.2)]
theorem ER {O:Orc} {ρ:Ah} {σ:Aa} {nm:Str} {i f:Nat} {es:E} {ks:List Nat} {ys:List V} {v:V} (h1:B2 ρ i=some (.obj ks)) (h2:(ev O es).row ρ σ=some ys) (hm:mtP nm=some f) (h3:O f (.obj ks::ys) σ=some v):(ev O (.mcall nm (.var i) es)).v ρ σ=some v:=by
 show ((B2 ρ i).bind fun x=>((ev O es).row ρ σ).bind fun ys=>(Wp x).bind fun ks=>(mtP nm).bind fun f=>O f (.obj ks::ys) σ)=_
 rw [h1,bs,h2,bs]
 show (mtP nm).bind _=_
 rw [hm]; exact h3
section
variable {cs F:List Ch} {gs:Gsl} {hs:List (List Nat×Int)} {a:List Nat} {τ:Aa}
theorem RA {κ κ' α β:Type} [DecidableEq κ] [DecidableEq κ'] {φ:κ->κ'} {f:α->β} (inj:∀ a b,φ a=φ b->a=b) (kvs:List (κ×α)) (k:κ):IE (A7 φ f kvs) (φ k)=A7 φ f (IE kvs k):=by
 unfold IE A7
 rw [AB3]
 congr 1
 refine List.filter_congr fun p _=>?_
 exact decide_eq_decide.mpr ⟨fun h e=>h (congrArg φ e),fun h e=>h (inj _ _ e)⟩
noncomputable abbrev BH (p:List (List Nat)) (n:List Nat):Bool:=!decide (n∈p)
theorem ID {α:Type} (kvs:List (List Nat×α)) (p:List (List Nat)) (n:List Nat):IE (kvs.filter fun q=>BH p q.1) n=kvs.filter fun q=>BH (p++[n]) q.1:=by
 unfold IE
 rw [AB2]
 refine List.filter_congr fun q _=>?_
 by_cases h1:q.1=n
 ·simp [BH,h1]
 ·simp [BH,h1]
theorem Mp {C:Cfg} {P:Fl->Aa->Prop} {r:S} {ρ:Ah} {σ:Aa} {nm:Str} {k:Nat} {β:Type} {f:β->PyData} {kvs:List (List Nat×β)} {n:List Nat} (ha:(ev C.O (.attr nm (.var 0))).v ρ σ=some (.ref k)) (hi:B2 ρ 3=some (vs n)) (h0:σ[k]? = some (.dictS (A7 Tx f kvs))) (hn:n∈kvs.map (·.1)) (hl:kvs.length<=100) (kk:Af C P r ρ (σ.set k (.dictS (A7 Tx f (IE kvs n))))):Af C P (.cons (.exp (.meth .pop (.attr nm (.var 0)) (.cons (.var 3) .nil))) r) ρ σ:=by
 obtain ⟨x,hx⟩:=AB.mpr hn
 rw [<-RA (f:=f) BI] at kk
 exact BA rfl (SE.popS (z:=Tx n) (d:=f x) IM ((Ae C.ok _).v ha) ((Ae C.ok _).row (A0 hi)) h0 h0 (by rw [AK f BI,hx]; rfl) (by rw [Bl]; exact AAS hl (by decide))) kk
noncomputable def DP (cs:List Ch) (gs:Gsl) (a:List Nat):List (List Nat):=Aj (lnL cs gs a++[a])
theorem T3 (h:Wov cs F gs) (ha:a∈nms F) (hnd:(lnL cs gs a++[a]).Nodup) (hcl:∀ c∈F,BH (DP cs gs a) c.1=true->∀ l∈c.2.1,BH (DP cs gs a) l=true) :
 FN 5 39 [self,vs a] (W F gs (hts [] F)++τ) (.d (dl (DP cs gs a))) (W (F.filter fun c=>BH (DP cs gs a) c.1) (gs.filter fun q=>BH (DP cs gs a) q.1) (hts [] (F.filter fun c=>BH (DP cs gs a) c.1))++τ):=by
 let σ:=W F gs (hts [] F)++τ
 let out:=DP cs gs a
 have hL:(lnL cs gs a).length<=60:=AAC (AAX _ _) (by rw [(An _).length_eq,AAB]; exact h.len)
 have hk44:∀ (x:Unit) σ',σ'=σ->FN (C0 4).n 44 [self,vs a] σ' (.d (dl (lnL cs gs a))) σ':=fun _ σ' e=>e▸Iw h ha
 let C:Cfg:=(C0 4).knowA 44 (fun _:Unit=>[self,vs a]) (fun _=>.d (dl (lnL cs gs a))) (fun σ'=>σ'=σ) hk44
 have o44:C.O 44 [self,vs a] σ=some (.d (dl (lnL cs gs a))):=De (C:=C0 4) (arg:=fun _:Unit=>[self,vs a]) (fun _ _ _=>rfl) () rfl
 have odd:out.Nodup:=(An _).nodup_iff.mpr hnd
 have oin:∀ n∈out,n∈nms F:=fun n hn=>by
  rcases AA0.mp ((An _).mem_iff.mp hn) with q | q
  ·exact (h.perm.map _).mem_iff.mpr ((An _).mem_iff.mp (AA4.mp q).1)
  ·rw [AAJ.mp q]; exact ha
 let St:List (List Nat)->Aa:=fun p=>[.dictS (A7 Tx Ch.data ((hK F).filter fun q=>BH p q.1)),.dictS (A7 Tx dl (gs.filter fun q=>BH p q.1)),.dictS (A7 Tx PyData.int ((hts [] F).filter fun q=>BH p q.1))]++τ
 have St0:St []=σ:=by
  show [O.dictS (A7 Tx Ch.data ((hK F).filter fun _=>true)),.dictS (A7 Tx dl (gs.filter fun _=>true)),.dictS (A7 Tx PyData.int ((hts [] F).filter fun _=>true))]++τ=_
  rw [Bk,Bk,Bk]
 have eSt:St out=W (F.filter fun c=>BH out c.1) (gs.filter fun q=>BH out q.1) (hts [] (F.filter fun c=>BH out c.1))++τ:=by
  have e1:=M6 (BH out) [] F hcl
  rw [List.filter_nil] at e1
  have e2:(hK F).filter (fun q=>BH out q.1)=hK (F.filter fun c=>BH out c.1):=by
   show (F.map fun c=>(c.1,c)).filter _=_
   rw [AB3]; rfl
  show [O.dictS (A7 Tx Ch.data ((hK F).filter fun q=>BH out q.1)),.dictS (A7 Tx dl (gs.filter fun q=>BH out q.1)),.dictS (A7 Tx PyData.int ((hts [] F).filter fun q=>BH out q.1))]++τ=_
  rw [e2,<-e1]
 obtain ⟨v,σ',⟨h1,h2⟩,hf⟩:=FN.ends (C:=C) (f:=39) (fn:=EG) (zs:=[self,vs a]) (σ:=σ) (R:=fun v σ'=>v=.d (dl out)/\σ'=St out) (by unfold Pg; rfl) rfl (show 1<=4 by decide) (by
  show Af C _ _ [some self,some (vs a),none,none] σ
  refine BA (v:=AO) rfl (.mcall (f:=38) Ay (by unfold mtP; kernel_rfl) ((Ae C.ok (.var 0)).v rfl) ((Ae C.ok _).row rfl) ((Gb ha).more (show 2<=4 by decide))) ?_
  refine Az (v:=.d (dl out)) (AI (A0 (x:=.d (dl (lnL cs gs a++[a]))) ?_) (CO (by show some (((lnL cs gs a++[a]).map fun t=>PyData.str (Tx t)).map V.d)=_; rw [AAE]; rfl) (by rw [AAF]; show (lnL cs gs a).length+1 < 64; omega))) ?_
  ·refine Ai (x:=.d (dl (lnL cs gs a))) (y:=.d (dl [a])) (ER rfl rfl (by unfold mtP; kernel_rfl) o44) rfl ?_
   rw [Kt _ _ (by rw [AAB]; exact AAC (ABS hL) (by decide)),<-AAQ]
  show Af C _ _ _ σ
  rw [<-St0]
  let K:Option V->Ah:=fun z=>[some self,some (vs a),some (.d (dl out)),z]
  refine AS (l:=out) (fun n=>vs n) (fun p ρ σ'=>(∃ z,ρ=K z)/\σ'=St p) (FR rfl) ⟨⟨none,rfl⟩,rfl⟩ ?_ ?_
  ·rintro p n q ρ _ e ⟨⟨z,rfl⟩,rfl⟩
   have hnp:n∉p:=by
    have h1:=odd
    rw [e] at h1
    exact fun q'=>(ABW.mp h1).2.2 n q' n (.head _) rfl
   have hnF:n∈nms F:=oin n (by rw [e]; exact AAW _ (.head _))
   have key:∀ {β:Type} {kvs:List (List Nat×β)},n∈kvs.map (·.1)->n∈(kvs.filter fun q=>BH p q.1).map (·.1):=fun {β kvs} hk=>by
    obtain ⟨x,hx,rfl⟩:=AAP.mp hk
    exact AAZ (AA4.mpr ⟨hx,by simp [BH,hnp]⟩)
   have hF:=h.w.len
   have hg:gs.length<=100:=by have:=congrArg List.length h.w.gk; rw [AAB,AAB] at this; omega
   have hh:(hts [] F).length<=100:=by have:=congrArg List.length (BD [] F); rw [AAB,AAF,AAB] at this; simp at this; omega
   refine Mp (k:=0) (f:=Ch.data) (n:=n) (CM rfl) rfl rfl (key (by rw [Kg]; exact hnF)) (AAC (AAX _ _) (by rw [AAB]; omega)) ?_
   refine Mp (k:=1) (f:=dl) (n:=n) (CV rfl) rfl rfl (key (by rw [h.w.gk]; exact hnF)) (AAC (AAX _ _) hg) ?_
   refine Mp (k:=2) (f:=PyData.int) (n:=n) (DK rfl) rfl rfl (key (by rw [BD]; exact hnF)) (AAC (AAX _ _) hh) (Ad ⟨_,rfl,⟨_,rfl⟩,?_⟩)
   show [O.dictS (A7 Tx Ch.data (IE ((hK F).filter fun q=>BH p q.1) n)),.dictS (A7 Tx dl (IE (gs.filter fun q=>BH p q.1) n)),.dictS (A7 Tx PyData.int (IE ((hts [] F).filter fun q=>BH p q.1) n))]++τ=_
   rw [ID,ID,ID]
  ·rintro ρ _ ⟨⟨z,rfl⟩,rfl⟩
   exact A3 (v:=.d (dl out)) rfl ⟨rfl,rfl⟩)
 rw [h1,h2,eSt] at hf; exact hf
end
end Mine
namespace Mine
open PySem
section
variable {cs F G:List Ch} {gs:Gsl} {a n:List Nat} {p:List Nat->Bool}
theorem Rd (h:Wov cs F gs) (hn:n∈nms cs):a∈gdL gs n ↔ Blw cs n a:=by
 obtain ⟨ls,hls,_,hm⟩:=Lm h.w ((h.perm.map _).mem_iff.mpr hn)
 rw [gdL,hls]
 exact (hm a).trans ⟨Blw.mono fun c hc=>h.perm.mem_iff.mp hc,Blw.mono fun c hc=>h.perm.mem_iff.mpr hc⟩
theorem Mw (h:Wov cs F gs):n∈lnL cs gs a ↔ n∈nms cs/\Blw cs n a:=by
 rw [lnL,AA4,(An _).mem_iff]
 exact and_congr_right fun hn=>by rw [decide_eq_true_iff]; exact Rd h hn
theorem HX (h:Wov cs F gs):(lnL cs gs a++[a]).Nodup:=by
 refine ABW.mpr ⟨(CZ (BM _ h.H.nd)).filter _,ABX.mpr ⟨AA1,ABY⟩,fun x hx y hy e=>?_⟩
 rw [AAJ.mp hy] at e
 rw [e] at hx
 exact absurd (((Mw h).mp hx).2.lower h.H.nd h.H.topo) (Int.lt_irrefl _)
theorem Hr (h:Wov cs F gs) (ha:a∈nms cs):n∈DP cs gs a ↔ n∈nms cs/\(n=a\/Blw cs n a):=by
 rw [DP,(An _).mem_iff,AA0,Mw h,AAJ]
 constructor
 ·rintro (⟨h1,h2⟩ | rfl)
  ·exact ⟨h1,.inr h2⟩
  ·exact ⟨ha,.inl rfl⟩
 ·rintro ⟨h1,h2 | h2⟩
  ·exact .inr h2
  ·exact .inl ⟨h1,h2⟩
theorem Ql {l:List (List Nat)} {n:List Nat}:BH l n=true ↔ n∉l:=by simp [BH]
theorem Mr (h:Wov cs F gs) (ha:a∈nms cs):∀ c∈cs,BH (DP cs gs a) c.1=true->∀ l∈c.2.1,BH (DP cs gs a) l=true:=fun c hc h1 l hl=>by
 have h1:c.1∉DP cs gs a:=Ql.mp h1
 refine Ql.mpr fun h2=>h1 ((Hr h ha).mpr ⟨AAZ hc,.inr ?_⟩)
 rcases ((Hr h ha).mp h2).2 with q | q
 ·rw [<-q]; exact .one hc hl
 ·exact .more hc hl q
theorem BR.filter (ht:BR F) (hc:∀ c∈F,p c.1=true->∀ l∈c.2.1,p l=true):BR (F.filter fun c=>p c.1):=fun pre c post e l hl=>by
 obtain ⟨a,b,e1,rfl,e2⟩:=AB8.mp e
 obtain ⟨a',b',e3,e4,e5,rfl⟩:=AB9.mp e2
 have e6:F=(a++a')++c::b':=by rw [e1,e3,ABQ]
 have hcF:c∈F:=by rw [e6]; exact AAW _ (.head _)
 obtain ⟨x,hx,ex⟩:=AAP.mp (ht _ _ _ e6 l hl)
 have px:p x.1=true:=by rw [ex]; exact hc c hcF e5 l hl
 rcases AA0.mp hx with q | q
 ·exact AAP.mpr ⟨x,AA4.mpr ⟨q,px⟩,ex⟩
 ·exact absurd px (e4 x q)
theorem Blw.keep (hc:∀ c∈F,p c.1=true->∀ l∈c.2.1,p l=true) {x y:List Nat} (b:Blw F x y):p x=true->Blw (F.filter fun c=>p c.1) x y:=by
 induction b with
 | one h1 h2=>exact fun q=>.one (AA4.mpr ⟨h1,q⟩) h2
 | more h1 h2 _ ih=>exact fun q=>.more (AA4.mpr ⟨h1,q⟩) h2 (ih (hc _ h1 q _ h2))
theorem Wov.left (h:Wov cs F gs) (hc:∀ c∈cs,p c.1=true->∀ l∈c.2.1,p l=true):Wov (cs.filter fun c=>p c.1) (F.filter fun c=>p c.1) (gs.filter fun q=>p q.1):=by
 have hF:∀ c∈F,p c.1=true->∀ l∈c.2.1,p l=true:=fun c hx=>hc c (h.perm.mem_iff.mp hx)
 refine ⟨h.H.filter hc,fun c hx=>h.gen c (AA4.mp hx).1,AAC (AAX _ _) h.len,h.perm.filter _,⟨?_,h.w.topo.filter hF,fun c hx=>h.w.gen c (AA4.mp hx).1,AAC (AAX _ _) h.w.len,?_,fun q hq=>⟨(h.w.gin q (AA4.mp hq).1).1,fun l=>((h.w.gin q (AA4.mp hq).1).2 l).trans ⟨fun b=>b.keep hF (AA4.mp hq).2,Blw.mono fun c hx=>(AA4.mp hx).1⟩⟩⟩⟩
 ·exact (List.Sublist.map _ List.filter_sublist).nodup h.w.nd
 ·have e1:(gs.filter fun q=>p q.1).map (·.1)=(gs.map (·.1)).filter p:=by rw [AB3]; rfl
  have e2:(F.filter fun c=>p c.1).map (·.1)=(F.map (·.1)).filter p:=by rw [AB3]; rfl
  rw [e1,e2,h.w.gk]
theorem MR (h:F.Perm (cs.filter fun c=>p c.1)) (hG:G.Perm cs):(F++G.filter fun c=>!p c.1).Perm cs:=by
 refine (h.append (hG.filter _)).trans ?_
 exact List.filter_append_perm (fun c:Ch=>p c.1) cs
theorem MQ (hF:BR F) (hp:F.Perm (cs.filter fun c=>p c.1)) (hG:G.Perm cs) (ht:BR G):BR (F++G.filter fun c=>!p c.1):=fun pre c post e l hl=>by
 rcases List.append_eq_append_iff.mp e with ⟨q,e1,e2⟩ | ⟨q,e1,e2⟩
 ·obtain ⟨x,y,e3,e4,e5⟩:=AB8.mp e2
  obtain ⟨a',b',e6,e7,e8,_⟩:=AB9.mp e5
  have e9:G=(x++a')++c::b':=by rw [e3,e6,ABQ]
  obtain ⟨z,hz,ez⟩:=AAP.mp (ht _ _ _ e9 l hl)
  rw [e1,AAQ]
  by_cases pz:p z.1=true
  ·refine AAU _ (AAP.mpr ⟨z,hp.mem_iff.mpr (AA4.mpr ⟨hG.mem_iff.mp ?_,pz⟩),ez⟩)
   rw [e9]; exact AAU _ hz
  ·refine AAW _ (AAP.mpr ⟨z,?_,ez⟩)
   rw [<-e4]
   have pz:(!p z.1)=true:=by simp [pz]
   rcases AA0.mp hz with r | r
   ·exact AA4.mpr ⟨r,pz⟩
   ·exact absurd pz (e7 z r)
 ·cases q with
  | nil =>
   rw [AAV] at e1
   have e2:c::post=G.filter fun c=>!p c.1:=e2
   obtain ⟨a',b',e6,e7,e8,_⟩:=AB9.mp e2.symm
   obtain ⟨z,hz,ez⟩:=AAP.mp (ht _ _ _ e6 l hl)
   rw [<-e1]
   by_cases pz:p z.1=true
   ·refine AAP.mpr ⟨z,hp.mem_iff.mpr (AA4.mpr ⟨hG.mem_iff.mp ?_,pz⟩),ez⟩
    rw [e6]; exact AAU _ hz
   ·exact absurd (by simp [pz]) (e7 z hz)
  | cons y q =>
   obtain ⟨rfl,_⟩:=List.cons.inj (show c::post=y::(q++G.filter fun c=>!p c.1) from e2)
   exact hF pre c q e1 l hl
end
end Mine
namespace Mine
open PySem
theorem Kp {O:Orc} {ρ:Ah} {σ:Aa} {a:E} {x:PyData} (h:(ev O a).v ρ σ=some (.d x)):(ev O (.lst (.cons a .nil))).v ρ σ=some (.d (.list [x])):=by
 show ((ev O (.cons a .nil)).row ρ σ).bind mkL=_
 rw [A0 h]
 exact HV [x] (show 1<=line by decide)
theorem I0 {f:PyData->PyData->Option Bool}:∀ l:List PyData,(∀ d∈l,f d d=some true)->Dg f l l=some true
 | [],_=>rfl
 | d::l,h=>by
  show (f d d).bind (fun a=>(Dg f l l).bind fun b=>some (a&&b))=_
  rw [h d (.head _),I0 l fun x hx=>h x (.tail _ hx)]; rfl
theorem Lx {n:Nat} {l:List PyData} (h:∀ d∈l,eqN n d d=some true):eqN (n+1) (.list l) (.list l)=some true:=by
 show (if l.length=l.length then Dg (eqN n) l l else some false)=_
 rw [if_pos rfl]; exact I0 l h
theorem R0 (n:Nat) (m:Mk):eqN (n+1) (A1 (some m)) (A1 (some m))=some true:=by rw [GC n m m,AAI rfl]
theorem Gc (n:Nat) (l:List (List Nat)):eqN (n+1) (dl l) (dl l)=some true:=Lx fun d hd=>by
 obtain ⟨t,_,rfl⟩:=AAP.mp hd
 rw [EQ,AAI rfl]
theorem FJ {σ:Aa} {d:PyData} (h:eqN A6 d d=some true):B5 .NotEq (.d d) (.d d) σ=some false:=by
 show HS (eqN A6 d d)=_
 rw [h]; rfl
theorem eq_self' {σ:Aa} {d:PyData} (h:eqN A6 d d=some true):B5 .Eq (.d d) (.d d) σ=some true:=h
theorem Rw (on:Mk->List (List Nat)) (T:List Pr):eqN A6 (.list (duL on T)) (.list (duL on T))=some true:=by
 refine Lx (n:=39) fun d hd=>?_
 obtain ⟨x,_,rfl⟩:=AAP.mp hd
 show Dg (eqN 38) [A1 (some x.1),dl (on x.1)] [A1 (some x.1),dl (on x.1)]=_
 exact I0 _ (all_cons (R0 37 x.1) (all_cons (Gc 37 _) A9))
section
variable {cs F:List Ch} {gs:Gsl} {hs:List (List Nat×Int)} {a:List Nat} {τ:Aa}
theorem Vo (h:Wov cs F gs):∃ gr:{n // n∈nms cs} -> List (List Nat),∀ n:{n // n∈nms cs},((gr n).Nodup/\(gr n).length<=61/\∀ x,x∈gr n ↔ x=n.1\/Blw cs n.1 x)/\∀ σ,FN 2 28 [.d (.list (cs.map Ch.data)),.d (dl [n.1])] σ (.d (dl (gr n))) σ:=by
 refine Classical.axiomOfChoice (r:=fun (n:{n // n∈nms cs}) gr=>(gr.Nodup/\gr.length<=61/\∀ x,x∈gr ↔ x=n.1\/Blw cs n.1 x)/\∀ σ,FN 2 28 [.d (.list (cs.map Ch.data)),.d (dl [n.1])] σ (.d (dl gr)) σ) fun n=>?_
 obtain ⟨fs,h1,h2,h3⟩:=J1 h.H.nd h.H.topo h.len (fun c hc=>(h.gen c hc).few) (ns:=[n.1]) (fun x hx=>by rw [AAJ.mp hx]; exact n.2) (show 1<=100 by decide)
 have hm:∀ x,x∈fs ↔ x=n.1\/Blw cs n.1 x:=fun x=>(h2 x).trans ⟨fun ⟨o,ho,e⟩=>by rw [AAJ.mp ho] at e; exact e,fun e=>⟨n.1,.head _,e⟩⟩
 refine ⟨fs,⟨h1,?_,hm⟩,h3⟩
 have sub:fs ⊆ nms cs:=fun x hx=>((hm x).mp hx).elim (fun e=>e▸n.2) fun b=>b.names h.H.topo
 have:=List.Nodup.length_le_of_subset h1 sub
 rw [AAB] at this
 exact AAC this (AAC h.len (by decide))
theorem Jn {l l':List (List Nat)} (n1:l.Nodup) (n2:l'.Nodup) (h:∀ x,x∈l ↔ x∈l'):Aj l=Aj l':=Ih ((List.perm_ext_iff_of_nodup n1 n2).mpr h) n1
theorem dlj {x y:List Nat} {d:PyData} (e:[V.d d,.d (dl [x])]=[.d d,.d (dl [y])]):x=y:=by
 injection e with _ e
 injection e with e _
 injection e with e
 injection e with e
 injection e with e _
 injection e with e
 exact ED e
theorem Ju (h:Wov cs F gs) (n:Nat) (hn:2<=n):∃ (C:Cfg) (gr:{n // n∈nms cs} -> List (List Nat)),C.n=n/\(∀ n:{n // n∈nms cs},(gr n).Nodup/\(gr n).length<=61/\∀ x,x∈gr n ↔ x=n.1\/Blw cs n.1 x)/\∀ (n:{n // n∈nms cs}) σ,C.O 28 [.d (.list (cs.map Ch.data)),.d (dl [n.1])] σ=some (.d (dl (gr n))):=by
 obtain ⟨gr,hgr⟩:=Vo h
 exact ⟨(C0 n).knowF 28 (fun n:{n // n∈nms cs}=>[.d (.list (cs.map Ch.data)),.d (dl [n.1])]) (fun n=>.d (dl (gr n))) (fun m σ=>((hgr m).2 σ).more hn),gr,rfl,fun n=>(hgr n).1,fun m σ=>Ie (C:=C0 n) (fun a b e=>by rw [Subtype.ext (dlj e)]) m σ⟩
theorem Ul (h:Wov cs F gs) (ha:a∈nms cs) {gr:{n // n∈nms cs} -> List (List Nat)} (hg:∀ n:{n // n∈nms cs},(gr n).Nodup/\(gr n).length<=61/\∀ x,x∈gr n ↔ x=n.1\/Blw cs n.1 x):∃ gi:List Nat->Bool,(∀ (o:List Nat) (h:o∈nms cs),gi o=decide (a∈gr ⟨o,h⟩))/\Aj (nms (cs.filter fun c=>gi c.1))=DP cs gs a:=by
 let gi:List Nat->Bool:=fun o=>@decide (∃ h:o∈nms cs,a∈gr ⟨o,h⟩) (Classical.propDecidable _)
 have gi_eq:∀ (o:List Nat) (h:o∈nms cs),gi o=decide (a∈gr ⟨o,h⟩):=fun o h=>by
  by_cases q:a∈gr ⟨o,h⟩
  ·rw [AAI q]; exact @AAI _ (Classical.propDecidable _) ⟨h,q⟩
  ·rw [AAT q]; exact @AAT _ (Classical.propDecidable _) fun ⟨_,r⟩=>q r
 let L:=cs.filter fun c=>gi c.1
 have eL:Aj (nms L)=DP cs gs a:=by
  refine Jn ((List.Sublist.map _ List.filter_sublist).nodup h.H.nd) (HX h) fun x=>?_
  rw [AA0,Mw h,AAJ]
  constructor
  ·intro hx
   obtain ⟨c,hc,rfl⟩:=AAP.mp hx
   obtain ⟨h1,h2⟩:=AA4.mp hc
   have hcn:c.1∈nms cs:=AAZ h1
   rw [gi_eq c.1 hcn] at h2
   rcases ((hg ⟨c.1,hcn⟩).2.2 a).mp (AAG h2) with q | q
   ·exact .inr q.symm
   ·exact .inl ⟨hcn,q⟩
  ·intro hx
   have hcn:x∈nms cs:=hx.elim (·.1) fun q=>q▸ha
   obtain ⟨c,hc,rfl⟩:=AAP.mp hcn
   refine AAZ (AA4.mpr ⟨hc,?_⟩)
   rw [gi_eq c.1 hcn]
   refine AAI (((hg ⟨c.1,hcn⟩).2.2 a).mpr ?_)
   rcases hx with q | q
   ·exact .inr q.2
   ·exact .inl q.symm
 exact ⟨gi,gi_eq,eL⟩
theorem Ri (h:Wov cs F gs) (ha:a∈nms cs) (σ:Aa):FN 3 63 [.d (.list (cs.map Ch.data)),vs a] σ (.d (dl (DP cs gs a))) σ:=by
 obtain ⟨C,gr,hCn,hg,hO⟩:=Ju h 2 (AAL _)
 obtain ⟨gi,gi_eq,eL⟩:=Ul h ha hg
 let L:=cs.filter fun c=>gi c.1
 have eL:Aj (nms L)=DP cs gs a:=eL
 obtain ⟨v,σ',⟨h1,h2⟩,hf⟩:=FN.ends (C:=C) (f:=63) (fn:=Sb) (zs:=[.d (.list (cs.map Ch.data)),vs a]) (σ:=σ) (R:=fun v σ'=>v=.d (dl (Aj (nms L)))/\σ'=σ) (by unfold Pg; rfl) rfl (by rw [hCn]; decide) (by
  show Af C _ _ [some (.d (.list (cs.map Ch.data))),some (vs a),none] σ
  refine A3 (v:=.d (dl (Aj (nms L)))) (AI (A0 (x:=.d (dl (nms L))) ?_) (CO (by show some (((nms L).map fun t=>PyData.str (Tx t)).map V.d)=_; rw [AAE]; rfl) (by rw [AAB]; exact AAS (AAC (AAX _ _) h.len) (by decide)))) ⟨rfl,rfl⟩
  rw [CD (l:=cs) Ch.data (fun c=>gi c.1) (fun c=>.str (Tx c.1)) (Bx rfl rfl) (AAC h.len (by decide)) (fun c hc=>?_) (fun c hc _=>Ag rfl rfl (AL c))]
  ·show _=some (V.d (.list ((L.map (·.1)).map fun t=>PyData.str (Tx t))))
   rw [AAE]; rfl
  ·have hcn:c.1∈nms cs:=AAZ hc
   rw [gi_eq c.1 hcn]
   exact E9 (Aq (x:=vs a) (y:=.d (dl (gr ⟨c.1,hcn⟩))) rfl (El (AY rfl (Kp (Ag rfl rfl (AL c)))) (hO ⟨c.1,hcn⟩ σ)) (by rw [RJ,BU])))
 rw [h1,h2,eL,hCn] at hf; exact hf
theorem Pd (h:Wov cs F gs) (σ:Aa):FN 5 60 [.d (.list (cs.map Ch.data))] σ (.d (.list (duL (onF cs gs) (AT (Ax (Al cs)))))) σ:=by
 let on:=onF cs gs
 let T:=AT (Ax (Al cs))
 have hun:∀ m σ,FN 3 31 [.d (.list (cs.map Ch.data)),vm m] σ (.d (dl (on m))) σ:=fun m σ=>by
  obtain ⟨us,u1,_,u3⟩:=Kk h.H.nd h.H.topo h.len h.gen m
  have:=u3 σ
  rw [u1.uniq (UO h m)] at this; exact this
 have hO:=Ck h.H.nd
 have hs:=D4 (A:=Al cs) fun c hc=>h.gen c (hO.perm.mem_iff.mp hc)
 have hol:(Al cs).length<=60:=by rw [hO.perm.length_eq]; exact h.len
 have hT:T.length<=10000:=AAC Ep (AAC hs.row (by omega))
 let C:=C0 4
 obtain ⟨rD,hmod⟩:∃ rD,∀ σ,FN 4 20 [.d (.list (cs.map Ch.data))] σ (.d (.tuple [rD,.list (T.map prD)])) σ:=⟨_,Lr h.H h.gen h.len⟩
 have hmi:∀ {ρ:Ah} {σ:Aa},B2 ρ 0=some (.d (.list (cs.map Ch.data)))->SI C.n (.sub (.fcall 20 (.cons (.var 0) .nil)) (.cst (.int 1))) ρ σ (T.map fun x=>.d (prD x)) [] σ:=fun {ρ σ} h=>by
  have h1:SE C.n (.sub (.fcall 20 (.cons (.var 0) .nil)) (.cst (.int 1))) ρ σ (.d (.list (T.map prD))) σ:=.sub (.fcall ((Ae C.ok _).row (A0 h)) (hmod σ)) (.cst _) (Gu (show Bp (.d (.tuple [rD,.list (T.map prD)])) (vi 1) σ=some (.d (.list (T.map prD))) from rfl))
  have h2:=SI.lst h1 (ws:=(T.map prD).map V.d) rfl
  rw [AAE] at h2; exact h2
 have hq:FN 5 60 [.d (.list (cs.map Ch.data))] [] (.ref 0) [.list ((duL on T).map .d)]:=by
  exact FN.same (C:=C) (fn:=IU) (by unfold Pg; rfl) rfl (show 1<=4 by decide) (by
   let K:Option V->Option V->Option V->Ah:=fun z2 z3 z4=>[some (.d (.list (cs.map Ch.data))),some (.ref 0),z2,z3,z4]
   show Af C _ _ [some (.d (.list (cs.map Ch.data))),none,none,none,none] []
   refine Bu (ws:=[]) rfl ?_
   refine Tu (l:=T) (fun x=>.d (prD x)) (fun p ρ σ=>(∃ z2 z3 z4,ρ=K z2 z3 z4)/\[.list ((duL on p).map .d)]=σ) (hmi rfl) (fun _ _=>.inr ⟨_,rfl,rfl⟩) ⟨⟨none,none,none,rfl⟩,rfl⟩ ?_ ?_
   ·rintro p x q ρ _ e ⟨⟨z2,z3,z4,rfl⟩,rfl⟩
    have hpl:(duL on p).length<=10000:=by
     have h1:=AAX (fun x:Pr=>decide (1 < (on x.1).length)) p
     have h2:=congrArg List.length e
     rw [AAF,AA2] at h2
     rw [AAB]; omega
    show Af C _ _ (K (some (vm x.1)) (some (vs x.2)) z4) _
    refine AA (v:=.d (dl (on x.1))) rfl (.fcall ((Ae C.ok _).row rfl) ((hun x.1 _).more (show 3<=4 by decide))) ?_
    refine A8 (t:=decide (((on x.1).length:Int) > 1)) (Aq (AI (A0 rfl) (BZ.trans (by rw [AAB]))) rfl LB) (fun hh=>?_) fun hh=>?_
    ·have hh:=AAG hh
     refine AU (k:=0) (ws:=(duL on p).map .d) (y:=.d (duV on x.1)) rfl (A0 (Cv (AY rfl rfl) rfl)) rfl (by rw [AAB]; exact AAS hpl (by decide)) (Ad (Ad ⟨_,rfl,⟨_,_,_,rfl⟩,?_⟩))
     show [O.list ((duL on (p++[x])).map .d)]=[O.list ((duL on p).map .d++[V.d (duV on x.1)])]
     rw [Gd,if_pos (by omega),AAQ]; rfl
    ·have hh:=ABG hh
     refine Ad (Ad ⟨_,rfl,⟨_,_,_,rfl⟩,?_⟩)
     show [O.list ((duL on (p++[x])).map .d)]=[O.list ((duL on p).map .d)]
     rw [Gd,if_neg (by omega)]
   ·rintro ρ _ ⟨⟨z2,z3,z4,rfl⟩,rfl⟩
    exact A3 (v:=.ref 0) rfl ⟨rfl,rfl⟩)
 exact FN.any (FN.seal (σ:=[]) hq ⟨duL on T,rfl,AAL _,rfl⟩) (all_cons trivial A9)
theorem T9 (ha:a∉nms F):FN 4 66 [self,vs a] (W F gs hs++τ) (vb true) (W F gs hs++τ):=by
 let C:=C0 3
 let σ:=W F gs hs++τ
 let K:Int->Ah:=fun j=>[some self,some (vs a),some (vi j)]
 have t1:∀ {j:Int} {nm:Str} {f:Nat} {P:Fl->Aa->Prop} {r:S},mtP nm=some f->FX 3 f [self,vs a] σ 5 σ->Af C P r (K (j+1)) σ->Af C P (.cons (.try_ (.cons (.exp (.mcall nm (.var 0) (.cons (.var 1) .nil))) .nil) 5 (.cons (.asg 2 (.bin .Add (.var 2) (.cst (.int 1)))) .nil)) r) (K j) σ:=fun {j nm f P r} hm hx k =>
  Cq (fl:=.next (K (j+1))) (fun Q q=>SS.tryInc (σ':=σ) (.head (.exp rfl (.mcall Ay hm ((Ae C.ok (.var 0)).v rfl) ((Ae C.ok _).row rfl) hx) ⟨rfl,rfl⟩)) rfl q) k
 exact FN.same (C:=C) (fn:=Ux) (by unfold Pg; rfl) rfl (show 1<=3 by decide) (by
  show Af C _ _ [some self,some (vs a),none] σ
  refine Az (v:=vi 0) rfl ?_
  refine t1 (j:=0) (f:=39) (by unfold mtP; kernel_rfl) (T1 ha) ?_
  refine t1 (j:=1) (f:=42) (by unfold mtP; kernel_rfl) (Pc ha) ?_
  exact A3 (v:=vb true) rfl ⟨rfl,rfl⟩)
end
end Mine
namespace Mine
open PySem
theorem vsj {x y:List Nat} {s:V} (e:[s,vs x]=[s,vs y]):x=y:=by
 injection e with _ e
 injection e with e _
 injection e with e
 injection e with e
 exact ED e
section
variable {cs F:List Ch} {gs:Gsl} {τ:Aa}
theorem Tw (h:Wov cs F gs) {a:List Nat} (ha:a∈nms cs) {l:List (List Nat)} (nd:l.Nodup) (hm:∀ x,x∈l ↔ x=a\/Blw cs a x):Aj (gdL gs a++[a])=Aj l:=by
 obtain ⟨ls,hls,⟨_,hr⟩,hb⟩:=Lm h.w ((h.perm.map _).mem_iff.mpr ha)
 have e:gdL gs a=ls:=by rw [gdL,hls]; rfl
 have hmem:∀ x,x∈gdL gs a ↔ Blw cs a x:=fun x=>Rd h ha
 refine Jn ?_ nd fun x=>?_
 ·refine ABW.mpr ⟨by rw [e]; exact CZ hr,ABX.mpr ⟨AA1,ABY⟩,fun x hx y hy q=>?_⟩
  rw [AAJ.mp hy] at q
  rw [q] at hx
  exact absurd (((hmem a).mp hx).lower h.H.nd h.H.topo) (Int.lt_irrefl _)
 ·rw [AA0,hmem,AAJ,hm]
  exact or_comm
theorem Ro (h:Wov cs F gs) (cell:Int):FN 7 61 [self,.d (.list (cs.map Ch.data)),vi cell] (W F gs (hts [] F)++τ) (vb true) (W F gs (hts [] F)++τ):=by
 let W0:=W F gs (hts [] F)
 let σ:=W0++τ
 let σ1:=σ++[oT (hts [] cs)]
 let P:Aa->Prop:=fun σ'=>∃ τ',σ'=W0++τ'
 have P0:P σ:=⟨τ,rfl⟩
 have P1:P σ1:=⟨τ++[oT (hts [] cs)],ABQ _ _ _⟩
 let cD:V:=.d (.list (cs.map Ch.data))
 let Qs:PyData:=.list (duL (onF cs gs) (AT (Ax (Al cs))))
 have eqQ:eqN A6 Qs Qs=some true:=Rw _ _
 have toF:∀ {n},n∈nms cs->n∈nms F:=fun hn=>(h.perm.map _).mem_iff.mpr hn
 obtain ⟨Ca,gr,hCn,hg,hO⟩:=Ju h 6 (by decide)
 have k51:∀ (x:Unit) σ',P σ'->FN Ca.n 51 [self] σ' (.d Qs) σ':=fun _ σ' ⟨τ',e⟩=>by rw [e,hCn]; exact FN.tail (J0 h) rfl (all_cons DF A9) (Fa 3)
 let Cb:=Ca.knowA 51 (fun _:Unit=>[self]) (fun _=>.d Qs) P k51
 have o51':∀ {σ'},P σ'->Cb.O 51 [self] σ'=some (.d Qs):=fun hσ=>De (C:=Ca) (arg:=fun _:Unit=>[self]) (fun _ _ _=>rfl) () hσ
 have k60:∀ (x:Unit) σ',True->FN Cb.n 60 [cD] σ' (.d Qs) σ':=fun _ σ' _=>by show FN Ca.n 60 _ _ _ _; rw [hCn]; exact (Pd h σ').more (show 5<=6 by decide)
 let Cc:=Cb.knowA 60 (fun _:Unit=>[cD]) (fun _=>.d Qs) (fun _=>True) k60
 have o60':∀ σ',Cc.O 60 [cD] σ'=some (.d Qs):=fun σ'=>De (C:=Cb) (arg:=fun _:Unit=>[cD]) (fun _ _ _=>rfl) () trivial
 have k42:∀ (n:{n // n∈nms cs}) σ',P σ'->FN Cc.n 42 [self,vs n.1] σ' (vi (hgt F n.1)) σ':=fun n σ' ⟨τ',e⟩=>by show FN Ca.n 42 _ _ _ _; rw [e,hCn]; exact (Pi (toF n.2)).more (show 3<=6 by decide)
 let Cd:=Cc.knowA 42 (fun n:{n // n∈nms cs}=>[self,vs n.1]) (fun n=>vi (hgt F n.1)) P k42
 have o42':∀ (n:{n // n∈nms cs}) {σ'},P σ'->Cd.O 42 [self,vs n.1] σ'=some (vi (hgt F n.1)):=fun n σ' hσ=>De (C:=Cc) (arg:=fun n:{n // n∈nms cs}=>[self,vs n.1]) (fun a b e=>by rw [vsj e]) n hσ
 have k41:∀ (c:{c // c∈cs}) σ',P σ'->FN Cd.n 41 [self,vs c.1.1] σ' (vc c.1) σ':=fun c σ' ⟨τ',e⟩=>by show FN Ca.n 41 _ _ _ _; rw [e,hCn]; exact (Pk h.w.nd h.w.gen (h.perm.mem_iff.mpr c.2)).more (show 3<=6 by decide)
 let Ce:=Cd.knowA 41 (fun c:{c // c∈cs}=>[self,vs c.1.1]) (fun c=>vc c.1) P k41
 have o41':∀ (c:{c // c∈cs}) {σ'},P σ'->Ce.O 41 [self,vs c.1.1] σ'=some (vc c.1):=fun c σ' hσ=>De (C:=Cd) (arg:=fun c:{c // c∈cs}=>[self,vs c.1.1]) (fun a b e=>by rw [Jp h.H.nd a.2 b.2 (vsj e)]) c hσ
 have k43:∀ (n:{n // n∈nms cs}) σ',P σ'->FN Ce.n 43 [self,vs n.1] σ' (.d (dl (gdL gs n.1))) σ':=fun n σ' ⟨τ',e⟩=>by show FN Ca.n 43 _ _ _ _; rw [e,hCn]; exact (MD h.w (toF n.2)).more (show 3<=6 by decide)
 let Cf:=Ce.knowA 43 (fun n:{n // n∈nms cs}=>[self,vs n.1]) (fun n=>.d (dl (gdL gs n.1))) P k43
 have o43':∀ (n:{n // n∈nms cs}) {σ'},P σ'->Cf.O 43 [self,vs n.1] σ'=some (.d (dl (gdL gs n.1))):=fun n σ' hσ=>De (C:=Ce) (arg:=fun n:{n // n∈nms cs}=>[self,vs n.1]) (fun a b e=>by rw [vsj e]) n hσ
 have k44:∀ (n:{n // n∈nms cs}) σ',P σ'->FN Cf.n 44 [self,vs n.1] σ' (.d (dl (lnL cs gs n.1))) σ':=fun n σ' ⟨τ',e⟩=>by show FN Ca.n 44 _ _ _ _; rw [e,hCn]; exact (Iw h (toF n.2)).more (show 4<=6 by decide)
 let C:=Cf.knowA 44 (fun n:{n // n∈nms cs}=>[self,vs n.1]) (fun n=>.d (dl (lnL cs gs n.1))) P k44
 have o44:∀ (n:{n // n∈nms cs}) {σ'},P σ'->C.O 44 [self,vs n.1] σ'=some (.d (dl (lnL cs gs n.1))):=fun n σ' hσ=>De (C:=Cf) (arg:=fun n:{n // n∈nms cs}=>[self,vs n.1]) (fun a b e=>by rw [vsj e]) n hσ
 have o43:∀ (n:{n // n∈nms cs}) {σ'},P σ'->C.O 43 [self,vs n.1] σ'=some (.d (dl (gdL gs n.1))):=o43'
 have o41:∀ (c:{c // c∈cs}) {σ'},P σ'->C.O 41 [self,vs c.1.1] σ'=some (vc c.1):=o41'
 have o42:∀ (n:{n // n∈nms cs}) {σ'},P σ'->C.O 42 [self,vs n.1] σ'=some (vi (hgt F n.1)):=o42'
 have o60:∀ σ',C.O 60 [cD] σ'=some (.d Qs):=o60'
 have o51:∀ {σ'},P σ'->C.O 51 [self] σ'=some (.d Qs):=o51'
 have o28:∀ (n:{n // n∈nms cs}) σ,C.O 28 [cD,.d (dl [n.1])] σ=some (.d (dl (gr n))):=hO
 have hC6:C.n=6:=hCn
 have hlen:=h.len
 obtain ⟨v,σ',⟨h1,h2⟩,hf⟩:=FN.ends (C:=C) (f:=61) (fn:=Se) (zs:=[self,cD,vi cell]) (σ:=σ) (R:=fun v σ'=>v=vb true/\σ'=σ1) (by unfold Pg; rfl) rfl (by rw [hC6]; decide) (by
  let K:Option V->Option V->Option V->Option V->Option V->Option V->Ah:=fun z3 z4 z5 z6 z7 z8=>[some self,some cD,some (vi cell),z3,z4,z5,z6,z7,z8,none]
  show Af C _ _ (K none none none none none none) σ
  refine By (t:=decide (cell.fmod 2=1)&&false) (Cr (Aq (Ai rfl rfl (AJ (by decide))) rfl BB) fun _=>Aq (x:=.d Qs) (y:=.d Qs) (ER rfl rfl (by unfold mtP; kernel_rfl) (o51 P0)) (El (A0 rfl) (o60 σ)) (FJ eqQ)) (Bool.and_false _) ?_
  refine AA (v:=.ref (σ.length+0)) (σ':=σ1) rfl (.fcall ((Ae C.ok _).row (A0 (x:=cD) rfl)) ((FN.newR (Ix cs (fun c hc=>(h.gen c hc).few) h.len h.H.nd h.H.topo) (all_cons trivial A9) (all_cons trivial A9)).more (by rw [hC6]; decide))) ?_
  let Ln:Int:=(cs.length:Int)
  have hmin:∀ {ρ:Ah} {σ:Aa},B2 ρ 1=some cD->(ev C.O (.cons (.bi .min (.cons (.cst (.int 4)) (.cons (.bi .len (.cons (.var 1) .nil)) .nil))) .nil)).row ρ σ=some [vi (if Ln < 4 then Ln else 4)]:=fun hv=>A0 (AI (AY rfl (AI (A0 hv) (BZ.trans (by rw [AAB])))) rfl)
  refine AS (l:=List.range (if Ln < 4 then Ln else 4).toNat) (fun j:Nat=>vi (j:Int)) (fun _ ρ σ'=>(∃ z4 z5 z6 z7 z8,ρ=K (some (.ref σ.length)) z4 z5 z6 z7 z8)/\σ'=σ1) (Li (hmin rfl) (by split <;> omega) (by split <;> omega)) ⟨⟨none,none,none,none,none,rfl⟩,rfl⟩ ?_ ?_
  ·rintro p j q ρ _ e ⟨⟨z4,z5,z6,z7,z8,rfl⟩,rfl⟩
   have hj:j < (if Ln < 4 then Ln else 4).toNat:=ABZ.mp (by rw [e]; exact AAW _ (.head _))
   have hpos:0 < Ln:=by
    by_cases q:Ln < 4
    ·rw [if_pos q] at hj; omega
    ·omega
   obtain ⟨i0,i1⟩:=AN (cell+(j:Int)) hpos
   have hi:((cell+(j:Int)).fmod Ln).toNat < cs.length:=by omega
   let c:=cs[((cell+(j:Int)).fmod Ln).toNat]
   have hc:c∈cs:=List.getElem_mem hi
   have hcn:c.1∈nms cs:=AAZ hc
   have hci:(cs.map Ch.data)[((cell+(j:Int)).fmod Ln).toNat]? = some (Ch.data c):=by rw [ABI,AAN hi]; rfl
   clear_value c
   refine Az (v:=vc c) (Ag rfl (Ai (Ai (z:=vi (cell+(j:Int))) rfl rfl rfl) (AI (A0 rfl) (BZ.trans (by rw [AAB]))) (AJ (by omega))) (Ec _ i0 (by omega) hci)) ?_
   refine Az (v:=vs c.1) (Ag rfl rfl (AL c)) ?_
   have hgl:=(hg ⟨c.1,hcn⟩).2.1
   refine Az (v:=.d (dl (Aj (gr ⟨c.1,hcn⟩)))) (AI (A0 (El (AY rfl (Kp rfl)) (o28 ⟨c.1,hcn⟩ σ1))) (CO (by show some (((gr ⟨c.1,hcn⟩).map fun t=>PyData.str (Tx t)).map V.d)=_; rw [AAE]; rfl) (by omega))) ?_
   obtain ⟨gi,gi_eq,eL⟩:=Ul h hcn hg
   let L:=cs.filter fun c=>gi c.1
   have eL:Aj (nms L)=DP cs gs c.1:=eL
   have hLl:(nms L).length<=60:=by rw [AAB]; exact AAC (AAX _ _) h.len
   refine Ht (ds:=(nms L).map fun t=>.str (Tx t)) ?_ ?_
   ·refine (Cl (l:=cs) (fun c=>.d (Ch.data c)) (fun c=>gi c.1) (fun c=>vs c.1) (Bx rfl rfl) (AAC h.len (by decide)) (fun c' hc'=>?_) (fun c' hc' _=>Ag rfl rfl (AL c'))).trans ?_
    ·have hcn':c'.1∈nms cs:=AAZ hc'
     rw [gi_eq c'.1 hcn']
     exact E9 (Aq (x:=vs c.1) (y:=.d (dl (gr ⟨c'.1,hcn'⟩))) rfl (El (AY rfl (Kp (Ag rfl rfl (AL c')))) (o28 ⟨c'.1,hcn'⟩ σ1)) (by rw [RJ,BU]))
    ·rw [AAE,AAE]; rfl
   show Af C _ _ (K (some (.ref σ.length)) (some (vi (j:Int))) (some (vc c)) (some (vs c.1)) (some (.d (dl (Aj (gr ⟨c.1,hcn⟩))))) (some (.d (dl (nms L))))) σ1
   have hlnl:(lnL cs gs c.1).length<=60:=AAC (AAX _ _) (by rw [(An _).length_eq,AAB]; exact h.len)
   let ρ1:=K (some (.ref σ.length)) (some (vi (j:Int))) (some (vc c)) (some (vs c.1)) (some (.d (dl (Aj (gr ⟨c.1,hcn⟩))))) (some (.d (dl (nms L))))
   have cat:∀ {nm:Str} {f:Nat} {l:List (List Nat)},l.length<=60->mtP nm=some f->C.O f [self,vs c.1] σ1=some (.d (dl l))->(ev C.O (.bi .sorted (.cons (.bin .Add (.mcall nm (.var 0) (.cons (.var 6) .nil)) (.lst (.cons (.var 6) .nil))) .nil))).v ρ1 σ1=some (.d (dl (Aj (l++[c.1])))):=fun {nm f l} hl hm ho=>by
    refine AI (A0 (x:=.d (dl (l++[c.1]))) (Ai (x:=.d (dl l)) (y:=.d (dl [c.1])) (ER rfl rfl hm ho) (Kp rfl) ?_)) (CO (by show some (((l++[c.1]).map fun t=>PyData.str (Tx t)).map V.d)=_; rw [AAE]; rfl) (by rw [AAF]; show l.length+1 < 64; omega))
    rw [Kt _ _ (by rw [AAB]; exact AAC (ABS hl) (by decide)),<-AAQ]
   have s8:(ev C.O (.bi .sorted (.cons (.var 8) .nil))).v ρ1 σ1=some (.d (dl (DP cs gs c.1))):=by
    rw [<-eL]
    exact AI (A0 (x:=.d (dl (nms L))) rfl) (CO (by show some (((nms L).map fun t=>PyData.str (Tx t)).map V.d)=_; rw [AAE]; rfl) (by omega))
   have sl:=cat hlnl (f:=44) (nm:=ACB "leaning") (by unfold mtP; kernel_rfl) (o44 ⟨c.1,hcn⟩ P1)
   obtain ⟨ls,hls,⟨hll,_⟩,_⟩:=Lm h.w (toF hcn)
   have sg:=cat (l:=gdL gs c.1) (by rw [gdL,hls]; exact hll) (f:=43) (nm:=ACB "ground") (by unfold mtP; kernel_rfl) (o43 ⟨c.1,hcn⟩ P1)
   rw [Tw h hcn (hg ⟨c.1,hcn⟩).1 (hg ⟨c.1,hcn⟩).2.2] at sg
   refine By (t:=decide ((cell.fdiv 2).fmod 2=1)&&false) (Cr (Aq (Ai (Ai rfl rfl (Cy (by decide))) rfl (AJ (by decide))) rfl BB) fun _=>Aq sl s8 (FJ (Gc 39 _))) (Bool.and_false _) ?_
   have hh:hgt F c.1=hgt cs c.1:=(Io h.H.nd h.perm h.H.topo h.w.topo c hc).symm
   refine By (Dv (p:=false) (q:=false) ((Aq (x:=vi (hgt F c.1)) (y:=vi (hgt cs c.1)) (ER rfl rfl (by unfold mtP; kernel_rfl) (o42 ⟨c.1,hcn⟩ P1)) (Ag rfl rfl (BV (a:=c.1) (k:=σ.length) (kvs:=A7 Tx PyData.int (hts [] cs)) ?_ (QY hcn))) Fq).trans (by rw [hh,AAI rfl]; rfl)) fun _=>Aq (x:=vc c) (y:=vc c) (ER rfl rfl (by unfold mtP; kernel_rfl) (o41 ⟨c,hc⟩ P1)) rfl (FJ ?_)) rfl ?_
   ·show (σ++[oT (hts [] cs)])[σ.length]? = _
    rw [AA6 (AAL _),Nat.sub_self]; rfl
   ·obtain ⟨r,e1,e2,_⟩:=MI c c
    rw [e1,e2 rfl]
   refine By (Aq sg rfl (FJ (Gc 39 _))) rfl ?_
   exact By (Aq sl s8 (FJ (Gc 39 _))) rfl (Ad ⟨_,rfl,⟨_,_,_,_,_,rfl⟩,rfl⟩)
  ·rintro ρ _ ⟨⟨z4,z5,z6,z7,z8,rfl⟩,rfl⟩
   exact A3 (v:=vb true) (Eb (x:=.d Qs) (y:=.d Qs) (ER rfl rfl (by unfold mtP; kernel_rfl) (o51 P1)) (El (A0 rfl) (o60 σ1)) (eq_self' eqQ)) ⟨rfl,rfl⟩)
 rw [h1,h2,hC6] at hf
 exact FN.seal hf rfl
end
end Mine
namespace Mine
open PySem
theorem Kh {C:Cfg} {P:Fl->Aa->Prop} {r a:S} {ρ:Ah} {σ σ':Aa} {c:E} (h:ST C.n c ρ σ false σ') (k:Af C P r ρ σ'):Af C P (.cons (.ite c a .nil) r) ρ σ :=
 Cq (fl:=.next ρ) (fun Q q=>.ite h (fun e=>ff_ e) fun _=>.nil q) k
theorem Mv {F:List Ch} {gs:Gsl} {hs:List (List Nat×Int)}:∀ o∈W F gs hs,E2 0 o:=all_cons trivial (all_cons trivial (all_cons trivial A9))
section
variable {cs F:List Ch} {gs:Gsl} {τ:Aa}
theorem E7 (h:Wov cs F gs) (cell:Int):FN 9 62 [self,.d (.list (cs.map Ch.data)),vi cell] (W F gs (hts [] F)++τ) (vb true) (W F gs (hts [] F)++τ):=by
 let σ:=W F gs (hts [] F)++τ
 let cD:V:=.d (.list (cs.map Ch.data))
 have f61:FN 8 61 [self,cD,vi cell] σ (vb true) σ:=(Ro h cell).more (show 7<=8 by decide)
 have f26:FN 8 26 [self,cD] σ (vb true) σ:=FN.tail (Jz h) rfl (all_cons DF (all_cons trivial A9)) (Fa 3)
 let C:=(C0 8).know 61 (vb true) (fun xs σ'=>xs=[self,cD,vi cell]/\σ'=σ) (by rintro _ _ ⟨rfl,rfl⟩; exact f61)
 have o61:C.O 61 [self,cD,vi cell] σ=some (vb true):=NB (C:=C0 8) ⟨rfl,rfl⟩
 exact FN.same (C:=C) (fn:=Gp) (by unfold Pg; rfl) rfl (show 1<=8 by decide) (by
  show Af C _ _ [some self,some cD,some (vi cell)] σ
  refine By (t:=decide ((cell.fdiv 4).fmod 2=1)&&false) (Cr (Aq (Ai (Ai rfl rfl (Cy (by decide))) rfl (AJ (by decide))) rfl BB) fun _=>CN (p:=true) (J4 rfl o61)) (Bool.and_false _) ?_
  exact Du (v:=vb true) (σ':=σ) (.bop (.more rfl (t:=true) (x:=vb true) (σ₁:=σ) (.fcall ((Ae C.ok _).row rfl) f26) (D8 rfl) (fun q=>tt_ q) fun _=>.one (.fcall ((Ae C.ok _).row rfl) f61))) ⟨rfl,rfl⟩)
end
end Mine
namespace Mine
open PySem
noncomputable abbrev T10 (F:List Ch) (gs:Gsl) (ds:List PyData) (R:Aa):Aa:=W F gs (hts [] F)++(.list ((ds.map kp).map .d)::R)
noncomputable abbrev K10 (ns:List Int) (cs L:List Ch) (z5 z6 z7 z8 z9 z10:Option V):Ah:=[some (.d (scD ns)),some (.d (.list (cs.map Ch.data))),some self,some (.d (.list (L.map Ch.data))),some (.ref 3),z5,z6,z7,z8,z9,z10]
theorem N1 {n f:Nat} {es:E} {ρ:Ah} {σ σ1 σ2:Aa} {xs:List V} (h1:SEs n es ρ σ xs σ1) (h2:FN n f xs σ1 (vb true) σ2):ST n (.not (.fcall f es)) ρ σ false σ2:=ST.not (t:=true) (ST.plain (fun hc=>K9 (.fcall f es) rfl hc) (.fcall h1 h2) (D8 rfl))
section
variable {C:Cfg} {P:Fl->Aa->Prop} {r:S} {ns:List Int} {cs L F:List Ch} {gs:Gsl} {p:List Nat->Bool} {ds:List PyData} {R:Aa} {j:Nat} {z5 z6 z7 z8 z9 z10:Option V}
theorem O2 (hC:7<=C.n) (o9:∀ (k:Int),0<=k->k < 1000->∀ σ,C.O 9 [.d (scD ns),vi k] σ=some (vi (ns.getD k.toNat 0))) (h:Wov L F gs) (hL:L=cs.filter fun c=>p c.1) (hd:∀ d∈ds,ShL d) (hdl:ds.length<=90) (hj:j < 100)
 (k:∀ (L' F':List Ch) (gs':Gsl) (p':List Nat->Bool) (ds':List PyData) (z6 z7 z8:Option V),Wov L' F' gs'->L'=cs.filter (fun c=>p' c.1)->(∀ d∈ds',ShL d)->ds'.length<=ds.length+6->Af C P r (K10 ns cs L' (some (vi (j:Int))) z6 z7 z8 z9 z10) (T10 F' gs' ds' R)) :
 Af C P (.cons (.ite (.var 3)
  (.cons (.asg 6 (.sub (.sub (.var 3) (.bin .Mod (.fcall 9 (.cons (.var 0) (.cons (.bin .Add (.cst (.int 2)) (.var 5)) .nil))) (.bi .len (.cons (.var 3) .nil)))) (.cst (.int 0))))
   (.cons (.asg 7 (.fcall 63 (.cons (.var 3) (.cons (.var 6) .nil))))
   (.cons (.exp (.fcall 64 (.cons (.var 2) (.cons (.var 4) .nil))))
   (.cons (.asg 8 (.mcall (ACB "take") (.var 2) (.cons (.var 6) .nil)))
   (.cons (.ite (.not (.fcall 24 (.cons (.var 8) (.cons (.var 7) .nil))))
    (.cons (.ret (.cst (.bool false)))
     .nil)
    .nil)
   (.cons (.exp (.meth .append (.var 4) (.cons (.tup (.cons (.var 8) (.cons (.bi .repr (.cons (.var 8) .nil)) .nil))) .nil)))
   (.cons (.ite (.not (.fcall 66 (.cons (.var 2) (.cons (.var 6) .nil))))
    (.cons (.ret (.cst (.bool false)))
     .nil)
    .nil)
   (.cons (.asg 3 (.comp (.var 9) [9] (.var 3) (.cons (.cmp .NotIn (.sub (.var 9) (.cst (.int 0))) (.var 7)) .nil)))
   .nil))))))))
  .nil) r) (K10 ns cs L (some (vi (j:Int))) z6 z7 z8 z9 z10) (T10 F gs ds R):=by
 refine A8 (t:=!(L.map Ch.data).isEmpty) rfl (fun hh=>?_) fun hh=>Ad (k L F gs p ds z6 z7 z8 h hL hd (AA9 _ _))
 have hpos:0 < L.length:=by
  rw [List.isEmpty_map] at hh
  exact List.length_pos_iff.mpr fun e=>by rw [e] at hh; exact ff_ hh
 obtain ⟨x,ox⟩:∃ x,∀ σ,C.O 9 [.d (scD ns),vi (2+(j:Int))] σ=some (vi x):=⟨_,o9 (2+(j:Int)) (by omega) (by omega)⟩
 obtain ⟨i0,i1⟩:=AN x (show 0 < (L.length:Int) by omega)
 have hi:(x.fmod (L.length:Int)).toNat < L.length:=by omega
 have hlen:=h.len
 let c:=L[(x.fmod (L.length:Int)).toNat]
 have hc:c∈L:=List.getElem_mem hi
 have hcn:c.1∈nms L:=AAZ hc
 have hci:(L.map Ch.data)[(x.fmod (L.length:Int)).toNat]? = some (Ch.data c):=by rw [ABI,AAN hi]; rfl
 clear_value c
 refine Az (v:=vs c.1) (Ag (Ag rfl (Ai (El (AY rfl (Ai (z:=vi (2+(j:Int))) rfl rfl rfl)) (ox _)) (AI (A0 rfl) (BZ.trans (by rw [AAB]))) (AJ (by omega))) (Ec _ i0 (by omega) hci)) rfl (AL c)) ?_
 let out:=DP L gs c.1
 refine AA (v:=.d (dl out)) rfl (.fcall ((Ae C.ok _).row (AY rfl rfl)) ((Ri h hcn _).more (AAC (by decide) hC))) ?_
 have hold:=T6 h (b:=0) (i:=3) (σ:=T10 F gs ds R) (hs:=ds.map kp) rfl (by rw [AAB]; omega) fun n f d hf=>FN.tail hf rfl (all_cons DF A9) (Fa 3)
 have e3:(T10 F gs ds R).set 3 (.list ((ds.map kp++(Dj L gs).map kp).map .d))=T10 F gs (ds++Dj L gs) R:=by
  show W F gs (hts [] F)++(.list ((ds.map kp++(Dj L gs).map kp).map .d)::R)=W F gs (hts [] F)++(.list (((ds++Dj L gs).map kp).map .d)::R)
  rw [AAQ (l₁:=ds)]
 rw [e3] at hold
 refine BA (v:=AO) (σ':=T10 F gs (ds++Dj L gs) R) rfl (.fcall ((Ae C.ok _).row (AY (x:=self) (y:=.ref 3) rfl rfl)) (hold.more hC)) ?_
 have hcl:=Mr h hcn
 let F':=F.filter fun c=>BH out c.1
 let gs':=gs.filter fun q=>BH out q.1
 have hcF:c.1∈nms F:=(h.perm.map _).mem_iff.mpr hcn
 refine AA (v:=.d (dl out)) (σ':=T10 F' gs' (ds++Dj L gs) R) rfl (.mcall (f:=39) Ay (by unfold mtP; kernel_rfl) ((Ae C.ok (.var 2)).v rfl) ((Ae C.ok _).row (A0 (x:=vs c.1) rfl)) ((T3 h hcF (HX h) fun c' hc'=>hcl c' (h.perm.mem_iff.mp hc')).more (AAC (by decide) hC))) ?_
 have hout:∀ n∈out,n∈nms L:=fun n hn=>((Hr h hcn).mp hn).1
 have hol:out.length<=60:=by
  have:=List.Nodup.length_le_of_subset ((An _).nodup_iff.mpr (HX h (a:=c.1))) (fun n hn=>hout n hn)
  rw [AAB] at this
  exact AAC this h.len
 have hshl:ShL (dl out):=⟨(HG (fun n hn=>by
  obtain ⟨c',hc',rfl⟩:=AAP.mp (hout n hn)
  exact (h.gen c' hc').name) hol).shw (by decide) (by decide),_,rfl⟩
 have hself:c.1∈out:=(Hr h hcn).mpr ⟨hcn,.inl rfl⟩
 refine Kh (σ':=T10 F' gs' (ds++Dj L gs) R) (N1 ((Ae C.ok _).row (AY rfl rfl)) ((DZ out (.inl rfl) (AAC hol (by decide))).more (AAC (by decide) hC))) ?_
 have hal:(Dj L gs).length=5:=rfl
 refine AU (k:=3) (ws:=((ds++Dj L gs).map kp).map .d) (y:=.d (kp (dl out))) rfl (A0 (Cv (AY rfl (AI (A0 rfl) (JO hshl))) rfl)) rfl (by rw [AAB,AAB,AAF,hal]; exact AAS (show ds.length+5<=95 by omega) (by decide)) ?_
 have e4:(T10 F' gs' (ds++Dj L gs) R).set 3 (.list (((ds++Dj L gs).map kp).map .d++[.d (kp (dl out))]))=T10 F' gs' (ds++Dj L gs++[dl out]) R:=by
  show W F' gs' (hts [] F')++(.list (((ds++Dj L gs).map kp).map .d++[.d (kp (dl out))])::R)=W F' gs' (hts [] F')++(.list (((ds++Dj L gs++[dl out]).map kp).map .d)::R)
  rw [AAQ (l₁:=ds++Dj L gs),AAQ (l₁:=(ds++Dj L gs).map kp)]; rfl
 rw [e4]
 have hnot:c.1∉nms F':=fun q=>by
  obtain ⟨c',hc',e⟩:=AAP.mp q
  have:=(AA4.mp hc').2
  rw [e] at this
  exact Ql.mp this hself
 refine Kh (N1 ((Ae C.ok _).row (AY rfl rfl)) ((T9 hnot).more (AAC (by decide) hC))) ?_
 refine Ht (ds:=(L.filter fun c=>BH out c.1).map Ch.data) ?_ ?_
 ·refine (Cl (l:=L) (fun c=>.d (Ch.data c)) (fun c=>BH out c.1) (fun c=>.d (Ch.data c)) (Bx rfl rfl) (AAC h.len (by decide)) (fun c' hc'=>E9 (Aq (x:=vs c'.1) (y:=.d (dl out)) (Ag rfl rfl (AL c')) rfl (by rw [GU,BU]; rfl))) (fun c' hc' _=>rfl)).trans ?_
  rw [AAE]; rfl
 ·refine Ad (k (L.filter fun c=>BH out c.1) F' gs' (fun n=>BH out n&&p n) (ds++Dj L gs++[dl out]) _ _ _ (h.left (p:=BH out) hcl) ?_ ?_ ?_)
  ·rw [hL,AB2]
  ·intro d hd'
   rcases AA0.mp hd' with q | q
   ·exact (AA0.mp q).elim (hd d) (Oq h d)
   ·rw [AAJ.mp q]; exact hshl
  ·rw [AAF,AAF,hal]; exact AAL _
theorem Md (hC:9<=C.n) (o9:∀ (k:Int),0<=k->k < 1000->∀ σ,C.O 9 [.d (scD ns),vi k] σ=some (vi (ns.getD k.toNat 0))) (h:Wov L F gs) (hj:j < 100)
 (k:∀ R',Af C P r (K10 ns cs L (some (vi (j:Int))) z6 z7 z8 z9 z10) (T10 F gs ds R')) :
 Af C P (.cons (.ite (.not (.fcall 62 (.cons (.var 2) (.cons (.var 3) (.cons (.fcall 9 (.cons (.var 0) (.cons (.bin .Add (.cst (.int 2)) (.var 5)) .nil))) .nil)))))
  (.cons (.ret (.cst (.bool false)))
   .nil)
  .nil)
  (.cons (.ite (.not (.fcall 26 (.cons (.fcall 27 (.cons (.var 3) .nil)) (.cons (.var 3) .nil))))
   (.cons (.ret (.cst (.bool false)))
    .nil)
   .nil) r)) (K10 ns cs L (some (vi (j:Int))) z6 z7 z8 z9 z10) (T10 F gs ds R):=by
 let LD:V:=.d (.list (L.map Ch.data))
 refine Kh (N1 ((Ae C.ok _).row (Ko (x:=self) (y:=LD) rfl rfl (El (AY rfl (Ai (z:=vi (2+(j:Int))) rfl rfl rfl)) (o9 (2+(j:Int)) (by omega) (by omega) _)))) ((E7 h _).more hC)) ?_
 obtain ⟨gl,w,hw⟩:=Lo h.H h.gen h.len (.refl _) h.H.topo
 let σ:=T10 F gs ds R
 have h1:=FN.newO (σ:=σ) hw (all_cons trivial A9) Mv
 have h2:=FN.at (τ:=σ) (τ':=[]) (Jz (⟨h.H,h.gen,h.len,.refl _,w⟩:Wov L L gl)) rfl rfl (all_cons trivial A9) Mv Mv (b:=σ.length) rfl
 rw [AAV] at h2
 refine Kh (N1 (.cons (.fcall ((Ae C.ok _).row (A0 (x:=LD) rfl)) (h1.more (AAC (by decide) hC))) (.cons ((Ae C.ok (.var 3)).v rfl) .nil)) (h2.more (AAC (by decide) hC))) ?_
 exact k (R++W L gl (hts [] L))
end
end Mine
namespace Mine
open PySem
theorem Xo {k l:Int} {d:PyData} (e:[V.d d,vi k]=[.d d,vi l]):k=l:=by
 injection e with _ e
 injection e with e _
 injection e with e
 injection e
theorem run10 (ns:List Int) (hns:ns.length<=63):∃ σ',SSs 20 K3.body (B3 K3 [.d (.list (ns.map .int))]) [] (Ot (vb true) σ'):=by
 obtain ⟨ns',w1,w2⟩:=T2 (ns.drop 7) (ns.getD 6 0) (by rw [List.length_drop]; omega)
 obtain ⟨cs,c1,c2,H,z0,c4⟩:=ME ns' 60 w1 (by decide) (by decide)
 have cl:cs.length<=60:=by omega
 let C:=(C0 20).knowF 9 (fun k:{k:Int // 0<=k/\k < 1000}=>[.d (scD ns),vi k.1]) (fun k=>vi (ns.getD k.1.toNat 0)) fun k σ=>(T8 ns k.1 k.2.1 k.2.2).more (show 2<=20 by decide)
 have o9:∀ (k:Int),0<=k->k < 1000->∀ σ,C.O 9 [.d (scD ns),vi k] σ=some (vi (ns.getD k.toNat 0)):=fun k h1 h2 σ=>Ie (C:=C0 20) (arg:=fun k:{k:Int // 0<=k/\k < 1000}=>[.d (scD ns),vi k.1]) (fun a b e=>by rw [Xo e]) ⟨k,h1,h2⟩ σ
 let cD:V:=.d (.list (cs.map Ch.data))
 have hslc:∀ {ρ σ},B2 ρ 0=some (.d (scD ns))->(ev C.O (.slc (.var 0) (.cst (.int 7)) .nil)).v ρ σ=some (.d (scD (ns.drop 7))):=fun {ρ σ} h=>by
  show ((B2 ρ 0).bind fun x=>slice σ x (some 7) none)=_
  rw [h,bs,Jk (by decide) (by rw [AAB]; exact AAC hns (by decide)),<-List.map_drop]; rfl
 have hcell:∀ {ρ σ} (k:Int),B2 ρ 0=some (.d (scD ns))->0<=k->k < 1000->(ev C.O (.fcall 9 (.cons (.var 0) (.cons (.cst (.int k)) .nil)))).v ρ σ=some (vi (ns.getD k.toNat 0)):=fun k h h1 h2=>El (AY h rfl) (o9 k h1 h2 _)
 have hE:Af C (fun fl _=>Hi fl=vb true) K3.body (B3 K3 [.d (.list (ns.map .int))]) []:=by
  show Af C _ _ [some (.d (scD ns)),none,none,none,none,none,none,none,none,none,none] []
  refine AA (v:=cD) (σ':=[]) rfl (.fcall (.cons (.fcall (.cons ((Ae C.ok _).v (hslc rfl)) (.cons ((Ae C.ok _).v (hcell 6 rfl (by decide) (by decide))) (.cons (.cst _) .nil))) ((w2 _).more (show 3<=20 by decide))) (.cons (.cst _) .nil)) ((c4 _).more (show 4<=20 by decide))) ?_
  obtain ⟨F0,hp0,ht0,f0⟩:=Jy cs (ns.getD 0 0) cl c2 H
  obtain ⟨g0,wv0,hw0⟩:=Lo H c2 cl hp0 ht0
  refine AA (v:=self) (σ':=W F0 g0 (hts [] F0)) rfl (.fcall (.cons (.fcall ((Ae C.ok _).row (AY (x:=cD) rfl (hcell 0 rfl (by decide) (by decide)))) ((f0 _).more (show 3<=20 by decide))) .nil) (hw0.more (show 6<=20 by decide))) ?_
  refine Az (v:=cD) rfl ?_
  refine Bu (ws:=[]) rfl ?_
  obtain ⟨m0,m1⟩:=AN (ns.getD 1 0) (show (0:Int) < 3 by decide)
  have hm:(1+(ns.getD 1 0).fmod 3).toNat<=3:=by omega
  refine AS (l:=List.range (1+(ns.getD 1 0).fmod 3).toNat) (fun j:Nat=>vi (j:Int)) (fun q ρ σ=>∃ (L F:List Ch) (gs:Gsl) (p:List Nat->Bool) (ds:List PyData) (R:Aa) (z5 z6 z7 z8:Option V),Wov L F gs/\L=cs.filter (fun c=>p c.1)/\(∀ d∈ds,ShL d)/\ds.length<=6 * q.length/\ρ=K10 ns cs L z5 z6 z7 z8 none none/\σ=T10 F gs ds R)
   (Li (A0 (Ai rfl (Ai (hcell 1 rfl (by decide) (by decide)) rfl (AJ (by decide))) rfl)) (by omega) (by omega)) ⟨cs,F0,g0,fun _=>true,[],[],none,none,none,none,⟨H,c2,cl,hp0,wv0⟩,(Bk _).symm,(fun d h=>nomatch h),ABF _,rfl,rfl⟩ ?_ ?_
  ·rintro q j q' ρ _ e ⟨L,F,gs,p,ds,R,z5,z6,z7,z8,h,hL,hd,hdl,rfl,rfl⟩
   have e2:=congrArg List.length e
   rw [ABV,AAF,AA2] at e2
   have ej:=PW e
   refine O2 (z9:=none) (z10:=none) (show 7<=20 by decide) o9 h hL hd (by omega) (show j < 100 by omega) fun L' F' gs' p' ds' z6 z7 z8 h' hL' hd' hdl'=>?_
   refine Md (z9:=none) (z10:=none) (show 9<=20 by decide) o9 h' (show j < 100 by omega) fun R'=>?_
   exact Ad ⟨_,rfl,L',F',gs',p',ds',R',_,_,_,_,h',hL',hd',by rw [AAF,AA2,List.length_nil]; omega,rfl,rfl⟩
  ·rintro ρ _ ⟨L,F,gs,p,ds,R,z5,z6,z7,z8,h,hL,hd,hdl,rfl,rfl⟩
   rw [ABV] at hdl
   refine Ht (ds:=(nms L).map fun t=>.str (Tx t)) ?_ ?_
   ·refine (Cl (l:=L) (fun c=>.d (Ch.data c)) (fun _=>true) (fun c=>vs c.1) (Bx rfl rfl) (AAC h.len (by decide)) (fun _ _=>rfl) (fun c' hc' _=>Ag rfl rfl (AL c'))).trans ?_
    rw [Bk,AAE,AAE]; rfl
   obtain ⟨G,hpG,htG,fG⟩:=Jy cs (ns.getD 5 0) cl c2 H
   let LN:V:=.d (dl (nms L))
   have hperm:(F++G.filter fun c=>!p c.1).Perm cs:=MR (hL▸h.perm) hpG
   have htopo:BR (F++G.filter fun c=>!p c.1):=MQ h.w.topo (hL▸h.perm) hpG htG
   have hit:=SI.lst (ws:=(G.map Ch.data).map V.d) (SE.fcall (n:=C.n) (f:=18) (ρ:=K10 ns cs L z5 z6 z7 z8 none (some LN)) ((Ae C.ok (.cons (.var 1) (.cons (.fcall 9 (.cons (.var 0) (.cons (.cst (.int 5)) .nil))) .nil))).row (AY (x:=cD) rfl (hcell 5 rfl (by decide) (by decide)))) ((fG (T10 F gs ds R)).more (show 3<=20 by decide))) rfl
   rw [show (G.map Ch.data).map V.d=G.map vc from AAE] at hit
   refine EO (l:=G) vc (fun q ρ σ=>∃ gs',Jh (F++q.filter fun c=>!p c.1) gs'/\(∃ z9,ρ=K10 ns cs L z5 z6 z7 z8 z9 (some LN))/\σ=T10 (F++q.filter fun c=>!p c.1) gs' ds R) hit ⟨gs,by rw [List.filter_nil,AAV]; exact h.w,⟨none,rfl⟩,by rw [List.filter_nil,AAV]⟩ ?_ ?_
   ·rintro q c q' ρ _ e ⟨gs',w,⟨z9,rfl⟩,rfl⟩
    have hc:c∈cs:=hpG.mem_iff.mp (by rw [e]; exact AAW _ (.head _))
    have hin:decide (c.1∈nms L)=p c.1:=by
     cases hp:p c.1 with
     | true=>exact AAI (AAZ (by rw [hL]; exact AA4.mpr ⟨hc,hp⟩))
     | false =>
      refine AAT fun hm=>?_
      obtain ⟨c',hc',e'⟩:=AAP.mp hm
      rw [hL] at hc'
      have:=(AA4.mp hc').2
      rw [e',hp] at this
      exact ff_ this
    refine A8 (t:=!p c.1) (Aq (x:=vs c.1) (y:=LN) (Ag rfl rfl (AL c)) rfl (by rw [GU,BU,hin]; rfl)) (fun hh=>?_) fun hh=>?_
    ·have es:(q++[c]).filter (fun c=>!p c.1)=(q.filter fun c=>!p c.1)++[c]:=by rw [ABN,List.filter_cons_of_pos (p:=fun c:Ch=>!p c.1) hh]; rfl
     have ea:F++G.filter (fun c=>!p c.1)=(F++q.filter fun c=>!p c.1)++c::(q'.filter fun c=>!p c.1):=by rw [e,ABN,List.filter_cons_of_pos (p:=fun c:Ch=>!p c.1) hh,ABQ]
     have A:=RT H c2 cl hperm htopo ea
     obtain ⟨g1,w',hf⟩:=Rr w c A
     have e9:F++(q++[c]).filter (fun c=>!p c.1)=(F++q.filter fun c=>!p c.1)++[c]:=by rw [es,ABQ]
     refine BA (v:=AO) (σ':=T10 (F++(q++[c]).filter fun c=>!p c.1) g1 ds R) rfl ?_ (Ad (Ad ⟨_,rfl,g1,by rw [e9]; exact w',⟨_,rfl⟩,rfl⟩))
     rw [e9]
     exact .mcall (f:=36) Ay (by unfold mtP; kernel_rfl) ((Ae C.ok (.var 2)).v rfl) (.cons (.fcall ((Ae C.ok _).row (A0 (x:=vc c) rfl)) ((NU c (AAC A.few (by decide)) (AAC A.deeds (by decide))).more (show 2<=20 by decide))) .nil) ((hf _).more (show 5<=20 by decide))
    ·have es:(q++[c]).filter (fun c=>!p c.1)=q.filter fun c=>!p c.1:=by rw [ABN,List.filter_cons_of_neg (p:=fun c:Ch=>!p c.1) (show ¬(!p c.1)=true by rw [hh]; exact ff_),List.filter_nil,AAV]
     exact Ad (Ad ⟨_,rfl,gs',by rw [es]; exact w,⟨_,rfl⟩,by rw [es]⟩)
   ·rintro ρ _ ⟨gs',w,⟨z9,rfl⟩,rfl⟩
    have wv:Wov cs (F++G.filter fun c=>!p c.1) gs':=⟨H,c2,cl,hperm,w⟩
    refine Du (v:=vb true) (σ':=T10 (F++G.filter fun c=>!p c.1) gs' ds R) (.bop (.more rfl (t:=true) (x:=vb true) (σ₁:=T10 (F++G.filter fun c=>!p c.1) gs' ds R) (.fcall ((Ae C.ok _).row (A0 (x:=.ref 3) rfl)) ((T7 (i:=3) (hs:=ds) rfl (by omega) hd).more (show 2<=20 by decide))) (D8 rfl) (fun q=>tt_ q) fun _ =>
     .one (.fcall ((Ae C.ok _).row (Ko (x:=self) (y:=cD) rfl rfl (hcell 5 rfl (by decide) (by decide)))) ((E7 wv _).more (show 9<=20 by decide))))) rfl
 obtain ⟨fl,σ',h1,h2⟩:=hE
 refine ⟨σ',SSs.mono (fun f s e=>?_) h2⟩
 rw [e.1,e.2]
 cases fl with
 | next _=>exact ⟨h1.symm,rfl⟩
 | ret _=>exact ⟨h1.symm,rfl⟩
end Mine
open PySem PySem.W PyProof.Rows
set_option tactic.hygienic true in
set_option backward.match.sparseCases true in
set_option genInjectivity true in
set_option maxRecDepth 100000 in
set_option maxHeartbeats 8000000 in
theorem PySem.Challenge.cw_uf010019_10_holds : PySem.Challenge.rw_uf010019_10.Holds := by
 refine holds_law Mine.said10 fun said=>?_
 refine W.holds_open (q:=Mine.view10) (loose:=[]) (Xt:=Mine.xt10) (XP:=Mine.XP10) (Yf:=Hook.obs Mine.hook10) (Ya:=Hook.val Mine.hook10) (YP:=Hook.says Mine.hook10) (N:=5300) Mine.left10 (Hook.of Mine.hook10) (Hook.keeps Mine.hook10) Mine.xt10_of Mine.XP10.keeps (by rfl) (by rfl) (by rfl) (fun s e=>recFacts_of (Bool.and_eq_true_iff.mp (Bool.and_eq_true_iff.mp e).1).2) (by rfl) said (by decide +kernel) ⟨rfl,rfl,rfl,rfl,rfl,by decide +kernel⟩ ?hw ?hc
 case hw=>w_witness2
 intro w s₀ s₁ mg mb G Y fa o pm cd doc dV kV ho hd hcd hD hmg hg args vals as hpre hlay hrd hwl hlo
 have AP:=(Ground.X G).2
 refine Ground.open G ?_
 intro T B D TE TW
 clear hd hcd hD ho
 wrow_args hpre hlay hrd hwl hlo
 rename_i sc _ _ _ _ _ _ _ l vs _ hL _ _ _ hI _ hlen _
 refine Mine.law10 Mine.run10 (w:=w) T TE AP hmg hL hI (by omega) ?_
 intro s' hk hgens hos
 refine ⟨.inl ⟨.bool true,.bool true,[],rfl,?_,.bool true,?_,?_⟩,hk,hos,?_⟩
 ·intro cls; rfl
 ·wrow_post
 ·exact fun _=>⟨List.nodup_nil,fun a h=>by cases h⟩
 ·exact AllBare.of_eq (hgens.trans hg)