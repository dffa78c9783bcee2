import PyProof.Rows.All
import Wide.Line
import Wide.Tac
import Wide.Loose
import Open.Line
import OpenK.KWalk
import KE.KIsAll
import PyProof.TupleKey
import PyProof.DictFindH
import PyProof.Ns1
import PyProof.StrWalks
import PyProof.Rows.TopObj
import PyProof.Rows.PlainObj
import PyProof.Rows.PlainNoArg
import PyProof.Rows.PlainEq
import PyProof.ListStr
import PyProof.InstStoreFacts
import PyProof.DictWalks
import KE.KSortKey
import KE.KMinKey
import KE.KLam
import PyProof.ReprRoads
import PyProof.ReprLen
import PyProof.StrLawsRepr
import PyProof.RaisesMany
import PyProof.RulesAs
import PyProof.TupleIter
import PyProof.WalksMore
import PyProof.Rows.ListMulArg
import PyProof.Rows.StrMul
import PyProof.ObjNew
import PyProof.Rows.Range3
import PyProof.Conv_int_bool
import PyProof.IsInstance
import PySem.Challenge.RW_uf010019_12
set_option Elab.async false
set_option autoImplicit true
set_option genSizeOf false
set_option bootstrap.genMatcherCode false
set_option linter.all false
set_option tactic.hygienic false
set_option genInjectivity false
set_option genCtorIdx false
set_option backward.match.sparseCases false
open Option.some renaming inj → AAA
open List renaming length_map → AAB, map_map → AAE, length_append → AAF, mem_singleton → AAJ, getElem?_eq_some_iff → AAM, getElem?_eq_getElem → AAN, mem_map → AAP, map_append → AAQ, mem_cons → AAR, mem_append_left → AAU, append_nil → AAV, mem_append_right → AAW, length_filter_le → AAX, mem_map_of_mem → AAZ, mem_append → AA0, not_mem_nil → AA1, length_cons → AA2, mem_filter → AA4, mem_of_getElem? → AA5, getElem?_append_right → AA6, getElem?_append_left → ABE, mem_of_find?_eq_some → ABH, getElem?_map → ABI, filter_append → ABN, map_cons → ABP, append_assoc → ABQ, length_range → ABV, nodup_append → ABW, nodup_cons → ABX, nodup_nil → ABY, mem_range → ABZ, length_set → AB0, getElem?_set_self → AB1, filter_filter → AB2, filter_map → AB3, append_of_mem → ACA, filter_eq_append_iff → ACB, filter_eq_cons_iff → ACC, eq_nil_of_length_eq_zero → ACD, all_eq_true → ACL, mem_of_mem_take → ACN, size_toArray → ACQ, pairwise_cons → ACS, length_take → ACT, pairwise_map → ACU, map_reverse → ACV, getElem?_take_of_lt → AC0, mem_of_mem_drop → AC1, take_sublist → AC4, reverse_perm → AC5, map_congr_left → AC8, find?_some → ADA, lookup_cons → ADC, filterMap_cons → ADH, length_drop → ADI, getElem?_set_ne → ADN, filter_cons_of_pos → ADQ, getElem?_zip_eq_some → ADS, any_eq_true → ADV, mem_reverse → ADW, append_inj' → ADX
open Nat renaming le_trans → AAC, le_refl → AAL, lt_of_le_of_lt → AAS, le_add_right → AA9, zero_le → ABF, succ_le_succ → ABS, lt_trans → ABT, lt_irrefl → ABU, le_succ_of_le → AB4, not_lt → AB5, lt_of_lt_of_le → ACE, le_of_lt_succ → ACF, le_of_ble_eq_true → ACH, le_of_lt → ACJ, le_add_left → ACK, le_of_not_lt → ACM, min_eq_left → ACP, ne_of_lt → ACX, zero_add → AC2, succ_pos → AC3, add_le_add_left → AC7, add_comm → AC9, add_le_add_right → ADF, mul_le_mul_left → ADG, sub_self → ADJ, add_assoc → ADK, eq_of_beq_eq_true → ADL, le_antisymm → ADO, le_succ → ADP, lt_succ_self → ADR
open PySem renaming wpAny_bind → AAD, wpAny_mono → AAO, wpAny_pure → AAY, wpAny_standAt → AA7, wpAny_holding → AA8
open Bool renaming and_eq_true_iff → AAH, false_ne_true → ABB, or_eq_true_iff → ABC, eq_false_iff → AB7, and_eq_true → ACW, not_eq_true' → ACZ, false_eq_true → ADB, and_false → ADD
open PySem.Heap renaming get?_push_of_some → AAK, get?_push_size → AA3, get?_update_other → ABD, get?_none_of_le → ABO, get?_update_self → ACO, lt_size → ACY, size_push → ADT
open Array renaming length_toList → ABA, getElem?_toList → ABJ, getElem?_eq_getElem → AB6
open Prod.mk renaming inj → ABK
open Option renaming map_eq_some_iff → ABL
open LawfulBEq renaming eq_of_beq → ABM
open PySem.Value.ref renaming inj → ABR
open Int renaming natCast_nonneg → AB9, lt_of_lt_of_le → ADU, toNat_of_nonneg → ADY
open PySem.Str renaming ofString → ACG
open Classical renaming propDecidable → ACI, choose_spec → ADM
open PySem.Heap.SameBut renaming update → ACR
open PySem.Value renaming isStrOf_shape → AC6, isInt_shape → ADE
open Option renaming some → al, none → az
namespace Mine.Internal
open PySem PySem.W PyProof.Rows
set_option tactic.hygienic true
set_option maxRecDepth 100000
noncomputable def view12:Program:={PySem.Challenge.pw_uf010019_12 with main:={PySem.Challenge.pw_uf010019_12.main with body:=PySem.Challenge.pw_uf010019_12.main.body.filter λst=>match st with|.Assign [.Name x _] _ _=>x != ACG "__name__" | _=>true}}
noncomputable def Py(o:Obj):Bool:=match o.data with|.fields vs=>!(vs.size==0)|_=>true
noncomputable def PH(as:List Addr)(h:Heap):Frag:=as.filterMap λa=>(h.get? a).bind λo=>if Py o=true then al (a,o) else az
theorem S5(as:List Addr)(h:Heap):(PH as h).In h:=by
 intro a o e;unfold PH at e
 induction as with
 |nil=>cases e
 |cons b l ih =>
  rw[ADH] at e;cases hb:h.get? b with
  |none=>rw[hb] at e;exact ih e
  |some ob =>
   rw[hb] at e;simp only[Option.bind_some] at e;by_cases hn:Py ob=true
   ·simp only[if_pos hn,ADC] at e;split at e
    ·rename_i he
     have:a=b:=by simpa using he
     rw[this,hb];exact e
    ·exact ih e
   ·simp only[if_neg hn] at e;exact ih e
noncomputable def W12:Nat->Value
 |0=>.type "ValueError"
 |1=>.ref 24
 |2=>.ref 37
 |3=>.ref 49
 |4=>.ref 61
 |5=>.ref 73
 |6=>.ref 85
 |7=>.ref 97
 |8=>.ref 109
 |_=>.ref 121
noncomputable def SM:List (Nat×Str):=[(2,ACG "BadChange"),(5,ACG "Missing"),(6,ACG "NoLine"),(9,ACG "NoNote"),(3,ACG "NotLeaned"),(7,ACG "Other"),(8,ACG "Ring"),(4,ACG "Twice"),(1,ACG "WeaveError")]
noncomputable def isSome(a b:Option Bool):Bool:=match a,b with|some x,al y=>x==y|_,_=>false
theorem Eu{a:Option Bool}{b:Bool}(h:isSome a (al b)=true):a=al b:=by
 cases a with
 |none=>cases h
 |some x=>rw[beq_iff_eq.mp (show(x==b)=true from h)]
noncomputable def QT(a:Option (Option Value))(b:Option Value):Bool:=match a,b with|some (al x),al y=>x==y|some az,az=>true|_,_=>false
theorem JT{a:Option (Option Value)}{b:Option Value}(h:QT a b=true):a=al b:=by
 cases a with
 |none=>cases b<;>cases h
 |some x=>cases x with
  |none=>cases b with
   |none=>rfl
   |some y=>cases h
  |some x=>cases b with
   |none=>cases h
   |some y=>rw[beq_iff_eq.mp (show(x==y)=true from h)]
noncomputable def UB(v:Value)(s:String):Bool:=match v with|.builtin x=>x==s|_=>false
theorem QU{v:Value}{s:String}(h:UB v s=true):v=.builtin s:=by
 cases v with
 |builtin x=>rw[beq_iff_eq.mp (show(x==s)=true from h)]
 |_=>exact(ABB h).elim
noncomputable def UA(o:Option Builtin.ObjectAttr.Found):Bool:=match o with|some f=>(match f with|.bind g a=>UB g "getset_descriptor.__get__"&&UB a "object.__class__" | _=>false)|none=>false
theorem Sy{o:Option Builtin.ObjectAttr.Found}(h:UA o=true):o=al (.bind (.builtin "getset_descriptor.__get__") (.builtin "object.__class__")):=by
 cases o with
 |none=>exact(ABB h).elim
 |some f=>cases f with
  |bind g a =>
   have h:=(ACW _ _).mp (show(UB g "getset_descriptor.__get__"&&UB a "object.__class__")=true from h);rw[QU h.1,QU h.2]
  |_=>exact(ABB h).elim
noncomputable def Vl(K:Frag)(D:Addr):Bool :=
 QT (findIn K (.ref D) "__getattribute__") (al (.builtin "BaseException.__getattribute__"))&&QT (findIn K (.ref D) "__getattr__") az &&
 UA (findObj K D az "__class__") &&
 isSome (mroIn K D (.type "object")) (al true)&&isSome (mroIn K D (.type "BaseException")) (al true)&&(clsIn K D).isSome
noncomputable def K2(W:Nat->Value)(cn:List (Nat×Str))(cs:List Nat)(ps:List (Nat×Nat))(K:Frag):Bool :=
 K.all (λp=>Py p.2)&&cn.all (λe=>QT (nsIn K mainGlobals e.2) (al (W e.1))) &&
 cs.all (λc=>(match W c with|.ref D=>Vl K D|_=>false)) &&
 ps.all λp=>isSome (kitOne K (W p.1) (W p.2)) (al (p.1==p.2||p.2==1||p.2==0))&&(p.2==0||(isSome (kitCls K (W p.1) (W p.2)) (al (p.1==p.2||p.2==1||p.2==0))&&isSome (kitCls K (W p.2) (.type "BaseException")) (al true)))
noncomputable def Sg:List (Nat×Nat):=[(7,0),(7,1),(7,2),(7,3),(7,4),(7,5),(7,6),(7,7),(7,8),(7,9)]
noncomputable def cS(as:List Addr)(chk:Frag->Bool):Hook :=
 ⟨Bool,λs=>chk (PH as s.heap),λ_=>true,λ_ h=>∃K:Frag,K.In h/\chk K=true,λ_ s e=>⟨_,S5 as s.heap,e⟩,λ_ _ _ ⟨K,hK,e⟩ hk=>⟨K,λa o q=>hk a o (hK a o q),e⟩⟩
noncomputable def hook12:Hook:=cS (List.range 140) (K2 W12 SM [7] Sg)
noncomputable def W2(vs:Array Value):Option Addr:=match vs[11]? with|some v=>(match v with|.ref P=>al P|_=>az)|none=>az
noncomputable def ZS(o:Option Obj):Option Addr:=match o with|some oc=>(match oc.data with|.fields vs=>W2 vs|_=>az)|none=>az
noncomputable def fH(h:Heap)(cd:Value):Option Addr:=match cd with|.ref c=>ZS (h.get? c)|_=>az
noncomputable def Nt(h:Heap)(n:Str):Option Addr:=match h.fnAt mainGlobals n with|some x=>fH h x.2.2.code|none=>az
noncomputable def apB(n m l:Str)(s:Shared):Bool:=match Nt s.heap n with|some p=>(match Nt s.heap m with|some q=>(match Nt s.heap l with|some r=>!(p==q)&&!(p==r)&&!(q==r)|none=>false)|none=>false)|none=>false
def IL(mg:Str->Option Value)(h:Heap)(n:Str)(P:Addr):Prop:=∃a o fd c oc vs,mg n=al (.ref a)/\h.get? a=al o/\o.data=.func fd/\fd.code=.ref c/\h.get? c=al oc/\oc.data=.fields vs/\vs[11]? = al (.ref P)
def Ap(n m l:Str)(mg:Str->Option Value)(h:Heap):Prop:=∃P Q R,IL mg h n P/\IL mg h m Q/\IL mg h l R/\P≠Q/\P≠R/\Q≠R
theorem W1{vs:Array Value}{P:Addr}(e:W2 vs=al P):vs[11]? = al (.ref P):=by
 unfold W2 at e;cases h5:vs[11]? with
 |none=>rw[h5] at e;cases e
 |some v =>
  rw[h5] at e;cases v with
  |ref Q=>cases e;rfl
  |_=>cases e
theorem W4{o:Option Obj}{P:Addr}(e:ZS o=al P):∃oc vs,o=al oc/\oc.data=.fields vs/\vs[11]? = al (.ref P):=by
 cases o with
 |none=>cases e
 |some oc =>
  have e:(match oc.data with|.fields vs=>W2 vs|_=>az)=al P:=e;cases h4:oc.data with
  |fields vs=>rw[h4] at e;exact⟨oc,vs,rfl,h4,W1 e⟩
  |_=>rw[h4] at e;cases e
theorem W3{h:Heap}{cd:Value}{P:Addr}(e:fH h cd=al P):∃c,cd=.ref c/\ZS (h.get? c)=al P:=by
 cases cd with
 |ref c=>exact⟨c,rfl,e⟩
 |_=>cases e
theorem Mg{h:Heap}{n:Str}{P:Addr}(e:Nt h n=al P):IL (h.nsMap mainGlobals) h n P:=by
 unfold Nt at e;cases h1:h.fnAt mainGlobals n with
 |none=>rw[h1] at e;cases e
 |some x =>
  obtain⟨a,o,fd⟩:=x;rw[h1] at e;obtain⟨e1,e2,e3⟩:=Heap.fnAt_spec h1;obtain⟨c,h2,e⟩:=W3 e;obtain⟨oc,vs,h3,h4,h5⟩:=W4 e;exact⟨a,o,fd,c,oc,vs,e1,e2,e3,h2,h3,h4,h5⟩
theorem JH{P Q:Addr}(e:(!(P==Q))=true):P≠Q:=λq=>by subst q;rw[beq_self_eq_true] at e;cases e
theorem dS{n m l:Str}{s:Shared}(e:apB n m l s=true):Ap n m l (s.heap.nsMap mainGlobals) s.heap:=by
 unfold apB at e;cases h1:Nt s.heap n with
 |none=>rw[h1] at e;cases e
 |some P =>
  rw[h1] at e;cases h2:Nt s.heap m with
  |none=>rw[h2] at e;cases e
  |some Q =>
   rw[h2] at e;cases h3:Nt s.heap l with
   |none=>rw[h3] at e;cases e
   |some R =>
    rw[h3] at e;have e:(!(P==Q)&&!(P==R)&&!(Q==R))=true:=e;have e:=AAH.mp e;have f:=AAH.mp e.1;exact⟨P,Q,R,Mg h1,Mg h2,Mg h3,JH f.1,JH f.2,JH e.2⟩
theorem IL.keeps{mg:Str->Option Value}{h h':Heap}{n:Str}{P:Addr}(x:IL mg h n P)(hk:∀b o,h.get? b=al o->h'.get? b=al o):IL mg h' n P:=by obtain⟨a,o,fd,c,oc,vs,e1,e2,e3,e4,e5,r⟩:=x;exact⟨a,o,fd,c,oc,vs,e1,hk _ _ e2,e3,e4,hk _ _ e5,r⟩
noncomputable def nm1:Str:=ACG "ordered"
noncomputable def nm2:Str:=ACG "_law_model"
noncomputable def nm3:Str:=ACG "woven"
def XP12(mg:Str->Option Value)(h:Heap):Prop:=XL view12 [] mg h/\Ap nm1 nm2 nm3 mg h
theorem XP12.keeps(mg:Str->Option Value)(h h':Heap)(x:XP12 mg h)(hk:∀b o,h.get? b=al o->h'.get? b=al o):XP12 mg h':=by obtain⟨P,Q,R,a,b,d,c⟩:=x.2;exact⟨XL.keeps mg h h' x.1 hk,P,Q,R,a.keeps hk,b.keeps hk,d.keeps hk,c⟩
noncomputable def xt12(s:Shared):Bool:=(xlAt view12 [] s&&recOk (RowW.records (OpenRow.toRowW (PySem.Challenge.rw_uf010019_12.row))) s)&&apB nm1 nm2 nm3 s
theorem xt12_of(s:Shared)(e:xt12 s=true):XP12 (s.heap.nsMap mainGlobals) s.heap:=⟨xl_of s (AAH.mp (AAH.mp e).1).1,dS (AAH.mp e).2⟩
noncomputable def aW(l:List String):List Str:=l.map ACG
noncomputable def TU:List Str:=aW ["is_name","is_line","check_leans","check_deed","check","adds_of","ordered","woven","joined","_law_cell","_law_mixed","_law_name","_law_line","_law_leans","_law_marks","_law_deeds","_law_changes","_law_copy","_law_heights","_law_model","_law_stands","_law_woven","_law_ground","_law_closed","_law_some","_law_unsettled","_law_questions","_law_known","_law_known_first","_law_union","_law_more_leans","_law_altered_deed","_law_other_marks","_law_altered","_law_alone","_law_refused","_law_clash","_law_hold","_law_held","_law_joins","_law_wide","law"]
noncomputable def gP:List Str:=aW ["MOST_NAME","MOST_DEEDS","MOST_LINE","NAME_SIGNS"]
noncomputable def iS:List Str:=aW ["WeaveError","BadChange","NotLeaned","Twice","Missing","NoLine","Other","Ring","NoNote","Weave"]
theorem Mw:(recsOf view12).map (·.name)=TU:=by kernel_rfl
theorem Xe:looseW view12 []=[]:=by kernel_rfl
theorem XX:drecsOf view12=[]:=by kernel_rfl
theorem Xu:(litsOf view12).map (·.1)=gP:=by kernel_rfl
theorem Ye:(clssOf view12 (looseW view12 [])).map (·.name)=iS:=by kernel_rfl
section
variable{α β γ:Type}{o:Option α}{f:α->β}{b:β}{s:α}{x y:β}{x' y':γ}
theorem got(h:o.map f=al b)(e:o=al s):f s=b:=by subst e;exact AAA h
theorem iF{F:α->γ}{c:γ}(h:o.map f=al b)(k:∀s,o=al s->F s=c):o.map F=al c:=by
 cases o with
 |none=>cases h
 |some s=>exact congrArg al (k s rfl)
theorem Mp(h:x=y)(h':x'=y'):(x,x')=(y,y'):=by subst h;subst h';rfl
theorem NM{g:α->β}{l:List α}{n:Nat}(h1:(l.take n).map f=(l.take n).map g)(h2:(l.drop n).map f=(l.drop n).map g):l.map f=l.map g:=by rw[<-List.take_append_drop n l,AAQ,AAQ,h1,h2]
theorem OL{p:α->Bool}{l:List α}{n:Nat}(h1:(l.take n).all p=true)(h2:(l.drop n).all p=true):l.all p=true:=by rw[<-List.take_append_drop n l,List.all_append,h1,h2];rfl
end
theorem WH{l:List DefRec}{O:List OwnSpec}{s:Shared}{n:Nat}(h1:(l.take n).map (λd=>s.heap.shapeAt mainGlobals d.name)=(l.take n).map λd=>al d.shape)(h2:(l.drop n).map (λd=>s.heap.shapeAt mainGlobals d.name)=(l.drop n).map λd=>al d.shape)(h3:O.all (λo=>s.heap.ownExcOk o.name o.chain o.bm o.newId&&s.heap.quietOk o.name)=true)(h4:s.heap.isNs mainGlobals=true)(h5:s.heap.isNs builtinsNs=true)(h6:(s.heap.noLimitOk&&s.heap.noDigitsOk)=true):seen (l.map (·.name)) O [] {s with gens:=#[]}=⟨l.map λd=>al d.shape,true,[],true,true,true,0⟩:=by unfold seen;rw[AAE,<-NM h1 h2,h3,h4,h5,h6];rfl
theorem Wz{p:Program}{s:Shared}{nl:List Str}{n:Nat}(hn:(recsOf p).map (·.name)=nl)(h1:(nl.take n).all s.heap.tab0Ok=true)(h2:(nl.drop n).all s.heap.tab0Ok=true)(h3:(s.heap.bmainOk&&valsOk p s.heap&&(!importsNone p||s.heap.noSeerOk))=true):tabsOk p s=true:=by have h:=OL h1 h2;rw[<-hn,List.all_map] at h;unfold tabsOk;rw[show((recsOf p).all λd=>s.heap.tab0Ok d.name)=true from h,Bool.true_and];exact h3
theorem Wu:wdefsOf view12=[]:=by kernel_rfl
theorem Ws:wlitsOf view12=[]:=by kernel_rfl
theorem XY:dclssOf view12 []=[]:=by kernel_rfl
theorem Wv:wclssOf view12 []=[]:=by kernel_rfl
theorem ZF(s:Shared):wideSeen view12 s=wideGood view12:=by unfold wideSeen wideGood;rw[Wu,Ws];rfl
theorem iR(s:Shared):clsSeenW view12 [] s=clsGoodW view12 []:=by unfold clsSeenW clsGoodW;rw[Wv];rfl
theorem fP(s:Shared):plainSeenD view12 [] s=plainGoodD view12 []:=by unfold plainSeenD plainGoodD;rw[XY];rfl
theorem fQ(s:Shared):pinSeenD view12 (drecsOf view12) s=pinGoodD (drecsOf view12):=by rw[XX];rfl
noncomputable abbrev Mq(w:World):Option Shared:=openEnds treeTable PySem.Challenge.rw_uf010019_12.row.toRowW.prog w 5300
theorem Xl:∀w,(Mq w).map (λs=>((recsOf view12).take 24).map λd=>s.heap.shapeAt mainGlobals d.name)=al (((recsOf view12).take 24).map λd=>al d.shape):=by intro w;kernel_rfl
theorem Xk:∀w,(Mq w).map (λs=>(((recsOf view12).drop 24).take 9).map λd=>s.heap.shapeAt mainGlobals d.name)=al ((((recsOf view12).drop 24).take 9).map λd=>al d.shape):=by intro w;kernel_rfl
theorem Xg:∀w,(Mq w).map (λs=>(((recsOf view12).drop 24).drop 9).map λd=>s.heap.shapeAt mainGlobals d.name)=al ((((recsOf view12).drop 24).drop 9).map λd=>al d.shape):=by intro w;kernel_rfl
theorem Xj:∀w,(Mq w).map (λs=>((TU.take 24).all s.heap.tab0Ok,s.heap.bltView))=al ((true,bltViewBooted)):=by intro w;kernel_rfl
theorem Xi:∀w,(Mq w).map (λs=>(((TU.drop 24).take 9).all s.heap.tab0Ok,s.heap.keysOk [] TU gP iS,xt12 s))=al ((true,true,true)):=by intro w;kernel_rfl
theorem Xf:∀w,(Mq w).map (λs=>(((TU.drop 24).drop 9).all s.heap.tab0Ok,s.heap.accountedOkI (importedModules PySem.Challenge.rw_uf010019_12.row.toRowW.prog.main.body)))=al ((true,true)):=by intro w;kernel_rfl
theorem QM:∀w,(Mq w).map (λs=>(s.heap.isNs mainGlobals,s.heap.isNs builtinsNs,tablesOk view12 s.heap,s.gens.size==0,Hook.obs hook12 s))=al ((true,true,true,true,Hook.val hook12 w)):=by intro w;kernel_rfl
theorem Xh:∀w,(Mq w).map (λs=>(plainSeenE view12 [] s,(ownsOf view12).all (λo=>s.heap.ownExcOk o.name o.chain o.bm o.newId&&s.heap.quietOk o.name)&&(s.heap.noLimitOk&&s.heap.noDigitsOk),s.heap.bmainOk&&valsOk view12 s.heap&&(!importsNone view12||s.heap.noSeerOk)))=al ((plainGoodE view12 [],true,true)):=by intro w;kernel_rfl
theorem left12:LeftO PySem.Challenge.rw_uf010019_12.row.toRowW.prog view12 [] xt12 (Hook.obs hook12) (Hook.val hook12) 5300:=λw=>by
 have h:(Mq w).map (λs=>((seen ((recsOf view12).map (·.name)) (ownsOf view12) [] {s with gens:=#[]},s.heap.bltView,s.heap.keysOk (looseW view12 []) ((recsOf view12).map (·.name)) ((litsOf view12).map (·.1)) ((clssOf view12 (looseW view12 [])).map (·.name))&&s.heap.accountedOkI (importedModules PySem.Challenge.rw_uf010019_12.row.toRowW.prog.main.body)&&s.heap.isNs mainGlobals&&s.heap.isNs builtinsNs&&tablesOk view12 s.heap&&xt12 s&&(s.gens.size==0),tabsOk view12 s,pinSeenD view12 (drecsOf view12) s,plainSeenE view12 (looseW view12 []) s,(plainSeenD view12 [] s,wideSeen view12 s,clsSeenW view12 [] s)),Hook.obs hook12 s))=al ((expectedOf view12,bltViewBooted,true,true,pinGoodD (drecsOf view12),plainGoodE view12 (looseW view12 []),(plainGoodD view12 [],wideGood view12,clsGoodW view12 [])),Hook.val hook12 w):=iF (QM w) λs e=>by have a:=got (Xl w) e;have b:=got (Xk w) e;have g:=got (Xg w) e;have c:=got (Xj w) e;have c:=ABK c;have d:=got (Xi w) e;have d:=ABK d;have d2:=ABK d.2;have h:=got (Xf w) e;have h:=ABK h;have k:=got (QM w) e;have k:=ABK k;have k2:=ABK k.2;have k3:=ABK k2.2;have k4:=ABK k3.2;have f:=got (Xh w) e;have f:=ABK f;have f2:=ABK f.2;have o:=AAH.mp f2.1;rw[Ye,Xe,Mw,Xu];exact Mp (Mp (Mw▸WH a (NM b g) o.1 k.1 k2.1 o.2) (Mp c.2 (Mp (by rw[d2.1,h.2,k.1,k2.1,k3.1,d2.2,k4.1];rfl) (Mp (Wz Mw c.1 (OL d.1 h.1) f2.2) (Mp (fQ s) (Mp f.1 (Mp (fP s) (Mp (ZF s) (iR s))))))))) k4.2
 exact h
theorem said12:PySem.Challenge.rw_uf010019_12.wellSaid=true:=by kernel_rfl
end Mine.Internal
namespace Mine.Internal
set_option tactic.hygienic true
set_option genInjectivity true
set_option backward.match.sparseCases true
section
variable{a b c d x y k:Nat}
theorem II(h:a<=b)(e:Nat.ble b c=true):a<=c:=AAC h (ACH e)
theorem jY(h:a<=b)(e:Nat.ble (b+1) c=true):a<c:=AAS h (ACH e)
theorem VR(h:a<b)(e:Nat.ble b c=true):a<c:=ACE h (ACH e)
theorem OF(h:a<b)(e:Nat.ble b (c+1)=true):a<=c:=ACF (ACE h (ACH e))
theorem Zt(h:a<=b)(h':b<=c)(e:Nat.ble (c+1) d=true):a<d:=jY (AAC h h') e
theorem RB(h:a=b)(h':b<=c)(e:Nat.ble c d=true):a<=d:=II (h▸h') e
theorem LW(h:a<b)(h':c=b):a<c:=h'▸h
theorem FM(h:c=p+(q+1))(h':c<=b):p<b:=ACE (by rw[h,<-ADK];exact Nat.lt_succ_of_le (AA9 p q)) h'
theorem R7(h:c=p+(q+1))(h':c<=b)(e:Nat.ble b d=true):p<=d:=II (ACJ (FM h h')) e
theorem jN(h:c=p+(q+1))(h':c<b):p<b:=ABT (FM h (AAL c)) h'
theorem LU(h:c=p+(q+1))(h1:x<=p)(h':c<=b)(e:Nat.ble b d=true):x<=d:=II (AAC h1 (ACJ (FM h h'))) e
theorem Zm(h:c=p+(q+1))(h1:x<=p)(h':c<=b)(e:Nat.ble b d=true):x<d:=VR (AAS h1 (FM h h')) e
theorem jM(h:b=p+(q+1)):p<=b:=ACJ (FM h (AAL b))
theorem jL(h:a+x=0):a=0:=(Nat.add_eq_zero_iff.mp h).1
theorem jK(h:a+1+b=c+1):a+b=c:=by rw[Nat.add_right_comm] at h;exact Nat.succ.inj h
theorem RC(h:a<=b)(h':c<=d)(e:Nat.ble (b+d) x=true):a+c<=x:=II (Nat.add_le_add h h') e
theorem Zw(h:a<=b)(h':c<d)(e:Nat.ble (b+d) (x+1)=true):a+c<=x:=OF (Nat.add_lt_add_of_le_of_lt h h') e
theorem K9(h:a<=b)(e:Nat.ble (k*b) x=true):k*a<=x:=II (ADG k h) e
theorem Zv(h:a<b)(e:Nat.ble (k*b) x=true):k*a<=x:=K9 (ACJ h) e
theorem VS(h:a<=b):c+a<=c+b:=AC7 h c
theorem kD(h:a<=k*b+c)(h':c<=k):a<=k*(b+1):=AAC h (AC7 h' _)
theorem Zu(h:a<=k*b)(hb:b<c)(h1:d<=y)(h2:y<=x)(e:Nat.ble (k*c+x) n=true):a+d<=n:=RC (AAC h (ADG k (ACJ hb))) (AAC h1 h2) e
theorem kC(h:a<=k*b+c)(h1:b<=x)(h2:c<=y)(e:Nat.ble (k*x+y) n=true):a<=n:=II (AAC h (Nat.add_le_add (ADG k h1) h2)) e
theorem kB(h:a<=b):k*a+c<=k*b+c:=ADF (ADG k h) c
theorem jZ(h:x<=k*a+c)(h':a<=b):x<=k*b+c:=AAC h (kB h')
theorem Z2(h:a<b)(e:a=b){P:Prop}:P:=absurd e (ACX h)
theorem Zo(h:a-b=k+1):a-(b+1)=k:=by rw[Nat.sub_succ,h];rfl
theorem Zn(h:a-b=0):a<=b:=Nat.le_of_sub_eq_zero h
theorem jT(h:a=b+(c+d)):min b a=b:=ACP (by rw[h];exact AA9 b _)
theorem jS(h:a=b+(c+d)):min c (a-b)=c:=ACP (by rw[h,Nat.add_sub_cancel_left];exact AA9 c d)
theorem jR(h:¬ a<b)(h':b=c)(h2:d=c):min b d<=a:=AAC (Nat.min_le_left b d) (ACM h)
theorem jQ(h:¬ a<b):min b x<=a:=AAC (Nat.min_le_left b x) (ACM h)
theorem jP(h:a=b):min a x<=b:=h▸Nat.min_le_left a x
theorem jO(h:a=b)(h1:b=c)(h2:x=c):min a y<=x:=by rw[h,h1,<-h2];exact Nat.min_le_left ..
theorem VT(h:a<b)(h1:b=c)(h2:d=c):a<d:=h2▸h1▸h
theorem OG(h:a<b)(h1:b=c):a<c:=h1▸h
theorem kF(h:a=b)(h1:b=c):c<=a:=Nat.le_of_eq (h.trans h1).symm
end
section
variable{i j k l x y:Int}{n p q c:Nat}
theorem AAG:type_of% @of_decide_eq_true:=@of_decide_eq_true
theorem OI(h:i<=j)(e:decide (j<=k)=true):i<=k:=Int.le_trans h (AAG e)
theorem IJ(h:i<j)(e:decide (j<=k)=true):i<k:=ADU h (AAG e)
theorem VU(h:i<j)(e:decide (j<=k+1)=true):i<=k:=Int.le_of_lt_add_one (ADU h (AAG e))
theorem OH(h:j<=i)(e:decide (k<=j)=true):k<=i:=Int.le_trans (AAG e) h
theorem Z1(h:j<=i)(e:decide (k<j)=true):k<i:=ADU (AAG e) h
theorem Z0(h:j<i)(e:decide (k<=j)=true):k<i:=Int.lt_of_le_of_lt (AAG e) h
theorem Zz(h:0<=i):¬ i<0:=Int.not_lt.mpr h
theorem Zy(h:0<=i)(h1:i<j)(e:decide (j<=9223372036854775808)=true):-9223372036854775808<i/\i<9223372036854775808:=⟨Z1 h (by decide),IJ h1 e⟩
theorem Zx(h:j<=x)(e:decide (l<k+j)=true):l<k+x:=Z1 (Int.add_le_add_left h k) e
theorem kG(h:0<=x)(e:decide (0<k)=true):k+x≠0:=λq=>by have:=Zx (l:=0) (j:=0) (k:=k) h (by rw[Int.add_zero];exact e);rw[q] at this;exact absurd this (by decide)
theorem LS(h0:0<=i)(h:i<(n:Int)):i.toNat<n:=by omega
theorem OC(h:i<=j)(e:Nat.ble j.toNat n=true):i.toNat<=n:=AAC (Int.toNat_le_toNat h) (ACH e)
theorem Zl(h:n<i.toNat):(n:Int)<i:=by omega
theorem Zk(h0:0<=i)(h:i.toNat<n):i<(n:Int):=by omega
theorem jJ(h0:0<=i)(h:¬ i<(n:Int)):n<=i.toNat:=by omega
theorem VM(h:i<(n:Int))(h':n<=c)(e:Nat.ble c 9000000=true):i<9223372036854775808:=by have:=ACH e;omega
theorem Zj(h:i.toNat=p+(q+1))(h1:i<=j)(e:Nat.ble j.toNat c=true):p<c:=FM h (OC h1 e)
theorem IK(h:c<=n):¬ (n:Int)<(c:Int):=by omega
theorem RD(h:0<n):(n:Int)≠0:=by omega
theorem ZA:(n:Int)+1≠0:=by omega
theorem Z9:(0:Int)<(n:Int)+1:=by omega
theorem Z8(h:¬ (n:Int)>1):¬ 1<n:=by omega
theorem Z7(h:¬ (n:Int)<4):(0:Int)<n:=by omega
theorem kL(h:i<((p+1:Nat):Int)+(q:Int)):i<(p:Int)+((q+1:Nat):Int):=by omega
theorem kK(h:i<(p:Int)+((q+1:Nat):Int)):i<((p+1:Nat):Int)+(q:Int):=by omega
theorem kJ(h:i<((p+1:Nat):Int))(e:¬ i=(p:Int)):i<(p:Int):=by omega
theorem kI(h:(p:Int)<=i)(e:¬ i=(p:Int)):((p+1:Nat):Int)<=i:=by omega
theorem kH:(p:Int)<(p:Int)+((q+1:Nat):Int):=by omega
theorem Z6(h:i<j)(h':j<i){P:Prop}:P:=absurd h (Int.lt_asymm h')
theorem Z5(h:i<j)(h':j=i){P:Prop}:P:=absurd h' (Int.ne_of_gt h)
theorem Z4(h:i+1<=j):i<j:=h
theorem Z3(h:¬ i<j)(h':¬ j<i):i=j:=Int.le_antisymm (Int.not_lt.mp h') (Int.not_lt.mp h)
end
section
variable{a b c i j k l m n x:Nat}{P:Prop}
theorem OE(h:i<j):j-1<j:=Nat.sub_lt (AAS (ABF i) h) Nat.one_pos
theorem VQ(h:i+1<=j):j-1<j:=OE h
theorem RA(h:i<j)(h':j<k+1):j-1<k:=ACE (OE h) (ACF h')
theorem R9(h:i<j):i<=j-1:=Nat.le_sub_one_of_lt h
theorem VP(h:x<n)(h':n<=s):x-1<s:=AAS (Nat.sub_le x 1) (ACE h h')
theorem Zs:x-(n+1)<=x-1:=Nat.sub_le_sub_left (ACK 1 n) x
theorem Zr(h:i<x-(n+1)):i<x-1:=ACE h Zs
theorem VO(h:i<x+1-(n+1+1)):i<x-(n+1):=by rw[Nat.add_sub_add_right] at h;exact h
theorem jX(h:i<x+1-(n+1+1)):i<x-1:=Zr (VO h)
theorem jW(h:x+1-(n+1+1)<=i):x-(n+1)<=i:=by rw[Nat.add_sub_add_right] at h;exact h
theorem jV(h:i<j)(h':j<x):i<x-(0+1):=ACE h (R9 h')
theorem jU(h:x+1-(0+1)<=i)(h':i<x+1):i=x:=ADO (ACF h') h
theorem OD(h:i<x):b<=b+x-1-i:=by omega
theorem LV(h:b<=i)(h':i<x):b+x-1-i<x:=by omega
theorem VN(h:i<j)(h':j<x):b+x-1-j<b+x-1-i:=by omega
theorem Zq(h:i<x):0+x-1-i<x:=LV (ABF i) h
theorem Zp(h:i<x)(h1:x<=m)(h2:m<=s):0+x-1-i<s:=ACE (Zq h) (AAC h1 h2)
theorem R8(h:b<=i)(h1:i<j)(h':j<x):b+x-1-i<x:=LV h (ABT h1 h')
theorem VL(h:j<m)(h':j<0\/m<=j):P:=h'.elim (λq=>absurd q (Nat.not_lt_zero j)) λq=>absurd h (AB5.mpr q)
theorem Zi(h:i<j)(h1:j<m)(h':i<0\/m<=i):P:=VL (ABT h h1) h'
theorem Zh(h:i<j)(h':j<1):P:=absurd (ACE h (ACF h')) (Nat.not_lt_zero i)
theorem R6(h:m<=i)(h':i<m):P:=absurd h' (AB5.mpr h)
theorem VK(h:k+1<=i)(h':i<=k):P:=absurd h (Nat.not_le.mpr (Nat.lt_succ_of_le h'))
theorem Zg(h:l<=k)(h1:j<k+1)(h':j<l\/k<j):j<k:=h'.elim (λq=>ACE q h) λq=>VK q (ACF h1)
theorem jI(h:i<j)(h0:j<x)(h1:b<=i)(h':j<b\/x<=j):P:=h'.elim (λq=>absurd (AAS h1 h) (Nat.lt_asymm q)) λq=>R6 q h0
theorem VJ(h:i<j)(h0:j<x)(h':i<b\/x<=i):i<b:=h'.elim id λq=>R6 q (ABT h h0)
theorem jH(h:¬ (b<=x/\x<m)):x<b\/m<=x:=(Nat.lt_or_ge x b).imp id λq=>ACM λq'=>h ⟨q,q'⟩
theorem jG(h:i<j)(h0:j<x)(h':i<b\/x<=i):i<b+x-1-j:=ACE (VJ h h0 h') (OD h0)
theorem R5(h:i<n+1)(e:¬ i=n):i<n:=Nat.lt_of_le_of_ne (ACF h) e
theorem R4(h:i<=j)(e:¬ i=j):i<j:=Nat.lt_of_le_of_ne h e
theorem VI(h:a<=b)(h':b<=c):a<=c:=AAC h h'
theorem Zf(h:n+1<=m):1<=m:=AAC (ABS (ABF n)) h
theorem Ze(h:1<=b)(h':b<=c):0<c:=AAC h h'
theorem Zd(h:a<=b)(e:¬ a=b)(h':b<=c):a<c:=ACE (R4 h e) h'
theorem Zc(h:¬ n>0):n=0:=Nat.eq_zero_of_not_pos h
theorem Zb(h:k<n):min (k+1) n=k+1:=ACP h
theorem Za(h:a<=n):max a n=n:=Nat.max_eq_right h
theorem YW(h:¬ l≥r):(l+r) / 2<r:=by omega
theorem VH(h:¬ l≥r)(h':r<=k):(l+r) / 2<k:=ACE (YW h) h'
theorem jC(h:a<=b)(h':c<=b):max a (max c 0)+1<=b+1:=ABS (Nat.max_le.mpr ⟨h,Nat.max_le.mpr ⟨h',ABF b⟩⟩)
theorem jB(h:a<=c)(h1:b<=a+3)(h2:c<=d):b<=d+3:=AAC h1 (ADF (AAC h h2) 3)
theorem jA(h:a+2*b<=c)(h':d<=l):d+a+2*(b+1)<=c+1*(l+2):=by omega
theorem iZ(h:a+1+b=m+1)(h':b=c+d):a+c+d=m:=by omega
theorem iY(h:m+1<=x)(h1:a+1+b=m+1)(h':b=c+d)(e:Nat.ble x y=true):a+c<=y:=by have:=ACH e;omega
end
section
variable{i j k l x f:Int}{n p q c:Nat}{P:Prop}
theorem jF(h:0<=i)(h1:i.toNat<n)(e:Nat.ble n 9223372036854775808=true):-9223372036854775808<=i/\i<9223372036854775808:=by have:=ACH e;omega
theorem YZ(h:0<=f/\f<j)(e:decide (k*(l+(j-1))<=x)=true)(e':decide (0<=k)=true):k*(l+f)<=x:=Int.le_trans (Int.mul_le_mul_of_nonneg_left (by omega) (AAG e')) (AAG e)
theorem AAI:type_of% @decide_eq_true:=@decide_eq_true
theorem YY(h:0<=f/\f<j)(e:Nat.ble (k*(l+(j-1))).toNat n=true)(e':decide (0<=k)=true):(k*(l+f)).toNat<=n:=AAC (Int.toNat_le_toNat (YZ (x:=k*(l+(j-1))) h (AAI (Int.le_refl _)) e')) (ACH e)
theorem jE(h:n-1<n):(0:Int) <= -1+(n:Int):=by omega
theorem jD(h:n-1<n):(-1+(n:Int)).toNat=n-1:=by omega
theorem YX(h:1<=n/\n<=c/\P):(0:Int)<n:=Int.natCast_pos.mpr h.1
end
section
variable{R:Prop}{t0 t1 t2 t3 t4 t5 t6 t7 t8 t9 t10 t11:Type}{A0 B0 C0 D0 E0 F0:Prop}{A1 B1 C1 D1 E1 F1:t0->Prop}{A2 B2 C2 D2 E2 F2:t0->t1->Prop}{A3 B3 C3 D3 E3 F3:t0->t1->t2->Prop}{A4 B4 C4 D4 E4 F4:t0->t1->t2->t3->Prop}{A5 B5 C5 D5 E5:t0->t1->t2->t3->t4->Prop}{A6 B6:t0->t1->t2->t3->t4->t5->Prop}{A7 B7 C7 D7 E7:t0->t1->t2->t3->t4->t5->t6->Prop}{A12:t0->t1->t2->t3->t4->t5->t6->t7->t8->t9->t10->t11->Prop}
theorem oA(h:A0/\B0)(k:A0->B0->R):R:=k h.1 h.2
theorem oAA(h:A0/\B0/\C0)(k:A0->B0->C0->R):R:=k h.1 h.2.1 h.2.2
theorem JB(h:A0/\B0/\C0/\D0)(k:A0->B0->C0->D0->R):R:=k h.1 h.2.1 h.2.2.1 h.2.2.2
theorem bR(h:A0/\B0/\C0/\∃a,A1 a/\B1 a)(k:A0->B0->C0->∀a,A1 a->B1 a->R):R:=h.2.2.2.elim λa u=>k h.1 h.2.1 h.2.2.1 a u.1 u.2
theorem WT(h:A0/\B0/\∃a b,A2 a b/\B2 a b/\C2 a b)(k:A0->B0->∀a b,A2 a b->B2 a b->C2 a b->R):R:=h.2.2.elim λa u=>u.elim λb u=>k h.1 h.2.1 a b u.1 u.2.1 u.2.2
theorem WS(h:A0/\∃a,A1 a/\B1 a)(k:A0->∀a,A1 a->B1 a->R):R:=h.2.elim λa u=>k h.1 a u.1 u.2
theorem FW(h:A0/\∃a b,A2 a b/\B2 a b/\C2 a b/\D2 a b)(k:A0->∀a b,A2 a b->B2 a b->C2 a b->D2 a b->R):R:=h.2.elim λa u=>u.elim λb u=>k h.1 a b u.1 u.2.1 u.2.2.1 u.2.2.2
theorem Lx(h:A0/\∃a b,A2 a b/\B2 a b/\C2 a b/\D2 a b/\E2 a b/\F2 a b)(k:A0->∀a b,A2 a b->B2 a b->C2 a b->D2 a b->E2 a b->F2 a b->R):R:=h.2.elim λa u=>u.elim λb u=>k h.1 a b u.1 u.2.1 u.2.2.1 u.2.2.2.1 u.2.2.2.2.1 u.2.2.2.2.2
theorem QE(h:A0/\∃a b c d,A4 a b c d/\B4 a b c d)(k:A0->∀a b c d,A4 a b c d->B4 a b c d->R):R:=h.2.elim λa u=>u.elim λb u=>u.elim λc u=>u.elim λd u=>k h.1 a b c d u.1 u.2
theorem Hh(h:A0/\∃a b c d,A4 a b c d/\B4 a b c d/\C4 a b c d)(k:A0->∀a b c d,A4 a b c d->B4 a b c d->C4 a b c d->R):R:=h.2.elim λa u=>u.elim λb u=>u.elim λc u=>u.elim λd u=>k h.1 a b c d u.1 u.2.1 u.2.2
theorem Si(h:A0/\∃a b c d,A4 a b c d/\B4 a b c d/\C4 a b c d/\D4 a b c d)(k:A0->∀a b c d,A4 a b c d->B4 a b c d->C4 a b c d->D4 a b c d->R):R:=h.2.elim λa u=>u.elim λb u=>u.elim λc u=>u.elim λd u=>k h.1 a b c d u.1 u.2.1 u.2.2.1 u.2.2.2
theorem oE(h:∃a,A1 a)(k:∀a,A1 a->R):R:=h.elim λa h=>k a h
theorem oEA(h:∃a,A1 a/\B1 a)(k:∀a,A1 a->B1 a->R):R:=h.elim λa h=>k a h.1 h.2
theorem AS(h:∃a,A1 a/\B1 a/\C1 a)(k:∀a,A1 a->B1 a->C1 a->R):R:=h.elim λa h=>k a h.1 h.2.1 h.2.2
theorem Lw(h:∃a,A1 a/\B1 a/\C1 a/\D1 a)(k:∀a,A1 a->B1 a->C1 a->D1 a->R):R:=h.elim λa h=>k a h.1 h.2.1 h.2.2.1 h.2.2.2
theorem Mt(h:∃a,A1 a/\B1 a/\C1 a/\D1 a/\E1 a)(k:∀a,A1 a->B1 a->C1 a->D1 a->E1 a->R):R:=h.elim λa h=>k a h.1 h.2.1 h.2.2.1 h.2.2.2.1 h.2.2.2.2
theorem Ms(h:∃a,A1 a/\B1 a/\C1 a/\D1 a/\E1 a/\F1 a)(k:∀a,A1 a->B1 a->C1 a->D1 a->E1 a->F1 a->R):R:=h.elim λa h=>k a h.1 h.2.1 h.2.2.1 h.2.2.2.1 h.2.2.2.2.1 h.2.2.2.2.2
theorem IB(h:∃a,A1 a/\B1 a/\∃b,A2 a b)(k:∀a,A1 a->B1 a->∀b,A2 a b->R):R:=h.elim λa h=>h.2.2.elim λb u=>k a h.1 h.2.1 b u
theorem mO(h:∃a,A1 a/\∃b,A2 a b)(k:∀a,A1 a->∀b,A2 a b->R):R:=h.elim λa h=>h.2.elim λb u=>k a h.1 b u
theorem gE(h:∃a,A1 a/\∃b,A2 a b/\B2 a b)(k:∀a,A1 a->∀b,A2 a b->B2 a b->R):R:=h.elim λa h=>h.2.elim λb u=>k a h.1 b u.1 u.2
theorem KU(h:∃a,A1 a/\∃b c d e f g,A7 a b c d e f g/\B7 a b c d e f g/\C7 a b c d e f g/\D7 a b c d e f g/\E7 a b c d e f g)(k:∀a,A1 a->∀b c d e f g,A7 a b c d e f g->B7 a b c d e f g->C7 a b c d e f g->D7 a b c d e f g->E7 a b c d e f g->R):R:=h.elim λa h=>h.2.elim λb u=>u.elim λc u=>u.elim λd u=>u.elim λe u=>u.elim λf u=>u.elim λg u=>k a h.1 b c d e f g u.1 u.2.1 u.2.2.1 u.2.2.2.1 u.2.2.2.2
theorem oEE(h:∃a b,A2 a b)(k:∀a b,A2 a b->R):R:=h.elim λa h=>h.elim λb h=>k a b h
theorem Bb(h:∃a b,A2 a b/\B2 a b)(k:∀a b,A2 a b->B2 a b->R):R:=h.elim λa h=>h.elim λb h=>k a b h.1 h.2
theorem Br(h:∃a b,A2 a b/\B2 a b/\C2 a b)(k:∀a b,A2 a b->B2 a b->C2 a b->R):R:=h.elim λa h=>h.elim λb h=>k a b h.1 h.2.1 h.2.2
theorem G9(h:∃a b,A2 a b/\B2 a b/\C2 a b/\D2 a b)(k:∀a b,A2 a b->B2 a b->C2 a b->D2 a b->R):R:=h.elim λa h=>h.elim λb h=>k a b h.1 h.2.1 h.2.2.1 h.2.2.2
theorem Mr(h:∃a b,A2 a b/\B2 a b/\C2 a b/\D2 a b/\E2 a b)(k:∀a b,A2 a b->B2 a b->C2 a b->D2 a b->E2 a b->R):R:=h.elim λa h=>h.elim λb h=>k a b h.1 h.2.1 h.2.2.1 h.2.2.2.1 h.2.2.2.2
theorem TQ(h:∃a b,A2 a b/\B2 a b/\C2 a b/\D2 a b/\E2 a b/\F2 a b)(k:∀a b,A2 a b->B2 a b->C2 a b->D2 a b->E2 a b->F2 a b->R):R:=h.elim λa h=>h.elim λb h=>k a b h.1 h.2.1 h.2.2.1 h.2.2.2.1 h.2.2.2.2.1 h.2.2.2.2.2
theorem KT(h:∃a b,A2 a b/\B2 a b/\C2 a b/\∃c d,A4 a b c d/\B4 a b c d/\C4 a b c d/\D4 a b c d/\E4 a b c d/\F4 a b c d)(k:∀a b,A2 a b->B2 a b->C2 a b->∀c d,A4 a b c d->B4 a b c d->C4 a b c d->D4 a b c d->E4 a b c d->F4 a b c d->R):R:=h.elim λa h=>h.elim λb h=>h.2.2.2.elim λc u=>u.elim λd u=>k a b h.1 h.2.1 h.2.2.1 c d u.1 u.2.1 u.2.2.1 u.2.2.2.1 u.2.2.2.2.1 u.2.2.2.2.2
theorem NE(h:∃a b c,A3 a b c)(k:∀a b c,A3 a b c->R):R:=h.elim λa h=>h.elim λb h=>h.elim λc h=>k a b c h
theorem Cy(h:∃a b c,A3 a b c/\B3 a b c)(k:∀a b c,A3 a b c->B3 a b c->R):R:=h.elim λa h=>h.elim λb h=>h.elim λc h=>k a b c h.1 h.2
theorem CY(h:∃a b c,A3 a b c/\B3 a b c/\C3 a b c)(k:∀a b c,A3 a b c->B3 a b c->C3 a b c->R):R:=h.elim λa h=>h.elim λb h=>h.elim λc h=>k a b c h.1 h.2.1 h.2.2
theorem WR(h:∃a b c,A3 a b c/\B3 a b c/\C3 a b c/\D3 a b c)(k:∀a b c,A3 a b c->B3 a b c->C3 a b c->D3 a b c->R):R:=h.elim λa h=>h.elim λb h=>h.elim λc h=>k a b c h.1 h.2.1 h.2.2.1 h.2.2.2
theorem Ep(h:∃a b c,A3 a b c/\B3 a b c/\C3 a b c/\D3 a b c/\E3 a b c/\F3 a b c)(k:∀a b c,A3 a b c->B3 a b c->C3 a b c->D3 a b c->E3 a b c->F3 a b c->R):R:=h.elim λa h=>h.elim λb h=>h.elim λc h=>k a b c h.1 h.2.1 h.2.2.1 h.2.2.2.1 h.2.2.2.2.1 h.2.2.2.2.2
theorem Ec(h:∃a b c d,A4 a b c d/\B4 a b c d/\C4 a b c d)(k:∀a b c d,A4 a b c d->B4 a b c d->C4 a b c d->R):R:=h.elim λa h=>h.elim λb h=>h.elim λc h=>h.elim λd h=>k a b c d h.1 h.2.1 h.2.2
theorem Fz(h:∃a b c d,A4 a b c d/\B4 a b c d/\C4 a b c d/\D4 a b c d)(k:∀a b c d,A4 a b c d->B4 a b c d->C4 a b c d->D4 a b c d->R):R:=h.elim λa h=>h.elim λb h=>h.elim λc h=>h.elim λd h=>k a b c d h.1 h.2.1 h.2.2.1 h.2.2.2
theorem Lv(h:∃a b c d e,A5 a b c d e/\B5 a b c d e/\C5 a b c d e/\D5 a b c d e)(k:∀a b c d e,A5 a b c d e->B5 a b c d e->C5 a b c d e->D5 a b c d e->R):R:=h.elim λa h=>h.elim λb h=>h.elim λc h=>h.elim λd h=>h.elim λe h=>k a b c d e h.1 h.2.1 h.2.2.1 h.2.2.2
theorem Pw(h:∃a b c d e,A5 a b c d e/\B5 a b c d e/\C5 a b c d e/\D5 a b c d e/\E5 a b c d e)(k:∀a b c d e,A5 a b c d e->B5 a b c d e->C5 a b c d e->D5 a b c d e->E5 a b c d e->R):R:=h.elim λa h=>h.elim λb h=>h.elim λc h=>h.elim λd h=>h.elim λe h=>k a b c d e h.1 h.2.1 h.2.2.1 h.2.2.2.1 h.2.2.2.2
theorem ND(h:∃a b c d e f,A6 a b c d e f/\B6 a b c d e f)(k:∀a b c d e f,A6 a b c d e f->B6 a b c d e f->R):R:=h.elim λa h=>h.elim λb h=>h.elim λc h=>h.elim λd h=>h.elim λe h=>h.elim λf h=>k a b c d e f h.1 h.2
theorem Gu(h:∃a b c d e f g i j l m n,A12 a b c d e f g i j l m n)(k:∀a b c d e f g i j l m n,A12 a b c d e f g i j l m n->R):R:=h.elim λa h=>h.elim λb h=>h.elim λc h=>h.elim λd h=>h.elim λe h=>h.elim λf h=>h.elim λg h=>h.elim λi h=>h.elim λj h=>h.elim λl h=>h.elim λm h=>h.elim λn h=>k a b c d e f g i j l m n h
end
section
variable{t0 t1 t2 t3 t4 t5 t6:Type}{A0 B0:Prop}{A1 B1 C1 D1 E1:t0->Prop}{A2 B2 C2 D2 E2 F2:t0->t1->Prop}{A3 B3 C3:t0->t1->t2->Prop}{A4 B4 C4 D4:t0->t1->t2->t3->Prop}{A5:t0->t1->t2->t3->t4->Prop}{A7:t0->t1->t2->t3->t4->t5->t6->Prop}
theorem gZ(h0:A0)(h1:B0)(a:t0)(h2:A1 a):A0/\B0/\∃a,A1 a:=⟨h0,h1,a,h2⟩
theorem gY(h0:A0)(h1:B0)(a:t0)(h2:A1 a)(h3:B1 a):A0/\B0/\∃a,A1 a/\B1 a:=⟨h0,h1,a,h2,h3⟩
theorem iAE(h0:A0)(a:t0)(h1:A1 a):A0/\∃a,A1 a:=⟨h0,a,h1⟩
theorem cR(h0:A0)(a:t0)(h1:A1 a)(h2:B1 a):A0/\∃a,A1 a/\B1 a:=⟨h0,a,h1,h2⟩
theorem cQ(h0:A0)(a:t0)(h1:A1 a)(h2:B1 a)(h3:C1 a)(h4:D1 a):A0/\∃a,A1 a/\B1 a/\C1 a/\D1 a:=⟨h0,a,h1,h2,h3,h4⟩
theorem PF(h0:A0)(a:t0)(b:t1)(h1:A2 a b)(h2:B2 a b)(h3:C2 a b):A0/\∃a b,A2 a b/\B2 a b/\C2 a b:=⟨h0,a,b,h1,h2,h3⟩
theorem Ja(h0:A0)(a:t0)(b:t1)(h1:A2 a b)(h2:B2 a b)(h3:C2 a b)(h4:D2 a b):A0/\∃a b,A2 a b/\B2 a b/\C2 a b/\D2 a b:=⟨h0,a,b,h1,h2,h3,h4⟩
theorem Gb(h0:A0)(a:t0)(b:t1)(h1:A2 a b)(h2:B2 a b)(h3:C2 a b)(h4:D2 a b)(h5:E2 a b)(h6:F2 a b):A0/\∃a b,A2 a b/\B2 a b/\C2 a b/\D2 a b/\E2 a b/\F2 a b:=⟨h0,a,b,h1,h2,h3,h4,h5,h6⟩
theorem JW(h0:A0)(a:t0)(b:t1)(c:t2)(d:t3)(h1:A4 a b c d)(h2:B4 a b c d)(h3:C4 a b c d):A0/\∃a b c d,A4 a b c d/\B4 a b c d/\C4 a b c d:=⟨h0,a,b,c,d,h1,h2,h3⟩
theorem iEA(a:t0)(h0:A1 a)(h1:B1 a):∃a,A1 a/\B1 a:=⟨a,h0,h1⟩
theorem Az(a:t0)(h0:A1 a)(h1:B1 a)(h2:C1 a):∃a,A1 a/\B1 a/\C1 a:=⟨a,h0,h1,h2⟩
theorem Hv(a:t0)(h0:A1 a)(h1:B1 a)(h2:C1 a)(h3:D1 a):∃a,A1 a/\B1 a/\C1 a/\D1 a:=⟨a,h0,h1,h2,h3⟩
theorem MD(a:t0)(h0:A1 a)(h1:B1 a)(h2:C1 a)(h3:D1 a)(h4:E1 a):∃a,A1 a/\B1 a/\C1 a/\D1 a/\E1 a:=⟨a,h0,h1,h2,h3,h4⟩
theorem UM(a:t0)(h0:A1 a)(h1:B1 a)(b:t1)(h2:A2 a b):∃a,A1 a/\B1 a/\∃b,A2 a b:=⟨a,h0,h1,b,h2⟩
theorem BS(a:t0)(h0:A1 a)(b:t1)(h1:A2 a b)(h2:B2 a b)(h3:C2 a b):∃a,A1 a/\∃b,A2 a b/\B2 a b/\C2 a b:=⟨a,h0,b,h1,h2,h3⟩
theorem iEE(a:t0)(b:t1)(h0:A2 a b):∃a b,A2 a b:=⟨a,b,h0⟩
theorem DN(a:t0)(b:t1)(h0:A2 a b)(h1:B2 a b):∃a b,A2 a b/\B2 a b:=⟨a,b,h0,h1⟩
theorem Gw(a:t0)(b:t1)(h0:A2 a b)(h1:B2 a b)(h2:C2 a b):∃a b,A2 a b/\B2 a b/\C2 a b:=⟨a,b,h0,h1,h2⟩
theorem PE(a:t0)(b:t1)(h0:A2 a b)(h1:B2 a b)(h2:C2 a b)(h3:D2 a b):∃a b,A2 a b/\B2 a b/\C2 a b/\D2 a b:=⟨a,b,h0,h1,h2,h3⟩
theorem FH(a:t0)(b:t1)(c:t2)(h0:A3 a b c):∃a b c,A3 a b c:=⟨a,b,c,h0⟩
theorem Og(a:t0)(b:t1)(c:t2)(h0:A3 a b c)(h1:B3 a b c):∃a b c,A3 a b c/\B3 a b c:=⟨a,b,c,h0,h1⟩
theorem EK(a:t0)(b:t1)(c:t2)(h0:A3 a b c)(h1:B3 a b c)(h2:C3 a b c):∃a b c,A3 a b c/\B3 a b c/\C3 a b c:=⟨a,b,c,h0,h1,h2⟩
theorem L8(a:t0)(b:t1)(c:t2)(d:t3)(h0:A4 a b c d):∃a b c d,A4 a b c d:=⟨a,b,c,d,h0⟩
theorem EJ(a:t0)(b:t1)(c:t2)(d:t3)(h0:A4 a b c d)(h1:B4 a b c d)(h2:C4 a b c d):∃a b c d,A4 a b c d/\B4 a b c d/\C4 a b c d:=⟨a,b,c,d,h0,h1,h2⟩
theorem Ex(a:t0)(b:t1)(c:t2)(d:t3)(h0:A4 a b c d)(h1:B4 a b c d)(h2:C4 a b c d)(h3:D4 a b c d):∃a b c d,A4 a b c d/\B4 a b c d/\C4 a b c d/\D4 a b c d:=⟨a,b,c,d,h0,h1,h2,h3⟩
theorem MC(a:t0)(b:t1)(c:t2)(d:t3)(e:t4)(h0:A5 a b c d e):∃a b c d e,A5 a b c d e:=⟨a,b,c,d,e,h0⟩
theorem Hu(a:t0)(b:t1)(c:t2)(d:t3)(e:t4)(f:t5)(g:t6)(h0:A7 a b c d e f g):∃a b c d e f g,A7 a b c d e f g:=⟨a,b,c,d,e,f,g,h0⟩
end
open PySem
theorem Ks(h:Q false s):wpAny (model prog w) A (eqBool (.str a t) (.int b u)) Q E s:=by unfold eqBool;refine AA8 ?_;rw[if_neg (show ¬ ((Value.str a t==Value.int b u)=true) fromλq=>nomatch ABM q)];show wpAny _ _ (compareOp .Eq (.str a t) (.int b u)>>=λr=>truthOfDropped r) Q E s;exact AAD (EqMixed.eq_str_int (wpAny_truthy_bool h))
theorem Kt(h:Q false s):wpAny (model prog w) A (eqBool (.int b u) (.str a t)) Q E s:=by unfold eqBool;refine AA8 ?_;rw[if_neg (show ¬ ((Value.int b u==Value.str a t)=true) fromλq=>nomatch ABM q)];show wpAny _ _ (compareOp .Eq (.int b u) (.str a t)>>=λr=>truthOfDropped r) Q E s;exact AAD (EqMixed.eq_int_str (wpAny_truthy_bool h))
noncomputable def Dz(prog:Program)(w:World):KeyKind prog w (Str⊕Int) where
 is:=λk v=>match k with|.inl x=>Value.isStrOf x v|.inr i=>Value.isInt i v
 hash:=λk=>match k with|.inl x=>hashStr w x|.inr i=>hashInt i
 inj:=λv a b ha hb=>by
  cases a with
  |inl x =>
   refine oE (AC6 ha) λt q_1=>?_;subst q_1;cases b with
   |inl y=>exact congrArg _ (Value.isStrOf_inj _ _ _ ha hb)
   |inr j=>refine oE (ADE hb) λt' e=>?_;cases e
  |inr i =>
   refine oE (ADE ha) λt q_1=>?_;subst q_1;cases b with
   |inl y=>refine oE (AC6 hb) λt' e=>?_;cases e
   |inr j=>exact congrArg _ (Value.isInt_inj _ _ _ ha hb)
 byValue:=λk v h=>by
  cases k with
  |inl x=>refine oE (AC6 h) λt q_1=>?_;subst q_1;rfl
  |inr i=>refine oE (ADE h) λt q_1=>?_;subst q_1;rfl
 pyHash:=λ{A E s k v Q} hv h=>by
  cases k with
  |inl x=>refine oE (AC6 hv) λt q_1=>?_;subst q_1;exact wpAny_pyHash_str h
  |inr i=>refine oE (ADE hv) λt q_1=>?_;subst q_1;exact wpAny_pyHash_int h
 eqBool:=λ{A E s a b u v Q} hu hv h=>by
  cases a with
  |inl x =>
   refine oE (AC6 hu) λt q_1=>?_;subst q_1;cases b with
   |inl y=>refine oE (AC6 hv) λt' q_1=>?_;subst q_1;exact wpAny_eqBool_str (by simpa using h)
   |inr j=>refine oE (ADE hv) λt' q_1=>?_;subst q_1;exact Ks (by simpa using h)
  |inr i =>
   refine oE (ADE hu) λt q_1=>?_;subst q_1;cases b with
   |inl y=>refine oE (AC6 hv) λt' q_1=>?_;subst q_1;exact Kt (by simpa using h)
   |inr j=>refine oE (ADE hv) λt' q_1=>?_;subst q_1;rw[show decide ((Sum.inr i:Str⊕Int)=Sum.inr j)=decide (i=j) by simp] at h;exact wpAny_eqBool_int h
 «strs»:=λk x t v h=>by
  cases k with
  |inl y=>exact(strKind prog w).«strs» y x t v h
  |inr i=>refine oE (ADE h) λt' e=>?_;cases e
set_option tactic.hygienic false
set_option genInjectivity false
set_option backward.match.sparseCases false
set_option genCtorIdx true in
inductive V where
 |d (x:PyData)
 |ref (k:Nat)
 |tup (ws:List (PyData⊕Nat))
 |ty (t:String)
 |obj (ks:List Nat)
 |pr (x y:V)
 |exc (k:Nat)
 |ecl (k:Nat)
set_option genCtorIdx true in
inductive O where
 |list (vs:List V)
 |dictS (kvs:List (Str×PyData))
 |dictP (kvs:List ((Str×Int)×PyData))
noncomputable abbrev Ac:=List O
noncomputable abbrev Am:=List (Option V)
noncomputable def line:Nat:=16777216
section
variable{α β:Type}{P:Prop}
theorem Aa(h:az=al a):P:=nomatch h
theorem GY(h:al a=az):P:=nomatch h
theorem ff_(h:false=true):P:=nomatch h
theorem tt_(h:true=false):P:=nomatch h
theorem Yb(h:a::l=[]):P:=nomatch h
theorem Dk(h:m=n)(e:Nat.beq m n=false):P:=by rw[h,Nat.beq_refl] at e;cases e
theorem nm_(h:al a=az):P:=nomatch h
theorem dc{a b:Nat}(h:Nat.ble a b=true):a<=b:=ACH h
theorem AY{a b c:Nat}(h:a<=b)(e:Nat.ble b c=true):a<=c:=AAC h (dc e)
theorem BV{a b c:Nat}(h:a<=b)(e:Nat.ble (b+1) c=true):a<c:=AAS h (dc e)
theorem DU{a b c:Nat}(h:b<=c)(e:Nat.ble a b=true):a<=c:=AAC (dc e) h
theorem Ak(h:o=az)(e:o=al a):P:=Aa (h.symm.trans e)
theorem As(h:o=al a)(e:o=al b):a=b:=AAA (h.symm.trans e)
theorem ae(h:o.bind f=al y):∃x,o=al x/\f x=al y:=by
 cases o with
 |none=>exact Aa h
 |some x=>exact⟨x,rfl,h⟩
theorem BG{c:Prop}[Decidable c](h:(if c then al a else az)=al b):c/\a=b:=by
 by_cases hc:c
 ·rw[if_pos hc] at h;exact⟨hc,AAA h⟩
 ·rw[if_neg hc] at h;exact Aa h
end
structure Top where
 prog:Program
 w:World
 h0:Heap
 fn:Nat->Option Addr
 tabs:List (Addr×Str)
 gens:Array GenState
 os:OsState
 cls:Addr
 exc:Nat->Option Addr
structure G where
 fz:Addr->Option Obj
 hid:Addr->Option Obj
 mu:List Addr
def De(fz:Addr->Option Obj)(cl:String)(x:Value)(P:List Value->Prop)(n:Nat):Prop :=
 ∀R_:Value->Prop,(∀(a:Addr) (o:Obj) (vs:Array Value) (m:Nat),fz a=al o->o.cls=.type cl->o.data=.seq vs m->P vs.toList->n<=line->R_ (.ref a))->R_ x
mutual
noncomputable def AG(fz:Addr->Option Obj):PyData->Value->Prop
 |.none,x=>x=.none
 |.bool b,x=>x=.bool b
 |.int i,x=>∃t,x=.int i t
 |.str s,x=>∃t,x=.str s t/\s.length<=line
 |.list ds,x=>De fz "list" x (λvs=>RepDs fz ds vs) ds.length
 |.tuple ds,x=>De fz "tuple" x (λvs=>RepDs fz ds vs) ds.length
 |.dict _,_=>False
noncomputable def RepDs(fz:Addr->Option Obj):List PyData->List Value->Prop
 |[],[]=>True
 |d::ds,v::vs=>AG fz d v/\RepDs fz ds vs
 |_,_=>False
end
noncomputable def Ay{α β:Type}(R:α->β->Prop):List α->List β->Prop
 |[],[]=>True
 |a::as,b::bs=>R a b/\Ay R as bs
 |_,_=>False
section
variable{α β:Type}
theorem Ay.mono(h:∀a b,R a b->S a b):∀{as:List α} {bs:List β},Ay R as bs->Ay S as bs
 |[],[],_=>trivial
 |_::_,_::_,x=>⟨h _ _ x.1,Ay.mono h x.2⟩
 |[],_::_,x=>x
 |_::_,[],x=>x
theorem Ay.length:∀{as:List α} {bs:List β},Ay R as bs->as.length=bs.length
 |[],[],_=>rfl
 |_::_,_::_,x=>congrArg (· + 1) (Ay.length x.2)
 |[],_::_,x=>x.elim
 |_::_,[],x=>x.elim
theorem Ay.get:∀{as:List α} {bs:List β},Ay R as bs->∀{k:Nat} {a:α},as[k]? = al a->∃b,bs[k]? = al b/\R a b
 |_::_,b::_,x,0,_,e=>(iEA b rfl (AAA e▸x.1))
 |_::_,_::_,x,k+1,a,e=>Ay.get x.2 (k:=k) (a:=a) e
 |[],[],_,_,_,e=>Aa e
 |[],_::_,x,_,_,_=>x.elim
 |_::_,[],x,_,_,_=>x.elim
theorem Ay.append:∀{as as':List α} {bs bs':List β},Ay R as bs->Ay R as' bs'->Ay R (as++as') (bs++bs')
 |[],_,[],_,_,y=>y
 |_::_,_,_::_,_,x,y=>⟨x.1,Ay.append x.2 y⟩
 |[],_,_::_,_,x,_=>x.elim
 |_::_,_,[],_,x,_=>x.elim
theorem Ay.drop:∀(n:Nat) {as:List α} {bs:List β},Ay R as bs->Ay R (as.drop n) (bs.drop n)
 |0,_,_,h=>h
 |_+1,[],[],_=>trivial
 |n+1,_::_,_::_,h=>Ay.drop n h.2
 |_+1,[],_::_,h=>h.elim
 |_+1,_::_,[],h=>h.elim
theorem Ay.take:∀(n:Nat) {as:List α} {bs:List β},Ay R as bs->Ay R (as.take n) (bs.take n)
 |0,_,_,_=>trivial
 |_+1,[],[],_=>trivial
 |n+1,_::_,_::_,h=>⟨h.1,Ay.take n h.2⟩
 |_+1,[],_::_,h=>h.elim
 |_+1,_::_,[],h=>h.elim
theorem Ay.set:∀(j:Nat) {as:List α} {bs:List β} {a:α} {b:β},Ay R as bs->R a b->Ay R (as.set j a) (bs.set j b)
 |_,[],[],_,_,_,_=>trivial
 |0,_::_,_::_,_,_,h,r=>⟨r,h.2⟩
 |j+1,_::_,_::_,_,_,h,r=>⟨h.1,Ay.set j h.2 r⟩
 |_,[],_::_,_,_,h,_=>h.elim
 |_,_::_,[],_,_,h,_=>h.elim
theorem Ay.cons(h:Ay R (a::as) bs):∃b r,bs=b::r/\R a b/\Ay R as r:=by
 cases bs with
 |nil=>exact h.elim
 |cons b r=>exact Gw b r rfl h.1 h.2
theorem Ay.nil(h:Ay R [] bs):bs=[]:=by
 cases bs with
 |nil=>rfl
 |cons b r=>exact h.elim
theorem Ay.one(h:Ay R [a] bs):∃b,bs=[b]/\R a b:=by exact Br h.cons λb r e h1 h2=>iEA b (by rw[e,h2.nil]) h1
theorem Ay.two(h:Ay R [a,a'] bs):∃b b',bs=[b,b']/\R a b/\R a' b':=by exact Br h.cons λb r e h1 h2=>oEA h2.one λb' e' h3=>Gw b b' (by rw[e,e']) h1 h3
end
noncomputable def Ix(g:G):PyData⊕Nat->Value->Prop
 |.inl x,v=>AG g.fz x v
 |.inr k,v=>∃a,g.mu[k]? = al a/\v=.ref a
noncomputable def Dy:List Str:=[ACG "held",ACG "grounds",ACG "heights"]
def Yo(f:Addr->Option Obj)(a:Addr)(m:Str->Option Value):Prop:=∃o es ep,f a=al o/\o.data=.dict es ep/\StrKeys es/\UniqKeys es/\∀name,nsFind es name=m name
def kT(T:Top)(g:G)(v:Value)(ks:List Nat):Prop :=
 ∀R_:Value->Prop,(∀(a d:Addr) (o:Obj) (mA:Str->Option Value),g.fz a=al o->o.cls=.ref T.cls->(∀c,o.data≠.cls c)->o.dict=al d->d≠a->Yo g.fz d mA->(∀nm,nm∉Dy->mA nm=az)->Ay (λ(k:Nat) (nm:Str)=>∃a,g.mu[k]? = al a/\mA nm=al (.ref a)) ks Dy->R_ (.ref a))->R_ v
noncomputable def Top.ec(T:Top)(k:Nat):Option Addr:=bif Nat.beq k 0 then al T.cls else T.exc k
def lW(T:Top)(fz:Addr->Option Obj)(v:Value)(k:Nat):Prop :=
 ∀R_:Value->Prop,(∀(e D:Addr) (o:Obj) (vs:Array Value),fz e=al o->T.exc k=al D->o.cls=.ref D->o.dict=az->o.data=.fields vs->R_ (.ref e))->R_ v
noncomputable def Av(T:Top)(g:G):V->Value->Prop
 |.d x,v=>AG g.fz x v
 |.ref k,v=>∃a,g.mu[k]? = al a/\v=.ref a
 |.tup ws,v=>De g.fz "tuple" v (λxs=>Ay (Ix g) ws xs) ws.length
 |.ty t,v=>v=.type t
 |.obj ks,v=>kT T g v ks
 |.pr x y,v=>De g.fz "tuple" v (λxs=>∃a b,xs=[a,b]/\Av T g x a/\Av T g y b) 2
 |.exc k,v=>lW T g.fz v k
 |.ecl k,v=>∃a,T.ec k=al a/\v=.ref a
def dZ(o:Obj)(P:List Value->Prop)(n:Nat):Prop :=
 ∀R_:Obj->Prop,(∀(xs:Array Value) (m:Nat),P xs.toList->n<=line->R_ {cls:=.type "list",dict:=az,data:=.seq xs m,slots:=#[]})->R_ o
def nE(T:Top)(fz:Addr->Option Obj)(o:Obj)(kvs:List (Str×PyData)):Prop :=
 ∀R_:Prop,(∀(es:Array DictEntry) (ep:Nat) (ws:List (Str×Value)),o.ExactDict->o.data=.dict es ep->KeysOf (strKind T.prog T.w) es->Pairs (strKind T.prog T.w) es.toList ws->(ws.map (·.1)).Nodup->Ay (λ(d:Str×PyData) (v:Str×Value)=>d.1=v.1/\AG fz d.2 v.2) kvs ws->kvs.length<=line->R_)->R_
noncomputable def Ii(k:Str×Int):List (Str⊕Int):=[.inl k.1,.inr k.2]
def nF(T:Top)(fz:Addr->Option Obj)(o:Obj)(kvs:List ((Str×Int)×PyData)):Prop :=
 ∀R_:Prop,(∀(es:Array DictEntry) (ep:Nat) (ws:List (List (Str⊕Int)×Addr×Value)),o.ExactDict->o.data=.dict es ep->es.toList=ws.map (entryOfKey (tupleKind (Dz T.prog T.w)))->(ws.map (·.1)).Nodup ->
  Ay (λ(d:(Str×Int)×PyData) (v:List (Str⊕Int)×Addr×Value)=>Ii d.1=v.1/\AG fz (.tuple [.str d.1.1,.int d.1.2]) (.ref v.2.1)/\AG fz d.2 v.2.2) kvs ws->kvs.length<=line->R_)->R_
noncomputable def DV(T:Top)(g:G):O->Obj->Prop
 |.list vs,o=>dZ o (λxs=>Ay (Av T g) vs xs) vs.length
 |.dictS kvs,o=>nE T g.fz o kvs
 |.dictP kvs,o=>nF T g.fz o kvs
def Nh(f f':Addr->Option Obj):Prop:=∀a o,f a=al o->f' a=al o
structure G.up(g g':G):Prop where
 fz:Nh g.fz g'.fz
 mu:∀(k:Nat) (a:Addr),g.mu[k]? = al a->g'.mu[k]? = al a
structure G.le(own:List Addr)(g g':G):Prop extends G.up g g' where
 hid:∀a,a∉own->g'.hid a=g.hid a
theorem G.up.refl(g:G):G.up g g:=⟨λ_ _ e=>e,λ_ _ e=>e⟩
theorem G.up.trans(x:G.up g g')(y:G.up g' g''):G.up g g'':=⟨λa o e=>y.fz a o (x.fz a o e),λk a e=>y.mu k a (x.mu k a e)⟩
theorem G.le.refl(own:List Addr)(g:G):G.le own g g:=⟨.refl g,λ_ _=>rfl⟩
theorem G.le.trans(x:G.le own g g')(y:G.le own g' g''):G.le own g g'':=⟨x.toup.trans y.toup,λa h=>(y.hid a h).trans (x.hid a h)⟩
theorem G.le.toO(x:G.le [] g g'):G.le own g g':=⟨x.toup,λa _=>x.hid a AA1⟩
theorem De.mono(h:Nh f f')(hp:∀vs,P vs->P' vs)(r:De f cl x P n):De f' cl x P' n :=
 λR_ k=>r R_ λa o vs m hf hc hd hr hl=>k a o vs m (h a o hf) hc hd (hp _ hr) hl
mutual
theorem AG.mono(h:Nh f f'):∀(d:PyData) (v:Value),AG f d v->AG f' d v
 |.none,_,x=>x
 |.bool _,_,x=>x
 |.int _,_,x=>x
 |.str _,_,x=>x
 |.list ds,_,x=>De.mono h (λvs=>RepDs.mono h ds vs) x
 |.tuple ds,_,x=>De.mono h (λvs=>RepDs.mono h ds vs) x
 |.dict _,_,x=>x
theorem RepDs.mono(h:Nh f f'):∀(ds:List PyData) (vs:List Value),RepDs f ds vs->RepDs f' ds vs
 |[],[],_=>trivial
 |d::ds,v::vs,x=>⟨AG.mono h d v x.1,RepDs.mono h ds vs x.2⟩
 |[],_::_,x=>x
 |_::_,[],x=>x
end
theorem RepDs.all:∀{ds:List PyData} {vs:List Value},RepDs f ds vs->Ay (AG f) ds vs
 |[],[],_=>trivial
 |_::_,_::_,x=>⟨x.1,RepDs.all x.2⟩
 |[],_::_,x=>x.elim
 |_::_,[],x=>x.elim
theorem RepDs.of:∀{ds:List PyData} {vs:List Value},Ay (AG f) ds vs->RepDs f ds vs
 |[],[],_=>trivial
 |_::_,_::_,x=>⟨x.1,RepDs.of x.2⟩
 |[],_::_,x=>x.elim
 |_::_,[],x=>x.elim
theorem Yo.to(x:Yo f a m)(h:Nh f f'):Yo f' a m:=x.imp λo x=>x.imp λ_ x=>x.imp λ_ x=>⟨h a o x.1,x.2⟩
theorem Ix.mono(h:G.up g g'):∀(w:PyData⊕Nat) (v:Value),Ix g w v->Ix g' w v
 |.inl x,v,r=>AG.mono h.fz x v r
 |.inr k,v,r=>by refine oEA r λa e q=>?_;exact⟨a,h.mu k a e,q⟩
theorem Av.mono(h:G.up g g'):∀(w:V) (v:Value),Av T g w v->Av T g' w v
 |.d x,v,r=>AG.mono h.fz x v r
 |.ref k,v,r=>by refine oEA r λa e q=>?_;exact⟨a,h.mu k a e,q⟩
 |.tup ws,v,r=>De.mono h.fz (λvs=>Ay.mono (Ix.mono h)) r
 |.ty _,_,r=>r
 |.obj ks,v,r=>λR_ k=>r R_ λa d o mA h1 h2 h3 h4 h5 h6 h7 h8=>k a d o mA (h.fz _ _ h1) h2 h3 h4 h5 (h6.to h.fz) h7 (Ay.mono (λ_ _=>λ⟨a,e,q⟩=>⟨a,h.mu _ a e,q⟩) h8)
 |.pr x y,v,r=>De.mono h.fz (λvs=>λ⟨a,b,e,h1,h2⟩=>⟨a,b,e,Av.mono h x a h1,Av.mono h y b h2⟩) r
 |.exc k,v,r=>λR_ kk=>r R_ λe D o vs h1 h2 h3 h4 h5=>kk e D o vs (h.fz _ _ h1) h2 h3 h4 h5
 |.ecl _,_,r=>r
noncomputable abbrev Au(T:Top)(g:G):List V->List Value->Prop:=Ay (Av T g)
theorem Au.mono(h:G.up g g')(r:Au T g ws vs):Au T g' ws vs:=Ay.mono (Av.mono h) r
theorem Av.eta(r:Av T g w v):Av T ⟨g.fz,hd,g.mu⟩ w v:=Av.mono (g:=g) (g':=⟨g.fz,hd,g.mu⟩) ⟨λ_ _ e=>e,λ_ _ e=>e⟩ w v r
theorem Au.eta(r:Au T g ws vs):Au T ⟨g.fz,hd,g.mu⟩ ws vs:=Ay.mono (λ_ _=>Av.eta) r
theorem DV.mono(h:G.up g g'):∀(o:O) (x:Obj),DV T g o x->DV T g' o x
 |.list vs,_,r=>λR_ k=>r R_ λxs m hr hl=>k xs m (Au.mono h hr) hl
 |.dictS kvs,_,r=>λR_ k=>r R_ λes ep ws ho hd hk hp hn hr hl=>k es ep ws ho hd hk hp hn (Ay.mono (λd v r=>⟨r.1,AG.mono h.fz _ _ r.2⟩) hr) hl
 |.dictP kvs,_,r=>λR_ k=>r R_ λes ep ws ho hd he hn hr hl=>k es ep ws ho hd he hn (Ay.mono (λd v r=>⟨r.1,AG.mono h.fz _ _ r.2.1,AG.mono h.fz _ _ r.2.2⟩) hr) hl
theorem Au.ofD:∀{ds:List PyData} {vs:List Value},RepDs g.fz ds vs->Au T g (ds.map .d) vs
 |[],[],_=>trivial
 |_::_,_::_,x=>⟨x.1,Au.ofD x.2⟩
 |[],_::_,x=>x.elim
 |_::_,[],x=>x.elim
theorem Au.toD:∀{ds:List PyData} {vs:List Value},Au T g (ds.map .d) vs->RepDs g.fz ds vs
 |[],[],_=>trivial
 |_::_,_::_,x=>⟨x.1,Au.toD x.2⟩
 |[],_::_,x=>x.elim
 |_::_,[],x=>x.elim
def Wb(g:G)(h:Heap)(t:Addr)(q:Str):Prop :=
 ∀R_:Prop,(∀ps:Array Value,g.fz t=az->g.hid t=az->t∉g.mu->h.get? t=al {cls:=.none,data:=.fields ps}->TriplesOk ps.toList ->
  (∀pos cv,codeAmong pos ps.toList=al cv->∃c o vs u,cv=.ref c/\g.fz c=al o/\o.data=.fields vs/\vs[1]? = al (.str q u))->R_)->R_
noncomputable def frC:Value:=.type "#frame"
def Hd(h:Heap)(a:Addr)(o:Obj):Prop:=∃o',h.get? a=al o'/\o'.data=o.data/\(o.cls≠frC->o'=o)
theorem Hd.of(e:h.get? a=al o):Hd h a o:=⟨o,e,rfl,λ_=>rfl⟩
theorem Hd.keep(x:Hd h a o)(k:∀o,h.get? a=al o->h'.get? a=al o):Hd h' a o:=x.imp λ_ x=>⟨k _ x.1,x.2⟩
theorem Hd.ex(x:Hd h a o)(n:o.cls≠frC):h.get? a=al o:=let ⟨_,e,_,q⟩:=x;q n▸e
noncomputable def frO(o:Obj):Obj:={o with cls:=frC}
theorem Hd.fr(e:h.get? a=al o):Hd h a (frO o):=⟨o,e,rfl,λq=>absurd rfl q⟩
theorem Bs{o:Obj}(h:o.cls=.type t)(n:(t == "#frame")=false):o.cls≠frC:=λq=>ABB (n.symm.trans (beq_iff_eq.mpr (Value.type.inj (h.symm.trans q))))
structure Has(T:Top)(g:G)(U:Ac)(s:Shared):Prop where
 fz:∀a o,g.fz a=al o->s.heap.get? a=al o
 hd:∀a o,g.hid a=al o->Hd s.heap a o
 len:g.mu.length=U.length
 nd:g.mu.Nodup
 ap:∀a,a∈g.mu->g.fz a=az
 ah:∀a o,g.hid a=al o->g.fz a=az/\a∉g.mu
 ob:∀(k:Nat) (a:Addr) (o:O),g.mu[k]? = al a->U[k]? = al o->∀R_:Prop,(∀x,s.heap.get? a=al x->DV T g o x->R_)->R_
 base:∀a o,T.h0.get? a=al o->g.fz a=al o
 tb:∀t q,(t,q)∈T.tabs->Wb g s.heap t q
 gens:s.gens=T.gens
 os:s.os=T.os
def CS(T:Top)(own:List Addr)(g:G)(U':Ac)(R:G->Prop)(s':Shared):Prop:=∀R_:Prop,(∀g',G.le own g g'->Has T g' U' s'->R g'->R_)->R_
theorem CS.mk(g':G)(le:G.le own g g')(h:Has T g' U' s')(r:R g'):CS T own g U' R s':=λ_ k=>k g' le h r
theorem CS.after(le:G.le own g aj)(h:CS T own aj U' R s'):CS T own g U' R s':=λR_ k=>h R_ λg' l a r=>k g' (le.trans l) a r
theorem By(h:Heap):h.get? h.objs.size=az:=ABO (AAL _)
theorem Bd:line=sizeLine:=by unfold sizeLine;rfl
structure DA(T:Top)(g:G)(a:Addr):Prop where
 fz:g.fz a=az
 hid:g.hid a=az
 mu:a∉g.mu
 tab:∀q,(a,q)∉T.tabs
section
variable{T:Top}{own:List Addr}{g:G}{U:Ac}{s s':Shared}{a:Addr}{o:Obj}
theorem Has.muAlive(H:Has T g U s)(h:a∈g.mu):∃o,s.heap.get? a=al o:=by obtain⟨k,hk,e⟩:=List.mem_iff_getElem.mp h;have hσ:=H.len▸hk;exact H.ob k a U[k] (by rw[AAN hk,e]) (AAN hσ) _ λx hx _=>⟨x,hx⟩
theorem EE{α:Type}{o:Option α}(h:∀a,o=al a->False):o=az:=by
 cases o with
 |none=>rfl
 |some a=>exact(h a rfl).elim
theorem Wb.at{h:Heap}{t:Addr}{q:Str}(x:Wb g h t q):∃o,h.get? t=al o:=x _ λ_ _ _ _ ho _ _=>⟨_,ho⟩
theorem Has.free(H:Has T g U s)(h:s.heap.get? a=az):DA T g a :=
 ⟨EE λo e=>Ak h (H.fz a o e),EE λo e=>let ⟨_,q,_⟩:=H.hd a o e;Ak h q,λq=>by refine oE (H.muAlive q) λo e=>?_;exact Ak h e,λq m=>by refine oE ((H.tb _ _ m).at) λo e=>?_;exact Ak h e⟩
theorem Has.hidTab(H:Has T g U s)(e:g.hid a=al o)(q:Str):(a,q)∉T.tabs:=λm=>H.tb _ _ m _ λ_ _ h2 _ _ _ _=>Ak h2 e
theorem Has.re(H:Has T g U s)(hd:Addr->Option Obj)(hh:∀a o,hd a=al o->Hd s'.heap a o/\g.fz a=az/\a∉g.mu/\∀q,(a,q)∉T.tabs)
 (kf:∀b o,g.fz b=al o->s.heap.get? b=al o->s'.heap.get? b=al o) (km:∀b o,b∈g.mu->s.heap.get? b=al o->s'.heap.get? b=al o) (kt:∀t q o,(t,q)∈T.tabs->s.heap.get? t=al o->s'.heap.get? t=al o)
 (hg:s'.gens=s.gens) (ho:s'.os=s.os):Has T ⟨g.fz,hd,g.mu⟩ U s':=by
 have up:G.up g ⟨g.fz,hd,g.mu⟩:=⟨λ_ _ e=>e,λ_ _ e=>e⟩
 refine⟨λa o e=>kf a o e (H.fz a o e),λa o e=>(hh a o e).1,H.len,H.nd,H.ap,λa o e=>⟨(hh a o e).2.1,(hh a o e).2.2.1⟩,λk a o e1 e2 R_ r=>H.ob k a o e1 e2 R_ λx h1 h2=>r x (km a x (AA5 e1) h1) (DV.mono up _ _ h2),H.base,
  λt q m R_ r=>H.tb t q m R_ λps h1 h2 h3 h4 h5 h6=>r ps h1 (EE λo e=>(hh _ o e).2.2.2 q m) h3 (kt t q _ m h4) h5 h6,hg.trans H.gens,ho.trans H.os⟩
theorem Has.keep(H:Has T g U s)(k:∀b o,s.heap.get? b=al o->s'.heap.get? b=al o)(hg:s'.gens=s.gens:=by rfl)(ho:s'.os=s.os:=by rfl):Has T g U s' :=
 H.re g.hid (λa o e=>⟨(H.hd a o e).keep (k _),(H.ah a o e).1,(H.ah a o e).2,H.hidTab e⟩) (λb o _ e=>k b o e) (λb o _ e=>k b o e) (λt q o _ e=>k _ o e) hg ho
theorem Has.tok(H:Has T g U s)(h:s'.heap=s.heap:=by rfl)(hg:s'.gens=s.gens:=by rfl)(ho:s'.os=s.os:=by rfl):Has T g U s':=H.keep (λb o e=>h▸e) hg ho
noncomputable def G.hide(g:G)(a:Addr)(o:Obj):G:=⟨g.fz,λb=>if b=a then al o else g.hid b,g.mu⟩
theorem G.hide_self{g:G}:(g.hide a o).hid a=al o:=if_pos rfl
theorem G.hide_ne{g:G}(h:b≠a):(g.hide a o).hid b=g.hid b:=if_neg h
theorem G.le.hide(h:a∈own):G.le own g (g.hide a o):=⟨⟨λ_ _ e=>e,λ_ _ e=>e⟩,λb hb=>G.hide_ne λq=>hb (q▸h)⟩
theorem Has.hideH(H:Has T g U s)(h1:g.fz a=az)(h2:a∉g.mu)(h3:∀q,(a,q)∉T.tabs)(k:∀b x,b≠a->s.heap.get? b=al x->s'.heap.get? b=al x)(h:Hd s'.heap a o)(hg:s'.gens=s.gens:=by rfl)(ho:s'.os=s.os:=by rfl):Has T (g.hide a o) U s':=by
 refine H.re _ (λb x e=>?_) (λb x e e'=>k b x (λq=>Ak h1 (q▸e)) e') (λb x e e'=>k b x (λq=>h2 (q▸e)) e') (λt q x m e=>k _ x (λe'=>h3 q (e'▸m)) e) hg ho;by_cases q:b=a
 ·rw[if_pos q] at e;rw[q,<-AAA e];exact⟨h,h1,h2,h3⟩
 ·rw[if_neg q] at e;exact⟨(H.hd b x e).keep λx=>k b x q,(H.ah b x e).1,(H.ah b x e).2,H.hidTab e⟩
theorem Has.hide(H:Has T g U s)(h1:g.fz a=az)(h2:a∉g.mu)(h3:∀q,(a,q)∉T.tabs)(k:∀b x,b≠a->s.heap.get? b=al x->s'.heap.get? b=al x)(h:s'.heap.get? a=al o)(hg:s'.gens=s.gens:=by rfl)(ho:s'.os=s.os:=by rfl):Has T (g.hide a o) U s':=H.hideH h1 h2 h3 k (.of h) hg ho
theorem DA.hide(F:DA T g a)(H:Has T g U s)(h:s.heap.get? a=al o):Has T (g.hide a o) U s:=H.hide F.fz F.mu F.tab (λ_ _ _ e=>e) h
theorem Has.rehideH(H:Has T g U s)(e:g.hid a=al aS)(k:∀b x,b≠a->s.heap.get? b=al x->s'.heap.get? b=al x)(h:Hd s'.heap a o)(hg:s'.gens=s.gens:=by rfl)(ho:s'.os=s.os:=by rfl):Has T (g.hide a o) U s':=H.hideH (H.ah a _ e).1 (H.ah a _ e).2 (H.hidTab e) k h hg ho
theorem Has.rehide(H:Has T g U s)(e:g.hid a=al aS)(k:∀b x,b≠a->s.heap.get? b=al x->s'.heap.get? b=al x)(h:s'.heap.get? a=al o)(hg:s'.gens=s.gens:=by rfl)(ho:s'.os=s.os:=by rfl):Has T (g.hide a o) U s' :=
 H.hide (H.ah a _ e).1 (H.ah a _ e).2 (H.hidTab e) k h hg ho
theorem Has.back(H:Has T g' U s)(le:G.le (its++own) g g')(hn:∀c,c∈its->g.hid c=az)(k:∀c o,c∉its->s.heap.get? c=al o->s'.heap.get? c=al o)(hf:∀c,c∈its->g'.fz c=az/\c∉g'.mu/\∀q,(c,q)∉T.tabs)
 (hg:s'.gens=s.gens:=by rfl) (ho:s'.os=s.os:=by rfl):∃hd,Has T ⟨g'.fz,hd,g'.mu⟩ U s'/\G.le own g ⟨g'.fz,hd,g'.mu⟩/\∀c,c∉its->hd c=g'.hid c:=by
 refine(Az (λc=>@ite _ (c∈its) (ACI _) az (g'.hid c)) (H.re _ (λa o e=>?_) (λb o e e'=>k b o (λq=>Ak (hf b q).1 e) e') (λb o e e'=>k b o (λq=>(hf b q).2.1 e) e') (λt q o m e=>k _ o (λh=>(hf _ h).2.2 q m) e) hg ho) ⟨⟨le.fz,le.mu⟩,λc hc=>?_⟩ (λc hc=>if_neg hc))
 ·by_cases q:a∈its
  ·rw[if_pos q] at e;exact Aa e
  ·rw[if_neg q] at e;exact⟨(H.hd a o e).keep λo=>k a o q,(H.ah a o e).1,(H.ah a o e).2,H.hidTab e⟩
 ·show@ite _ (c∈its) (ACI _) az (g'.hid c)=_;by_cases q:c∈its
  ·rw[if_pos q,hn c q]
  ·exact(if_neg q)▸(le.hid c λh=>(AA0.mp h).elim q hc)
noncomputable def G.put(g:G)(a:Addr)(o:Obj):G:=⟨λb=>if b=a then al o else g.fz b,g.hid,g.mu⟩
theorem G.put_self{g:G}:(g.put a o).fz a=al o:=if_pos rfl
theorem G.le.put(h:g.fz a=az):G.le own g (g.put a o) :=
 ⟨⟨λb x e=>by show(if b=a then al o else g.fz b)=al x;rw[if_neg (λq=>by rw[q,h] at e;exact Aa e)];exact e,λ_ _ e=>e⟩,λ_ _=>rfl⟩
theorem DA.put(F:DA T g a)(H:Has T g U s)(h:s.heap.get? a=al o):Has T (g.put a o) U s:=by
 have le:G.le [] g (g.put a o):=.put F.fz;have ne:∀{b:Addr},b≠a->(g.put a o).fz b=g.fz b:=λq=>if_neg q;refine⟨λb x e=>?_,H.hd,H.len,H.nd,λb hb=>(ne λq=>F.mu (q▸hb)).trans (H.ap b hb),λb x e=>⟨(ne λq=>Ak F.hid (q▸e)).trans (H.ah b x e).1,(H.ah b x e).2⟩,λk b x e1 e2 R_ r=>H.ob k b x e1 e2 R_ λy h1 h2=>r y h1 (DV.mono le.toup _ _ h2),λb x e=>le.fz b x (H.base b x e),λt q m R_ r=>H.tb t q m R_ λps h1 h2 h3 h4 h5 h6=>r ps ((ne λe=>F.tab q (e▸m)).trans h1) h2 h3 h4 h5 λpos cv e=>?_,H.gens,H.os⟩
 ·by_cases q:b=a
  ·rw[q] at e ⊢;rw[<-AAA (G.put_self.symm.trans e)];exact h
  ·rw[ne q] at e;exact H.fz b x e
 ·exact Ec (h6 pos cv e) λc o vs t q1 q2 q3=>EJ c o vs t q1 (le.fz _ _ q2) q3
noncomputable def G.add(g:G)(a:Addr):G:=⟨g.fz,g.hid,g.mu++[a]⟩
theorem G.le.add:G.le own g (g.add a) :=
 ⟨⟨λ_ _ e=>e,λk b e=>by show(g.mu++[a])[k]? = al b;rw[ABE (AAM.mp e).1];exact e⟩,λ_ _=>rfl⟩
theorem Has.addAt(H:Has T g U s):(g.add a).mu[U.length]? = al a:=by show(g.mu++[a])[U.length]? = al a;rw[<-H.len,AA6 (AAL _),ADJ];rfl
theorem Hj{α:Type}{l:List α}{a b:α}(h:b∈l++[a]):b∈l\/b=a:=(AA0.mp h).imp id AAJ.mp
theorem DA.add{ob:O}(F:DA T g a)(H:Has T g U s)(h:s.heap.get? a=al o)(hr:DV T (g.add a) ob o):Has T (g.add a) (U++[ob]) s:=by
 refine⟨H.fz,H.hd,by show(g.mu++[a]).length=_;rw[AAF,AAF,H.len];rfl,?_,λb hb=>(Hj hb).elim (H.ap b) λq=>q▸F.fz,λb x e=>⟨(H.ah b x e).1,λhb=>(Hj hb).elim (H.ah b x e).2 λq=>Ak F.hid (q▸e)⟩,λk b y e1 e2 R_ r=>?_,H.base,λt q m R_ r=>H.tb t q m R_ λps h1 h2 h3 h4 h5 h6=>r ps h1 h2 (λh=>(Hj h).elim h3 λe=>F.tab q (e▸m)) h4 h5 h6,H.gens,H.os⟩
 ·exact ABW.mpr ⟨H.nd,ABX.mpr ⟨AA1,ABY⟩,λx hx y hy q=>F.mu (AAJ.mp hy▸q▸hx)⟩
 ·have e1':(g.mu++[a])[k]? = al b:=e1;by_cases hkl:k<U.length
  ·rw[ABE (H.len.symm▸hkl)] at e1';rw[ABE hkl] at e2;exact H.ob k b y e1' e2 R_ λz h1 h2=>r z h1 (DV.mono (G.le.add (own:=[])).toup _ _ h2)
  ·have hk':=by have:=(AAM.mp e2).1;rw[AAF] at this;exact ADO (ACF this) (ACM hkl)
   rw[hk'] at e1 e2;have e3:(U++[ob])[U.length]? = al ob:=List.getElem?_concat_length;rw[<-As H.addAt e1,<-As e3 e2] at r;exact r o h hr
theorem Has.turn{ob:O}(H:Has T g U s)(hk:g.mu[k]? = al a)(hs:∀b x,b≠a->s.heap.get? b=al x->s'.heap.get? b=al x)(hx:s'.heap.get? a=al o)(hr:DV T g ob o)(hg:s'.gens=s.gens:=by rfl)(ho:s'.os=s.os:=by rfl):Has T g (U.set k ob) s':=by
 have hm:=AA5 hk;refine⟨λb x e=>hs b x (λq=>Ak (H.ap a hm) (q▸e)) (H.fz b x e),λb x e=>(H.hd b x e).keep λy=>hs b y λq=>(H.ah b x e).2 (q▸hm),by rw[AB0];exact H.len,H.nd,H.ap,H.ah,λj b y e1 e2 R_ r=>?_,H.base,λt q m R_ r=>H.tb t q m R_ λps h1 h2 h3 h4 h5 h6=>r ps h1 h2 h3 (hs _ _ (λq=>h3 (q▸hm)) h4) h5 h6,hg.trans H.gens,ho.trans H.os⟩
 ·by_cases q:j=k
  ·rw[q] at e1 e2;have hkl:=H.len▸(AAM.mp hk).1;rw[<-As hk e1,<-As (AB1 hkl) e2] at r;exact r o hx hr
  ·rw[ADN (λh=>q h.symm)] at e2;refine H.ob j b y e1 e2 R_ λz h1 h2=>r z (hs b z (λq'=>q ?_) h1) h2;obtain⟨l1,m1⟩:=AAM.mp e1;obtain⟨l2,m2⟩:=AAM.mp hk;exact(List.getElem_inj H.nd).mp (m1.trans (q'.trans m2.symm))
end
set_option genCtorIdx true in
inductive SZ where
 |append|join|index|insert|pop|extend|remove|clear|get
set_option genCtorIdx true in
inductive Bi where
 |len|sorted|min|isinstance|str|all|any|list|max|ord|int|repr
inductive E where
 |cst (x:PyData)
 |N (i:Nat)
 |ty (t:String)
 |glb (x:PyData)
 |B (op:Operator) (a b:E)
 |neg (a:E)
 |not (a:E)
 |P (op:BoolOp) (es:E)
 |C (op:CmpOp) (a b:E)
 |nil
 |cons (a r:E)
 |tup (es:E)
 |lst (es:E)
 |dct
 |aa (a i:E)
 |slc (a lo hi:E)
 |bi (b:Bi) (es:E)
 |maxd (a z:E)
 |sortr (a:E)
 |sortk (rev:Bool) (a:E) (i:Nat) (key:E)
 |F (f:Nat) (es:E)
 |H (m:SZ) (o es:E)
 |R (nm:Str) (o:E)
 |ac (nm:Str) (o es:E)
 |new
 |D (elt:E) (ts:List Nat) (it ifs:E)
 |range (es:E)
 |zip (a b:E)
 |enum (a:E)
 |glx (k:Nat)
inductive S where
 |any
 |nil
 |cons (s r:S)
 |A (x:Nat) (e:E)
 |unp (xs:List Nat) (e:E)
 |swp (xs:List Nat) (es:E)
 |set (o i v:E)
 |exp (e:E)
 |I (c:E) (a b:S)
 |L (ts:List Nat) (it:E) (body:S)
 |while_ (c:E) (body:S)
 |ret (e:E)
 |setd (x:Nat) (nm:Str)
 |swl (i j l:Nat) (es:E)
 |rse (k:Nat) (es:E)
 |tryAs (b:S) (hs:List (Nat×Nat×E))
set_option genCtorIdx true in
inductive GV where
 |fn (f:Nat)
 |bi (b:Bi)
 |ty (t:String)
 |cst (x:PyData)
 |cls
 |exc (k:Nat)
structure Kx where
 vars:List Str
 names:List (Str×NameKind)
 wr:List Str
 gl:Str->Option GV
 lam:Option (Addr×Str)
noncomputable def Kx.kd(K:Kx)(n:Str)(k:NameKind):Bool:=decide (K.names.lookup n=al k)
noncomputable def Kx.isVar(K:Kx)(n:Str):Bool:=(K.kd n .local||(K.kd n .cell||K.kd n .free))&&!(n==("__debug__" : Str))&&!(n==("__classdict__" : Str))
noncomputable def Kx.isGl(K:Kx)(n:Str):Bool:=K.kd n .globalImplicit&&!(n==("__debug__" : Str))
noncomputable def Kx.canWr(K:Kx)(i:Nat)(n:Str):Bool:=decide (K.vars[i]? = al n)&&K.wr.contains n&&(K.kd n .local||K.kd n .cell)
theorem Kx.kd_eq{K:Kx}(h:K.kd n k=true):K.names.lookup n=al k:=AAG h
noncomputable def Kx.isAt(K:Kx)(i:Nat)(n:Str):Bool:=match K.vars[i]? with|some m=>m==n|none=>false
noncomputable def toC(x:PyData):Const:=match x with|.bool b=>.bool b|.int i=>.int i|.str t=>.str t|_=>.none
noncomputable def cOk(x:PyData):Bool:=match x with|.none=>true|.bool _=>true|.int _=>true|.str t=>decide (t.cps.size<=16777216)|_=>false
noncomputable def K0(x y:PyData):Bool :=
 match x with
 |.int a=>(match y with|.int b=>a==b|_=>false)
 |.str a=>(match y with|.str b=>a==b|_=>false)
 |_=>false
noncomputable def hM(v w:GV):Bool :=
 match v with
 |.fn f=>(match w with|.fn f'=>f==f'|_=>false)
 |.bi f=>(match w with|.bi f'=>Nat.beq f.ctorIdx f'.ctorIdx|_=>false)
 |.ty f=>(match w with|.ty f'=>f==f'|_=>false)
 |.cst x=>(match w with|.cst y=>K0 x y|_=>false)
 |.cls=>(match w with|.cls=>true|_=>false)
 |.exc f=>(match w with|.exc f'=>f==f'|_=>false)
noncomputable def GH(K:Kx)(v:GV)(n:Str):Bool:=K.isGl n&&(match K.gl n with|some w=>hM w v|none=>false)
noncomputable def F5:SZ->String
 |.append => "append" | .join => "join" | .index => "index" | .insert => "insert" | .pop => "pop" | .extend => "extend" | .remove => "remove" | .clear => "clear" | .get => "get"
noncomputable def CQ(e:E):Bool:=match e with|.D _ _ _ _=>true|_=>false
noncomputable def DG(env:List (Str×NameKind))(names:List (Str×NameKind)):List (Str×NameKind) :=
 names.map λ(n,k)=>if (k==.free&&env.lookup n==al .cell) then(n,.cell) else(n,k)
noncomputable def Pz(K:Kx)(ts:List Nat)(p:Str×NameKind):Bool :=
 (decide (p.2=.local)&&(p.1==(".0" : Str)||ts.any λi=>decide (K.vars[i]? = al p.1)))||((decide (p.2=.free)&&(K.kd p.1 .cell||K.kd p.1 .free))||decide (p.2=.globalImplicit))
noncomputable def IX(K:Kx)(ts:List Nat)(sc:Scope):Bool :=
 decide (sc.kind=.function)&&sc.names.all (Pz K ts) &&
 sc.names.all (λp=>decide (sc.names.lookup p.1=al p.2)) &&
 !K.vars.contains (".0" : Str) &&
 ts.all (λi=>match K.vars[i]? with|some m=>decide (sc.names.lookup m=al .local)|none=>false)
noncomputable def Kx.sub(K:Kx)(ts:List Nat)(sc:Scope):Kx:={K with names:=DG K.names sc.names,wr:=ts.filterMap (λi=>K.vars[i]?),lam:=az}
noncomputable def QK(K:Kx)(nm:Str)(p:Str×NameKind):Bool :=
 (decide (p.2=.local)&&p.1==nm)||((decide (p.2=.free)&&(K.kd p.1 .cell||K.kd p.1 .free))||decide (p.2=.globalImplicit))
noncomputable def Ut(K:Kx)(i:Nat)(nm:Str)(sc:Scope):Bool :=
 K.lam.isSome&&(K.isAt i nm&&(decide (sc.kind=.function)&&(!sc.isGenerator&&(!sc.isCoroutine&&(sc.names.all (QK K nm)&&(sc.names.all (λp=>decide (sc.names.lookup p.1=al p.2))&&decide (sc.names.lookup nm=al .local)))))))
noncomputable def Kx.lsub(K:Kx)(nm:Str)(sc:Scope):Kx:={K with names:=sc.names,wr:=[nm],lam:=az}
noncomputable def Ga(nm:Str)(ap:Pos):Arguments:=⟨[],[⟨nm,az,ap⟩],az,[],[],az,[]⟩
noncomputable def gvE(k:Nat):GV:=bif Nat.beq k 0 then .cls else .exc k
noncomputable def dR(b:Bi):GV:=match b with|.str=>.ty "str" | .list=>.ty "list" | .int=>.ty "int" | b=>.bi b
def lN(x:PyData)(x_:Expr):Prop:=∀R_:Expr->Prop,(∀(k:Nat) (p:Pos),cOk x=true->R_ (.Constant (toC x) k p))->R_ x_
def Yw(P:Str->Prop)(x_:Expr):Prop:=∀R_:Expr->Prop,(∀(n:Str) (p:Pos),P n->R_ (.Name n p))->R_ x_
def lQ(op:Operator)(A B:Expr->Prop)(x_:Expr):Prop:=∀R_:Expr->Prop,(∀(l r:Expr) (p:Pos),A l->B r->R_ (.BinOp l op r p))->R_ x_
def kY(op:UnaryOp)(A:Expr->Prop)(x_:Expr):Prop:=∀R_:Expr->Prop,(∀(x:Expr) (p:Pos),A x->R_ (.UnaryOp op x p))->R_ x_
def lP(op:BoolOp)(A:List Expr->Prop)(x_:Expr):Prop:=∀R_:Expr->Prop,(∀(vs:List Expr) (p:Pos),A vs->R_ (.BoolOp op vs p))->R_ x_
def lO(op:CmpOp)(A B:Expr->Prop)(x_:Expr):Prop:=∀R_:Expr->Prop,(∀(l r:Expr) (p:Pos),A l->B r->R_ (.Compare l [op] [r] p))->R_ x_
def kZ(A:List Expr->Prop)(x_:Expr):Prop:=∀R_:Expr->Prop,(∀(vs:List Expr) (k:Nat) (p:Pos),A vs->R_ (.Tuple vs k p))->R_ x_
def lI(A:List Expr->Prop)(x_:Expr):Prop:=∀R_:Expr->Prop,(∀(vs:List Expr) (p:Pos),A vs->R_ (.List vs p))->R_ x_
def lM(x_:Expr):Prop:=∀R_:Expr->Prop,(∀(p:Pos),R_ (.Dict [] [] p))->R_ x_
def lH(P:Str->Prop)(A Z:Expr->Prop)(x_:Expr):Prop:=∀R_:Expr->Prop,(∀(n:Str) (np:Pos) (x y:Expr) (kp p:Pos),P n->A x->Z y->R_ (.Call (.Name n np) [x] [⟨al (ACG "default"),y,kp⟩] p))->R_ x_
def Yu(P:Str->Prop)(A:Expr->Prop)(x_:Expr):Prop:=∀R_:Expr->Prop,(∀(n:Str) (np:Pos) (x:Expr) (k:Nat) (cp kp p:Pos),P n->A x->R_ (.Call (.Name n np) [x] [⟨al (ACG "reverse"),.Constant (.bool true) k cp,kp⟩] p))->R_ x_
def eA(P:Str->Prop)(A:Expr->Prop)(B:Str->Scope->Expr->Prop)(rev:Bool)(x_:Expr):Prop:=∀R_:Expr->Prop,(∀(n:Str) (np:Pos) (x:Expr) (nm:Str) (ap:Pos) (b:Expr) (sc:Scope) (lp kp:Pos) (k:Nat) (cp kp' p:Pos),P n->A x->B nm sc b->R_ (.Call (.Name n np) [x] (⟨al (ACG "key"),.Lambda (Ga nm ap) b sc lp,kp⟩::bif rev then [⟨al (ACG "reverse"),.Constant (.bool true) k cp,kp'⟩] else []) p))->R_ x_
def lC(A B:Expr->Prop)(x_:Expr):Prop:=∀R_:Expr->Prop,(∀(v x:Expr) (p:Pos),A v->B x->R_ (.Subscript v x p))->R_ x_
def lD(A:Expr->Prop)(B C:Option Expr->Prop)(x_:Expr):Prop:=∀R_:Expr->Prop,(∀(v:Expr) (l u:Option Expr) (q p:Pos),A v->B l->C u->R_ (.Subscript v (.Slice l u az q) p))->R_ x_
def GM(P:Str->Prop)(A:List Expr->Prop)(x_:Expr):Prop:=∀R_:Expr->Prop,(∀(n:Str) (np:Pos) (vs:List Expr) (p:Pos),P n->A vs->R_ (.Call (.Name n np) vs [] p))->R_ x_
def We(m:Str)(A:Expr->Prop)(B:List Expr->Prop)(x_:Expr):Prop:=∀R_:Expr->Prop,(∀(x:Expr) (ap:Pos) (vs:List Expr) (p:Pos),A x->B vs->ap.endLine=p.line->vs.length<20->R_ (.Call (.Attribute x m ap) vs [] p))->R_ x_
def eJ(m:Str)(A:Expr->Prop)(x_:Expr):Prop:=∀R_:Expr->Prop,(∀(x:Expr) (p:Pos),A x->R_ (.Attribute x m p))->R_ x_
def eI(A:Expr->Prop)(S:Scope->Prop)(P X:Scope->Expr->Prop)(F:Scope->List Expr->Prop)(x_:Expr):Prop:=∀R_:Expr->Prop,(∀(x t i:Expr) (cs:List Expr) (sc:Scope) (p:Pos),A i->S sc->P sc t->X sc x->F sc cs->R_ (.ListComp x [⟨t,i,cs,0⟩] sc p))->R_ x_
def OT{α:Type}(x_:List α):Prop:=x_=[]
def Nf(A:Expr->Prop)(B:List Expr->Prop)(x_:List Expr):Prop:=∀R_:List Expr->Prop,(∀(e:Expr) (l:List Expr),A e->B l->R_ (e::l))->R_ x_
def Nd(x_:Option Expr):Prop:=x_=az
def Nc(A:Expr->Prop)(x_:Option Expr):Prop:=∀R_:Option Expr->Prop,(∀(e:Expr),A e->R_ (al e))->R_ x_
noncomputable def OS(K:Kx):List Nat->List Expr->Prop
 |[],l=>l=[]
 |i::r,l=>∀R_:List Expr->Prop,(∀(n:Str) (p:Pos) (t:List Expr),K.canWr i n=true->OS K r t->R_ (.Name n p::t))->R_ l
def IsT(K:Kx)(ts:List Nat)(x_:Expr):Prop:=∀R_:List Nat->Expr->Prop,(∀(i:Nat) (n:Str) (p:Pos),K.canWr i n=true->R_ [i] (.Name n p))->(∀(es:List Expr) (k:Nat) (p:Pos),ts.length≠1->OS K ts es->R_ ts (.Tuple es k p))->R_ ts x_
noncomputable def Iw(K:Kx)(ts:List Expr):Bool:=ts.any λe=>match e with|.Name n _=>!K.kd n .local|_=>false
noncomputable abbrev Kx.to(K:Kx)(v:GV)(n:Str):Prop:=K.isGl n=true/\K.gl n=al v
noncomputable def BO(it:E):Bool:=match it with|.zip _ _=>true|.enum _=>true|_=>false
noncomputable def I9(ts:List Nat)(it:E):Bool:=if BO it=true then decide (ts.length≠1) else true
noncomputable def BR(e:E):Bool:=match e with|.nil=>true|_=>false
noncomputable def Is:E->Kx->(Expr->Prop)×(List Expr->Prop)
 |.cst x,_=>(lN x,λ_=>False)
 |.N i,K=>(Yw λn=>K.isVar n=true/\K.vars[i]? = al n,λ_=>False)
 |.ty t,K=>(Yw (K.to (.ty t)),λ_=>False)
 |.glb x,K=>(Yw (K.to (.cst x)),λ_=>False)
 |.B op a b,K=>(lQ op (Is a K).1 (Is b K).1,λ_=>False)
 |.neg a,K=>(kY .USub (Is a K).1,λ_=>False)
 |.not a,K=>(kY .Not (Is a K).1,λ_=>False)
 |.P op es,K=>(lP op (Is es K).2,λ_=>False)
 |.C op a b,K=>(lO op (Is a K).1 (Is b K).1,λ_=>False)
 |.nil,_=>(λ_=>False,OT)
 |.cons a r,K=>(λ_=>False,Nf (Is a K).1 (Is r K).2)
 |.tup es,K=>(kZ (Is es K).2,λ_=>False)
 |.lst es,K=>(lI (Is es K).2,λ_=>False)
 |.dct,_=>(lM,λ_=>False)
 |.aa a i,K=>(lC (Is a K).1 (Is i K).1,λ_=>False)
 |.slc a lo hi,K=>(lD (Is a K).1 (if BR lo then Nd else Nc (Is lo K).1) (if BR hi then Nd else Nc (Is hi K).1),λ_=>False)
 |.bi b es,K=>(GM (K.to (dR b)) (Is es K).2,λ_=>False)
 |.maxd a z,K=>(lH (K.to (.bi .max)) (Is a K).1 (Is z K).1,λ_=>False)
 |.sortr a,K=>(Yu (K.to (.bi .sorted)) (Is a K).1,λ_=>False)
 |.sortk rev a i key,K=>(eA (K.to (.bi .sorted)) (Is a K).1 (λnm sc b=>Ut K i nm sc=true/\(Is key (K.lsub nm sc)).1 b) rev,λ_=>False)
 |.F f es,K=>(GM (K.to (.fn f)) (Is es K).2,λ_=>False)
 |.H m o es,K=>(We (ACG (F5 m)) (Is o K).1 (Is es K).2,λ_=>False)
 |.R nm o,K=>(eJ nm (Is o K).1,λ_=>False)
 |.ac nm o es,K=>(We nm (Is o K).1 (Is es K).2,λ_=>False)
 |.new,K=>(GM (K.to .cls) OT,λ_=>False)
 |.D elt ts it ifs,K=>(eI (Is it K).1 (λsc=>IX K ts sc=true/\I9 ts it=true) (λsc=>IsT (K.sub ts sc) ts) (λsc=>(Is elt (K.sub ts sc)).1) (λsc=>(Is ifs (K.sub ts sc)).2),λ_=>False)
 |.range es,K=>(GM (K.to (.ty "range")) (Is es K).2,λ_=>False)
 |.zip a b,K=>(GM (K.to (.ty "zip")) (Nf (Is a K).1 (Nf (Is b K).1 OT)),λ_=>False)
 |.enum a,K=>(GM (K.to (.ty "enumerate")) (Nf (Is a K).1 OT),λ_=>False)
 |.glx k,K=>(Yw (K.to (gvE k)),λ_=>False)
noncomputable abbrev IsE(e:E)(K:Kx):Expr->Prop:=(Is e K).1
noncomputable abbrev Go(e:E)(K:Kx):List Expr->Prop:=(Is e K).2
noncomputable def Tm(K:Kx)(n:Str)(p:Pos)(v:Expr):Bool :=
 match v with
 |.ListComp _ _ sc vp=>(decide (K.names.lookup n=al .local)&&(decide (p.line=vp.line)&&!(sc.names.any λq=>q.1==n&&(q.2==.local||q.2==.cell))))||decide (K.names.lookup n=al .cell)
 |_=>false
def lR(P:Str->Prop)(A:Expr->Prop)(W:Str->Pos->Expr->Bool)(x_:Stmt):Prop:=∀R_:Stmt->Prop,(∀(n:Str) (p:Pos) (v:Expr) (p':Pos),P n->A v->W n p v=true->R_ (.Assign [.Name n p] v p'))->R_ x_
def kX(P:List Expr->Prop)(A:Expr->Prop)(x_:Stmt):Prop:=∀R_:Stmt->Prop,(∀(ts:List Expr) (k:Nat) (p:Pos) (v:Expr) (p':Pos),P ts->A v->R_ (.Assign [.Tuple ts k p] v p'))->R_ x_
def lA(P A:List Expr->Prop)(x_:Stmt):Prop:=∀R_:Stmt->Prop,(∀(ts:List Expr) (k:Nat) (p:Pos) (vs:List Expr) (k':Nat) (p' pos:Pos),P ts->A vs->R_ (.Assign [.Tuple ts k p] (.Tuple vs k' p') pos))->R_ x_
def lE(A B C:Expr->Prop)(x_:Stmt):Prop:=∀R_:Stmt->Prop,(∀(o i:Expr) (p:Pos) (v:Expr) (p':Pos),A v->B o->C i->R_ (.Assign [.Subscript o i p] v p'))->R_ x_
def lL(A:Expr->Prop)(x_:Stmt):Prop:=∀R_:Stmt->Prop,(∀(v:Expr) (p:Pos),A v->R_ (.Expr v p))->R_ x_
def lJ(A:Expr->Prop)(B C:List Stmt->Prop)(x_:Stmt):Prop:=∀R_:Stmt->Prop,(∀(t:Expr) (x y:List Stmt) (p:Pos),A t->B x->C y->R_ (.If t x y p))->R_ x_
def lK(P A:Expr->Prop)(B:List Stmt->Prop)(x_:Stmt):Prop:=∀R_:Stmt->Prop,(∀(t i:Expr) (b:List Stmt) (p:Pos),P t->A i->B b->R_ (.For t i b [] p))->R_ x_
def Yq(A:Expr->Prop)(B:List Stmt->Prop)(x_:Stmt):Prop:=∀R_:Stmt->Prop,(∀(t:Expr) (b:List Stmt) (p:Pos),A t->B b->R_ (.While t b [] p))->R_ x_
def lG(A:Expr->Prop)(x_:Stmt):Prop:=∀R_:Stmt->Prop,(∀(v:Expr) (p:Pos),A v->R_ (.Return (al v) p))->R_ x_
def eB(P:Str->Prop)(nm:Str)(x_:Stmt):Prop:=∀R_:Stmt->Prop,(∀(n:Str) (p1 p2 p3 p4:Pos),P n->R_ (.Assign [.Attribute (.Name n p1) nm p2] (.Dict [] [] p3) p4))->R_ x_
noncomputable def Tk(K:Kx)(a b c:Str)(pa pb pc:Pos)(vs:List Expr):Bool :=
 K.kd a .local&&K.kd b .local&&K.kd c .local&&pb.line==pa.line&&pc.line==pa.line&&[a,b,c].eraseDups.length==3&&vs.length==3&&!vs.all (foldedForSure 8)&&!vs.all (constantsAlone 8)
def lB(P:Str->Str->Str->Pos->Pos->Pos->List Expr->Prop)(A:List Expr->Prop)(x_:Stmt):Prop:=∀R_:Stmt->Prop,(∀(a b c:Str) (pa pb pc:Pos) (k:Nat) (p:Pos) (vs:List Expr) (k':Nat) (p' pos:Pos),P a b c pa pb pc vs->A vs->R_ (.Assign [.Tuple [.Name a pa,.Name b pb,.Name c pc] k p] (.Tuple vs k' p') pos))->R_ x_
def lF(P:Str->Prop)(A:List Expr->Prop)(x_:Stmt):Prop:=∀R_:Stmt->Prop,(∀(n:Str) (np:Pos) (vs:List Expr) (cp p:Pos),P n->A vs->vs.length<20->R_ (.Raise (al (.Call (.Name n np) vs [] cp)) az p))->R_ x_
noncomputable def eG(K:Kx):List (Nat×Nat×E)->List ExceptHandler->Prop
 |[],l=>l=[]
 |(k,i,e)::r,l=>∀R_:List ExceptHandler->Prop,(∀(n:Str) (np:Pos) (m:Str) (ex:Expr) (rp hp:Pos) (t:List ExceptHandler),K.to (.exc k) n->(K.canWr i m=true/\K.kd m .local=true)->IsE e K ex->eG K r t->R_ (.ExceptHandler (al (.Name n np)) (al m) [.Return (al ex) rp] hp::t))->R_ l
def Yr(A:List Stmt->Prop)(B:List ExceptHandler->Prop)(x_:Stmt):Prop:=∀R_:Stmt->Prop,(∀(b:List Stmt) (h:ExceptHandler) (hs:List ExceptHandler) (p:Pos),A b->B (h::hs)->R_ (.Try b (h::hs) [] [] p))->R_ x_
def Yv(A:Stmt->Prop)(B:List Stmt->Prop)(x_:List Stmt):Prop:=∀R_:List Stmt->Prop,(∀(x:Stmt) (t:List Stmt),A x->B t->R_ (x::t))->R_ x_
noncomputable def Iss:S->Kx->(Stmt->Prop)×(List Stmt->Prop)
 |.any,_=>(λ_=>True,λ_=>True)
 |.nil,_=>(λ_=>False,OT)
 |.cons s r,K=>(λ_=>False,Yv (Iss s K).1 (Iss r K).2)
 |.A x e,K=>(lR (λn=>K.canWr x n=true) (IsE e K) (λn p v=>bif CQ e then Tm K n p v else true),λ_=>False)
 |.unp xs e,K=>(kX (OS K xs) (IsE e K),λ_=>False)
 |.swp xs es,K=>(lA (λts=>OS K xs ts/\Iw K ts=true) (Go es K),λ_=>False)
 |.set o i v,K=>(lE (IsE v K) (IsE o K) (IsE i K),λ_=>False)
 |.exp e,K=>(lL (IsE e K),λ_=>False)
 |.I c a b,K=>(lJ (IsE c K) (Iss a K).2 (Iss b K).2,λ_=>False)
 |.L ts it body,K=>(lK (λt=>IsT K ts t/\I9 ts it=true) (IsE it K) (Iss body K).2,λ_=>False)
 |.while_ c body,K=>(Yq (IsE c K) (Iss body K).2,λ_=>False)
 |.ret e,K=>(lG (IsE e K),λ_=>False)
 |.swl i j l es,K=>(lB (λa b c pa pb pc vs=>(K.canWr i a=true/\K.canWr j b=true/\K.canWr l c=true)/\Tk K a b c pa pb pc vs=true) (Go es K),λ_=>False)
 |.rse k es,K=>(lF (K.to (.exc k)) (Go es K),λ_=>False)
 |.tryAs b hs,K=>(Yr (Iss b K).2 (eG K hs),λ_=>False)
 |.setd x nm,K=>(eB (λn=>K.kd n .local=true/\K.vars[x]? = al n/\(n==("__debug__" : Str))=false) nm,λ_=>False)
noncomputable abbrev IsS(e:S)(K:Kx):Stmt->Prop:=(Iss e K).1
noncomputable abbrev Yt(e:S)(K:Kx):List Stmt->Prop:=(Iss e K).2
structure Fn where
 np:Nat
 nv:Nat
 body:S
noncomputable abbrev E.i(k:Int):E:=.cst (.int k)
noncomputable abbrev E.s(k:String):E:=.cst (.str (ACG k))
noncomputable abbrev E.c(a b:E):E:=.cons a b
noncomputable abbrev E.o(a:E):E:=.cons a .nil
noncomputable abbrev E.t(a b:E):E:=.cons a (.cons b .nil)
noncomputable abbrev S.c(a b:S):S:=.cons a b
noncomputable abbrev S.o(a:S):S:=.cons a .nil
noncomputable abbrev S.F:S:=.cons (.ret (.cst (.bool false))) .nil
noncomputable abbrev sN(l:List String):List Str:=l.map ACG
noncomputable def Wm:Fn:=⟨1,2,(.c (.I (.P .Or (.t (.C .Lt (.bi .len (.o (.N 0))) (.i 1)) (.C .Gt (.bi .len (.o (.N 0))) (.glb (.int 12))))) .F .nil) (.c (.L [1] (.N 0) (.o (.I (.C .NotIn (.N 1) (.glb (.str (ACG "abcdefghijklmnopqrstuvwxyz0123456789")))) .F .nil))) (.o (.ret (.cst (.bool true))))))⟩
noncomputable def Wn:Fn:=⟨1,2,(.c (.I (.C .Gt (.bi .len (.o (.N 0))) (.glb (.int 200))) .F .nil) (.c (.L [1] (.N 0) (.o (.I (.P .Or (.t (.C .Lt (.bi .ord (.o (.N 1))) (.i 32)) (.C .Gt (.bi .ord (.o (.N 1))) (.i 126)))) .F .nil))) (.o (.ret (.cst (.bool true))))))⟩
noncomputable def Nk:Fn:=⟨2,5,(.c (.I (.not (.F 2 (.o (.N 0)))) .any .nil) (.c (.L [2] (.N 1) (.o (.I (.not (.F 2 (.o (.N 2)))) .any .nil))) (.c (.L [3,4] (.zip (.N 1) (.slc (.N 1) (.i 1) .nil)) (.o (.I (.C .GtE (.N 3) (.N 4)) .any .nil))) (.o (.I (.C .In (.N 0) (.N 1)) .any .nil)))))⟩
noncomputable def OV:Fn:=⟨1,1,(.c (.I (.P .And (.c (.C .NotEq (.aa (.N 0) (.i 0)) (.s "add")) (.t (.C .NotEq (.aa (.N 0) (.i 0)) (.s "cut")) (.C .NotEq (.aa (.N 0) (.i 0)) (.s "set"))))) .any .nil) (.c (.I (.P .And (.t (.C .NotEq (.aa (.N 0) (.i 0)) (.s "add")) (.C .Is (.aa (.N 0) (.i 1)) (.cst .none)))) .any .nil) (.o (.I (.P .And (.t (.C .NotEq (.aa (.N 0) (.i 0)) (.s "cut")) (.not (.F 3 (.o (.aa (.N 0) (.i 2))))))) .any .nil))))⟩
noncomputable def eY:Fn:=⟨1,5,(.c (.swl 1 2 3 (.c (.aa (.N 0) (.i 0)) (.t (.aa (.N 0) (.i 1)) (.aa (.N 0) (.i 2))))) (.c (.exp (.F 4 (.t (.N 1) (.N 2)))) (.c (.I (.C .Gt (.bi .len (.o (.N 3))) (.glb (.int 20))) .any .nil) (.c (.L [4] (.N 3) (.o (.exp (.F 5 (.o (.N 4)))))) (.o (.L [4] (.N 3) (.o (.I (.P .And (.c (.C .IsNot (.aa (.N 4) (.i 1)) (.cst .none)) (.t (.C .NotEq (.aa (.aa (.N 4) (.i 1)) (.i 0)) (.N 1)) (.C .NotIn (.aa (.aa (.N 4) (.i 1)) (.i 0)) (.N 2))))) .any .nil))))))))⟩
noncomputable def OW:Fn:=⟨1,2,(.o (.ret (.D (.N 1) [1] (.aa (.N 0) (.i 2)) (.o (.C .Eq (.aa (.N 1) (.i 0)) (.s "add"))))))⟩
noncomputable def Wh:Fn:=⟨2,4,(.c (.A 2 (.sortr (.N 0))) (.o (.ret (.sortk false (.N 2) 3 (.aa (.N 1) (.N 3))))))⟩
noncomputable def Pb:Fn:=⟨1,1,(.c (.setd 0 (ACG "held")) (.c (.setd 0 (ACG "grounds")) (.o (.setd 0 (ACG "heights")))))⟩
noncomputable def GO:Fn:=⟨2,6,(.c (.exp (.F 6 (.o (.N 1)))) (.c (.A 2 (.aa (.N 1) (.i 0))) (.c (.I (.C .In (.N 2) (.R (ACG "held") (.N 0))) .any .nil) (.c (.L [3] (.aa (.N 1) (.i 1)) (.o (.I (.C .NotIn (.N 3) (.R (ACG "held") (.N 0))) .any .nil))) (.c (.exp (.ac (ACG "check_marks") (.N 0) (.o (.N 1)))) (.c (.set (.R (ACG "held") (.N 0)) (.N 2) (.tup (.c (.N 2) (.t (.bi .list (.o (.aa (.N 1) (.i 1)))) (.bi .list (.o (.aa (.N 1) (.i 2)))))))) (.c (.A 4 (.dct)) (.c (.L [3] (.aa (.N 1) (.i 1)) (.c (.set (.N 4) (.N 3) (.cst (.bool true))) (.o (.L [5] (.aa (.R (ACG "grounds") (.N 0)) (.N 3)) (.o (.set (.N 4) (.N 5) (.cst (.bool true)))))))) (.c (.set (.R (ACG "grounds") (.N 0)) (.N 2) (.bi .sorted (.o (.bi .list (.o (.N 4)))))) (.o (.set (.R (ACG "heights") (.N 0)) (.N 2) (.B .Add (.i 1) (.maxd (.D (.aa (.R (ACG "heights") (.N 0)) (.N 3)) [3] (.aa (.N 1) (.i 1)) .nil) (.neg (.i 1)))))))))))))))⟩
noncomputable def GN:Fn:=⟨2,6,(.c (.A 2 (.i 0)) (.o (.L [3] (.aa (.N 1) (.i 2)) (.c (.A 4 (.aa (.N 3) (.i 1))) (.c (.I (.C .IsNot (.N 4) (.cst .none)) (.c (.A 5 (.N 2)) (.c (.I (.C .NotEq (.aa (.N 4) (.i 0)) (.aa (.N 1) (.i 0))) (.o (.A 5 (.bi .len (.o (.F 7 (.o (.aa (.R (ACG "held") (.N 0)) (.aa (.N 4) (.i 0))))))))) .nil) (.o (.I (.P .Or (.t (.C .Lt (.aa (.N 4) (.i 1)) (.i 0)) (.C .GtE (.aa (.N 4) (.i 1)) (.N 5)))) .any .nil)))) .nil) (.o (.I (.C .Eq (.aa (.N 3) (.i 0)) (.s "add")) (.o (.A 2 (.B .Add (.N 2) (.i 1)))) .nil)))))))⟩
noncomputable def Pa:Fn:=⟨2,2,(.o (.I (.C .NotIn (.N 1) (.R (ACG "held") (.N 0))) .any .nil))⟩
noncomputable def OZ:Fn:=⟨2,4,(.c (.exp (.ac (ACG "need") (.N 0) (.o (.N 1)))) (.c (.A 2 (.bi .sorted (.o (.B .Add (.ac (ACG "leaning") (.N 0) (.o (.N 1))) (.lst (.o (.N 1))))))) (.c (.L [3] (.N 2) (.c (.exp (.H .pop (.R (ACG "held") (.N 0)) (.o (.N 3)))) (.c (.exp (.H .pop (.R (ACG "grounds") (.N 0)) (.o (.N 3)))) (.o (.exp (.H .pop (.R (ACG "heights") (.N 0)) (.o (.N 3)))))))) (.o (.ret (.N 2))))))⟩
noncomputable def Nl:Fn:=⟨1,1,(.o (.ret (.bi .sorted (.o (.bi .list (.o (.R (ACG "held") (.N 0))))))))⟩
noncomputable def Lg:Fn:=⟨2,3,(.c (.exp (.ac (ACG "need") (.N 0) (.o (.N 1)))) (.c (.A 2 (.aa (.R (ACG "held") (.N 0)) (.N 1))) (.o (.ret (.tup (.c (.N 1) (.t (.bi .list (.o (.aa (.N 2) (.i 1)))) (.bi .list (.o (.aa (.N 2) (.i 2)))))))))))⟩
noncomputable def Le:Fn:=⟨2,2,(.c (.exp (.ac (ACG "need") (.N 0) (.o (.N 1)))) (.o (.ret (.aa (.R (ACG "heights") (.N 0)) (.N 1)))))⟩
noncomputable def Lf:Fn:=⟨2,2,(.c (.exp (.ac (ACG "need") (.N 0) (.o (.N 1)))) (.o (.ret (.bi .list (.o (.aa (.R (ACG "grounds") (.N 0)) (.N 1)))))))⟩
noncomputable def KH:Fn:=⟨2,3,(.c (.exp (.ac (ACG "need") (.N 0) (.o (.N 1)))) (.o (.ret (.D (.N 2) [2] (.ac (ACG "names") (.N 0) .nil) (.o (.C .In (.N 1) (.aa (.R (ACG "grounds") (.N 0)) (.N 2))))))))⟩
noncomputable def HP:Fn:=⟨1,9,(.c (.A 1 (.lst .nil)) (.c (.A 2 (.dct)) (.c (.A 3 (.dct)) (.c (.L [4] (.F 8 (.t (.bi .list (.o (.R (ACG "held") (.N 0)))) (.R (ACG "heights") (.N 0)))) (.c (.A 5 (.i 0)) (.o (.L [6] (.aa (.aa (.R (ACG "held") (.N 0)) (.N 4)) (.i 2)) (.o (.I (.C .Eq (.aa (.N 6) (.i 0)) (.s "add")) (.c (.A 7 (.tup (.t (.N 4) (.N 5)))) (.c (.A 5 (.B .Add (.N 5) (.i 1))) (.c (.A 8 (.i 0)) (.c (.I (.C .IsNot (.aa (.N 6) (.i 1)) (.cst .none)) (.o (.A 8 (.B .Add (.H .index (.N 1) (.o (.aa (.N 6) (.i 1)))) (.i 1)))) .nil) (.c (.exp (.H .insert (.N 1) (.t (.N 8) (.N 7)))) (.o (.set (.N 2) (.N 7) (.aa (.N 6) (.i 2))))))))) (.o (.I (.C .Eq (.aa (.N 6) (.i 0)) (.s "set")) (.o (.set (.N 2) (.aa (.N 6) (.i 1)) (.aa (.N 6) (.i 2)))) (.o (.set (.N 3) (.aa (.N 6) (.i 1)) (.cst (.bool true)))))))))))) (.o (.ret (.tup (.c (.N 1) (.t (.N 2) (.N 3))))))))))⟩
noncomputable def Qg:Fn:=⟨1,1,(.o (.ret (.aa (.ac (ACG "grown") (.N 0) .nil) (.i 0))))⟩
noncomputable def OX:Fn:=⟨1,5,(.c (.unp [1,2,3] (.ac (ACG "grown") (.N 0) .nil)) (.o (.ret (.D (.tup (.t (.N 4) (.aa (.N 2) (.N 4)))) [4] (.N 1) (.o (.C .NotIn (.N 4) (.N 3)))))))⟩
noncomputable def OY:Fn:=⟨1,2,(.o (.ret (.D (.aa (.N 1) (.i 1)) [1] (.ac (ACG "told") (.N 0) .nil) .nil)))⟩
noncomputable def KG:Fn:=⟨1,4,(.c (.A 1 (.dct)) (.c (.L [2] (.ac (ACG "names") (.N 0) .nil) (.o (.L [3] (.aa (.aa (.R (ACG "held") (.N 0)) (.N 2)) (.i 2)) (.o (.I (.P .And (.t (.C .Eq (.aa (.N 3) (.i 0)) (.s "set")) (.C .NotIn (.N 2) (.H .get (.N 1) (.t (.aa (.N 3) (.i 1)) (.lst .nil)))))) (.o (.set (.N 1) (.aa (.N 3) (.i 1)) (.B .Add (.H .get (.N 1) (.t (.aa (.N 3) (.i 1)) (.lst .nil))) (.lst (.o (.N 2)))))) .nil))))) (.o (.ret (.N 1)))))⟩
noncomputable def I0:Fn:=⟨2,5,(.c (.A 2 (.lst .nil)) (.c (.L [3] (.N 1) (.o (.I (.not (.bi .any (.o (.D (.C .In (.N 3) (.aa (.R (ACG "grounds") (.N 0)) (.N 4))) [4] (.N 1) .nil)))) (.o (.exp (.H .append (.N 2) (.o (.N 3))))) .nil))) (.o (.ret (.N 2)))))⟩
noncomputable def Iz:Fn:=⟨1,5,(.c (.A 1 (.lst .nil)) (.c (.A 2 (.ac (ACG "setters") (.N 0) .nil)) (.c (.L [3] (.ac (ACG "told") (.N 0) .nil) (.c (.A 4 (.ac (ACG "open_ones") (.N 0) (.o (.H .get (.N 2) (.t (.aa (.N 3) (.i 0)) (.lst .nil)))))) (.o (.I (.C .Gt (.bi .len (.o (.N 4))) (.i 1)) (.o (.exp (.H .append (.N 1) (.o (.tup (.t (.aa (.N 3) (.i 0)) (.N 4))))))) .nil)))) (.o (.ret (.N 1))))))⟩
noncomputable def Y2:Fn:=⟨2,4,(.c (.A 2 (.new)) (.c (.L [3] (.sortk false (.bi .sorted (.o (.bi .list (.o (.N 0))))) 3 (.aa (.N 1) (.N 3))) (.o (.exp (.ac (ACG "add") (.N 2) (.o (.aa (.N 0) (.N 3))))))) (.o (.ret (.N 2)))))⟩
noncomputable def KI:Fn:=⟨2,5,(.c (.A 2 (.dct)) (.c (.A 3 (.dct)) (.c (.L [4] (.ac (ACG "names") (.N 0) .nil) (.c (.set (.N 2) (.N 4) (.ac (ACG "change") (.N 0) (.o (.N 4)))) (.o (.set (.N 3) (.N 4) (.ac (ACG "height") (.N 0) (.o (.N 4))))))) (.c (.L [4] (.ac (ACG "names") (.N 1) .nil) (.c (.I (.P .And (.t (.C .In (.N 4) (.N 2)) (.C .NotEq (.aa (.N 2) (.N 4)) (.ac (ACG "change") (.N 1) (.o (.N 4)))))) (.o (.rse 7 (.o (.s "a name has two different changes")))) .nil) (.c (.set (.N 2) (.N 4) (.ac (ACG "change") (.N 1) (.o (.N 4)))) (.o (.set (.N 3) (.N 4) (.ac (ACG "height") (.N 1) (.o (.N 4)))))))) (.o (.ret (.F 76 (.t (.N 2) (.N 3)))))))))⟩
noncomputable def lV:Fn:=⟨2,2,(.c (.I (.C .Lt (.N 1) (.bi .len (.o (.N 0)))) (.o (.ret (.aa (.N 0) (.N 1)))) .nil) (.o (.ret (.i 0))))⟩
noncomputable def Wk:Fn:=⟨2,2,(.o (.ret (.B .Mod (.B .Mult (.B .Add (.N 0) (.B .Mult (.i 7919) (.N 1))) (.i 48271)) (.i 2147483647))))⟩
noncomputable def Wi:Fn:=⟨2,7,(.c (.A 2 (.s "abcdefghijklmnopqrstuvwxyz0123456789")) (.c (.A 3 (.F 10 (.t (.N 0) (.i 5)))) (.c (.A 4 (.H .join (.s "") (.o (.D (.aa (.N 2) (.B .Mod (.F 10 (.t (.N 0) (.N 5))) (.i 36))) [5] (.range (.o (.B .Add (.i 1) (.B .Mod (.N 3) (.i 12))))) .nil)))) (.c (.I (.C .Eq (.B .Mod (.N 0) (.i 8)) (.i 1)) (.o (.A 4 (.bi .str (.o (.B .Mod (.N 3) (.i 130)))))) .nil) (.c (.I (.P .And (.t (.C .Eq (.B .Mod (.N 0) (.i 8)) (.i 2)) (.N 1))) (.o (.A 4 (.B .Add (.slc (.aa (.N 1) (.neg (.i 1))) .nil (.i 11)) (.aa (.N 2) (.B .Mod (.N 3) (.i 36)))))) .nil) (.c (.I (.P .And (.t (.C .Gt (.B .Mod (.N 0) (.i 8)) (.i 4)) (.N 1))) (.c (.A 4 (.aa (.N 1) (.B .Mod (.N 3) (.bi .len (.o (.N 1)))))) (.c (.A 6 (.B .Mod (.B .FloorDiv (.N 3) (.i 60)) (.bi .len (.o (.N 4))))) (.o (.A 4 (.B .Add (.B .Add (.slc (.N 4) .nil (.N 6)) (.aa (.N 2) (.B .Mod (.B .FloorDiv (.N 3) (.i 720)) (.i 36)))) (.slc (.N 4) (.B .Add (.N 6) (.i 1)) .nil)))))) .nil) (.c (.I (.C .NotIn (.N 4) (.N 1)) (.o (.ret (.N 4))) .nil) (.o (.ret (.aa (.D (.bi .str (.o (.N 5))) [5] (.range (.o (.B .Add (.bi .len (.o (.N 1))) (.i 1)))) (.o (.C .NotIn (.bi .str (.o (.N 5))) (.N 1)))) (.i 0)))))))))))⟩
noncomputable def Wl:Fn:=⟨1,5,(.c (.A 1 (.cst (.str (ACG " !\"#$&'()*+,-./0123456789:;<=>?\x40ABCDEFGHIJKLMNOPQRSTUVWXYZ[\\]^_`")))) (.c (.A 1 (.B .Add (.N 1) (.s "abcdefghijklmnopqrstuvwxyz{|}~"))) (.c (.A 2 (.B .Mod (.N 0) (.i 4))) (.c (.I (.C .Eq (.B .Mod (.B .FloorDiv (.N 0) (.i 4)) (.i 9)) (.i 1)) (.o (.A 2 (.B .Mod (.B .FloorDiv (.N 0) (.i 36)) (.i 201)))) .nil) (.c (.A 3 (.H .join (.s "") (.o (.D (.aa (.N 1) (.B .Mod (.B .Add (.B .FloorDiv (.N 0) (.i 7)) (.B .Mult (.N 4) (.B .Add (.i 1) (.B .Mod (.N 0) (.i 5))))) (.i 94))) [4] (.range (.o (.N 2))) .nil)))) (.c (.I (.P .And (.t (.C .Eq (.B .Mod (.B .FloorDiv (.N 0) (.i 3)) (.i 8)) (.i 1)) (.C .Lt (.N 2) (.i 199)))) (.o (.ret (.B .Add (.B .Add (.slc (.N 3) .nil (.i 1)) (.s ": ")) (.slc (.N 3) (.i 1) .nil)))) .nil) (.o (.ret (.N 3)))))))))⟩
noncomputable def Qe:Fn:=⟨2,7,(.c (.A 2 (.F 10 (.t (.N 0) (.i 1)))) (.c (.A 3 (.lst .nil)) (.c (.L [4,5] (.enum (.N 1)) (.c (.A 6 (.P .And (.t (.C .Eq (.N 4) (.B .Sub (.bi .len (.o (.N 1))) (.i 1))) (.C .Eq (.B .Mod (.N 0) (.i 7)) (.i 3))))) (.c (.I (.P .Or (.t (.N 6) (.P .And (.t (.C .Eq (.B .Mod (.N 2) (.B .Add (.i 2) (.B .Mod (.N 0) (.i 3)))) (.i 0)) (.P .Or (.t (.C .Lt (.bi .len (.o (.N 1))) (.i 20)) (.C .Eq (.B .Mod (.N 4) (.i 7)) (.B .Mod (.B .FloorDiv (.N 2) (.i 4)) (.i 7))))))))) (.o (.exp (.H .append (.N 3) (.o (.aa (.N 5) (.i 0)))))) .nil) (.c (.A 2 (.B .FloorDiv (.N 2) (.i 3))) (.o (.I (.C .Lt (.N 2) (.i 100)) (.o (.A 2 (.F 10 (.t (.N 0) (.B .Add (.N 4) (.i 2)))))) .nil)))))) (.o (.ret (.bi .sorted (.o (.N 3))))))))⟩
noncomputable def eU:Fn:=⟨1,4,(.c (.A 1 (.bi .len (.o (.D (.N 2) [2] (.aa (.N 0) (.i 2)) (.o (.C .Eq (.aa (.N 2) (.i 0)) (.s "add"))))))) (.o (.ret (.D (.tup (.t (.aa (.N 0) (.i 0)) (.N 3))) [3] (.range (.o (.N 1))) .nil))))⟩
noncomputable def Qf:Fn:=⟨4,13,(.c (.A 4 (.lst .nil)) (.c (.A 5 (.i 0)) (.c (.L [6] (.range (.o (.N 2))) (.c (.A 7 (.B .Add (.N 3) (.D (.tup (.t (.N 0) (.N 12))) [12] (.range (.o (.N 5))) .nil))) (.c (.A 8 (.F 10 (.t (.N 1) (.N 6)))) (.c (.A 9 (.B .Mod (.B .FloorDiv (.N 8) (.i 5)) (.B .Add (.bi .len (.o (.N 7))) (.i 1)))) (.c (.A 10 (.F 12 (.o (.B .FloorDiv (.N 8) (.i 365))))) (.o (.I (.P .Or (.t (.C .Lt (.B .Mod (.N 8) (.i 5)) (.i 3)) (.not (.N 7)))) (.c (.A 11 (.cst .none)) (.c (.I (.C .Gt (.N 9) (.i 0)) (.o (.A 11 (.aa (.N 7) (.B .Sub (.N 9) (.i 1))))) .nil) (.c (.exp (.H .append (.N 4) (.o (.tup (.c (.s "add") (.t (.N 11) (.N 10))))))) (.o (.A 5 (.B .Add (.N 5) (.i 1))))))) (.o (.I (.C .Eq (.B .Mod (.N 8) (.i 5)) (.i 3)) (.o (.exp (.H .append (.N 4) (.o (.tup (.t (.s "cut") (.aa (.N 7) (.B .Mod (.N 9) (.bi .len (.o (.N 7))))))))))) (.o (.exp (.H .append (.N 4) (.o (.tup (.c (.s "set") (.t (.aa (.N 7) (.B .Mod (.N 9) (.bi .len (.o (.N 7))))) (.N 10))))))))))))))))) (.o (.ret (.N 4))))))⟩
noncomputable def HO:Fn:=⟨2,10,(.c (.A 2 (.lst .nil)) (.c (.A 3 (.lst (.o (.s "0")))) (.c (.L [4] (.range (.o (.bi .min (.t (.B .FloorDiv (.bi .len (.o (.N 0))) (.i 4)) (.N 1))))) (.c (.A 5 (.F 11 (.t (.aa (.N 0) (.B .Mult (.i 4) (.N 4))) (.N 3)))) (.c (.exp (.H .append (.N 3) (.o (.N 5)))) (.c (.A 6 (.F 13 (.t (.aa (.N 0) (.B .Add (.B .Mult (.i 4) (.N 4)) (.i 1))) (.N 2)))) (.c (.A 7 (.lst .nil)) (.c (.L [8] (.N 2) (.o (.I (.C .In (.aa (.N 8) (.i 0)) (.N 6)) (.o (.A 7 (.B .Add (.N 7) (.F 14 (.o (.N 8)))))) .nil))) (.c (.A 9 (.B .Mod (.aa (.N 0) (.B .Add (.B .Mult (.i 4) (.N 4)) (.i 3))) (.i 5))) (.c (.I (.C .Eq (.B .Mod (.B .FloorDiv (.aa (.N 0) (.B .Add (.B .Mult (.i 4) (.N 4)) (.i 3))) (.i 5)) (.i 16)) (.i 1)) (.o (.A 9 (.B .Sub (.i 20) (.B .Mod (.B .FloorDiv (.aa (.N 0) (.B .Add (.B .Mult (.i 4) (.N 4)) (.i 3))) (.i 80)) (.i 16))))) .nil) (.o (.exp (.H .append (.N 2) (.o (.tup (.c (.N 5) (.t (.N 6) (.F 15 (.c (.N 5) (.c (.aa (.N 0) (.B .Add (.B .Mult (.i 4) (.N 4)) (.i 2))) (.t (.N 9) (.N 7)))))))))))))))))))) (.o (.ret (.N 2))))))⟩
noncomputable def ZC:Fn:=⟨1,1,(.o (.ret (.tup (.c (.aa (.N 0) (.i 0)) (.t (.bi .list (.o (.aa (.N 0) (.i 1)))) (.bi .list (.o (.aa (.N 0) (.i 2)))))))))⟩
noncomputable def Wo:Fn:=⟨1,4,(.c (.A 1 (.dct)) (.c (.L [2] (.N 0) (.o (.set (.N 1) (.aa (.N 2) (.i 0)) (.maxd (.D (.B .Add (.aa (.N 1) (.N 3)) (.i 1)) [3] (.aa (.N 2) (.i 1)) .nil) (.i 0))))) (.o (.ret (.N 1)))))⟩
noncomputable def Wj:Fn:=⟨1,12,(.c (.A 1 (.F 19 (.o (.N 0)))) (.c (.A 2 (.sortk true (.N 0) 3 (.aa (.N 3) (.i 0)))) (.c (.swp [4,5,6] (.c (.lst .nil) (.t (.dct) (.dct)))) (.c (.L [3] (.sortk false (.N 2) 9 (.aa (.N 1) (.aa (.N 9) (.i 0)))) (.c (.A 7 (.i 0)) (.o (.L [8] (.aa (.N 3) (.i 2)) (.o (.I (.C .Eq (.aa (.N 8) (.i 0)) (.s "add")) (.c (.A 10 (.i 0)) (.c (.I (.C .IsNot (.aa (.N 8) (.i 1)) (.cst .none)) (.o (.A 10 (.B .Add (.H .index (.N 4) (.o (.aa (.N 8) (.i 1)))) (.i 1)))) .nil) (.c (.exp (.H .insert (.N 4) (.t (.N 10) (.tup (.t (.aa (.N 3) (.i 0)) (.N 7)))))) (.c (.set (.N 5) (.tup (.t (.aa (.N 3) (.i 0)) (.N 7))) (.aa (.N 8) (.i 2))) (.o (.A 7 (.B .Add (.N 7) (.i 1)))))))) (.o (.I (.C .Eq (.aa (.N 8) (.i 0)) (.s "set")) (.o (.set (.N 5) (.aa (.N 8) (.i 1)) (.aa (.N 8) (.i 2)))) (.o (.set (.N 6) (.aa (.N 8) (.i 1)) (.cst (.bool true)))))))))))) (.o (.ret (.tup (.t (.N 4) (.D (.tup (.t (.N 11) (.aa (.N 5) (.N 11)))) [11] (.N 4) (.o (.C .NotIn (.N 11) (.N 6))))))))))))⟩
noncomputable def Yy:Fn:=⟨2,6,(.c (.unp [2,3] (.F 20 (.o (.N 1)))) (.c (.I (.P .And (.t (.C .Eq (.B .Mod (.bi .len (.o (.N 2))) (.i 2)) (.i 1)) (.C .NotEq (.ac (ACG "text") (.N 0) .nil) (.D (.aa (.N 4) (.i 1)) [4] (.N 3) .nil)))) .F .nil) (.c (.I (.P .And (.t (.C .Eq (.B .Mod (.bi .len (.o (.N 3))) (.i 2)) (.i 1)) (.C .NotEq (.ac (ACG "told") (.N 0) .nil) (.N 3)))) .F .nil) (.c (.I (.P .Or (.c (.C .NotEq (.ac (ACG "row") (.N 0) .nil) (.N 2)) (.t (.C .NotEq (.ac (ACG "told") (.N 0) .nil) (.N 3)) (.C .NotEq (.ac (ACG "text") (.N 0) .nil) (.D (.aa (.N 4) (.i 1)) [4] (.N 3) .nil))))) .F .nil) (.o (.ret (.C .Eq (.ac (ACG "names") (.N 0) .nil) (.bi .sorted (.o (.D (.aa (.N 5) (.i 0)) [5] (.N 1) .nil))))))))))⟩
noncomputable def eO:Fn:=⟨1,3,(.c (.A 1 (.new)) (.c (.L [2] (.N 0) (.o (.exp (.ac (ACG "add") (.N 1) (.o (.F 17 (.o (.N 2)))))))) (.o (.ret (.N 1)))))⟩
noncomputable def Y0:Fn:=⟨2,7,(.c (.A 2 (.dct)) (.c (.L [3] (.N 0) (.o (.set (.N 2) (.aa (.N 3) (.i 0)) (.aa (.N 3) (.i 1))))) (.c (.A 4 (.lst .nil)) (.c (.A 5 (.bi .list (.o (.N 1)))) (.c (.while_ (.N 5) (.c (.A 6 (.H .pop (.N 5) .nil)) (.o (.I (.C .NotIn (.N 6) (.N 4)) (.c (.exp (.H .append (.N 4) (.o (.N 6)))) (.o (.exp (.H .extend (.N 5) (.o (.aa (.N 2) (.N 6))))))) .nil)))) (.o (.ret (.N 4))))))))⟩
noncomputable def Y1:Fn:=⟨2,4,(.c (.A 2 (.F 28 (.t (.N 0) (.N 1)))) (.o (.ret (.D (.N 3) [3] (.N 0) (.o (.C .In (.aa (.N 3) (.i 0)) (.N 2)))))))⟩
noncomputable def lS:Fn:=⟨2,6,(.c (.A 2 (.F 10 (.t (.N 1) (.i 3)))) (.c (.A 3 (.lst .nil)) (.c (.L [4,5] (.enum (.N 0)) (.c (.I (.C .Eq (.B .Mod (.N 2) (.i 3)) (.i 0)) (.o (.exp (.H .append (.N 3) (.o (.aa (.N 5) (.i 0)))))) .nil) (.c (.A 2 (.B .FloorDiv (.N 2) (.i 3))) (.o (.I (.C .Lt (.N 2) (.i 3)) (.o (.A 2 (.F 10 (.t (.N 1) (.B .Add (.N 4) (.i 4)))))) .nil))))) (.o (.ret (.N 3))))))⟩
noncomputable def Qc:Fn:=⟨2,8,(.c (.A 2 (.lst .nil)) (.c (.L [3] (.N 0) (.o (.I (.C .Gt (.bi .len (.o (.D (.N 4) [4] (.aa (.N 3) (.i 2)) (.o (.P .And (.t (.C .Eq (.aa (.N 4) (.i 0)) (.s "set")) (.C .Eq (.aa (.N 4) (.i 1)) (.N 1)))))))) (.i 0)) (.o (.exp (.H .append (.N 2) (.o (.aa (.N 3) (.i 0)))))) .nil))) (.c (.A 5 (.lst .nil)) (.c (.L [6] (.N 2) (.o (.I (.not (.bi .any (.o (.D (.C .In (.N 6) (.F 28 (.t (.N 0) (.lst (.o (.N 7)))))) [7] (.N 2) (.o (.C .NotEq (.N 7) (.N 6))))))) (.o (.exp (.H .append (.N 5) (.o (.N 6))))) .nil))) (.o (.ret (.bi .sorted (.o (.N 5)))))))))⟩
noncomputable def Qd:Fn:=⟨1,5,(.c (.A 1 (.lst .nil)) (.c (.L [2,3] (.aa (.F 20 (.o (.N 0))) (.i 1)) (.c (.A 4 (.F 31 (.t (.N 0) (.N 2)))) (.o (.I (.C .Gt (.bi .len (.o (.N 4))) (.i 1)) (.o (.exp (.H .append (.N 1) (.o (.tup (.t (.N 2) (.N 4))))))) .nil)))) (.o (.ret (.N 1)))))⟩
noncomputable def eV:Fn:=⟨3,10,(.c (.I (.P .And (.t (.C .Eq (.B .Mod (.N 2) (.i 2)) (.i 1)) (.C .NotEq (.ac (ACG "questions") (.N 0) .nil) (.F 60 (.o (.N 1)))))) .F .nil) (.c (.A 3 (.F 19 (.o (.N 1)))) (.c (.L [4] (.range (.o (.bi .min (.t (.i 4) (.bi .len (.o (.N 1))))))) (.c (.A 5 (.aa (.N 1) (.B .Mod (.B .Add (.N 2) (.N 4)) (.bi .len (.o (.N 1)))))) (.c (.A 6 (.aa (.N 5) (.i 0))) (.c (.A 7 (.bi .sorted (.o (.F 28 (.t (.N 1) (.lst (.o (.N 6)))))))) (.c (.A 8 (.D (.aa (.N 9) (.i 0)) [9] (.N 1) (.o (.C .In (.N 6) (.F 28 (.t (.N 1) (.lst (.o (.aa (.N 9) (.i 0)))))))))) (.c (.I (.P .And (.t (.C .Eq (.B .Mod (.B .FloorDiv (.N 2) (.i 2)) (.i 2)) (.i 1)) (.C .NotEq (.bi .sorted (.o (.B .Add (.ac (ACG "leaning") (.N 0) (.o (.N 6))) (.lst (.o (.N 6)))))) (.bi .sorted (.o (.N 8)))))) .F .nil) (.c (.I (.P .Or (.t (.C .NotEq (.ac (ACG "height") (.N 0) (.o (.N 6))) (.aa (.N 3) (.N 6))) (.C .NotEq (.ac (ACG "change") (.N 0) (.o (.N 6))) (.N 5)))) .F .nil) (.c (.I (.C .NotEq (.bi .sorted (.o (.B .Add (.ac (ACG "ground") (.N 0) (.o (.N 6))) (.lst (.o (.N 6)))))) (.N 7)) .F .nil) (.o (.I (.C .NotEq (.bi .sorted (.o (.B .Add (.ac (ACG "leaning") (.N 0) (.o (.N 6))) (.lst (.o (.N 6)))))) (.bi .sorted (.o (.N 8)))) .F .nil)))))))))) (.o (.ret (.C .Eq (.ac (ACG "questions") (.N 0) .nil) (.F 60 (.o (.N 1)))))))))⟩
noncomputable def Ni:Fn:=⟨3,3,(.c (.I (.P .And (.t (.C .Eq (.B .Mod (.B .FloorDiv (.N 2) (.i 4)) (.i 2)) (.i 1)) (.not (.F 61 (.c (.N 0) (.t (.N 1) (.N 2))))))) .F .nil) (.o (.ret (.P .And (.t (.F 26 (.t (.N 0) (.N 1))) (.F 61 (.c (.N 0) (.t (.N 1) (.N 2)))))))))⟩
noncomputable def eP:Fn:=⟨3,5,(.c (.A 3 (.D (.aa (.N 4) (.i 0)) [4] (.B .Add (.N 0) (.N 1)) .nil)) (.o (.ret (.D (.N 4) [4] (.N 2) (.o (.C .In (.aa (.N 4) (.i 0)) (.N 3)))))))⟩
noncomputable def OU:Fn:=⟨2,3,(.c (.L [2] (.slc (.N 0) .nil (.N 1)) (.o (.I (.C .NotIn (.aa (.N 2) (.i 0)) (.aa (.aa (.N 0) (.N 1)) (.i 1))) (.o (.ret (.bi .sorted (.o (.B .Add (.aa (.aa (.N 0) (.N 1)) (.i 1)) (.lst (.o (.aa (.N 2) (.i 0))))))))) .nil))) (.o (.ret (.aa (.aa (.N 0) (.N 1)) (.i 1)))))⟩
noncomputable def Ld:Fn:=⟨2,2,(.c (.I (.C .Eq (.aa (.N 0) (.i 0)) (.s "cut")) (.o (.ret (.tup (.c (.s "set") (.t (.aa (.N 0) (.i 1)) (.s "")))))) .nil) (.c (.I (.P .And (.t (.C .Eq (.B .Mod (.N 1) (.i 2)) (.i 1)) (.C .Lt (.bi .len (.o (.aa (.N 0) (.i 2)))) (.i 200)))) (.o (.ret (.tup (.c (.aa (.N 0) (.i 0)) (.t (.aa (.N 0) (.i 1)) (.B .Add (.aa (.N 0) (.i 2)) (.s "!"))))))) .nil) (.c (.I (.P .And (.t (.C .Eq (.aa (.N 0) (.i 0)) (.s "add")) (.C .IsNot (.aa (.N 0) (.i 1)) (.cst .none)))) (.o (.ret (.tup (.c (.s "add") (.t (.cst .none) (.aa (.N 0) (.i 2))))))) .nil) (.o (.ret (.tup (.c (.aa (.N 0) (.i 0)) (.t (.aa (.N 0) (.i 1)) (.slc (.aa (.N 0) (.i 2)) (.i 1) .nil)))))))))⟩
noncomputable def HN:Fn:=⟨2,3,(.c (.A 2 (.aa (.aa (.N 0) (.N 1)) (.i 1))) (.c (.I (.P .And (.t (.C .IsNot (.N 2) (.cst .none)) (.C .Gt (.aa (.N 2) (.i 1)) (.i 0)))) (.o (.ret (.B .Add (.B .Add (.slc (.N 0) .nil (.N 1)) (.lst (.o (.B .Add (.tup (.t (.aa (.aa (.N 0) (.N 1)) (.i 0)) (.tup (.t (.aa (.N 2) (.i 0)) (.B .Sub (.aa (.N 2) (.i 1)) (.i 1)))))) (.slc (.aa (.N 0) (.N 1)) (.i 2) .nil))))) (.slc (.N 0) (.B .Add (.N 1) (.i 1)) .nil)))) .nil) (.c (.I (.P .And (.c (.C .NotEq (.aa (.aa (.N 0) (.N 1)) (.i 0)) (.s "add")) (.t (.C .Lt (.B .Add (.N 1) (.i 1)) (.bi .len (.o (.N 0)))) (.C .NotEq (.aa (.aa (.N 0) (.B .Add (.N 1) (.i 1))) (.i 0)) (.s "add"))))) (.o (.ret (.B .Add (.B .Add (.slc (.N 0) .nil (.N 1)) (.lst (.t (.aa (.N 0) (.B .Add (.N 1) (.i 1))) (.aa (.N 0) (.N 1))))) (.slc (.N 0) (.B .Add (.N 1) (.i 2)) .nil)))) .nil) (.o (.ret (.N 0))))))⟩
noncomputable def FS:Fn:=⟨2,8,(.c (.A 2 (.B .Mod (.N 1) (.bi .len (.o (.N 0))))) (.c (.unp [3,4,5] (.aa (.N 0) (.N 2))) (.c (.A 6 (.B .Mod (.B .FloorDiv (.N 1) (.i 60)) (.i 5))) (.c (.I (.P .And (.t (.C .Eq (.N 6) (.i 0)) (.C .Lt (.bi .len (.o (.N 5))) (.i 20)))) (.o (.A 5 (.B .Add (.N 5) (.lst (.o (.tup (.c (.s "add") (.t (.cst .none) (.s ""))))))))) .nil) (.c (.I (.C .Eq (.N 6) (.i 1)) (.o (.A 4 (.F 92 (.t (.N 0) (.N 2))))) .nil) (.c (.I (.P .And (.t (.C .Eq (.N 6) (.i 2)) (.N 5))) (.c (.A 7 (.B .Mod (.B .FloorDiv (.N 1) (.i 300)) (.bi .len (.o (.N 5))))) (.o (.A 5 (.B .Add (.B .Add (.slc (.N 5) .nil (.N 7)) (.lst (.o (.F 93 (.t (.aa (.N 5) (.N 7)) (.B .FloorDiv (.N 1) (.i 6000))))))) (.slc (.N 5) (.B .Add (.N 7) (.i 1)) .nil))))) .nil) (.c (.I (.P .And (.t (.C .Gt (.N 6) (.i 2)) (.N 5))) (.o (.A 5 (.F 94 (.t (.N 5) (.B .Mod (.B .FloorDiv (.N 1) (.i 300)) (.bi .len (.o (.N 5)))))))) .nil) (.o (.ret (.B .Add (.B .Add (.slc (.N 0) .nil (.N 2)) (.lst (.o (.tup (.c (.N 3) (.t (.N 4) (.N 5))))))) (.slc (.N 0) (.B .Add (.N 2) (.i 1)) .nil)))))))))))⟩
noncomputable def eZ:Fn:=⟨1,3,(.c (.A 1 (.lst (.c (.bi .isinstance (.t (.N 0) (.glx 2))) (.c (.bi .isinstance (.t (.N 0) (.glx 3))) (.t (.bi .isinstance (.t (.N 0) (.glx 4))) (.bi .isinstance (.t (.N 0) (.glx 5)))))))) (.c (.A 1 (.B .Add (.N 1) (.lst (.c (.bi .isinstance (.t (.N 0) (.glx 6))) (.c (.bi .isinstance (.t (.N 0) (.glx 7))) (.t (.bi .isinstance (.t (.N 0) (.glx 8))) (.bi .isinstance (.t (.N 0) (.glx 9))))))))) (.o (.ret (.P .And (.c (.C .Eq (.bi .len (.o (.D (.N 2) [2] (.N 1) (.o (.N 2))))) (.i 1)) (.t (.bi .isinstance (.t (.N 0) (.glx 1))) (.bi .isinstance (.t (.N 0) (.ty "ValueError"))))))))))⟩
noncomputable def Wg:Fn:=⟨2,3,(.c (.tryAs (.o (.exp (.F 90 (.t (.N 0) (.N 1))))) [(7,2,.F 73 (.cons (.N 2) .nil))]) .F)⟩
noncomputable def eW:Fn:=⟨2,4,(.c (.L [2] (.N 0) (.o (.L [3] (.N 1) (.o (.I (.P .And (.t (.C .Eq (.aa (.N 2) (.i 0)) (.aa (.N 3) (.i 0))) (.C .NotEq (.N 2) (.N 3)))) (.o (.ret (.cst (.bool true)))) .nil))))) .F)⟩
noncomputable def lT:Fn:=⟨2,3,(.o (.L [2] (.lst (.c (.ac (ACG "row") (.N 0) .nil) (.c (.ac (ACG "told") (.N 0) .nil) (.c (.ac (ACG "names") (.N 0) .nil) (.t (.ac (ACG "text") (.N 0) .nil) (.ac (ACG "questions") (.N 0) .nil)))))) (.o (.exp (.H .append (.N 1) (.o (.tup (.t (.N 2) (.bi .repr (.o (.N 2)))))))))))⟩
noncomputable def lU:Fn:=⟨1,3,(.o (.ret (.bi .all (.o (.D (.C .Eq (.bi .repr (.o (.N 1))) (.N 2)) [1,2] (.N 0) .nil)))))⟩
noncomputable def Nj:Fn:=⟨3,9,(.c (.A 3 (.F 91 (.c (.aa (.N 1) (.i 0)) (.t (.aa (.N 1) (.i 1)) (.N 2))))) (.c (.A 4 (.F 90 (.t (.aa (.N 0) (.i 0)) (.aa (.N 0) (.i 1))))) (.c (.I (.P .Or (.t (.not (.bi .isinstance (.t (.N 4) (.glx 0)))) (.not (.F 62 (.c (.N 4) (.t (.N 3) (.B .FloorDiv (.bi .len (.o (.N 3))) (.i 2)))))))) .F .nil) (.c (.I (.P .Or (.t (.not (.F 26 (.t (.F 90 (.t (.aa (.N 0) (.i 1)) (.aa (.N 0) (.i 0)))) (.N 3)))) (.not (.F 26 (.t (.F 90 (.t (.aa (.N 0) (.i 0)) (.aa (.N 0) (.i 0)))) (.aa (.N 1) (.i 0))))))) .F .nil) (.c (.A 5 (.F 91 (.c (.N 3) (.t (.aa (.N 1) (.i 2)) (.N 2))))) (.c (.I (.not (.F 26 (.t (.F 90 (.t (.N 4) (.aa (.N 0) (.i 2)))) (.N 5)))) .F .nil) (.c (.I (.not (.F 26 (.t (.F 90 (.t (.aa (.N 0) (.i 0)) (.F 90 (.t (.aa (.N 0) (.i 1)) (.aa (.N 0) (.i 2)))))) (.N 5)))) .F .nil) (.c (.A 6 (.lst .nil)) (.c (.exp (.F 64 (.t (.N 4) (.N 6)))) (.c (.exp (.F 64 (.t (.aa (.N 0) (.i 0)) (.N 6)))) (.c (.A 7 (.F 11 (.t (.bi .len (.o (.N 3))) (.D (.aa (.N 8) (.i 0)) [8] (.N 2) .nil)))) (.c (.exp (.ac (ACG "add") (.aa (.N 0) (.i 0)) (.o (.tup (.c (.N 7) (.t (.lst .nil) (.lst (.o (.tup (.c (.s "add") (.t (.cst .none) (.s "")))))))))))) (.c (.I (.not (.F 26 (.t (.N 4) (.N 3)))) .F .nil) (.c (.exp (.ac (ACG "take") (.aa (.N 0) (.i 0)) (.o (.N 7)))) (.c (.L [7] (.ac (ACG "names") (.N 4) .nil) (.o (.I (.C .In (.N 7) (.ac (ACG "names") (.N 4) .nil)) (.o (.exp (.ac (ACG "take") (.N 4) (.o (.N 7))))) .nil))) (.o (.ret (.F 65 (.o (.N 6))))))))))))))))))))⟩
noncomputable def Wf:Fn:=⟨3,5,(.c (.I (.P .Or (.t (.C .Lt (.bi .len (.o (.N 0))) (.i 4)) (.C .NotEq (.B .Mod (.N 1) (.i 12)) (.i 5)))) (.o (.ret (.N 0))) .nil) (.c (.A 3 (.lst .nil)) (.c (.L [4] (.range (.o (.B .Mult (.i 4) (.B .Add (.N 2) (.B .Mod (.B .FloorDiv (.N 1) (.i 12)) (.B .Sub (.i 61) (.N 2))))))) (.c (.exp (.H .append (.N 3) (.o (.F 10 (.t (.aa (.N 0) (.B .Mod (.N 4) (.bi .len (.o (.N 0))))) (.N 4)))))) (.o (.I (.P .And (.t (.C .Eq (.B .Mod (.N 4) (.i 4)) (.i 1)) (.C .Eq (.B .Mod (.B .FloorDiv (.N 1) (.i 12)) (.i 2)) (.i 1)))) (.o (.set (.N 3) (.N 4) (.B .Add (.B .Mult (.B .FloorDiv (.aa (.N 3) (.N 4)) (.i 7)) (.i 7)) (.i 3)))) .nil)))) (.o (.ret (.N 3))))))⟩
noncomputable def EW:Fn:=⟨1,8,(.c (.A 1 (.F 16 (.t (.F 33 (.c (.slc (.N 0) (.i 7) .nil) (.t (.F 9 (.t (.N 0) (.i 6))) (.i 10)))) (.i 60)))) (.c (.swp [2,3] (.t (.lst .nil) (.lst .nil))) (.c (.L [4] (.range (.o (.i 3))) (.o (.exp (.H .append (.N 2) (.o (.F 78 (.t (.N 1) (.F 79 (.t (.N 1) (.F 9 (.t (.N 0) (.N 4)))))))))))) (.c (.I (.P .And (.t (.aa (.N 2) (.i 1)) (.C .Eq (.B .Mod (.F 9 (.t (.N 0) (.i 3))) (.i 3)) (.i 1)))) (.o (.set (.N 2) (.i 1) (.F 95 (.t (.aa (.N 2) (.i 1)) (.F 9 (.t (.N 0) (.i 4))))))) .nil) (.c (.L [4] (.range (.o (.i 3))) (.o (.exp (.H .append (.N 3) (.o (.F 27 (.o (.aa (.N 2) (.N 4))))))))) (.c (.I (.F 96 (.t (.aa (.N 2) (.i 0)) (.aa (.N 2) (.i 1)))) (.c (.I (.P .Or (.t (.not (.F 74 (.t (.aa (.N 3) (.i 0)) (.aa (.N 3) (.i 1))))) (.not (.F 74 (.t (.aa (.N 3) (.i 1)) (.aa (.N 3) (.i 0))))))) .F .nil) (.c (.A 5 (.aa (.D (.aa (.N 7) (.i 0)) [7] (.aa (.N 2) (.i 1)) (.o (.C .NotIn (.N 7) (.N 1)))) (.i 0))) (.c (.set (.N 2) (.i 1) (.D (.N 7) [7] (.aa (.N 2) (.i 1)) (.o (.C .NotIn (.N 5) (.F 28 (.t (.aa (.N 2) (.i 1)) (.lst (.o (.aa (.N 7) (.i 0)))))))))) (.c (.exp (.ac (ACG "take") (.aa (.N 3) (.i 1)) (.o (.N 5)))) (.c (.A 6 (.F 91 (.c (.aa (.N 2) (.i 0)) (.t (.aa (.N 2) (.i 1)) (.N 1))))) (.o (.I (.not (.F 26 (.t (.F 90 (.t (.aa (.N 3) (.i 0)) (.aa (.N 3) (.i 1)))) (.N 6)))) .F .nil))))))) (.o (.I (.P .And (.t (.not (.F 96 (.t (.aa (.N 2) (.i 1)) (.aa (.N 2) (.i 2))))) (.C .Eq (.aa (.N 2) (.i 1)) (.F 91 (.c (.aa (.N 2) (.i 1)) (.t (.lst .nil) (.N 1))))))) (.o (.I (.not (.F 97 (.c (.N 3) (.t (.N 2) (.N 1))))) .F .nil)) .nil))) (.o (.ret (.bi .all (.o (.D (.F 26 (.t (.aa (.N 3) (.N 4)) (.aa (.N 2) (.N 4)))) [4] (.range (.o (.i 3))) .nil)))))))))))⟩
noncomputable def EN:List (Nat×Str×Fn×List Str):=[ (2,ACG "is_name",Wm,sN ["thing","sign"]),(3,ACG "is_line",Wn,sN ["thing","sign"]),(4,ACG "check_leans",Nk,sN ["name","leans","lean","one","other"]),(5,ACG "check_deed",OV,sN ["deed"]),(6,ACG "check",eY,sN ["change","name","leans","deeds","deed"]),(7,ACG "adds_of",OW,sN ["change","deed"]),(8,ACG "ordered",Wh,sN ["names","heights","falling","name"]),(76,ACG "woven",Y2,sN ["changes","heights","made","name"]),(90,ACG "joined",KI,sN ["one","other","changes","heights","name"]),(9,ACG "_law_cell",lV,sN ["_law_script","_law_k"]),(10,ACG "_law_mixed",Wk,sN ["_law_cell_here","_law_k"]),(11,ACG "_law_name",Wi,sN ["_law_cell_here","_law_taken","_law_signs","_law_left","_law_found","_law_j","_law_at"]),(12,ACG "_law_line",Wl,sN ["_law_cell_here","_law_some_here","_law_size","_law_found","_law_j"]),(13,ACG "_law_leans",Qe,sN ["_law_cell_here","_law_ahead","_law_left","_law_found","_law_k","_law_change","_law_last"]),(14,ACG "_law_marks",eU,sN ["_law_change","_law_many","_law_deed","_law_j"]),(15,ACG "_law_deeds",Qf,sN ["_law_name_here","_law_cell_here","_law_many","_law_marks_here","_law_deeds_here","_law_own","_law_k","_law_known_here","_law_left","_law_at","_law_line_here","_law_mark","_law_j"]),(16,ACG "_law_changes",HO,sN ["_law_cells","_law_most","_law_found","_law_taken","_law_k","_law_name_here","_law_leans_here","_law_marks_here","_law_change","_law_many"]),(17,ACG "_law_copy",ZC,sN ["_law_change"]),(19,ACG "_law_heights",Wo,sN ["_law_changes_here","_law_found","_law_change","_law_lean"]),(20,ACG "_law_model",Wj,sN ["_law_changes_here","_law_height","_law_order","_law_change","_law_row","_law_words","_law_gone","_law_own","_law_deed","_law_one","_law_at","_law_mark"]),(26,ACG "_law_stands",Yy,sN ["_law_weave","_law_changes_here","_law_row","_law_told","_law_pair","_law_change"]),(27,ACG "_law_woven",eO,sN ["_law_changes_here","_law_weave","_law_change"]),(28,ACG "_law_ground",Y0,sN ["_law_changes_here","_law_names","_law_leans_here","_law_change","_law_found","_law_waiting","_law_name_here"]),(78,ACG "_law_closed",Y1,sN ["_law_changes_here","_law_names","_law_there","_law_change"]),(79,ACG "_law_some",lS,sN ["_law_changes_here","_law_cell_here","_law_left","_law_found","_law_k","_law_change"]),(31,ACG "_law_unsettled",Qc,sN ["_law_changes_here","_law_mark","_law_names","_law_change","_law_deed","_law_found","_law_name_here","_law_one"]),(60,ACG "_law_questions",Qd,sN ["_law_changes_here","_law_found","_law_mark","_law_words","_law_names"]),(61,ACG "_law_known",eV,sN ["_law_weave","_law_changes_here","_law_cell_here","_law_height","_law_k","_law_change","_law_name_here","_law_ground_here","_law_leaning","_law_one"]),(62,ACG "_law_known_first",Ni,sN ["_law_weave","_law_changes_here","_law_cell_here"]),(91,ACG "_law_union",eP,sN ["_law_one","_law_other","_law_changes_here","_law_there","_law_change"]),(92,ACG "_law_more_leans",OU,sN ["_law_changes_here","_law_at","_law_change"]),(93,ACG "_law_altered_deed",Ld,sN ["_law_deed","_law_cell_here"]),(94,ACG "_law_other_marks",HN,sN ["_law_deeds_here","_law_k","_law_mark"]),(95,ACG "_law_altered",FS,sN ["_law_changes_here","_law_cell_here","_law_at","_law_name_here","_law_leans_here","_law_deeds_here","_law_way","_law_k"]),(73,ACG "_law_alone",eZ,sN ["_law_e","_law_some_here","_law_one"]),(74,ACG "_law_refused",Wg,sN ["_law_one","_law_other","_law_e"]),(96,ACG "_law_clash",eW,sN ["_law_one","_law_other","_law_change","_law_same"]),(64,ACG "_law_hold",lT,sN ["_law_weave","_law_held_here","_law_some_here"]),(65,ACG "_law_held",lU,sN ["_law_held_here","_law_one","_law_other"]),(97,ACG "_law_joins",Nj,sN ["_law_weaves","_law_rows","_law_changes_here","_law_due","_law_whole","_law_every","_law_held_here","_law_name_here","_law_change"]),(33,ACG "_law_wide",Wf,sN ["_law_cells","_law_flag","_law_most","_law_found","_law_j"]),(34,ACG "law",EW,sN ["_law_script","_law_changes_here","_law_rows","_law_weaves","_law_turn","_law_altered_here","_law_due","_law_change"])]
noncomputable def Es:List (Nat×Str×Fn×List Str):=[ (35,ACG "__init__",Pb,sN ["self"]),(36,ACG "add",GO,sN ["self","change","name","lean","ground","other"]),(37,ACG "check_marks",GN,sN ["self","change","own","deed","mark","many"]),(38,ACG "need",Pa,sN ["self","name"]),(39,ACG "take",OZ,sN ["self","name","out","one"]),(40,ACG "names",Nl,sN ["self"]),(41,ACG "change",Lg,sN ["self","name","held"]),(42,ACG "height",Le,sN ["self","name"]),(43,ACG "ground",Lf,sN ["self","name"]),(44,ACG "leaning",KH,sN ["self","name","one"]),(45,ACG "grown",HP,sN ["self","row","words","gone","name","number","deed","mark","at"]),(46,ACG "row",Qg,sN ["self"]),(47,ACG "told",OX,sN ["self","row","words","gone","mark"]),(48,ACG "text",OY,sN ["self","pair"]),(49,ACG "setters",KG,sN ["self","found","name","deed"]),(50,ACG "open_ones",I0,sN ["self","names","found","name","other"]),(51,ACG "questions",Iz,sN ["self","found","setters","pair","names"])]
noncomputable def cW:List (Str×GV):=[ (ACG "is_name",.fn 2),(ACG "is_line",.fn 3),(ACG "check_leans",.fn 4),(ACG "check_deed",.fn 5),(ACG "check",.fn 6),(ACG "adds_of",.fn 7),(ACG "ordered",.fn 8),(ACG "woven",.fn 76),(ACG "joined",.fn 90),(ACG "_law_cell",.fn 9),(ACG "_law_mixed",.fn 10),(ACG "_law_name",.fn 11),(ACG "_law_line",.fn 12),(ACG "_law_leans",.fn 13),(ACG "_law_marks",.fn 14),(ACG "_law_deeds",.fn 15),(ACG "_law_changes",.fn 16),(ACG "_law_copy",.fn 17),(ACG "_law_heights",.fn 19),(ACG "_law_model",.fn 20),(ACG "_law_stands",.fn 26),(ACG "_law_woven",.fn 27),(ACG "_law_ground",.fn 28),(ACG "_law_closed",.fn 78),(ACG "_law_some",.fn 79),(ACG "_law_unsettled",.fn 31),(ACG "_law_questions",.fn 60),(ACG "_law_known",.fn 61),(ACG "_law_known_first",.fn 62),(ACG "_law_union",.fn 91),(ACG "_law_more_leans",.fn 92),(ACG "_law_altered_deed",.fn 93),(ACG "_law_other_marks",.fn 94),(ACG "_law_altered",.fn 95),(ACG "_law_alone",.fn 73),(ACG "_law_refused",.fn 74),(ACG "_law_clash",.fn 96),(ACG "_law_hold",.fn 64),(ACG "_law_held",.fn 65),(ACG "_law_joins",.fn 97),(ACG "_law_wide",.fn 33),(ACG "BadChange",.exc 2),(ACG "MOST_DEEDS",.cst (.int 20)),(ACG "MOST_LINE",.cst (.int 200)),(ACG "MOST_NAME",.cst (.int 12)),(ACG "Missing",.exc 5),(ACG "NAME_SIGNS",.cst (.str (ACG "abcdefghijklmnopqrstuvwxyz0123456789"))),(ACG "NoLine",.exc 6),(ACG "NoNote",.exc 9),(ACG "NotLeaned",.exc 3),(ACG "Other",.exc 7),(ACG "Ring",.exc 8),(ACG "Twice",.exc 4),(ACG "ValueError",.ty "ValueError"),(ACG "Weave",.cls),(ACG "WeaveError",.exc 1),(ACG "all",.bi .all),(ACG "any",.bi .any),(ACG "enumerate",.ty "enumerate"),(ACG "isinstance",.bi .isinstance),(ACG "len",.bi .len),(ACG "list",.ty "list"),(ACG "max",.bi .max),(ACG "min",.bi .min),(ACG "ord",.bi .ord),(ACG "range",.ty "range"),(ACG "repr",.bi .repr),(ACG "sorted",.bi .sorted),(ACG "str",.ty "str"),(ACG "zip",.ty "zip")]
noncomputable def Ot:List (Nat×Str):=[(2,ACG "BadChange"),(5,ACG "Missing"),(6,ACG "NoLine"),(9,ACG "NoNote"),(3,ACG "NotLeaned"),(7,ACG "Other"),(8,ACG "Ring"),(4,ACG "Twice"),(1,ACG "WeaveError")]
noncomputable def HH:List Nat:=[7]
@[irreducible] noncomputable def Pg (f:Nat):Option Fn:=((EN++Es).find? λx=>Nat.beq x.1 f).map (·.2.2.1)
@[irreducible]
noncomputable def glP(n:Str):Option GV:=cW.lookup n
@[irreducible]
noncomputable def mtP(n:Str):Option Nat:=(Es.find? λx=>x.2.1==n).map (·.1)
open PySem.Calls
structure kO(T:Top):Prop where
 nolimit:T.h0.NoLimit
 seer:T.h0.NoSeer
 tree:T.prog.given.tree=az
 mods:∃o,T.h0.get? sysModules=al o
 tf:∀t q q',(t,q)∈T.tabs->(t,q')∈T.tabs->q=q'
noncomputable def Bj:Bi->Value
 |.len=>.builtin "len"
 |.sorted=>.builtin "sorted"
 |.min=>.builtin "min"
 |.isinstance=>.builtin "isinstance"
 |.str=>.type "str"
 |.all=>.builtin "all"
 |.any=>.builtin "any"
 |.max=>.builtin "max"
 |.list=>.type "list"
 |.ord=>.builtin "ord"
 |.int=>.type "int"
 |.repr=>.builtin "repr"
noncomputable def eM(T:Top):GV->Value->Prop
 |.fn f,x=>∃a,T.fn f=al a/\x=.ref a
 |.bi b,x=>x=Bj b
 |.ty t,x=>x=.type t
 |.cst d,x=>AG T.h0.get? d x
 |.cls,x=>x=.ref T.cls
 |.exc k,x=>∃a,T.exc k=al a/\x=.ref a
structure Ready(T:Top)(gl:Str->Option GV):Prop where
 ok:kO T
 fnob:∀f a,T.fn f=al a->∃o fd,T.h0.get? a=al o/\o.data=.func fd
 ns:∃mg mb,T.h0.Ns mainGlobals mg/\T.h0.Ns builtinsNs mb/\(∀n v,gl n=al v->∃x,eM T v x/\(mg n=al x\/(mg n=az/\mb n=al x))) ∧
  ∃bm ob,mg "__builtins__" = al (.ref bm)/\bm≠builtinsNs/\T.h0.get? bm=al ob/\ob.cls=.type "module"/\ob.dict=al builtinsNs/\ob.data=.plain
structure eR(T:Top)(gl:Str->Option GV)(fn:Fn)(a:Addr)(fd:FuncData)(body:List Stmt)(o:Obj)(vars:List Str)(lam:Option (Addr×Str)):Prop where
 ob:T.h0.get? a=al o
 data:o.data=.func fd
 code:T.h0.CodeRec fd.code fd.qualname
 bd:fd.body=.stmts body
 clo:fd.closure=[]
 glob:fd.globals=mainGlobals
 blt:fd.builtins=builtinsNs
 kind:fd.scope.kind=.function
 gen:fd.scope.isGenerator=false
 cor:fd.scope.isCoroutine=false
 nd:vars.Nodup
 bind:∀vals:List Value,vals.length=fn.np->bindArgs fd ⟨vals,[]⟩=pure ((vars.take fn.np).zip vals)
 par:∀n,n∈vars.take fn.np->fd.scope.names.lookup n=al .local\/fd.scope.names.lookup n=al .cell
 nof:∀p,p∈fd.scope.names->p.2≠.free
 is:Yt fn.body ⟨vars,fd.scope.names,vars,gl,lam⟩ body
 lam:∀t q,lam=al (t,q)->(t,q)∈T.tabs/\(fd.qualname++(".<locals>." : Str))++("<lambda>" : Str)=q/\∃c,fd.code=.ref c/\W.CodeHd T.h0 c t
def eQ(T:Top)(gl:Str->Option GV)(fn:Fn)(a:Addr):Prop:=∀R_:Prop,(∀fd body o vars lam,eR T gl fn a fd body o vars lam->R_)->R_
structure RI(T:Top)(mN:Str->Option Value):Prop where
 ga:mN "__getattribute__" = az
 ge:mN "__getattr__" = az
 se:mN "__setattr__" = az
 att:∀nm,nm∈Dy->mN nm=az
 mt:∀nm f,mtP nm=al f->nm∉Dy/\∃a o,T.fn f=al a/\mN nm=al (.ref a)/\T.h0.get? a=al o/\o.cls=.type "function"
def lX(T:Top)(C:Addr):Prop:=∃(x:Str) (bm:List Value) (newId B initId:String) (mg:Str->Option Value),PyProof.Rows.OwnCls x C bm newId mg T.h0/\ExcBaseFacts B newId initId bm
def XcV(T:Top)(k:Nat)(w:Value):Prop:=bif Nat.beq k 0 then w=.type "ValueError" else∃a,T.exc k=al a/\w=.ref a
noncomputable def Cw(c k:Nat):Bool:=Nat.beq c k||(Nat.beq k 1||Nat.beq k 0)
def RH(T:Top):Prop:=∀(c k:Nat) (D:Addr) (w:Value),c∈HH->k<10->T.exc c=al D->XcV T k w->∀(A:Around) (Q:Value->Shared->Prop) (E:Value->Shared->Prop) (s:Shared) (e:Addr) (o:Obj) (vs:Array Value),(∀b o,T.h0.get? b=al o->s.heap.get? b=al o)->s.heap.get? e=al o->o.cls=.ref D->o.dict=az->o.data=.fields vs->(∀tk,Q (.bool (Cw c k)) {s with toks:=tk})->wpAny (model T.prog T.w) A (call (.builtin "isinstance") [.ref e,w]) Q E s
def RJ(T:Top):Prop:=∀(c k:Nat) (D w:Addr),c∈HH->k∈HH->T.exc c=al D->T.exc k=al w->∀(A:Around) (Q:Bool->Shared->Prop) (E:Value->Shared->Prop) (s:Shared) (e:Addr) (o:Obj) (vs:Array Value),(∀b o,T.h0.get? b=al o->s.heap.get? b=al o)->s.heap.get? e=al o->o.cls=.ref D->o.dict=az->o.data=.fields vs->Q (Cw c k) s->wpAny (model T.prog T.w) A (excMatches (.ref e) (.ref w)) Q E s
structure KD(T:Top):Prop extends Ready T glP where
 fns:∀f fn a,Pg f=al fn->T.fn f=al a->eQ T glP fn a
 cls:∃N mN,PyProof.Rows.ClsAt T.h0 T.cls N mN/\RI T mN
 excs:∀k C,T.exc k=al C->lX T C
 isi:RH T
 cat:RJ T
structure Ar where
 T:Top
 fe:List Env
 A:Around
noncomputable abbrev Ar.wp{α:Type}(r:Ar)(m:Sem α)(Q:α->Shared->Prop)(s:Shared):Prop:=wpAny (model r.T.prog r.T.w) r.A m Q (λ_ _=>False) s
structure RF(e:Env):Prop where
 kind:e.scope.kind≠.module
 gen:e.scope.isGenerator=false
 cor:e.scope.isCoroutine=false
 blt:e.builtins=builtinsNs
 glob:e.globals=mainGlobals
inductive Yx(g:G)(hd:Option Value):Prop
 |mk (b:Addr) (o:Obj) (vs:Array Value) (h1:hd=al (.ref b)) (h2:g.fz b=al o) (h3:o.data=.fields vs/\vs[2]? = al .none):Yx g hd
def HOk(n:Nat)(g:G)(A:Around):Prop:=(A.handled=az\/(n<3/\Yx g A.handled))/\A.guards=al []
theorem HOk.none(h:HOk n g A)(hn:3<=n):A.handled=az:=h.1.elim id λq=>absurd q.1 (AB5.mpr hn)
theorem HOk.less(h:HOk n g A)(hm:m<=n):HOk m g A:=⟨h.1.imp id λq=>⟨AAS hm q.1,q.2⟩,h.2⟩
def Cv(g:G)(fe:List Env):Prop:=∀e,e∈fe->RF e/\∃L o es ep,e.frame=al L/\g.hid L=al o/\o.cls=frC/\o.data=.dict es ep
theorem Cv.mono(x:Cv g fe)(h:∀a,g'.hid a=g.hid a):Cv g' fe:=λe he=>⟨(x e he).1,by refine Ec ((x e he).2) λL o es ep h1 h2 h3=>?_;exact(EJ L o es ep h1 ((h L).trans h2) h3)⟩
theorem Cv.hideF(x:Cv g fe)(h:o.cls=frC)(d:o.data=.dict es ep):Cv (g.hide a o) fe:=λe he=>⟨(x e he).1,by
 refine Ec ((x e he).2) λL o' es' ep' h1 h2 h3=>?_;by_cases q:L=a
 ·exact Ex L o es ep h1 (if_pos q) h d
 ·exact(EJ L o' es' ep' h1 ((if_neg q).trans h2) h3)⟩
structure At(n:Nat)(r:Ar)(g:G)(U:Ac)(s:Shared):Prop where
 ok:KD r.T
 frames:r.A.frames=al r.fe
 top:∃e l,r.fe=e::l/\RF e
 depth:r.A.depth+n<=600
 units:r.A.units+100*n<=9000
 hh:HOk n g r.A
 frs:Cv g r.fe
 has:Has r.T g U s
theorem HOk.mono(h:HOk n g A)(le:G.up g g'):HOk n g' A:=⟨h.1.imp id λq=>⟨q.1,by obtain⟨b,o,vs,h1,h2,h3⟩:=q.2;exact⟨b,o,vs,h1,le.fz _ _ h2,h3⟩⟩,h.2⟩
theorem At.step(x:At n r g U s)(le:G.le [] g g')(h:Has r.T g' U' s'):At n r g' U' s':=⟨x.ok,x.frames,x.top,x.depth,x.units,x.hh.mono le.toup,x.frs.mono λa=>le.hid a AA1,h⟩
theorem At.stepF(x:At n r g U s)(le:G.up g g')(f:Cv g' r.fe)(h:Has r.T g' U' s'):At n r g' U' s':=⟨x.ok,x.frames,x.top,x.depth,x.units,x.hh.mono le,f,h⟩
theorem At.less(x:At n r g U s)(h:m<=n):At m r g U s:=⟨x.ok,x.frames,x.top,AAC (AC7 h _) x.depth,AAC (AC7 (ADG _ h) _) x.units,x.hh.less h,x.frs,x.has⟩
theorem At.nolimit(x:At n r g U s):s.heap.NoLimit:=x.ok.ok.nolimit.keeps λb o e=>x.has.fz b o (x.has.base b o e)
theorem At.pylong(x:At n r g U s):PylongRoom (model r.T.prog r.T.w) r.A s:=by exact Bb x.top λe l hf t=>PylongRoom.of x.nolimit (BV (ADF (AAC (AA9 _ _) x.depth) 100) rfl) (SeerAt.of (x.ok.ok.seer.keeps λb o e=>x.has.fz b o (x.has.base b o e)) x.ok.ok.tree (hf▸x.frames) t.gen t.cor t.blt t.glob)
theorem At.room(x:At n r g U s):r.A.units+41<cLine:=BV (ADF (AAC (AA9 _ _) x.units) 41) rfl
noncomputable abbrev Ans(r:Ar)(g:G)(v:V)(U':Ac)(x:Value)(s':Shared):Prop:=CS r.T [] g U' (λg'=>Av r.T g' v x) s'
def Pr1(m:Value->Sem Value)(x:V)(U:Ac)(v:V)(U':Ac)(k:Nat:=0):Prop :=
 ∀(r:Ar) (g:G) (s:Shared) (X:Value),At k r g U s->Av r.T g x X->r.wp (m X) (Ans r g v U') s
def Pr2(m:Value->Value->Sem Value)(x y:V)(U:Ac)(v:V)(U':Ac)(k:Nat:=0):Prop :=
 ∀(r:Ar) (g:G) (s:Shared) (X Y:Value),At k r g U s->Av r.T g x X->Av r.T g y Y->r.wp (m X Y) (Ans r g v U') s
def PrL(m:List Value->Sem Value)(xs:List V)(U:Ac)(v:V)(U':Ac)(k:Nat:=0):Prop :=
 ∀(r:Ar) (g:G) (s:Shared) (Xs:List Value),At k r g U s->Au r.T g xs Xs->r.wp (m Xs) (Ans r g v U') s
theorem Pr1.up(h:Pr1 m x U v U'):Pr1 m x U v U' k:=λr g s X A=>h r g s X (A.less (ABF _))
theorem Pr2.up(h:Pr2 m x y U v U'):Pr2 m x y U v U' k:=λr g s X Y A=>h r g s X Y (A.less (ABF _))
def FA(n f:Nat)(xs:List V)(U:Ac)(v:V)(U':Ac):Prop :=
 ∀(r:Ar) (g:G) (s:Shared) (a:Addr) (Xs:List Value),r.T.fn f=al a->At n r g U s->Au r.T g xs Xs->r.wp (call (.ref a) Xs) (Ans r g v U') s
noncomputable abbrev FN(n f:Nat)(xs:List V)(U:Ac)(v:V)(U':Ac):Prop:=FA (n+3) f xs U v U'
def NsF(f:Addr->Option Obj)(a:Addr)(m:Str->Option Value):Prop:=∃o es ep,f a=al o/\o.data=.dict es ep/\StrKeys es/\∀name,nsFind es name=m name
def Gz(f:Addr->Option Obj)(c:Addr)(v:Option Value):Prop:=∃o,f c=al o/\o.data=.cell v
structure Cx extends Ar where
 K:Kx
 env:Env
 own:List Addr
structure IV(n:Nat)(c:Cx):Prop where
 rd:Ready c.T c.K.gl
 names:c.env.scope.names=c.K.names
 kind:c.env.scope.kind=.function
 glob:c.env.globals=mainGlobals
 blt:c.env.builtins=builtinsNs
 hfr:∃e l,c.fe=e::l/\c.env.frame=e.frame
 cinj:∀m m' a,c.env.cells.lookup m=al a->c.env.cells.lookup m'=al a->m=m'
 nd:c.K.vars.Nodup
 oloc:c.env.locals∈c.own
 ocell:∀m,m∈c.K.wr->∀a,c.env.kindOf m=al .cell->c.env.cells.lookup m=al a->a∈c.own
 lamc:∀t q,c.K.lam=al (t,q)->1<=n/\(t,q)∈c.T.tabs/\c.env.qual++("<lambda>" : Str)=q/\∃a,c.env.code=.ref a/\W.CodeHd c.T.h0 a t
structure Loc(c:Cx)(J:Am)(g:G):Prop where
 ns:∀R_:Prop,(∀m,NsF g.hid c.env.locals m->(∀(i:Nat) (nm:Str) (v:V),c.K.vars[i]? = al nm->J[i]? = al (al v)->c.env.kindOf nm=al .local->∃x,m nm=al x/\Av c.T g v x)->R_)->R_
 ce:∀nm,c.env.kindOf nm=al .cell\/c.env.kindOf nm=al .free->∀R_:Prop,(∀a u,c.env.cells.lookup nm=al a->Gz g.hid a u->(∀(i:Nat) (v:V),c.K.vars[i]? = al nm->J[i]? = al (al v)->∃x,u=al x/\Av c.T g v x)->R_)->R_
 ow:∀a,a∈c.own->g.hid a≠az
structure Inv(n:Nat)(c:Cx)(J:Am)(g:G)(U:Ac)(s:Shared):Prop extends At n c.toAr g U s where
 cx:IV n c
 loc:Loc c J g
def SE(n:Nat)(e:E)(J:Am)(U:Ac)(v:V)(U':Ac):Prop :=
 ∀(c:Cx) (g:G) (s:Shared) (ex:Expr),IsE e c.K ex->Inv n c J g U s->c.wp (eval ex c.env) (Ans c.toAr g v U') s
def ST(n:Nat)(e:E)(J:Am)(U:Ac)(b:Bool)(U':Ac):Prop :=
 ∀(c:Cx) (g:G) (s:Shared) (ex:Expr),IsE e c.K ex->Inv n c J g U s->c.wp (isTrue ex c.env (eval ex c.env)) (λx s'=>CS c.T [] g U' (λ_=>x=b) s') s
def SEs(n:Nat)(e:E)(J:Am)(U:Ac)(vs:List V)(U':Ac):Prop :=
 ∀(c:Cx) (g:G) (s:Shared) (xs:List Expr) (pos:Pos),Go e c.K xs->Inv n c J g U s->c.wp (spliced (backTo pos (starEach xs c.env))) (λxs s'=>CS c.T [] g U' (λg'=>Au c.T g' vs xs) s') s
set_option genCtorIdx true in
inductive Fl where
 |next (J:Am)
 |ret (v:V)
def BL(n:Nat)(c:Cx)(g:G)(Q:Fl->Ac->Prop)(f:Flow)(s':Shared):Prop :=
 ∀R_:Flow->Prop,(∀(J:Am) (U':Ac) (g':G),Q (.next J) U'->G.le c.own g g'->Inv n c J g' U' s'->R_ .next) ->
  (∀(v:V) (x:Value) (U':Ac) (g':G),Q (.ret v) U'->G.le c.own g g'->Has c.T g' U' s'->(∀a,a∈c.own->g'.hid a≠az)->Av c.T g' v x->R_ (.ret x))->R_ f
def SS(n:Nat)(st:S)(J:Am)(U:Ac)(Q:Fl->Ac->Prop):Prop :=
 ∀(c:Cx) (g:G) (s:Shared) (x:Stmt),IsS st c.K x->Inv n c J g U s->c.wp (exec x c.env) (BL n c g Q) s
def SSs(n:Nat)(st:S)(J:Am)(U:Ac)(Q:Fl->Ac->Prop):Prop :=
 ∀(c:Cx) (g:G) (s:Shared) (xs:List Stmt),Yt st c.K xs->Inv n c J g U s->c.wp (execs xs c.env) (BL n c g Q) s
theorem NsF.to(x:NsF f a m)(h:∀o,f a=al o->f' a=al o):NsF f' a m:=x.imp λo x=>x.imp λ_ x=>x.imp λ_ x=>⟨h o x.1,x.2⟩
theorem Gz.to(x:Gz f a u)(h:∀o,f a=al o->f' a=al o):Gz f' a u:=x.imp λo x=>⟨h o x.1,x.2⟩
theorem Has.ns(H:Has T g U s)(h:NsF g.hid a m):NsF s.heap.get? a m:=by exact CY h λo es ep e d k=>AS (H.hd a o e) λo' e' d' _=>⟨o',es,ep,e',d'.trans d,k⟩
theorem Has.cell(H:Has T g U s)(h:Gz g.hid a u):Gz s.heap.get? a u:=by exact oEA h λo e d=>AS (H.hd a o e) λo' e' d' _=>⟨o',e',d'.trans d⟩
theorem Cv.hideC(x:Cv g fe)(h:Gz g.hid a u):Cv (g.hide a o) fe:=λe he=>⟨(x e he).1,by
 refine Fz ((x e he).2) λL o' es' ep' h1 h2 h3 h4=>oEA h λbj bq bk=>(Ex L o' es' ep' h1 ((if_neg λq=>?_).trans h2) h3 h4)
 rw[q,bq] at h2;rw[AAA h2,h4] at bk;cases bk⟩
theorem CN(up:G.up g g')(h:∃x,o=al x/\Av T g v x):∃x,o=al x/\Av T g' v x:=h.imp λ_ h=>⟨h.1,Av.mono up _ _ h.2⟩
theorem Loc.step(x:Loc c J g)(up:G.up g g')(hd:∀a,g'.hid a=g.hid a):Loc c J g' :=
 ⟨λR_ k=>x.ns R_ λm h1 h2=>k m (h1.to λo e=>(hd _).trans e) λi nm v e1 e2 e3=>CN up (h2 i nm v e1 e2 e3),
  λnm hk R_ k=>x.ce nm hk R_ λa u h1 h2 h3=>k a u h1 (h2.to λo e=>(hd _).trans e) λi v e1 e2=>CN up (h3 i v e1 e2),λa h=>hd a▸x.ow a h⟩
theorem Inv.step(x:Inv n c J g U s)(le:G.le [] g g')(h:Has c.T g' U' s'):Inv n c J g' U' s':=⟨x.toAt.step le h,x.cx,x.loc.step le.toup λa=>le.hid a AA1⟩
theorem Inv.at0(x:Inv n c J g U s):At 0 c.toAr g U s:=x.toAt.less (ABF _)
theorem CS.refl(h:Has T g U s)(r:R g):CS T own g U R s:=.mk g (.refl _ _) h r
theorem BW{α β:Type}{r:Ar}{R:α->G->Prop}{m:Sem α}{k:α->Sem β}{Q:β->Shared->Prop}(h:r.wp m (λx s'=>CS r.T [] g ag (R x) s') s)
 (hk:∀x aj ai,G.le [] g aj->Has r.T aj ag ai->R x aj->r.wp (k x) Q ai):r.wp (m>>=k) Q s :=
 AAD (AAO h (λx s' p=>p _ λg' le hs hr=>hk x g' s' le hs hr) λ_ _ h=>h)
theorem BP{α:Type}{r:Ar}{R:α->G->Prop}{m:Sem α}(le:G.le [] g aj)(h:r.wp m (λx s'=>CS r.T [] aj U' (R x) s') s):r.wp m (λx s'=>CS r.T [] g U' (R x) s') s :=
 AAO h (λ_ _ p=>p.after le) λ_ _ h=>h
theorem RE{r:Ar}(a:Has r.T g U s)(h:∀Q:Value->Shared->Prop,(∀x k,Av r.T g v x->Q x {s with toks:=k})->wpAny (model r.T.prog r.T.w) r.A m Q (λ_ _=>False) s):r.wp m (Ans r g v U) s :=
 h _ λx k rx=>.refl a.tok rx
noncomputable abbrev vi(i:Int):V:=.d (.int i)
noncomputable abbrev vb(b:Bool):V:=.d (.bool b)
def Tr(U:Ac)(v:V)(b:Bool):Prop:=∀(r:Ar) (g:G) (s:Shared) (X:Value),At 0 r g U s->Av r.T g v X->r.wp (truthy X) (λx s'=>CS r.T [] g U (λ_=>x=b) s') s
section
variable{n:Nat}{c:Cx}{J:Am}{g:G}{U ag ak:Ac}{s s':Shared}{e a b:E}{x y v:V}
theorem AN{env:Env}{K:Kx}(h:env.scope.names=K.names)(nm:Str):env.kindOf nm=K.names.lookup nm:=by unfold Env.kindOf;rw[h]
theorem P9{env:Env}{K:Kx}(h:env.scope.names=K.names)(hv:K.isVar nm=true) :
 (env.kindOf nm=al .local\/env.kindOf nm=al .cell\/env.kindOf nm=al .free)/\(nm==("__debug__" : Str))=false/\(nm==("__classdict__" : Str))=false:=by
 rw[AN h];unfold Kx.isVar at hv;simp only[ACW,ACZ,Bool.or_eq_true] at hv;exact⟨hv.1.1.imp Kx.kd_eq (Or.imp Kx.kd_eq Kx.kd_eq),hv.1.2,hv.2⟩
theorem Sx{env:Env}{K:Kx}(h:env.scope.names=K.names)(hv:K.isGl nm=true):env.kindOf nm=al .globalImplicit/\(nm==("__debug__" : Str))=false:=by rw[AN h];unfold Kx.isGl at hv;simp only[ACW,ACZ] at hv;exact⟨Kx.kd_eq hv.1,hv.2⟩
theorem Inv.base(I:Inv n c J g U s):∀b o,c.T.h0.get? b=al o->s.heap.get? b=al o:=λb o e=>I.has.fz b o (I.has.base b o e)
theorem CF{A':Around}{p:Pos}{v:GV}{Q:Value->Shared->Prop}{E:Value->Shared->Prop}(I:Inv n c J g U s)(hv:c.K.to v nm)(h:∀x,eM c.T v x->Q x s):wpAny (model c.T.prog c.T.w) A' (eval (.Name nm p) c.env) Q E s:=by
 refine G9 I.cx.rd.ns λmg mb hg hb ht _=>oA (Sx I.cx.names hv.1) λhk hd=>?_;have hg':s.heap.Ns c.env.globals mg:=by rw[I.cx.glob];exact hg.keeps I.base
 refine oEA (ht nm v hv.2) λx hx h1=>Name_function_global I.cx.kind hk ?_ hd;rcases h1 with h1|⟨h1,h2⟩
 ·exact loadGlobal_global hg' h1 (h x hx)
 ·exact loadGlobal_builtin hg' h1 (I.cx.blt▸hb.keeps I.base) h2 (h x hx)
theorem dN{x:PyData}{r:Ar}{p:Pos}{env:Env}(a:Has r.T g U s)(hc:cOk x=true):r.wp (eval (.Constant (toC x) m p) env) (Ans r g (.d x) U) s:=by
 refine RE a λQ h=>?_;cases x with
 |none=>exact wpAny_Constant_none (h _ s.toks rfl)
 |bool b=>exact wpAny_Constant_bool (h _ s.toks rfl)
 |int b=>exact wpAny_Constant_int (h _ _ ⟨s.toks,rfl⟩)
 |str b=>exact wpAny_Constant_str (h _ _ ⟨s.toks,rfl,AAG hc⟩)
 |_=>exact ff_ hc
theorem SE.cst(x:PyData):SE n (.cst x) J U (.d x) U:=λc g s ex hc I=>hc (λex=>c.wp (eval ex c.env) (Ans c.toAr g (.d x) U) s) λm p hc=>dN I.has hc
theorem SE.N(hv:J[i]? = al (al v)):SE n (.N i) J U v U:=by
 refineλc g s ex hc I=>hc (λex=>c.wp (eval ex c.env) (Ans c.toAr g v U) s) λnm p h=>?_;have hq:=P9 I.cx.names h.1;refine wpAny_Name ?_ hq.2.1;rcases hq.1 with hk|hk
 ·exact I.loc.ns _ λm hm hs=>oEA (hs i nm v h.2 hv hk) λx e r=>wpAny_loadName_local I.cx.kind hk (I.has.ns hm) e (.refl I.has r)
 ·refine I.loc.ce nm hk _ λa u e hu hs=>oEA (hs i v h.2 hv) λx q_1 r=>?_;subst q_1;rcases hk with hk|hk
  ·exact wpAny_loadName_cell I.cx.kind hk e (I.has.cell hu) (.refl I.has r)
  ·exact wpAny_loadName_free I.cx.kind hk e (I.has.cell hu) (.refl I.has r) hq.2.2
theorem SE.ty:SE n (.ty t) J U (.ty t) U:=λc g s ex hc I=>hc (λex=>c.wp (eval ex c.env) (Ans c.toAr g (.ty t) U) s) λnm p hc=>CF I hc λx r=>.refl I.has r
theorem SE.glb{x:PyData}:SE n (.glb x) J U (.d x) U:=λc g s ex hc I=>hc (λex=>c.wp (eval ex c.env) (Ans c.toAr g (.d x) U) s) λnm p hc=>CF I hc λx r=>.refl I.has (AG.mono I.has.base _ _ r)
theorem Bt{α:Type}{r:Ar}{m m':Sem α}{Q:α->Shared->Prop}(e:m=m')(h:r.wp m' Q s):r.wp m Q s:=e▸h
theorem BJ{α:Type}{ex:Expr}{Q:α->Shared->Prop}{k:Value->Sem α}(ha:SE n a J U x ag)(h1:IsE a c.K ex)(I:Inv n c J g U s)(hk:∀X aj ai,G.le [] g aj->Inv n c J aj ag ai->Av c.T aj x X->c.wp (k X) Q ai):c.wp (eval ex c.env>>=k) Q s :=
 BW (ha c g s ex h1 I) λX aj ai le a r=>hk X aj ai le (I.step le a) r
theorem Fk{α:Type}{l r:Expr}{Q:α->Shared->Prop}{k:Value->Value->Sem α}(ha:SE n a J U x ag)(hb:SE n b J ag y ak)(h1:IsE a c.K l)(h2:IsE b c.K r)(I:Inv n c J g U s)
 (hk:∀X Y aj ai,G.le [] g aj->Inv n c J aj ak ai->Av c.T aj x X->Av c.T aj y Y->c.wp (k X Y) Q ai):c.wp (eval l c.env>>=λX=>holding [X] (eval r c.env)>>=λY=>k X Y) Q s :=
 BJ ha h1 I λX aj ai av I1 ao=>BW (AA8 (hb c aj ai r h2 I1)) λY an am le2 aC ay=>hk X Y an am (av.trans le2) (I1.step le2 aC) (Av.mono le2.toup _ _ ao) ay
theorem SE.B(ha:SE n a J U x ag)(hb:SE n b J ag y ak)(h:Pr2 (binaryOp op) x y ak v au):SE n (.B op a b) J U v au:=by exactλc g s ex hc I=>hc (λex=>c.wp (eval ex c.env) (Ans c.toAr g v au) s) λl r p h1 h2=>Bt (arm_eval_BinOp ..) (Fk ha hb h1 h2 I λX Y an am le I2 ao ay=>AAD (AA7 (wpAny_operating (BP le (h c.toAr an am X Y I2.at0 ao ay)))))
theorem SE.neg{i:Int}(ha:SE n a J U (vi i) ag):SE n (.neg a) J U (vi (-i)) ag:=by refineλc g s ex hc I=>hc (λex=>c.wp (eval ex c.env) (Ans c.toAr g (vi (-i)) ag) s) λz p hc=>Bt (arm_eval_UnaryOp ..) (BJ ha hc I λX aj ai le I1 ao=>AAD (AA7 (AA8 ?_)));refine oE ao λt q_1=>?_;subst q_1;exact BP le (RE I1.has λQ h=>P.neg_int (h _ _ ⟨_,rfl⟩))
theorem bT{X:Value}:unaryOp .Not X=holding [X] (truthy X>>=λb=>pure (Value.bool (!b))):=by unfold unaryOp;rfl
theorem SE.not{t:Bool}(ha:SE n a J U x ag)(ht:Tr ag x t):SE n (.not a) J U (vb !t) ag:=by exactλc g s ex hc I=>hc (λex=>c.wp (eval ex c.env) (Ans c.toAr g (vb !t) ag) s) λz p hc=>Bt (arm_eval_UnaryOp ..) (BJ ha hc I λX aj ai av I1 ao=>AAD (AA7 (AA8 (Bt bT (AA8 (BW (ht c.toAr aj ai X I1.at0 ao) λb an am le2 aC ay=>AAY (.mk an (av.trans le2) aC (congrArg (λb=>Value.bool (!b)) ay))))))))
theorem ST.not{t:Bool}(ha:ST n a J U t ag):ST n (.not a) J U (!t) ag:=by
 exactλc g s ex hc I=>hc (λex=>c.wp (isTrue ex c.env (eval ex c.env)) (λx s'=>CS c.T [] g ag (λ_=>x = !t) s') s) λz p hc =>
  Bt (arm_isTrue_UnaryOp ..) (BW (ha c g s z hc I) λb aj ai av ar ao=>AAY (.mk aj av ar (congrArg Bool.not ao)))
structure LZ(x:Expr):Prop where
 star:∀env r,starEach (x::r) env=(false,eval x env)::starEach r env
 marks:∀op t,markedBehindIn op x t=t
 fold:∀env y,foldedSetIterable x env y=pure y
theorem Ck(e:E)(h:IsE e K ex):LZ ex:=by
 cases e with
 |nil=>exact h.elim
 |cons _ _=>exact h.elim
 |_=>exact h LZ (by intros;exact⟨λ_ _=>rfl,λ_ _=>rfl,λ_ _=>rfl⟩)
theorem GU(e:E)(hp:CQ e=false)(h:IsE e K ex)(t:Option Expr)(l:Nat)(env:Env):swapsWith ex t l env=pure false:=by
 cases e with
 |nil=>exact h.elim
 |cons _ _=>exact h.elim
 |D _ _ _ _=>exact tt_ hp
 |_=>exact h (λex=>swapsWith ex t l env=pure false) (by intros;rfl)
theorem Qq:Tr U (vb t) t:=λr g s X A h=>by obtain rfl:X=.bool t:=h;exact wpAny_truthy_bool (.refl A.has rfl)
theorem Yd(h:LZ r):eval (.Compare l [op] [r] p) env=(eval l env>>=λX=>holding [X] (eval r env)>>=λY=>standAt p>>=λ_=>operate [X,Y] (compareOp op X Y)):=by rw[arm_eval_Compare];show(eval l env>>=λX=>holding [X] (markedBehindIn op r (eval r env))>>=_)=_;rw[h.marks]
theorem V6(h:LZ r):isTrue (.Compare l [op] [r] p) env w=(eval l env>>=λX=>holding [X] (eval r env)>>=λY=>standAt p>>=λ_=>operate [X,Y] (compareOp op X Y)>>=λz=>holding [z] (truthy z)):=by rw[arm_isTrue_Compare];show(eval l env>>=λX=>holding [X] (markedBehindIn op r (eval r env))>>=_)=_;rw[h.marks]
theorem SE.C(ha:SE n a J U x ag)(hb:SE n b J ag y ak)(h:Pr2 (compareOp op) x y ak v au):SE n (.C op a b) J U v au:=by exactλc g s ex hc I=>hc (λex=>c.wp (eval ex c.env) (Ans c.toAr g v au) s) λl r p h1 h2=>Bt (Yd (Ck b h2)) (Fk ha hb h1 h2 I λX Y an am le I2 ao ay=>AAD (AA7 (wpAny_operating (BP le (h c.toAr an am X Y I2.at0 ao ay)))))
theorem ST.C(ha:SE n a J U x ag)(hb:SE n b J ag y ak)(h:Pr2 (compareOp op) x y ak (vb t) au):ST n (.C op a b) J U t au:=by
 exactλc g s ex hc I=>hc (λex=>c.wp (isTrue ex c.env (eval ex c.env)) (λx s'=>CS c.T [] g au (λ_=>x=t) s') s) λl r p h1 h2=>Bt (V6 (Ck b h2)) (Fk ha hb h1 h2 I λX Y an am le2 I2 ao ay=>AAD (AA7 (BW (wpAny_operating (h c.toAr an am X Y I2.at0 ao ay)) λz aE aB aA aU r3=>AA8
  (BP (le2.trans aA) (Qq c.toAr aE aB z (I2.step aA aU).at0 r3)))))
theorem ST.plain{t:Bool}(hp:∀{K:Kx} {ex:Expr},IsE e K ex->∀env w,isTrue ex env w=(w>>=λv=>standAt ex.pos>>=λ_=>holding [v] (truthy v)))(h:SE n e J U x ag)(ht:Tr ag x t):ST n e J U t ag:=by intro c g s ex hc I;exact Bt (hp hc c.env _) (BJ h hc I λX aj ai le I1 ao=>AAD (AA7 (AA8 (BP le (ht c.toAr aj ai X I1.at0 ao)))))
theorem SEs.nil:SEs n .nil J U [] U:=by intro c g s xs pos hc I;obtain rfl:xs=[]:=hc;exact spliced_nil (.refl I.has trivial)
theorem SEs.cons(h1:SE n a J U x ag)(h2:SEs n b J ag xs ak):SEs n (.cons a b) J U (x::xs) ak:=by refineλc g s l pos hc I=>hc (λl=>c.wp (spliced (backTo pos (starEach l c.env))) (λXs s'=>CS c.T [] g ak (λg'=>Au c.T g' (x::xs) Xs) s') s) λz l c1 c3=>?_;rw[(Ck a c1).star];refine spliced_cons (AAO (h1 c g s z c1 I) (λX ai p=>p _ λaj av ar ao=>?_) λ_ _ h=>h);exact AAO (h2 c aj ai l pos c3 (I.step av ar)) (λXs am p=>p _ λan le2 aC ay=>.mk an (av.trans le2) aC ⟨Av.mono le2.toup _ _ ao,ay⟩) λ_ _ h=>h
def SB(n:Nat)(op:BoolOp)(e:E)(J:Am)(U:Ac)(v:V)(U':Ac):Prop :=
 ∀(c:Cx) (g:G) (s:Shared) (xs:List Expr) (pos:Pos),Go e c.K xs->Inv n c J g U s->c.wp (boolOp pos op (evalEach xs c.env)) (Ans c.toAr g v U') s
def SBt(n:Nat)(op:BoolOp)(e:E)(J:Am)(U:Ac)(b:Bool)(U':Ac):Prop :=
 ∀(c:Cx) (g:G) (s:Shared) (xs:List Expr),Go e c.K xs->Inv n c J g U s->c.wp (allTrue op xs c.env) (λx s'=>CS c.T [] g U' (λ_=>x=b) s') s
noncomputable def Dx(op:BoolOp):Bool:=match op with|.And=>false|.Or=>true
variable{op:BoolOp}{r:E}
theorem SB.one(h:SE n a J U x ag):SB n op (.o a) J U x ag :=
 λc g s xs pos hc I=>hc (λxs=>c.wp (boolOp pos op (evalEach xs c.env)) (Ans c.toAr g x ag) s) λz l c1 c3=>by obtain rfl:l=[]:=c3;exact h c g s z c1 I
set_option backward.match.sparseCases true in
theorem O7(pos:Pos)(op:BoolOp)(x y:Sem Value)(r:List (Sem Value)):boolOp pos op (x::y::r)=(x>>=λv=>standAt pos>>=λ_=>holding [v] (truthy v)>>=λt=>if t=Dx op then pure v else boolOp pos op (y::r)):=by
 rw[boolOp]
 ·congr 1;funext v;congr 1;funext _;congr 1;funext t;cases op<;>cases t<;>rfl
 ·intro q;exact Yb q
theorem TA(r:E)(hn:BR r=false)(h:Go r K l):∃y l',l=y::l':=by
 cases r with
 |nil=>exact tt_ hn
 |cons a b=>exact h (λl=>∃y l',l=y::l') λy l _ _=>(iEE y l rfl)
 |_=>exact h.elim
theorem SB.more{t:Bool}(hr:BR r=false)(h:SE n a J U x ag)(ht:Tr ag x t)(hs:t=Dx op->v=x/\ak=ag)(hg:t≠Dx op->SB n op r J ag v ak):SB n op (.cons a r) J U v ak:=by
 refineλc g s xs pos hc I=>hc (λxs=>c.wp (boolOp pos op (evalEach xs c.env)) (Ans c.toAr g v ak) s) λz l c1 hl=>?_;have k:c.wp (eval z c.env>>=λv=>standAt pos>>=λ_=>holding [v] (truthy v)>>=λt=>if t=Dx op then pure v else boolOp pos op (evalEach l c.env)) (Ans c.toAr g v ak) s:=by
  refine BJ h c1 I λX aj ai av I1 ao=>AAD (AA7 (BW (AA8 (ht c.toAr aj ai X I1.at0 ao)) λb' an am le2 aC ay=>?_));obtain rfl:b'=t:=ay;by_cases q:b'=Dx op
  ·exact Bt (if_pos q) (AAY (.mk an (av.trans le2) ((hs q).2▸aC) ((hs q).1▸Av.mono le2.toup _ _ ao)))
  ·exact Bt (if_neg q) (BP (av.trans le2) (hg q c an am _ pos hl (I1.step le2 aC)))
 refine oEE (TA r hr hl) λy l' q_2=>?_;subst q_2;exact Bt (O7 ..) k
theorem SE.P(h:SB n op e J U v ag):SE n (.P op e) J U v ag:=λc g s ex hc I=>hc (λex=>c.wp (eval ex c.env) (Ans c.toAr g v ag) s) λvs p h1=>Bt (arm_eval_BoolOp ..) (h c g s vs p h1 I)
theorem ON:allTrue op (z::l) env=(isTrue z env (eval z env)>>=λt=>if t=Dx op then pure t else allTrue op l env):=by rw[arm_allTrue_cons];congr 1;funext t;cases op<;>cases t<;>rfl
theorem SBt.nil:SBt n op .nil J U (!Dx op) U:=by intro c g s xs hc I;obtain rfl:xs=[]:=hc;exact Bt (by cases op<;>rfl) (AAY (.refl I.has rfl))
theorem SBt.cons{t q:Bool}(h:ST n a J U t ag)(hs:t=Dx op->q=t/\ak=ag)(hg:t≠Dx op->SBt n op r J ag q ak):SBt n op (.cons a r) J U q ak:=by
 refineλc g s xs hc I=>hc (λxs=>c.wp (allTrue op xs c.env) (λx s'=>CS c.T [] g ak (λ_=>x=q) s') s) λz l c1 hl=>Bt ON (BW (h c g s z c1 I) λb' aj ai av ar ao=>?_);obtain rfl:b'=t:=ao;by_cases e:b'=Dx op
 ·exact Bt (if_pos e) (AAY (.mk aj av ((hs e).2▸ar) (hs e).1.symm))
 ·exact Bt (if_neg e) (BP av (hg e c aj ai l hl (I.step av ar)))
theorem ST.P{t:Bool}(h:SBt n op e J U t ag):ST n (.P op e) J U t ag :=
 λc g s ex hc I=>hc (λex=>c.wp (isTrue ex c.env (eval ex c.env)) (λx s'=>CS c.T [] g ag (λ_=>x=t) s') s) λvs p h1=>Bt (arm_isTrue_BoolOp ..) (h c g s vs h1 I)
end
open PySem.SeqAt
theorem F9(h:n<=line):n<9223372036854775808:=BV h rfl
noncomputable def Kr(a b:PyData):Option Bool :=
 match a with
 |.none=>(match b with|.none=>al true|.str _=>al false|.tuple _=>al false|_=>az)
 |.bool x=>(match b with|.bool y=>al (x==y)|_=>az)
 |.int x=>(match b with|.int y=>al (x==y)|_=>az)
 |.str x=>(match b with|.str y=>al (x==y)|.none=>al false|_=>az)
 |.tuple _=>(match b with|.none=>al false|_=>az)
 |_=>az
noncomputable def Di(f:PyData->PyData->Option Bool):List PyData->List PyData->Option Bool
 |[],ys=>(match ys with|[]=>al true|_::_=>al false)
 |x::xs,ys=>(match ys with
  |[]=>al false
  |y::ys=>(f x y).bind λa=>(Di f xs ys).bind λb=>al (a&&b))
noncomputable def iO(f:PyData->PyData->Option Bool)(a b:PyData):Option Bool :=
 match a with
 |.list xs=>(match b with|.list ys=>if xs.length=ys.length then Di f xs ys else al false|_=>az)
 |.tuple xs=>(match b with|.tuple ys=>Di f xs ys|_=>Kr a b)
 |_=>Kr a b
noncomputable def eqN:Nat->PyData->PyData->Option Bool
 |0,a,b=>Kr a b
 |n+1,a,b=>iO (eqN n) a b
noncomputable def AQ:Nat:=40
noncomputable def ZR:PyData->Nat
 |.none=>0|.bool _=>1|.int _=>2|.str _=>3|.list _=>4|.tuple _=>5|.dict _=>6
noncomputable def Pf(f:Addr->Option Obj):Value->Nat
 |.none=>0|.bool _=>1|.int _ _=>2|.str _ _=>3
 |.ref a=>(match f a with|some o=>if o.cls==.type "list" then 4 else 5|none=>7)
 |_=>7
theorem Fr(h:AG f d x):Pf f x=ZR d:=by
 cases d with
 |none=>exact congrArg (Pf f) h
 |bool b=>exact congrArg (Pf f) h
 |int i=>exact h.elim λt h=>congrArg (Pf f) h
 |str s=>exact h.elim λt h=>congrArg (Pf f) h.1
 |list xs=>exact h (λx=>Pf f x=4) λa o vs m hf hc _ _ _=>by show(match f a with|some o=>_|none=>_)=_;rw[hf];exact if_pos (by rw[hc];rfl)
 |tuple xs=>exact h (λx=>Pf f x=5) λa o vs m hf hc _ _ _=>by show(match f a with|some o=>_|none=>_)=_;rw[hf];exact if_neg (by rw[hc];decide)
 |dict es=>exact h.elim
theorem Lq{α:Prop}(k:∀vs,P vs->Q vs->α)(h:De f cl x P n)(h':De f cl x Q m):α:=by refine h (λx=>De f cl x Q m->α) (λa o vs n e2 _ e4 e5 _ h'=>?_) h';refine h' (λy=>y=.ref a->α) (λa' o' vs' n' e2' _ e4' e5' _ e=>?_) rfl;obtain rfl:=As e2 ((PySem.Value.ref.inj e)▸e2');rw[e4] at e4';cases e4';exact k _ e5 e5'
mutual
theorem AG.inj:∀(d d':PyData) (x:Value),ZR d'=ZR d->AG f d x->AG f d' x->d=d'
 |.none,d',x,t,h,h'=>by cases d'<;>first|rfl|exact Dk t rfl
 |.bool a,d',x,t,h,h'=>by cases d'<;>first|exact Dk t rfl|(cases(Eq.trans (Eq.symm h) h');rfl)
 |.int a,d',x,t,h,h'=>by cases d'<;>first|exact Dk t rfl|(refine oE h λ_ h=>?_;refine oE h' λ_ h'=>?_;cases h.symm.trans h';rfl)
 |.str a,d',x,t,h,h'=>by cases d'<;>first|exact Dk t rfl|(refine oEA h λ_ h _=>?_;refine oEA h' λ_ h' _=>?_;cases h.symm.trans h';rfl)
 |.list xs,d',x,t,h,h'=>by cases d'<;>first|exact Dk t rfl|exact congrArg _ (Lq (RepDs.inj xs _) h h')
 |.tuple xs,d',x,t,h,h'=>by cases d'<;>first|exact Dk t rfl|exact congrArg _ (Lq (RepDs.inj xs _) h h')
 |.dict _,_,_,_,h,_=>h.elim
theorem RepDs.inj:∀(ds ds':List PyData) (xs:List Value),RepDs f ds xs->RepDs f ds' xs->ds=ds'
 |[],[],_,_,_=>rfl
 |d::ds,d'::ds',x::xs,h,h'=>by rw[AG.inj d d' x ((Fr h'.1).symm.trans (Fr h.1)) h.1 h'.1,RepDs.inj ds ds' xs h.2 h'.2]
 |[],_::_,[],_,h=>h.elim
 |[],_::_,_::_,h,_=>h.elim
 |_::_,[],[],h,_=>h.elim
 |_::_,[],_::_,_,h=>h.elim
 |_::_,_::_,[],h,_=>h.elim
end
theorem Kq(hf:∀d b,f d d=al b->b=true)(l:List PyData):∀(b:Bool),Di f l l=al b->b=true:=by
 induction l with
 |nil=>exactλb h=>(AAA h).symm
 |cons x xs ih =>
  intro b h;refine oEA (ae h) λc e h=>oEA (ae h) λc' e' h=>?_;rw[<-AAA h,hf x c e,ih c' e'];rfl
theorem IF(d:PyData)(b:Bool)(h:Kr d d=al b):b=true:=by
 cases d with
 |none=>exact(AAA h).symm
 |bool x=>rw[<-AAA h];exact beq_self_eq_true x
 |int x=>rw[<-AAA h];exact beq_self_eq_true x
 |str x=>rw[<-AAA h];exact beq_self_eq_true x
 |_=>exact Aa h
theorem Vu(n:Nat):∀(d:PyData) (b:Bool),eqN n d d=al b->b=true:=by
 induction n with
 |zero=>exact IF
 |succ n ih =>
  intro d b h;have hl:=IF d b;cases d with
  |list xs =>
   have h:(if xs.length=xs.length then Di (eqN n) xs xs else al false)=al b:=h;rw[if_pos rfl] at h;exact Kq ih xs b h
  |tuple xs=>exact Kq ih xs b h
  |_=>exact hl h
section
variable{A:Around}
structure I7(A:Around)(s:Shared)(x y:Value)(b:Bool):Prop where
 eq:EqAt A s x y b
 rc:RcAt A s x y b
 ne:RcNeAt A s x y (!b)
theorem PU(ih:∀(d d':PyData) (x x':Value) (b:Bool),AG s.heap.get? d x->AG s.heap.get? d' x'->eqN n d d'=al b->I7 A s x x' b)(ds:List PyData) :
 ∀(ds':List PyData) (xs xs':List Value) (b:Bool),Ay (AG s.heap.get?) ds xs->Ay (AG s.heap.get?) ds' xs'->Di (eqN n) ds ds'=al b ->
  ∃e:Nat->Bool,(∀j x x',xs[j]? = al x->xs'[j]? = al x'->EqAt A s x x' (e j))/\b=((List.range (min xs.length xs'.length)).all e&&xs.length==xs'.length):=by
 induction ds with
 |nil =>
  intro ds' xs xs' b r r' h;rw[r.nil];refine(iEA (λ_=>true) (λj x x' h=>Aa h) ?_);rw[<-r'.length];cases ds'<;>exact(AAA h).symm
 |cons d ds ihl =>
  intro ds' xs xs' b r r' h;refine Br r.cons λx xs q_2 r1 r2=>?_;subst q_2;cases ds' with
  |nil =>
   exact r'.nil▸iEA (λ_=>true) (λj x x' _ h=>Aa h) ((AAA h).symm)
  |cons d' ds' =>
   refine Br r'.cons λx' xs' q_2 r1' r2'=>?_;subst q_2;refine oEA (ae h) λc e h=>oEA (ae h) λc' e' h=>oEA (ihl ds' xs xs' c' r2 r2' e') λf h1 h2=>(iEA (λj=>if j=0 then c else f (j-1)) (λj y y' hy hy'=>?_) ?_)
   ·cases j with
    |zero=>rw[<-AAA hy,<-AAA hy'];exact(ih d d' x x' c r1 r1' e).eq
    |succ j=>exact h1 j y y' hy hy'
   ·rw[<-AAA h,h2,AA2,AA2,Nat.add_min_add_right,List.range_succ_eq_map,List.all_cons,List.all_map];simp[Function.comp_def,Bool.and_assoc]
theorem It(hu:A.units<cLine)(r:AG s.heap.get? d x)(r':AG s.heap.get? d' x')(h:Kr d d'=al b):I7 A s x x' b:=by
 have tn:∀ds x,AG s.heap.get? (.tuple ds) x->I7 A s .none x false/\I7 A s x .none false:=λds x r=>r (λx=>I7 A s .none x false/\I7 A s x .none false) λa o vs k q1 q2 q3 q4 _ =>
  ⟨⟨EqAt.none_tuple ⟨_,q1,q2,_,q3⟩ hu,RcAt.none_tuple ⟨_,q1,q2,_,q3⟩ hu,RcNeAt.none_tuple ⟨_,q1,q2,_,q3⟩ hu⟩,EqAt.tuple_none ⟨_,q1,q2,_,q3⟩ hu,RcAt.tuple_none ⟨_,q1,q2,_,q3⟩ hu,RcNeAt.tuple_none ⟨_,q1,q2,_,q3⟩ hu⟩
 cases d with
 |none =>
  obtain rfl:x=.none:=r;cases d' with
  |none=>obtain rfl:x'=.none:=r';rw[<-AAA h];exact⟨EqAt.same _,RcAt.none_none,RcNeAt.none_none⟩
  |str _=>refine oEA r' λt q_1 _=>?_;subst q_1;rw[<-AAA h];exact⟨EqAt.none_str _ _,RcAt.none_str _ _,RcNeAt.none_str _ _⟩
  |tuple _=>rw[<-AAA h];exact(tn _ _ r').1
  |_=>exact Aa h
 |bool a=>cases d' with
  |bool c=>obtain rfl:x=.bool a:=r;obtain rfl:x'=.bool c:=r';rw[<-AAA h];exact⟨EqAt.bool_bool _ _,RcAt.bool_bool _ _,RcNeAt.bool_bool _ _⟩
  |_=>exact Aa h
 |int a=>cases d' with
  |int c=>refine oE r λt q_1=>?_;subst q_1;refine oE r' λt' q_1=>?_;subst q_1;rw[<-AAA h];exact⟨EqAt.int_int _ _ _ _,RcAt.int_int _ _ _ _,RcNeAt.int_int _ _ _ _⟩
  |_=>exact Aa h
 |str a=>refine oEA r λt q_1 _=>?_;subst q_1;cases d' with
  |none=>obtain rfl:x'=.none:=r';rw[<-AAA h];exact⟨EqAt.str_none _ _,RcAt.str_none _ _,RcNeAt.str_none _ _⟩
  |str c=>refine oEA r' λt' q_1 _=>?_;subst q_1;rw[<-AAA h];exact⟨EqAt.str_str _ _ _ _,RcAt.str_str _ _ _ _,RcNeAt.str_str _ _ _ _⟩
  |_=>exact Aa h
 |tuple _=>cases d' with
  |none=>obtain rfl:x'=.none:=r';rw[<-AAA h];exact(tn _ _ r).2
  |_=>exact Aa h
 |_=>exact Aa h
theorem Rm(rr:AG s.heap.get? d (.ref a))(rr':AG s.heap.get? d' (.ref a'))(h:eqN n d d'=al b)(rc:RcAt A s (.ref a) (.ref a') b/\RcNeAt A s (.ref a) (.ref a') (!b)):I7 A s (.ref a) (.ref a') b:=by
 refine⟨?_,rc.1,rc.2⟩;by_cases ha:a=a'
 ·subst ha;rw[<-AG.inj _ _ _ ((Fr rr').symm.trans (Fr rr)) rr rr'] at h;exact(Vu n d b h)▸EqAt.same _
 ·exact EqAt.of_refs ha rc.1
theorem Vv(n:Nat):∀(A:Around),A.units+n<cLine->∀(d d':PyData) (x x':Value) (b:Bool),AG s.heap.get? d x->AG s.heap.get? d' x'->eqN n d d'=al b->I7 A s x x' b:=by
 induction n with
 |zero=>exactλA hu d d' x x' b r r' h=>It hu r r' h
 |succ n ih =>
  intro A hu d d' x x' b r r' h;have hu':=AAS (AA9 _ _) hu;have hu1:=by show A.units+1+n<cLine;rw[ADK,AC9 1];exact hu
  have it:=PU (ih A.in1 hu1);have hL:=h;cases d with
  |list ds=>cases d' with
   |list ds' =>
    refine r (λx=>AG s.heap.get? (.list ds) x->I7 A s x x' b) (λa o vs k q1 q2 q3 q4 _ rr=>r' (λx'=>AG s.heap.get? (.list ds') x'->I7 A s (.ref a) x' b) (λa' o' vs' k' p1 p2 p3 p4 _ rr'=>Rm rr rr' h ?_) r') r;have hl:s.heap.IsList a vs:=⟨_,q1,q2,_,q3⟩
    have hl':s.heap.IsList a' vs':=⟨_,p1,p2,_,p3⟩
    have l1:=q4.all.length;have l2:=p4.all.length;have hL:(if ds.length=ds'.length then Di (eqN n) ds ds' else al false)=al b:=hL;by_cases hsz:ds.length=ds'.length
    ·rw[if_pos hsz] at hL;refine oEA (it ds ds' vs.toList vs'.toList b q4.all p4.all hL) λe h1 h2=>?_;have hsz':vs.size=vs'.size:=l1.symm.trans (hsz.trans l2);have hb:b=(List.range vs.size).all e:=by rw[h2];simp[hsz']
     exact hb▸(⟨RcAt.lists hl hl' hsz' hu' λj j1 j2=>h1 j _ _ (by simp[j1]) (by simp[j2]),RcNeAt.lists hl hl' hsz' hu' λj j1 j2=>h1 j _ _ (by simp[j1]) (by simp[j2])⟩)
    ·rw[if_neg hsz] at hL;rw[<-AAA hL];have hsz':=bne_iff_ne.mpr λq=>hsz (l1.trans (q.trans l2.symm));exact⟨RcAt.lists_lengths hl hl' hsz' hu',RcNeAt.lists_lengths hl hl' hsz' hu'⟩
   |_=>exact Aa hL
  |tuple ds=>cases d' with
   |tuple ds' =>
    refine r (λx=>AG s.heap.get? (.tuple ds) x->I7 A s x x' b) (λa o vs k q1 q2 q3 q4 _ rr=>r' (λx'=>AG s.heap.get? (.tuple ds') x'->I7 A s (.ref a) x' b) (λa' o' vs' k' p1 p2 p3 p4 _ rr'=>Rm rr rr' h ?_) r') r;have hl:s.heap.IsTuple a vs:=⟨_,q1,q2,_,q3⟩
    have hl':s.heap.IsTuple a' vs':=⟨_,p1,p2,_,p3⟩
    exact oEA (it ds ds' vs.toList vs'.toList b q4.all p4.all hL) λe h1 h2=>h2▸(⟨RcAt.tuples hl hl' hu' λj j1 j2=>h1 j _ _ (by simp[j1]) (by simp[j2]),RcNeAt.tuples hl hl' hu' λj j1 j2=>h1 j _ _ (by simp[j1]) (by simp[j2])⟩)
   |_=>exact It hu' r r' hL
  |_=>exact It hu' r r' hL
end
noncomputable def wv:PyData⊕Nat->V:=Sum.elim .d .ref
noncomputable def Fh(o:Option O):Option (List V):=match o with|some o=>(match o with|.list vs=>al vs|_=>az)|none=>az
noncomputable def AE(U:Ac)(v:V):Option (List V) :=
 match v with
 |.d x=>(match x with|.list xs=>al (xs.map .d)|_=>az)
 |.ref k=>Fh U[k]?
 |_=>az
noncomputable def CK(v:V):Option (List V) :=
 match v with
 |.d x=>(match x with|.tuple xs=>al (xs.map .d)|_=>az)
 |.tup ws=>al (ws.map wv)
 |.pr x y=>al [x,y]
 |_=>az
noncomputable def gV(v:V):Option PyData:=match v with|.d x=>al x|_=>az
noncomputable def Gm:List V->Option (List PyData)
 |[]=>al []
 |v::r=>(gV v).bind λx=>(Gm r).bind λxs=>al (x::xs)
noncomputable def Xd(o:Option (List V)):Option PyData:=o.bind λvs=>(Gm vs).bind λxs=>al (.list xs)
noncomputable def Tt(U:Ac):List (PyData⊕Nat)->Option (List PyData)
 |[]=>al []
 |w::r=>(match w with|.inl x=>al x|.inr k=>Xd (Fh U[k]?)).bind λx=>(Tt U r).bind λxs=>al (x::xs)
noncomputable def GZ(U:Ac)(v:V):Option PyData :=
 match v with
 |.d x=>al x
 |.ref k=>Xd (Fh U[k]?)
 |.tup ws=>(Tt U ws).bind λxs=>al (.tuple xs)
 |_=>az
theorem HL:∀{xs:List PyData},Gm vs=al xs->vs=xs.map .d:=by
 induction vs with
 |nil=>exactλh=>by rw[<-AAA h];rfl
 |cons v vs ih =>
  intro xs h;refine oEA (ae h) λx e h'=>oEA (ae h') λys e' h''=>?_;cases v with
  |d y=>rw[<-AAA h'',ih e',AAA e];rfl
  |_=>exact Aa e
theorem Dl(h:Fh o=al vs):o=al (.list vs):=by
 cases o with
 |none=>exact Aa h
 |some o=>cases o with
  |list ws=>rw[AAA h]
  |_=>exact Aa h
section
variable{s:Shared}{ws:List V}
theorem Be(H:Has T g U s)(rx:Av T g v X)(e:AE U v=al ws){R_:Value->Prop}(k:∀a xs,s.heap.IsList a xs->Au T g ws xs.toList->ws.length=xs.size->xs.size<=line->R_ (.ref a)):R_ X:=by
 cases v with
 |d y=>cases y with
  |list ds =>
   obtain rfl:ds.map .d=ws:=AAA e;exact rx R_ λa o vs n h1 h2 h3 h4 h5=>k a vs ⟨o,H.fz _ _ h1,h2,n,h3⟩ (.ofD h4) (Au.ofD (T:=T) h4).length (ABA▸h4.all.length▸h5)
  |_=>exact Aa e
 |ref j =>
  refine oEA rx λa e1 q_2=>?_;subst q_2;exact H.ob j a _ e1 (Dl e) _ λo ho ro=>ro (λo=>s.heap.get? a=al o->R_ (.ref a)) (λxs m hr hl ho=>k a xs ⟨_,ho,rfl,m,rfl⟩ hr hr.length (ABA▸hr.length▸hl)) ho
 |_=>exact Aa e
theorem Ix.wv{ws:List (PyData⊕Nat)}(h:Ay (Ix g) ws xs):Au T g (ws.map wv) xs:=by
 induction ws generalizing xs with
 |nil=>rw[h.nil];exact trivial
 |cons w ws ih =>
  refine Br h.cons λx xs q_2 h1 h2=>?_;subst q_2;exact⟨by cases w<;>exact h1,ih h2⟩
theorem CD(H:Has T g U s)(rx:Av T g v X)(e:CK v=al ws){R_:Value->Prop}(k:∀a xs,s.heap.IsTuple a xs->Au T g ws xs.toList->ws.length=xs.size->xs.size<=line->R_ (.ref a)):R_ X:=by
 cases v with
 |d y=>cases y with
  |tuple ds =>
   obtain rfl:ds.map .d=ws:=AAA e;exact rx R_ λa o vs n h1 h2 h3 h4 h5=>k a vs ⟨o,H.fz _ _ h1,h2,n,h3⟩ (.ofD h4) (Au.ofD (T:=T) h4).length (ABA▸h4.all.length▸h5)
  |_=>exact Aa e
 |tup us =>
  obtain rfl:us.map wv=ws:=AAA e;exact rx R_ λa o vs n h1 h2 h3 h4 h5=>k a vs ⟨o,H.fz _ _ h1,h2,n,h3⟩ (Ix.wv h4) (Ix.wv (T:=T) h4).length (ABA▸h4.length▸h5)
 |pr x y =>
  obtain rfl:[x,y]=ws:=AAA e;exact rx R_ λa o vs n h1 h2 h3 h4 h5=>by exact Br h4 λa' b' e4 r1 r2=>k a vs ⟨o,H.fz _ _ h1,h2,n,h3⟩ (e4▸⟨r1,r2,trivial⟩) (ABA▸e4▸rfl) (ABA▸e4▸h5)
 |_=>exact Aa e
theorem NO(H:Has T g U s)(rx:Av T g (.ref k) X)(e:Xd (Fh U[k]?)=al d):AG s.heap.get? d X:=by refine oEA (ae e) λws e1 e=>oEA (ae e) λxs e2 e=>?_;rw[<-AAA e];rw[HL e2] at e1;exact Be H rx e1 λa vs hL hr hl hs=>IB hL λo ho hc n hd=>λR_ kk=>kk a o vs n ho hc hd (RepDs.mono H.fz _ _ (Au.toD hr)) (by rw[<-AAB,hl];exact hs)
theorem Ft(H:Has T g U s)(rx:Av T g v X)(e:GZ U v=al d):AG s.heap.get? d X:=by
 cases v with
 |d y=>rw[<-AAA e];exact AG.mono H.fz _ _ rx
 |ref k=>exact NO H rx e
 |tup ws =>
  refine oEA (ae e) λxs e e'=>?_;rw[<-AAA e'];have key:∀{ws:List (PyData⊕Nat)} {xs:List PyData} {vs:List Value},Ay (Ix g) ws vs->Tt U ws=al xs->Ay (AG s.heap.get?) xs vs:=by
   intro ws
   induction ws with
   |nil=>intro xs vs h e;rw[h.nil,<-AAA e];exact trivial
   |cons w ws ih =>
    intro xs vs h e;refine Br h.cons λv vs q_2 h1 h2=>?_;subst q_2;refine oEA (ae e) λx e1 e=>oEA (ae e) λys e2 e=>?_;rw[<-AAA e];refine⟨?_,ih h2 e2⟩;cases w with
    |inl y=>rw[<-AAA e1];exact AG.mono H.fz _ _ h1
    |inr k=>exact NO H h1 e1
  exact rx _ λa o vs n h1 h2 h3 h4 h5 R_ kk=>kk a o vs n (H.fz _ _ h1) h2 h3 (.of (key h4 e)) (((key h4 e).length)▸h4.length▸h5)
 |_=>exact Aa e
end
section
variable{U:Ac}{i j:Int}
theorem Wy:Tr U (.d .none) false:=λr g s X A h=>by obtain rfl:X=.none:=h;exact PyProof.Rows.truthy_none (.refl A.has rfl)
theorem ZO:Tr U (vi i) (i != 0):=λr g s X A h=>by refine oE h λt q_1=>?_;subst q_1;exact P.truthy_int (.refl A.has rfl)
theorem ZN:Tr U (.d (.str t)) (t.cps.size != 0):=λr g s X A h=>by refine oEA h λk q_1 hl=>?_;subst q_1;refine P.truthy_str (Int.not_le.mpr (Int.ofNat_lt.mpr (F9 hl))) (.refl A.has.tok ?_);show((t.cps.size:Int) != 0)=(t.cps.size != 0);cases t.cps.size<;>rfl
theorem LQ{α:Type}{ws:List V}{xs:Array α}(h:ws.length=xs.size):(!xs.isEmpty) = !ws.isEmpty:=by
 cases ws with
 |nil=>rw[Array.size_eq_zero_iff.mp h.symm];rfl
 |cons w ws =>
  have:xs≠#[]:=λq=>by rw[q] at h;exact Dk h rfl
  exact(show xs.isEmpty=false by simpa using this)▸rfl
theorem Qp(e:AE U v=al ws):Tr U v (!ws.isEmpty):=λr g s X A h =>
 Be A.has h e (R_:=λX=>r.wp (truthy X) (λx s'=>CS r.T [] g U (λ_=>x = !ws.isEmpty) s') s) λa xs hL hr hl hs=>wpAny_truthy_list hL (Int.ofNat_lt.mpr (F9 hs)) (.refl A.has.tok (LQ hl))
theorem ZM(e:CK v=al ws):Tr U v (!ws.isEmpty):=λr g s X A h =>
 CD A.has h e (R_:=λX=>r.wp (truthy X) (λx s'=>CS r.T [] g U (λ_=>x = !ws.isEmpty) s') s) λa xs hL hr hl hs=>PyProof.Rows.truthy_tuple hL (Int.ofNat_lt.mpr (F9 hs)) (.refl A.has.tok (LQ hl))
noncomputable def small(i:Int):Bool:=decide (-9223372036854775808<i)&&decide (i<9223372036854775808)
theorem Fm{m:Value->Value->Sem Value}{f:Int->Int->Int}(h:∀(r:Ar) (g:G) (s:Shared) (t u:Tok),At 0 r g U s->∀Q:Value->Shared->Prop,(∀t k,Q (.int (f i j) t) {s with toks:=k})->wpAny (model r.T.prog r.T.w) r.A (m (.int i t) (.int j u)) Q (λ_ _=>False) s):Pr2 m (vi i) (vi j) U (vi (f i j)) U:=λr g s X Y A hx hy=>by refine oE hx λt q_1=>?_;subst q_1;refine oE hy λu q_1=>?_;subst q_1;exact h r g s t u A _ λt k=>.refl A.has.tok ⟨t,rfl⟩
theorem gB:Pr2 (binaryOp .Add) (vi i) (vi j) U (vi (i+j)) U:=Fm λr g s t u A Q h=>P.add_int (h _ _)
theorem fR:Pr2 (binaryOp .Sub) (vi i) (vi j) U (vi (i-j)) U:=Fm λr g s t u A Q h=>P.sub_int (h _ _)
theorem fZ(hj:j≠0):Pr2 (binaryOp .FloorDiv) (vi i) (vi j) U (vi (i.fdiv j)) U:=Fm λr g s t u A Q h=>PyProof.Rows.floordiv_int hj (h _ _) (Or.inr A.pylong)
theorem fT(hj:j≠0):Pr2 (binaryOp .Mod) (vi i) (vi j) U (vi (i.fmod j)) U:=Fm λr g s t u A Q h=>PyProof.Rows.mod_int' hj (h _ _)
theorem Jq(h:small i=true):Builtin.Int.intBits i<=64:=by have h:=AAH.mp h;exact intBits_le_64 (by have:=AAG h.1;exact Z0 this rfl) (by have:=AAG h.2;exact IJ this rfl)
theorem fS(hs:(small i||small j)=true):Pr2 (binaryOp .Mult) (vi i) (vi j) U (vi (i*j)) U:=Fm λr g s t u A Q h=>P.mul_int (h _ _) ((ABC.mp hs).elim (λh=>IntMulOk.of_left (Jq h)) λh=>IntMulOk.of_right (Jq h))
theorem gA(hl:a.length+b.length<=line):Pr2 (binaryOp .Add) (.d (.str a)) (.d (.str b)) U (.d (.str (a++b))) U:=λr g s X Y A hx hy=>by refine oEA hx λt q_1 _=>?_;subst q_1;refine oEA hy λu q_1 _=>?_;subst q_1;exact SB.add (λt' k=>.refl A.has.tok ⟨_,rfl,by rw[Str.length_append];exact hl⟩) (Bd▸hl)
theorem Hf(h:∀(r:Ar) (g:G) (s:Shared) (X Y:Value),At 0 r g U s->Av r.T g x X->Av r.T g y Y->∀Q:Value->Shared->Prop,Q (.bool b) s->wpAny (model r.T.prog r.T.w) r.A (m X Y) Q (λ_ _=>False) s):Pr2 m x y U (vb b) U :=
 λr g s X Y A hx hy=>h r g s X Y A hx hy _ (.refl A.has rfl)
theorem YO(A:At 0 r g U s)(hx:Av r.T g x X)(hy:Av r.T g y Y)(h1:GZ U x=al d)(h2:GZ U y=al d')(h:eqN AQ d d'=al b):I7 r.A s X Y b :=
 Vv AQ r.A (Nat.lt_of_succ_lt A.room) d d' X Y b (Ft A.has hx h1) (Ft A.has hy h2) h
theorem mM(h1:GZ U x=al d)(h2:GZ U y=al d')(h:eqN AQ d d'=al b):Pr2 (compareOp .Eq) x y U (vb b) U:=Hf λr g s X Y A hx hy Q q=>(YO A hx hy h1 h2 h).rc _ _ _ Q q
theorem mF(h1:GZ U x=al d)(h2:GZ U y=al d')(h:eqN AQ d d'=al b):Pr2 (compareOp .NotEq) x y U (vb !b) U:=Hf λr g s X Y A hx hy Q q=>(YO A hx hy h1 h2 h).ne _ _ _ Q q
noncomputable def Gk(h:Heap)(d:PyData)(v:Value):Bool:=@decide (∃d',AG h.get? d' v/\eqN AQ d' d=al true) (ACI _)
theorem AAT:type_of% @decide_eq_false:=@decide_eq_false
theorem Rn(r:AG h.get? d' v)(e:eqN AQ d' d=al b):Gk h d v=b:=by
 unfold Gk;cases b with
 |true=>exact@AAI _ (ACI _) (iEA d' r e)
 |false =>
  refine@AAT _ (ACI _) ?_;intro q;refine oEA q λd'' r' e'=>?_;rw[AG.inj _ _ _ ((Fr r).symm.trans (Fr r')) r' r,e] at e';exact ff_ (AAA e')
noncomputable def inD(x:PyData):List PyData->Option Bool
 |[]=>al false
 |y::r=>(eqN AQ y x).bind λa=>(inD x r).bind λb=>al (a||b)
theorem PD(hu:A.units+AQ<cLine)(r:AG s.heap.get? d Y):∀{ds:List PyData} {xs:List Value} {b:Bool},Ay (AG s.heap.get?) ds xs->inD d ds=al b ->
 (∀x,x∈xs->EqAt A s x Y (Gk s.heap d x))/\b=xs.any (Gk s.heap d):=by
 intro ds
 induction ds with
 |nil=>intro xs b h e;rw[h.nil];exact⟨λx h=>(nomatch h),(AAA e).symm⟩
 |cons z ds ih =>
  intro xs b h e;refine Br h.cons λx xs q_2 h1 h2=>?_;subst q_2;refine oEA (ae e) λc e1 e=>oEA (ae e) λc' e2 e=>oA (ih h2 e2) λh3 h4=>?_;have h5:=Rn h1 e1;refine⟨λw hw=>(AAR.mp hw).elim (λq=>?_) (h3 w),by rw[List.any_cons,h5,<-h4,AAA e]⟩;exact q▸h5▸(Vv AQ A hu z d x Y c h1 r e1).eq
theorem UG(h1:GZ U x=al d)(h2:GZ U y=al (.list ds)\/GZ U y=al (.tuple ds))(h:inD d ds=al b):Pr2 (compareOp .In) x y U (vb b) U/\Pr2 (compareOp .NotIn) x y U (vb !b) U:=by
 have key:∀{op:CmpOp} {c:Bool},(∀(r:Ar) (s:Shared) (X:Value) (a:Addr) (vs:Array Value),(s.heap.IsList a vs\/s.heap.IsTuple a vs)->(∀z,z∈vs->EqAt r.A.in1 s z X (Gk s.heap d z))->b=vs.any (Gk s.heap d)->∀Q:Value->Shared->Prop,Q (.bool c) s->wpAny (model r.T.prog r.T.w) r.A (compareOp op X (.ref a)) Q (λ_ _=>False) s)->Pr2 (compareOp op) x y U (vb c) U:=λk =>
  Hf λr g s X Y A hx hy Q q=>by
   have hX:=Ft A.has hx h1;have hu:r.A.in1.units+AQ<cLine:=A.room;rcases h2 with h2|h2
   ·exact Ft A.has hy h2 (λY=>wpAny _ r.A (compareOp _ X Y) Q _ s) λa o vs n p1 p2 p3 p4 _=>by exact oA (PD hu hX p4.all h) λq1 q2=>k r s X a vs (.inl ⟨o,p1,p2,n,p3⟩) (λz hz=>q1 z (Array.mem_toList_iff.mpr hz)) (q2.trans (by simp)) Q q
   ·exact Ft A.has hy h2 (λY=>wpAny _ r.A (compareOp _ X Y) Q _ s) λa o vs n p1 p2 p3 p4 _=>by exact oA (PD hu hX p4.all h) λq1 q2=>k r s X a vs (.inr ⟨o,p1,p2,n,p3⟩) (λz hz=>q1 z (Array.mem_toList_iff.mpr hz)) (q2.trans (by simp)) Q q
 exact⟨key λr s X a vs hL hz e Q q=>hL.elim (λhL=>in_listAt (Gk s.heap d) hL hz (e▸q)) λhL=>in_tupleAt (Gk s.heap d) hL hz (e▸q),
  key λr s X a vs hL hz e Q q=>hL.elim (λhL=>notIn_listAt (Gk s.heap d) hL hz (e▸q)) λhL=>notIn_tupleAt (Gk s.heap d) hL hz (e▸q)⟩
end
def Cj(r:Ar)(g:G)(U':Ac)(ws:List V)(x:Value)(s':Shared):Prop :=
 ∀R_:Value->Prop,(∀(g':G) (a:Addr) (xs:Array Value) (m:Nat),G.le [] g g'->Has r.T g' U' s'->DA r.T g' a->s'.heap.get? a=al {cls:=.type "list",dict:=az,data:=.seq xs m,slots:=#[]}->Au r.T g' ws xs.toList->ws.length<=line->R_ (.ref a))->R_ x
def SL(n:Nat)(e:E)(J:Am)(U:Ac)(ws:List V)(U':Ac):Prop :=
 ∀(c:Cx) (g:G) (s:Shared) (ex:Expr),IsE e c.K ex->Inv n c J g U s->c.wp (eval ex c.env) (Cj c.toAr g U' ws) s
def Nb(m:Value->Sem Value)(x:V)(U:Ac)(ws:List V)(k:Nat:=0):Prop :=
 ∀(r:Ar) (g:G) (s:Shared) (X:Value),At k r g U s->Av r.T g x X->r.wp (m X) (Cj r g U ws) s
theorem Nb.up(h:Nb m x U ws):Nb m x U ws k:=λr g s X A=>h r g s X (A.less (ABF _))
def dX(m:Value->Value->Sem Value)(x y:V)(U:Ac)(ws:List V):Prop :=
 ∀(r:Ar) (g:G) (s:Shared) (X Y:Value),At 0 r g U s->Av r.T g x X->Av r.T g y Y->r.wp (m X Y) (Cj r g U ws) s
section
variable{r:Ar}{g:G}{ds:List PyData}
theorem Cj.frz(h:Cj r g U' (ds.map .d) X s'):Ans r g (.d (.list ds)) U' X s' :=
 h (λX=>Ans r g (.d (.list ds)) U' X s') λg' a xs m le H F ho hr hl=>.mk (g'.put a _) (le.trans (.put F.fz)) (F.put H ho) λR_ k=>k a _ xs m G.put_self rfl rfl (RepDs.mono (G.le.put (own:=[]) F.fz).fz _ _ (Au.toD hr)) ((AAB (f:=V.d))▸hl)
theorem Cj.trk(h:Cj r g U' ws X s'):Ans r g (.ref U'.length) (U'++[.list ws]) X s' :=
 h (λX=>Ans r g (.ref U'.length) (U'++[.list ws]) X s') λg' a xs m le H F ho hr hl=>.mk (g'.add a) (le.trans .add) (F.add (ob:=.list ws) H ho λR_ k=>k xs m (Au.mono (G.le.add (own:=[])).toup hr) hl) ⟨a,H.addAt,rfl⟩
theorem Cj.after(le:G.le [] g aj)(h:Cj r aj U' ws X s'):Cj r g U' ws X s':=λR_ k=>h R_ λg' a xs m l=>k g' a xs m (le.trans l)
theorem SE.frz(h:SL n e J U (ds.map .d) U'):SE n e J U (.d (.list ds)) U':=λc g s ex hc I=>AAO (h c g s ex hc I) (λ_ _ p=>p.frz) λ_ _ h=>h
theorem SE.trk(h:SL n e J U ws U'):SE n e J U (.ref U'.length) (U'++[.list ws]):=λc g s ex hc I=>AAO (h c g s ex hc I) (λ_ _ p=>p.trk) λ_ _ h=>h
theorem Cj.made(H:Has r.T g U s)(k:∀b o,s.heap.get? b=al o->s'.heap.get? b=al o)(hn:s.heap.get? l=az)(ho:s'.heap.get? l=al {cls:=.type "list",dict:=az,data:=.seq xs m,slots:=#[]})(hr:Au r.T g ws xs.toList)(hl:ws.length<=line)
 (hg:s'.gens=s.gens:=by rfl) (hos:s'.os=s.os:=by rfl):Cj r g U ws (.ref l) s' :=
 λR_ kk=>kk g l xs m (.refl _ _) (H.keep k hg hos) (H.free hn) ho hr hl
theorem Cj.push(H:Has r.T g U s)(hr:Au r.T g ws xs.toList)(hl:ws.length<=line):Cj r g U ws (.ref s.heap.objs.size) {s with heap:=s.heap.push {cls:=.type "list",dict:=az,data:=.seq xs m,slots:=#[]}} :=
 .made H (λb o e=>AAK _ e) (By _) (AA3 _ rfl) hr hl
theorem SL.lst(h:SEs n a J U ws ag)(hl:ws.length<=line):SL n (.lst a) J U ws ag:=λc g s ex hc I=>hc (λex=>c.wp (eval ex c.env) (Cj c.toAr g ag ws) s) λvs p hc=>Bt (arm_eval_List ..) (AAD (AA7
 (BW (h c g s vs p hc I) λxs aj ai le ar ao=>wpAny_newList ((Cj.push (r:=c.toAr) ar (List.toList_toArray▸ao) hl).after le) (ao.length▸Bd▸hl))))
theorem SL.B(ha:SE n a J U x ag)(hb:SE n b J ag y ak)(h:dX (binaryOp op) x y ak ws):SL n (.B op a b) J U ws ak:=by exactλc g s ex hc I=>hc (λex=>c.wp (eval ex c.env) (Cj c.toAr g ak ws) s) λl r p h1 h2=>Bt (arm_eval_BinOp ..) (Fk ha hb h1 h2 I λX Y an am le I2 ao ay=>AAD (AA7 (wpAny_operating (AAO (h c.toAr an am X Y I2.at0 ao ay) (λ_ _ p=>p.after le) λ_ _ h=>h))))
theorem JN{h:Heap}(x:h.IsList a xs):∃n dd sl,h.get? a=al {cls:=.type "list",dict:=dd,data:=.seq xs n,slots:=sl}:=by refine IB x λq_0 ho hc n hd=>?_;obtain⟨c,dd,data,sl⟩:=q_0;simp only at hc hd;subst hc hd;exact FH n dd sl ho
theorem Pu(h1:AE U x=al ws)(h2:AE U y=al us)(hl:ws.length+us.length<=line):dX (binaryOp .Add) x y U (ws++us):=λr g s X Y A hx hy =>
 Be A.has hx h1 (R_:=λX=>r.wp (binaryOp .Add X Y) (Cj r g U (ws++us)) s) λla ia ha1 ha2 ha3 _=>Be A.has hy h2 (R_:=λY=>r.wp (binaryOp .Add (.ref la) Y) (Cj r g U (ws++us)) s) λlb ib hb1 hb2 hb3 _=>by refine NE (JN ha1) λn1 d1 s1 o1=>NE (JN hb1) λn2 d2 s2 o2=>concat_meets ⟨_,o1,rfl⟩ ⟨_,o2,rfl⟩ noFill_list_add seq_list_add PySem.F.slot_list_add PySem.F.entry_list_add (PySem.F.args_list_add_2 _ _) (PyProof.Rows.list_addW la lb ia ib n1 n2 d1 d2 s1 s2 (ha3▸hb3▸Bd▸hl)) ⟨o1,o2,?_⟩;exact .push A.has (by rw[Array.toList_append];exact ha2.append hb2) (AAF▸hl)
theorem Md(H:Has r.T g U s)(F:DA r.T g l)(ho:s.heap.get? l=al o)(hc:o.cls=.type "tuple")(hd:o.data=.seq xs m)(hr:Ay (AG g.fz) ds xs.toList)(hl:ds.length<=line):Ans r g (.d (.tuple ds)) U (.ref l) s :=
 .mk (g.put l o) (.put F.fz) (F.put H ho) λR_ k=>k l o xs m G.put_self hc hd (.of (hr.mono λ_ _=>AG.mono (G.le.put (own:=[]) F.fz).fz _ _)) hl
theorem ZP(h:Au r.T g (ds.map .d) xs):Ay (AG g.fz) ds xs:=(Au.toD h).all
theorem SE.tup(h:SEs n a J U (ds.map .d) ag)(hl:ds.length<=line):SE n (.tup a) J U (.d (.tuple ds)) ag:=λc g s ex hc I=>hc (λex=>c.wp (eval ex c.env) (Ans c.toAr g (.d (.tuple ds)) ag) s) λvs k p hc=>Bt (arm_eval_Tuple ..) (AAD (AA7
 (BW (h c g s vs p hc I) λxs aj ai le ar ao=>wpAny_newTuple (CS.after le (Md (r:=c.toAr) (ar.keep λb o e=>AAK _ e) (ar.free (By _)) (AA3 _ rfl) rfl rfl (List.toList_toArray▸ZP (r:=c.toAr) ao) hl)) (by rw[<-ao.length,<-Bd,AAB];exact hl))))
end
def PrG(x y:V)(U:Ac)(v:V):Prop :=
 ∀(r:Ar) (g:G) (s:Shared) (X Y:Value),At 0 r g U s->Av r.T g x X->Av r.T g y Y->∀R_:Prop,(∀Ty id,s.TypeIs X Ty->typeLookup (.type Ty) "__getitem__" = pure (al (.builtin id))->r.wp (getItem X Y) (Ans r g v U) s->R_)->R_
noncomputable def O4(c:Nat):Str:=⟨#[c]⟩
noncomputable def Dc{α:Type}(lo hi:Option Int)(xs:List α):List α :=
 (xs.drop (lo.elim 0 (clipAt xs.length))).take (hi.elim xs.length (clipAt xs.length)-lo.elim 0 (clipAt xs.length))
noncomputable def IR(lo hi:Option Int)(x:Str):Str:=⟨(Dc lo hi x.cps.toList).toArray⟩
section
variable{r:Ar}{s:Shared}{ws:List V}
theorem Tw(slice:Expr)(x i:Value):∃ws,subscripted slice false x i=operate ws (getItem x i):=by
 cases slice with
 |Slice _ _ c _=>cases c<;>exact⟨_,rfl⟩
 |_=>exact⟨_,rfl⟩
theorem Nu{value slice:Expr}{Ty id:String}{Q:Value->Shared->Prop}(hT:s.TypeIs x Ty)(hl:typeLookup (.type Ty) "__getitem__" = pure (al (.builtin id)))
 (h:r.wp (getItem x i) Q s):r.wp (getitemInPython x>>=λp=>subscripted slice p x i>>=λv=>letTemporaryGo value x v>>=λ_=>pure v) Q s:=by
 rw[getitemInPython_of_ne hT.not_modules];refine AAD (AAD (wpAny_specialOf hT hl (AAY (AAD ?_))));exact oE (Tw slice x i) λws hs=>Bt hs (wpAny_operating (AAO h (λv aB aO=>AAD (wpAny_letTemporaryGo (AAY aO))) λ_ _ y=>y))
theorem SE.aa(ha:SE n a J U x ag)(hb:SE n b J ag y ak)(h:PrG x y ak v):SE n (.aa a b) J U v ak:=by exactλc g s ex hc I=>hc (λex=>c.wp (eval ex c.env) (Ans c.toAr g v ak) s) λl r p h1 h2=>Bt (arm_eval_Subscript ..) (Fk ha hb h1 h2 I λX Y an am le I2 ao ay=>AAD (AA7 (h c.toAr an am X Y I2.at0 ao ay _ λTy id hT hl w=>Nu hT hl (BP le w))))
theorem Fu(h:small i=true):-(2 ^ 63)<=i/\i<2 ^ 63:=by have h:=AAH.mp h;exact⟨Int.le_of_lt (AAG h.1),AAG h.2⟩
theorem IP(h:seqIndex? k n=al j)(h0:0<=k):k.toNat=j:=by unfold seqIndex? at h;rw[if_neg (Int.not_lt.mpr h0)] at h;exact(BG h).2
theorem Ha(h:seqIndex? k n=al j)(h0:k<0):(k+n).toNat=j/\-(n:Int)<=k:=by unfold seqIndex? at h;rw[if_pos h0] at h;have h:=BG h;exact⟨h.2,by exact(by have:=AAG (AAH.mp h.1).1;omega)⟩
theorem cY(h:AE U x=al ws)(hk:small k=true)(hj:seqIndex? k ws.length=al j)(hv:ws[j]? = al v):PrG x (vi k) U v:=λr g s X Y A hx hy=>by
 refine oE hy λt q_1=>?_;subst q_1;refine Be A.has hx h (R_:=λX=>∀R_:Prop,(∀Ty id,s.TypeIs X Ty->typeLookup (.type Ty) "__getitem__" = pure (al (.builtin id))->r.wp (getItem X (.int k t)) (Ans r g v U) s->R_)->R_) λl xs hL hr hl _ R_ kk=>oEA (hr.get hv) λw hw rw'=>?_;have hw:=ABJ.symm.trans hw;refine AS (id hL) λo ho hc _=>kk "list" _ ⟨o,ho,hc⟩ slot_list_getitem.lookup ?_;by_cases h0:0<=k
 ·exact wpAny_getItem_list hL h0 (Fu hk).2 ((IP hj h0)▸hw) (.refl A.has rw')
 ·exact oA (Ha hj (Int.not_le.mp h0)) λq1 q2=>wpAny_getItem_list_neg hL (Int.not_le.mp h0) (hl▸q2) (Fu hk).1 (hl▸q1▸hw) (.refl A.has rw')
theorem iB(h:CK x=al ws)(hk:small k=true)(hj:seqIndex? k ws.length=al j)(hv:ws[j]? = al v):PrG x (vi k) U v:=λr g s X Y A hx hy=>by refine oE hy λt q_1=>?_;subst q_1;refine CD A.has hx h (R_:=λX=>∀R_:Prop,(∀Ty id,s.TypeIs X Ty->typeLookup (.type Ty) "__getitem__" = pure (al (.builtin id))->r.wp (getItem X (.int k t)) (Ans r g v U) s->R_)->R_) λl xs hL hr hl _ R_ kk=>oEA (hr.get hv) λw hw rw'=>?_;have hw:=ABJ.symm.trans hw;exact AS (id hL) λo ho hc _=>kk "tuple" _ ⟨o,ho,hc⟩ F.slot_tuple_getitem.lookup (PyProof.Rows.getItem_tuple hL (Fu hk).1 (Fu hk).2 (hl▸hj) hw (.refl A.has rw'))
theorem O3(c:Nat):(O4 c).length<=line:=by show 1<=line;exact AC3 _
theorem iC(hk:small k=true)(hc:Txt.charAt z k=al ch):PrG (.d (.str z)) (vi k) U (.d (.str (O4 ch))):=λr g s X Y A hx hy R_ kk=>by
 refine oEA hx λt q_1 _=>?_;subst q_1;refine oE hy λu q_1=>?_;subst q_1;refine kk "str" _ (typeIs_str _ _ _) F.slot_str_getitem.lookup (SB.getItem ?_ (hc▸rfl) (.refl A.has.tok ⟨s.toks,?_,O3 ch⟩))
 ·unfold fitsSsize;simp;have:=Fu hk;lia
 ·unfold Txt.item;rw[hc];rfl
def SO(n:Nat)(e:E)(J:Am)(U:Ac)(l:Option Int)(U':Ac):Prop :=
 ∀(c:Cx) (g:G) (s:Shared) (x:Option Expr),(if BR e then Nd else Nc (IsE e c.K)) x->Inv n c J g U s->c.wp (valueOrNone (evalOpt x c.env)) (λX s'=>CS c.T [] g U' (λ_=>∃p:Option (Int×Tok),X=partValue p/\p.map (·.1)=l) s') s
theorem SO.none:SO n .nil J U az U:=λc g s x hc I=>by obtain rfl:x=Option.none:=hc;exact AAY (.refl I.has (iEA Option.none rfl rfl))
theorem SO.some(h0:BR e=false)(h:SE n e J U (vi i) U'):SO n e J U (al i) U':=λc g s x hc I=>by rw[h0] at hc;exact hc (λx=>c.wp (valueOrNone (evalOpt x c.env)) (λX s'=>CS c.T [] g U' (λ_=>∃p:Option (Int×Tok),X=partValue p/\p.map (·.1)=Option.some i) s') s) λex hc=>AAO (h c g s ex hc I) (λX s' p=>p _ λg' le H r=>.mk g' le H (r.elim λt r=>(iEA (Option.some (i,t)) r rfl))) λ_ _ h=>h
def PrC(x:V)(U:Ac)(lo hi:Option Int)(Q:Ar->G->Value->Shared->Prop):Prop :=
 ∀(r:Ar) (g:G) (s:Shared) (X:Value) (sl:Addr) (q1 q2:Option (Int×Tok)),At 0 r g U s->Av r.T g x X->s.heap.IsSliceOf sl (partValue q1) (partValue q2) .none->q1.map (·.1)=lo->q2.map (·.1)=hi ->
  ∀R_:Prop,(∀Ty id,s.TypeIs X Ty->typeLookup (.type Ty) "__getitem__" = pure (al (.builtin id))->r.wp (getItem X (.ref sl)) (Q r g) s->R_)->R_
theorem N1(up:∀{r:Ar} {g aj:G} {X:Value} {s':Shared},G.le [] g aj->Q r aj X s'->Q r g X s')(ha:SE n a J U x ag)(hl:SO n lo J ag l ak)(hh:SO n hi J ak h au)(hx:PrC x au l h Q)(hc:IsE (.slc a lo hi) c.K ex)(I:Inv n c J g U s):c.wp (eval ex c.env) (Q c.toAr g) s:=by refine hc (λex=>c.wp (eval ex c.env) (Q c.toAr g) s) λv l u p p' h1 h2 h3=>?_;rw[arm_eval_Subscript,arm_eval_Slice];refine BJ ha h1 I λX aj ai av I1 ao=>AAD (AA8 (BW (hl c aj ai l h2 I1) λlv an am le2 aC ay=>?_));have I2:=I1.step le2 aC;refine BW (AA8 (hh c an am u h3 I2)) λuv aE aB aA aU r3=>AAD (AA8 (AAY (wpAny_newObj_type (AAD (AA7 ?_)))));refine oEA ay λq1 q_1 e1=>?_;subst q_1;refine oEA r3 λq2 q_1 e2=>?_;subst q_1;have I4:=(I2.step aA aU).step (.refl _ _) (aU.keep (s':={aB with heap:=aB.heap.push {cls:=.type "slice",data:=.fields #[partValue q1,partValue q2,.none]}}) λb o e=>AAK _ e);refine hx c.toAr aE _ X _ q1 q2 I4.at0 (Av.mono (le2.trans aA).toup _ _ ao) (Heap.IsSliceOf.new aB.heap _ _ .none) e1 e2 _ λTy id hT hk w=>Nu hT hk (AAO w (λ_ _ p=>up (av.trans (le2.trans aA)) p) λ_ _ h=>h)
theorem SL.slc(ha:SE n a J U x ag)(hl:SO n lo J ag l ak)(hh:SO n hi J ak h au)(hx:PrC x au l h λr g=>Cj r g au ws):SL n (.slc a lo hi) J U ws au:=λc g s ex hc I=>N1 (λle p=>p.after le) ha hl hh hx hc I
theorem SE.slc(ha:SE n a J U x ag)(hl:SO n lo J ag l ak)(hh:SO n hi J ak h au)(hx:PrC x au l h λr g=>Ans r g v au):SE n (.slc a lo hi) J U v au:=λc g s ex hc I=>N1 (Q:=λr g=>Ans r g v au) (λle p=>CS.after le p) ha hl hh hx hc I
theorem QB(h:q.map (·.1)=l):IsPart (partValue q) l:=by
 cases q with
 |none=>exact h▸.none
 |some p=>exact h▸.int _ _
theorem dQ(h:AE U x=al ws):PrC x U lo hi λr g=>Cj r g U (Dc lo hi ws):=λr g s X sl q1 q2 A hx hs e1 e2 =>
 Be A.has hx h (R_:=λX=>∀R_:Prop,(∀Ty id,s.TypeIs X Ty->typeLookup (.type Ty) "__getitem__" = pure (al (.builtin id))->r.wp (getItem X (.ref sl)) (Cj r g U (Dc lo hi ws)) s->R_)->R_) λl xs hL hr hl hsz R_ kk=>by
  refine AS (id hL) λo ho hc _=>kk "list" _ ⟨o,ho,hc⟩ slot_list_getitem.lookup (wpAny_getItem_list_slice hL hs (QB e1) (QB e2) .none (by simp) (.push A.has ?_ ?_) (Bd▸hsz))
  ·rw[slicePick_plain];unfold Dc;exact hl▸(hr.drop _).take _
  ·exact AAC ((AC4 _ _).trans (List.drop_sublist _ _)).length_le (hl▸hsz)
end
section
variable{r:Ar}{c:Cx}{s:Shared}{a:E}{ws:List V}
theorem SN(n:Nat)(i:Int):clipAt n i<=n:=Int.toNat_le.mpr (Int.max_le.mpr ⟨AB9 n,Int.min_le_right _ _⟩)
theorem Nx(lo hi:Option Int)(x:Str):Txt.slice x lo hi=IR lo hi x:=by
 have e:Builtin.Str.strSliceIndices lo hi 1 x.length=sliceRange (sliceBounds lo hi az x.length).1 (sliceBounds lo hi az x.length).2.1 1:=by unfold Builtin.Str.strSliceIndices;cases lo<;>cases hi<;>simp[sliceBounds]
 have e2:(Builtin.Str.strSliceIndices lo hi 1 x.length).filterMap (x.cps[·]?)=Dc lo hi x.cps.toList:=by rw[e,sliceBounds_plain];simp only[sliceRange_one,pick_run];unfold Dc;simp[Str.length]
 unfold Txt.slice IR;split
 ·rename_i q
  have q2:=ABM (AAH.mp q).2;have l1:(Dc lo hi x.cps.toList).length=x.length:=by
   have hb:hi.elim x.length (clipAt x.length)<=x.length:=by
    cases hi with
    |none=>exact AAL _
    |some i=>exact SN _ _
   rw[e,sliceBounds_plain] at q2;simp only[sliceRange_one,AAB,ABV] at q2;unfold Dc;have hx:x.cps.toList.length=x.length:=ABA;rw[hx,ACT,ADI,hx,q2];exact ACP (AAC (Nat.le_of_eq q2.symm) (Nat.sub_le_sub_right hb _))
  have l2:Dc lo hi x.cps.toList=x.cps.toList:=((AC4 _ _).trans (List.drop_sublist _ _)).eq_of_length (l1.trans ABA.symm);rw[l2]
 ·rw[e2]
theorem Ox(lo hi:Option Int)(x:Str):(IR lo hi x).length<=x.length:=by show((Dc lo hi x.cps.toList).toArray).size<=x.cps.size;exact ACQ▸ABA▸((AC4 _ _).trans (List.drop_sublist _ _)).length_le
theorem iV:PrC (.d (.str z)) U lo hi λr g=>Ans r g (.d (.str (IR lo hi z))) U:=λr g s X sl q1 q2 A hx hs e1 e2 R_ kk=>by refine oEA hx λt q_1 hl=>?_;subst q_1;refine kk "str" _ (typeIs_str _ _ _) F.slot_str_getitem.lookup (wpAny_getItem_str_slice (l:=q1) (u:=q2) (st:=az) hs rfl ?_);have e:(if (((az:Option (Int×Tok)).map (·.1)).getD 1==1&&(slicePicked z q1 q2 az).length==z.length)=true then z else⟨((slicePicked z q1 q2 az).filterMap (z.cps[·]?)).toArray⟩)=IR (q1.map (·.1)) (q2.map (·.1)) z:=Nx _ _ _;unfold sliceMade;exact post_val_or_str (e▸e1▸e2▸⟨AAC (Ox _ _ _) (Bd▸hl),λt' k=>.refl A.has.tok ⟨t',rfl,AAC (Ox _ _ _) hl⟩⟩)
theorem iU{xs:List PyData}(h1:1<=k)(h2:k<=xs.length):PrC (.d (.tuple xs)) U (al (k:Int)) az λr g=>Ans r g (.d (.tuple (xs.drop k))) U:=λr g s X sl q1 q2 A hx hs e1 e2=>by
 refine hx (λX=>∀R_:Prop,(∀Ty id,s.TypeIs X Ty->typeLookup (.type Ty) "__getitem__" = pure (al (.builtin id))->r.wp (getItem X (.ref sl)) (Ans r g (.d (.tuple (xs.drop k))) U) s->R_)->R_) λl o vs m ho hc hd hr hl R_ kk=>?_;have ho':=A.has.fz _ _ ho;have hn:xs.length=vs.size:=hr.all.length;refine kk "tuple" _ ⟨o,ho',hc⟩ F.slot_tuple_getitem.lookup ?_;cases q1 with
 |none=>exact Aa e1
 |some q1=>cases q2 with
 |some _=>exact GY e2
 |none =>
  obtain⟨i,t⟩:=q1;obtain rfl:i=(k:Int):=AAA e1;have hlen:(xs.drop k).length<=line:=AAC (List.drop_sublist _ _).length_le hl;refine PyProof.Rows.getItem_tuple_from (u:=t) ⟨o,ho',hc,m,hd⟩ hs h1 (hn▸h2) ?_ (Bd▸hn▸hl);exact Md (A.has.keep λb o e=>AAK _ e) (A.has.free (By _)) (AA3 _ rfl) rfl rfl (hr.all.drop k) hlen
theorem CR(pos:Pos)(env:Env)(h:Go es K xs):(backTo pos (starEach xs env)).any (·.1)=false:=by
 induction es generalizing xs with
 |nil=>rw[show xs=[] from h];rfl
 |cons e es _ ih=>exact h (λxs=>(backTo pos (starEach xs env)).any (·.1)=false) λx l h1 h3=>by rw[(Ck e h1).star];exact ih h3
 |_=>exact h.elim
theorem Dm{xs:List Expr}{pos:Pos}{env:Env}{Q:Args->Shared->Prop}(hc:Go es K xs)(h:r.wp (spliced (backTo pos (starEach xs env))) (λvs s'=>Q ⟨vs,[]⟩ s') s):r.wp (evalArgs f true (backTo pos (starEach xs env)) []) Q s:=by
 cases es with
 |nil =>
  obtain rfl:xs=[]:=hc;have e2:evalArgs f true (backTo pos (starEach [] env)) []=pure ⟨[],[]⟩:=by first|rfl|(unfold evalArgs;rfl)
  exact Bt e2 λΓ p hΓ=>h Γ p hΓ
 |cons e es=>exact hc (λxs=>r.wp (spliced (backTo pos (starEach xs env))) (λvs s'=>Q ⟨vs,[]⟩ s') s->r.wp (evalArgs f true (backTo pos (starEach xs env)) []) Q s) (λx l h1 h3 h=>by rw[(Ck e h1).star] at h ⊢;exact evalArgs_plain h) h
 |_=>exact hc.elim
theorem O9(b:Bi){P:Value->Prop}(h1:∀id,P (.builtin id))(h2:∀t,P (.type t)):P (Bj b):=by cases b<;>first|exact h1 _|exact h2 _
theorem VC(h:eM T (dR b) x):x=Bj b:=by cases b<;>exact h
theorem R0{b:Bi}{Q:Ar->G->Value->Shared->Prop}(up:∀{r:Ar} {g aj:G} {X:Value} {s':Shared},G.le [] g aj->Q r aj X s'->Q r g X s')(h:SEs n a J U ws ag)(hx:∀(r:Ar) (g:G) (s:Shared) (Xs:List Value),At n r g ag s->Au r.T g ws Xs->r.wp (call (Bj b) Xs) (Q r g) s){ex:Expr}(hc:IsE (.bi b a) c.K ex)(I:Inv n c J g U s):c.wp (eval ex c.env) (Q c.toAr g) s:=by
 refine hc (λex=>c.wp (eval ex c.env) (Q c.toAr g) s) λnm np vs p h1 h2=>PyProof.Rows.Call_Name rfl (CF I h1 λx hv=>?_);obtain rfl:=VC hv;have k:c.wp (evalArgs (Bj b) true (backTo p (starEach vs c.env)) []) (λa ai=>wpAny (model c.T.prog c.T.w) c.A (call (Bj b) a.pos a.kw) (Q c.toAr g) (λ_ _=>False) ai) s :=
  Dm (r:=c.toAr) h2 (AAO (h c g s vs p h2 I) (λXs ai p=>p _ λaj le ar ao=>AAO (hx c.toAr aj ai Xs (I.step le ar).toAt ao) (λ_ _ p=>up le p) λ_ _ h=>h) λ_ _ h=>h)
 exact O9 b (P:=λf=>c.wp (evalArgs f true (backTo p (starEach vs c.env)) []) (λa ai=>wpAny (model c.T.prog c.T.w) c.A (call f a.pos a.kw) (Q c.toAr g) (λ_ _=>False) ai) s->c.wp (callWith p f [] (backTo p (starEach vs c.env)) []) (Q c.toAr g) s)
  (λid k=>callWith_builtin (CR _ _ h2) k) (λt k=>PyProof.Rows.callWith_type (CR _ _ h2) k) k
theorem SE.bi(h:SEs n a J U ws ag)(hx:PrL (λXs=>call (Bj b) Xs) ws ag v ak n):SE n (.bi b a) J U v ak:=λc g s ex hc I=>R0 (Q:=λr g=>Ans r g v ak) (λle p=>CS.after le p) h hx hc I
theorem SL.bi(h:SEs n a J U ws ag)(hx:∀(r:Ar) (g:G) (s:Shared) (Xs:List Value),At n r g ag s->Au r.T g ws Xs->r.wp (call (Bj b) Xs) (Cj r g ag us) s):SL n (.bi b a) J U us ag:=λc g s ex hc I=>R0 (Q:=λr g=>Cj r g ag us) (λle p=>p.after le) h hx hc I
theorem SE.bi1(h:SEs n a J U [x] ag)(hx:Pr1 (λX=>call (Bj b) [X]) x ag v ak k)(hk:k<=n:=by exact ABF _):SE n (.bi b a) J U v ak:=SE.bi h λr g s Xs A R=>by refine oEA R.one λX q_1 rx=>?_;subst q_1;exact hx r g s X (A.less hk) rx
theorem SE.bi2(h:SEs n a J U [x,y] ak)(hx:Pr2 (λX Y=>call (Bj f) [X,Y]) x y ak v au k)(hk:k<=n:=by exact ABF _):SE n (.bi f a) J U v au:=SE.bi h λr g s Xs A R=>by refine Br R.two λX Y q_2 rx ry=>?_;subst q_2;exact hx r g s X Y (A.less hk) rx ry
theorem SL.bi1(h:SEs n a J U [x] ag)(hx:Nb (λX=>call (Bj b) [X]) x ag ws k)(hk:k<=n:=by exact ABF _):SL n (.bi b a) J U ws ag:=SL.bi h λr g s Xs A R=>by refine oEA R.one λX q_1 rx=>?_;subst q_1;exact hx r g s X (A.less hk) rx
end
noncomputable def Qt(n:Int):Str:=ACG (toString n)
noncomputable def B9(a b:Str):Bool:=decide (a.cps.toList<b.cps.toList)
theorem NN(h:B9 a b=true)(h':B9 b c=true):B9 a c=true:=AAI (List.lt_trans (AAG h) (AAG h'))
theorem ABG:type_of% @of_decide_eq_false:=@of_decide_eq_false
theorem IC(h:B9 a b=false)(h':B9 b a=false):a=b:=by have:a.cps.toList=b.cps.toList:=List.le_antisymm (List.not_lt.mp (ABG h')) (List.not_lt.mp (ABG h));cases a;cases b;exact congrArg _ (Array.toList_inj.mp this)
theorem NV(h:B9 b a=false)(h':B9 c b=false):B9 c a=false:=by
 cases e:B9 c a with
 |false=>rfl
 |true=>cases e':B9 a b with
  |true=>exact tt_ ((NN e e').symm.trans h')
  |false=>rw[IC e' h] at e;exact tt_ (e.symm.trans h')
def Ek(l:List Str):Prop:=l.Pairwise λa b=>B9 b a=false
theorem Gr:∀{l':List Str},Ek l->Ek l'->l.Perm l'->l=l':=by
 induction l with
 |nil=>exactλ_ _ p=>(List.nil_perm.mp p).symm
 |cons x r ih =>
  intro l' h h' p;cases l' with
  |nil=>exact absurd (List.perm_nil.mp p) (List.cons_ne_nil _ _)
  |cons y r' =>
   refine oA (ACS.mp h) λh1 h2=>oA (ACS.mp h') λh1' h2'=>?_;have e:=(AAR.mp (p.mem_iff.mpr (List.mem_cons_self ..))).elim (λq=>q.symm) λq=>(AAR.mp (p.mem_iff.mp (List.mem_cons_self ..))).elim id λq'=>IC (h1' x q') (h1 y q);subst e;rw[ih h2 h2' (List.Perm.cons_inv p)]
theorem Hb(l:List Str):∀(p:Str),PyProof.Rows.risingS p l=true->Ek (p::l):=by
 induction l with
 |nil=>exactλp _=>List.pairwise_singleton ..
 |cons x r ih =>
  intro p h;have h:=AAH.mp h;have h0:=by have:=h.1;rw[ACZ,PyProof.Rows.ltCps_eq] at this;exact this
  have h2:=ih x h.2;exact ACS.mpr ⟨λz hz=>(AAR.mp hz).elim (λq=>q▸h0) λhz=>NV h0 ((ACS.mp h2).1 z hz),h2⟩
theorem Eb(h:PyProof.Rows.sortedS l=true):Ek l:=by
 cases l with
 |nil=>exact List.Pairwise.nil
 |cons x r=>exact Hb r x h
section
variable{i:Int}
noncomputable abbrev vss(ss:List Str):List V:=ss.map λy=>.d (.str y)
theorem Jo:∀{xs:List Value},Au T g (vss ss) xs->PyProof.Rows.StrsAre xs ss/\∀y∈ss,y.length<=line:=by
 induction ss with
 |nil=>intro xs h;rw[h.nil];exact⟨.nil,λ_ h=>(nomatch h)⟩
 |cons s ss ih =>
  intro xs h;refine Br h.cons λx xs q_2 q_3 h2=>?_;subst q_2;obtain⟨t,rfl,hl⟩:=q_3;exact⟨.cons s t (ih h2).1,λz hz=>(AAR.mp hz).elim (λq=>q▸hl) ((ih h2).2 z)⟩
theorem N7(h:PyProof.Rows.StrsAre xs ss)(hl:∀y∈ss,y.length<=line):Au T g (vss ss) xs:=by
 induction h with
 |nil=>exact trivial
 |cons y t h ih=>exact⟨⟨t,rfl,hl y (List.mem_cons_self ..)⟩,ih λz hz=>hl z (List.mem_cons_of_mem _ hz)⟩
theorem Vh(h:AE U x=al (vss ss))(hl:ss.length<64)(hp:ss'.Perm ss)(hs:Ek ss'):Nb (λX=>call (Bj .sorted) [X]) x U (vss ss'):=λr g s X A hx =>
 Be A.has hx h (R_:=λX=>r.wp (call (.builtin "sorted") [X]) (Cj r g U (vss ss')) s) λa ys hL hr hn _=>by
  refine oA (Jo hr) λh1 h2=>?_;have hlen:ys.toList.length<64:=by rw[<-hr.length,AAB];exact hl
  refine PyProof.Rows.sorted_strs hL h1 hlen λout out' a1 a2 a3=>?_;obtain rfl:out'=ss':=Gr (Eb a3) hs (a2.trans hp.symm);exact oE (PyProof.Rows.sortedAll_at s.heap ys.toList out) λk hk=>.made A.has (λb o e=>PyProof.Rows.sortedAll_old e) (ABO (ADP _)) hk (N7 a1 λz hz=>h2 z (a2.mem_iff.mp hz)) (by rw[AAB,hp.length_eq];exact AY (ACJ hl) rfl)
theorem iK(h:AE U x=al ws):Pr1 (λX=>call (Bj .len) [X]) x U (vi ws.length) U:=λr g s X A hx =>
 Be A.has hx h (R_:=λX=>r.wp (call (.builtin "len") [X]) (Ans r g (vi ws.length) U) s) λa ys hL hr hn hs=>PyProof.Rows.len_list hL (Int.ofNat_lt.mpr (F9 hs)) (.refl A.has.tok ⟨_,by rw[hn]⟩)
theorem dC(h:CK x=al ws):Pr1 (λX=>call (Bj .len) [X]) x U (vi ws.length) U:=λr g s X A hx =>
 CD A.has hx h (R_:=λX=>r.wp (call (.builtin "len") [X]) (Ans r g (vi ws.length) U) s) λa ys hL hr hn hs=>PyProof.Rows.len_tuple hL (Int.ofNat_lt.mpr (F9 hs)) (.refl A.has.tok ⟨_,by rw[hn]⟩)
theorem dD:Pr1 (λX=>call (Bj .len) [X]) (.d (.str z)) U (vi z.cps.size) U:=λr g s X A hx=>by refine oEA hx λt q_1 hl=>?_;subst q_1;exact P.len_str (Int.not_le.mpr (Int.ofNat_lt.mpr (F9 hl))) (.refl A.has.tok ⟨_,rfl⟩)
theorem iH(hi:i.natAbs<1000000000000):Pr1 (λX=>call (Bj .str) [X]) (vi i) U (.d (.str (Qt i))) U:=λr g s X A hx=>by
 refine oE hx λt q_1=>?_;subst q_1;refine P.str_of_int ?_ (.refl A.has.tok ⟨_,rfl,?_⟩)
 ·by_cases h0:i.natAbs=0
  ·rw[h0];decide
  ·exact ABT ((Nat.log2_lt (k:=40) h0).mpr (ABT hi (dc rfl))) (dc rfl)
 ·show(ACG (toString i)).length<=line;rw[ofString_length];exact AY (int_text_length_le10 (k:=12) (dc rfl) hi) rfl
theorem iJ:Pr2 (λX Y=>call (Bj .min) [X,Y]) (vi i) (vi j) U (vi (if j<i then j else i)) U 3:=λr g s X Y A hx hy=>by
 refine oE hx λt q_1=>?_;subst q_1;refine oE hy λu q_1=>?_;subst q_1;refine min_two_ints (A.hh.none (AAL _)) λh' tk hk=>.refl (A.has.keep hk) ?_;by_cases q:j<i
 ·exact(if_pos q)▸(if_pos q)▸⟨u,rfl⟩
 ·exact(if_neg q)▸(if_neg q)▸⟨t,rfl⟩
theorem Vi(h:AE U x=al ws):Nb (λX=>call (Bj .list) [X]) x U ws:=λr g s X A hx =>
 Be A.has hx h (R_:=λX=>r.wp (call (.type "list") [X]) (Cj r g U ws) s) λa ys hL hr hn hs=>by exact IB hL λo ho hc m hd=>PySem.call_list_seq a (.inl rfl) ho hc hd λh' c' hk hD=>.made A.has hk (By _) hD hr (hn▸hs)
theorem iI:Pr1 (λX=>call (Bj .ord) [X]) (.d (.str (O4 ch))) U (vi ch) U:=λr g s X A hx=>by refine oEA hx λt q_1 _=>?_;subst q_1;exact P.ord_of_char (.refl A.has.tok ⟨_,rfl⟩)
noncomputable abbrev vbs(bs:List Bool):List V:=bs.map λb=>.d (.bool b)
theorem SP:∀{xs:List Value},Au T g (vbs bs) xs->xs=bs.map Value.bool:=by
 induction bs with
 |nil=>exactλh=>h.nil
 |cons b bs ih =>
  intro xs h;refine Br h.cons λx xs q_2 h1 h2=>?_;subst q_2;exact(ih h2)▸(show x=.bool b from h1)▸rfl
theorem N9(bs:List Bool):(List.range bs.length).map (λi=>bs[i]?.getD false)=bs:=by
 induction bs with
 |nil=>rfl
 |cons b bs ih=>rw[AA2,List.range_succ_eq_map,ABP,AAE];exact congrArg (b::·) ih
theorem K4{r:Ar}{s:Shared}{bs:List Bool}{Q:Value->Shared->Prop}{f:List Nat->(Nat->Bool)->Bool}{q:Bool}(A:At 3 r g U s)(h:AE U x=al (vbs bs))(hx:Av r.T g x X)(hq:f (List.range bs.length) (λi=>bs[i]?.getD false)=q)(k:∀s',Has r.T g U s'->Q (.bool q) s') :
 wpAny (model r.T.prog r.T.w) r.A.in1 (pyIter X) (λit am=>∃I fp wr n P St tr,it=.ref I/\Walks r.T.prog r.T.w r.A.in1 I fp wr n P St/\St 0 am.heap/\TruthOf r.T.prog r.T.w r.A.in1 P tr ∧
  ∀h' tk,(∀b o,b∉wr->am.heap.get? b=al o->h'.get? b=al o)->Q (.bool (f (List.range n) tr)) {am with heap:=h',toks:=tk}) (λ_ _=>False) s:=by
 refine(Be A.has hx h (R_:=λX=>wpAny (model r.T.prog r.T.w) r.A.in1 (pyIter X) _ (λ_ _=>False) s) λa ys hL hr hn hs=>wpAny_pyIter_list hL ?_);have hb:=SP hr;have hsz:ys.size=bs.length:=by rw[<-hn,AAB]
 refine IB (id hL) λol hol hcl nl hdl=>⟨_,_,_,_,_,_,λi=>bs[i]?.getD false,rfl,Walks.list (A:=r.A.in1) (A.hh.none (AAL _)) s.heap.objs.size a (ACX (ACY hol)) ys,⟨⟨_,AA3 _ rfl,rfl,rfl⟩,⟨ol,AAK _ hol,hcl,nl,hdl⟩⟩,?_,λh' tk hk=>?_⟩
 ·intro i w s' Q E hw hq;have hw:=ABJ.trans hw;have hq:Q (bs[i]?.getD false) s':=hq;rw[hb,ABI] at hw;cases ebi:bs[i]? with
  |none=>rw[ebi] at hw;exact Aa hw
  |some c =>
   rw[ebi] at hw hq;exact(AAA hw)▸wpAny_truthy_bool hq
 ·exact hsz▸hq▸k _ (A.has.keep λb o e=>hk b o (λq=>by rw[AAJ.mp q,By] at e;exact Aa e) (AAK _ e))
theorem YN(h:AE U x=al (vbs bs)):Pr1 (λX=>call (Bj .all) [X]) x U (vb (bs.all id)) U 3:=λr g s X A hx =>
 call_all_walk (K4 A h hx (List.all_map.symm.trans (congrArg (List.all · id) (N9 bs))) λs' H=>.refl H rfl)
theorem iN(h:AE U x=al (vbs bs)):Pr1 (λX=>call (Bj .any) [X]) x U (vb (bs.any id)) U 3:=λr g s X A hx =>
 call_any_walk (K4 A h hx (List.any_map.symm.trans (congrArg (List.any · id) (N9 bs))) λs' H=>.refl H rfl)
end
section
variable{i j:Int}
theorem MU{m:Value->Value->Sem Value}{q:Bool}(h:∀(r:Ar) (s:Shared) (t u:Tok) (Q:Value->Shared->Prop),Q (.bool q) s->wpAny (model r.T.prog r.T.w) r.A (m (.int i t) (.int j u)) Q (λ_ _=>False) s):Pr2 m (vi i) (vi j) U (vb q) U:=Hf λr g s X Y A hx hy Q k=>by refine oE hx λt q_1=>?_;subst q_1;refine oE hy λu q_1=>?_;subst q_1;exact h r s t u Q k
theorem mG:Pr2 (compareOp .Lt) (vi i) (vi j) U (vb (decide (i<j))) U:=MU λr s t u Q h=>P.lt_int h
theorem mH:Pr2 (compareOp .LtE) (vi i) (vi j) U (vb (decide (i<=j))) U:=MU λr s t u Q h=>P.le_int h
theorem mJ:Pr2 (compareOp .Gt) (vi i) (vi j) U (vb (decide (i>j))) U:=MU λr s t u Q h=>P.gt_int h
theorem mL:Pr2 (compareOp .GtE) (vi i) (vi j) U (vb (decide (i≥j))) U:=MU λr s t u Q h=>P.ge_int h
theorem fY:Pr2 (compareOp .GtE) (.d (.str a)) (.d (.str b)) U (vb (!B9 a b)) U:=Hf λr g s X Y A hx hy Q k=>by refine oEA hx λt q_1 _=>?_;subst q_1;refine oEA hy λu q_1 _=>?_;subst q_1;exact P.ge_str k
theorem mI:Pr2 (compareOp .Is) (.d .none) (.d .none) U (vb true) U/\Pr2 (compareOp .IsNot) (.d .none) (.d .none) U (vb false) U:=by
 constructor<;>exact Hf λr g s X Y A hx hy Q k=>by
  obtain rfl:X=.none:=hx;obtain rfl:Y=.none:=hy
  first|exact wpAny_is_self rfl k|exact wpAny_isNot_self rfl k
noncomputable def Hi(v:V):Bool:=match v with|.d x=>(match x with|.none=>false|.dict _=>false|_=>true)|.ty _=>false|_=>true
theorem Mv(h:Hi v=true)(r:Av T g v X):plainIs X .none=true/\X≠.none:=by
 have rf:∀a,plainIs (.ref a) .none=true/\Value.ref a≠.none:=λa=>⟨rfl,λq=>nomatch q⟩
 cases v with
 |d x=>cases x with
  |none=>exact ff_ h
  |bool b=>rw[show X=.bool b from r];exact⟨rfl,λq=>nomatch q⟩
  |int i=>refine oE r λt q_1=>?_;subst q_1;exact⟨rfl,λq=>nomatch q⟩
  |str z=>refine oEA r λt q_1 _=>?_;subst q_1;exact⟨rfl,λq=>nomatch q⟩
  |list _=>exact r (λX=>plainIs X .none=true/\X≠.none) λa _ _ _ _ _ _ _ _=>rf a
  |tuple _=>exact r (λX=>plainIs X .none=true/\X≠.none) λa _ _ _ _ _ _ _ _=>rf a
  |dict _=>exact ff_ h
 |ref k=>refine oEA r λa _ q_2=>?_;subst q_2;exact rf a
 |tup _=>exact r (λX=>plainIs X .none=true/\X≠.none) λa _ _ _ _ _ _ _ _=>rf a
 |ty _=>exact ff_ h
 |obj _=>exact r (λX=>plainIs X .none=true/\X≠.none) λa _ _ _ _ _ _ _ _ _ _ _=>rf a
 |pr _ _=>exact r (λX=>plainIs X .none=true/\X≠.none) λa _ _ _ _ _ _ _ _=>rf a
 |exc _=>exact r (λX=>plainIs X .none=true/\X≠.none) λa _ _ _ _ _ _ _ _=>rf a
 |ecl _=>refine oEA r λa _ q_2=>?_;subst q_2;exact rf a
theorem fU(h:Hi v=true):Pr2 (compareOp .Is) v (.d .none) U (vb false) U/\Pr2 (compareOp .IsNot) v (.d .none) U (vb true) U:=by
 constructor<;>exact Hf λr g s X Y A hx hy Q k=>by
  obtain rfl:Y=.none:=hy;have f:=Mv h hx
  first|exact wpAny_is_other f.1 f.2 k|exact wpAny_isNot_other f.1 f.2 k
end
section
variable{κ:Type}[DecidableEq κ]
noncomputable def Aq{β:Type}(kvs:List (κ×β))(k:κ):Option β:=(kvs.find? λp=>p.1=k).map (·.2)
noncomputable def BX{β:Type}(kvs:List (κ×β))(k:κ)(d:β):List (κ×β) :=
 if kvs.any (λp=>p.1=k) then kvs.map (λp=>if p.1=k then(p.1,d) else p) else kvs++[(k,d)]
theorem ED{β:Type}(kvs:List (κ×β))(k:κ)(d:β):(BX kvs k d).length<=kvs.length+1:=by
 unfold BX;by_cases e:(kvs.any λp=>p.1=k)=true
 ·rw[if_pos e,AAB];exact ADP _
 ·exact(if_neg e)▸AAF▸AAL _
theorem OK{α:Type}(p:α->Bool)(l:List α):l.any p=(l.find? p).isSome:=by
 induction l with
 |nil=>rfl
 |cons a l ih=>rw[List.any_cons,List.find?_cons,ih];cases p a<;>rfl
theorem Kn{β ω κ':Type}[DecidableEq κ']{R:κ×β->ω->Prop}{key:ω->κ'}{f:κ->κ'}(hf:∀a b,f a=f b->a=b)(hR:∀p w,R p w->f p.1=key w)(k:κ){kvs:List (κ×β)}:∀{ws:List ω},Ay R kvs ws ->
 (kvs.find? (λp=>p.1=k)=az/\ws.find? (λw=>key w=f k)=az)\/∃p w,kvs.find? (λp=>p.1=k)=al p/\ws.find? (λw=>key w=f k)=al w/\R p w:=by
 induction kvs with
 |nil=>intro ws h;rw[h.nil];exact .inl ⟨rfl,rfl⟩
 |cons p kvs ih =>
  intro ws h;refine Br h.cons λw ws q_2 h1 h2=>?_;subst q_2;rw[List.find?_cons,List.find?_cons,<-hR p w h1];by_cases e:p.1=k
  ·rw[AAI e,AAI (congrArg f e)];exact .inr (Gw p w rfl rfl h1)
  ·rw[AAT e,AAT λq=>e (hf _ _ q)];exact ih h2
theorem Q9{β ω κ':Type}[DecidableEq κ']{R:κ×β->ω->Prop}{key:ω->κ'}{f:κ->κ'}(hf:∀a b,f a=f b->a=b)(hR:∀p w,R p w->f p.1=key w){k:κ}{d:β}{w₀:ω}{up:ω->ω}(h0:R (k,d) w₀)(hu:∀p w,R p w->p.1=k->R (p.1,d) (up w)){kvs:List (κ×β)}{ws:List ω}(h:Ay R kvs ws) :
 Ay R (BX kvs k d) (if (ws.find? (λw=>key w=f k)).isSome then ws.map (λw=>if key w=f k then up w else w) else ws++[w₀]):=by
 have hm:∀{kvs:List (κ×β)} {ws:List ω},Ay R kvs ws->Ay R (kvs.map λp=>if p.1=k then(p.1,d) else p) (ws.map λw=>if key w=f k then up w else w):=by
  intro kvs
  induction kvs with
  |nil=>intro ws h;rw[h.nil];exact trivial
  |cons p kvs ih =>
   intro ws h;refine Br h.cons λw ws q_2 h1 h2=>?_;subst q_2;refine⟨?_,ih h2⟩;dsimp only;rw[<-hR p w h1];by_cases e:p.1=k
   ·exact(if_pos e)▸(if_pos (congrArg f e))▸hu p w h1 e
   ·exact(if_neg e)▸(if_neg λq=>e (hf _ _ q))▸h1
 unfold BX;rw[OK];rcases Kn hf hR k h with⟨e1,e2⟩|⟨p,w,e1,e2,_⟩
 ·exact e1▸e2▸h.append ⟨h0,trivial⟩
 ·exact e1▸e2▸hm h
end
section
variable{g:G}{s:Shared}{k:Nat}{a:Addr}{kvs:List (Str×PyData)}{kvp:List ((Str×Int)×PyData)}{q:Str×Int}
theorem At.notMods(A:At 0 r g U s)(hk:g.mu[k]? = al a):(a==sysModules)=false:=by exact oE A.ok.ok.mods λo ho=>beq_eq_false_iff_ne.mpr λe=>Ak (A.has.ap a (AA5 hk)) (e▸A.has.base _ _ ho)
noncomputable abbrev kR(fz:Addr->Option Obj)(d:Str×PyData)(v:Str×Value):Prop:=d.1=v.1/\AG fz d.2 v.2
noncomputable abbrev dY(fz:Addr->Option Obj)(d:(Str×Int)×PyData)(v:List (Str⊕Int)×Addr×Value):Prop:=Ii d.1=v.1/\AG fz (.tuple [.str d.1.1,.int d.1.2]) (.ref v.2.1)/\AG fz d.2 v.2.2
theorem Oa(k k':Str×Int)(h:Ii k=Ii k'):k=k':=by have h1:=List.cons.inj h;exact Prod.ext (Sum.inl.inj h1.1) (Sum.inr.inj (List.cons.inj h1.2).1)
theorem Has.dictS{T:Top}(H:Has T g U s)(hk:g.mu[k]? = al a)(hσ:U[k]? = al (.dictS kvs)){R_:Prop}(kk:∀ws,s.heap.DictOf (strKind T.prog T.w) a ws->Ay (kR g.fz) kvs ws->R_):R_ :=
 H.ob k a _ hk hσ R_ λx hx r=>r R_ λes ep ws ho hd hk' hp hn hr hl=>kk ws ⟨x,es,ep,hx,ho,hd,hk',hp,hn⟩ hr
theorem Fy(H:Has T g U s)(r:AG g.fz (.tuple [.str q.1,.int q.2]) (.ref b)):IsTupleKey (Dz T.prog T.w) s.heap (Ii q) b:=by refine r (λx=>x=.ref b->IsTupleKey (Dz T.prog T.w) s.heap (Ii q) b) (λa o vs m hf hc hd hr _ e=>?_) rfl;obtain rfl:a=b:=ABR e;refine⟨o,vs,m,H.fz _ _ hf,hc,hd,?_⟩;refine Br hr.all.two λx y e q_3 q_4=>?_;obtain⟨t,rfl,_⟩:=q_3;obtain⟨t',rfl⟩:=q_4;exact e▸.cons (strKind_is T.prog T.w q.1 t) (.cons (show Value.isInt q.2 (.int q.2 t')=true by simp[Value.isInt]) .nil)
theorem Has.dictP{T:Top}(H:Has T g U s)(hk:g.mu[k]? = al a)(hσ:U[k]? = al (.dictP kvp)){R_:Prop}(kk:∀ws,s.heap.DictOfH (tupleKind (Dz T.prog T.w)) a ws->Ay (dY g.fz) kvp ws->R_):R_ :=
 H.ob k a _ hk hσ R_ λx hx r=>r R_ λes ep ws ho hd he hn hr hl=>kk ws ⟨x,es,ep,hx,ho,hd,he,(by
  have key:∀{kvp:List ((Str×Int)×PyData)} {ws:List (List (Str⊕Int)×Addr×Value)},Ay (dY g.fz) kvp ws->∀x∈ws,IsTupleKey (Dz T.prog T.w) s.heap x.1 x.2.1:=by
   intro kvp
   induction kvp with
   |nil=>intro ws h x hx;rw[h.nil] at hx;exact nomatch hx
   |cons p kvp ih =>
    intro ws h x hx;refine Br h.cons λw ws q_2 h1 h2=>?_;subst q_2;exact(AAR.mp hx).elim (λe=>by rw[e,<-h1.1];exact Fy H h1.2.1) (ih h2 x)
  exact key hr),hn⟩ hr
theorem Kd(h:Ay (kR fz) kvs ws)(z:Str):(Aq kvs z=az/\valueAt ws z=az)\/∃d v,Aq kvs z=al d/\valueAt ws z=al v/\AG fz d v:=by
 rcases Kn (λ_ _ h=>h) (λ_ _ h=>h.1) z h with⟨e1,e2⟩|⟨p,w,e1,e2,r⟩
 ·exact .inl ⟨congrArg (Option.map _) e1,congrArg (Option.map _) e2⟩
 ·exact .inr (Gw p.2 w.2 (congrArg (Option.map _) e1) (congrArg (Option.map _) e2) r.2)
theorem Ke(h:Ay (dY fz) kvp ws)(q:Str×Int):(Aq kvp q=az/\atKey ws (Ii q)=az)\/∃d v,Aq kvp q=al d/\atKey ws (Ii q)=al v/\AG fz d v.2:=by
 rcases Kn Oa (λ_ _ h=>h.1) q h with⟨e1,e2⟩|⟨p,w,e1,e2,r⟩
 ·exact .inl ⟨congrArg (Option.map _) e1,congrArg (Option.map _) e2⟩
 ·exact .inr (Gw p.2 w.2 (congrArg (Option.map _) e1) (congrArg (Option.map _) e2) r.2.2)
theorem fW(hσ:U[k]? = al (.dictS kvs)):Pr2 (compareOp .In) (.d (.str z)) (.ref k) U (vb (Aq kvs z).isSome) U/\Pr2 (compareOp .NotIn) (.d (.str z)) (.ref k) U (vb !(Aq kvs z).isSome) U:=by
 have key:∀{op:CmpOp} {f:Bool->Bool},(∀(r:Ar) (s:Shared) (a:Addr) (t:Tok) (ws:List (Str×Value)) (Q:Value->Shared->Prop),(a==sysModules)=false->s.heap.DictOf (strKind r.T.prog r.T.w) a ws->(∀tk,Q (.bool (f (valueAt ws z).isSome)) {s with toks:=tk})->wpAny (model r.T.prog r.T.w) r.A (compareOp op (.str z t) (.ref a)) Q (λ_ _=>False) s)->Pr2 (compareOp op) (.d (.str z)) (.ref k) U (vb (f (Aq kvs z).isSome)) U:=λh r g s X Y A hx hy=>by refine oEA hx λt q_1 _=>?_;subst q_1;refine oEA hy λa hk q_2=>?_;subst q_2;refine A.has.dictS hk hσ λws hD hr=>h r s a t ws _ (A.notMods hk) hD λtk=>.refl A.has.tok ?_;rcases Kd hr z with⟨e1,e2⟩|⟨d,v,e1,e2,_⟩<;>rw[e1,e2]<;>rfl
 exact⟨key (f:=id) λr s a t ws Q hm hD h=>wpAny_in_of (strKind_is _ _ z t) hm hD.mapOf (h _),key λr s a t ws Q hm hD h=>wpAny_notIn_of (strKind_is _ _ z t) hm hD.mapOf (h _)⟩
noncomputable abbrev vp(q:Str×Int):V:=.d (.tuple [.str q.1,.int q.2])
theorem IY(h:Av T g (vp q) X){R_:Value->Prop}(k:∀b,AG g.fz (.tuple [.str q.1,.int q.2]) (.ref b)->R_ (.ref b)):R_ X :=
 h (λX=>Av T g (vp q) X->R_ X) (λa _ _ _ _ _ _ _ _ h=>k a h) h
theorem fX(hσ:U[k]? = al (.dictP kvp)):Pr2 (compareOp .In) (vp q) (.ref k) U (vb (Aq kvp q).isSome) U/\Pr2 (compareOp .NotIn) (vp q) (.ref k) U (vb !(Aq kvp q).isSome) U:=by
 have key:∀{op:CmpOp} {f:Bool->Bool},(∀(r:Ar) (s:Shared) (a b:Addr) (ws:List (List (Str⊕Int)×Addr×Value)) (Q:Value->Shared->Prop),r.A.in1.units<cLine->(a==sysModules)=false->s.heap.DictOfH (tupleKind (Dz r.T.prog r.T.w)) a ws->IsTupleKey (Dz r.T.prog r.T.w) s.heap (Ii q) b->(∀tk,Q (.bool (f (atKey ws (Ii q)).isSome)) {s with toks:=tk})->wpAny (model r.T.prog r.T.w) r.A (compareOp op (.ref b) (.ref a)) Q (λ_ _=>False) s)->Pr2 (compareOp op) (vp q) (.ref k) U (vb (f (Aq kvp q).isSome)) U:=λh r g s X Y A hx hy=>by refine oEA hy λa hk q_2=>?_;subst q_2;refine IY hx (R_:=λX=>r.wp (compareOp _ X (.ref a)) (Ans r g _ U) s) λb hb=>A.has.dictP hk hσ λws hD hr=>h r s a b ws _ (AAS (AA9 _ 40) A.room) (A.notMods hk) hD (Fy A.has hb) λtk=>.refl A.has.tok ?_;rcases Ke hr q with⟨e1,e2⟩|⟨d,v,e1,e2,_⟩<;>rw[e1,e2]<;>rfl
 exact⟨key (f:=id) λr s a b ws Q hu hm hD hb h=>wpAny_in_heap hu hb hm hD (h _),key λr s a b ws Q hu hm hD hb h=>PyProof.Rows.wpAny_notIn_heap hu hb hm hD (h _)⟩
theorem Gi(A:At 0 r g U s)(hk:g.mu[k]? = al a)(hσ:U[k]? = al ob)(h:∀vs,ob≠.list vs):s.TypeIs (.ref a) "dict" :=
 A.has.ob k a _ hk hσ _ λx hx rx=>by
  cases ob with
  |list vs=>exact absurd rfl (h vs)
  |dictS _=>exact rx _ λ_ _ _ ho _ _ _ _ _ _=>⟨x,hx,ho.1⟩
  |dictP _=>exact rx _ λ_ _ _ ho _ _ _ _ _=>⟨x,hx,ho.1⟩
theorem XB(hσ:U[k]? = al (.dictS kvs))(hd:Aq kvs z=al d):PrG (.ref k) (.d (.str z)) U (.d d):=λr g s X Y A hx hy R_ kk=>by
 refine oEA hx λa hk q_2=>?_;subst q_2;refine oEA hy λt q_1 _=>?_;subst q_1;refine kk "dict" _ (Gi A hk hσ λ_ q=>nomatch q) slot_dict_getitem.lookup (A.has.dictS hk hσ λws hD hr=>?_);rcases Kd hr z with⟨e1,_⟩|⟨d',v,e1,e2,rv⟩
 ·exact Ak e1 hd
 ·exact(As hd e1)▸wpAny_getItem_of (strKind_is _ _ z t) hD.mapOf e2 (.refl A.has.tok rv)
theorem XC(hσ:U[k]? = al (.dictP kvp))(hd:Aq kvp q=al d):PrG (.ref k) (vp q) U (.d d):=λr g s X Y A hx hy R_ kk=>by
 refine oEA hx λa hk q_2=>?_;subst q_2;refine kk "dict" _ (Gi A hk hσ λ_ q=>nomatch q) slot_dict_getitem.lookup (IY hy (R_:=λY=>r.wp (getItem (.ref a) Y) (Ans r g (.d d) U) s) λb hb=>A.has.dictP hk hσ λws hD hr=>?_);rcases Ke hr q with⟨e1,_⟩|⟨d',v,e1,e2,rv⟩
 ·exact Ak e1 hd
 ·exact(As hd e1)▸wpAny_getItem_heap (AAS (AA9 _ 40) A.room) (Fy A.has hb) hD e2 (.refl A.has.tok rv)
end
noncomputable abbrev Xo(xs:Array Value)(m:Nat):Obj:={cls:=.type "list",dict:=az,data:=.seq xs m,slots:=#[]}
noncomputable abbrev DW:V:=.d .none
section
variable{T:Top}{r:Ar}{g:G}{U:Ac}{s:Shared}{a:E}{v:V}{ws:List V}{ds:List PyData}{k:Nat}{l:Addr}
theorem Has.lst(H:Has T g U s)(hk:g.mu[k]? = al l)(hσ:U[k]? = al (.list ws)){R_:Prop}(kk:∀xs m,s.heap.get? l=al (Xo xs m)->Au T g ws xs.toList->ws.length=xs.size->ws.length<=line->R_):R_ :=
 H.ob k l _ hk hσ R_ λo ho ro=>ro (λo=>s.heap.get? l=al o->R_) (λxs m hr hl ho=>kk xs m ho hr hr.length hl) ho
theorem Has.relst(H:Has T g U s)(hk:g.mu[k]? = al l)(hs:∀b x,b≠l->s.heap.get? b=al x->s'.heap.get? b=al x)(ho:s'.heap.get? l=al (Xo xs m))(hr:Au T g us xs.toList)(hl:us.length<=line)(hg:s'.gens=s.gens:=by rfl)(hos:s'.os=s.os:=by rfl):Has T g (U.set k (.list us)) s' :=
 H.turn (ob:=.list us) hk hs ho (λR_ kk=>kk xs m hr hl) hg hos
theorem ZI{h:Heap}:∀b x,b≠l->h.get? b=al x->(h.update l f).get? b=al x:=λb x hb e=>(ABD _ _ (Ne.symm hb)).trans e
theorem Has.upd{xs:Array Value}{m:Nat}{f:Array Value->Array Value}{tk:Nat}(H:Has T g U s)(hk:g.mu[k]? = al l)(ho:s.heap.get? l=al (Xo xs m))(hr:Au T g us (f xs).toList)(hl:us.length<=line):Has T g (U.set k (.list us)) {s with heap:=s.heap.update l (Obj.mapSeq f),toks:=tk} :=
 H.relst hk ZI (ACO _ ho rfl) hr hl
def PrM(id:String)(k:Nat)(ws us:List V)(U:Ac)(v:V)(U':Ac):Prop :=
 ∀(r:Ar) (g:G) (s:Shared) (l:Addr) (xs:Array Value) (m:Nat) (Ys:List Value),At 0 r g U s->g.mu[k]? = al l->s.heap.get? l=al (Xo xs m)->Au r.T g ws xs.toList->ws.length=xs.size->ws.length<=line->Au r.T g us Ys->r.wp (call (.builtin id) (.ref l::Ys)) (Ans r g v U') s
theorem Hl(hl:ws.length<line):PrM "list.append" k ws [x] U DW (U.set k (.list (ws++[x]))):=λr g s l xs m Ys A hk ho hr hn _ hy=>by refine oEA hy.one λY q_1 ry=>?_;subst q_1;refine wpAny_list_append_plain ⟨m,ho⟩ (λh' hp hs=>?_) (hn▸Bd▸ACJ hl);exact oE hp λm' ho'=>.refl (A.has.relst hk (λb x hb e=>(hs.2 b hb).trans e) ho' (by rw[Array.toList_push];exact hr.append ⟨ry,trivial⟩) (AAF▸Nat.succ_le_of_lt hl)) rfl
theorem WX{i:Int}(h0:0<=i)(h:i.toNat<=line):Builtin.List.listFitsIndex i=true:=by simp[Builtin.List.listFitsIndex];exact jF h0 (F9 h) rfl
theorem Uh(h0:0<=i)(hi:i.toNat<=ws.length)(hl:ws.length<line):PrM "list.insert" k ws [vi i,x] U DW (U.set k (.list (ws.take i.toNat++x::ws.drop i.toNat))):=λr g s l xs m Ys A hk ho hr hn _ hy=>by
 refine Br hy.two λZ Y q_2 q_3 ry=>?_;subst q_2;obtain⟨t,rfl⟩:=q_3;refine call_meets F.slot_list_insert ⟨_,ho,rfl⟩ F.entry_list_insert (F.args_list_insert_3 _ _ _) (AutoSeq1.list_insert_list_int_val_1 l xs m i t Y (by rw[WX h0 (AAC hi (ACJ hl))];decide) (hn▸Bd▸ACJ hl)) ⟨ho,.refl (A.has.upd hk ho ?_ ?_) rfl⟩
 ·have e:(if i<0 then(i+(xs.size:Int)).toNat else min i.toNat xs.size)=i.toNat:=by exact(if_neg (Int.not_lt.mpr h0))▸ACP (hn▸hi)
  show Au r.T g _ ((xs.extract 0 (if i<0 then(i+(xs.size:Int)).toNat else min i.toNat xs.size)).push Y++xs.extract (if i<0 then(i+(xs.size:Int)).toNat else min i.toNat xs.size)).toList;rw[e];have e2:((xs.extract 0 i.toNat).push Y++xs.extract i.toNat).toList=xs.toList.take i.toNat++Y::xs.toList.drop i.toNat:=by simp;exact List.take_of_length_le (by simp)
  exact e2▸(hr.take _).append ⟨ry,hr.drop _⟩
 ·rw[AAF,AA2,ACT,ADI,ACP hi,<-ADK,Nat.add_sub_cancel' hi];exact Nat.succ_le_of_lt hl
theorem Ay.erase{α β:Type}{R:α->β->Prop}{as:List α}{bs:List β}(h:Ay R as bs)(j:Nat):Ay R (as.eraseIdx j) (bs.eraseIdx j):=by rw[List.eraseIdx_eq_take_drop_succ,List.eraseIdx_eq_take_drop_succ];exact(h.take j).append (h.drop (j+1))
theorem gJ(hv:ws[ws.length-1]? = al v):PrM "list.pop" k ws [] U v (U.set k (.list (ws.eraseIdx (ws.length-1)))):=λr g s l xs m Ys A hk ho hr hn hl hy=>by
 rw[hy.nil];refine oEA (hr.get hv) λY hY ry=>call_meets F.slot_list_pop ⟨_,ho,rfl⟩ F.entry_list_pop (F.args_list_pop_1 _) (MeetsSeq.list_pop_last l xs m Y (hn▸ABJ.symm.trans hY) (hn▸Bd▸hl)) ⟨ho,.refl (A.has.upd hk ho ?_ ?_) ry⟩
 ·rw[hn,show(xs.eraseIdxIfInBounds (xs.size-1)).toList=xs.toList.eraseIdx (xs.size-1) by simp];exact hr.erase _
 ·exact AAC (List.length_eraseIdx_le _ _) hl
noncomputable def Of(x:PyData):List PyData->Option Nat
 |[]=>az
 |y::r=>(eqN AQ y x).bind λb=>bif b then al 0 else(Of x r).bind λj=>al (j+1)
theorem cO:∀{xs:List Value} {j:Nat},Ay (AG h.get?) ds xs->Of d ds=al j->∃(hj:j<xs.length),Gk h d xs[j]=true/\∀(m:Nat) (hm:m<xs.length),m<j->Gk h d xs[m]=false:=by
 induction ds with
 |nil=>exactλ_ h=>Aa h
 |cons z ds ih =>
  intro xs j hr e0;refine Br hr.cons λx xs q_2 h1 h2=>?_;subst q_2;refine oEA (ae e0) λb e e0=>?_;have h0:=Rn h1 e;cases b with
  |true =>
   obtain rfl:0=j:=AAA e0;exact⟨AC3 _,h0,λm _ hm=>absurd hm (Nat.not_lt_zero m)⟩
  |false =>
   refine oEA (ae e0) λj' e2 e3=>?_;obtain rfl:j'+1=j:=AAA e3;obtain⟨q1,q2,q3⟩:=ih h2 e2;refine⟨Nat.succ_lt_succ q1,q2,λm hm hj=>?_⟩;cases m with
   |zero=>exact h0
   |succ m=>exact q3 m (Nat.lt_of_succ_lt_succ hm) (Nat.lt_of_succ_lt_succ hj)
theorem cP{xs:Array Value}(A:At 0 r g U s)(hr:Au r.T g (ds.map .d) xs.toList)(hy:AG g.fz d Y)(h1:inD d ds=al q)(h2:Of d ds=al j){R_:Prop}
 (kk:∀(hj:j<xs.size),(∀z,z∈xs->EqAt r.A.in1 s z Y (Gk s.heap d z))->Gk s.heap d xs[j]=true->(∀m (hm:m<xs.size),m<j->Gk s.heap d xs[m]=false)->R_):R_:=by
 have hd:=(ZP hr).mono λ_ _=>AG.mono A.has.fz _ _;refine oA (PD (A:=r.A.in1) A.room (AG.mono A.has.fz _ _ hy) hd h1) λh4 _=>?_;obtain⟨q1,q2,q3⟩:=cO hd h2;exact kk q1 (λz hz=>h4 z (Array.mem_toList_iff.mpr hz)) q2 λm hm hj=>q3 m hm hj
theorem Xc(h1:inD d ds=al q)(h2:Of d ds=al j):PrM "list.index" k (ds.map .d) [.d d] U (vi j) U:=λr g s l xs m Ys A hk ho hr hn hl hy=>by refine oEA hy.one λY q_1 ry=>?_;subst q_1;refine cP A hr ry h1 h2 λhj hz q1 q2=>?_;have hj':(j:Int)<2 ^ 63-1:=ADU (Int.ofNat_lt.mpr (ACE hj (hn▸hl))) (by decide);exact call_meets F.slot_list_index ⟨_,ho,rfl⟩ F.entry_list_index (F.args_list_index_2 _ _) (list_indexAt l xs m az #[] Y (Gk s.heap d) j hj hj' q1 q2) ⟨ho,hz,.refl A.has.tok ⟨_,rfl⟩⟩
end
theorem PR(l:Addr)(items:Array Value)(n:Nat)(b:Addr)(items2:Array Value)(n2:Nat)(dd:Option Addr)(sl:Array (Option Value))(hs0:¬(!items.isEmpty&&Builtin.List.listTooLong (items.size+items2.size))=true)(hs1:items.size<=sizeLine)(hs2:(items++items2).size<=sizeLine+1) :
 Meets (Builtin.«list.extend» ⟨[.ref l,.ref b],[]⟩) (λ_ R s=>s.heap.get? l=al {cls:=.type "list",dict:=az,data:=.seq items n,slots:=#[]}/\s.heap.get? b=al {cls:=.type "list",dict:=dd,data:=.seq items2 n2,slots:=sl}/\R (.ok (.ret Value.none)) {s with heap:=s.heap.update l (Obj.mapSeq λx=>x++items2),toks:=s.toks}) :=
 .of_wp λprog w A R s h=>by
  obtain⟨hp,g,d,tk,os⟩:=s;refine oAA h λhl hb h=>?_;have f1:=AutoSeq1.sub_list_list
  wp_walk using (wpAny_updateSeq hl rfl (_hz':=hs2)),AutoSeq1.wpAny_loadPart' hl,AutoSeq1.wpAny_loadPart' hb
  exact iEA _ rfl h
section
variable{r:Ar}{c:Cx}{s:Shared}{ws us:List V}
theorem Ui(h:AE U x=al us)(hl:ws.length+us.length<=line):PrM "list.extend" k ws [x] U DW (U.set k (.list (ws++us))):=λr g s l xs m Ys A hk ho hr hn hlw hy=>by
 refine oEA hy.one λY q_1 ry=>?_;subst q_1;refine Be A.has ry h (R_:=λY=>r.wp (call (.builtin "list.extend") [.ref l,Y]) (Ans r g DW (U.set k (.list (ws++us)))) s) λb zs hL hz hzn _=>NE (JN hL) λn2 d2 s2 ho2=>?_;have hz2:xs.size+zs.size<=sizeLine:=by rw[<-hn,<-hzn,<-Bd];exact hl
 refine call_meets F.slot_list_extend ⟨_,ho,rfl⟩ F.entry_list_extend (F.args_list_extend_2 _ _) (PR l xs m b zs n2 d2 s2 ?_ (AAC (AA9 _ _) hz2) (Array.size_append▸AB4 hz2)) ⟨ho,ho2,.refl (A.has.upd hk ho ?_ ?_) rfl⟩
 ·rw[show Builtin.List.listTooLong (xs.size+zs.size)=false from AAT (AB5.mpr hz2),ADD];exact ABB
 ·rw[Array.toList_append];exact hr.append hz
 ·exact AAF▸hl
def FT(e:E):Prop:=∀{K:Kx} {ex:Expr},IsE e K ex->∀nm env w,attributeBase ex nm env w=w
theorem An:FT (.N i):=λh nm env w=>h (λex=>attributeBase ex nm env w=w) λ_ _ _=>rfl
theorem SY:FT (.cst d):=λh nm env w=>h (λex=>attributeBase ex nm env w=w) λ_ _ _=>rfl
theorem SW:FT (.aa a b):=λh nm env w=>h (λex=>attributeBase ex nm env w=w) λ_ _ _ _ _=>rfl
theorem K6:FT (.R z a):=λh nm env w=>h (λex=>attributeBase ex nm env w=w) λ_ _ _=>rfl
theorem SE.H{m:SZ}{Ty id:String}(hb0:FT a)(pa:PlainAttrs Ty)(slot:Slot Ty (ACG (F5 m)) id)(ty:typeOf (.builtin id)=pure (.type "method_descriptor"))(ha:SE n a J U x ag)(hb:SEs n b J ag ws ak)
 (hT:∀(r:Ar) (g:G) (s:Shared) (X:Value),At 0 r g ag s->Av r.T g x X->s.TypeIs X Ty/\∀l,X=.ref l->∃o,s.heap.get? l=al o/\o.dict=az)
 (h:∀(r:Ar) (g:G) (s:Shared) (X:Value) (Ys:List Value),At 0 r g ak s->Av r.T g x X->Au r.T g ws Ys->r.wp (call (.builtin id) (X::Ys)) (Ans r g v au) s):SE n (.H m a b) J U v au:=by
 refineλc g s ex hc I=>hc (λex=>c.wp (eval ex c.env) (Ans c.toAr g v au) s) λz ap vs p h1 h2 h3 h4=>wpAny_Call_method_lateS (hb0 h1 _ _ _) ?_ (AAI h3) (AAO (ha c g s z h1 I) (λX ai aL=>aL _ λaj av ar ao=>?_) λ_ _ h=>h)
 ·have e:=CR p c.env h2;rw[List.any_eq_false] at e;exact(ACW _ _).mpr ⟨(ACW _ _).mpr ⟨ACL.mpr λx hx=>by simpa using e x hx,rfl⟩,AAI (ABT h4 (dc rfl))⟩
 ·have I1:=I.step av ar;have t:=hT c.toAr aj ai X I1.at0 ao;exact⟨Ty,id,pa,slot,ty,t.1,t.2,callWith_builtin (CR _ _ h2) (Dm h2 (AAO (hb c aj ai vs p h2 I1) (λYs am aM=>aM _ λan le2 aC ay=>BP (av.trans le2) (h c.toAr an am X Ys (I1.step le2 aC).at0 (Av.mono le2.toup _ _ ao) ay)) λ_ _ h=>h))⟩
theorem SE.lmeth{m:SZ}{id:String}(hb0:FT a)(slot:Slot "list" (ACG (F5 m)) id)(ty:typeOf (.builtin id)=pure (.type "method_descriptor"))(ha:SE n a J U (.ref k) ag)(hb:SEs n b J ag us ak)(h0:ag[k]? = al (.list ws))(h1:ak[k]? = al (.list ws))(h:PrM id k ws us ak v au):SE n (.H m a b) J U v au:=by
 refine SE.H hb0 F.plainAttrs_list slot ty ha hb (λr g s X A hx=>?_) λr g s X Ys A hx hy=>?_
 ·refine oEA hx λl hk q_2=>?_;subst q_2;exact A.has.lst hk h0 λxs m ho _ _ _=>⟨⟨_,ho,rfl⟩,λl' q=>ABR q▸(iEA _ ho rfl)⟩
 ·refine oEA hx λl hk q_2=>?_;subst q_2;exact A.has.lst hk h1 λxs m ho hr hn hl=>h r g s l xs m Ys A hk ho hr hn hl hy
theorem Pj(h:PyProof.Rows.StrsAre zs ss):∃l':List (Str×Tok),strValues l'=zs/\l'.map (·.1)=ss:=by
 induction h with
 |nil=>exact iEA [] rfl rfl
 |cons y t _ ih=>refine oEA ih λl q1 q2=>?_;exact iEA ((y,t)::l) (q1▸rfl) (q2▸rfl)
theorem SE.join(hb0:FT a)(hs:AE ak y=al (vss ss))(hj:JoinOk z ss=true)(ha:SE n a J U (.d (.str z)) ag)(hb:SEs n b J ag [y] ak):SE n (.H .join a b) J U (.d (.str (Txt.join z ss))) ak:=by
 refine SE.H hb0 F.plainAttrs_str F.slot_str_join F.type_str_join ha hb (λr g s X A hx=>?_) λr g s X Ys A hx hy=>?_
 ·refine oEA hx λt q_1 _=>?_;subst q_1;exact⟨typeIs_str _ _ _,λ_ q=>nomatch q⟩
 ·refine oEA hx λt q_1 _=>?_;subst q_1;refine oEA hy.one λY q_1 ry=>?_;subst q_1;exact Be A.has ry hs (R_:=λY=>r.wp (call (.builtin "str.join") [.str z t,Y]) (Ans r g (.d (.str (Txt.join z ss))) ak) s) λl xs hL hr _ _=>oEA (Pj (Jo hr).1) λl' hl1 hl2=>SC.join (by rw[hl1];simpa using hL) hl2 hj λt' k=>.refl A.has.tok ⟨t',rfl,by rw[Bd];exact joinOk_length hj⟩
end
end Mine.Internal
namespace Mine.Internal
open PySem PySem.Calls
noncomputable def Fv:Am->List Nat->List V->Am
 |J,i::is,v::vs=>Fv (J.set i (al v)) is vs
 |J,_,_=>J
section
variable{n:Nat}{c:Cx}{J:Am}{g:G}{s:Shared}{i:Nat}{Er:Value->Shared->Prop}{e a b:E}{Q:Fl->Ac->Prop}
theorem V9{env:Env}{K:Kx}(h:env.scope.names=K.names)(hc:K.canWr i nm=true):K.vars[i]? = al nm/\nm∈K.wr/\(env.kindOf nm=al .local\/env.kindOf nm=al .cell):=by have h1:=AAH.mp hc;have h2:=AAH.mp h1.1;rw[AN h];exact⟨AAG h2.1,List.contains_iff_mem.mp h2.2,(ABC.mp h1.2).imp Kx.kd_eq Kx.kd_eq⟩
theorem Jj(h:(J.set i (al w))[j]? = al (al v)):(j=i/\w=v)\/(j≠i/\J[j]? = al (al v)):=by
 by_cases q:i=j
 ·subst q;by_cases hl:i<J.length
  ·rw[AB1 hl] at h;exact .inl ⟨rfl,AAA (AAA h)⟩
  ·rw[List.getElem?_eq_none (by rw[AB0];exact ACM hl)] at h;exact Aa h
 ·rw[ADN q] at h;exact .inr ⟨λe=>q e.symm,h⟩
theorem Ic{vars:List Str}(hn:vars.Nodup){i j:Nat}{n:Str}(h1:vars[i]? = al n)(h2:vars[j]? = al n):i=j:=by obtain⟨a,ha⟩:=AAM.mp h1;obtain⟨b,hb⟩:=AAM.mp h2;exact(List.getElem_inj hn).mp (ha.trans hb.symm)
theorem JC{f:Addr->Option Obj}{a b:Addr}{m:Str->Option Value}{u:Option Value}(hn:NsF f a m)(hc:Gz f b u):b≠a:=by refine CY hn λo es ep ho hd _=>oEA hc λo' ho' hd'=>?_;intro q;rw[q,ho] at ho';rw[<-AAA ho',hd] at hd';exact nomatch hd'
theorem Gd{a b:Addr}{o:Obj}(h:g.hid a≠az):(g.hide b o).hid a≠az:=by
 show(if a=b then al o else g.hid a)≠az;by_cases q:a=b
 ·rw[if_pos q];exactλq=>nomatch q
 ·exact(if_neg q)▸h
theorem Inv.store{A':Around}{Q:Unit->Shared->Prop}(I:Inv n c J g U s)(hc:c.K.canWr i nm=true)(r:Av c.T g v X)(h:∀g' s',G.le c.own g g'->G.up g g'->Inv n c (J.set i (al v)) g' U s'->Q () s'):wpAny (model c.T.prog c.T.w) A' (storeName c.env nm X) Q Er s:=by
 refine oAA (V9 I.cx.names hc) λh1 h2 h3=>I.loc.ns _ λm hm hs=>?_;have oth:∀{j nm' w},c.K.vars[j]? = al nm'->(J.set i (al v))[j]? = al (al w)->(nm'=nm/\v=w)\/(nm'≠nm/\J[j]? = al (al w)):=λ{j nm' w} e1 e2=>(Jj e2).imp (λq=>⟨As e1 (q.1▸h1),q.2⟩) λq=>⟨λq'=>q.1 (Ic I.cx.nd e1 (q'▸h1)),q.2⟩
 rcases h3 with hk|hk
 ·refine wpAny_storeName_local hk (I.has.ns hm) (λh' hn hb=>?_) (I.cx.kind▸rfl);refine Cy (id hm) λaS _ _ e0 _=>Cy hn λo es ep ho hd=>?_;have up:G.up g (g.hide c.env.locals (frO o)):=⟨λ_ _ e=>e,λ_ _ e=>e⟩
  refine h (g.hide c.env.locals (frO o)) _ (.hide I.cx.oloc) up ⟨I.toAt.stepF up (I.frs.hideF rfl hd.1) (I.has.rehideH e0 (λb x q e=>(hb.2 b q).trans e) (.fr ho)),I.cx,λR_ k=>k (λx=>if x=nm then al X else m x) ⟨frO o,es,ep,G.hide_self,hd⟩ λj nm' w e1 e2 e3=>?_,λnm' hk' R_ k=>I.loc.ce nm' hk' R_ λa u q1 q2 q3=>k a u q1 (q2.to λo' e=>(G.hide_ne (JC hm q2)).trans e) λj w e1 e2=>?_,λa ha=>Gd (I.loc.ow a ha)⟩
  ·rcases oth e1 e2 with⟨q,q'⟩|⟨q,q'⟩
   ·exact(if_pos q)▸q'▸iEA X rfl (Av.mono up _ _ r)
   ·exact(if_neg q)▸CN up (hs j nm' w e1 q' e3)
  ·rcases oth e1 e2 with⟨q,q'⟩|⟨q,q'⟩
   ·rw[q,hk] at hk';exact hk'.elim (λq=>nomatch q) λq=>nomatch q
   ·exact CN up (q3 j w e1 q')
 ·refine I.loc.ce nm (.inl hk) _ λa u q1 q2 q3=>wpAny_storeName_cell I.cx.kind hk q1 (I.has.cell q2) λh' hn hb=>oEA (id q2) λaS e0 _=>oEA hn λo ho hd=>?_;have up:G.up g (g.hide a o):=⟨λ_ _ e=>e,λ_ _ e=>e⟩
  refine h (g.hide a o) _ (.hide (I.cx.ocell nm h2 a hk q1)) up ⟨I.toAt.stepF up (I.frs.hideC q2) (I.has.rehide e0 (λb x q e=>(hb.2 b q).trans e) ho),I.cx,λR_ k=>k m (hm.to λo' e=>(G.hide_ne (JC hm q2).symm).trans e) λj nm' w e1 e2 e3=>?_,λnm' hk' R_ k=>?_,λa ha=>Gd (I.loc.ow a ha)⟩
  ·rcases oth e1 e2 with⟨q,q'⟩|⟨q,q'⟩
   ·rw[q,hk] at e3;exact nomatch e3
   ·exact CN up (hs j nm' w e1 q' e3)
  ·by_cases q:nm'=nm
   ·refine k a (al X) (q▸q1) ⟨o,G.hide_self,hd⟩ λj w e1 e2=>(oth e1 e2).elim (λp=>p.2▸(iEA X rfl (Av.mono up _ _ r))) λp=>absurd q p.1
   ·refine I.loc.ce nm' hk' R_ λa' u' p1 p2 p3=>k a' u' p1 (p2.to λo' e=>(G.hide_ne λ(q':a'=a)=>q (I.cx.cinj nm' nm a (q'▸p1) q1)).trans e) λj w e1 e2=>(oth e1 e2).elim (λp=>absurd p.1 q) λp=>CN up (p3 j w e1 p.2)
theorem Inv.asgn{A':Around}{p:Pos}{Q:Unit->Shared->Prop}(I:Inv n c J g U s)(hc:c.K.canWr i nm=true)(r:Av c.T g v X)(h:∀g' s',G.le c.own g g'->G.up g g'->Inv n c (J.set i (al v)) g' U s'->Q () s'):wpAny (model c.T.prog c.T.w) A' (assign (.Name nm p) c.env X) Q Er s:=by rw[arm_assign_Name];exact AAD (AA7 (wpAny_bindName (I.store hc r h)))
theorem MX:∀{es:List Expr},OS c.K ts es->∀{vs:List V} {Xs:List Value} {J:Am} {g:G} {s:Shared} {Q:Unit->Shared->Prop},Inv n c J g U s->Au c.T g vs Xs->vs.length=ts.length ->
 (∀g' s',G.le c.own g g'->Inv n c (Fv J ts vs) g' U s'->Q () s')->wpAny (model c.T.prog c.T.w) c.A (assignInOrder ((assignEach es c.env).map (·.2)) Xs) Q Er s:=by
 induction ts with
 |nil =>
  intro es hc vs Xs J g s Q I r hl h;obtain rfl:es=[]:=hc;obtain rfl:vs=[]:=List.length_eq_zero_iff.mp hl;exact r.nil▸AAY (h g s (.refl _ _) I)
 |cons t ts ih =>
  intro es hc vs Xs J g s Q I r hl h;cases vs with
  |nil=>exact Dk hl rfl
  |cons v vs =>
   refine Br r.cons λX Xs q_2 r1 r2=>?_;subst q_2;exact hc (λes=>wpAny (model c.T.prog c.T.w) c.A (assignInOrder ((assignEach es c.env).map (·.2)) (X::Xs)) Q Er s) λnm p l h1 h2=>AAD (AA8 (I.asgn h1 r1 λaj ai av up I1=>ih h2 I1 (Au.mono up r2) (Nat.succ.inj hl) λg' s' le' I'=>h g' s' (av.trans le') I'))
theorem bS{ts:List Nat}:∀{es:List Expr},OS c.K ts es->(assignEach es c.env).length=ts.length/\(assignEach es c.env).findIdx? (·.1)=az:=by
 induction ts with
 |nil=>intro es hc;rw[show es=[] from hc];exact⟨rfl,rfl⟩
 |cons t ts ih =>
  intro es hc;refine hc (λes=>(assignEach es c.env).length=ts.length+1/\(assignEach es c.env).findIdx? (·.1)=az) λnm p l h1 h2=>⟨congrArg (· + 1) (ih h2).1,?_⟩
  show((false,assign (.Name nm p) c.env)::assignEach l c.env).findIdx? (·.1)=az;rw[List.findIdx?_cons,(ih h2).2];rfl
theorem Inv.unpack{ts:List Nat}{es:List Expr}{p:Pos}{vs:List V}{Xs:Array Value}{Q:Unit->Shared->Prop}(I:Inv n c J g U s)(hc:OS c.K ts es)(ht:s.heap.IsTuple t Xs)(r:Au c.T g vs Xs.toList)(hl:vs.length=ts.length)(hn:3<=n)
 (h:∀g' s',G.le c.own g g'->Inv n c (Fv J ts vs) g' U s'->Q () s'):wpAny (model c.T.prog c.T.w) c.A (assign (.Tuple es k p) c.env (.ref t)) Q Er s:=by
 exact oA (bS hc) λl1 l2=>wpAny_assign_Tuple (I.hh.none hn) ht (l1▸hl▸r.length▸rfl) l2 λh' he=>MX hc (I.step (.refl _ _) (I.has.keep λb o e=>he b o (λq=>by rw[q,By] at e;exact Aa e) e)) r hl h
theorem SS.ret(h:SE n e J U v U')(hq:Q (.ret v) U'):SS n (.ret e) J U Q:=λc g s x hc I=>hc (λx=>c.wp (exec x c.env) (BL n c g Q) s) λex p hc=>Bt (arm_exec_Return ..) (AAD (AA7
 (BW (h c g s ex hc I) λX aj ai le ar ao=>AAY λR_ _ k2=>k2 v X U' aj hq le.toO ar (I.step le ar).loc.ow ao)))
theorem Vw{prog:Program}{w:World}{A:Around}{Q:Flow->Shared->Prop}{E:Value->Shared->Prop}{e:Expr}{p:Pos}(h:Q .next s):wpAny (model prog w) A (dropValue e p v) Q E s:=by
 have key:∀a,wpAny (model prog w) A (dropValue (.List [] default) p (.ref a)) Q E s:=λa=>by refine AAD (AA7 (AAD (wpAny_runValue (codeAny_builtin entry_let_go ?_))));unfold Builtin.«proto.let_go»;exact AAY (AAY h)
 have key2:wpAny (model prog w) A (dropValue (.List [] default) p v) Q E s:=by cases v<;>first|exact AAY h|exact key _
 have to:∀t,t=dropValue (.List [] default) p v->wpAny (model prog w) A t Q E s:=λt e=>e▸key2;cases e<;>first|exact AAY h|exact to _ (by kernel_rfl)
theorem SS.exp(hp:CQ e=false)(h:SE n e J U v U')(hq:Q (.next J) U'):SS n (.exp e) J U Q:=λc g s x hc I=>hc (λx=>c.wp (exec x c.env) (BL n c g Q) s) λex p hc=>by
 have hi:interactive c.env=false:=by unfold interactive;rw[I.cx.kind];rfl
 rw[arm_exec_Expr];refine AAD (AA7 ?_);rw[hi];rw[GU e hp hc,pure_bind,if_neg ABB];exact BJ h hc I λX aj ai le I1 ao=>Vw λR_ k1 _=>k1 J U' aj hq le.toO I1
theorem SS.A(hp:CQ e=false)(h:SE n e J U v U')(hq:Q (.next (J.set i (al v))) U'):SS n (.A i e) J U Q:=λc g s x hc I=>hc (λx=>c.wp (exec x c.env) (BL n c g Q) s) λnm p ex p' h1 hc _=>by rw[arm_exec_Assign];refine AAD (AA7 ?_);show c.wp (swapsWith ex (al (.Name nm p)) p'.line c.env>>=_) _ _;rw[GU e hp hc,pure_bind,if_neg ABB];refine BJ h hc I λX aj ai le I1 ao=>?_;rw[show swappedStores [.Name nm p] ex c.env=pure az by unfold swappedStores;rfl,pure_bind];unfold assignStores;show c.wp (assignAll X [assign (.Name nm p) c.env]>>=λ_=>pure Flow.next) _ _;exact(show assignAll X [assign (.Name nm p) c.env]=assign (.Name nm p) c.env X by first|rfl|(unfold assignAll;rfl))▸AAD (I1.asgn h1 ao λan am le2 _ I2=>AAY λR_ k1 _=>k1 _ U' an hq (le.toO.trans le2) I2)
end
theorem BL.after(le:G.le c.own g aj)(h:BL n c aj Q f s'):BL n c g Q f s':=λR_ k1 k2=>h R_ (λJ U g' q l I=>k1 J U g' q (le.trans l) I) λv x U g' q l H w r=>k2 v x U g' q (le.trans l) H w r
theorem BL.elim{P:Prop}(h:BL n c g Q f s')(k1:∀J U' g',f=.next->Q (.next J) U'->G.le c.own g g'->Inv n c J g' U' s'->P)(k2:∀v x U' g',f=.ret x->Q (.ret v) U'->G.le c.own g g'->Has c.T g' U' s'->(∀a,a∈c.own->g'.hid a≠az)->Av c.T g' v x->P):P :=
 h (λf'=>f=f'->P) (λJ U g' q l I e=>k1 J U g' e q l I) (λv x U g' q l H w r e=>k2 v x U g' e q l H w r) rfl
theorem BL.mono(hm:∀fl U,M fl U->Q fl U)(h:BL n c g M f s'):BL n c g Q f s':=λR_ k1 k2=>h R_ (λJ U g' q l I=>k1 J U g' (hm _ _ q) l I) λv x U g' q l H w r=>k2 v x U g' (hm _ _ q) l H w r
theorem SS.mono(hm:∀fl U,M fl U->Q fl U)(h:SS n st J U M):SS n st J U Q:=λc g s x hc I=>AAO (h c g s x hc I) (λ_ _ p=>p.mono hm) λ_ _ h=>h
theorem SSs.mono(hm:∀fl U,M fl U->Q fl U)(h:SSs n st J U M):SSs n st J U Q:=λc g s x hc I=>AAO (h c g s x hc I) (λ_ _ p=>p.mono hm) λ_ _ h=>h
def andThen(n:Nat)(r:S)(Q:Fl->Ac->Prop)(fl:Fl)(U:Ac):Prop:=match fl with|.next J=>SSs n r J U Q|.ret v=>Q (.ret v) U
theorem SSs.nil(h:Q (.next J) U):SSs n .nil J U Q:=λc g s xs hc I=>by obtain rfl:xs=[]:=hc;exact wpAny_execs_nil λR_ k1 _=>k1 J U g h (.refl _ _) I
theorem SSs.cons(h:SS n st J U (andThen n r Q)):SSs n (.cons st r) J U Q:=λc g s xs hc I=>hc (λxs=>c.wp (execs xs c.env) (BL n c g Q) s) λx l h1 h2=>by
 rw[execs_cons];refine AAD (AAO (h c g s x h1 I) (λf ai p=>p.elim (λaP ag aj e q le I1=>?_) λv x ag aj e q le H w r=>?_) λ_ _ h=>h)
 ·subst e;exact AAO (q c aj ai l h2 I1) (λ_ _ p=>p.after le) λ_ _ h=>h
 ·subst e;exact AAY λR_ _ k2=>k2 v x ag aj q le H w r
theorem SS.I(h:ST n e J U t ag)(h1:t=true->SSs n p J ag Q)(h2:t=false->SSs n q J ag Q):SS n (.I e p q) J U Q:=λc g s x hc I=>hc (λx=>c.wp (exec x c.env) (BL n c g Q) s) λex xs ys pos c1 c2 c3=>by
 refine wpAny_If (AAO (h c g s ex c1 I) (λb ai p=>p _ λaj le ar aV=>?_) λ_ _ h=>h);subst aV;cases b with
 |true=>exact AAO (h1 rfl c aj ai xs c2 (I.step le ar)) (λ_ _ p=>p.after le.toO) λ_ _ h=>h
 |false=>exact AAO (h2 rfl c aj ai ys c3 (I.step le ar)) (λ_ _ p=>p.after le.toO) λ_ _ h=>h
noncomputable def WhQ(n:Nat)(e:E)(b:S)(Q:Fl->Ac->Prop):Nat->Am->Ac->Prop
 |0,_,_=>False
 |k+1,J,U=>∃t ag,ST n e J U t ag/\(t=false->Q (.next J) ag)/\(t=true->SSs n b J ag λfl U'=>match fl with|.next J'=>WhQ n e b Q k J' U'|.ret v=>Q (.ret v) U')
theorem SS.while_(h:WhQ n e r Q k J U):SS n (.while_ e r) J U Q:=λc g s x hc I=>hc (λx=>c.wp (exec x c.env) (BL n c g Q) s) λt bd p h1 h4=>by
 refine wpAny_While (codeAny_whileLoop (I:=λk s'=>∀R_:Prop,(∀J U g',WhQ n e r Q k J U->G.le c.own g g'->Inv n c J g' U s'->R_)->R_) (λk aB hz=>hz _ λaX au aE w aA I3=>?_) k λR_ kk=>kk J U g h (.refl _ _) I);cases k with
 |zero=>exact w.elim
 |succ k =>
  refine Br w λq U4 w1 w2 w3=>AAO (w1 c aE aB t h1 I3) (λb aK p=>p _ λaT le4 a9 br=>?_) λ_ _ h=>h.elim;subst br;have I4:=I3.step le4 a9;have le:=aA.trans (le4.toO (own:=c.own));cases b with
  |false=>exact wpAny_execs_nil λR_ k1 _=>k1 aX U4 aT (w2 rfl) le I4
  |true =>
   refine AAO (w3 rfl c aT aK bd h4 I4) (λf s5 p=>p.elim (λJ5 U5 g5 ba q l5 I5=>?_) λv x U5 g5 ba q l5 H w r5=>?_) λ_ _ h=>h.elim
   ·subst ba;exact iEA k (ADR k) (λR_ kk=>kk J5 U5 g5 q (le.trans l5) I5)
   ·subst ba;exactλR_ _ k2=>k2 v x U5 g5 q (le.trans l5) H w r5
def PrS(x y z:V)(U U':Ac):Prop :=
 ∀(r:Ar) (g:G) (s:Shared) (X Y Z:Value),At 0 r g U s->Av r.T g x X->Av r.T g y Y->Av r.T g z Z->r.wp (setItem X Y Z) (λ_ s'=>Has r.T g U' s') s
theorem RP(e:E)(h:IsE e K ex):swapsWith ex (al (.Subscript oe ie p)) l env=pure false:=by
 cases e with
 |nil=>exact h.elim
 |cons _ _=>exact h.elim
 |_=>exact h (λex=>swapsWith ex (al (.Subscript oe ie p)) l env=pure false) (by intros;rfl)
theorem WG(h:∀l,swapsWith ve (al (.Subscript oe ie p)) l env=pure false):exec (.Assign [.Subscript oe ie p] ve p') env=(standAt p'>>=λ_=>eval ve env>>=λZ=>assign (.Subscript oe ie p) env Z>>=λ_=>pure Flow.next):=by rw[arm_exec_Assign];show(standAt p'>>=λ_=>swapsWith ve (al (.Subscript oe ie p)) p'.line env>>=_)=_;rw[h];rfl
theorem SS.set(hz:SE n d J U z ag)(hx:SE n a J ag x ak)(hy:SE n b J ak y au)(h:PrS x y z au U')(hq:Q (.next J) U'):SS n (.set a b d) J U Q:=λc g s st hc I=>hc (λst=>c.wp (exec st c.env) (BL n c g Q) s) λoe ie p ve p' h1 h2 h3=>by refine Bt (WG λl=>RP d h1) (AAD (AA7 (BJ hz h1 I λZ aj ai av I1 ao=>?_)));rw[arm_assign_Subscript];refine AAD (AAD (AA8 (AAO (hx c aj ai oe h2 I1) (λX am p=>p _ λan le2 aC ay=>?_) λ_ _ h=>h)));have I2:=I1.step le2 aC;refine AAD (AA8 (AAO (hy c an am ie h3 I2) (λY aB p=>p _ λaE aA aU r3=>?_) λ_ _ h=>h));have I3:=I2.step aA aU;refine AAD (AA7 (AAD (AA8 (AAO (h c.toAr aE aB X Y Z I3.at0 (Av.mono aA.toup _ _ ay) r3 (Av.mono (le2.trans aA).toup _ _ ao)) (λ_ aK a9=>wpAny_release (AAY ?_)) λ_ _ h=>h))));exactλR_ k1 _=>k1 J U' aE hq (av.trans (le2.trans aA)).toO (I3.step (.refl _ _) a9)
section
variable{T:Top}{s:Shared}
theorem KR{items:Array Value}{k:Int}(ho:s.heap.get? l=al {cls:=.type "list",dict:=az,data:=.seq items m,slots:=#[]})(h0:0<=k)(hfit:k<2 ^ 63)(hn:k<items.size)
 (hQ:∀h' m',h'.get? l=al {cls:=.type "list",dict:=az,data:=.seq (items.setIfInBounds k.toNat v) m',slots:=#[]}->Heap.SameBut l s.heap h'->Q () {s with heap:=h'}):wpAny (model T.prog T.w) A (setItem (.ref l) (.int k t) v) Q Er s:=by
 have hT:s.TypeIs (.ref l) "list" := ⟨_,ho,rfl⟩
 unfold setItem;refine AA8 (AAD (wpAny_sequenceKey hT (by decide) (AAD (wpAny_callSpecial?_slot (name:=ACG "__setitem__") hT slot_list_setitem (wpAny_call_entry slot_list_setitem hT entry_list_setitem ?_ (args_list_setitem _ _ _))))));show wpAny _ _ (Builtin.List.listSubscript? (.int k t)>>=_) _ _ s;refine AAD (wpAny_listSubscript_int (fitsIndex_of h0 hfit) ?_);clear hfit;refine oE (Int.eq_ofNat_of_zero_le h0) λj q_1=>?_;subst q_1;have hj:j<items.size:=Int.ofNat_lt.mp hn;show wpAny _ _ ((seqItemAt l j>>=λr=>pure (r.map (j,·)))>>=_) _ _ s;refine AAD (AAD (wpAny_seqItemAt ho rfl (AAY ?_)));rw[AB6 hj];show wpAny _ _ (setSeqItemAt l j v>>=_) _ _ s;refine AAD (wpAny_setSeqItemAt ho rfl ?_);have e:=ACO (Obj.mapSeq (·.setIfInBounds j v)) ho rfl;exact AAD (AAY (AAY ⟨.none,rfl,AAY (hQ _ _ e (ACR ..))⟩))
end
section
variable{g:G}{U:Ac}{s s':Shared}{x:V}{e b d:E}{ws:List V}{k:Nat}{kvs:List (Str×PyData)}{kvp:List ((Str×Int)×PyData)}{w:Str}{q:Str×Int}{dd:PyData}
theorem Pp{i:Int}(hσ:U[k]? = al (.list ws))(h0:0<=i)(hi:i<ws.length):PrS (.ref k) (vi i) z U (U.set k (.list (ws.set i.toNat z))):=λr g s X Y Z A hx hy hz=>by refine oEA hx λl hk q_2=>?_;subst q_2;refine oE hy λt q_1=>?_;subst q_1;exact A.has.lst hk hσ λxs m ho hr hn hl=>KR ho h0 (Int.lt_trans hi (Int.ofNat_lt.mpr (F9 hl))) (hn▸hi) λh' m' ho' hs=>A.has.relst hk (λb x hb e=>(hs.2 b hb).trans e) ho' (by rw[Array.toList_setIfInBounds];exact hr.set _ hz) (by rw[AB0];exact hl)
theorem P6{α β:Type}{R:α->β->Prop}{as:List α}{bs:List β}(h:Ay R as bs)(hl:as.length<line):bs.length<=sizeLine:=by rw[<-h.length,<-Bd];exact ACJ hl
theorem Q4(hσ:U[k]? = al (.dictS kvs))(hl:kvs.length<line):PrS (.ref k) (.d (.str w)) (.d dd) U (U.set k (.dictS (BX kvs w dd))):=λr g s X Y Z A hx hy hz=>by refine oEA hx λl hk q_2=>?_;subst q_2;refine oEA hy λt q_1 _=>?_;subst q_1;refine A.has.dictS hk hσ λws hD hr=>wpAny_setItem_pairs (k:=w) (strKind_is _ _ w t) hD (λh' hD' hs=>?_) (P6 hr hl);refine Ep hD' λx es ep hx ho hd hk' hp hn=>A.has.turn (ob:=.dictS (BX kvs w dd)) hk (λb x hb e=>(hs.2 b hb).trans e) hx λR_ kk=>kk es ep _ ho hd hk' hp hn ?_ (AAC (ED _ _ _) hl);have h:=Q9 (f:=id) (key:=λw:Str×Value=>w.1) (d:=dd) (w₀:=(w,Z)) (up:=λp=>(p.1,Z)) (λ_ _ h=>h) (λ_ _ h=>h.1) (k:=w) ⟨rfl,hz⟩ (λp w h e=>⟨h.1,hz⟩) hr;rw[<-OK] at h;exact h
theorem WJ(hσ:U[k]? = al (.dictP kvp))(hl:kvp.length<line):PrS (.ref k) (vp q) (.d dd) U (U.set k (.dictP (BX kvp q dd))):=λr g s X Y Z A hx hy hz=>by refine oEA hx λl hk q_2=>?_;subst q_2;refine IY hy (R_:=λY=>r.wp (setItem (.ref l) Y Z) (λ_ s'=>Has r.T g (U.set k (.dictP (BX kvp q dd))) s') s) λb hb=>A.has.dictP hk hσ λws hD hr=>wpAny_setItem_heap (knd:=tupleKind (Dz r.T.prog r.T.w)) (AAS (AA9 _ 40) A.room) (Fy A.has hb) hD (λh' hD' hs=>?_) (P6 hr hl);refine Ep hD' λx es ep hx ho hd he _ hn=>A.has.turn (ob:=.dictP (BX kvp q dd)) hk (λb x hb e=>(hs.2 b hb).trans e) hx λR_ kk=>kk es ep _ ho hd he hn ?_ (AAC (ED _ _ _) hl);unfold storedH atKey;rw[Option.isSome_map];exact(Q9 (f:=Ii) (key:=λw:List (Str⊕Int)×Addr×Value=>w.1) (d:=dd) (w₀:=(Ii q,b,Z)) (up:=λp=>(p.1,p.2.1,Z)) Oa (λ_ _ h=>h.1) (k:=q) ⟨rfl,hb,hz⟩ (λp w h e=>⟨h.1,h.2.1,hz⟩) hr)
end
section
variable{Q M:Fl->Ac->Prop}{ws vs:List V}{xs:List Nat}
theorem V1(h:∀(T:Top) (g:G),DV T g ob {cls:=.type "dict",data:=.dict #[]}):SE n .dct J U (.ref U.length) (U++[ob]):=λc g s ex hc I=>hc (λex=>c.wp (eval ex c.env) (Ans c.toAr g (.ref U.length) (U++[ob])) s) λp=>wpAny_Dict_empty
 (.mk (g.add s.heap.objs.size) .add ((I.has.free (By _)).add (ob:=ob) (I.has.keep λb o e=>AAK _ e) (AA3 _ rfl) (h _ _)) ⟨_,I.has.addAt,rfl⟩)
theorem SE.dctS:SE n .dct J U (.ref U.length) (U++[.dictS []]):=V1 λT g R_ k=>by refine Ep (Heap.DictOf.new (knd:=strKind T.prog T.w) {}) λo es ep h1 h2 h3 h4 h5 h6=>?_;rw[AA3 _ rfl] at h1;rw[<-AAA h1] at h2 h3;exact k es ep [] h2 h3 h4 h5 h6 trivial (ABF _)
theorem SE.dctP:SE n .dct J U (.ref U.length) (U++[.dictP []]):=V1 λT g R_ k=>k #[] _ [] ⟨rfl,rfl,rfl⟩ rfl rfl ABY trivial (ABF _)
theorem ZE:∀{Xs:List Value},Au T g (us.map wv) Xs->Ay (Ix g) us Xs:=by
 induction us with
 |nil=>intro Xs h;rw[h.nil];exact trivial
 |cons u us ih =>
  intro Xs h;refine Br h.cons λX Xs q_2 h1 h2=>?_;subst q_2;exact⟨by cases u<;>exact h1,ih h2⟩
theorem SE.tupR(h:SEs n a J U (us.map wv) ag)(hl:us.length<=line):SE n (.tup a) J U (.tup us) ag:=λc g s ex hc I=>hc (λex=>c.wp (eval ex c.env) (Ans c.toAr g (.tup us) ag) s) λvs k p hc=>Bt (arm_eval_Tuple ..) (AAD (AA7
 (BW (h c g s vs p hc I) λxs aj ai le ar ao=>wpAny_newTuple (by have F:=ar.free (By _);exact .mk (aj.put ai.heap.objs.size _) (le.trans (.put F.fz)) (F.put (ar.keep λb o e=>AAK _ e) (AA3 _ rfl)) λR_ k=>k _ _ xs.toArray _ G.put_self rfl rfl (List.toList_toArray▸(ZE ao).mono (Ix.mono ((G.le.put (own:=[]) (o:={cls:=.type "tuple",data:=.seq xs.toArray}) F.fz).toup))) hl) (by rw[<-ao.length,<-Bd,AAB];exact hl))))
theorem SE.F(h:SEs n a J U vs ag)(hf:FA n f vs ag v ak):SE n (.F f a) J U v ak:=λc g s ex hc I=>hc (λex=>c.wp (eval ex c.env) (Ans c.toAr g v ak) s) λnm np es p h1 h2=>by refine PyProof.Rows.Call_Name rfl (CF I h1 λx hv=>?_);refine oEA hv λl hl q_2=>?_;subst q_2;refine Bb (I.cx.rd.fnob f l hl) λo fd ho hd=>callWith_function (o:=o) (fd:=fd) (Dm (r:=c.toAr) h2 (AAO (h c g s es p h2 I) (λXs ai p=>p _ λaj le ar ao=>?_) λ_ _ h=>h));have I1:=I.step le ar;exact⟨⟨I1.base _ _ ho,hd⟩,BP (r:=c.toAr) le (hf c.toAr aj ai l Xs hl I1.toAt ao)⟩
theorem Ql(h:∀t l,swapsWith ve t l env=pure false)(h':swappedStores [.Tuple ts k p] ve env=pure az):exec (.Assign [.Tuple ts k p] ve p') env=(standAt p'>>=λ_=>eval ve env>>=λZ=>assign (.Tuple ts k p) env Z>>=λ_=>pure Flow.next):=by rw[arm_exec_Assign];show(standAt p'>>=λ_=>swapsWith ve (al (.Tuple ts k p)) p'.line env>>=_)=_;rw[h];show(standAt p'>>=λ_=>eval ve env>>=λZ=>swappedStores [.Tuple ts k p] ve env>>=_)=_;exact h'▸rfl
theorem SS.unp(hn:3<=n)(hp:CQ e=false)(hs:∀{K:Kx} {ex:Expr},IsE e K ex->∀ts k p env,swappedStores [.Tuple ts k p] ex env=pure az)(h:SE n e J U v ag)(hv:CK v=al vs)(hl:vs.length=xs.length)(hq:Q (.next (Fv J xs vs)) ag):SS n (.unp xs e) J U Q:=λc g s x hc I=>hc (λx=>c.wp (exec x c.env) (BL n c g Q) s) λts k p ve p' h1 h2=>by refine Bt (Ql (λt l=>GU e hp h2 t l c.env) (hs h2 _ _ _ _)) (AAD (AA7 (BJ h h2 I λX aj ai le I1 ao=>?_)));exact CD I1.has ao hv (R_:=λX=>c.wp (assign (.Tuple ts k p) c.env X>>=λ_=>pure Flow.next) (BL n c g Q) ai) λt Xs hT hr _ _=>AAD (I1.unpack h1 hT hr hl hn λan am le2 I2=>AAY λR_ k1 _=>k1 _ ag an hq (le.toO.trans le2) I2)
end
def C8(U:Ac)(kps:List (Nat×List V)):Prop:=∀k ws,(k,ws)∈kps->U[k]? = al (.list ws)
noncomputable def ItS(m:Nat)(T:Top)(b:Bool)(kps:List (Nat×List V))(its:List Addr)(a:Addr):List V->G->Prop
 |[],aq=>(∀c,c∈its->aq.hid c≠az)/\∀(r:Ar) (g:G) (U:Ac) (s:Shared),r.T=T->At m r g U s->G.up aq g->(∀c,c∈its->g.hid c=aq.hid c)->C8 U kps->∀Q:Option Value->Shared->Prop,
  (∀h',(∀c o,c∉its->s.heap.get? c=al o->h'.get? c=al o)->Q az {s with heap:=h'})->r.wp (pyNext (.ref a)) Q s
 |v::vs,aq=>(∀c,c∈its->aq.hid c≠az)/\∀(r:Ar) (g:G) (U:Ac) (s:Shared),r.T=T->At m r g U s->G.up aq g->(∀c,c∈its->g.hid c=aq.hid c)->C8 U kps->∀(t:Expr) (Q:Option Value->Shared->Prop),(b=true->∃es k p,t=.Tuple es k p) ->
  (∀X ai,(∀Q':Unit->Shared->Prop,(∀g' s',G.le its g g'->Has r.T g' U s'->Av r.T g' v X->ItS m T b kps its a vs g'->Q' () s')->r.wp (letOwnedTupleGo t (.ref a) X) Q' ai)->Q (al X) ai)->r.wp (pyNext (.ref a)) Q s
def KE(T:Top)(kps:List (Nat×List V))(l:Addr)(ws:List V)(aq:G):Prop:=∀(g:G) (U:Ac) (s:Shared),Has T g U s->G.up aq g->C8 U kps->∀R_:Prop,(∀xs,s.heap.IsList l xs->Au T g ws xs.toList->R_)->R_
section
variable{g:G}{s:Shared}{vs:List V}{q:Bool}{prog:Program}{w:World}{A:Around}{E:Value->Shared->Prop}
theorem ItS.mono(up:G.up g g')(hd:∀c,c∈its->g'.hid c=g.hid c)(h:ItS m T q kps its it vs g):ItS m T q kps its it vs g':=by
 cases vs with
 |nil=>exact⟨λc hc=>(hd c hc).symm▸h.1 c hc,λr an U s hT A up' hd'=>h.2 r an U s hT A (up.trans up') λc hc=>(hd' c hc).trans (hd c hc)⟩
 |cons v vs=>exact⟨λc hc=>(hd c hc).symm▸h.1 c hc,λr an U s hT A up' hd'=>h.2 r an U s hT A (up.trans up') λc hc=>(hd' c hc).trans (hd c hc)⟩
theorem ItS.at(h:ItS m T q kps its it vs g):∀c,c∈its->g.hid c≠az:=by cases vs with|nil=>exact h.1|cons v vs=>exact h.1
theorem AV(h:g.hid a=al o):g.hid a≠az:=λq=>Ak q h
theorem AT{P:Addr->Prop}(h:P it):∀c,c∈[it]->P c:=λc hc=>AAJ.mp hc▸h
theorem KE.frozen(hf:g.fz l=al o)(hc:o.cls=.type "list")(hd:o.data=.seq xs m)(hr:Au T g ws xs.toList):KE T [] l ws g:=λg' U s H up _ R_ k=>k xs ⟨o,H.fz _ _ (up.fz _ _ hf),hc,m,hd⟩ (Au.mono up hr)
theorem KE.tracked(hk:g.mu[k]? = al l):KE T [(k,ws)] l ws g:=λg' U s H up hq R_ kk=>H.lst (up.mu _ _ hk) (hq k ws (AAJ.mpr rfl)) λxs m ho hr _ _=>kk xs ⟨_,ho,rfl,m,rfl⟩ hr
theorem WU{b c:Bool}{x y:Sem Unit}{Q:Unit->Shared->Prop}(hb:b=false)(h:wpAny (model prog w) A y Q E s):wpAny (model prog w) A (if (b&&c)=true then x else y) Q E s:=by rw[hb,Bool.false_and,if_neg ABB];exact h
theorem JQ(ho:s.heap.get? a=al o)(hc:o.cls=.type n)
 (hn:["enumerate","zip","dict_itemiterator","dict_reverseitemiterator","odict_iterator","itertools.zip_longest","itertools.pairwise"].contains n=false) (h:Q () s) :
 wpAny (model prog w) A (letOwnedTupleGo target (.ref a) v) Q E s:=by
 have key:∀v:Addr,wpAny (model prog w) A (letOwnedTupleGo (.List [] default) (.ref a) (.ref v)) Q E s:=λv=>by
  refine AAD (wpAny_load ho ?_);rw[hc];cases o.data<;>first
   |exact AAY h
   |exact WU hn (AAY h)
 have key2:wpAny (model prog w) A (letOwnedTupleGo (.List [] default) (.ref a) v) Q E s:=by cases v<;>first|exact AAY h|exact key _
 cases target<;>first|exact AAY h|exact key2
theorem M5(A:At m r g U s)(e:g.hid it=al o)(hs:Heap.SameBut it s.heap s'.heap)(ho:s'.heap.get? it=al o')(hc:o'.cls=.type nm)
 (hn:["enumerate","zip","dict_itemiterator","dict_reverseitemiterator","odict_iterator","itertools.zip_longest","itertools.pairwise"].contains nm=false) (hg:s'.gens=s.gens) (hos:s'.os=s.os)
 (k:∀g' s',G.le [it] g g'->G.up g g'->g'.hid it=al o'->Has r.T g' U s'->Q' () s'):r.wp (letOwnedTupleGo t (.ref it) X) Q' s' :=
 JQ ho hc hn (k (g.hide it o') s' (.hide (.head _)) ⟨λ_ _ e=>e,λ_ _ e=>e⟩ G.hide_self (A.has.rehide e (λb x q e=>(hs.2 b q).trans e) ho hg hos))
theorem DP{α:Type}{xs:List α}{x:α}{r:List α}(h:xs.drop i=x::r):xs[i]? = al x/\xs.drop (i+1)=r:=by have h1:=congrArg List.head? h;have h2:=congrArg List.tail h;rw[List.head?_drop] at h1;rw[List.tail_drop] at h2;exact⟨h1,h2⟩
theorem La:entryFor table "proto.unchain" = al Builtin.«proto.unchain»:=entryFor_of_fast (by kernel_rfl)
theorem KS:plainId "proto.unchain" = true:=by decide +kernel
theorem Mo{α:Type}{o:Obj}{vs:Array Value}{Q:α->Shared->Prop}(hH:A.handled=az\/Yx g A.handled)(fz:∀a o,g.fz a=al o->s.heap.get? a=al o)
 (ho:s.heap.get? a=al o) (hd:o.data=.fields vs) (hs:2<vs.size) (hn:g.fz a=az)
 (h:∀h' o',Heap.SameBut a s.heap h'->h'.get? a=al o'->o'.cls=o.cls->E (.ref a) {s with heap:=h'}) :
 wpAny (model prog w) A (raiseNew (.ref a):Sem α) Q E s:=by
 unfold raiseNew;refine AAD (wpAny_handled ?_);rcases hH with hh|⟨b,ob,bs,hh,hb,hbd,hb2⟩
 ·exact hh▸AAD (AAY (wpAny_throw (h s.heap o (Heap.SameBut.refl ..) ho rfl)))
 ·rw[hh];have hne:b≠a:=λq=>by rw[q,hn] at hb;cases hb
  have hne':((Value.ref b) != (Value.ref a))=true:=by simp[hne]
  show wpAny _ _ (if (Value.ref b != Value.ref a)=true then _ else _) _ _ _;rw[if_pos hne'];refine AAD (AA8 (wpAny_runValue (codeAny_builtin La ?_)));rw[Around.under_plainId KS];unfold Builtin.«proto.unchain»;refine AAD (wpAny_field (fz _ _ hb) hbd hb2 ?_);refine AAY (AAD ?_);exact wpAny_setField ho hd hs (wpAny_throw (h _ _ (ACR ..) (ACO _ ho (Obj.isFreed_of_fields (Obj.data_mapFields hd _))) (Obj.cls_mapFields ..)))
theorem KW(hH:A.handled=az\/Yx g A.handled)(fz:∀a o,g.fz a=al o->s.heap.get? a=al o)(hn:g.fz it=az)
 (hit:s.heap.IsListIter it l i) (hl:s.heap.IsList l items) (hx:items[i]? = az)
 (hQ:∀h',Heap.ExtBut it s.heap h'->Q az {s with heap:=h'}):wpAny (model prog w) A (pyNext (.ref it)) Q E s:=by
 refine AS (id hit) λo ho hc hd=>IB hl λol hol _ nl hdl=>?_;unfold pyNext;refine AAD (wpAny_attempt (wpAny_callSpecial?_slot hit.typeIs slot_listiter_next
  (wpAny_call_entry slot_listiter_next hit.typeIs entry_listiter_next ?_ (args_listiter_next _))))
 show wpAny _ _ (field (.ref it) 0>>=_) _ _ s;refine AAD (wpAny_field ho hd (x:=.ref l) rfl ?_);rw[if_neg (show ¬ ((Value.ref l==Value.none)=true) from ABB)];refine AAD (wpAny_field ho hd rfl ?_);refine AAD (wpAny_seqItems hol hdl ?_);simp only[Int.toNat_natCast,hx];refine AAD (wpAny_rule (AAD (wpAny_setField ho hd (by simp) ?_)));refine AAD ?_;simp only[newExc,newTuple];refine AAD (wpAny_newObj_type ?_ (by size_fits));refine AAD (wpAny_of_eq (by first|rfl|(simp only[firstArgMember];rfl)) ?_);refine wpAny_newObj_type ?_ (by size_fits);have hsz:∀(h:Heap) (o:Obj),Heap.SameBut it s.heap h->g.fz (h.push o).objs.size=az:=λh o hs=>by
  cases e:g.fz (h.push o).objs.size with
  |none=>rfl
  |some ob =>
   have:=ACY (fz _ _ e);rw[ADT,hs.1] at this;exact absurd this (AB5.mpr (ADP _))
 refine Mo hH (λb ob e=>AAK _ (AAK _ ?_)) (AA3 _ rfl) rfl (by simp[ownMembersOf]) (hsz _ _ ?_) λh' o' hs' ho' hc'=>?_
 ·exact(ACR ..).extBut b ob (λq=>by rw[q,hn] at e;cases e) (fz _ _ e)
 ·exact ACR ..
 ·refine AAD (wpAny_isInstance ⟨o',ho',hc'⟩ isSubtype_stop ?_);refine AAY (hQ _ λb ob hb e=>?_);have:=ACY e;refine(hs'.2 b ?_).trans (Heap.ExtBut.push (Heap.ExtBut.push (ACR ..).extBut _) _ b ob hb e);simp only[ADT,(ACR ..).1];exact ACX (Nat.lt_succ_of_lt this)
theorem X1(hL:KE T kps l ws g):∀{i:Nat} {aq:G} {o:Obj},ws.drop i=vs->G.up g aq->aq.hid it=al o->o.cls=.type "list_iterator"->o.data=.fields #[.ref l,.int i 0]->ItS m T false kps [it] it vs aq:=by
 induction vs with
 |nil =>
  intro i aq o hv up0 e hc hd;refine⟨AT (AV e),λr g' U s hT A up hh hk Q hQ=>?_⟩;subst hT;have hit:s.heap.IsListIter it l i:=⟨o,(A.has.hd _ _ ((hh it (.head _)).trans e)).ex (Bs hc (by decide)),hc,hd⟩
  refine hL g' U s A.has (up0.trans up) hk _ λxs hl hr=>KW (A.hh.1.imp id (·.2)) A.has.fz (A.has.ah _ _ ((hh it (.head _)).trans e)).1 hit hl ?_ λh' he=>hQ h' λc o hc e=>he c o (λq=>hc (q▸.head _)) e;exact Array.getElem?_eq_none (ABA▸hr.length▸List.drop_eq_nil_iff.mp hv)
 |cons v vs ih =>
  intro i aq o hv up0 e hc hd;refine⟨AT (AV e),λr g' U s hT A up hh hk t Q ht hQ=>?_⟩;subst hT;have e':=(hh it (.head _)).trans e;have hit:s.heap.IsListIter it l i:=⟨o,(A.has.hd _ _ e').ex (Bs hc (by decide)),hc,hd⟩
  refine oA (DP hv) λq1 q2=>hL g' U s A.has (up0.trans up) hk _ λxs hl hr=>oEA (hr.get q1) λX hX rX=>wpAny_pyNext_list_item hit hl (ABJ.symm.trans hX) λh' it' hs=>hQ X _ λQ' k=>?_;refine AS it' λo' ho' hc' hd'=>?_;exact M5 A e' hs ho' hc' (by decide) rfl rfl λan am le up2 e2 H=>k an am le H (Av.mono up2 _ _ rX) (ih q2 (up0.trans (up.trans up2)) e2 hc' hd')
end
noncomputable def upV(lo:Int):Nat->List V
 |0=>[]
 |n+1=>.d (.int lo)::upV (lo+1) n
noncomputable def HC(k:Nat):List PyData->List V
 |[]=>[]
 |x::xs=>.d (.tuple [.int k,x])::HC (k+1) xs
noncomputable def zp(x y:V):V:=match x with|.d a=>(match y with|.d b=>.d (.tuple [a,b])|y=>.pr (.d a) y)|x=>.pr x y
noncomputable def KN:List V->List V->List V
 |x::xs,y::ys=>zp x y::KN xs ys
 |_,_=>[]
noncomputable def G6:List Nat->List V
 |[]=>[]
 |c::r=>.d (.str (O4 c))::G6 r
section
variable{aH:Nat}{T:Top}{g:G}{s:Shared}{v:V}{e a b d:E}{ws:List V}{kps:List (Nat×List V)}{its:List Addr}{it l:Addr}{q:Bool}
theorem Has.away(H:Has T g U s)(hi:∀c,c∈its->g.hid c≠az)(c:Addr)(hc:c∈its):g.fz c=az/\c∉g.mu/\∀q,(c,q)∉T.tabs:=by
 cases e:g.hid c with
 |none=>exact absurd e (hi c hc)
 |some o=>exact⟨(H.ah c o e).1,(H.ah c o e).2,H.hidTab e⟩
theorem Has.rehL(H:Has T g U s)(hi:∀c,c∈its->g.hid c≠az)(k:∀c o,c∉its->s.heap.get? c=al o->s'.heap.get? c=al o)(hg:s'.gens=s.gens:=by rfl)(ho:s'.os=s.os:=by rfl):Has T ⟨g.fz,λc=>if c∈its then s'.heap.get? c else g.hid c,g.mu⟩ U s':=by
 have it:=H.away hi;refine H.re _ (λa o e=>?_) (λb o e e'=>k b o (λq=>Ak (it b q).1 e) e') (λb o e e'=>k b o (λq=>(it b q).2.1 e) e') (λt q o m e=>k t o (λh=>(it t h).2.2 q m) e) hg ho;by_cases q:a∈its
 ·rw[if_pos q] at e;exact⟨.of e,it a q⟩
 ·rw[if_neg q] at e;exact⟨(H.hd a o e).keep λo=>k a o q,(H.ah a o e).1,(H.ah a o e).2,H.hidTab e⟩
theorem ZD(hx:Av T g v x)(hy:Av T g w y)(h:De g.fz "tuple" X (λxs=>xs=[x,y]) 2):Av T g (zp v w) X:=by
 have k:Av T g (.pr v w) X:=De.mono (λ_ _ e=>e) (λvs e=>(Gw x y e hx hy)) h;cases v with
 |d a=>cases w with
  |d b=>exact De.mono (λ_ _ e=>e) (λvs (e:vs=[x,y])=>by rw[e];exact⟨hx,hy,trivial⟩) h
  |_=>exact k
 |_=>exact k
theorem Lu(H:Has T g U s)(hi:∀c,c∈its->g.hid c≠az)(k:∀c o,c∉its->s.heap.get? c=al o->s'.heap.get? c=al o)
 (pr:s'.heap.get? s.heap.objs.size=al {cls:=.type "tuple",data:=.seq #[x,y]}) (hx:Av T g v x) (hy:Av T g w y) (hg:s'.gens=s.gens) (ho:s'.os=s.os) {R_:Prop}
 (kk:∀g',G.le its g g'->G.up g g'->Has T g' U s'->Av T g' (zp v w) (.ref s.heap.objs.size)->(∀c,c∈its->g'.hid c=s'.heap.get? c)->R_):R_:=by
 have F:=H.free (By s.heap);have F1:DA T ⟨g.fz,λc=>if c∈its then s'.heap.get? c else g.hid c,g.mu⟩ s.heap.objs.size:=⟨F.fz,(if_neg (λq=>hi _ q F.hid)).trans F.hid,F.mu,F.tab⟩
 have up:=(G.le.put (own:=[]) (o:={cls:=.type "tuple",data:=.seq #[x,y]}) F1.fz).toup;have up':G.up g (G.put ⟨g.fz,λc=>if c∈its then s'.heap.get? c else g.hid c,g.mu⟩ s.heap.objs.size {cls:=.type "tuple",data:=.seq #[x,y]}):=⟨up.fz,up.mu⟩
 exact kk _ ⟨up',λc hc=>if_neg hc⟩ up' (F1.put (H.rehL hi k hg ho) pr) (ZD (Av.mono up' _ _ hx) (Av.mono up' _ _ hy) λR_ k=>k _ _ #[x,y] _ G.put_self rfl rfl rfl (dc rfl)) λc hc=>if_pos hc
theorem Uw(h3:3<=aH):∀{m:Nat} {lo left:Int} {aq:G},left.toNat=m->aq.hid it=al {cls:=.type "range_iterator",dict:=az,data:=.fields #[rawInt lo,rawInt left,rawInt 1],slots:=#[]}->ItS aH T false kps [it] it (upV lo m) aq:=by
 intro m
 induction m with
 |zero =>
  intro lo left aq hm e;refine⟨AT (AV e),λr g' U s hT A up hh hk Q hQ=>?_⟩;exact wpAny_pyNext_range_end (A.hh.none h3) ((A.has.hd _ _ ((hh it (.head _)).trans e)).ex (Bs rfl (by decide))) (Int.toNat_eq_zero.mp hm) λh' he=>hQ h' λc o hc e=>he c o (λq=>hc (q▸.head _)) e
 |succ m ih =>
  intro lo left aq hm e;refine⟨AT (AV e),λr g' U s hT A up hh hk t Q ht hQ=>?_⟩;have e':=(hh it (.head _)).trans e;exact wpAny_pyNext_range_item ((A.has.hd _ _ e').ex (Bs rfl (by decide))) (Int.pos_iff_toNat_pos.mpr (hm▸AC3 m)) λh' it' hs=>hQ _ _ λQ' k=>M5 A e' hs it' rfl (by decide) rfl rfl λan am le up2 e2 H=>k an am le H ⟨_,rfl⟩ (ih (by rw[Int.pred_toNat,hm];rfl) e2)
theorem cK(h3:3<=aH)(ha:z.cps.all (· < 128)=true):∀{i:Nat} {aq:G} {o:Obj},z.cps.toList.drop i=ch->aq.hid it=al o->o.cls=.type "str_ascii_iterator"->o.data=.fields #[.str z bC,.int i 0]->ItS aH T false kps [it] it (G6 ch) aq:=by
 induction ch with
 |nil =>
  intro i aq o hv e hc hd;refine⟨AT (AV e),λr g' U s hT A up hh hk Q hQ=>?_⟩;refine wpAny_pyNext_ascii_end (A.hh.none h3) ⟨o,(A.has.hd _ _ ((hh it (.head _)).trans e)).ex (Bs hc (by decide)),hc,hd⟩ ?_ λh' he=>hQ h' λc o hc e=>he c o (λq=>hc (q▸.head _)) e;exact Array.getElem?_eq_none (ABA▸List.drop_eq_nil_iff.mp hv)
 |cons k ch ih =>
  intro i aq o hv e hc hd;refine⟨AT (AV e),λr g' U s hT A up hh hk t Q ht hQ=>?_⟩;have e':=(hh it (.head _)).trans e;refine oA (DP hv) λq1 q2=>wpAny_pyNext_ascii_item ⟨o,(A.has.hd _ _ e').ex (Bs hc (by decide)),hc,hd⟩ (ABJ.symm.trans q1) λh' it' hs=>hQ _ _ λQ' kk=>?_;refine AS it' λo' ho' hc' hd'=>?_;exact M5 A e' hs ho' hc' (by decide) rfl rfl λan am le up2 e2 H=>kk an am le H ⟨_,rfl,O3 k⟩ (ih q2 e2 hc' hd')
theorem nhd{α:Type}{a c:α}{l:List α}(h:c∉a::l):c≠a:=λq=>h (q▸.head _)
theorem ntl{α:Type}{a c:α}{l:List α}(h:c∉a::l):c∉l:=λq=>h (.tail _ q)
theorem Ah{α:Type}{P:α->Prop}:∀c,c∈([]:List α)->P c:=λ_ h=>nomatch h
theorem af{α:Type}{P:α->Prop}{a:α}{l:List α}(h:P a)(t:∀c,c∈l->P c):∀c,c∈a::l->P c:=λc q=>(AAR.mp q).elim (λe=>e▸h) (t c)
noncomputable abbrev JL(l:Addr)(i:Nat)(o:Obj):Prop:=o.cls=.type "list_iterator"/\o.data=.fields #[.ref l,.int i 0]
theorem dJ{xs:Array Value}{ds:List PyData}(hr:Au T g (ds.map .d) xs.toList)(h:ds.drop i=[]):xs[i]? = az:=Array.getElem?_eq_none (by rw[<-ABA,<-hr.length,AAB];exact List.drop_eq_nil_iff.mp h)
theorem X0{xs:Array Value}{ds rest:List PyData}{d:PyData}(hr:Au T g (ds.map .d) xs.toList)(h:ds.drop i=d::rest):∃X,xs[i]? = al X/\AG g.fz d X:=by refine oEA (hr.get (by rw[ABI,(DP h).1];rfl)) λX hX rX=>?_;exact iEA X (ABJ.symm.trans hX) rX
theorem Rp{xs:Array Value}{ds:List V}(hr:Au T g ds xs.toList)(h:ds.drop i=[]):xs[i]? = az:=Array.getElem?_eq_none (ABA▸hr.length▸List.drop_eq_nil_iff.mp h)
theorem Oc{xs:Array Value}{ds rest:List V}{d:V}{i:Nat}(hr:Au T g ds xs.toList)(h:ds.drop i=d::rest):∃X,xs[i]? = al X/\Av T g d X:=by exact oEA (hr.get (DP h).1) λX hX rX=>iEA X (ABJ.symm.trans hX) rX
theorem X2{ds rest:List PyData}{ea:Addr}(h3:3<=aH)(hL:KE T kps l (ds.map .d) g):∀{i:Nat} {aq:G} {o:Obj} {old:Value},ds.drop i=rest->G.up g aq->ea≠it->aq.hid ea=al {cls:=.type "enumerate",dict:=az,data:=.fields #[.none,.bool false,.ref it,rawInt i,.none,old],slots:=#[]}->aq.hid it=al o->JL l i o->ItS aH T true kps [ea,it] ea (HC i rest) aq:=by
 induction rest with
 |nil =>
  intro i aq o old hv up0 ne e1 e2 ho;refine⟨af (AV e1) (af (AV e2) Ah),λr g' U s hT A up hh hk Q hQ=>?_⟩;subst hT;exact hL g' U s A.has (up0.trans up) hk _ λxs hl hr=>wpAny_pyNext_enum_end (A.hh.none h3) ((A.has.hd _ _ ((hh ea (.head _)).trans e1)).ex (Bs rfl (by decide))) ⟨o,((A.has.hd _ _ ((hh it (.tail _ (.head _))).trans e2)).ex (Bs ho.1 (by decide))),ho⟩ hl (dJ hr hv) λh' he=>hQ h' λc o hc e=>he c o (nhd (ntl hc)) e
 |cons d rest ih =>
  intro i aq o old hv up0 ne e1 e2 ho;refine⟨af (AV e1) (af (AV e2) Ah),λr g' U s hT A up hh hk t Q ht hQ=>?_⟩;subst hT;have k1:=(hh ea (.head _)).trans e1;have k2:=(hh it (.tail _ (.head _))).trans e2;have f1:=(A.has.hd _ _ k1).ex (Bs rfl (by decide));refine hL g' U s A.has (up0.trans up) hk _ λxs hl hr=>oEA (X0 hr hv) λX hX rX=>wpAny_pyNext_enum_item f1 ⟨o,((A.has.hd _ _ k2).ex (Bs ho.1 (by decide))),ho⟩ hl hX ne λh' heo hit' pr hsz hkp=>hQ _ _ λQ' k=>NE (ht rfl) λes cc p q_3=>?_;subst q_3;refine wpAny_letOwnedTupleGo_enum heo λh'' he'' hs''=>?_;have nz:s.heap.objs.size≠ea:=λq=>by have:=ACY f1;rw[q] at this;exact ABU _ this
  exact oEA hit' λo' ho' hd'=>Lu (s':={s with heap:=h'',toks:=s.toks+1}) (v:=.d (.int i)) (w:=.d d) A.has (af (AV k1) (af (AV k2) Ah)) (λc o hc e=>(hs''.2 c (nhd hc)).trans (hkp c o (nhd hc) (nhd (ntl hc)) e)) ((hs''.2 _ nz).trans pr) ⟨_,rfl⟩ rX rfl rfl λan le up2 H R hd=>k an _ le H R (ih (DP hv).2 (up0.trans (up.trans up2)) ne ((hd ea (.head _)).trans he'') ((hd it (.tail _ (.head _))).trans ((hs''.2 _ (Ne.symm ne)).trans ho')) hd')
theorem cJ{kps':List (Nat×List V)}{ds ds' rest:List V}{za TI TO i1 i2 l1 l2:Addr}(h3:3<=aH)(hL1:KE T kps l1 ds g)(hL2:KE T kps' l2 ds' g)(D:ZipApart za TI TO i1 i2 l1 l2):∀{rest':List V} {j1 j2:Nat} {aq:G} {o1 o2:Obj} {a b:Value},ds.drop j1=rest->ds'.drop j2=rest'->G.up g aq ->
 aq.hid za=al {cls:=.type "zip",dict:=az,data:=.fields #[.none,.bool false,.bool false,.ref TI,.ref TO],slots:=#[]}->aq.hid TI=al {cls:=.type "tuple",data:=.seq #[.ref i1,.ref i2]}->aq.hid TO=al {cls:=.type "tuple",data:=.seq #[a,b]}->aq.hid i1=al o1->JL l1 j1 o1->aq.hid i2=al o2->JL l2 j2 o2 ->
 ItS aH T true (kps++kps') [za,TO,i1,i2,TI] za (KN rest rest') aq:=by
 have fin:∀{rest rest':List V} {j1 j2:Nat} {aq:G} {o1 o2:Obj} {a b:Value},ds.drop j1=rest->ds'.drop j2=rest'->(rest=[]\/rest'=[])->G.up g aq ->
  aq.hid za=al {cls:=.type "zip",dict:=az,data:=.fields #[.none,.bool false,.bool false,.ref TI,.ref TO],slots:=#[]}->aq.hid TI=al {cls:=.type "tuple",data:=.seq #[.ref i1,.ref i2]}->aq.hid TO=al {cls:=.type "tuple",data:=.seq #[a,b]}->aq.hid i1=al o1->JL l1 j1 o1->aq.hid i2=al o2->JL l2 j2 o2 ->
  ItS aH T true (kps++kps') [za,TO,i1,i2,TI] za [] aq:=by
  intro rest rest' j1 j2 aq o1 o2 a b v1 v2 hend up0 e1 e2 e3 e4 q4 e5 q5;refine⟨af (AV e1) (af (AV e3) (af (AV e4) (af (AV e5) (af (AV e2) Ah)))),λr g' U s hT A up hh hk Q hQ=>?_⟩;subst hT;have H:=λc hc o (e:aq.hid c=al o)=>A.has.hd c o ((hh c hc).trans e);refine hL1 g' U s A.has (up0.trans up) (λk ws m=>hk k ws (AAU _ m)) _ λxs hl1 hr1=>hL2 g' U s A.has (up0.trans up) (λk ws m=>hk k ws (AAW _ m)) _ λys hl2 hr2=>wpAny_pyNext_zip_end (A.hh.none h3) D ((H za (.head _) _ e1).ex (Bs rfl (by decide))) ((H TI (.tail _ (.tail _ (.tail _ (.tail _ (.head _))))) _ e2).ex (Bs rfl (by decide))) ((H TO (.tail _ (.head _)) _ e3).ex (Bs rfl (by decide))) ⟨o1,(H i1 (.tail _ (.tail _ (.head _))) _ e4).ex (Bs q4.1 (by decide)),q4⟩ ⟨o2,(H i2 (.tail _ (.tail _ (.tail _ (.head _)))) _ e5).ex (Bs q5.1 (by decide)),q5⟩ hl1 hl2 (hend.imp (λq=>Rp hr1 (v1.trans q)) λq=>Rp hr2 (v2.trans q)) λh' hkp=>hQ h' λc o hc e=>hkp c o (nhd hc) (nhd (ntl hc)) (nhd (ntl (ntl hc))) (nhd (ntl (ntl (ntl hc)))) e
 induction rest with
 |nil=>intro rest' j1 j2 aq o1 o2 a b v1 v2;exact fin v1 v2 (.inl rfl)
 |cons d rest ih =>
  intro rest' j1 j2 aq o1 o2 a b v1 v2 up0 e1 e2 e3 e4 q4 e5 q5;cases rest' with
  |nil=>exact fin v1 v2 (.inr rfl) up0 e1 e2 e3 e4 q4 e5 q5
  |cons d' rest' =>
  refine⟨af (AV e1) (af (AV e3) (af (AV e4) (af (AV e5) (af (AV e2) Ah)))),λr g' U s hT A up hh hk t Q ht hQ=>?_⟩;subst hT;have K:=λc hc o (e:aq.hid c=al o)=>(hh c hc).trans e;have m1:=K za (.head _) _ e1;have m2:=K TO (.tail _ (.head _)) _ e3;have m3:=K i1 (.tail _ (.tail _ (.head _))) _ e4;have m4:=K i2 (.tail _ (.tail _ (.tail _ (.head _)))) _ e5;have m5:=K TI (.tail _ (.tail _ (.tail _ (.tail _ (.head _))))) _ e2;refine hL1 g' U s A.has (up0.trans up) (λk ws m=>hk k ws (AAU _ m)) _ λxs hl1 hr1=>hL2 g' U s A.has (up0.trans up) (λk ws m=>hk k ws (AAW _ m)) _ λys hl2 hr2=>oEA (Oc hr1 v1) λX hX rX=>oEA (Oc hr2 v2) λY hY rY=>wpAny_pyNext_zip_item D ((A.has.hd _ _ m1).ex (Bs rfl (by decide))) ((A.has.hd _ _ m5).ex (Bs rfl (by decide))) ((A.has.hd _ _ m2).ex (Bs rfl (by decide))) ⟨o1,(A.has.hd _ _ m3).ex (Bs q4.1 (by decide)),q4⟩ ⟨o2,(A.has.hd _ _ m4).ex (Bs q5.1 (by decide)),q5⟩ hl1 hl2 hX hY λh' z' TO' t1' t2' pr hsz hkp=>hQ _ _ λQ' k=>NE (ht rfl) λes cc p q_3=>?_;subst q_3;refine wpAny_letOwnedTupleGo_zip z' λh'' z'' hs''=>?_;have nz:s.heap.objs.size≠za:=λq=>by have:=ACY ((A.has.hd _ _ m1).ex (Bs rfl (by decide)));rw[q] at this;exact ABU _ this
  have kp:=λc o q1 q2 q3 q4 e=>(hs''.2 c q1).trans (hkp c o q1 q2 q3 q4 e);exact oEA t1' λp1 w1 w2=>oEA t2' λp2 w3 w4=>Lu (s':={s with heap:=h''}) A.has (af (AV m1) (af (AV m2) (af (AV m3) (af (AV m4) (af (AV m5) Ah))))) (λc o hc e=>kp c o (nhd hc) (nhd (ntl hc)) (nhd (ntl (ntl hc))) (nhd (ntl (ntl (ntl hc)))) e) ((hs''.2 _ nz).trans pr) rX rY rfl rfl λan le up2 H R hd=>k an _ le H R (ih (DP v1).2 (DP v2).2 (up0.trans (up.trans up2)) ((hd za (.head _)).trans z'') ((hd TI (.tail _ (.tail _ (.tail _ (.tail _ (.head _)))))).trans (kp TI _ D.TIz D.TITO D.TIi1 D.TIi2 ((A.has.hd _ _ m5).ex (Bs rfl (by decide))))) ((hd TO (.tail _ (.head _))).trans ((hs''.2 _ D.TOz).trans TO')) ((hd i1 (.tail _ (.tail _ (.head _)))).trans ((hs''.2 _ D.i1z).trans w1)) w2 ((hd i2 (.tail _ (.tail _ (.tail _ (.head _))))).trans ((hs''.2 _ D.i2z).trans w3)) w4)
end
def kQ(its:List Addr)(a:Addr)(aq:G):Prop:=∀(r:Ar) (g:G) (U:Ac) (s:Shared),Has r.T g U s->(∀c,c∈its->g.hid c=aq.hid c)->∀Q:Value->Shared->Prop,Q (.ref a) s->r.wp (pyIter (.ref a)) Q s
def OR(m:Nat)(T:Top)(b:Bool)(kps:List (Nat×List V))(vs:List V)(g:G)(U':Ac)(x:Value)(s':Shared):Prop :=
 ∀R_:Value->Prop,(∀its a g',G.le its g g'->Has T g' U' s'->(∀c,c∈its->g.hid c=az)->ItS m T b kps its a vs g'->kQ its a g'->R_ (.ref a))->R_ x
def SI(n:Nat)(e:E)(J:Am)(U:Ac)(vs:List V)(kps:List (Nat×List V))(U':Ac):Prop :=
 ∀(c:Cx) (g:G) (s:Shared) (ex:Expr),IsE e c.K ex->Inv n c J g U s->c.wp (eval ex c.env) (λx ai=>c.wp (pyIter x) (OR n c.T (BO e) kps vs g U') ai) s
noncomputable def Fi(v:V)(ws:List V):List (Nat×List V):=match v with|.ref k=>[(k,ws)]|_=>[]
section
variable{r:Ar}{g:G}{s s':Shared}{ws vs:List V}{its:List Addr}{q:Bool}
theorem Has.newL(H:Has T g U s)(hn:∀c,c∈its->s.heap.get? c=az)(k:∀c o,s.heap.get? c=al o->s'.heap.get? c=al o)(hg:s'.gens=s.gens:=by rfl)(ho:s'.os=s.os:=by rfl):Has T ⟨g.fz,λc=>if c∈its then s'.heap.get? c else g.hid c,g.mu⟩ U s':=by
 refine H.re _ (λa o e=>?_) (λb o _ e'=>k b o e') (λb o _ e'=>k b o e') (λt q o _ e=>k t o e) hg ho;by_cases q:a∈its
 ·have F:=H.free (hn a q);rw[if_pos q] at e;exact⟨.of e,F.fz,F.mu,F.tab⟩
 ·rw[if_neg q] at e;exact⟨(H.hd a o e).keep (k a),(H.ah a o e).1,(H.ah a o e).2,H.hidTab e⟩
theorem OR.new(le:G.le [] g aj)(H:Has T aj U s)(hn:∀c,c∈its->s.heap.get? c=az)(k:∀c o,s.heap.get? c=al o->s'.heap.get? c=al o)(hg:s'.gens=s.gens)(ho:s'.os=s.os)(h:∀g',G.up aj g'->(∀c,c∈its->g'.hid c=s'.heap.get? c)->ItS aH T q kps its it vs g'/\kQ its it g'):OR aH T q kps vs g U (.ref it) s':=λR_ kk=>by
 have up:G.up aj ⟨aj.fz,λc=>if c∈its then s'.heap.get? c else aj.hid c,aj.mu⟩:=⟨λ_ _ e=>e,λ_ _ e=>e⟩
 have h:=h _ up λc hc=>if_pos hc;exact kk its it _ ⟨le.toup.trans up,λc hc=>(if_neg hc).trans (le.hid c AA1)⟩ (H.newL hn k hg ho) (λc hc=>(le.hid c AA1)▸(H.free (hn c hc)).hid) h.1 h.2
theorem Hm(H:Has T g U s)(rx:Av T g v X)(e:AE U v=al ws){R_:Value->Prop}(k:∀l xs,s.heap.IsList l xs->KE T (Fi v ws) l ws g->R_ (.ref l)):R_ X:=by
 cases v with
 |d y=>cases y with
  |list ds =>
   obtain rfl:=AAA e;exact rx R_ λa o vs m hf hc hd hr hl=>k a vs ⟨o,H.fz _ _ hf,hc,m,hd⟩ (.frozen hf hc hd (Au.ofD hr))
  |_=>exact Aa e
 |ref j =>
  refine oEA rx λl hk q_2=>?_;subst q_2;exact Be (v:=.ref j) H ⟨l,hk,rfl⟩ e (R_:=λX=>X=.ref l->R_ X) (λa xs hL hr _ _ q=>k a xs hL (ABR q▸(KE.tracked (T:=T) (ws:=ws) hk))) rfl
 |_=>exact Aa e
theorem Su(le:G.le [] g aj)(H:Has r.T aj U s)(hL:s.heap.IsList l xs)(L:KE r.T kps l ws aj):r.wp (pyIter (.ref l)) (OR aH r.T false kps ws g U) s :=
 wpAny_pyIter_list hL (.new le H (AT (By _)) (λc o e=>AAK _ e) rfl rfl λg' up hd =>
  have e:=(hd _ (.head _)).trans (AA3 _ rfl)
  ⟨X1 L rfl up e rfl rfl,λr' an U' am aD hh Q hQ=>wpAny_pyIter_listiter ⟨_,(aD.hd _ _ ((hh _ (.head _)).trans e)).ex (Bs rfl (by decide)),rfl,rfl⟩ hQ⟩)
theorem SI.lst(h:SE n e J U v ag)(hv:AE ag v=al ws)(hz:BO e=false:=by rfl):SI n e J U ws (Fi v ws) ag:=λc g s ex hc I=>by exact hz▸AAO (h c g s ex hc I) (λX ai p=>p _ λaj le ar ao=>Hm ar ao hv (R_:=λX=>c.wp (pyIter X) (OR n c.T false (Fi v ws) ws g ag) ai) λl xs hL L=>Su le ar hL L) λ_ _ h=>h
theorem SI.str(hn:3<=n)(h:SE n e J U (.d (.str z)) ag)(ha:z.cps.all (· < 128)=true)(hz:BO e=false:=by rfl):SI n e J U (G6 z.cps.toList) [] ag:=λc g s ex hc I=>by
 rw[hz];refine AAO (h c g s ex hc I) (λX ai p=>p _ λaj le ar ao=>?_) λ_ _ h=>h;refine oEA ao λt q_1 _=>?_;subst q_1;exact wpAny_pyIter_ascii ha (.new le ar (AT (By _)) (λc o e=>AAK _ e) rfl rfl λg' up hd =>
  have e:=(hd _ (.head _)).trans (AA3 _ rfl)
  ⟨cK hn ha rfl e rfl rfl,λr' an U' am aD hh Q hQ=>wpAny_pyIter_striter_ascii ⟨_,(aD.hd _ _ ((hh _ (.head _)).trans e)).ex (Bs rfl (by decide)),rfl,rfl⟩ hQ⟩)
theorem K1(h:SEs n a J U ws ag)(hc:GM (c.K.to (.ty t)) (Go a c.K) ex)(I:Inv n c J g U s)(hx:∀aj ai Xs,G.le [] g aj->Inv n c J aj ag ai->Au c.T aj ws Xs->c.wp (call (.type t) Xs) Q ai):c.wp (eval ex c.env) Q s:=by refine hc (λex=>c.wp (eval ex c.env) Q s) λnm np vs p h1 h2=>PyProof.Rows.Call_Name rfl (CF I h1 λx hv=>?_);obtain rfl:x=.type t:=hv;exact PyProof.Rows.callWith_type (CR _ _ h2) (Dm h2 (AAO (h c g s vs p h2 I) (λXs ai p=>p _ λaj le ar ao=>hx aj ai Xs le (I.step le ar) ao) λ_ _ h=>h))
theorem Ps(h1:n<=1000000)(h2:-1000000<=n):Builtin.Range.small 0 n 1=true/\(Builtin.Range.rangeSize 0 n 1).toNat=n.toNat:=by
 refine⟨small_one (by decide) (by decide) (Int.le_trans (by decide) h2) (Int.lt_of_le_of_lt h1 (by decide)),?_⟩;rw[rangeSize_one];by_cases q:(0:Int)<n
 ·rw[if_pos q,Int.sub_zero]
 ·exact(if_neg q)▸(Int.toNat_eq_zero.mpr (Int.not_lt.mp q))▸rfl
theorem SI.range(hn:3<=n)(h:SEs n a J U [.d (.int k)] ag)(h1:k<=1000000)(h2:-1000000<=k):SI n (.range a) J U (upV 0 k.toNat) [] ag:=λc g s ex hc I=>by refine K1 h hc I λaj ai Xs le I1 R=>mO R.one λX q_1 t q_3=>?_;subst q_1;subst q_3;refine oA (Ps h1 h2) λe1 e2=>call_range_1 (wpAny_pyIter_range (AA3 _ rfl) e1 (.new le (I1.has.keep λb o e=>AAK _ e) (AT (By _)) (λc o e=>AAK _ e) rfl rfl λg' up hd=>?_));have e:=(hd _ (.head _)).trans (AA3 _ rfl);exact⟨Uw hn e2 e,λr' an U' am aD hh Q hQ=>wpAny_pyIter_rangeiter ((aD.hd _ _ ((hh _ (.head _)).trans e)).ex (Bs rfl (by decide))) hQ⟩
theorem SI.enum(hn:3<=n)(h:SE n a J U v ag)(hv:AE ag v=al (ds.map .d)):SI n (.enum a) J U (HC 0 ds) (Fi v (ds.map .d)) ag:=λc g s ex hc I=>by refine K1 (.cons h .nil) hc I λaj ai Xs le I1 R=>oEA R.one λX q_1 ao=>?_;subst q_1;refine Hm I1.has ao hv (R_:=λX=>c.wp (call (.type "enumerate") [X]) (λx ai=>c.wp (pyIter x) (OR n c.T true (Fi v (ds.map .d)) (HC 0 ds) g ag) ai) ai) λl xs hL L=>call_enumerate_list hL λh' he hi hz hk=>wpAny_pyIter_enum he (.new le I1.has (af (ABO (AA9 _ 1)) (AT (By _))) hk rfl rfl λg' up hd=>?_);refine oEA hi λo ho hl=>?_;have e:=(hd _ (.head _)).trans he;exact⟨X2 hn L rfl up (Nat.succ_ne_self _) e ((hd _ (.tail _ (.head _))).trans ho) hl,λr' an U' am aD hh Q hQ=>wpAny_pyIter_enum ((aD.hd _ _ ((hh _ (.head _)).trans e)).ex (Bs rfl (by decide))) hQ⟩
theorem Qb{m i j:Nat}(h:i≠j):m+i≠m+j:=λq=>h (Nat.add_left_cancel q)
theorem Mx{h:Heap}(hL:h.IsList l xs)(j:Nat):l≠h.objs.size+j:=λq=>by refine oEA hL λo ho _=>?_;rw[q,ABO (AA9 _ j)] at ho;exact Aa ho
theorem SI.zip(hn:3<=n)(h:SE n a J U x ag)(h':SE n b J ag y ak)(hx:AE ak x=al ds)(hy:AE ak y=al ds'):SI n (.zip a b) J U (KN ds ds') (Fi x ds++Fi y ds') ak:=λc g s ex hc I=>by
 refine K1 (.cons h (.cons h' .nil)) hc I λaj ai Xs le I1 R=>Br R.two λX Y q_2 ao ay=>?_;subst q_2;refine Hm I1.has ao hx (R_:=λX=>c.wp (call (.type "zip") [X,Y]) (λx ai=>c.wp (pyIter x) (OR n c.T true _ (KN ds ds') g ak) ai) ai) λl xs hL L=>Hm I1.has ay hy (R_:=λY=>c.wp (call (.type "zip") [.ref l,Y]) (λx ai=>c.wp (pyIter x) (OR n c.T true _ (KN ds ds') g ak) ai) ai) λl' ys hL' L'=>call_zip_2 hL hL' λh' hz hTI hTO t1 t2 hsz hk=>?_;have gone:∀j,ai.heap.get? (ai.heap.objs.size+j)=az:=λj=>ABO (AA9 _ _);refine wpAny_pyIter_zip hz (.new le I1.has (af (gone 4) (af (gone 3) (af (gone 0) (af (gone 1) (AT (gone 2)))))) hk rfl rfl λg' up hd=>?_);have D:ZipApart (ai.heap.objs.size+4) (ai.heap.objs.size+2) (ai.heap.objs.size+3) (ai.heap.objs.size) (ai.heap.objs.size+1) l l':=by
  constructor<;>first
   |exact Mx hL _|exact Mx hL 0|exact Mx hL' _|exact Mx hL' 0|exact Qb (by decide)|exact Qb (j:=0) (by decide)|exact Qb (i:=0) (by decide)
 refine oEA t1 λo1 ho1 hl1=>oEA t2 λo2 ho2 hl2=>?_;have e:=(hd _ (.head _)).trans hz;exact⟨cJ hn L L' D (j1:=0) (j2:=0) rfl rfl up e ((hd _ (.tail _ (.tail _ (.tail _ (.tail _ (.head _)))))).trans hTI) ((hd _ (.tail _ (.head _))).trans hTO) ((hd _ (.tail _ (.tail _ (.head _)))).trans ho1) hl1 ((hd _ (.tail _ (.tail _ (.tail _ (.head _))))).trans ho2) hl2,λr' an U' am aD hh Q hQ=>wpAny_pyIter_zip ((aD.hd _ _ ((hh _ (.head _)).trans e)).ex (Bs rfl (by decide))) hQ⟩
end
noncomputable def CA(J:Am)(ts:List Nat)(v:V):Am:=match ts with|[i]=>J.set i (al v)|ts=>Fv J ts ((CK v).getD [])
def FI(ts:List Nat)(v:V):Prop:=ts.length=1\/∃vs,CK v=al vs/\vs.length=ts.length
def LN(n:Nat)(ts:List Nat)(v:V):Prop:=ts.length=1\/(3<=n/\∃vs,CK v=al vs/\vs.length=ts.length)
theorem FI.at(h:FI ts v)(hn:3<=n):LN n ts v:=h.imp id λq=>⟨hn,q⟩
noncomputable def Ta(n:Nat)(ts:List Nat)(b:S)(kps:List (Nat×List V))(Q:Fl->Ac->Prop):List V->Am->Ac->Prop
 |[],J,U=>C8 U kps/\Q (.next J) U
 |v::vs,J,U=>C8 U kps/\LN n ts v/\SSs n b (CA J ts v) U λfl U'=>match fl with|.next J'=>Ta n ts b kps Q vs J' U'|.ret v=>Q (.ret v) U'
section
variable{c:Cx}{ws vs:List V}{kps:List (Nat×List V)}{its:List Addr}{ts:List Nat}{Q:Fl->Ac->Prop}
theorem Loc.far(x0:Loc c bu aq)(hn:∀a,a∈its->aq.hid a=az)(x:Loc c J g)(le:G.le its g g'):Loc c J g':=by
 have h:∀{a o},aq.hid a=al o->g'.hid a=g.hid a:=λe=>le.hid _ λq=>Ak (hn _ q) e;refine⟨λR_ k=>x0.ns R_ λaH h0 _=>x.ns R_ λm h1 h2=>?_,λnm hk R_ k=>x0.ce nm hk R_ λa₀ u0 q0 q1 _=>x.ce nm hk R_ λa u h1 h2 h3=>?_,λa ha q=>?_⟩
 ·exact Cy h0 λo _ _ e _=>k m (h1.to λ_ e'=>(h e).trans e') λi nm v e1 e2 e3=>CN le.toup (h2 i nm v e1 e2 e3)
 ·refine oEA q1 λo e _=>?_;obtain rfl:=As q0 h1;exact k a₀ u h1 (h2.to λ_ e'=>(h e).trans e') λi v e1 e2=>CN le.toup (h3 i v e1 e2)
 ·cases e:aq.hid a with
  |none=>exact x0.ow a ha e
  |some o=>exact x.ow a ha ((h e).symm.trans q)
theorem Cv.far(f0:Cv aq fe)(hn:∀a,a∈its->aq.hid a=az)(x:Cv g fe)(le:G.le its g g'):Cv g' fe:=λe he=>by refine Hh (f0 e he) λ_ bb aS _ _ h1 h2 _=>Hh (x e he) λh0 L o es ep h3 h4 h5=>?_;obtain rfl:=As h1 h3;exact JW h0 bb o es ep h3 ((le.hid bb λq=>Ak (hn bb q) h2).trans h4) h5
theorem Cv.hideN(x:Cv g fe)(h:g.hid a=az):Cv (g.hide a o) fe:=λe he=>by exact Hh (x e he) λh0 L o' es ep h1 h2 h3=>JW h0 L o' es ep h1 ((G.hide_ne λq=>Ak h (q▸h2)).trans h2) h3
theorem Inv.far(f0:Cv aq c.fe)(x0:Loc c bu aq)(hn:∀a,a∈its->aq.hid a=az)(x:Inv n c J g U s)(le:G.le its g g')(H:Has c.T g' U' s'):Inv n c J g' U' s':=⟨x.toAt.stepF le.toup (f0.far hn x.frs le) H,x.cx,x0.far hn x.loc le⟩
theorem Inv.bind{t:Expr}{Q:Unit->Shared->Prop}{Er:Value->Shared->Prop}(I:Inv n c J g U s)(hc:IsT c.K ts t)(hb:LN n ts v)(r:Av c.T g v X)(h:∀g' s',G.le c.own g g'->Inv n c (CA J ts v) g' U s'->Q () s'):wpAny (model c.T.prog c.T.w) c.A (assign t c.env X) Q Er s:=by
 refine hc (λts t=>LN n ts v->(∀g' s',G.le c.own g g'->Inv n c (CA J ts v) g' U s'->Q () s')->wpAny (model c.T.prog c.T.w) c.A (assign t c.env X) Q Er s) (λi nm p h1 _ h=>I.asgn h1 r λg' s' le _ I'=>h g' s' le I') (λes k p h1 h2 hb h=>?_) hb h;refine WS (hb.resolve_left h1) λhn vs e hl=>?_;have eb:CA J ts v=Fv J ts vs:=by
  match ts,h1 with
  |[],_=>rfl
  |[_],q=>exact absurd rfl q
  |i::j::l,_=>show Fv J (i::j::l) ((CK v).getD [])=_;rw[e];rfl
 rw[eb] at h;exact CD I.has r e (R_:=λX=>wpAny (model c.T.prog c.T.w) c.A (assign (.Tuple es k p) c.env X) Q Er s) λt Xs hT hr _ _=>I.unpack h2 hT hr hl hn h
theorem P8(hc:IsT c.K ts t)(hz:I9 ts it=true)(h:BO it=true):∃es k p,t=.Tuple es k p :=
 hc (λts t=>I9 ts it=true->∃es k p,t=.Tuple es k p) (λi nm p _ hz=>by unfold I9 at hz;rw[if_pos h] at hz;exact absurd hz ABB) (λes k p _ _ _=>(FH es k p rfl)) hz
theorem SS.L(hi:SI n it J U vs kps ag)(h:Ta n ts st kps Q vs J ag):SS n (.L ts it st) J U Q:=λc g s x hc I=>hc (λx=>c.wp (exec x c.env) (BL n c g Q) s) λt i bd p h1 h2 h3=>by
 refine wpAny_For (AAO (hi c g s i h2 I) (λX ai h₁=>AAO h₁ (λitv am p=>?_) λ_ _ h=>h) λ_ _ h=>h) ((Ck it h2).fold c.env);refine p (λitv=>codeAny (model c.T.prog c.T.w) c.A (.forLoop t itv bd [] c.env) _ am) λits a an le2 aD new it2 _=>?_;have ni:∀a,a∈its->a∉c.own:=λa q q'=>I.loc.ow a q' (new a q);have toI:∀{g g'},G.le its g g'->G.le (its++c.own) g g':=λle=>⟨le.toup,λa q=>le.hid a λh=>q (AAU _ h)⟩
 have toO:∀{g g'},G.le c.own g g'->G.le (its++c.own) g g':=λle=>⟨le.toup,λa q=>le.hid a λh=>q (AAW _ h)⟩
 have mono:∀{vs g g'},G.le c.own g g'->ItS n c.T (BO it) kps its a vs g->ItS n c.T (BO it) kps its a vs g':=λle h=>h.mono le.toup λc hc=>le.hid c (ni c hc);refine codeAny_forLoop_any (I:=λk s'=>∀R_:Prop,(∀vs J U g',k=vs.length->Ta n ts st kps Q vs J U->G.le (its++c.own) g g'->Inv n c J g' U s'->ItS n c.T (BO it) kps its a vs g'->R_)->R_) (λk aB hz=>hz _ λvs aX au aE hk w aA I3 it3=>?_) vs.length
  λR_ kk=>kk vs J ag an rfl h (toI le2) (I.far I.frs I.loc new le2 aD) it2
 subst hk;cases vs with
 |nil =>
  refine AAO (it3.2 c.toAr aE au aB rfl I3.toAt (.refl _) (λ_ _=>rfl) w.1 (λr ai=>r=az/\BL n c g Q .next ai) λh' hk=>⟨rfl,?_⟩) (λr ai h=>by rw[h.1];exact wpAny_execs_nil h.2) λ_ _ h=>h.elim;exact AS (I3.has.back (s':={aB with heap:=h'}) aA new hk (I3.has.away it3.1)) λhd H le e=>λR_ k1 _=>k1 aX au _ w.2 le (I3.far I.frs I.loc new ⟨⟨λ_ _ e=>e,λ_ _ e=>e⟩,e⟩ H)
 |cons v vs =>
  refine AAO (it3.2 c.toAr aE au aB rfl I3.toAt (.refl _) (λ_ _=>rfl) w.1 t (λr ai=>∃X,r=al X/\∀Q':Unit->Shared->Prop,(∀g' s',G.le its aE g'->Has c.T g' au s'->Av c.T g' v X->ItS n c.T (BO it) kps its a vs g'->Q' () s')->c.wp (letOwnedTupleGo t (.ref a) X) Q' ai) (P8 h1.1 h1.2) λX ai k=>(iEA X rfl k)) (λr ai h=>?_) λ_ _ h=>h.elim;obtain⟨X,rfl,h⟩:=h;refine AAO (h _ λaT aK le4 aF r4 it4=>?_) (λ_ _ h=>h) λ_ _ h=>h.elim;refine(I3.far I.frs I.loc new le4 aF).bind h1.1 w.2.1 r4 λg5 s5 le5 I5=>?_;have le':=aA.trans ((toI le4).trans (toO le5));refine AAO (w.2.2 c g5 s5 bd h3 I5) (λf aQ p=>p.elim (λJ6 U6 g6 aR q l6 I6=>?_) λv x U6 g6 aR q l6 H w r6=>?_) λ_ _ h=>h.elim
  ·subst aR;exact iEA vs.length (ADR _) (λR_ kk=>kk vs J6 U6 g6 rfl q (le'.trans (toO l6)) I6 (mono (le5.trans l6) it4))
  ·subst aR;exact AS (H.back (s':=aQ) (le'.trans (toO l6)) new (λ_ _ _ e=>e) (H.away (mono (le5.trans l6) it4).at)) λhd H' le e=>λR_ _ k2=>k2 v x U6 _ q le H' (λa ha q=>w a ha ((e a λq=>ni a q ha).symm.trans q)) (Av.eta r6)
end
noncomputable def Ez(env:Env):List (Str×NameKind)->List (Str×Addr)->List (Str×Addr)
 |[],acc=>acc
 |p::r,acc=>Ez env r (if (p.2==.free)=true then(p.1,(env.cells.lookup p.1).getD 0)::acc else acc)
noncomputable def Bm:Am->List Nat->Am
 |J,[]=>J
 |J,i::ts=>Bm (J.set i az) ts
section
variable{α β:Type}[BEq α][LawfulBEq α]
theorem Bo{l:List (α×β)}(h:l.lookup a=al b):(a,b)∈l:=by
 induction l with
 |nil=>exact Aa h
 |cons p r ih =>
  obtain⟨x,y⟩:=p;rw[ADC] at h;cases q:a==x with
  |true=>rw[q] at h;rw[ABM q,<-AAA h];exact .head _
  |false=>rw[q] at h;exact .tail _ (ih h)
theorem F8{l:List (α×β)}(h:(a,b)∈l):∃b',l.lookup a=al b':=by
 induction l with
 |nil=>exact nomatch h
 |cons p r ih =>
  obtain⟨x,y⟩:=p;rw[ADC];cases q:a==x with
  |true=>exact⟨y,rfl⟩
  |false=>exact(AAR.mp h).elim (λe=>by rw[ABK e |>.1,beq_self_eq_true] at q;exact tt_ q) ih
end
theorem PA{k:NameKind}(h:(k==.free)=true):k=.free:=ABM h
theorem HG:∀{names:List (Str×NameKind)} {acc:List (Str×Addr)},(n,c)∈Ez env names acc->(n,c)∈acc\/((n,NameKind.free)∈names/\c=(env.cells.lookup n).getD 0)
 |[],acc,h=>.inl h
 |(m,k)::r,acc,h=>by
  rcases HG (names:=r) h with h|h
  ·by_cases hk:(k==NameKind.free)=true
   ·rw[if_pos hk] at h;exact(AAR.mp h).elim (λh=>.inr ⟨by rw[PA hk,(ABK h).1];exact .head _,by rw[(ABK h).1];exact(ABK h).2⟩) .inl
   ·rw[if_neg hk] at h;exact .inl h
  ·exact .inr ⟨.tail _ h.1,h.2⟩
theorem O2:∀{names:List (Str×NameKind)} {acc:List (Str×Addr)},p∈acc->p∈Ez env names acc
 |[],_,h=>h
 |(m,k)::r,acc,h=>O2 (names:=r) (by
  by_cases hk:(k==NameKind.free)=true
  ·exact(if_pos hk)▸.tail _ h
  ·rw[if_neg hk];exact h)
theorem O1:∀{names:List (Str×NameKind)} {acc:List (Str×Addr)},(n,NameKind.free)∈names->(n,(env.cells.lookup n).getD 0)∈Ez env names acc
 |[],_,h=>nomatch h
 |(m,k)::r,acc,h=>(AAR.mp h).elim (λh=>O2 (names:=r) (((ABK h).2)▸((ABK h).1)▸.head _)) (O1 (names:=r))
theorem Rx(h:(n,NameKind.free)∈names)(e:env.cells.lookup n=al c):(Ez env names []).lookup n=al c:=by
 refine oE (F8 (O1 (env:=env) (acc:=[]) h)) λc' h'=>?_;rcases HG (Bo h') with q|q
 ·exact nomatch q
 ·rw[h',q.2,e];rfl
theorem Gx(scope:Scope)(h:∀n,(n,NameKind.free)∈scope.names->∃c,env.cells.lookup n=al c):closureFor scope env=pure (Ez env scope.names []):=by
 have gen:∀(names:List (Str×NameKind)) (acc:List (Str×Addr)),(∀n,(n,NameKind.free)∈names->∃c,env.cells.lookup n=al c) ->
  (forIn names acc (λx r=>if (x.2==NameKind.free)=true then(cellOf env x.1>>=λc=>pure (ForInStep.yield ((x.1,c)::r))) else pure (ForInStep.yield r)):Sem (List (Str×Addr)))=pure (Ez env names acc):=by
  intro names
  induction names with
  |nil=>intro acc _;rfl
  |cons p r ih =>
   intro acc hh;rw[List.forIn_cons];by_cases hk:(p.2==NameKind.free)=true
   ·refine oE (hh p.1 (PA hk▸.head _)) λc hc=>?_;have e:cellOf env p.1=pure c:=by unfold cellOf;rw[hc]
    rw[if_pos hk,e,pure_bind,pure_bind];refine(ih _ λn hn=>hh n (.tail _ hn)).trans ?_;show _=pure (Ez env r (if (p.2==NameKind.free)=true then _ else _));exact(if_pos hk)▸hc▸rfl
   ·rw[if_neg hk,pure_bind];refine(ih _ λn hn=>hh n (.tail _ hn)).trans ?_;show _=pure (Ez env r (if (p.2==NameKind.free)=true then _ else _));rw[if_neg hk]
 unfold closureFor;rw[bind_pure];exact(gen scope.names [] h)
theorem Ef:∀{ts:List Nat} {J:Am} {i:Nat} {v:V},(Bm J ts)[i]? = al (al v)->i∉ts/\J[i]? = al (al v)
 |[],J,i,v,h=>⟨AA1,h⟩
 |j::ts,J,i,v,h=>by
  refine oA (Ef (ts:=ts) h) λh1 h2=>?_;by_cases q:j=i
  ·rw[q] at h2;by_cases hl:i<J.length
   ·rw[AB1 hl] at h2;exact Aa (AAA h2)
   ·rw[List.getElem?_eq_none (by rw[AB0];exact ACM hl)] at h2;exact Aa h2
  ·rw[ADN q] at h2;exact⟨λm=>(AAR.mp m).elim (λe=>q e.symm) h1,h2⟩
theorem HW:∀{ts:List Nat} {vs:List V} {J:Am} {i:Nat},i∉ts->(Fv J ts vs)[i]? = J[i]?
 |[],vs,J,i,h=>by cases vs<;>rfl
 |j::ts,[],J,i,h=>rfl
 |j::ts,w::vs,J,i,h=>(HW (ts:=ts) λq=>h (.tail _ q)).trans (ADN λ(q:j=i)=>h (q▸.head _))
theorem SQ{ts:List Nat}{v u:V}{i:Nat}(h:(Bm J ts)[i]? = al (al u)):(CA (Bm J ts) ts v)[i]? = al (al u):=by
 have q:=(Ef h).1;refine Eq.trans ?_ h
 match ts,q with
 |[],_=>exact HW AA1
 |[j],q=>exact ADN λ(e:j=i)=>q (e▸.head _)
 |j::k::l,q=>exact HW q
structure IT(K:Kx)(ts:List Nat)(sc:Scope):Prop where
 kind:sc.kind=.function
 nm:∀p,p∈sc.names->Pz K ts p=true
 uni:∀p,p∈sc.names->sc.names.lookup p.1=al p.2
 dot:(".0" : Str)∉K.vars
 tgt:∀i,i∈ts->∃m,K.vars[i]? = al m/\sc.names.lookup m=al .local
section
variable{K:Kx}{sc:Scope}
theorem Po(h:IX K ts sc=true):IT K ts sc:=by
 have h1:=AAH.mp h;have h2:=AAH.mp h1.1;have h3:=AAH.mp h2.1;have h4:=AAH.mp h3.1;refine⟨AAG h4.1,ACL.mp h4.2,λp hp=>AAG (ACL.mp h3.2 p hp),λq=>?_,λi hi=>?_⟩
 ·have:=h2.2;rw[List.contains_iff_mem.mpr q] at this;exact ff_ this
 ·have:=ACL.mp h1.2 i hi;cases e:K.vars[i]? with
  |none=>rw[e] at this;exact ff_ this
  |some m=>rw[e] at this;exact iEA m rfl (AAG this)
theorem Id{R_:Prop}(h:Pz K ts p=true)(k1:p.2=.local->(p.1=(".0" : Str)\/∃i,i∈ts/\K.vars[i]? = al p.1)->R_)(k2:p.2=.free->(K.names.lookup p.1=al .cell\/K.names.lookup p.1=al .free)->R_)(k3:p.2=.globalImplicit->R_):R_:=by
 rcases ABC.mp h with h|h
 ·have h1:=AAH.mp h;refine k1 (AAG h1.1) ((ABC.mp h1.2).imp ABM λq=>?_);exact oEA (ADV.mp q) λi hi e=>iEA i hi (AAG e)
 ·rcases ABC.mp h with h|h
  ·have h1:=AAH.mp h;exact k2 (AAG h1.1) ((ABC.mp h1.2).imp Kx.kd_eq Kx.kd_eq)
  ·exact k3 (AAG h)
theorem BK{R_:Prop}{a b:NameKind}(h:a=b)(e:decide (a=b)=false):R_:=by rw[AAI h] at e;exact tt_ e
theorem IT.noc(S:IT K ts sc):∀p,p∈sc.names->p.2≠.cell:=λp hp q=>Id (S.nm p hp) (λe _=>BK (q.symm.trans e) rfl) (λe _=>BK (q.symm.trans e) rfl) λe=>BK (q.symm.trans e) rfl
theorem IT.fre(S:IT K ts sc)(h:(x,NameKind.free)∈sc.names):K.names.lookup x=al .cell\/K.names.lookup x=al .free:=Id (S.nm _ h) (λe _=>BK e rfl) (λ_ q=>q) λe=>BK e rfl
theorem HZ{E:List (Str×NameKind)}(h:(DG E names).lookup x=al k):(x,k)∈names\/((x,NameKind.free)∈names/\k=.cell):=by
 refine oEA (AAP.mp (Bo h)) λq_0 hp e=>?_;obtain⟨m,k'⟩:=q_0;have e:(if (k'==.free&&E.lookup m==al .cell)=true then(m,NameKind.cell) else(m,k'))=(x,k):=e;by_cases q:(k'==.free&&E.lookup m==al .cell)=true
 ·rw[if_pos q] at e;rw[(PA (AAH.mp q).1),(ABK e).1] at hp;exact .inr ⟨hp,(ABK e).2.symm⟩
 ·rw[if_neg q] at e;rw[e] at hp;exact .inl hp
theorem IT.loc(S:IT K ts sc)(h:(DG K.names sc.names).lookup x=al .local):x=(".0" : Str)\/∃i,i∈ts/\K.vars[i]? = al x:=by
 rcases HZ h with h|h
 ·exact Id (S.nm _ h) (λ_ q=>q) (λe _=>BK e rfl) λe=>BK e rfl
 ·exact BK h.2 rfl
theorem IT.out(S:IT K ts sc)(h:(DG K.names sc.names).lookup x=al .cell\/(DG K.names sc.names).lookup x=al .free):(x,NameKind.free)∈sc.names:=by
 rcases h with h|h
 ·rcases HZ h with h|h
  ·exact absurd rfl (S.noc _ h)
  ·exact h.1
 ·rcases HZ h with h|h
  ·exact h
  ·exact h.1
theorem Gs{env:Env}(hk:env.scope.kind=.function)(hn:env.scope.names=K.names):(relabel sc env).names=DG K.names sc.names:=AC8 λp _=>by obtain⟨m,k⟩:=p;show(if (k==.free&&env.scope.kind==.function&&env.kindOf m==al .cell)=true then(m,NameKind.cell) else(m,k))=(if (k==.free&&K.names.lookup m==al .cell)=true then(m,NameKind.cell) else(m,k));rw[hk,AN hn,show(ScopeKind.function==ScopeKind.function)=true from rfl,Bool.and_true]
end
noncomputable abbrev Nv(c:Cx)(ts:List Nat)(sc:Scope)(C:Addr):Cx:=⟨c.toAr,c.K.sub ts sc,compEnvC sc (Ez c.env sc.names []) C c.env,[C]⟩
theorem Jm(X:IV n c):(Nv c ts sc C).env.kindOf x=(DG c.K.names sc.names).lookup x:=AN (K:=c.K.sub ts sc) (Gs X.kind X.names) x
theorem Jn(S:IT c.K ts sc)(X:IV n c)(L:Loc c J g)(h:(x,NameKind.free)∈sc.names){R_:Prop}(k:∀a u,c.env.cells.lookup x=al a->(Nv c ts sc C).env.cells.lookup x=al a->Gz g.hid a u->(∀(i:Nat) (v:V),c.K.vars[i]? = al x->J[i]? = al (al v)->∃x,u=al x/\Av c.T g v x)->R_):R_ :=
 L.ce x (by rw[AN X.names];exact S.fre h) R_ λa u h1 h2 h3=>k a u h1 (Rx h h1) h2 h3
theorem ZU(S:IT c.K ts sc)(X:IV n c)(L:Loc c J g):IV n (Nv c ts sc C):=by
 have look:∀m a,(Nv c ts sc C).env.cells.lookup m=al a->c.env.cells.lookup m=al a:=λm a h=>by
  rcases HG (Bo h) with q|q
  ·exact nomatch q
  ·exact Jn (C:=C) S X L q.1 λa' u h1 h2 _ _=>h1.trans (h2.symm.trans h)
 refine⟨X.rd,Gs X.kind X.names,S.kind,X.glob,X.blt,X.hfr,λm m' a h h'=>X.cinj m m' a (look m a h) (look m' a h'),X.nd,.head _,λm hm a hk _=>?_,λt q h=>Aa h⟩;refine oEA (List.mem_filterMap.mp (show m∈ts.filterMap λi=>c.K.vars[i]? from hm)) λi hi e=>?_;refine oEA (S.tgt i hi) λm' e' hl=>?_;rw[As e' e] at hl;rw[Jm X] at hk;exact BK (As (S.uni _ (S.out (.inl hk))) hl) rfl
theorem W8(S:IT c.K ts sc)(X:IV n c)(L:Loc c J g)(hC:g.hid C=az)(hn:NsF (g.hide C o).hid C λ_=>az):Loc (Nv c ts sc C) (Bm J ts) (g.hide C o):=by
 have up:G.up g (g.hide C o):=⟨λ_ _ e=>e,λ_ _ e=>e⟩
 refine⟨λR_ k=>k _ hn λi nm v e1 e2 e3=>?_,λnm hk R_ k=>?_,AT (AV G.hide_self)⟩
 ·rw[Jm X] at e3;rcases S.loc e3 with q|⟨j,hj,q⟩
  ·exact absurd (q▸AA5 e1) S.dot
  ·exact absurd (Ic X.nd q e1▸hj) (Ef e2).1
 ·rw[Jm X] at hk;refine Jn (C:=C) S X L (S.out hk) λa u h1 h2 h3 h4=>k a u h2 (h3.to λo' e=>(G.hide_ne λq=>Ak hC (q▸e)).trans e) λi v e1 e2=>CN up (h4 i v e1 (Ef e2).2)
noncomputable abbrev EA(ifs:List Expr)(env:Env)(b:Bool):Sem Bool :=
 forIn ifs b λc r=>if r=true then(isTrue c env (eval c env)>>=λok=>pure (ForInStep.yield ok)) else pure (ForInStep.yield r)
def kN(c:Cx)(target elt:Expr)(ifs:List Expr)(it acc:Value)(Dn:Shared->Prop)(v:Value)(s:Shared):Prop :=
 c.wp (letOwnedTupleGo target it v) (λ_ ai=>c.wp (assign target c.env v) (λ_ am=>c.wp (EA ifs c.env true) (λok aB=>(ok=false->Dn aB)/\(ok=true->c.wp (eval elt c.env) (λx aK=>c.wp (call (.builtin "list.append") [acc,x]) (λ_ s5=>Dn s5) aK) aB)) am) ai) s
theorem MS(I:Nat->Shared->Prop)
 (turn:∀n s,I n s->∀Q:Option Value->Shared->Prop,(∀ai,R (.ok .next) ai->Q az ai)->(∀v ai,kN c target elt ifs it acc (λs'=>∃m,m<n/\I m s') v ai->Q (al v) ai)->c.wp (pyNext it) Q s)
 (n:Nat) (h:I n s):codeAny (model c.T.prog c.T.w) c.A (.compLoop (.ListComp elt [⟨target,iter,ifs,0⟩] scope pos) 0 it acc c.env) R s:=by
 refine codeAny_loop rfl I (λn s hI=>?_) n h;refine wpAny_noted ?_;rw[compTurn_list];refine AAD (AA7 (AAD (AAO (turn n s hI _ ?_ ?_) (λr ai h=>h) λ_ _ h'=>h'.elim)))
 ·exactλai h=>AAY h
 intro v ai h;refine AAD (AAO h (λ_ s1' bv=>?_) λ_ _ h'=>h'.elim);refine AAD (AAO bv (λ_ am bc=>AAD (AAO bc (λok aB aO=>?_) λ_ _ h'=>h'.elim)) λ_ _ h'=>h'.elim);cases ok with
 |false=>exact AAY ⟨rfl,aO.1 rfl⟩
 |true=>exact AAD (AAD (AAO (aO.2 rfl) (λx aK aY=>AAD (AAO aY (λ_ s5 bl=>AAY (AAY ⟨rfl,bl⟩)) λ_ _ h'=>h'.elim)) λ_ _ h'=>h'.elim))
def SIf(n:Nat)(e:E)(J:Am)(U:Ac)(b:Bool)(U':Ac):Prop :=
 ∀(c:Cx) (g:G) (s:Shared) (xs:List Expr),Go e c.K xs->Inv n c J g U s->c.wp (EA xs c.env true) (λx s'=>CS c.T [] g U' (λ_=>x=b) s') s
noncomputable def E9(n:Nat)(elt:E)(ts:List Nat)(ifs:E)(kps:List (Nat×List V))(J:Am)(U':Ac):List V->Ac->List V->Prop
 |[],U,ws=>C8 U kps/\ws=[]/\U'=U
 |v::vs,U,ws=>C8 U kps/\LN n ts v/\∃t ag,SIf n ifs (CA (Bm J ts) ts v) U t ag/\(t=false->E9 n elt ts ifs kps J U' vs ag ws)/\(t=true->∃u us ak,SE n elt (CA (Bm J ts) ts v) ag u ak/\ws=u::us/\E9 n elt ts ifs kps J U' vs ak us)
noncomputable abbrev Ei(xs:Array Value)(m:Nat):Obj:={cls:=.type "list",dict:=az,data:=.seq xs m,slots:=#[]}
theorem Gq(env:Env):∀ifs:List Expr,EA ifs env false=pure false
 |[]=>rfl
 |c::r=>by show(forIn (c::r) false _:Sem Bool)=_;rw[List.forIn_cons,if_neg ABB,pure_bind];exact Gq env r
theorem SIf.nil:SIf n .nil J U true U:=λc g s xs hc I=>by obtain rfl:xs=[]:=hc;exact AAY (.refl I.has rfl)
theorem UL:EA (x::l) env true=(isTrue x env (eval x env)>>=λok=>EA l env ok):=by show(forIn (x::l) true _:Sem Bool)=_;rw[List.forIn_cons,if_pos rfl,bind_assoc];exact bind_congr λok=>pure_bind _ _
theorem SIf.cons(h:ST n a J U true ag)(h':SIf n r J ag q ak):SIf n (.cons a r) J U q ak:=λc g s xs hc I=>hc (λxs=>c.wp (EA xs c.env true) (λx s'=>CS c.T [] g ak (λ_=>x=q) s') s) λx l h1 h2=>Bt UL
 (BW (h c g s x h1 I) λok aj ai le ar e=>by subst e;exact BP le (h' c aj ai l h2 (I.step le ar)))
theorem SIf.no(h:ST n a J U false ag):SIf n (.cons a r) J U false ag:=λc g s xs hc I=>hc (λxs=>c.wp (EA xs c.env true) (λx s'=>CS c.T [] g ag (λ_=>x=false) s') s) λx l h1 h2=>Bt UL
 (BW (h c g s x h1 I) λok aj ai le ar e=>by subst e;exact Bt (Gq _ _) (AAY (.mk aj le ar rfl)))
theorem Loc.less(L:Loc c J g)(h:∀(i:Nat) (v:V),J'[i]? = al (al v)->J[i]? = al (al v)):Loc c J' g:=⟨λR_ k=>L.ns R_ λm h1 h2=>k m h1 λi nm v e1 e2 e3=>h2 i nm v e1 (h i v e2) e3,λnm hk R_ k=>L.ce nm hk R_ λa u h1 h2 h3=>k a u h1 h2 λi v e1 e2=>h3 i v e1 (h i v e2),L.ow⟩
theorem PV(f0:Cv aq c.fe)(x0:Loc c (Bm J ts) aq)(hn:∀b,b∈D::its->aq.hid b=az)(hD:D∉its)(h4:IsT c.K ts t)(h5:IsE elt c.K x)(h6:Go ifs c.K cs)(ht:q=true->∃es k p,t=.Tuple es k p)(hl:ws.length<=line)
 (fin:∀g' s' xs m h',G.le ((D::its)++c.own) g g'->Inv n c (Bm J ts) g' U' s'->ItS n c.T q kps its it [] g'->g'.hid D=al (Ei xs m)->Au c.T g' ws xs.toList->(∀b o,b∉its->s'.heap.get? b=al o->h'.get? b=al o)->R (.ok .next) {s' with heap:=h'})
 (hr:E9 n elt ts ifs kps J U' vs U ws) (I:Inv n c (Bm J ts) g U s) (hi:ItS n c.T q kps its it vs g) (hDo:g.hid D=al (Ei #[] aH)):codeAny (model c.T.prog c.T.w) c.A (.compLoop (.ListComp x [⟨t,i,cs,0⟩] sc pos) 0 (.ref it) (.ref D) c.env) R s:=by
 have no:=λb h h'=>x0.ow b h' (hn b h);have toO:∀{g g'},G.le c.own g g'->G.le ((D::its)++c.own) g g':=λle=>⟨le.toup,λa q=>le.hid a λh=>q (AAW _ h)⟩
 have toA:∀{g g'},G.le (D::its) g g'->G.le ((D::its)++c.own) g g':=λle=>⟨le.toup,λa q=>le.hid a λh=>q (AAU _ h)⟩
 have toI:∀{g g'},G.le its g g'->G.le (D::its) g g':=λle=>⟨le.toup,λa q=>le.hid a λh=>q (.tail _ h)⟩
 refine MS (I:=λk s=>∀R_:Prop,(∀vs U g' ys zs xs m,k=vs.length->E9 n elt ts ifs kps J U' vs U zs->ws=ys++zs->G.le ((D::its)++c.own) g g'->Inv n c (Bm J ts) g' U s->ItS n c.T q kps its it vs g'->g'.hid D=al (Ei xs m)->Au c.T g' ys xs.toList->R_)->R_) (λk aB hz=>hz _ λvs au aE ys zs xs m hk w hw aA I3 be bn r3 Q kn ks=>?_) vs.length
  λR_ kk=>kk vs U g [] ws #[] aH rfl hr rfl (.refl _ _) I hi hDo trivial
 subst hk;cases vs with
 |nil =>
  refine oAA w λw1 q_1 q_2=>?_;subst q_1;subst q_2;rw[AAV] at hw;exact be.2 c.toAr aE _ aB rfl I3.toAt (.refl _) (λ_ _=>rfl) w1 Q λh' hk=>kn _ (fin aE aB xs m h' aA I3 be bn (hw▸r3) hk)
 |cons v vs =>
  refine WT w λw1 w2 bD U6 w3 w4 w5=>be.2 c.toAr aE au aB rfl I3.toAt (.refl _) (λ_ _=>rfl) w1 t Q ht λX ai k=>ks X ai (k _ λaT aK le4 aF r4 bw=>?_);refine(I3.far f0 x0 hn (toI le4) aF).bind h4 w2 r4 λg5 s5 le5 I5=>AAO (w3 c g5 s5 cs h6 I5) (λok aQ p=>p _ λg6 le6 bx aR=>?_) λ_ _ h=>h;have I6:=I5.step le6 bx;have l56:=le5.trans le6.toO;have d6:=(l56.hid D (no D (.head _))).trans ((le4.hid D hD).trans bn);have i6:=bw.mono l56.toup λb hb=>l56.hid b (no b (.tail _ hb));have L6:=aA.trans ((toA (toI le4)).trans (toO l56));have r6:=Au.mono (le4.toup.trans l56.toup) r3;have less:∀(i:Nat) (u:V),(Bm J ts)[i]? = al (al u)->(CA (Bm J ts) ts v)[i]? = al (al u):=λi u=>SQ;subst aR;refine⟨λq=>(iEA vs.length (ADR _) (λR_ kk=>kk vs U6 g6 ys zs xs m rfl (w4 q) hw L6 ⟨I6.toAt,I6.cx,I6.loc.less less⟩ i6 d6 r6)),λq=>?_⟩;refine CY (w5 q) λu us U7 w6 q_4 w7=>?_;subst q_4;refine AAO (w6 c g6 aQ x h5 I6) (λY s7 p=>p _ λg7 le7 bg r7=>?_) λ_ _ h=>h;have d7:=(le7.hid D AA1).trans d6;have r8:=Au.mono le7.toup r6;have hz:xs.size<=sizeLine:=by rw[<-Bd,<-ABA,<-r8.length];rw[hw,AAF] at hl;exact AAC (AA9 _ _) hl
  refine wpAny_list_append_plain ⟨m,(bg.hd _ _ d7).ex (Bs rfl (by decide))⟩ (λh' hp hs=>?_) hz;refine oE hp λm' hp=>?_;have le8:G.le (D::its) g7 (g7.hide D (Ei (xs.push Y) m')):=.hide (.head _);have I8:=(I6.step le7 bg).far f0 x0 hn le8 (bg.rehide (s':={s7 with heap:=h'}) d7 (λb x q e=>(hs.2 b q).trans e) hp);refine(iEA vs.length (ADR _) (λR_ kk=>kk vs U7 _ (ys++[u]) us (xs.push Y) m' rfl w7 (by rw[ABQ];exact hw) (L6.trans (le7.toO.trans (toA le8))) ⟨I8.toAt,I8.cx,I8.loc.less less⟩ ((i6.mono le7.toup λb _=>le7.hid b AA1).mono le8.toup λb hb=>G.hide_ne λq=>hD (q▸hb)) G.hide_self ?_));rw[Array.toList_push];exact(Au.mono le8.toup r8).append ⟨Av.mono le8.toup _ _ r7,trivial⟩
section
variable{c:Cx}{q:Bool}
theorem NsF.heap(H:Has T g U s)(h:NsF g.hid C m):s.heap.Ns C m:=H.ns h
theorem Oy(hI:SI n it J U vs kps ag)(hr:E9 n elt ts ifs kps J U' vs ag ws)(hl:ws.length<=line)
 (h1:IsE it c.K i) (hs:IX c.K ts sc=true) (hz:I9 ts it=true) (h4:IsT (c.K.sub ts sc) ts t) (h5:IsE elt (c.K.sub ts sc) x) (h6:Go ifs (c.K.sub ts sc) cs) (I:Inv n c J g U s)
 (fin:∀an am D C m,G.le [C] g an->g.hid C=az->NsF an.hid C m->Cj c.toAr an U' ws (.ref D) am->compPost (model c.T.prog c.T.w) c.A (λ_ _=>False) use Q (.ref D) C (.ok .next) am) :
 c.wp (comprehension (.ListComp x [⟨t,i,cs,0⟩] sc pos) sc c.env P (newList []) false (eval i c.env) use) Q s:=by
 have S:=Po hs;refine wpAny_comprehension_free rfl ((Ck it h1).fold c.env) (Gx sc λm hm=>Jn (C:=0) S I.cx I.loc hm λa _ e _ _ _=>⟨a,e⟩) S.kind (λp hp hl=>by rw[S.uni p hp,hl]) (AAO (hI c g s i h1 I) (λX ai h₁=>AAO h₁ (λitv am p=>?_) λ_ _ h=>h) λ_ _ h=>h);refine p (λitv=>c.wp (newList []) (λacc aB=>c.wp (newFunctionEnv sc c.env.globals (Ez c.env sc.names []) [] c.env.qual az .none (al c.env)) (λcenv aK=>codeAny (model c.T.prog c.T.w) c.A (.compStart (.ListComp x [⟨t,i,cs,0⟩] sc pos) 0 itv acc {cenv with scope:=relabel sc c.env}) (compPost (model c.T.prog c.T.w) c.A (λ_ _=>False) use Q acc cenv.locals) aK) aB) am) λits a an le2 aD new bp self=>wpAny_newList ?_ (ABF _);refine wpAny_newFunctionEnv S.noc Ah (λh₁ hns hsb=>?_) S.kind;have hC:am.heap.objs.size≠(am.heap.push (Ei #[] 0)).objs.size:=λq=>by rw[ADT] at q;exact Nat.succ_ne_self _ q.symm
 have hC0:am.heap.get? (am.heap.push (Ei #[] 0)).objs.size=az:=ABO (by rw[ADT];exact ADP _);have hD0:am.heap.get? am.heap.objs.size=az:=By _;have hD1:=(hsb.2 _ hC).trans (AAK _ (AA3 _ rfl));have old:∀b o,am.heap.get? b=al o->h₁.get? b=al o:=λb o e=>(hsb.2 b λq=>by rw[q] at e;exact Ak hC0 e).trans (AAK _ (AAK _ e));have ne:∀{b},b∈its->∀{d},am.heap.get? d=az->b≠d:=λ{b} hb {d} hd q=>by
  cases e:an.hid b with
  |none=>exact bp.at b hb e
  |some o=>refine oEA (aD.hd b o e) λ_ e' _=>?_;exact Ak (q▸hd) e'
 generalize(am.heap.push (Ei #[] 0)).objs.size=C at *;generalize am.heap.objs.size=D at *;refine Cy hns λoC es ep hCo hCn=>?_;have FC:=aD.free hC0;have FD:=aD.free hD0;have nD:∀{b},b∈its->b≠D:=λhb=>ne hb hD0;have nC:∀{b},b∈its->b≠C:=λhb=>ne hb hC0;have hD:=λq=>nD q rfl;have hgC:=(le2.hid C λq=>nC q rfl).symm.trans FC.hid;have hgD:=(le2.hid D hD).symm.trans FD.hid;have aF:=(FC.hide (aD.keep (s':={am with heap:=h₁,toks:=am.toks+([]:List (Str×Value)).length}) old) hCo).hide FD.fz FD.mu FD.tab (λ_ _ _ e=>e) hD1;have x0:=W8 S I.cx I.loc hgC ⟨oC,es,ep,G.hide_self,hCn⟩;have hn:∀b,b∈D::its->(g.hide C oC).hid b=az:=af ((G.hide_ne hC).trans hgD) λb hb=>(G.hide_ne (nC hb)).trans (new b hb);have l0:G.le (D::its) (g.hide C oC) ((an.hide C oC).hide D (Ei #[] 0)):=⟨⟨le2.fz,le2.mu⟩,λb hb=>(G.hide_ne (nhd hb)).trans (congrArg (λz=>if b=C then al oC else z) (le2.hid b (ntl hb)))⟩
 have lg:G.le ((D::its)++[C]) g ((an.hide C oC).hide D (Ei #[] 0)):=⟨⟨le2.fz,le2.mu⟩,λb hb=>(G.hide_ne λ(q:b=D)=>hb (AAU _ (q▸.head _))).trans ((G.hide_ne λ(q:b=C)=>hb (AAW _ (q▸.head _))).trans (le2.hid b λq=>hb (AAU _ (.tail _ q))))⟩
 have f0:Cv (g.hide C oC) c.fe:=I.frs.hideN hgC;have I4:Inv n (Nv c ts sc C) (Bm J ts) _ ag _:=⟨I.toAt.stepF lg.toup (f0.far hn f0 l0) aF,ZU S I.cx I.loc,x0.far hn x0 l0⟩
 have hd:∀b,b∈its->((an.hide C oC).hide D (Ei #[] 0)).hid b=an.hid b:=λb hb=>(G.hide_ne (nD hb)).trans (G.hide_ne (nC hb));have loop:codeAny (model c.T.prog c.T.w) c.A (.compLoop (.ListComp x [⟨t,i,cs,0⟩] sc pos) 0 (.ref a) (.ref D) (Nv c ts sc C).env) (compPost (model c.T.prog c.T.w) c.A (λ_ _=>False) use Q (.ref D) C) {am with heap:=h₁,toks:=am.toks+([]:List (Str×Value)).length}:=by
  refine PV f0 x0 hn hD h4 h5 h6 (P8 (c:=Nv c ts sc C) h4 hz) hl (λg' s' xs m h' le I5 i5 d5 r5 hk=>?_) hr I4 (ItS.mono (g:=an) ⟨λ_ _ e=>e,λ_ _ e=>e⟩ hd bp) G.hide_self;have aw:=I5.has.away (af (AV d5) i5.at);refine AS (I5.has.back (s':={s' with heap:=h'}) (lg.trans le) (af hgD new) (λb o hb e=>hk b o (ntl hb) e) aw) λhd' H' le' e'=>?_;have F:DA c.T ⟨g'.fz,hd',g'.mu⟩ D:=⟨(aw D (.head _)).1,(le'.hid D λq=>hC (AAJ.mp q)).trans hgD,(aw D (.head _)).2.1,(aw D (.head _)).2.2⟩
  exact I5.loc.ns _ λm' h1 _=>fin ⟨g'.fz,hd',g'.mu⟩ _ D C m' le' hgC (h1.to λo e=>(e' C λq=>(AAR.mp q).elim (λq=>hC q.symm) λq=>nC q rfl).trans e) λR_ kk=>kk _ D xs m (.refl _ _) H' F (hk D _ hD ((I5.has.hd _ _ d5).ex (Bs rfl (by decide)))) (Au.eta r5) hl
 exact codeAny_compStart_list loop (AAO (self c.toAr _ _ _ aF hd _ loop) (λ_ _ h=>h) λ_ _ h=>h.elim)
theorem SL.D(hI:SI n it J U vs kps ag)(hr:E9 n elt ts ifs kps J U' vs ag ws)(hl:ws.length<=line):SL n (.D elt ts it ifs) J U ws U':=λc g s ex hc I=>hc (λex=>c.wp (eval ex c.env) (Cj c.toAr g U' ws) s) λx t i cs sc p h1 h2 h4 h5 h6=>Bt (eval_ListComp ..)
 (Oy hI hr hl h1 h2.1 h2.2 h4 h5 h6 I λan am D C m le hC hns hN=>hN (λX=>compPost (model c.T.prog c.T.w) c.A (λ_ _=>False) az (Cj c.toAr g U' ws) X C (.ok .next) am) λaE a xs m' aA aN F ho hr hl=>by have hn:=hns.to λo e=>(aA.hid C AA1).trans e;refine⟨m,hn.heap aN,λh' hs R_ k=>?_⟩;refine Cy hn λo _ _ e _=>AS (aN.back (s':={am with heap:=h'}) (le.trans aA.toO) (AT hC) (λb o hb e=>(hs.2 b (nhd hb)).trans e) (aN.away (AT (AV e)))) λhd H' le' e'=>?_;have ne:a≠C:=λq=>Ak F.hid (q▸e);exact k _ a xs m' le' H' ⟨F.fz,(e' a λq=>ne (AAJ.mp q)).trans F.hid,F.mu,F.tab⟩ ((hs.2 a ne).trans ho) (Au.eta hr) hl)
theorem PW{p vp:Pos}{sc:Scope}(X:IV n c)(h:(decide (c.K.names.lookup nm=al .local)&&(decide (p.line=vp.line)&&!(sc.names.any λq=>q.1==nm&&(q.2==.local||q.2==.cell))))=true):swapsWith (.ListComp x [⟨t,i,cs,0⟩] sc vp) (al (.Name nm p)) l c.env=pure true:=by have h1:=AAH.mp h;have h2:=AAH.mp h1.2;show(pure (c.env.blockKind==.function&&c.env.kindOf nm==al .local&&p.line==vp.line&&!(sc.names.any λq=>q.1==nm&&(q.2==.local||q.2==.cell))):Sem Bool)=_;rw[show(c.env.blockKind==.function)=true by unfold Env.blockKind;rw[X.kind];rfl,AN X.names,AAG h1.1,AAG h2.1,h2.2,beq_self_eq_true,beq_self_eq_true];rfl
theorem SK{nm:Str}{p vp:Pos}{x t i:Expr}{cs:List Expr}{sc:Scope}{l:Nat}(X:IV n c)(h:c.K.names.lookup nm=al .cell):swapsWith (.ListComp x [⟨t,i,cs,0⟩] sc vp) (al (.Name nm p)) l c.env=pure false:=by show(pure (c.env.blockKind==.function&&c.env.kindOf nm==al .local&&p.line==vp.line&&!(sc.names.any λq=>q.1==nm&&(q.2==.local||q.2==.cell))):Sem Bool)=_;rw[AN X.names,h,show(al NameKind.cell==al NameKind.local)=false from rfl,ADD];rfl
theorem V5{p vp p':Pos}{x t i:Expr}{cs:List Expr}{sc:Scope}{env:Env}(h:∀l,swapsWith (.ListComp x [⟨t,i,cs,0⟩] sc vp) (al (.Name nm p)) l env=pure true):exec (.Assign [.Name nm p] (.ListComp x [⟨t,i,cs,0⟩] sc vp) p') env =
 (standAt p'>>=λ_=>(comprehension (.ListComp x [⟨t,i,cs,0⟩] sc vp) sc env (firstIterPos [⟨t,i,cs,0⟩] vp) (newList []) false (eval i env) (al λv=>assign (.Name nm p) env v)>>=λ_=>pure ())>>=λ_=>pure Flow.next):=by
 rw[arm_exec_Assign];show(standAt p'>>=λ_=>swapsWith (.ListComp x [⟨t,i,cs,0⟩] sc vp) (al (.Name nm p)) p'.line env>>=_)=_;rw[h];have hall:∀v,assignAll v [assign (.Name nm p) env]=assign (.Name nm p) env v:=λv=>by first|rfl|(unfold assignAll;rfl)
 exact(funext hall)▸rfl
theorem SS.asgC(hI:SI n it J U vs kps ag)(hr:E9 n elt ts ifs kps J U' vs ag ws)(hl:ws.length<=line)(hv:∀{r:Ar} {g X s},Cj r g U' ws X s->Ans r g v ak X s)(hq:Q (.next (J.set k (al v))) ak):SS n (.A k (.D elt ts it ifs)) J U Q:=λc g s st hc I=>hc (λst=>c.wp (exec st c.env) (BL n c g Q) s) λnm p ex p' h1 h2 h3=>by
 refine h2 (λex=>Tm c.K nm p ex=true->c.wp (exec (.Assign [.Name nm p] ex p') c.env) (BL n c g Q) s) (λx t i cs sc vp k1 k2 k4 k5 k6 h3=>?_) h3;rcases ABC.mp (show(_||_)=true from h3) with h3|h3
 rotate_left
 ·rw[arm_exec_Assign];refine AAD (AA7 ?_);show c.wp (swapsWith (.ListComp x [⟨t,i,cs,0⟩] sc vp) (al (.Name nm p)) p'.line c.env>>=_) _ _;rw[SK I.cx (AAG h3),pure_bind,if_neg ABB];have hc2:IsE (.D elt ts it ifs) c.K (.ListComp x [⟨t,i,cs,0⟩] sc vp):=λR_ kk=>kk x t i cs sc vp k1 k2 k4 k5 k6;have hE:SE n (.D elt ts it ifs) J U v ak:=λc g s ex hc I=>AAO (SL.D hI hr hl c g s ex hc I) (λ_ _ p=>hv p) λ_ _ h=>h;refine BJ hE hc2 I λX aj ai le I1 ao=>?_;rw[show swappedStores [.Name nm p] (.ListComp x [⟨t,i,cs,0⟩] sc vp) c.env=pure az by unfold swappedStores;rfl,pure_bind];unfold assignStores;show c.wp (assignAll X [assign (.Name nm p) c.env]>>=λ_=>pure Flow.next) _ _;exact(show assignAll X [assign (.Name nm p) c.env]=assign (.Name nm p) c.env X by first|rfl|(unfold assignAll;rfl))▸AAD (I1.asgn h1 ao λan am le2 _ I2=>AAY λR_ k1 _=>k1 _ ak an hq (le.toO.trans le2) I2)
 refine Bt (V5 λl=>PW I.cx h3) (AAD (AA7 (AAD (AAD (Oy hI hr hl k1 k2.1 k2.2 k4 k5 k6 I λan am D C m le hC hns hN=>?_)))));refine hv hN _ λaE aA aN r3=>?_;have bh:=le.trans aA.toO;refine(I.far I.frs I.loc (AT hC) bh aN).asgn h1 r3 λaT aK le4 _ I4=>?_;have hn:=hns.to λo e=>(le4.hid C (λq=>I.loc.ow C q hC)).trans ((aA.hid C AA1).trans e);refine(iEA m (hn.heap I4.has) (λh' hs=>AAY (AAY λR_ k1 _=>?_)));exact Cy hn λo _ _ e _=>AS (I4.has.back (s':={aK with heap:=h'}) ⟨bh.toup.trans le4.toup,λb hb=>(le4.hid b λq=>hb (.tail _ q)).trans (bh.hid b λq=>hb (AAJ.mp q▸.head _))⟩ (AT hC) (λb o hb e=>(hs.2 b (nhd hb)).trans e) (I4.has.away (AT (AV e)))) λhd H' le' e'=>k1 _ ak _ hq le' (I4.far I.frs I.loc (AT hC) ⟨⟨λ_ _ e=>e,λ_ _ e=>e⟩,e'⟩ H')
end
end Mine.Internal
namespace Mine.Internal
set_option tactic.hygienic true
set_option genInjectivity true
set_option backward.match.sparseCases true
theorem lml{α β:Type}{l:List α}{f:α->β}(h:l.length<=n):(l.map f).length<=n:=AAB (as:=l) f▸h
theorem lmt{α β:Type}{l:List α}{f:α->β}(h:l.length<n):(l.map f).length<n:=AAB (as:=l) f▸h
theorem mm2{α β γ:Type}{l:List α}{f:α->β}{g:β->γ}:al ((l.map f).map g)=al (l.map λx=>g (f x)):=congrArg al AAE
theorem mm3{α β γ:Type}{l:List α}{f:α->β}{g:β->γ}:(l.map f).map g=l.map λx=>g (f x):=AAE
open PySem PySem.Calls
set_option tactic.hygienic false
set_option genInjectivity false
set_option backward.match.sparseCases false
theorem Ej:∀{names:List (Str×NameKind)} {k:Nat} {acc:List (Str×Addr)},(∃c,(n,c)∈acc)->∃c,(n,c)∈cellsFrom k names acc
 |[],_,_,h=>h
 |(m,kd)::r,k,acc,h=>by
  show∃c,(n,c)∈(if (kd==.cell)=true then cellsFrom (k+1) r ((m,k)::acc) else cellsFrom k r acc);by_cases q:(kd==.cell)=true
  ·exact(if_pos q)▸Ej (names:=r) (h.imp λc h=>.tail _ h)
  ·exact(if_neg q)▸Ej h
theorem Cp:∀{names:List (Str×NameKind)} {k:Nat} {acc:List (Str×Addr)},(n,NameKind.cell)∈names->∃c,(n,c)∈cellsFrom k names acc
 |[],_,_,h=>nomatch h
 |(m,kd)::r,k,acc,h=>by
  show∃c,(n,c)∈(if (kd==.cell)=true then cellsFrom (k+1) r ((m,k)::acc) else cellsFrom k r acc);rcases AAR.mp h with h|h
  ·exact((ABK h).1)▸((ABK h).2)▸Ej (names:=r) ⟨k,.head _⟩
  ·by_cases q:(kd==.cell)=true
   ·exact(if_pos q)▸Cp h
   ·exact(if_neg q)▸Cp h
section
variable{kf:Str->Option NameKind}
theorem O8:∀{bs:List (Str×Value)} {m:Str->Option Value},(∀p,p∈bs->p.1≠n)->bindL kf bs m n=m n/\bindC kf bs m n=m n
 |[],m,_=>⟨rfl,rfl⟩
 |(k,v)::r,m,h=>by
  have ne:n≠k:=λq=>h (k,v) (.head _) q.symm;have ih:=λm=>O8 (m:=m) λp hp=>h p (.tail _ hp);show bindL kf r (if kf k=al .local thenλy=>if y=k then al v else m y else m) n=m n/\bindC kf r (if kf k=al .local then m elseλy=>if y=k then al v else m y) n=m n;rw[(ih _).1,(ih _).2];by_cases q:kf k=al .local
  ·exact(if_pos q)▸(if_pos q)▸⟨if_neg ne,rfl⟩
  ·exact(if_neg q)▸(if_neg q)▸⟨rfl,if_neg ne⟩
theorem HJ:∀{ns:List Str} {vs:List Value} {m:Str->Option Value} {i:Nat},ns.Nodup->ns[i]? = al n->vs[i]? = al v ->
 (kf n=al .local->bindL kf (ns.zip vs) m n=al v)/\(kf n≠al .local->bindC kf (ns.zip vs) m n=al v)
 |[],_,_,_,_,h1,_=>Aa h1
 |_::_,[],_,_,_,_,h2=>Aa h2
 |k::ns,w::vs,m,0,hn,h1,h2=>by
  obtain rfl:=AAA h1;obtain rfl:=AAA h2;have out:=λm=>O8 (kf:=kf) (n:=k) (m:=m) (bs:=ns.zip vs) λp hp q=>(ABX.mp hn).1 (q▸(List.of_mem_zip hp).1);refine⟨λhk=>(out _).1.trans ?_,λhk=>(out _).2.trans ?_⟩
  ·exact(if_pos hk)▸if_pos rfl
  ·exact(if_neg hk)▸if_pos rfl
 |k::ns,w::vs,m,i+1,hn,h1,h2=>⟨(HJ (ABX.mp hn).2 h1 h2).1,(HJ (ABX.mp hn).2 h1 h2).2⟩
end
def RG(v:V)(U':Ac)(fl:Fl)(U:Ac):Prop:=(match fl with|.next _=>v=.d .none|.ret u=>v=u)/\U'=U
noncomputable def BN(fn:Fn)(xs:List V):Am:=xs.map al++List.replicate (fn.nv-fn.np) az
theorem SR{fn:Fn}{xs:List V}{i:Nat}{v:V}(h:(BN fn xs)[i]? = al (al v)):xs[i]? = al v:=by
 unfold BN at h;by_cases hi:i<xs.length
 ·rw[ABE (by rw[AAB];exact hi),ABI,AAN hi] at h;exact(AAN hi)▸AAA h
 ·rw[AA6 (lml (ACM hi)),List.getElem?_replicate] at h;exact Aa (BG h).2
section
variable{fn:Fn}{xs:List V}{r:Ar}{s:Shared}{Xs:List Value}{fd:FuncData}{body:List Stmt}{o:Obj}{vars:List Str}{lam:Option (Addr×Str)}
noncomputable abbrev DI(env:Env):List Addr:=env.locals::env.scope.names.filterMap λp=>env.cells.lookup p.1
noncomputable abbrev YU(r:Ar)(env:Env)(vars:List Str)(lam:Option (Addr×Str)):Cx:=⟨⟨r.T,env::r.fe,r.A.deeper env⟩,⟨vars,env.scope.names,vars,glP,lam⟩,env,DI env⟩
theorem O5(F:eR r.T glP fn a fd body o vars lam)(hn:1<=n)(hl:xs.length=fn.np)(aok:KD r.T)(afr:r.A.frames=al r.fe)(adp:r.A.depth+(n+1)<=600)(aun:r.A.units+100*(n+1)<=9000)(ahh:HOk n g r.A)(afs:Cv g r.fe)(H:Has r.T g U s)(R:Au r.T g xs Xs)(hE:env=callEnvC fd s.heap.objs.size a)
 (ic:InCallC s env.locals (bindL env.kindOf ((vars.take fn.np).zip Xs) λ_=>az) env.cells (bindC env.kindOf ((vars.take fn.np).zip Xs) λ_=>az) ai):∃aj,Inv n (YU r env vars lam) (BN fn xs) aj U ai/\G.le (DI env) g aj/\∀c,c∈DI env->g.hid c=az:=by
 have esc:env.scope=fd.scope:=by rw[hE];rfl
 have eloc:env.locals=s.heap.objs.size:=by rw[hE];rfl
 have new:∀c,c∈DI env->s.heap.get? c=az:=af (eloc▸By _) λc hc=>by exact oEA (List.mem_filterMap.mp hc) λp _ hp=>ABO (ACJ (eloc▸ic.above p.1 c (Bo hp)))
 refine oEE ic.toInCall.same λh₁ tk hs=>Cy (id ic.toInCall.ns) λoL esL epL hL hLd=>?_;have le:G.le (DI env) g (G.hide ⟨g.fz,λc=>if c∈DI env then ai.heap.get? c else g.hid c,g.mu⟩ env.locals (frO oL)):=⟨⟨λ_ _ e=>e,λ_ _ e=>e⟩,λc hc=>(G.hide_ne λ(q:c=env.locals)=>hc (q▸.head _)).trans (if_neg hc)⟩
 have hd:∀{c},c∈DI env->c≠env.locals->∀o,ai.heap.get? c=al o->(G.hide ⟨g.fz,λc=>if c∈DI env then ai.heap.get? c else g.hid c,g.mu⟩ env.locals (frO oL)).hid c=al o:=λhc hn o e=>(G.hide_ne hn).trans ((if_pos hc).trans e);have tf:RF env:=⟨(by rw[esc,F.kind];exactλq=>nomatch q),esc▸F.gen,esc▸F.cor,by rw[hE];exact F.blt,by rw[hE];exact F.glob⟩
 have frs:Cv (G.hide ⟨g.fz,λc=>if c∈DI env then ai.heap.get? c else g.hid c,g.mu⟩ env.locals (frO oL)) (env::r.fe):=λe he=>by
  rcases AAR.mp he with q|q
  ·rw[q];exact⟨tf,env.locals,frO oL,esL,epL,(hE▸rfl),G.hide_self,rfl,hLd.1⟩
  ·exact Hh (afs e q) λh0 L o' es ep h1 h2 h3=>JW h0 L o' es ep h1 ((le.hid L λq=>by refine oEA (H.hd L o' h2) λ_ e' _=>?_;exact Ak (new L q) e').trans h2) h3
 have kd:∀x,env.kindOf x=fd.scope.names.lookup x:=λx=>by unfold Env.kindOf;rw[esc]
 have mem:∀{x c k},fd.scope.names.lookup x=al k->env.cells.lookup x=al c->c∈DI env:=λ{x c k} h e=>.tail _ (List.mem_filterMap.mpr (iEA (x,k) (esc▸Bo h) e));have par:∀{i x v},vars[i]? = al x->(BN fn xs)[i]? = al (al v)->∃X,((env.kindOf x=al .local->bindL env.kindOf ((vars.take fn.np).zip Xs) (λ_=>az) x=al X)/\(env.kindOf x≠al .local->bindC env.kindOf ((vars.take fn.np).zip Xs) (λ_=>az) x=al X))/\Av r.T g v X:=λ{i x v} e1 e2=>by have e3:=SR e2;refine oEA (R.get e3) λX e4 rX=>?_;have hi:=hl▸(AAM.mp e3).1;exact iEA X (HJ (List.Nodup.sublist (AC4 fn.np vars) F.nd) (by rw[AC0 hi];exact e1) e4) rX
 refine(Az _ ⟨⟨aok,?_,(DN env r.fe rfl tf),?_,?_,by exact ahh.mono ⟨λ_ _ e=>e,λ_ _ e=>e⟩,frs,((H.newL new ic.toInCall.keep (by rw[hs]) (by rw[hs])).rehideH ((if_pos (.head _)).trans hL) (λ_ _ _ e=>e) (.fr hL))⟩,⟨aok.toReady,rfl,esc▸F.kind,by rw[hE];exact F.glob,by rw[hE];exact F.blt,(DN env r.fe rfl rfl),λm m' c h h'=>name_of_addr ic.apart (Bo h) (Bo h'),F.nd,.head _,λm _ c hk hc=>mem ((kd m).symm.trans hk) hc,λt q h=>?_⟩,⟨λR_ k=>k (bindL env.kindOf ((vars.take fn.np).zip Xs) λ_=>az) ?_ λi nm u e1 e2 e3=>?_,λnm hk R_ k=>?_,λc hc=>?_⟩⟩ le (λc hc=>(H.free (new c hc)).hid))
 ·show r.A.frames.map _=_;exact afr▸rfl
 ·show r.A.depth+1+n<=600;rw[ADK,AC9 1 n];exact adp
 ·show r.A.units+3+100*n<=9000;have:=aun;rw[Nat.mul_add] at this;exact AAC (by rw[ADK,AC9 3];exact AC7 (AC7 (dc rfl) _) _) this
 ·exact oAA (F.lam t q h) λh1 h2 h3=>⟨hn,h1,by rw[hE];exact h2,by rw[hE];exact h3⟩
 ·exact⟨frO oL,esL,epL,G.hide_self,hLd⟩
 ·exact oEA (par e1 e2) λX h rX=>iEA X (h.1 e3) (Av.mono le.toup _ _ rX)
 ·have hc:=by rw[kd] at hk;exact hk.elim id λq=>absurd rfl (F.nof _ (Bo q))
  obtain⟨c,h⟩:=Cp (Bo hc);refine oE (F8 h) λc h=>?_;have h:env.cells.lookup nm=al c:=by rw[hE];exact h
  exact k c _ h (Gz.to (ic.cell nm c h) (hd (mem hc h) ((λ{x c} e=>Nat.ne_of_gt (ic.above x c (Bo e))) h))) λi u e1 e2=>oEA (par e1 e2) λX q rX=>iEA X (q.2 (by rw[kd,hc];exactλq=>nomatch q)) (Av.mono le.toup _ _ rX)
 ·rw[show(YU r env vars lam).own=DI env from rfl] at hc;refine Gd ?_;show(if c∈DI env then ai.heap.get? c else g.hid c)≠az;rw[if_pos hc];rcases AAR.mp hc with q|q
  ·refine Cy ic.toInCall.ns λo _ _ e _=>?_;rw[q,e];exactλq=>nomatch q
  ·refine oEA (List.mem_filterMap.mp q) λp _ hp=>oEA (ic.cell p.1 c hp) λo e _=>?_;rw[e];exactλq=>nomatch q
theorem FA.run(hP:Pg f=al fn)(hl:xs.length=fn.np)(hb:SSs n fn.body (BN fn xs) U (RG v U'))(hn:1<=n)(hf:r.T.fn f=al a)(aok:KD r.T)(afr:r.A.frames=al r.fe)(adp:r.A.depth+(n+1)<=600)(aun:r.A.units+100*(n+1)<=9000)(ahh:HOk n g r.A)(afs:Cv g r.fe)(H:Has r.T g U s)(R:Au r.T g xs Xs):r.wp (call (.ref a) Xs) (Ans r g v U') s:=aok.fns f fn a hP hf _ λfd body o vars lam F=>by
 have hz:=λb o e=>H.fz b o (H.base b o e);refine wpAny_call (codeAny_call_cells (BV (AAC (AA9 _ _) adp) rfl) (hz _ _ F.ob) F.data (aok.ok.nolimit.keeps hz) (F.code.keeps hz) F.bd (F.bind Xs (R.length.symm.trans hl)) F.clo (λp hp=>?_) (λai ic=>?_) F.cor F.gen F.kind)
 ·refine(F.par p.1 (List.of_mem_zip hp).1).imp id λh=>⟨h,?_⟩
  obtain⟨c,q⟩:=Cp (Bo h);exact oE (F8 q) λc q=>q▸rfl
 ·refine AS (O5 F hn hl aok afr adp aun ahh afs H R rfl ic) λaj I le new=>?_;have done:∀{an am x},G.le (DI (callEnvC fd s.heap.objs.size a)) aj an->Has r.T an U' am->(∀c,c∈DI (callEnvC fd s.heap.objs.size a)->an.hid c≠az)->Av r.T an v x->Ans r g v U' x am:=λ{an am x} l aD w rx=>by exact AS (aD.back (own:=[]) (AAV _▸le.trans l) new (λ_ _ _ e=>e) (aD.away w)) λhd H' le' _=>.mk _ le' H' (Av.eta rx)
  refine AAO (hb _ aj ai body F.is I) (λfl am p=>p.elim (λJ ak an e q l I2=>?_) λu x ak an e q l H w rx=>?_) λ_ _ h=>h.elim
  ·refine oA q λq1 q_1=>?_;subst q_1;subst e;exact done l I2.has I2.loc.ow (q1▸rfl)
  ·refine oA q λq1 q_1=>?_;subst q_1;subst e;exact done l H w (q1▸rx)
theorem FA.of(hP:Pg f=al fn)(hl:xs.length=fn.np)(hb:SSs n fn.body (BN fn xs) U (RG v U'))(hn:1<=n):FA (n+1) f xs U v U':=λr g s a Xs hf A R=>FA.run hP hl hb hn hf A.ok A.frames A.depth A.units (A.hh.less (ADP _)) A.frs A.has R
end
noncomputable def low(m:Nat):V->Prop
 |.ref k=>k<m
 |.tup ws=>∀k,.inr k∈ws->k<m
 |.obj ks=>∀k,k∈ks->k<m
 |.pr x y=>low m x/\low m y
 |_=>True
noncomputable def F7(m:Nat):O->Prop
 |.list vs=>∀v,v∈vs->low m v
 |_=>True
noncomputable def G.seal(g:G)(m:Nat)(h:Heap):G:=⟨λa=>if a∈g.mu.drop m then h.get? a else g.fz a,g.hid,g.mu.take m⟩
def SnR(U:Ac)(m k:Nat)(d:PyData):Prop:=∃ds,d=.list ds/\m<=k/\U[k]? = al (.list (ds.map .d))
noncomputable def SnW(U:Ac)(m:Nat):PyData⊕Nat->PyData->Prop
 |.inl x,d=>d=x
 |.inr k,d=>SnR U m k d
noncomputable def Sn(U:Ac)(m:Nat):V->PyData->Prop
 |.d x,d=>d=x
 |.ref k,d=>SnR U m k d
 |.tup ws,d=>∃ds,d=.tuple ds/\Ay (SnW U m) ws ds
 |_,_=>False
section
variable{T:Top}{g:G}{v:V}{X:Value}{m n:Nat}{h:Heap}{d:PyData}
theorem Ay.mem{α β:Type}{R:α->β->Prop}{as:List α}{bs:List β}{a:α}(h:Ay R as bs)(ha:a∈as):∃b,R a b:=by refine oE (List.mem_iff_getElem?.mp ha) λk hk=>?_;refine oEA (h.get hk) λb _ r=>?_;exact⟨b,r⟩
theorem NK{k:Nat}{a:Addr}(e:g.mu[k]? = al a):k<g.mu.length:=(AAM.mp e).1
theorem WL:∀{v:V} {X:Value},Av T g v X->low g.mu.length v:=by
 intro v
 induction v with
 |ref k=>intro X rx;refine oEA rx λa e _=>?_;exact NK e
 |tup ws=>intro X rx;exact rx (λ_=>_) λa o vs n h1 h2 h3 h4 h5 k hk=>by refine Bb (h4.mem hk) λb a e _=>?_;exact NK e
 |obj ks=>intro X rx;exact rx (λ_=>_) λa d o mA _ _ _ _ _ _ _ h k hk=>by refine Bb (h.mem hk) λb a e _=>?_;exact NK e
 |pr x y ix iy=>intro X rx;exact rx (λ_=>_) λa o vs n _ _ _ h4 _=>by refine Br h4 λa' b' _ r1 r2=>?_;exact⟨ix r1,iy r2⟩
 |_=>intro X rx;trivial
theorem TD(rx:DV T g o x):F7 g.mu.length o:=by
 cases o with
 |list vs=>exact rx (λ_=>_) λxs m hr _ v hv=>by refine oE (hr.mem hv) λb e=>?_;exact WL e
 |_=>trivial
theorem Ea(H:Has T g U s):Nh g.fz (g.seal m h).fz:=λa o e=>(if_neg λ(q:a∈g.mu.drop m)=>Ak (H.ap a (AC1 q)) e).trans e
theorem Q2(hk:k<m)(e:g.mu[k]? = al a):(g.seal m h).mu[k]? = al a:=(AC0 hk).trans e
theorem Ay.imp{α β:Type}{R S:α->β->Prop}:∀{as:List α} {bs:List β},(∀a b,a∈as->R a b->S a b)->Ay R as bs->Ay S as bs
 |[],[],_,_=>trivial
 |_::_,_::_,h,x=>⟨h _ _ (.head _) x.1,Ay.imp (λa b ha=>h a b (.tail _ ha)) x.2⟩
 |[],_::_,_,x=>x.elim
 |_::_,[],_,x=>x.elim
structure G.upTo(m:Nat)(g g':G):Prop where
 fz:Nh g.fz g'.fz
 mu:∀(k:Nat) (a:Addr),k<m->g.mu[k]? = al a->g'.mu[k]? = al a
theorem Jv(up:G.upTo m g g')(hl:low m v)(rx:Av T g v X):Av T g' v X:=by
 induction v generalizing X with
 |d y=>exact AG.mono up.fz _ _ rx
 |ref k=>refine oEA rx λa e q=>?_;exact⟨a,up.mu k a hl e,q⟩
 |tup ws=>exact De.mono up.fz (λvs=>Ay.imp λw v hw r=>by
  cases w with
  |inl y=>exact AG.mono up.fz _ _ r
  |inr k=>refine oEA r λa e q=>?_;exact⟨a,up.mu k a (hl k hw) e,q⟩) rx
 |ty t=>exact rx
 |obj ks=>exactλR_ k=>rx R_ λa d o mA h1 h2 h3 h4 h5 h6 h7 h8=>k a d o mA (up.fz _ _ h1) h2 h3 h4 h5 (h6.to up.fz) h7 (Ay.imp (λk _ hk=>λ⟨a,e,q⟩=>⟨a,up.mu k a (hl k hk) e,q⟩) h8)
 |pr x y ix iy=>exact De.mono up.fz (λvs=>λ⟨a,b,e,h1,h2⟩=>⟨a,b,e,ix hl.1 h1,iy hl.2 h2⟩) rx
 |exc k=>exactλR_ kk=>rx R_ λe D o vs h1 h2 h3 h4 h5=>kk e D o vs (up.fz _ _ h1) h2 h3 h4 h5
 |ecl k=>exact rx
theorem Hc(up:G.upTo m g g')(hl:F7 m o)(rx:DV T g o x):DV T g' o x:=by
 cases o with
 |list vs=>exactλR_ k=>rx R_ λxs m hr hz=>k xs m (Ay.imp (λv x hv r=>Jv up (hl v hv) r) hr) hz
 |dictS kvs=>exactλR_ k=>rx R_ λes ep ws ho hd hk hp hn hr hl=>k es ep ws ho hd hk hp hn (Ay.mono (λd v r=>⟨r.1,AG.mono up.fz _ _ r.2⟩) hr) hl
 |dictP kvs=>exactλR_ k=>rx R_ λes ep ws ho hd he hn hr hl=>k es ep ws ho hd he hn (Ay.mono (λd v r=>⟨r.1,AG.mono up.fz _ _ r.2.1,AG.mono up.fz _ _ r.2.2⟩) hr) hl
theorem WI(H:Has T g U s):G.upTo m g (g.seal m h):=⟨Ea H,λ_ _ hk e=>Q2 hk e⟩
theorem Se(H:Has T g U s)(hl:F7 m o)(rx:DV T g o x):DV T (g.seal m h) o x:=Hc (WI H) hl rx
theorem GT{a:Addr}(hn:g.mu.Nodup)(h1:a∈g.mu.take m)(h2:a∈g.mu.drop m):False:=by exact(ABW.mp ((List.take_append_drop m g.mu).symm▸hn)).2.2 a h1 a h2 rfl
theorem Has.seal(H:Has T g (U++τ) s)(hl:∀(k:Nat) o,U[k]? = al o->F7 U.length o):Has T (g.seal U.length s.heap) U s:=by
 have out:∀{a},a∉g.mu->(g.seal U.length s.heap).fz a=g.fz a:=λh=>if_neg λq=>h (AC1 q);refine⟨λa o e=>?_,H.hd,?_,List.Nodup.sublist (AC4 _ _) H.nd,λa ha=>(if_neg λq=>GT H.nd ha q).trans (H.ap a (ACN ha)),λa o e=>⟨(out (H.ah a o e).2).trans (H.ah a o e).1,λq=>(H.ah a o e).2 (ACN q)⟩,λk a o e1 e2 R_ kk=>?_,λa o e=>Ea H a o (H.base a o e),λt q ht R_ kk=>H.tb t q ht R_ λps h1 h2 h3 h4 h5 h6=>kk ps ((out h3).trans h1) h2 (λq=>h3 (ACN q)) h4 h5 λpos cv e=>?_,H.gens,H.os⟩
 ·have e:(if a∈g.mu.drop U.length then s.heap.get? a else g.fz a)=al o:=e;by_cases q:a∈g.mu.drop U.length
  ·rw[if_pos q] at e;exact e
  ·rw[if_neg q] at e;exact H.fz a o e
 ·show(g.mu.take U.length).length=_;exact ACT▸H.len▸AAF▸ACP (AA9 _ _)
 ·have hk:k<U.length:=(AAM.mp e2).1;have e1:(g.mu.take U.length)[k]? = al a:=e1;rw[AC0 hk] at e1;exact H.ob k a o e1 ((ABE hk).trans e2) R_ λx h1 h2=>kk x h1 (Se H (hl k o e2) h2)
 ·exact Ec (h6 pos cv e) λc o vs u q1 q2 q3=>EJ c o vs u q1 (Ea H _ _ q2) q3
theorem Qv(H:Has T g U s)(h:SnR U m k d)(rx:∃a,g.mu[k]? = al a/\X=.ref a):AG (g.seal m s.heap).fz d X:=by refine oEA rx λa e q_2=>?_;subst q_2;refine AS h λds q_1 hm hs=>?_;subst q_1;have ha:a∈g.mu.drop m:=AA5 (i:=k-m) (by rw[List.getElem?_drop,Nat.add_sub_cancel' hm];exact e);exact H.lst e hs λxs n ho hr hn hz=>λR_ kk=>kk a _ xs n ((if_pos ha).trans ho) rfl rfl (RepDs.mono (Ea H) _ _ (Au.toD hr)) ((AAB (f:=V.d))▸hz)
theorem ZY(H:Has T g U s)(h:Sn U m v d)(rx:Av T g v X):AG (g.seal m s.heap).fz d X:=by
 cases v with
 |d y=>obtain rfl:d=y:=h;exact AG.mono (Ea H) _ _ rx
 |ref k=>exact Qv H h rx
 |tup ws =>
  obtain⟨ds,rfl,h⟩:=h;have key:∀{ws:List (PyData⊕Nat)} {ds:List PyData} {vs:List Value},Ay (Ix g) ws vs->Ay (SnW U m) ws ds->Ay (AG (g.seal m s.heap).fz) ds vs:=by
   intro ws
   induction ws with
   |nil=>intro ds vs h1 h2;rw[h1.nil,h2.nil];exact trivial
   |cons w ws ih =>
    intro ds vs h1 h2;obtain⟨v,vs,rfl,r1,r2⟩:=h1.cons;obtain⟨d,ds,rfl,q1,q2⟩:=h2.cons;refine⟨?_,ih r2 q2⟩;cases w with
    |inl y=>obtain rfl:d=y:=q1;exact AG.mono (Ea H) _ _ r1
    |inr k=>exact Qv H q1 r1
  exact rx _ λa o vs n h1 h2 h3 h4 h5 R_ kk=>kk a o vs n (Ea H _ _ h1) h2 h3 (.of (key h4 h)) (((key h4 h).length)▸h4.length▸h5)
 |ty _=>exact h.elim
 |obj _=>exact h.elim
 |pr _ _=>exact h.elim
 |exc _=>exact h.elim
 |ecl _=>exact h.elim
theorem FA.seal'(hf:FA n f xs U v (U'++τ))(hl:U'.length=U.length)(hw:∀(k:Nat) o,U'[k]? = al o->F7 U'.length o)(hd:Sn (U'++τ) U'.length v d):FA n f xs U (.d d) U':=λr g s a Xs h A R=>AAO (hf r g s a Xs h A R) (λX s' p=>p _ λg' le H rX =>
 .mk (g'.seal U'.length s'.heap) ⟨⟨λa o e=>Ea H a o (le.fz a o e),λk a e=>Q2 (hl▸A.has.len▸NK e) (le.mu k a e)⟩,le.hid⟩ (H.seal hw) (ZY H hd rX)) λ_ _ h=>h
theorem X5(H:Has T g U s)(k:Nat)(o:O)(e:U[k]? = al o):F7 U.length o:=H.len▸H.ob k (g.mu[k]'(H.len▸(AAM.mp e).1)) o (AAN _) e _ λx _ hx=>TD hx
theorem FA.seal(hf:FA n f xs U v (U++τ))(hd:Sn (U++τ) U.length v d):FA n f xs U (.d d) U:=λr g s a Xs h A R=>FA.seal' hf rfl (X5 A.has) hd r g s a Xs h A R
end
theorem Vm{α1 α2 α3 α4 α5 α6 α7 α8 α9 α10 α11 α12:Type}{p:α1->α2->α3->α4->α5->α6->α7->α8->α9->α10->α11->α12->Prop}{R:Prop}(h:∃(x1:α1) (x2:α2) (x3:α3) (x4:α4) (x5:α5) (x6:α6) (x7:α7) (x8:α8) (x9:α9) (x10:α10) (x11:α11) (x12:α12),p x1 x2 x3 x4 x5 x6 x7 x8 x9 x10 x11 x12)(k:∀(x1:α1) (x2:α2) (x3:α3) (x4:α4) (x5:α5) (x6:α6) (x7:α7) (x8:α8) (x9:α9) (x10:α10) (x11:α11) (x12:α12),p x1 x2 x3 x4 x5 x6 x7 x8 x9 x10 x11 x12->R):R:=by exact Gu h λx1 x2 x3 x4 x5 x6 x7 x8 x9 x10 x11 x12 h=>k _ _ _ _ _ _ _ _ _ _ _ _ h
theorem dF{α1 α2 α3 α4 α5 α6 α7 α8 α9 α10 α11 α12 α13 α14 α15 α16 α17:Type}{p:α1->α2->α3->α4->α5->α6->α7->α8->α9->α10->α11->α12->α13->α14->α15->α16->α17->Prop}{R:Prop}(h:∃(x1:α1) (x2:α2) (x3:α3) (x4:α4) (x5:α5) (x6:α6) (x7:α7) (x8:α8) (x9:α9) (x10:α10) (x11:α11) (x12:α12) (x13:α13) (x14:α14) (x15:α15) (x16:α16) (x17:α17),p x1 x2 x3 x4 x5 x6 x7 x8 x9 x10 x11 x12 x13 x14 x15 x16 x17)(k:∀(x1:α1) (x2:α2) (x3:α3) (x4:α4) (x5:α5) (x6:α6) (x7:α7) (x8:α8) (x9:α9) (x10:α10) (x11:α11) (x12:α12) (x13:α13) (x14:α14) (x15:α15) (x16:α16) (x17:α17),p x1 x2 x3 x4 x5 x6 x7 x8 x9 x10 x11 x12 x13 x14 x15 x16 x17->R):R:=by obtain⟨x1,x2,x3,x4,x5,x6,x7,x8,x9,x10,x11,x12,x13,x14,x15,x16,x17,h⟩:=h;exact k _ _ _ _ _ _ _ _ _ _ _ _ _ _ _ _ _ h
section
variable{n:Nat}{T:Top}{r:Ar}{c:Cx}{g:G}{s:Shared}{e a b:E}{ws us:List V}{X:Value}{ks:List Nat}{k i f:Nat}{nm:Str}
theorem QD(H:Has T g U s)(rx:Av T g (.obj ks) X){R_:Value->Prop}(k:∀a mA,s.heap.Inst a T.cls mA->(∀nm,nm∉Dy->mA nm=az)->Ay (λ(k:Nat) (nm:Str)=>∃a,g.mu[k]? = al a/\mA nm=al (.ref a)) ks Dy->R_ (.ref a)):R_ X :=
 rx R_ λa d o mA h1 h2 h3 h4 h5 h6 h7 h8=>k a mA ⟨o,H.fz _ _ h1,h2,h3,.inr (Az d h4 h5 (h6.to H.fz))⟩ h7 h8
theorem OA(h:nm∈Dy):typeLookup (.type "object") nm=pure az:=by
 rcases AAR.mp h with rfl|h
 ·rw[typeLookup_type,builtinLookup_eq_fast];kernel_rfl
 ·rcases AAR.mp h with rfl|h
  ·rw[typeLookup_type,builtinLookup_eq_fast];kernel_rfl
  ·rw[AAJ.mp h,typeLookup_type,builtinLookup_eq_fast];kernel_rfl
theorem VG{n:Str}{p q:Pos}{nm:Str}{env:Env}:eval (.Attribute (.Name n p) nm q) env=(eval (.Name n p) env>>=λo=>standAt q.atName>>=λ_=>holding [o] (getAttr o nm true)>>=λr=>pure r):=rfl
theorem SE.R(h:SE n (.N i) J U (.obj ks) ag)(hi:Dy[f]? = al nm)(hk:ks[f]? = al k):SE n (.R nm (.N i)) J U (.ref k) ag:=λc g s ex hc I=>hc (λex=>c.wp (eval ex c.env) (Ans c.toAr g (.ref k) ag) s) λz q h1=>by refine h1 (λz=>IsE (.N i) c.K z->c.wp (eval (.Attribute z nm q) c.env) (Ans c.toAr g (.ref k) ag) s) (λm p _ h1=>?_) h1;refine Bt VG (BJ h h1 I λX aj ai le I1 ao=>AAD (AA7 (AAD (AA8 ?_))));refine Bb I1.ok.cls λN mN C F=>?_;have hz:=λb o e=>I1.has.fz b o (I1.has.base b o e);refine Vm (C.keeps hz).obj λx1 x2 x3 x4 x5 x6 x7 x8 x9 xa xb xc hC=>?_;have hm:=AA5 hi;refine QD I1.has ao (R_:=λX=>c.wp (getAttr X nm true) (λr s=>wpAny (model c.T.prog c.T.w) c.A (pure r) (Ans c.toAr g (.ref k) ag) (λ_ _=>False) s) ai) λa mA ac hn h8=>gE (h8.get hk) λnm' e a' e1 e2=>?_;obtain rfl:=As hi e;exact load_attr hC (C.keeps hz).ns F.ga (F.att _ hm) (OA hm) ac e2 rfl (AAY (.mk aj le (I1.has.tok (s':=⟨ai.heap,ai.gens,ai.drawn,ai.toks+1,ai.os⟩)) ⟨a',e1,rfl⟩))
theorem P3{o:Expr}{ap p:Pos}{vs:List Expr}{env:Env}{Q E:Value->Shared->Prop}(hb:attributeBase o nm env (eval o env)=eval o env)(hf:methodCallForm (vs.length+([]:List Keyword).length) (backTo p (starEach vs env)) (backToKw p (keywordEach [] env))=true)(hl:(ap.endLine==p.line)=true)
 (h:wpAny (model r.T.prog r.T.w) r.A (eval o env) (λX ai=>∀pl,wpAny (model r.T.prog r.T.w) r.A (getMethod X nm pl) (λm am=>wpAny (model r.T.prog r.T.w) r.A (callWith p m.1 m.2 (backTo p (starEach vs env)) []) Q E am) E ai) E s):wpAny (model r.T.prog r.T.w) r.A (eval (.Call (.Attribute o nm ap) vs [] p) env) Q E s:=by
 rw[arm_eval_Call,hb];refine AAD (AAO h (λX ai h₁=>AAD (AA7 ?_)) λ_ _ e=>e);have hpos:methodCallPos true o env ap p=pure p:=by unfold methodCallPos;rw[hl];rfl
 unfold methodCall;rw[hf];refine AAD (AA8 (AAO (h₁ _) (λm am bc=>AAD (wpAny_of_eq hpos bc)) λ_ _ e=>e))
theorem Sq(hb:attributeBase o nm env (eval o env)=eval o env)(hf:methodCallForm (vs.length+([]:List Keyword).length) (backTo p (starEach vs env)) (backToKw p (keywordEach [] env))=true)(hl:(ap.endLine==p.line)=true)
 (h:r.wp (eval o env) (λX ai=>∀pl,r.wp (getMethod X nm pl) (λm am=>r.wp (callWith p m.1 m.2 (backTo p (starEach vs env)) []) Q am) ai) s):r.wp (eval (.Call (.Attribute o nm ap) vs [] p) env) Q s:=P3 hb hf hl h
theorem few{vs:List Expr}(h:Go b c.K vs)(hl:vs.length<20):methodCallForm (vs.length+([]:List Keyword).length) (backTo p (starEach vs env)) (backToKw p (keywordEach [] env))=true:=by have e:=CR p env h;rw[List.any_eq_false] at e;exact(ACW _ _).mpr ⟨(ACW _ _).mpr ⟨ACL.mpr λx hx=>by simpa using e x hx,rfl⟩,AAI (ABT hl (dc rfl))⟩
theorem SE.ac(hb:FT a)(hm:mtP nm=al f)(ha:SE n a J U (.obj ks) ag)(hs:SEs n b J ag ws ak)(hf:FA n f (.obj ks::ws) ak v au):SE n (.ac nm a b) J U v au:=λc g s ex hc I=>hc (λex=>c.wp (eval ex c.env) (Ans c.toAr g v au) s) λz ap vs p h1 h2 h3 h4=>by refine Sq (hb h1 _ _ _) (few h2 h4) (AAI h3) (AAO (ha c g s z h1 I) (λX ai aL=>aL _ λaj av ar ao pl=>?_) λ_ _ h=>h);have I1:=I.step av ar;refine Bb I1.ok.cls λN mN C F=>?_;have hz:=λb o e=>I1.has.fz b o (I1.has.base b o e);refine Vm (C.keeps hz).obj λx1 x2 x3 x4 x5 x6 x7 x8 x9 xa xb xc hC=>FW (F.mt nm f hm) λna fa fo e1 e2 e3 e4=>Bb (I.cx.rd.fnob f fa e1) λo fd ho hd=>QD I1.has ao (R_:=λX=>Av c.T aj (.obj ks) X->c.wp (getMethod X nm pl) (λm am=>c.wp (callWith p m.1 m.2 (backTo p (starEach vs c.env)) []) (Ans c.toAr g v au) am) ai) (λx mA ac hn h8 ao=>?_) ao;exact method_of hC (C.keeps hz).ns F.ga F.ge e2 (hz _ _ e3) e4 (typeLookup_type ..) ac (hn nm na) (callWith_function (o:=o) (fd:=fd) (Dm (r:=c.toAr) h2 (AAO (hs c aj ai vs p h2 I1) (λYs am aM=>aM _ λan le2 aC ay=>⟨⟨(I1.step le2 aC).base _ _ ho,hd⟩,BP (r:=c.toAr) (av.trans le2) (hf c.toAr an am fa (.ref x::Ys) e1 (I1.step le2 aC).toAt ⟨Av.mono le2.toup _ _ ao,ay⟩)⟩) λ_ _ h=>h)))
end
noncomputable abbrev dM:Obj:={cls:=.type "dict",data:=.dict #[]}
theorem T3:exec (.Assign [.Attribute (.Name n p1) nm p2] (.Dict [] [] p3) p4) env=(standAt p4>>=λ_=>eval (.Dict [] [] p3) env>>=λv=>assign (.Attribute (.Name n p1) nm p2) env v>>=λ_=>pure Flow.next):=by rw[arm_exec_Assign];rfl
structure FR(T:Top)(aG:Shared)(x dx L:Addr)(m mA:Str->Option Value)(ns:List Str)(Ds:List Addr)(s:Shared):Prop where
 nl:s.heap.Ns L m
 inst:s.heap.Inst x T.cls mA
 dict:∀o,s.heap.get? x=al o->o.dict=al dx
 keep:∀b o,aG.heap.get? b=al o->s.heap.get? b=al o
 newX:aG.heap.get? x=az
 newD:aG.heap.get? dx=az
 lx:L≠x
 ld:L≠dx
 ds:∀D,D∈Ds->s.heap.get? D=al dM/\aG.heap.get? D=az/\D≠x/\D≠dx
 nd:Ds.Nodup
 wi:Within mA ns
 gens:s.gens=aG.gens
 os:s.os=aG.os
theorem RY(hk:env.scope.kind=.function)(hl:env.kindOf v=al .local)(hb:(v==("__debug__" : Str))=false)(hm:m v=al (.ref x))
 (C:PyProof.Rows.ClsAt aG.heap T.cls N mN) (F:RI T mN) (hnm:nm∈Dy) (hz:ns.length<=sizeLine) (M:FR T aG x dx env.locals m mA ns Ds s)
 (hq:∀s' D,FR T aG x dx env.locals m (λy=>if y=nm then al (.ref D) else mA y) (nm::ns) (D::Ds) s'->Q .next s'):wpAny (model T.prog T.w) A (exec (.Assign [.Attribute (.Name v p1) nm p2] (.Dict [] [] p3) p4) env) Q (λ_ _=>False) s:=by
 rw[T3];have old:∀b o,s.heap.get? b=al o->(s.heap.push dM).get? b=al o:=λb o e=>AAK _ e;refine AAD (AA7 (AAD (wpAny_Dict_empty ?_)));rw[arm_assign_Attribute];refine AAD (AAD (AA8 (wpAny_Name (wpAny_loadName_local hk hl (M.nl.keeps old) hm ?_) hb)));have C':=C.keeps λb o e=>old b o (M.keep b o e);refine Vm C'.obj λx1 x2 x3 x4 x5 x6 x7 x8 x9 xa xb xc hC=>?_;obtain⟨oC,eC⟩:∃o,aG.heap.get? T.cls=al o:=by exact Vm C.obj λy1 y2 y3 y4 y5 y6 y7 y8 y9 ya yb yc hC=>⟨_,hC⟩
 have xC:x≠T.cls:=λq=>Ak M.newX (q▸eC);refine oEA (id M.inst) λox hx _=>?_;have hD:=M.dict ox hx;refine AAD (AA7 (AAD (AA8 (store_attr PySem.F.store_object hC C'.ns F.se (F.att _ hnm) (OA hnm) xC (M.inst.keeps old) (λh' tk' ac kp hs=>wpAny_release (AAY (hq _ s.heap.objs.size ?_))) M.wi hz))));have ne:∀{b},b≠x->b≠dx->∀o,s.heap.get? b=al o->h'.get? b=al o:=λ{b} q1 q2 o e=>kp b o q1 (λaS d e1 e2 q=>q2 (q▸AAA (e2.symm.trans ((As (old _ _ hx) e1)▸hD)))) (old b o e);have dead:∀{b o},s.heap.get? b=al o->s.heap.objs.size≠b:=λe q=>by rw[<-q,By] at e;exact Aa e
 have ax:=dead hx;obtain⟨oD,eD⟩:∃o,s.heap.get? dx=al o:=by
  obtain⟨o,h1,_,_,h4|⟨d,h4,_,o',_,_,h5,_⟩⟩:=id M.inst
  ·exact Ak h4.1 (M.dict o h1)
  ·exact⟨o',As h4 (M.dict o h1)▸h5⟩
 have ad:=dead eD;refine⟨NsF.to (f:=s.heap.get?) M.nl (ne M.lx M.ld),ac,λo e=>?_,λb o e=>ne (λq=>Ak M.newX (q▸e)) (λq=>Ak M.newD (q▸e)) o (M.keep b o e),M.newX,M.newD,M.lx,M.ld,af ⟨kp _ _ ax (λaS d e1 e2 q=>ad (q▸As e2 ((As (old _ _ hx) e1)▸hD))) (AA3 _ rfl),EE λo e=>dead (M.keep _ _ e) rfl,ax,ad⟩ λD h=>?_,ABX.mpr ⟨λq=>dead (M.ds _ q).1 rfl,M.nd⟩,M.wi.cons nm _,M.gens,M.os⟩
 ·exact Mt (hs ox (old _ _ hx)) λbE aV _ _ _ hd=>As aV e▸hd dx hD
 ·exact JB (M.ds D h) λq1 q2 q3 q4=>⟨ne q3 q4 _ q1,q2,q3,q4⟩
noncomputable def UF:S:=.cons (.setd 0 (ACG "held")) (.cons (.setd 0 (ACG "grounds")) (.cons (.setd 0 (ACG "heights")) .nil))
theorem DA.puts(F:DA T g b)(ne:b≠a):DA T (g.put a o) b:=⟨(if_neg ne).trans F.fz,F.hid,F.mu,F.tab⟩
theorem DA.adds(F:DA T g b)(ne:b≠a):DA T (g.add a) b:=⟨F.fz,F.hid,λq=>(Hj q).elim F.mu ne,F.tab⟩
theorem Jw:DV T g (.dictS []) dM:=λR_ k=>by refine Ep (Heap.DictOf.new (knd:=strKind T.prog T.w) {}) λo es ep h1 h2 h3 h4 h5 h6=>?_;rw[AA3 _ rfl] at h1;rw[<-AAA h1] at h2 h3;exact k es ep [] h2 h3 h4 h5 h6 trivial (ABF _)
theorem Ug(H:Has r.T g U s)
 (M:FR r.T s x dx L m (λy=>if y=ACG "heights" then al (.ref D3) else if y=ACG "grounds" then al (.ref D2) else if y=ACG "held" then al (.ref D1) else az) ns [D3,D2,D1] s') :
 Ans r g (.obj [U.length,U.length+1,U.length+2]) (U++[.dictS [],.dictS [],.dictS []]) (.ref x) s':=by
 obtain⟨ox,hx,hc,hnc,h4|⟨d,hd,hne,o',es,ep,h5,h6⟩⟩:=id M.inst
 ·exact Ak h4.1 (M.dict ox hx)
 have e:=As hd (M.dict ox hx);rw[e] at hd hne h5;have nd1:=ABX.mp M.nd;refine JB (M.ds D3 (.head _)) λa3 f3 x3 d3=>JB (M.ds D2 (.tail _ (.head _))) λa2 f2 x2 d2=>JB (M.ds D1 (.tail _ (.tail _ (.head _)))) λa1 f1 x1 d1=>?_;have Fx:=H.free M.newX;have Fd:=(H.free M.newD).puts (o:=ox) hne;have H2:=Fd.put (Fx.put (H.keep M.keep M.gens M.os) hx) h5;have H3:=(((H.free f1).puts (o:=ox) x1).puts (o:=o') d1).add H2 a1 Jw;have H4:=((((H.free f2).puts (o:=ox) x2).puts (o:=o') d2).adds λq=>(ABX.mp nd1.2).1 (q▸.head _)).add H3 a2 Jw;have H5:=(((((H.free f3).puts (o:=ox) x3).puts (o:=o') d3).adds λq=>nd1.1 (q▸.tail _ (.head _))).adds λq=>nd1.1 (q▸.head _)).add H4 a3 Jw;have l2:G.le [] ((g.put x ox).put dx o') (((((g.put x ox).put dx o').add D1).add D2).add D3):=G.le.add.trans (G.le.add.trans .add);have m2:=(G.le.add (own:=[]) (a:=D3)).mu _ _ (H3.addAt (a:=D2));have m3:=H4.addAt (a:=D3);rw[AAF] at m2 m3;rw[AAF] at m3;rw[ABQ,ABQ] at H5;refine .mk _ ((G.le.put Fx.fz).trans ((G.le.put Fd.fz).trans l2)) H5 λR_ k=>k x dx ox _ (l2.fz _ _ ((G.le.put (own:=[]) Fd.fz).fz _ _ G.put_self)) hc hnc hd hne ⟨o',es,ep,l2.fz _ _ G.put_self,h6⟩ (λnm hn=>?_) ⟨⟨D1,((G.le.trans (own:=[]) (G.le.add (a:=D2)) (G.le.add (a:=D3))).mu _ _ (H2.addAt (a:=D1))),rfl⟩,⟨D2,m2,rfl⟩,⟨D3,m3,rfl⟩,trivial⟩;rw[if_neg λq=>hn (by rw[q];exact .tail _ (.tail _ (.head _))),if_neg λq=>hn (by rw[q];exact .tail _ (.head _)),if_neg λq=>hn (by rw[q];exact .head _)]
theorem HV(hk:env.scope.kind=.function)(hv:∀v,K.vars[0]? = al v->K.kd v .local=true->env.kindOf v=al .local/\m v=al (.ref x))
 (C:PyProof.Rows.ClsAt aG.heap T.cls N mN) (F:RI T mN) (is:IsS (.setd 0 nm) K st) (hnm:nm∈Dy) (hz:ns.length<=sizeLine) (M:FR T aG x dx env.locals m mA ns Ds s)
 (hq:∀s' D,FR T aG x dx env.locals m (λy=>if y=nm then al (.ref D) else mA y) (nm::ns) (D::Ds) s'->wpAny (model T.prog T.w) A (execs l env) Q (λ_ _=>False) s'):wpAny (model T.prog T.w) A (execs (st::l) env) Q (λ_ _=>False) s :=
 is (λst=>wpAny (model T.prog T.w) A (execs (st::l) env) Q (λ_ _=>False) s) λv p1 p2 p3 p4 h=>by rw[execs_cons];exact AAD (RY hk (hv v h.2.1 h.1).1 h.2.2 (hv v h.2.1 h.1).2 C F hnm hz M hq)
theorem UE(hk:env.scope.kind=.function)(hv:∀v,K.vars[0]? = al v->K.kd v .local=true->env.kindOf v=al .local/\m v=al (.ref x))
 (C:PyProof.Rows.ClsAt aG.heap T.cls N mN) (F:RI T mN) (is:Yt UF K body) (M:FR T aG x dx env.locals m (λ_=>az) [] [] s)
 (hq:∀s' D1 D2 D3 ns,FR T aG x dx env.locals m (λy=>if y=ACG "heights" then al (.ref D3) else if y=ACG "grounds" then al (.ref D2) else if y=ACG "held" then al (.ref D1) else az) ns [D3,D2,D1] s'->Q .next s'):wpAny (model T.prog T.w) A (execs body env) Q (λ_ _=>False) s :=
 is (λbody=>wpAny (model T.prog T.w) A (execs body env) Q (λ_ _=>False) s) λst1 l1 q1 q2=>HV hk hv C F q1 (.head _) (ABF _) M λs1 D1 M1=>q2 (λl1=>wpAny (model T.prog T.w) A (execs l1 env) Q (λ_ _=>False) s1) λst2 l2 q3 q4=>HV hk hv C F q3 (.tail _ (.head _)) (by rw[<-Bd];decide) M1 λs2 D2 M2=>q4 (λl2=>wpAny (model T.prog T.w) A (execs l2 env) Q (λ_ _=>False) s2) λst3 l3 q5 q6=>by obtain rfl:l3=[]:=q6;exact HV hk hv C F q5 (.tail _ (.tail _ (.head _))) (by rw[<-Bd];decide) M2 λs3 D3 M3=>wpAny_execs_nil (hq s3 D1 D2 D3 _ M3)
theorem RN(c:Addr):Code.weight (.builtin "type.__call__" ⟨[.ref c],[]⟩)<=2:=by
 first
  |exact AY (Nat.le_of_eq (show Code.weight (.builtin "type.__call__" ⟨[.ref c],[]⟩)=1 by rfl)) rfl
  |exact AY (Nat.le_of_eq (show Code.weight (.builtin "type.__call__" ⟨[.ref c],[]⟩)=0 by rfl)) rfl
  |exact Nat.le_of_eq (show Code.weight (.builtin "type.__call__" ⟨[.ref c],[]⟩)=2 by rfl)
theorem bU(hm:mtP (ACG "__init__")=al f)(hP:Pg f=al ⟨1,nv,UF⟩)(A:At n r g U s):r.wp (call (.ref r.T.cls) []) (Ans r g (.obj [U.length,U.length+1,U.length+2]) (U++[.dictS [],.dictS [],.dictS []])) s:=by
 refine Bb A.ok.cls λN mN C F=>?_;have hz:=λb o e=>A.has.fz b o (A.has.base b o e);refine Vm (C.keeps hz).obj λx1 x2 x3 x4 x5 x6 x7 x8 x9 xa xb xc hC=>FW (F.mt _ f hm) λ_ fa fo e1 e2 e3 e4=>wpAny_call_obj_init PySem.F.objNew hC (C.keeps hz).ns e2 (hz _ _ e3) e4 λh' x dx Mk=>A.ok.fns f _ fa hP e1 _ λfd body o vars lam I=>?_;have hz':=λb o e=>Mk.keeps b o (hz b o e);refine wpAny_call (codeAny_call_cells ?_ (hz' _ _ I.ob) I.data (A.nolimit.keeps Mk.keeps) (I.code.keeps hz') I.bd (I.bind [.ref x] rfl) I.clo (λp hp=>?_) (λai ic=>?_) I.cor I.gen I.kind)
 ·exact BV (Nat.add_le_add (AAC (AA9 _ _) A.depth) (RN _)) rfl
 ·refine(I.par p.1 (List.of_mem_zip hp).1).imp id λh=>⟨h,?_⟩
  obtain⟨c,q⟩:=Cp (Bo h);exact oE (F8 q) λc q=>q▸rfl
 ·refine oEE ic.toInCall.same λhh tk hs=>?_;obtain⟨ox,hx,hc,hnc,h4|⟨d,hd,hne,h5⟩⟩:=id Mk.inst
  ·exact Ak h4.1 (Mk.dict ox hx)
  have e:=As hd (Mk.dict ox hx);rw[e] at hd hne h5;refine Cy h5 λod _ _ h6 _=>?_;have lt:∀{b o},h'.get? b=al o->h'.objs.size≠b:=λe q=>by rw[<-q,By] at e;exact Aa e
  have M0:FR r.T s x dx (callEnvC fd h'.objs.size fa).locals _ (λ_=>az) [] [] ai:=⟨ic.toInCall.ns,Mk.inst.keeps ic.toInCall.keep,λo e=>As (ic.toInCall.keep _ _ hx) e▸hd,λb o e=>ic.toInCall.keep _ _ (Mk.keeps b o e),Mk.newX,Mk.newD,lt hx,lt h6,Ah,ABY,.nil,by rw[hs],by rw[hs]⟩
  have hv:∀{v},vars[0]? = al v->Kx.kd ⟨vars,fd.scope.names,vars,glP,lam⟩ v .local=true->(callEnvC fd h'.objs.size fa).kindOf v=al .local/\bindL (callEnvC fd h'.objs.size fa).kindOf ((vars.take 1).zip [.ref x]) (λ_=>az) v=al (.ref x):=λ{v} h1 h2=>by have h3:=Kx.kd_eq h2;exact⟨h3,(HJ (List.Nodup.sublist (AC4 1 vars) I.nd) ((AC0 Nat.zero_lt_one)▸h1) rfl).1 h3⟩
  exact AAO (UE I.kind (λv h1 h2=>hv h1 h2) (C.keeps hz) F I.is M0 λs' D1 D2 D3 ns M=>⟨rfl,Ug A.has M⟩) (λ_ _ h=>h) λ_ _ h=>h.elim
theorem SE.new(hm:mtP (ACG "__init__")=al f)(hP:Pg f=al ⟨1,nv,UF⟩):SE n .new J U (.obj [U.length,U.length+1,U.length+2]) (U++[.dictS [],.dictS [],.dictS []]):=λc g s ex hc I=>hc (λex=>c.wp (eval ex c.env) (Ans c.toAr g _ _) s) λnm np es p h1 h2=>by obtain rfl:es=[]:=h2;refine PyProof.Rows.Call_Name rfl (CF I h1 λx hv=>?_);obtain rfl:x=.ref c.T.cls:=hv;exact Bb I.ok.cls λN mN C F=>PyProof.Rows.callWith_cls0 C (λb o e=>I.has.fz b o (I.has.base b o e)) (bU hm hP I.toAt)
section
variable{l:Nat}
theorem N3{α β:Type}{f:α->Option β}:∀{l:List α},(∃e,e∈l/\f e=az)->(l.filterMap f).length<l.length
 |[],h=>by refine oEA h λ_ h _=>?_;exact nomatch h
 |a::r,h=>by
  refine oEA h λe h he=>?_;rw[ADH];rcases AAR.mp h with q|h
  ·exact q▸he▸Nat.lt_succ_of_le (List.length_filterMap_le _ _)
  ·have ih:=N3 (f:=f) (l:=r) (iEA e h he);cases f a with
   |none=>exact Nat.lt_succ_of_lt ih
   |some b=>exact Nat.succ_lt_succ ih
theorem W7(hn:env.scope.names=K.names)(h:Iw K ts=true):swappedStores [.Tuple ts k p] (.Tuple vs k' p') env=pure az:=by
 unfold swappedStores;dsimp only;split
 ·rfl
 ·split
  ·rfl
  ·refine if_pos ?_;rw[Bool.or_eq_true];refine .inl (bne_iff_ne.mpr (ACX ?_));refine oEA (ADV.mp h) λe he h0=>N3 (iEA e he ?_);cases e with
   |Name nm p =>
    have h1:(!K.kd nm .local)=true:=h0;have h2:(env.kindOf nm==al .local)=false:=by rw[AN hn,beq_eq_false_iff_ne];exact ABG (ACZ _▸h1)
    show(if (env.kindOf nm==al .local&&_)=true then al nm else az)=az;exact h2▸rfl
   |_=>exact ff_ h0
theorem SS.swp(hn:3<=n)(h:SE n (.tup es) J U v ag)(hv:CK v=al ws)(hl:ws.length=xs.length)(hq:Q (.next (Fv J xs ws)) ag):SS n (.swp xs es) J U Q:=λc g s x hc I=>hc (λx=>c.wp (exec x c.env) (BL n c g Q) s) λts k p vs k' p' pos h1 h2=>by have h2:IsE (.tup es) c.K (.Tuple vs k' p'):=λR_ kk=>kk vs k' p' h2;refine Bt (Ql (λt l=>rfl) (W7 I.cx.names h1.2)) (AAD (AA7 (BJ h h2 I λX aj ai le I1 ao=>?_)));exact CD I1.has ao hv (R_:=λX=>c.wp (assign (.Tuple ts k p) c.env X>>=λ_=>pure Flow.next) (BL n c g Q) ai) λt Xs hT hr _ _=>AAD (I1.unpack h1.1 hT hr hl hn λan am le2 I2=>AAY λR_ k1 _=>k1 _ ag an hq (le.toO.trans le2) I2)
theorem So:∀{vs:List Expr},Go es K vs->x∈vs->LZ x:=by
 induction es with
 |nil=>intro vs h hx;rw[show vs=[] from h] at hx;exact nomatch hx
 |cons e es _ ih=>exactλ{vs} h hx=>h (λvs=>x∈vs->LZ x) (λy l h1 h2 hx=>(AAR.mp hx).elim (λq=>q▸Ck e h1) (ih h2)) hx
 |_=>exactλh=>h.elim
theorem Tj(X:IV n c)(hp:Go es c.K vs)(h:Tk c.K a b d pa pb pd vs=true):swappedStores [.Tuple [.Name a pa,.Name b pb,.Name d pd] k p] (.Tuple vs k' p') c.env=pure (al [a,b,d]):=by
 have h0:=AAH.mp h;have h1:=AAH.mp h0.1;have h3:=AAH.mp h1.1;have h4:=AAH.mp h3.1;have h5:=AAH.mp h4.1;have h6:=AAH.mp h5.1;have h7:=AAH.mp h6.1;have h8:=AAH.mp h7.1;have kd:∀{x},c.K.kd x .local=true->(c.env.kindOf x==al .local)=true:=λh=>by rw[AN X.names,Kx.kd_eq h];rfl
 have hb:c.env.blockKind=.function:=by unfold Env.blockKind;rw[X.kind];rfl
 have e1:(if (c.env.kindOf a==al .local&&pa.line==pa.line)=true then al a else az)=al a:=if_pos (by rw[kd h8.1,beq_self_eq_true];rfl);have e2:(if (c.env.kindOf b==al .local&&pb.line==pa.line)=true then al b else az)=al b:=if_pos (by rw[kd h8.2,h6.2];rfl);have e3:(if (c.env.kindOf d==al .local&&pd.line==pa.line)=true then al d else az)=al d:=if_pos (by rw[kd h7.2,h5.2];rfl);have q1:(!(([Expr.Name a pa,.Name b pb,.Name d pd].length==2||[Expr.Name a pa,.Name b pb,.Name d pd].length==3))||vs.length != 3||c.env.blockKind != .function)=false:=by rw[hb,ABM h3.2];rfl
 refine(if_neg (by rw[show([Expr.Name a pa,.Name b pb,.Name d pd].length)=3 from rfl] at q1 ⊢;rw[q1];exact ABB)).trans ((if_neg λq=>?_).trans ?_)
 ·refine oEA (ADV.mp q) λx hx e=>?_;cases x with
  |Starred z pz=>exact tt_ (congrArg Prod.fst (List.cons.inj ((So hp hx).star c.env [])).1)
  |_=>exact ff_ e
 ·have key:∀N:List Str,N=[a,b,d]->(if (N.length != 3||N.eraseDups.length != N.length)=true then(pure az:Sem (Option (List Str))) else if vs.all (foldedForSure 8)=true then pure az else
   if vs.all (constantsAlone 8)=true then unsupported "assign.tuple-of-constant-expressions:order-of-the-stores" else pure (al N))=pure (al [a,b,d]):=λN hN=>by
   subst hN;have q3:([a,b,d].length != 3||[a,b,d].eraseDups.length != [a,b,d].length)=false:=by rw[ABM h4.2];rfl
   have q4:vs.all (foldedForSure 8)=false:=by simpa using h1.2
   have q5:vs.all (constantsAlone 8)=false:=by simpa using h0.2
   rw[q3,q4,q5];rfl
  refine key _ ?_;have fm:∀{f:Expr->Option Str} {x:Expr} {l:List Expr} {y:Str} {l':List Str},f x=al y->l.filterMap f=l'->(x::l).filterMap f=y::l':=λh h'=>(List.filterMap_cons_some h).trans (congrArg _ h');refine fm ?_ (fm ?_ (fm ?_ rfl))
  ·exact e1
  ·exact e2
  ·exact e3
theorem W6(h:swappedStores [.Tuple [.Name a pa,.Name b pb,.Name d pd] k p] (.Tuple vs k' p') env=pure (al [a,b,d])):exec (.Assign [.Tuple [.Name a pa,.Name b pb,.Name d pd] k p] (.Tuple vs k' p') pos) env =
 (standAt pos>>=λ_=>eval (.Tuple vs k' p') env>>=λZ=>rule "assign.swapped-stores" >>= λ_=>unpackItems Z 3 az>>=λitems=>assignInOrder [bindName env d,bindName env b,bindName env a] items.reverse>>=λ_=>pure Flow.next):=by
 rw[arm_exec_Assign];show(standAt pos>>=λ_=>eval (.Tuple vs k' p') env>>=λZ=>swappedStores [.Tuple [.Name a pa,.Name b pb,.Name d pd] k p] (.Tuple vs k' p') env>>=_)=_;exact h▸rfl
theorem SS.swl(h3':3<=n)(h:SE n (.tup es) J U v ag)(hv:CK v=al [u,w,z])(hq:Q (.next (((J.set l (al z)).set j (al w)).set i (al u))) ag):SS n (.swl i j l es) J U Q:=λc g s x hc I=>hc (λx=>c.wp (exec x c.env) (BL n c g Q) s) λa b d pa pb pd k p vs k' p' pos h1 h2=>by have h3:IsE (.tup es) c.K (.Tuple vs k' p'):=λR_ kk=>kk vs k' p' h2;refine Bt (W6 (Tj I.cx h2 h1.2)) (AAD (AA7 (BJ h h3 I λX aj ai le I1 ao=>?_)));refine CD I1.has ao hv (R_:=λX=>c.wp (rule "assign.swapped-stores" >>= λ_=>unpackItems X 3 az>>=λitems=>assignInOrder [bindName c.env d,bindName c.env b,bindName c.env a] items.reverse>>=λ_=>pure Flow.next) (BL n c g Q) ai) λt Xs hT hr hn _=>AAD (wpAny_rule (AAD ?_));refine Br hr.cons λx1 Ys e1 q1 hr=>Br hr.two λx2 x3 e2 q2 q3=>?_;rw[e2] at e1;have hz:3=Xs.size:=hn;rw[hz];refine wpAny_unpackItems_tuple (I1.hh.none h3') hT λh' he=>?_;rw[e1];have I2:Inv n c J aj ag {ai with heap:=h'}:=I1.step (.refl _ _) (I1.has.keep λb o e=>he b o (λq=>by rw[q,By] at e;exact Aa e) e);refine AAD (AAD (AA8 (wpAny_bindName (I2.store h1.1.2.2 q3 λaE aB aA up3 I3=>?_))));refine AAD (AA8 (wpAny_bindName (I3.store h1.1.2.1 (Av.mono up3 _ _ q2) λaT aK le4 up4 I4=>?_)));refine AAD (AA8 (wpAny_bindName (I4.store h1.1.1 (Av.mono (up3.trans up4) _ _ q1) λg5 s5 le5 _ I5=>?_)));exact AAY (AAY λR_ k1 _=>k1 _ ag g5 hq (le.toO.trans (aA.trans (le4.trans le5))) I5)
end
noncomputable def EY(z:Int)(is:List Int):Int:=match is with|[]=>z|b::r=>r.foldl (λa b=>if a<b then b else a) b
noncomputable def NL(b:Int)(is:List Int):Int:=is.foldl (λa b=>if a<b then b else a) b
theorem Xb(a v:Value):argsOk "max" ⟨[a],[(ACG "default",v)]⟩:=by unfold argsOk;kernel_rfl
section
variable{prog:Program}{w:World}{A:Around}{R:Result->Shared->Prop}{l I S:Addr}{xs:Array Value}{is:List Int}
structure IM(l I S:Addr)(xs:Array Value)(i:Nat)(bs:Array Value)(h:Heap):Prop where
 it:h.IsListIter I l i
 ls:h.IsList l xs
 bo:∃c,h.get? S=al {cls:=.type "list",dict:=az,data:=.seq bs c,slots:=#[]}
theorem IM.turned{i:Nat}{bs:Array Value}{h h':Heap}(x:IM l I S xs i bs h)(hlI:l≠I)(hSI:S≠I)(it:h'.IsListIter I l (i+1))(hs:Heap.SameBut I h h'):IM l I S xs (i+1) bs h':=by exact oEA x.ls λo ho r=>oE x.bo λc hc=>⟨it,⟨o,(hs.2 l hlI).trans ho,r⟩,c,(hs.2 S hSI).trans hc⟩
theorem IM.put{i:Nat}{bs bs':Array Value}{h:Heap}(x:IM l I S xs i bs h)(hlS:l≠S)(hSI:S≠I):IM l I S xs i bs' (h.update S (Obj.mapSeq λ_=>bs')):=by refine oEA x.ls λo ho r=>oE x.bo λc hc=>⟨x.it.at λo e=>(ABD _ _ hSI).trans e,⟨o,(ABD _ _ (Ne.symm hlS)).trans ho,r⟩,_,ACO _ hc rfl⟩
theorem Uc(hh:A.handled=az)(hlI:l≠I)(hSI:S≠I)(hlS:l≠S):∀(k i:Nat) (s:Shared) (b:Int) (t:Tok),xs.size-i=k->IM l I S xs i #[.int b t,.int b t] s.heap->(∀(j:Nat) (x:Value),xs[j]? = al x->∃t,x=Value.int (is.getD j 0) t)->xs.size=is.length ->
 (∀h' tk t',(∀a o,a≠I->a≠S->s.heap.get? a=al o->h'.get? a=al o)->R (.ok (.ret (.int (NL b (is.drop i)) t'))) {s with heap:=h',toks:=tk}) ->
 codeAny (model prog w) A (.builtin "max.loop" ⟨[.ref I,.none,.ref S],[(ACG "default",d)]⟩) R s:=by
 have hname:(toString "max"++toString ".loop" : String) = "max.loop" := by decide
 intro k
 induction k with
 |zero =>
  intro i s b t hk x hx hl hR;refine oE x.bo λc hc=>codeAny_builtin F.entry_max_loop ?_;rw[Around.under_plainId F.plain_max_loop _];refine AAD (wpAny_seqItems hc rfl ?_);refine AAD (wpAny_tryCatch (wpAny_pyNext_list_end hh x.it x.ls (by rw[Array.getElem?_eq_none_iff];exact Zn hk) λh' hx'=>?_));refine AAD (wpAny_updateSeq (hx' S _ hSI hc) rfl (AAD (wpAny_letGo (AAY ?_))));rw[(List.drop_eq_nil_of_le (hl▸Zn hk))] at hR;exact hR _ _ t λa o h1 h2 ho=>(ABD _ _ (Ne.symm h2)).trans (hx' a o h1 ho)
 |succ k ih =>
  intro i s b t hk x hx hl hR;have hi:=by exact(Nat.lt_of_sub_pos (by rw[hk];exact AC3 k))
  refine oE (hx i xs[i] (AB6 hi)) λu hu=>?_;refine oE x.bo λc hc=>?_;have ed:is.drop i=is.getD i 0::is.drop (i+1):=by rw[List.drop_eq_getElem_cons (OG hi hl)];simp[AAN (show i<is.length by exact OG hi hl)]
  refine codeAny_builtin F.entry_max_loop ?_;rw[Around.under_plainId F.plain_max_loop _];show wpAny _ A.in1 (seqItems? (.ref S)>>=_) _ _ s;refine AAD (wpAny_seqItems hc rfl ?_);show wpAny _ A.in1 (tryCatch (pyNext (.ref I)) _>>=_) _ _ s;refine AAD (wpAny_tryCatch (wpAny_pyNext_list_item x.it x.ls (AB6 hi) λh' it' hs=>?_));have x':=x.turned hlI hSI it' hs;refine oE x'.bo λc' hc'=>?_;rw[hu];show wpAny _ A.in1 (tryCatch (holding [.int (is.getD i 0) u,.int (is.getD i 0) u] (richCompare .Gt (.int (is.getD i 0) u) (.int b t)>>=_)) _>>=_) _ _ _;refine AAD (wpAny_tryCatch (AA8 (AAD (P.gt_int ?_))));refine AAD (AA8 (wpAny_truthy_bool ?_));refine AAD (wpAny_letGo (AAY ?_));by_cases hb:is.getD i 0>b
  ·rw[AAI hb];dsimp only;rw[if_pos rfl];refine AAD (wpAny_updateSeq hc' rfl (AAD (wpAny_letGo ?_)));rw[hname];refine AAY ⟨plainId_quiet F.plain_max_loop _,ih (i+1) _ (is.getD i 0) u (Zo hk) (x'.put hlS hSI) hx hl λh'' tk t' hk'=>?_⟩;have e2:NL b (is.drop i)=NL (is.getD i 0) (is.drop (i+1)):=by rw[ed];show(is.drop (i+1)).foldl _ (if b<is.getD i 0 then is.getD i 0 else b)=_;rw[if_pos hb];rfl
   exact e2▸(hR h'' tk t' λa o h1 h2 ho=>hk' a o h1 h2 ((ABD _ _ (Ne.symm h2)).trans ((hs.2 a h1).trans ho)))
  ·rw[AAT hb];dsimp only;rw[if_neg ABB];refine AAD (wpAny_letGo ?_);rw[hname];refine AAY ⟨plainId_quiet F.plain_max_loop _,ih (i+1) _ b t (Zo hk) x' hx hl λh'' tk t' hk'=>?_⟩;have e2:NL b (is.drop i)=NL b (is.drop (i+1)):=by rw[ed];show(is.drop (i+1)).foldl _ (if b<is.getD i 0 then is.getD i 0 else b)=_;rw[if_neg (by(with_reducible assumption))];rfl
   exact e2▸(hR h'' tk t' λa o h1 h2 ho=>hk' a o h1 h2 ((hs.2 a h1).trans ho))
theorem Sr(hh:A.handled=az)(hlI:l≠I)(hSI:S≠I)(hlS:l≠S)(x:IM l I S xs 0 #[] s.heap)(hx:∀(j:Nat) (x:Value),xs[j]? = al x->∃t,x=Value.int (is.getD j 0) t)(hl:xs.size=is.length)
 (hR:∀h' tk t',(∀a o,a≠I->a≠S->s.heap.get? a=al o->h'.get? a=al o)->R (.ok (.ret (.int (EY z is) t'))) {s with heap:=h',toks:=tk}) :
 codeAny (model prog w) A (.builtin "max.loop" ⟨[.ref I,.none,.ref S],[(ACG "default",.int z tz)]⟩) R s:=by
 have hname:(toString "max"++toString ".loop" : String) = "max.loop" := by decide
 refine oE x.bo λc hc=>codeAny_builtin F.entry_max_loop ?_;rw[Around.under_plainId F.plain_max_loop _];refine AAD (wpAny_seqItems hc rfl ?_);cases is with
 |nil =>
  refine AAD (wpAny_tryCatch (wpAny_pyNext_list_end hh x.it x.ls (by rw[Array.getElem?_eq_none_iff,hl];exact AAL _) λh' hx'=>?_));refine AAD (wpAny_rule (AAY ?_));exact hR _ _ tz λa o h1 _ ho=>hx' a o h1 ho
 |cons b is =>
  have hi:0<xs.size:=by rw[hl];exact AC3 _
  refine oE (hx 0 xs[0] (AB6 hi)) λu hu=>?_;refine AAD (wpAny_tryCatch (wpAny_pyNext_list_item x.it x.ls (AB6 hi) λh' it' hs=>?_));have x':=x.turned hlI hSI it' hs;refine oE x'.bo λc' hc'=>?_;rw[hu];show wpAny _ A.in1 (updateSeq S (λ_=>#[.int b u,.int b u])>>=_) _ _ _;refine AAD (wpAny_updateSeq hc' rfl ?_);rw[hname];refine AAY ⟨plainId_quiet F.plain_max_loop _,Uc hh hlI hSI hlS _ 1 _ b u rfl (x'.put hlS hSI) hx hl λh'' tk t' hk'=>?_⟩;exact hR h'' tk t' λa o h1 h2 ho=>hk' a o h1 h2 ((ABD _ _ (Ne.symm h2)).trans ((hs.2 a h1).trans ho))
end
section
variable{k:Int}{is:List Int}
theorem fV:Pr2 (compareOp .In) (.d (.str u)) (.d (.str w)) U (vb (Txt.contains w u)) U/\Pr2 (compareOp .NotIn) (.d (.str u)) (.d (.str w)) U (vb !(Txt.contains w u)) U :=
 ⟨Hf λr g s X Y A hx hy Q q=>by
  refine oEA hx λt q_1 _=>?_;subst q_1;refine oEA hy λt' q_1 _=>?_;subst q_1;exact SB.contains q,
  Hf λr g s X Y A hx hy Q q=>by refine oEA hx λt q_1 _=>?_;subst q_1;refine oEA hy λt' q_1 _=>?_;subst q_1;exact SB.notContains q⟩
theorem Qk:∀{is:List Int} {xs:List Value},Au T g (is.map vi) xs->xs.length=is.length/\∀(j:Nat) (x:Value),xs[j]? = al x->∃t,x=Value.int (is.getD j 0) t
 |[],xs,h=>by rw[h.nil];exact⟨rfl,λj x h=>Aa h⟩
 |i::is,xs,h=>by
  refine Br h.cons λx xs q_2 q_3 h2=>?_;subst q_2;obtain⟨t,h1⟩:=q_3;have ih:=Qk h2;refine⟨congrArg (· + 1) ih.1,λj y hy=>?_⟩;cases j with
  |zero=>exact⟨t,(AAA hy).symm.trans h1⟩
  |succ j=>exact ih.2 j y hy
theorem bX(A:At 3 r g U s)(h:AE U x=al (is.map vi))(hx:Av r.T g x X)(hz:Av r.T g (vi k) Z):r.wp (call (.builtin "max") [X] [(ACG "default",Z)]) (Ans r g (vi (EY k is)) U) s:=by
 refine oE hz λtz q_1=>?_;subst q_1;refine Be A.has hx h (R_:=λX=>r.wp (call (.builtin "max") [X] [(ACG "default",.int k tz)]) (Ans r g (vi (EY k is)) U) s) λa ys hL hr hn _=>oA (Qk hr) λh1 h2=>PyProof.Rows.kmk_tree F.kind_max F.plain_max F.entry_max (Xb _ _) (AAD (wpAny_of_eq rfl ?_));refine AAD (AAY (AAD (wpAny_pyIter_list hL (AAD (wpAny_newObj_type ?_)))));refine IB (id hL) λo ho hc m hd=>?_;have hlt:=ACY ho;have hname:(toString "max"++toString ".loop" : String) = "max.loop" := by decide
 rw[hname];have e3:(s.heap.push {cls:=.type "list_iterator",data:=.fields #[.ref a,.int 0 0]}).objs.size=s.heap.objs.size+1:=ADT ..;have eS:(s.heap.push {cls:=.type "list_iterator",data:=.fields #[.ref a,.int 0 0]}).objs.size≠s.heap.objs.size:=by rw[e3];exact Nat.succ_ne_self _
 have eL:a≠(s.heap.push {cls:=.type "list_iterator",data:=.fields #[.ref a,.int 0 0]}).objs.size:=by rw[e3];exact ACX (Nat.lt_succ_of_lt hlt)
 refine AAY ⟨plainId_quiet F.plain_max_loop _,Sr (A.hh.none (AAL _)) (ACX hlt) eS eL ?_ (λj x hj=>h2 j x ((ABJ)▸hj)) h1 λh' tk t' hk=>?_⟩
 ·exact⟨⟨_,AAK _ (AA3 _ rfl),rfl,rfl⟩,⟨o,AAK _ (AAK _ ho),hc,m,hd⟩,0,AA3 _ rfl⟩
 ·exact .refl (A.has.keep λb o e=>hk b o (λq=>by rw[q,By] at e;exact Aa e) (λq=>by rw[q,e3,ABO (ADP _)] at e;exact Aa e) (AAK _ (AAK _ e))) ⟨t',rfl⟩
theorem SE.maxd(hn:3<=n)(ha:SE n a J U x ag)(hz:SE n b J ag (vi k) ak)(h:AE ak x=al (is.map vi)):SE n (.maxd a b) J U (vi (EY k is)) ak:=λc g s ex hc I=>hc (λex=>c.wp (eval ex c.env) (Ans c.toAr g (vi (EY k is)) ak) s) λnm np z y kp p h1 h2 h3=>by refine AAD (CF I h1 λf hf=>?_);obtain rfl:f=.builtin "max" := hf;have st:=(Ck a h2).star c.env [];refine PyProof.Rows.callWith_kw ?_ (by rw[st];rfl) (st▸rfl);rw[st];refine spliced_cons (AAO (ha c g s z h2 I) (λX ai aL=>aL _ λaj av ar ao=>spliced_nil ?_) λ_ _ h=>h);have I1:=I.step av ar;refine PyProof.Rows.kws_cons (AAO (hz c aj ai y h3 I1) (λZ am aM=>aM _ λan le2 aC ay=>PyProof.Rows.kws_nil ?_) λ_ _ h=>h);exact BP (av.trans le2) (bX ((I1.step le2 aC).toAt.less hn) h (Av.mono le2.toup _ _ ao) ay)
end
set_option maxRecDepth 100000
section
variable{prog:Program}{w:World}{A:Around}{E:Value->Shared->Prop}{s:Shared}{d S:Addr}{kvs:List (Str×Value)}{ep:Nat}
noncomputable abbrev Wd(prog:Program)(w:World)(kvs:List (Str×Value))(i:Nat)(v:Value):Prop:=∃k x,kvs[i]? = al (k,x)/\(strKind prog w).is k v=true
theorem Os{R:Result->Shared->Prop}(hh:A.handled=az)(hm:s.heap.DictAt (strKind prog w) d kvs ep)(hd:(d==sysModules)=false)(res:Value)(c0:Nat)(hS:s.heap.get? S=al {cls:=.type "list",data:=.seq #[] c0})(hdS:d≠S)
 (hR:∀h' tk acc' c',(∀b o,b≠S->s.heap.get? b=al o->h'.get? b=al o)->h'.get? S=al {cls:=.type "list",dict:=az,data:=.seq acc' c',slots:=#[]} ->
  ItemsOf (Wd prog w kvs) acc' kvs.length->R (.ok (.ret res)) {s with heap:=h',toks:=tk}) (hn:kvs.length<=sizeLine) :
 wpAny (model prog w) A.in1 (Builtin.List.listExtendWith (.ref S) (.ref d) res)
  (λfin s'=>match fin with|.done f=>R (.ok f) s'|.again c'=>c'.quiet=true/\codeAny (model prog w) A c' R s') (λe s'=>R (.error e) s') s:=by
 have hSI:=ACX (ACY hS);have hT:=hm.dictOf.typeIs;refine oEA (id hT) λod hod hcd=>?_;unfold Builtin.List.listExtendWith;refine AAD (wpAny_typeOf hT ?_);have h1:Builtin.List.listSameRef (.ref S) (.ref d)=false:=by simp[Builtin.List.listSameRef,Ne.symm hdS]
 have h2:(Value.type "dict"==Value.type "list")=false:=by decide
 have h3:(Value.type "dict"==Value.type "tuple")=false:=by decide
 simp only[h1,h2,h3,Bool.or_false,ADB,↓reduceIte];refine AAD (wpAny_pyIter_dict hd hm ?_);refine AAD (AA8 ?_);have hT':({s with heap:=s.heap.push {cls:=.type "dict_keyiterator",data:=.fields #[.ref d,.int 0 0,.int kvs.length 0,.int ep 0]}}:Shared).TypeIs (.ref d) "dict" := ⟨od,AAK _ hod,hcd⟩
 unfold Builtin.List.listLengthHint;refine AAD (wpAny_specialOf hT' F.slot_dict_len.lookup ?_)
 wp_delta
 refine AAD (wpAny_isInstance (b:=true) hT' (by rw[isSubtype_type];kernel_rfl) ?_);refine AAD (wpAny_typeOf hT' (AAY ?_));rw[if_pos (by decide)];have hS1:=AAK {cls:=.type "dict_keyiterator",data:=.fields #[.ref d,.int 0 0,.int kvs.length 0,.int ep 0]} hS;refine AAD (wpAny_rule (AAD ?_));refine AAD (wpAny_updateSeq hS1 rfl ?_);have hS2:=ACO (Obj.mapSeq (·.push Value.none)) hS1 rfl;refine wpAny_updateSeq hS2 rfl ?_;have hS3:=ACO (Obj.mapSeq (·.pop)) hS2 rfl;have oth:∀b o,b≠S->(s.heap.push {cls:=.type "dict_keyiterator",data:=.fields #[.ref d,.int 0 0,.int kvs.length 0,.int ep 0]}).get? b=al o->(((s.heap.push {cls:=.type "dict_keyiterator",data:=.fields #[.ref d,.int 0 0,.int kvs.length 0,.int ep 0]}).update S (Obj.mapSeq (·.push Value.none))).update S (Obj.mapSeq (·.pop))).get? b=al o:=λb o hb e=>(ABD _ _ (Ne.symm hb)).trans ((ABD _ _ (Ne.symm hb)).trans e);refine AAY ⟨plainId_quiet F.plain_extend_loop _,codeAny_extend_loopS ((Walks.dictKeys (A:=A.in1) (knd:=strKind prog w) hh s.heap.objs.size d (ACX (ACY hod)) kvs ep).toS) hn _ (λq=>(AAR.mp q).elim hSI λq=>hdS (AAJ.mp q).symm) _ kvs.length 0 _ _ _ rfl (ABF _) ?_ hS3 (ItemsOf.nil _) λs' acc' c' hm hS' hacc=>?_⟩
 ·exact Bb hm λo es ho hr=>⟨⟨_,oth _ _ (Ne.symm hSI) (AA3 _ rfl),rfl,rfl⟩,o,es,oth _ _ hdS (AAK _ ho),hr⟩
 rw[Moved.eq_with hm];refine hR s'.heap s'.toks acc' c' (λb ob hb e=>hm.heap b ob (λhmem=>?_) (oth b ob hb (AAK _ e))) hS' hacc;exact(AAR.mp hmem).elim hb λhmem=>absurd (ACY e) ((AAJ.mp hmem)▸ABU _)
theorem S1(hh:A.handled=az)(hm:s.heap.DictAt (strKind prog w) d kvs ep)(hd:(d==sysModules)=false)(hS:s.heap.get? S=al {cls:=.type "list",data:=.seq #[]})(hdS:d≠S)
 (hR:∀h' tk acc' c',(∀b o,b≠S->s.heap.get? b=al o->h'.get? b=al o)->h'.get? S=al {cls:=.type "list",dict:=az,data:=.seq acc' c',slots:=#[]} ->
  ItemsOf (Wd prog w kvs) acc' kvs.length->R (.ok (.ret .none)) {s with heap:=h',toks:=tk}) (hn:kvs.length<=sizeLine) :
 wpAny (model prog w) A.in1 (Builtin.«list.__init__» ⟨[.ref S,.ref d],[]⟩)
  (λfin s'=>match fin with|.done f=>R (.ok f) s'|.again c'=>c'.quiet=true/\codeAny (model prog w) A c' R s') (λe s'=>R (.error e) s') s:=by
 refine AAD ?_;unfold Builtin.List.listItems;refine AAD (wpAny_seqItems hS rfl (AAY ?_));refine AAD (wpAny_updateSeq hS rfl ?_);have hS2:=ACO (Obj.mapSeq (λ_=>(#[]:Array Value))) hS rfl;have oth:∀b o,b≠S->s.heap.get? b=al o->(s.heap.update S (Obj.mapSeq (λ_=>(#[]:Array Value)))).get? b=al o :=
  λb o hb e=>(ABD _ _ (Ne.symm hb)).trans e
 refine AAD (wpAny_letGo ?_);exact Bb hm λo es ho hr=>Os hh ⟨o,es,oth d o hdS ho,hr⟩ hd .none _ hS2 hdS (λh' tk acc' c' hk hS' hacc=>hR h' tk acc' c' (λb o hb e=>hk b o hb (oth b o hb e)) hS' hacc) hn
theorem K3{Q:Value->Shared->Prop}(hh:A.handled=az)(hm:s.heap.DictAt (strKind prog w) d kvs ep)(hd:(d==sysModules)=false)(hn:kvs.length<=sizeLine)
 (hQ:∀h' tk acc' c',(∀b o,s.heap.get? b=al o->h'.get? b=al o) ->
  h'.get? s.heap.objs.size=al {cls:=.type "list",dict:=az,data:=.seq acc' c',slots:=#[]}->ItemsOf (Wd prog w kvs) acc' kvs.length->Q (.ref s.heap.objs.size) {s with heap:=h',toks:=tk}) :
 wpAny (model prog w) A (call (.type "list") [.ref d]) Q E s:=by
 refine callType_codes (Q₁:=λobj ai=>obj=.ref s.heap.objs.size/\ai = {s with heap:=s.heap.push {cls:=.type "list",data:=.seq #[]}}) F.called_list (F.typeCall_list_1 _) F.entry_list_init
  (code_list_new _ ⟨rfl,rfl⟩) λobj ai h₁=>?_
 refine oA h₁ λq_0 q_1=>?_;subst q_0;subst q_1;have hS:(s.heap.push {cls:=.type "list",data:=.seq #[]}).get? s.heap.objs.size=al {cls:=.type "list",data:=.seq #[]}:=AA3 _ rfl;refine Bb hm λo es ho hr=>⟨⟨_,hS,rfl⟩,F.args_list_init_2 _ _,S1 hh ⟨o,es,AAK _ ho,hr⟩ hd hS (ACX (ACY ho)) (λh' tk acc' c' hk hS' hacc=>?_) hn⟩
 exact⟨rfl,hQ h' tk acc' c' (λb o e=>hk b o (ACX (ACY e)) (AAK _ e)) hS' hacc⟩
end
theorem Ay.ofGet{α β:Type}{R:α->β->Prop}:∀{as:List α} {bs:List β},as.length=bs.length->(∀(i:Nat) a b,as[i]? = al a->bs[i]? = al b->R a b)->Ay R as bs
 |[],[],_,_=>trivial
 |a::as,b::bs,h,k=>⟨k 0 a b rfl rfl,Ay.ofGet (Nat.succ.inj h) λi a b e1 e2=>k (i+1) a b e1 e2⟩
 |[],_::_,h,_=>Dk h.symm rfl
 |_::_,[],h,_=>Dk h rfl
section
variable{kvs:List (Str×PyData)}
theorem XQ(h:U[k]? = al (.dictS kvs))(hl:∀p,p∈kvs->p.1.length<=line):Nb (λX=>call (Bj .list) [X]) (.ref k) U (vss (kvs.map (·.1))) 3:=λr g s X A hx=>by
 refine oEA hx λa hk q_2=>?_;subst q_2;refine A.has.ob k a _ hk h _ λx hx' rx=>rx _ λes ep ws ho hd hk' hp hn hr hz=>?_;have e:=hr.length.symm;refine K3 (A.hh.none (AAL _)) ⟨x,es,hx',ho,hd,hk',hp,hn⟩ ((A.less (ABF _)).notMods hk) (Bd▸e▸hz) λh' tk acc c' hkp ha hI=>.made A.has hkp (By _) ha (Ay.ofGet ?_ λi v y e1 e2=>?_) ?_
 ·rw[AAB,AAB,ABA (xs:=acc),hI.1,e]
 ·refine Bb (hI.2 i y (ABJ.symm.trans e2)) λkey z q1 q2=>?_;rw[ABI,ABI] at e1;cases e3:kvs[i]? with
  |none=>rw[e3] at e1;exact Aa e1
  |some p =>
   rw[e3] at e1;refine oEA (hr.get e3) λb e4 e5=>oE (AC6 q2) λt q_1=>?_;subst q_1;exact(AAA e1)▸(⟨t,by show Value.str key t=Value.str p.1 t;rw[(e5.1.trans (congrArg Prod.fst (As q1 e4)).symm)],hl p (AA5 e3)⟩)
 ·exact lml (lml hz)
end
theorem NP:∀{ns:List Str} {vals:List Value},vals.length=ns.length->∀{n:Str},n∈ns->((ns.zip vals).lookup n).isNone=false
 |[],_,_,_,h=>nomatch h
 |_::_,[],h,_,_=>Dk h.symm rfl
 |a::ns,v::vals,h,n,hn=>by
  rw[List.zip_cons_cons,ADC];cases e:n==a with
  |true=>rfl
  |false=>exact NP (ns:=ns) (Nat.succ.inj h) ((AAR.mp hn).resolve_left λq=>by rw[q,beq_self_eq_true] at e;exact tt_ e)
theorem Nm:∀{ns:List Str} {vals:List Value},vals.length=ns.length->ns.Nodup->ns.filterMap (λn=>((ns.zip vals).lookup n).map (n,·))=ns.zip vals
 |[],[],_,_=>rfl
 |[],_::_,h,_=>Dk h rfl
 |_::_,[],h,_=>Dk h.symm rfl
 |a::ns,v::vals,h,hn=>by
  have hn:=ABX.mp hn;have h0:(((a::ns).zip (v::vals)).lookup a).map (a,·)=al (a,v):=by rw[List.zip_cons_cons,ADC,beq_self_eq_true];rfl
  refine(List.filterMap_cons_some (f:=λn=>(((a::ns).zip (v::vals)).lookup n).map (n,·)) h0).trans ?_;show(a,v)::_=(a,v)::ns.zip vals;refine congrArg _ (Eq.trans ?_ (Nm (ns:=ns) (vals:=vals) (Nat.succ.inj h) hn.2));have e:∀l:List Str,(∀x,x∈l->x∈ns)->l.filterMap (λn=>(List.lookup n ((a,v)::ns.zip vals)).map (n,·))=l.filterMap (λn=>(List.lookup n (ns.zip vals)).map (n,·)):=by
   intro l hl
   induction l with
   |nil=>rfl
   |cons b l ih =>
    have q:List.lookup b ((a,v)::ns.zip vals)=List.lookup b (ns.zip vals):=by rw[ADC,beq_false_of_ne λ(q:b=a)=>hn.1 (q▸hl b (.head _))]
    rw[ADH,ADH,q,ih λx hx=>hl x (.tail _ hx)]
  exact e ns λ_ h=>h
theorem K5(hp:fd.params=⟨[],as,az,[],kd,az,df⟩)(hd:fd.defaults=.none)(hk:fd.kwdefaults=.none)(h:vals.length=as.length)(hn:(as.map (·.arg)).Nodup) :
 bindArgs fd ⟨vals,[]⟩=pure ((as.map (·.arg)).zip vals):=by
 have hl:vals.length=(as.map (·.arg)).length:=by rw[AAB];exact h
 have h1:(List.filter (λn=>(List.lookup n ((as.map (·.arg)).zip vals)).isNone) (as.map (·.arg)))=[]:=List.filter_eq_nil_iff.mpr λn hn=>by rw[NP hl hn];exact ABB
 have h4:decide (vals.length>(as.map (·.arg)).length)=false:=AAT (hl▸ABU _);have h5:notAStandIn .none=pure ():=rfl;cases fd;dsimp only at hp hd hk;subst hp hd hk;unfold bindArgs seqItems?;dsimp only[List.map_nil,List.nil_append,List.forIn_nil,AAV,Option.isNone_none,List.length_nil,Option.getD_none];simp only[↓List.forIn_nil,↓pure_bind,Bool.and_true,h4,h5,Option.getD_none,ADB,↓reduceIte,List.length_nil,List.drop_nil,List.zip_nil_right,Nat.sub_zero,List.take_length,h1,List.isEmpty_nil,Bool.not_true,(Nm hl hn),AAV,List.map_nil,List.nil_append]
structure Gn(K:Kx)(i:Nat)(nm:Str)(sc:Scope):Prop where
 at_:K.isAt i nm=true
 kind:sc.kind=.function
 gen:sc.isGenerator=false
 co:sc.isCoroutine=false
 nms:∀p,p∈sc.names->QK K nm p=true
 uni:∀p,p∈sc.names->sc.names.lookup p.1=al p.2
 par:sc.names.lookup nm=al .local
theorem JE(h:(!b)=true):b=false:=by cases b with|true=>exact ff_ h|false=>rfl
theorem NZ(h:Ut K i nm sc=true):K.lam.isSome=true/\Gn K i nm sc:=by have h1:=AAH.mp h;have h2:=AAH.mp h1.2;have h3:=AAH.mp h2.2;have h4:=AAH.mp h3.2;have h5:=AAH.mp h4.2;have h6:=AAH.mp h5.2;have h7:=AAH.mp h6.2;exact⟨h1.1,h2.1,AAG h3.1,JE h4.1,JE h5.1,ACL.mp h6.1,λp hp=>AAG (ACL.mp h7.1 p hp),AAG h7.2⟩
theorem PY(l:List Value)(h:TriplesOk l)(e:codeAmong pos (l++[rawInt a,rawInt b,c])=al cv):codeAmong pos l=al cv\/cv=c:=by
 fun_induction TriplesOk l with
 |case1 =>
  have e:(if (a==(pos.line:Int)&&b==(pos.col:Int))=true then al c else codeAmong pos [])=al cv:=e;split at e
  ·exact .inr (AAA e).symm
  ·exact Aa e
 |case2 a' t b' u x rest ih =>
  have e:(if (a'==(pos.line:Int)&&b'==(pos.col:Int))=true then al x else codeAmong pos (rest++[rawInt a,rawInt b,c]))=al cv:=e;show(if (a'==(pos.line:Int)&&b'==(pos.col:Int))=true then al x else codeAmong pos rest)=al cv\/_;split at e
  ·rename_i q;rw[if_pos q];exact .inl e
  ·rename_i q;rw[if_neg q];exact ih h e
 |case3=>exact h.elim
theorem Has.code(H:Has T g U s)(tf:∀t q q',(t,q)∈T.tabs->(t,q')∈T.tabs->q=q')(hm:(t,q)∈T.tabs)(hx:Heap.ExtBut t s.heap s'.heap)(hn:s.heap.get? c'=az)(hc:s'.heap.get? c'=al oc)(ht:s'.heap.get? t=al {cls:=.none,data:=.fields ps})(tri:TriplesOk ps.toList)
 (hcc:∀pos cv,codeAmong pos ps.toList=al cv->∃c o vs u,cv=.ref c/\(g.put c' oc).fz c=al o/\o.data=.fields vs/\vs[1]? = al (.str q u)) (hg:s'.gens=s.gens) (hos:s'.os=s.os):Has T (g.put c' oc) U s':=by
 refine H.tb t q hm _ λps0 t1 t2 t3 t4 _ _=>?_;have F:=H.free hn;have le:G.le [] g (g.put c' oc):=.put F.fz;have ne:∀{b:Addr},b≠c'->(g.put c' oc).fz b=g.fz b:=λq=>if_neg q;have tc:t≠c':=λe=>Ak hn (e▸t4);refine⟨λb x e=>?_,λb x e=>(H.hd b x e).keep λy=>hx b y λe'=>Ak t2 (e'▸e),H.len,H.nd,λb hb=>(ne λe=>F.mu (e▸hb)).trans (H.ap b hb),λb x e=>⟨(ne λe'=>Ak F.hid (e'▸e)).trans (H.ah b x e).1,(H.ah b x e).2⟩,λk b x e1 e2 R_ r=>H.ob k b x e1 e2 R_ λy h1 h2=>r y (hx b y (λe=>t3 (e▸AA5 e1)) h1) (DV.mono le.toup _ _ h2),λb x e=>le.fz b x (H.base b x e),λt' q' m R_ r=>?_,hg.trans H.gens,hos.trans H.os⟩
 ·by_cases e':b=c'
  ·rw[e'] at e ⊢;rw[<-AAA (G.put_self.symm.trans e)];exact hc
  ·rw[ne e'] at e;exact hx b x (λe''=>Ak t1 (e''▸e)) (H.fz b x e)
 ·by_cases e':t'=t
  ·subst e';rw[tf t' q' q m hm] at r;exact r ps ((ne tc).trans t1) t2 t3 ht tri hcc
  ·exact H.tb t' q' m R_ λps h1 h2 h3 h4 h5 h6=>r ps ((ne λe=>F.tab q' (e▸m)).trans h1) h2 h3 (hx t' _ e' h4) h5 λpos cv e=>Ec (h6 pos cv e) λc o vs u q1 q2 q3=>EJ c o vs u q1 (le.fz _ _ q2) q3
def KF(g:G)(env:Env)(q nm:Str)(ap:Pos)(b:Expr)(sc:Scope)(f:Addr):Prop:=∀R_:Prop,(∀(pm ctv:Value) (c':Addr) (o fo:Obj) (vs:Array Value) (t:Tok),g.fz f=al fo->fo.data=.func (W.kla_fn "<lambda>" q (Ga nm ap) b sc (Ez env sc.names []) pm (.ref c') ctv)->g.fz c'=al o->o.data=.fields vs->vs[1]? = al (.str q t)->R_)->R_
theorem KF.mono(up:G.up g g')(h:KF g env q nm ap b sc f):KF g' env q nm ap b sc f:=λR_ k=>h R_ λpm ctv c' o fo vs t h1 h2 h3 h4 h5=>k pm ctv c' o fo vs t (up.fz _ _ h1) h2 (up.fz _ _ h3) h4 h5
theorem Gn.fre(L:Gn K i nm sc)(h:(m,NameKind.free)∈sc.names):K.names.lookup m=al .cell\/K.names.lookup m=al .free:=by
 rcases ABC.mp (L.nms _ h) with h|h
 ·exact BK (AAG (AAH.mp h).1) rfl
 ·rcases ABC.mp h with h|h
  ·exact(ABC.mp (AAH.mp h).2).imp Kx.kd_eq Kx.kd_eq
  ·exact BK (AAG h) rfl
theorem NY(L:Gn c.K i nm sc)(I:Inv n c J g U s):closureFor sc c.env=pure (Ez c.env sc.names []) :=
 Gx sc λm hm=>I.loc.ce m (by rw[AN I.cx.names];exact L.fre hm) _ λa _ e _ _=>⟨a,e⟩
theorem NW(L:Gn c.K i nm sc)(hl:c.K.lam=al (t,q))(I:Inv n c J g U s):c.wp (eval (.Lambda (Ga nm ap) b sc lp) c.env) (λX s'=>CS c.T [] g U (λg'=>∃f,X=.ref f/\KF g' c.env q nm ap b sc f) s') s:=by
 refine bR (I.cx.lamc t q hl) λ_ ht hq a hcode hd=>KT I.cx.rd.ns λmg mb hg hb _ bm ob b1 b2 b3 b4 b5 b6=>I.has.tb t q ht _ λps t1 t2 t3 hP tri hcc=>?_;have kp:=λb o e=>I.has.fz b o (I.has.base b o e);have hg':s.heap.Ns mainGlobals mg:=hg.keeps kp;have hC:W.CodeHd s.heap a t:=hd.keeps kp;have hgP:mainGlobals≠t:=λe=>by refine CY hg' λo es ep e' hd _=>?_;rw[e,hP] at e';rw[<-AAA e'] at hd;exact nomatch hd
 have hbP:bm≠t:=λe=>Ak t1 (e▸I.has.base _ _ b3);have hbG:bm≠mainGlobals:=λe=>by refine CY hg λo es ep e' hd _=>?_;rw[e,e'] at b3;rw[<-AAA b3,hd] at b6;exact nomatch b6
 have hB:s.heap.BuiltinsAt mg t:=⟨bm,ob,b1,b2,hbG,hbP,kp _ _ b3,b4,b5,b6⟩
 refine W.kla_eval rfl ?_;rw[hq];cases hit:codeAmong lp ps.toList with
 |none =>
  refine W.kla_makeFunction (NY L I) I.cx.glob hg' hcode hC hP tri hit hgP hB λc' ctv h' tk hx hge hlt hrec htb=>Fz hrec λbF oc vs u e2 hoc hdc hv=>?_;obtain rfl:=ABR e2;have hn:s.heap.get? c'=az:=ABO hge;have le1:G.le [] g (g.put c' oc):=.put (I.has.free hn).fz;have H1:=I.has.code (s':={s with heap:=h',toks:=tk}) I.ok.ok.tf ht hx hn hoc htb (Array.toList_append▸TriplesOk_snoc _ _ _ _ tri) (λpos cv e=>by
   rw[Array.toList_append] at e;rcases PY _ tri e with e|e
   ·exact Ec (hcc pos cv e) λc3 o3 vs3 t3 q1 q2 q3=>EJ c3 o3 vs3 t3 q1 (le1.fz _ _ q2) q3
   ·exact(Ex c' oc vs u e G.put_self hdc hv)) rfl rfl
  have F:=H1.free (By _);exact .mk _ (le1.trans (.put F.fz)) (F.put (H1.keep λb o e=>AAK _ e) (AA3 _ rfl)) (iEA _ rfl (λR_ k=>k _ ctv c' oc _ vs u G.put_self rfl ((G.le.put (own:=[]) F.fz).fz _ _ G.put_self) hdc hv))
 |some cv =>
  refine Fz (hcc lp cv hit) λc' o3 vs3 u q1 q2 q3 q4=>?_;subst q1;refine W.kla_makeFunctionHit (NY L I) I.cx.glob hg' hcode hC hP tri hit hB λctv h' tk hk hsz=>?_;have H1:=I.has.keep (s':={s with heap:=h',toks:=tk}) hk;have F:=H1.free (By _);exact .mk _ (.put F.fz) (F.put (H1.keep λb o e=>AAK _ e) (AA3 _ rfl)) (iEA _ rfl (λR_ k=>k _ ctv c' o3 _ vs3 u G.put_self rfl ((G.le.put (own:=[]) F.fz).fz _ _ q2) q3 q4))
noncomputable abbrev mV(c:Cx)(nm q:Str)(sc:Scope)(C f:Addr)(cd:Value):Cx:=⟨⟨c.T,W.envX q sc C f cd (Ez c.env sc.names [])::c.fe,c.A.in1.in1.deeper (W.envX q sc C f cd (Ez c.env sc.names []))⟩,c.K.lsub nm sc,W.envX q sc C f cd (Ez c.env sc.names []),[C]⟩
theorem Gn.noc(L:Gn K i nm sc):∀p,p∈sc.names->p.2≠.cell:=λp hp e=>by
 rcases ABC.mp (L.nms _ hp) with h|h
 ·exact BK (e.symm.trans (AAG (AAH.mp h).1)) rfl
 ·rcases ABC.mp h with h|h
  ·exact BK (e.symm.trans (AAG (AAH.mp h).1)) rfl
  ·exact BK (e.symm.trans (AAG h)) rfl
theorem Gn.loc(L:Gn K i nm sc)(h:(m,NameKind.local)∈sc.names):m=nm:=by
 rcases ABC.mp (L.nms _ h) with h|h
 ·exact ABM (AAH.mp h).2
 ·rcases ABC.mp h with h|h
  ·exact BK (AAG (AAH.mp h).1) rfl
  ·exact BK (AAG h) rfl
theorem Gn.at(L:Gn K i nm sc):K.vars[i]? = al nm:=by
 have h:(match K.vars[i]? with|some m=>m==nm|none=>false)=true:=L.at_;cases e:K.vars[i]? with
 |none=>rw[e] at h;exact ff_ h
 |some m=>rw[e] at h;rw[ABM h]
theorem NX(L:Gn c.K i nm sc)(I:Inv n c J g U s)(h:(Ez c.env sc.names []).lookup m=al a):c.env.cells.lookup m=al a:=by
 rcases HG (Bo h) with e|e
 ·exact nomatch e
 ·exact I.loc.ce m (by rw[AN I.cx.names];exact L.fre e.1) _ λa' _ h1 _ _=>by rw[h1,e.2,h1];rfl
theorem Xn(L:Gn c.K i nm sc)(I:Inv (n+1) c J g U s)(r:Av c.T g v X)(H:Has c.T (g.hide C o) U s')(hC:g.hid C=az)(ho:o.cls=frC)(hn:NsF (g.hide C o).hid C λy=>[(nm,X)].reverse.lookup y):Inv n (mV c nm q sc C f cd) (J.set i (al v)) (g.hide C o) U s':=by
 have up:G.up g (g.hide C o):=⟨λ_ _ e=>e,λ_ _ e=>e⟩
 have tf:RF (W.envX q sc C f cd (Ez c.env sc.names [])):=⟨(by show sc.kind≠_;rw[L.kind];exactλq=>nomatch q),L.gen,L.co,rfl,rfl⟩
 have frs:Cv (g.hide C o) (W.envX q sc C f cd (Ez c.env sc.names [])::c.fe):=λe he=>by
  rcases AAR.mp he with q|q
  ·exact CY hn λo' es ep e1 e2 _=>q▸⟨tf,C,o',es,ep,rfl,e1,As G.hide_self e1▸ho,e2⟩
  ·exact I.frs.hideN hC e q
 refine⟨⟨I.ok,?_,(DN _ c.fe rfl tf),?_,?_,by exact(I.hh.less (ADP _)).mono up,frs,H⟩,⟨I.cx.rd,rfl,L.kind,rfl,rfl,(DN _ c.fe rfl rfl),λm m' a h h'=>I.cx.cinj m m' a (NX L I h) (NX L I h'),I.cx.nd,.head _,λm _ a hk _=>absurd rfl (L.noc _ (Bo (show sc.names.lookup m=al .cell from hk))),λt q h=>Aa h⟩,λR_ k=>k _ hn λj y u e1 e2 e3=>?_,λy hk R_ k=>?_,AT (AV G.hide_self)⟩
 ·show c.A.frames.map _=_;exact I.frames▸rfl
 ·show c.A.depth+1+n<=600;rw[ADK,AC9 1 n];exact I.depth
 ·show c.A.units+1+1+3+100*n<=9000;have h:c.A.units+100*(n+1)<=9000:=I.units;lia
 ·have hy:y=nm:=L.loc (Bo (show sc.names.lookup y=al .local from e3));rcases Jj e2 with⟨h1,h2⟩|⟨h1,h2⟩
  ·rw[hy,<-h2];exact iEA X (by show List.lookup nm [(nm,X)]=al X;rw[ADC,beq_self_eq_true]) (Av.mono up _ _ r)
  ·exact absurd (Ic I.cx.nd (hy▸e1) L.at) h1
 ·have hf:(y,NameKind.free)∈sc.names:=hk.elim (λh=>absurd rfl (L.noc _ (Bo (show sc.names.lookup y=al .cell from h)))) λh=>Bo (show sc.names.lookup y=al .free from h);refine I.loc.ce y (by rw[AN I.cx.names];exact L.fre hf) R_ λa u h1 h2 h3=>k a u (Rx hf h1) (h2.to λo' e=>(G.hide_ne λq=>Ak hC (q▸e)).trans e) λj u' e1 e2=>?_;rcases Jj e2 with⟨p1,p2⟩|⟨p1,p2⟩
  ·have e3:y=nm:=As (p1▸e1) L.at;exact BK (As (L.uni _ hf) (e3▸L.par)) rfl
  ·exact CN up (h3 j u' e1 p2)
theorem Us:bindArgs (W.kla_fn "<lambda>" q (Ga nm ap) b sc cl pm cd ct) ⟨[x],[]⟩=pure [(nm,x)] :=
 K5 (fd:=W.kla_fn "<lambda>" q (Ga nm ap) b sc cl pm cd ct) (as:=[⟨nm,az,ap⟩]) rfl rfl rfl rfl (ABX.mpr ⟨AA1,ABY⟩)
theorem Ur(hs:SE n key (J.set i (al v)) U w U')(L:Gn c.K i nm sc)(hb:IsE key (c.K.lsub nm sc) b)(I:Inv (n+1) c J g U s)(lm:KF g c.env q nm ap b sc f)(r:Av c.T g v X):wpAny (model c.T.prog c.T.w) c.A.in1.in1 (call (.ref f) [X]) (Ans c.toAr g w U') (λ_ _=>False) s:=lm _ λpm ctv c' o fo vs t h1 h2 h3 h4 h5=>by refine wpAny_call (W.kla_callFunE (BV (AAC (AA9 _ _) I.depth) rfl) (I.has.fz _ _ h1) h2 L.co L.gen rfl ⟨c',o,vs,t,rfl,I.has.fz _ _ h3,h4,h5⟩ ?_);rw[Us];refine AAY (wpAny_newFunctionEnv L.noc (λy hy=>by rw[AAJ.mp hy];exact L.par) (λh₁ hns hsb=>?_) L.kind);have hk:∀b o,s.heap.get? b=al o->h₁.get? b=al o:=λb o e=>hsb.extBut b o (ACX (ACY e)) (AAK _ e);refine⟨I.nolimit.keeps hk,?_⟩;refine Cy hns λoL es ep hoL hL=>?_;have F:=I.has.free (By _);show codeAny _ _ (.expr b (W.envX q sc s.heap.objs.size f (.ref c') (Ez c.env sc.names []))) _ _;refine W.kla_codeExpr (AAO (hs _ _ _ b hb (Xn (q:=q) (f:=f) (cd:=.ref c') L I r ((I.has.keep (s':={s with heap:=h₁,toks:=s.toks+[(nm,X)].length}) hk).hideH (s':={s with heap:=h₁,toks:=s.toks+[(nm,X)].length}) F.fz F.mu F.tab (λ_ _ _ e=>e) (.fr hoL)) F.hid rfl ⟨frO oL,es,ep,G.hide_self,hL⟩)) (λy s' p=>p _ λan le aD rv=>?_) λ_ _ h=>h.elim);exact AS (aD.back (its:=[s.heap.objs.size]) (own:=[]) (s':=s') (G.le.trans (g':=g.hide s.heap.objs.size (frO oL)) (.hide (.head _)) le.toO) (AT F.hid) (λ_ _ _ e=>e) (aD.away (AT (AV ((le.hid s.heap.objs.size AA1).trans G.hide_self))))) λhd H' le' _=>.mk _ le' H' (Av.eta rv)
end Mine.Internal
namespace Mine.Internal
set_option tactic.hygienic true
set_option genInjectivity true
set_option backward.match.sparseCases true
noncomputable def Dh{κ α:Type}(lt:κ->κ->Bool)(p:κ×α):List (κ×α)->List (κ×α)
 |[]=>[p]
 |q::r=>if lt q.1 p.1 then q::Dh lt p r else p::q::r
noncomputable def AH{κ α:Type}(lt:κ->κ->Bool):List (κ×α)->List (κ×α)
 |[]=>[]
 |p::r=>Dh lt p (AH lt r)
noncomputable def Dt{κ α:Type}(rev:Bool)(lt:κ->κ->Bool)(l:List (κ×α)):List α :=
 match rev with
 |true=>(AH lt l.reverse).reverse.map (·.2)
 |false=>(AH lt l).map (·.2)
structure Wc{κ:Type}(lt:κ->κ->Bool):Prop where
 irr:∀a,lt a a=false
 trans:∀a b c,lt a b=true->lt b c=true->lt a c=true
 total:∀a b,lt a b=false->lt b a=false->a=b
section
variable{κ α:Type}
def KM(lt:κ->κ->Bool)(R:κ×α->κ×α->Prop)(a b:κ×α):Prop:=lt a.1 b.1=true\/(a.1=b.1/\R a b)
theorem JV(p:κ×α)(l:List (κ×α)):(Dh lt p l).Perm (p::l):=by
 induction l with
 |nil=>exact .refl _
 |cons q r ih =>
  unfold Dh;split
  ·exact(ih.cons q).trans (.swap ..)
  ·exact .refl _
theorem Bh(l:List (κ×α)):(AH lt l).Perm l:=by
 induction l with
 |nil=>exact .refl _
 |cons p r ih=>exact(JV p _).trans (ih.cons p)
theorem PC(H:Wc lt)(p:κ×α)(l:List (κ×α))(hl:l.Pairwise (KM lt R))(hp:∀q∈l,R p q):(Dh lt p l).Pairwise (KM lt R):=by
 induction l with
 |nil=>exact List.pairwise_singleton ..
 |cons q r ih =>
  have h1:=ACS.mp hl;unfold Dh;split
  ·rename_i hq
   refine ACS.mpr ⟨λx hx=>?_,ih h1.2 λy hy=>hp y (.tail _ hy)⟩;rcases AAR.mp ((JV p r).mem_iff.mp hx) with rfl|hx
   ·exact .inl hq
   ·exact h1.1 x hx
  ·rename_i hq
   have hq:lt q.1 p.1=false:=by simpa using hq
   have first:KM lt R p q:=by
    cases h3:lt p.1 q.1 with
    |true=>exact .inl h3
    |false=>exact .inr ⟨H.total _ _ h3 hq,hp q (.head _)⟩
   refine ACS.mpr ⟨λx hx=>?_,hl⟩;rcases AAR.mp hx with rfl|hx'
   ·exact first
   ·rcases h1.1 x hx' with h4|h4
    ·rcases first with h5|h5
     ·exact .inl (H.trans _ _ _ h5 h4)
     ·exact .inl (h5.1▸h4)
    ·rcases first with h5|h5
     ·exact .inl (h4.1▸h5)
     ·exact .inr ⟨h5.1.trans h4.1,hp x hx⟩
theorem DY(H:Wc lt)(l:List (κ×α))(hl:l.Pairwise R):(AH lt l).Pairwise (KM lt R):=by
 induction l with
 |nil=>exact .nil
 |cons p r ih =>
  have h1:=ACS.mp hl;exact PC H p _ (ih h1.2) λq hq=>h1.1 q ((Bh r).mem_iff.mp hq)
end
theorem CT{α:Type}{P:α->α->Prop}(asym:∀a b,P a b->P b a->False):∀{l l':List α},l.Pairwise P->l'.Pairwise P->l.Perm l'->l=l'
 |[],l',_,_,hp=>(List.nil_perm.mp hp).symm
 |a::l,l',h1,h2,hp=>by
  cases l' with
  |nil=>exact absurd hp.length_eq (by simp)
  |cons b l' =>
   have c1:=ACS.mp h1;have c2:=ACS.mp h2;have ab:a=b:=by
    rcases AAR.mp (hp.mem_iff.mp (.head _)) with e|e
    ·exact e
    ·rcases AAR.mp (hp.mem_iff.mpr (.head l')) with e'|e'
     ·exact e'.symm
     ·exact(asym _ _ (c1.1 b e') (c2.1 a e)).elim
   subst ab;rw[CT asym c1.2 c2.2 (List.Perm.cons_inv hp)]
open PySem PyProof.Rows
noncomputable def RR(J:Keyed->Nat)(xs:Array Keyed)(i:Nat):Nat:=match xs[i]? with|some p=>J p|none=>0
theorem Df(h:xs[i]? = ys[j]?):RR J xs i=RR J ys j:=by unfold RR;rw[h]
def Bef(κ:KeyKind)(J:Keyed->Nat)(xs:Array Keyed)(i j:Nat):Prop:=κ.klt (KK κ xs i) (KK κ xs j)\/(KK κ xs i=KK κ xs j/\RR J xs i<RR J xs j)
def BD(κ:KeyKind)(J:Keyed->Nat)(xs:Array Keyed)(n:Nat):Prop:=∀i j,i<j->j<n->Bef κ J xs i j
theorem Bef.congr(h:Bef κ J ys i' j')(hi:xs[i]? = ys[i']?)(hj:xs[j]? = ys[j']?):Bef κ J xs i j:=by unfold Bef;rw[KK_congr hi,KK_congr hj,Df hi,Df hj];exact h
theorem Bef.kle(h:Bef κ J xs i j):κ.kle (KK κ xs i) (KK κ xs j):=h.elim (λh=>KeyOrd.kle_of_klt h) λh=>by rw[h.1];exact KeyOrd.kle_refl _
theorem VD(h:κ.kle (KK κ xs i) (KK κ xs j))(hr:RR J xs i<RR J xs j):Bef κ J xs i j:=by
 cases hb:κ.blt (KK κ xs i) (KK κ xs j) with
 |true=>exact .inl hb
 |false=>exact .inr ⟨(κ.total _ _ h hb).symm,hr⟩
theorem BD.sorted(h:BD κ J xs n):SortedToK κ xs n:=λi j hij hj=>by
 by_cases e:i=j
 ·subst e;exact KeyOrd.kle_refl _
 ·exact(h i j (R4 hij e) hj).kle
structure SOk(κ:KeyKind)(J:Keyed->Nat)(a₀:Array Keyed)(st:SortSt)(n:Nat):Prop where
 base:SBase a₀ st
 rest:∀i,n<=i->i<a₀.size->RR J (arrOf st) i=i
 low:∀i,i<n->RR J (arrOf st) i<n
section
variable{prog:Program}{w:World}{A:Around}{E:Value->Shared->Prop}{a₀:Array Keyed}{κ:KeyKind}{J:Keyed->Nat}
theorem SOk.more{st:SortSt}(h:SOk κ J a₀ st n)(hn:n<a₀.size):SOk κ J a₀ st (n+1) :=
 ⟨h.base,λi h1 h2=>h.rest i (by(exact ACJ ‹_›)) h2,λi hi=>by
  by_cases e:i=n
  ·subst e;rw[h.rest i (AAL _) hn];(with_reducible assumption)
  ·have:=h.low i (R5 hi e);(exact AB4 ‹_›)⟩
theorem Do(hk:k<xs.size)(hl:l<=k)(x:Nat) :
 (x=l/\(bubble xs k (k-l))[x]? = xs[k]?)\/(l<x/\x<=k/\(bubble xs k (k-l))[x]? = xs[x-1]?)\/((x<l\/k<x)/\(bubble xs k (k-l))[x]? = xs[x]?):=by
 have e:=getElem?_bubble hk (k-l) (by(exact Nat.sub_le _ _)) x;rw[show k-(k-l)=l by exact(Nat.sub_sub_self hl)] at e;by_cases h1:x=l
 ·rw[if_pos h1] at e;exact .inl ⟨h1,e⟩
 ·rw[if_neg h1] at e;by_cases h2:l<x/\x<=k
  ·rw[if_pos h2] at e;exact .inr (.inl ⟨h2.1,h2.2,e⟩)
  ·rw[if_neg h2] at e;exact .inr (.inr ⟨by exact((Nat.lt_or_gt_of_ne h1).imp id λq=>Nat.lt_of_not_le λq'=>h2 ⟨q,q'⟩),e⟩)
theorem Ny(hk:k<xs.size)(hl:l<=k)(hs:BD κ J xs k)(hlo:∀i,i<l->Bef κ J xs i k)(hhi:∀i,l<=i->i<k->κ.klt (KK κ xs k) (KK κ xs i)) :
 BD κ J (bubble xs k (k-l)) (k+1):=by
 intro i j hij hj;rcases Do hk hl i with⟨h1,e1⟩|⟨h1,h2,e1⟩|⟨h1,e1⟩
 ·rcases Do hk hl j with⟨g1,e2⟩|⟨g1,g2,e2⟩|⟨g1,e2⟩
  ·exact(absurd (h1.trans g1.symm) (ACX hij))
  ·exact Bef.congr (.inl (hhi (j-1) (h1▸R9 hij) (RA g1 hj))) e1 e2
  ·exact(by omega)
 ·rcases Do hk hl j with⟨g1,e2⟩|⟨g1,g2,e2⟩|⟨g1,e2⟩
  ·exact(absurd (ABT h1 hij) (g1▸ABU j))
  ·exact Bef.congr (hs (i-1) (j-1) (Nat.sub_lt_sub_right (AAS (ABF l) h1) hij) (RA g1 hj)) e1 e2
  ·exact(by omega)
 ·rcases Do hk hl j with⟨g1,e2⟩|⟨g1,g2,e2⟩|⟨g1,e2⟩
  ·exact Bef.congr (hlo i (OG hij g1)) e1 e2
  ·exact Bef.congr (hs i (j-1) (by omega) (RA g1 hj)) e1 e2
  ·exact Bef.congr (hs i j hij (Zg hl hj g1)) e1 e2
theorem SOk.bubble{st:SortSt}(h:SOk κ J a₀ st k)(hk:k<a₀.size)(hl:l<=k):SOk κ J a₀ (setArr st (bubble (arrOf st) k (k-l))) (k+1):=by
 have hks:k<(arrOf st).size:=by rw[h.base.size];exact hk
 refine⟨h.base.setArr (bubble_perm _ _ _),λi h1 h2=>?_,λi hi=>?_⟩
 ·rcases Do hks hl i with⟨g1,e⟩|⟨g1,g2,e⟩|⟨g1,e⟩
  ·exact(VK h1 (g1▸hl))
  ·exact VK h1 g2
  ·exact(Df e)▸h.rest i (by(exact ACJ ‹_›)) h2
 ·rcases Do hks hl i with⟨g1,e⟩|⟨g1,g2,e⟩|⟨g1,e⟩
  ·rw[Df e,h.rest k (AAL _) hk];(exact Nat.lt_add_one _)
  ·rw[Df e];have:=h.low (i-1) (RA g1 hi);(exact AB4 ‹_›)
  ·rw[Df e];have:=h.low i (Zg hl hi g1);(exact AB4 ‹_›)
theorem IN{st:SortSt}{Q:Bool->SortSt->Prop}(hO:κ.OneLt)(h0:KeysOf κ a₀)(hn:n<=a₀.size)(hok:ok<=n)(ho1:1<=ok)(hB:SOk κ J a₀ st ok)(hs:BD κ J (arrOf st) ok)
 (h:∀st',SOk κ J a₀ st' n->BD κ J (arrOf st') n->Q true st'):wpS (model prog w) A E s (binarySort' 0 n ok) Q st:=by
 rw[binarySort'_eq];simp only[AC2];refine wpS_bind (wpS_mono (wpS_forRange (I:=λk c st'=>c=(az,())/\SOk κ J a₀ st' (min k n)/\BD κ J (arrOf st') (min k n))
  (Q:=λc st'=>c=(az,())/\SOk κ J a₀ st' n/\BD κ J (arrOf st') n) ?step ?fin ?init) ?post)
 case post =>
  rintro c st' ⟨rfl,hB',hs'⟩;exact wpS_pure (h st' hB' hs')
 case init =>
  rw[show min (max ok 1) n=ok by exact(by omega)];exact⟨rfl,hB,hs⟩
 case fin =>
  rintro c st' ⟨hc,hB',hs'⟩;rw[show min (max (max ok 1) n) n=n by exact(by omega)] at hB' hs';exact⟨hc,hB',hs'⟩
 case step =>
  rintro k c st' hak hkn ⟨rfl,hB',hs'⟩;rw[show min k n=k by exact(ACP (ACJ hkn))] at hB' hs';have hk:=by(exact AAC ‹_› ‹_›)
  have hss:=hs'.sorted;refine wpS_bind (wpS_mono (wpS_forRange (I:=λx c st''=>st''=st'/\∃l r,c=(az,l,r)/\l<=r/\r<=k/\r-l<=k-x ∧
   (∀i,i<l->κ.kle (KK κ (arrOf st') i) (KK κ (arrOf st') k))/\(∀i,r<=i->i<k->κ.klt (KK κ (arrOf st') k) (KK κ (arrOf st') i)))
   (Q:=λc st''=>st''=st'/\∃l r,c=(az,l,r)/\l<=k ∧
    (∀i,i<l->κ.kle (KK κ (arrOf st') i) (KK κ (arrOf st') k))/\(∀i,l<=i->i<k->κ.klt (KK κ (arrOf st') k) (KK κ (arrOf st') i))) ?istep ?ifin ?iinit) ?ipost)
  case iinit=>exact Gb rfl 0 k rfl (by(exact ABF _)) (by lia) (by(exact Nat.sub_le _ _)) (λi hi=>by lia) (λi h1 h2=>by exact R6 h1 h2)
  case ifin =>
   rintro c st'' ⟨rfl,l,r,rfl,hlr,hrk,hm,hlo,hhi⟩;have:l=r:=by exact(by omega)
   subst this;exact Ja rfl l l rfl hrk hlo hhi
  case istep =>
   rintro x c st'' _ hxk ⟨rfl,l,r,rfl,hlr,hrk,hm,hlo,hhi⟩;dsimp only;by_cases hge:l≥r
   ·rw[if_pos hge];have:l=r:=by exact(ADO hlr hge)
    subst this;exact wpS_pure (Ja rfl l l rfl hrk hlo hhi)
   ·rw[if_neg hge];refine wpS_bind (wpS_ltKK hO hB'.base h0 hk (ABT (VH hge hrk) hk) ?_);cases hless:κ.blt (KK κ (arrOf st'') k) (KK κ (arrOf st'') ((l+r) / 2))
    case true =>
     dsimp only;rw[if_pos rfl];refine wpS_pure (Gb rfl l ((l+r) / 2) rfl (by omega) (ACJ (VH hge hrk)) (by omega) hlo (λi h1 h2=>?_));exact KeyOrd.klt_of_klt_of_kle hless (hss _ _ h1 h2)
    case false =>
     dsimp only;rw[if_neg ABB];refine wpS_pure (Gb rfl ((l+r) / 2+1) r rfl (YW hge) (by(with_reducible assumption)) (by omega) (λi h1=>?_) hhi);exact KeyOrd.kle_trans (hss i ((l+r) / 2) (by(exact ACF ‹_›)) (VH hge hrk)) hless
  case ipost =>
   rintro c st'' ⟨rfl,l,r,rfl,hlk,hlo,hhi⟩;rw[moveDown'_eq];refine wpS_bind (wpS_modify (wpS_pure ⟨rfl,?_,?_⟩))
   ·rw[show min (k+1) n=k+1 by exact Zb hkn];exact hB'.bubble hk hlk
   ·rw[show min (k+1) n=k+1 by exact Zb hkn];exact Ny (hB'.base.size▸hk) hlk hs' (λi hi=>VD (hlo i hi) (by rw[hB'.rest k (AAL _) hk];exact hB'.low i (by(exact AAC ‹_› ‹_›)))) hhi
theorem GQ{st:SortSt}{Q:AscSt->SortSt->Prop}(hO:κ.OneLt)(h0:KeysOf κ a₀)(hn:nrem<=a₀.size)(ha:1<=a)(han:a<=nrem)(hB:SOk κ J a₀ st a)
 (hs:BD κ J (arrOf st) a)
 (h:∀n,a<=n->n<=nrem->SOk κ J a₀ st n->BD κ J (arrOf st) n->(n=nrem\/κ.klt (KK κ (arrOf st) n) (KK κ (arrOf st) (n-1)))->Q (az,n) st) :
 wpS (model prog w) A E s (ascLoop a nrem) Q st:=by
 unfold ascLoop;refine wpS_forRange (I:=λx c st'=>st'=st/\c=(az,x)/\SOk κ J a₀ st x/\BD κ J (arrOf st) x) ?step ?fin ⟨rfl,rfl,hB,hs⟩
 case fin =>
  rintro c st' ⟨rfl,rfl,hB',hs'⟩;rw[show max a nrem=nrem by exact Za han] at hB' hs' ⊢;exact h nrem han (AAL _) hB' hs' (.inl rfl)
 case step =>
  rintro x c st' hax hxn ⟨rfl,rfl,hB',hs'⟩;dsimp only;refine wpS_bind (wpS_ltKK hO hB'.base h0 (by(exact AAC ‹_› ‹_›)) (VP hxn hn) ?_);cases hless:κ.blt (KK κ (arrOf st') x) (KK κ (arrOf st') (x-1))
  case true =>
   dsimp only;rw[if_pos rfl];exact wpS_pure (h x hax (by(exact ACJ ‹_›)) hB' hs' (.inr hless))
  case false =>
   dsimp only;rw[if_neg ABB];refine wpS_pure ⟨rfl,rfl,hB'.more (by(exact AAC ‹_› ‹_›)),λi j hij hj=>?_⟩;by_cases hjx:j<x
   ·exact hs' i j hij hjx
   ·have hj':=by exact(ADO (ACF hj) (ACM hjx))
    subst hj';refine VD (KeyOrd.kle_trans (hs'.sorted i (j-1) (R9 hij) (OE hij)) hless) ?_;rw[hB'.rest j (AAL _) (ACE hxn hn)];exact hB'.low i hij
end
theorem BY(hm:m<=xs.size)(x:Nat) :
 (b<=x/\x<m/\(mirror xs b m ((m-b) / 2))[x]? = xs[b+m-1-x]?)\/((x<b\/m<=x)/\(mirror xs b m ((m-b) / 2))[x]? = xs[x]?):=by
 have e:=getElem?_mirror_all (i:=b) hm x;by_cases h1:b<=x/\x<m
 ·rw[if_pos h1] at e;exact .inl ⟨h1.1,h1.2,e⟩
 ·rw[if_neg h1] at e;exact .inr ⟨by exact jH h1,e⟩
theorem SOk.mirror{st:SortSt}(h:SOk κ J a₀ st m)(hm:m<=a₀.size):SOk κ J a₀ (setArr st (mirror (arrOf st) b m ((m-b) / 2))) m:=by
 have hms:m<=(arrOf st).size:=by rw[h.base.size];exact hm
 refine⟨h.base.setArr (mirror_perm _ _ _ _),λi h1 h2=>?_,λi hi=>?_⟩
 ·show RR J (PyProof.Rows.mirror (arrOf st) b m ((m-b) / 2)) i=i;rcases BY (b:=b) hms i with⟨g1,g2,e⟩|⟨g1,e⟩
  ·exact R6 h1 g2
  ·exact(Df e)▸h.rest i h1 h2
 ·show RR J (PyProof.Rows.mirror (arrOf st) b m ((m-b) / 2)) i<m;rcases BY (b:=b) hms i with⟨g1,g2,e⟩|⟨g1,e⟩
  ·exact(Df e)▸h.low _ (LV g1 g2)
  ·exact(Df e)▸h.low _ hi
def OQ(κ:KeyKind)(J:Keyed->Nat)(xs:Array Keyed)(n:Nat):Prop:=∀i j,i<j->j<n->Bef κ J xs j i
theorem TB(hm:m<=xs.size)(h:OQ κ J xs m):BD κ J (mirror xs 0 m ((m-0) / 2)) m:=by
 intro i j hij hj;rcases BY (b:=0) hm i with⟨g1,g2,e1⟩|⟨g1,e1⟩
 ·rcases BY (b:=0) hm j with⟨k1,k2,e2⟩|⟨k1,e2⟩
  ·exact Bef.congr (h (0+m-1-j) (0+m-1-i) (VN hij k2) (R8 g1 hij k2)) e1 e2
  ·exact VL hj k1
 ·exact Zi hij hj g1
structure Dsc(κ:KeyKind)(J:Keyed->Nat)(a₀:Array Keyed)(st:SortSt)(x neq:Nat):Prop where
 ok:SOk κ J a₀ st x
 le:neq+1<=x
 rev:∀i j,i<j->j<x->i<x-(neq+1)->Bef κ J (arrOf st) j i
 eq:∀i,x-(neq+1)<=i->i<x->KK κ (arrOf st) i=KK κ (arrOf st) (x-1)/\RR J (arrOf st) i=i
theorem Dsc.kle{st:SortSt}(h:Dsc κ J a₀ st x neq)(hi:i<x):κ.kle (KK κ (arrOf st) (x-1)) (KK κ (arrOf st) i):=by
 by_cases h1:i<x-(neq+1)
 ·exact(h.rev i (x-1) (Zr h1) (OE hi) h1).kle
 ·exact((h.eq i (by(exact ACM ‹_›)) hi).1)▸KeyOrd.kle_refl _
theorem Dsc.turn{st:SortSt}(h:Dsc κ J a₀ st x neq)(hx:x<=a₀.size) :
 SOk κ J a₀ (setArr st (mirror (arrOf st) (x-(neq+1)) x ((x-(x-(neq+1))) / 2))) x/\OQ κ J (mirror (arrOf st) (x-(neq+1)) x ((x-(x-(neq+1))) / 2)) x ∧
 ∀k,KK κ (mirror (arrOf st) (x-(neq+1)) x ((x-(x-(neq+1))) / 2)) k=KK κ (arrOf st) k:=by
 have hxs:x<=(arrOf st).size:=by rw[h.ok.base.size];exact hx
 have hle:=h.le;refine⟨h.ok.mirror hx,λi j hij hj=>?_,KK_mirror_equal hxs λk h1 h2=>(h.eq k h1 h2).1⟩;rcases BY (b:=x-(neq+1)) hxs i with⟨g1,g2,e1⟩|⟨g1,e1⟩
 ·rcases BY (b:=x-(neq+1)) hxs j with⟨k1,k2,e2⟩|⟨k1,e2⟩
  ·refine Bef.congr (.inr ⟨?_,?_⟩) e2 e1
   ·exact((h.eq _ (OD k2) (LV k1 k2)).1)▸(h.eq _ (OD g2) (R8 g1 hij k2)).1.symm
   ·rw[(h.eq _ (OD k2) (LV k1 k2)).2,(h.eq _ (OD g2) (R8 g1 hij k2)).2];exact VN hij k2
  ·exact jI hij hj g1 k1
 ·rcases BY (b:=x-(neq+1)) hxs j with⟨k1,k2,e2⟩|⟨k1,e2⟩
  ·exact Bef.congr (h.rev i _ (jG hij k2 g1) (LV k1 k2) (VJ hij k2 g1)) e2 e1
  ·exact Bef.congr (h.rev i j hij hj (VJ hij hj g1)) e2 e1
theorem Dsc.whole{st:SortSt}(h:Dsc κ J a₀ st x 0):OQ κ J (arrOf st) x:=λi j hij hj=>h.rev i j hij hj (jV hij hj)
theorem HE{st:SortSt}(ok:SOk κ J a₀ st x)(hx:x<a₀.size)(h1:1<=x)(rv:OQ κ J (arrOf st) x)(hl:κ.klt (KK κ (arrOf st) x) (KK κ (arrOf st) (x-1)))
 (hk:∀i,i<x->κ.kle (KK κ (arrOf st) (x-1)) (KK κ (arrOf st) i)):Dsc κ J a₀ st (x+1) 0:=by
 refine⟨ok.more hx,by(exact AC3 _),λi j hij hj hi=>?_,λi h2 h3=>?_⟩
 ·by_cases e:j=x
  ·subst e;exact .inl (KeyOrd.klt_of_klt_of_kle hl (hk i (by(with_reducible assumption))))
  ·exact rv i j hij (R5 hj e)
 ·have:i=x:=by exact jU h2 h3
  subst this;exact⟨rfl,ok.rest i (AAL _) hx⟩
theorem Dsc.more{st:SortSt}(h:Dsc κ J a₀ st x neq)(hx:x<a₀.size)(he:KK κ (arrOf st) x=KK κ (arrOf st) (x-1)):Dsc κ J a₀ st (x+1) (neq+1):=by
 have hle:=h.le;refine⟨h.ok.more hx,by(exact Nat.lt_succ_of_le ‹_›),λi j hij hj hi=>?_,λi h2 h3=>?_⟩
 ·by_cases e:j=x
  ·subst e;rcases h.rev i (j-1) (jX hi) (VQ hle) (VO hi) with q|⟨_,q⟩
   ·exact .inl (he▸q)
   ·rw[(h.eq (j-1) (Zs) (VQ hle)).2] at q;have:=h.ok.low i (by(with_reducible assumption));lia
  ·exact h.rev i j hij (R5 hj e) (VO hi)
 ·show KK κ (arrOf st) i=KK κ (arrOf st) x/\_;by_cases e:i=x
  ·subst e;exact⟨rfl,h.ok.rest i (AAL _) hx⟩
  ·exact he▸h.eq i (jW h2) (R5 h3 e)
section
variable{prog:Program}{w:World}{A:Around}{E:Value->Shared->Prop}{a₀:Array Keyed}{κ:KeyKind}{J:Keyed->Nat}
theorem Ji{st:SortSt}{Q:Option Nat->SortSt->Prop}(hO:κ.OneLt)(h0:KeysOf κ a₀)(hn:nrem<=a₀.size)(h1:1<=n)(hnn:n<=nrem)(hB:SOk κ J a₀ st n)
 (hs:OQ κ J (arrOf st) n) (h:∀m st',SOk κ J a₀ st' m->1<=m->m<=nrem->BD κ J (arrOf st') m->Q (al m) st') :
 wpS (model prog w) A E s (tail3 n nrem) Q st:=by
 unfold tail3;have hsz:n<=(arrOf st).size:=by rw[hB.base.size];(exact AAC ‹_› ‹_›)
 refine wpS_bind (wpS_reverse ?_);have hB':SOk κ J a₀ (setArr st (mirror (arrOf st) 0 n ((n-0) / 2))) n:=hB.mirror (VI hnn hn);exact wpS_bind (GQ hO h0 hn h1 hnn hB' (TB hsz hs) λm hm1 hm2 hBm hsm _=>wpS_pure (h m _ hBm (by(exact AAC ‹_› ‹_›)) hm2 hsm))
theorem KP{st:SortSt}{Q:DescSt->SortSt->Prop}(hO:κ.OneLt)(h0:KeysOf κ a₀)(hn:nrem<=a₀.size)(h1:1<=n)(hnn:n<=nrem)(hD:Dsc κ J a₀ st n 0)
 (h:∀m neq st',n<=m->m<=nrem->Dsc κ J a₀ st' m neq->Q (az,m,neq) st') :
 wpS (model prog w) A E s (descLoop n nrem) Q st:=by
 unfold descLoop;refine wpS_forRange (I:=λx c st'=>∃neq,c=(az,x,neq)/\Dsc κ J a₀ st' x neq) ?step ?fin (iEA 0 rfl hD)
 case fin =>
  rintro c st' ⟨neq,rfl,hD'⟩;rw[show max n nrem=nrem by exact Za hnn] at hD' ⊢;exact h nrem neq st' hnn (AAL _) hD'
 case step =>
  rintro x c st' hax hxn ⟨neq,rfl,hD'⟩;dsimp only;refine wpS_bind (wpS_ltKK hO hD'.ok.base h0 (by(exact AAC ‹_› ‹_›)) (VP hxn hn) ?_);cases hless:κ.blt (KK κ (arrOf st') x) (KK κ (arrOf st') (x-1))
  case true =>
   dsimp only;rw[if_pos rfl];by_cases hneq:neq>0
   ·rw[if_pos hneq];refine oAA (hD'.turn (ACJ (ACE hxn hn))) λt1 t2 t3=>wpS_bind (wpS_reverse (wpS_pure (iEA 0 rfl (HE t1 (by(exact AAC ‹_› ‹_›)) (Ze h1 hax) t2 ?_ ?_))))
    ·rw[t3,t3];exact hless
    ·intro i hi;rw[t3,t3];exact hD'.kle hi
   ·rw[if_neg hneq];have:neq=0:=by exact Zc hneq
    subst this;exact wpS_pure (iEA 0 rfl (HE hD'.ok (by(exact AAC ‹_› ‹_›)) (by(exact AAC ‹_› ‹_›)) hD'.whole hless λi hi=>hD'.kle hi))
  case false =>
   dsimp only;rw[if_neg ABB];refine wpS_bind (wpS_ltKK hO hD'.ok.base h0 (VP hxn hn) (by(exact AAC ‹_› ‹_›)) ?_);cases hlarger:κ.blt (KK κ (arrOf st') (x-1)) (KK κ (arrOf st') x)
   case true =>
    dsimp only;rw[if_pos rfl];exact wpS_pure (h x neq st' hax (by(exact ACJ ‹_›)) hD')
   case false =>
    dsimp only;rw[if_neg ABB];exact wpS_pure (iEA (neq+1) rfl (hD'.more (by(exact AAC ‹_› ‹_›)) (KeyOrd.kle_antisymm hlarger hless)))
theorem Gp{st:SortSt}{Q:Option Nat->SortSt->Prop}(hO:κ.OneLt)(h0:KeysOf κ a₀)(hn:nrem<=a₀.size)(hnn:n+1<=nrem)(hD:Dsc κ J a₀ st (n+1) 0)
 (h:∀m st',SOk κ J a₀ st' m->1<=m->m<=nrem->BD κ J (arrOf st') m->Q (al m) st') :
 wpS (model prog w) A E s (descPart n nrem) Q st:=by
 unfold descPart;refine wpS_bind (wpS_lift (wpAny_rule ⟨rfl,?_⟩));refine wpS_bind (KP hO h0 hn (by(exact AC3 _)) hnn hD λm neq st' hm1 hm2 hD'=>?_);dsimp only;by_cases hneq:neq>0
 ·exact(if_pos hneq)▸oAA (hD'.turn (by(exact AAC ‹_› ‹_›))) λt1 t2 _=>wpS_bind (wpS_reverse (Ji hO h0 hn (Zf hm1) hm2 t1 t2 h))
 ·rw[if_neg hneq];have:neq=0:=by exact Zc hneq
  subst this;exact Ji hO h0 hn (Zf hm1) hm2 hD'.ok hD'.whole h
theorem KQ{st:SortSt}{Q:Option Nat->SortSt->Prop}(hO:κ.OneLt)(h0:KeysOf κ a₀)(hn:nrem<=a₀.size)(h1:1<=nrem)(hB:SBase a₀ st)
 (hr:∀i,i<a₀.size->RR J (arrOf st) i=i)
 (h:∀m st',SOk κ J a₀ st' m->1<=m->m<=nrem->BD κ J (arrOf st') m->Q (al m) st') :
 wpS (model prog w) A E s (countRun' 0 nrem) Q st:=by
 have ok:∀n,n<=a₀.size->SOk κ J a₀ st n:=λn hn=>⟨hB,λi _ h2=>hr i h2,λi hi=>by rw[hr i (by(exact AAC ‹_› ‹_›))];exact hi⟩
 rw[countRun0_eq];refine wpS_bind (GQ hO h0 hn (AAL 1) h1 (ok 1 (by(exact AAC ‹_› ‹_›))) (λi j hij hj=>by exact Zh hij hj) λn hn1 hn2 _ hsn hor=>?_);dsimp only;by_cases hnn:n=nrem
 ·rw[if_pos (by simpa using hnn)];exact wpS_pure (h n st (ok n (by(exact AAC ‹_› ‹_›))) hn1 hn2 hsn)
 ·rw[if_neg (by simpa using hnn)];have hlt:=hor.resolve_left hnn;by_cases hgt:n>1
  ·rw[if_pos hgt];refine wpS_bind (wpS_ltKK hO hB h0 (Ze h1 hn) (ACE (OE hgt) (AAC hn2 hn)) ?_);cases hrose:κ.blt (KK κ (arrOf st) 0) (KK κ (arrOf st) (n-1))
   case true =>
    dsimp only;rw[if_pos rfl];exact wpS_pure (h n st (ok n (by(exact AAC ‹_› ‹_›))) hn1 hn2 hsn)
   case false =>
    dsimp only;rw[if_neg ABB];have hsz:n<=(arrOf st).size:=by rw[hB.size];(exact AAC ‹_› ‹_›)
    have hss:=hsn.sorted;have hall:∀k,0<=k->k<n->KK κ (arrOf st) k=KK κ (arrOf st) (n-1):=by intro k _ hk;exact KeyOrd.kle_antisymm (hss k (n-1) (R9 hk) (VQ hn1)) (KeyOrd.kle_trans hrose (hss 0 k (by(with_reducible assumption)) hk))
    have keq:=KK_mirror_equal hsz hall;refine wpS_bind (wpS_reverse (Gp hO h0 hn (R4 hn2 hnn) (HE ((ok n (VI hn2 hn)).mirror (VI hn2 hn)) (Zd hn2 hnn hn) hn1 ?_ ?_ ?_) h))
    ·intro i j hij hj;rcases BY hsz i with⟨g1,g2,e1⟩|⟨g1,e1⟩
     ·rcases BY hsz j with⟨k1,k2,e2⟩|⟨k1,e2⟩
      ·refine Bef.congr (.inr ⟨?_,?_⟩) e2 e1
       ·exact(hall _ (by(exact ABF _)) (Zq k2))▸(hall _ (by(exact ABF _)) (R8 g1 hij k2)).symm
       ·rw[hr _ (Zp k2 hn2 hn),hr _ (Zp g2 hn2 hn)];exact VN hij k2
      ·exact VL hj k1
     ·exact Zi hij hj g1
    ·rw[keq,keq];exact hlt
    ·intro i hi;rw[keq,keq,hall i (by(exact ABF _)) hi];exact KeyOrd.kle_refl _
  ·rw[if_neg hgt];have hn1':=by exact(ADO (ACM hgt) hn1)
   subst hn1';refine Gp hO h0 hn (R4 hn2 hnn) (HE (ok 1 (by(exact AAC ‹_› ‹_›))) (Zd hn2 hnn hn) (AAL 1) (λi j hij hj=>by exact Zh hij hj) hlt λi hi=>?_) h;have:i=0:=by lia
   subst this;exact KeyOrd.kle_refl _
theorem KO{st:SortSt}{Q:Unit->SortSt->Prop}(hO:κ.OneLt)(h0:KeysOf κ a₀)(hB:SBase a₀ st)(hr:∀i,i<a₀.size->RR J (arrOf st) i=i)(h2:2<=a₀.size)(h64:a₀.size<64)
 (h:∀st',(arrOf st').Perm a₀->failedOf st'=az->BD κ J (arrOf st') a₀.size->Q () st'):wpS (model prog w) A E s sortRuns' Q st:=by
 rw[sortRuns'_eq];refine wpS_bind (wpS_get ?_);dsimp only;have hmr:minRun' a₀.size a₀.size 0=a₀.size:=by
  obtain⟨f,hf⟩:∃f,a₀.size=f+1:=⟨a₀.size-1,by exact((Nat.sub_add_cancel (ACJ h2)).symm)⟩
  have:minRun' (f+1) a₀.size 0=a₀.size:=by rw[minRun'_succ,if_pos h64];rfl
  rwa [<-hf] at this
 rw[hB.size,hmr];have fin:∀{st':SortSt},SOk κ J a₀ st' a₀.size->BD κ J (arrOf st') a₀.size->(arrOf (setPending st' ((pendingOf st').push (0,a₀.size,0)))).Perm a₀/\failedOf (setPending st' ((pendingOf st').push (0,a₀.size,0)))=az ∧
  pendingOf (setPending st' ((pendingOf st').push (0,a₀.size,0)))=#[(0,a₀.size,0)]/\BD κ J (arrOf (setPending st' ((pendingOf st').push (0,a₀.size,0)))) a₀.size :=
  λok hs=>⟨ok.base.perm,ok.base.failed,by show(pendingOf _).push _=_;rw[ok.base.pend];rfl,hs⟩
 refine wpS_bind (wpS_mono (wpS_forRange
  (I:=λx c st'=>(x=0/\c=(az,0)/\st'=st)\/(1<=x/\c=(az,a₀.size)/\(arrOf st').Perm a₀/\failedOf st'=az/\pendingOf st'=#[(0,a₀.size,0)]/\BD κ J (arrOf st') a₀.size))
  (Q:=λc st'=>c=(az,a₀.size)/\(arrOf st').Perm a₀/\failedOf st'=az/\pendingOf st'=#[(0,a₀.size,0)]/\BD κ J (arrOf st') a₀.size) ?step ?fin (.inl ⟨rfl,rfl,rfl⟩)) ?post)
 case fin =>
  rintro c st' (⟨hx,_,_⟩|⟨_,hc,hD⟩)
  ·lia
  ·exact⟨hc,hD⟩
 case step =>
  rintro x c st' _ hx (⟨rfl,rfl,rfl⟩|⟨hx1,rfl,hD⟩)
  ·dsimp only;rw[if_neg (by(exact Nat.not_le_of_lt ‹_›))];rw[Nat.sub_zero,Nat.min_self];refine wpS_bind (KQ hO h0 (AAL _) (by(exact ACJ ‹_›)) hB hr λm st2 hB2 hm1 hm2 hs2=>?_);dsimp only;by_cases hlt:m<a₀.size
   ·rw[if_pos hlt];refine wpS_bind (wpS_lift (wpAny_rule ⟨rfl,?_⟩));refine wpS_bind (IN hO h0 (AAL _) hm2 hm1 hB2 hs2 λst3 hB3 hs3=>?_);rw[if_neg (show ¬(!true)=true from ABB)];refine wpS_bind (wpS_get ?_);have hb:(pendingOf st3).back? = az:=by rw[hB3.base.pend];rfl
    rw[hb];dsimp only;exact wpS_bind (wpS_modify (wpS_pure (.inr ⟨by(exact AC3 _),by rw[AC2],fin hB3 hs3⟩)))
   ·rw[if_neg hlt];have hm:=by exact(ADO hm2 (ACM hlt))
    subst hm;refine wpS_bind (wpS_get ?_);have hb:(pendingOf st2).back? = az:=by rw[hB2.base.pend];rfl
    rw[hb];dsimp only;exact wpS_bind (wpS_modify (wpS_pure (.inr ⟨by(exact AC3 _),by rw[AC2],fin hB2 hs2⟩)))
  ·dsimp only;exact(if_pos (AAL _))▸wpS_pure ⟨rfl,hD⟩
 case post =>
  rintro c st' ⟨rfl,hD⟩;dsimp only;refine wpS_bind (wpS_mono (wpS_forRange (I:=λ_ c st''=>st''=st'/\c=(az,())) ?_ (λ_ _ hh=>hh) ⟨rfl,rfl⟩) ?_)
  ·rintro x c st'' _ _ ⟨rfl,rfl⟩;refine wpS_bind (wpS_get ?_);rw[if_pos (hD.2.2.1▸AAL 1)];exact wpS_pure ⟨rfl,rfl⟩
  ·rintro c st'' ⟨rfl,rfl⟩;exact wpS_pure (h _ hD.1 hD.2.1 hD.2.2.2)
end
set_option genInjectivity false
set_option backward.match.sparseCases false
theorem G5{κ κ' α α':Type}{lt:κ->κ->Bool}{lt':κ'->κ'->Bool}(f:κ×α->κ'×α')(h:∀p q,lt' (f p).1 (f q).1=lt p.1 q.1)(l:List (κ×α)):AH lt' (l.map f)=(AH lt l).map f:=by
 have ins:∀(p:κ×α) (l:List (κ×α)),Dh lt' (f p) (l.map f)=(Dh lt p l).map f:=by
  intro p l
  induction l with
  |nil=>rfl
  |cons q r ih =>
   show(if lt' (f q).1 (f p).1 then f q::Dh lt' (f p) (r.map f) else f p::f q::r.map f)=(if lt q.1 p.1 then q::Dh lt p r else p::q::r).map f;rw[h,ih];split<;>rfl
 induction l with
 |nil=>rfl
 |cons p r ih =>
  show Dh lt' (f p) (AH lt' (r.map f))=(Dh lt p (AH lt r)).map f;rw[ih,ins]
theorem bZ(κ:KeyKind):Wc κ.blt:=⟨κ.irrefl,κ.trans,κ.total⟩
noncomputable abbrev M9:KeyKind where
 α:=Int
 blt a b:=decide (a<b)
 irrefl a:=AAT (Int.lt_irrefl a)
 trans a b c h1 h2:=AAI (Int.lt_trans (AAG h1) (AAG h2))
 negTrans a b c h:=by
  have:=AAG h;by_cases hab:a<b
  ·exact .inl (AAI hab)
  ·exact .inr (AAI (by lia))
 total a b h1 h2:=by have:=ABG h1;have:=ABG h2;exact Z3 ‹_› this
 keyOf v:=match v with|.int x _=>al x|_=>az
 dflt:=0
theorem M8:M9.OneLt:=by intro prog w A E s x y a b Q ha hb h;cases x<;>simp only[M9,reduceCtorEq,Option.some.injEq] at ha;cases y<;>simp only[M9,reduceCtorEq,Option.some.injEq] at hb;cases ha;cases hb;exact oneLt_int h
section
variable{κ:KeyKind}{γ:Type}
structure LY(κ:KeyKind)(Z:List (κ.α×(Keyed×γ))):Prop where
 key:∀z∈Z,κ.keyOf z.2.1.1=al z.1
 nd:(Z.map (·.2.1.2)).Nodup
noncomputable def Bw(Z:List (κ.α×(Keyed×γ)))(p:Keyed):Nat:=(Z.map (·.2.1.2)).findIdx (·==p.2)
theorem Jz(h:LY κ Z)(e:Z[i]? = al z):Bw Z z.2.1=i:=by
 unfold Bw;obtain⟨hi,he⟩:=AAM.mp e;have hl:i<(Z.map (·.2.1.2)).length:=by rw[AAB];exact hi
 refine(List.findIdx_eq hl).mpr ⟨by rw[List.getElem_map,he];exact beq_self_eq_true _,λj hj=>?_⟩;refine beq_eq_false_iff_ne.mpr λq=>?_;have:j=i:=(List.getElem_inj (h₀:=ABT hj hl) (h₁:=hl) h.nd).mp (by rw[q,List.getElem_map,he]);exact Z2 hj this
theorem fM{Z:List (κ.α×(Keyed×γ))}(h:LY κ Z)(i:Nat)(hi:i<Z.length):RR (Bw Z) (Z.map (·.2.1)).toArray i=i:=by unfold RR;exact(List.getElem?_toArray)▸(ABI)▸(AAN hi)▸Jz h (AAN hi)
theorem YJ{xs:Array Keyed}(hi:i<xs.size)(e:κ.keyOf xs[i].1=al a):KK κ xs i=a:=by unfold KK;rw[AB6 hi];show(κ.keyOf xs[i].1).getD κ.dflt=a;rw[e];rfl
theorem WA{Z:List (κ.α×(Keyed×γ))}(h:LY κ Z){xs:Array Keyed}(hp:xs.Perm (Z.map (·.2.1)).toArray)(hs:BD κ (Bw Z) xs xs.size):xs.toList=(AH κ.blt Z).map (·.2.1):=by
 have hl:xs.toList.Perm (Z.map (·.2.1)):=by have:=Array.perm_iff_toList_perm.mp hp;simpa using this
 let f:Keyed->κ.α×Keyed:=λp=>((κ.keyOf p.1).getD κ.dflt,p)
 have key:∀p∈xs.toList,κ.keyOf p.1=al (f p).1:=λp hp'=>by refine oEA (AAP.mp (hl.mem_iff.mp hp')) λz hz q_2=>?_;subst q_2;show _=al ((κ.keyOf z.2.1.1).getD κ.dflt);exact(h.key z hz)▸rfl
 have e1:(Z.map λz=>(z.1,z.2.1))=(Z.map (·.2.1)).map f:=by rw[AAE];refine AC8 λz hz=>?_;show(z.1,z.2.1)=((κ.keyOf z.2.1.1).getD κ.dflt,z.2.1);exact(h.key z hz)▸rfl
 let R:κ.α×Keyed->κ.α×Keyed->Prop:=λa b=>Bw Z a.2<Bw Z b.2;have hR:(Z.map λz=>(z.1,z.2.1)).Pairwise R:=by rw[ACU,List.pairwise_iff_getElem];intro i j hi hj hij;show Bw Z Z[i].2.1<Bw Z Z[j].2.1;rw[Jz h (AAN hi),Jz h (AAN hj)];exact hij
 have h2:(xs.toList.map f).Pairwise (KM κ.blt R):=by
  rw[ACU,List.pairwise_iff_getElem];intro i j hi hj hij;have hi':i<xs.size:=by simpa using hi
  have hj':j<xs.size:=by simpa using hj
  have b:=hs i j hij hj';unfold Bef at b;rw[YJ hi' (a:=(f xs[i]).1) (key _ (by simp)),YJ hj' (a:=(f xs[j]).1) (key _ (by simp))] at b;have r1:RR (Bw Z) xs i=Bw Z xs[i]:=by unfold RR;rw[AB6 hi']
  have r2:RR (Bw Z) xs j=Bw Z xs[j]:=by unfold RR;rw[AB6 hj']
  rw[r1,r2] at b;rw[Array.getElem_toList,Array.getElem_toList];exact b
 have h3:(xs.toList.map f).Perm (AH κ.blt (Z.map λz=>(z.1,z.2.1))):=by exact(hl.map f).trans (e1▸(Bh _).symm)
 have asym:∀a b,KM κ.blt R a b->KM κ.blt R b a->False:=λa b q q'=>by
  rcases q with q|q<;>rcases q' with q'|q'
  ·have:=κ.trans _ _ _ q q';rw[κ.irrefl] at this;cases this
  ·rw[q'.1,κ.irrefl] at q;cases q
  ·rw[q.1,κ.irrefl] at q';cases q'
  ·have x1:Bw Z a.2<Bw Z b.2:=q.2;have x2:Bw Z b.2<Bw Z a.2:=q'.2;lia
 have h4:=CT asym h2 (DY (bZ κ) _ hR) h3;rw[(G5 (lt:=κ.blt) (lt':=κ.blt) (λz:κ.α×(Keyed×γ)=>(z.1,z.2.1)) (λ_ _=>rfl) Z)] at h4;have h6:=congrArg (List.map Prod.snd) h4;rw[AAE,AAE] at h6;have:(Prod.snd∘f)=id:=rfl;rw[this,List.map_id] at h6;exact h6
end
set_option maxHeartbeats 4000000
set_option maxRecDepth 100000
section
variable{prog:Program}{w:World}{A:Around}{E:Value->Shared->Prop}{s:Shared}{b:Bool}{vs:List Value}{keys:Array Value}{P:PySem.Fin->Shared->Prop}
theorem Np{h:Heap}(ho:h.get? a=al (seqObj "list" xs n))(out:Array Value):∃c,(h.update a (Obj.mapSeq λ_=>out)).get? a=al (seqObj "list" out c):=⟨_,get?_update_seq ho λ_=>out⟩
theorem Sf{h:Heap}{xs:Array Value}(ho:h.get? a=al (seqObj "list" xs n))(v:Value):∃c,(h.update a (Obj.mapSeq (·.push v))).get? a=al (seqObj "list" (xs.push v) c):=⟨_,get?_update_seq ho (·.push v)⟩
def fA(a b:Addr)(h h':Heap):Prop:=∀x o,x≠a->x≠b->h.get? x=al o->h'.get? x=al o
theorem RS{st:SortSt}(hS:s.heap.get? kS=al (seqObj "list" keys e))(hA:s.heap.get? a=al (seqObj "list" #[] e1))(hka:kS≠a)(hsz:keys.size<=sizeLine)(hout:(arrOf st).size<=sizeLine)(hfl:failedOf st=az)
 (h:∀h' c,fA a kS s.heap h'->h'.get? a=al (seqObj "list" (if b=true then((arrOf st).map (·.2)).reverse else(arrOf st).map (·.2)) c)->P (.done (.ret .none)) {s with heap:=h'}) :
 wpAny (model prog w) A (ksk_tail a b e1 (.ref kS) st) P E s:=by
 have s1:=ACR s.heap kS (Obj.mapSeq λ_=>(#[]:Array Value));have na1:(s.heap.update kS (Obj.mapSeq λ_=>(#[]:Array Value))).get? a=al (seqObj "list" #[] e1):=(s1.2 a hka.symm).trans hA;have s2:=ACR (s.heap.update kS (Obj.mapSeq λ_=>(#[]:Array Value))) a (Obj.mapSeq λ_=>if b=true then((arrOf st).map (·.2)).reverse else(arrOf st).map (·.2));refine oE (Np na1 (if b=true then((arrOf st).map (·.2)).reverse else(arrOf st).map (·.2))) λc2 hc2=>?_;have ho:(if b=true then((arrOf st).map (·.2)).reverse else(arrOf st).map (·.2)).size<=sizeLine:=by
  cases b with
  |false=>rw[if_neg ABB,Array.size_map];exact hout
  |true=>rw[if_pos rfl,Array.size_reverse,Array.size_map];exact hout
 unfold ksk_tail;dsimp only;refine AAD (listUpdate_at hS rfl ?_ hsz (ABF _));refine AAD (wpAny_letGo ?_);refine AAD (seqEpoch_at na1 rfl ?_);refine AAD (listUpdate_at na1 rfl ?_ (ABF _) (AB4 ho));rw[hfl];simp only[bne_self_eq_false,ADB,if_false];exact AAY (h _ c2 (λx o h1 h2 ho=>(s2.2 x h1).trans ((s1.2 x h2).trans ho)) hc2)
noncomputable def TL{κ:KeyKind}{γ:Type}(b:Bool)(Z:List (κ.α×(Keyed×γ))):List (κ.α×(Keyed×γ)):=match b with|true=>(AH κ.blt Z.reverse).reverse|false=>AH κ.blt Z
theorem TK{κ:KeyKind}{γ:Type}(b:Bool)(Z:List (κ.α×(Keyed×γ))):(TL b Z).Perm Z:=by
 cases b with
 |true=>exact(AC5 _).trans ((Bh _).trans (AC5 _))
 |false=>exact Bh _
theorem Ts{κ:KeyKind}{γ:Type}(hO:κ.OneLt){Z:List (κ.α×(Keyed×γ))}(hz:LY κ Z)(hk:keys.zip vs.toArray=(Z.map (·.2.1)).toArray)(hlen:keys.size=vs.length)(hkk:2<=keys.size->keyKind' keys=pure oneType')(h64:vs.length<64)
 (hS:s.heap.get? kS=al (seqObj "list" keys e)) (hA:s.heap.get? a=al (seqObj "list" #[] e1)) (hka:kS≠a)
 (h:∀h' c,fA a kS s.heap h'->h'.get? a=al (seqObj "list" ((TL b Z).map (·.2.1.2)).toArray c)->P (.done (.ret .none)) {s with heap:=h'}) :
 wpAny (model prog w) A (ksk_end a b vs.toArray e1 (.ref kS) keys) P E s:=by
 have hzl:(keys.zip vs.toArray).size=vs.length:=by rw[Array.size_zip,hlen,ACQ,Nat.min_self]
 have hZ:Z.length=vs.length:=by rw[<-hzl,hk,ACQ,AAB]
 have step:∀t:Sem PySem.Fin,wpAny (model prog w) A t P E s->wpAny (model prog w) A (if b=true then(do let _ <-rule "list.sort.reverse";t) else t) P E s:=by
  intro t ht;split
  ·exact AAD (wpAny_rule ht)
  ·exact ht
 obtain⟨Y,hY⟩:∃Y,Y=(if b=true then Z.reverse else Z):=⟨_,rfl⟩
 have hYl:Y.length=vs.length:=by rw[hY];split<;>simp[hZ]
 have hYz:LY κ Y:=by
  rw[hY];split
  ·exact⟨λz hz'=>hz.key z (ADW.mp hz'),by rw[ACV];exact(AC5 _).nodup_iff.mpr hz.nd⟩
  ·exact hz
 have hstart:(if b=true then(keys.zip vs.toArray).reverse else keys.zip vs.toArray)=(Y.map (·.2.1)).toArray:=by
  rw[hk,hY];cases b with
  |false=>rfl
  |true=>rw[if_pos rfl,if_pos rfl,ACV];simp
 have fin:∀st:SortSt,(arrOf st).Perm (Y.map (·.2.1)).toArray->BD κ (Bw Y) (arrOf st) (arrOf st).size->failedOf st=az->wpAny (model prog w) A (ksk_tail a b e1 (.ref kS) st) P E s:=by
  intro st hp hs hf;have hsz:(arrOf st).size=vs.length:=by rw[hp.size_eq,ACQ,AAB,hYl]
  refine RS hS hA hka (hlen▸sizeLine_eq▸OF h64 rfl) (hsz▸sizeLine_eq▸OF h64 rfl) hf λh' c hb ha=>h h' c hb ?_;rw[ha];have e3:=WA hYz hp hs;congr 2;apply Array.toList_inj.mp;rw[hY] at e3;cases b with
  |false =>
   rw[if_neg ABB,Array.toList_map,e3,if_neg ABB,AAE];rfl
  |true =>
   rw[if_pos rfl,Array.toList_reverse,Array.toList_map,e3,if_pos rfl,AAE];show _=((AH κ.blt Z.reverse).reverse.map _);exact ACV▸rfl
 unfold ksk_end;dsimp only;refine step _ ?_;rw[hstart];by_cases h2:vs.toArray.size<2
 ·rw[if_pos h2,if_pos h2];refine AAD (AAY ?_);rw[StateT.run_pure];refine AAD (AAY ?_);dsimp only;refine fin (SortSt.mk' general' (Y.map (·.2.1)).toArray #[] 7 az) (Array.Perm.refl _) (λi j hij hj=>?_) rfl;have hj2:j<(Y.map (·.2.1)).toArray.size:=hj;rw[ACQ,AAB,hYl] at hj2;rw[ACQ] at h2;lia
 ·rw[if_neg h2,if_neg h2];rw[ACQ] at h2;have hY2:(Y.map (·.2.1)).toArray.size=vs.length:=by rw[ACQ,AAB,hYl]
  rw[hkk (by lia)];refine AAD (AAY ?_);have hkeys:PyProof.Rows.KeysOf κ (Y.map (·.2.1)).toArray:=λp hp=>by refine oEA (AAP.mp (show p∈Y.map (·.2.1) from by simpa using hp)) λz hz' q_2=>?_;subst q_2;exact⟨z.1,hYz.key z hz'⟩
  have hrr:∀i,i<(Y.map (·.2.1)).toArray.size->RR (Bw Y) (Y.map (·.2.1)).toArray i=i:=λi hi=>fM hYz i (by rw[hY2,<-hYl] at hi;exact hi);generalize(Y.map (·.2.1)).toArray=a₀ at hkeys hrr hY2 fin ⊢;have run:wpS (model prog w) A E s sortRuns' (λ_ st'=>(arrOf st').Perm a₀/\failedOf st'=az/\BD κ (Bw Y) (arrOf st') a₀.size) (SortSt.mk' oneType' a₀ #[] 7 az) :=
   KO (κ:=κ) (J:=Bw Y) hO hkeys ⟨Array.Perm.refl _,rfl,rfl,rfl⟩ hrr (hY2▸ACM ‹_›) (hY2▸h64) λst' a1 a2 a3=>⟨a1,a2,a3⟩
  refine AAD (AAO run ?_ λ_ _ e=>e);rintro⟨⟨⟩,st'⟩ s' ⟨rfl,hp,hf,hs⟩;dsimp only;exact fin st' hp (hp.size_eq▸hs) hf
end
theorem RepDs.length(r:RepDs fz ds vs):ds.length=vs.length:=r.all.length
theorem Q6{δ:Type}{fz:Addr->Option Obj}{d:δ->PyData}{v:δ->Value}:∀{l:List δ},(∀z∈l,AG fz (d z) (v z))->RepDs fz (l.map d) (l.map v)
 |[],_=>trivial
 |z::l,h=>⟨h z (.head _),Q6 λy hy=>h y (.tail _ hy)⟩
theorem RepDs.at_:∀{ds:List PyData} {vs:List Value} {j:Nat} {d:PyData} {v:Value},RepDs fz ds vs->ds[j]? = al d->vs[j]? = al v->AG fz d v
 |_::_,_::_,0,_,_,r,e1,e2=>by obtain rfl:=AAA e1;obtain rfl:=AAA e2;exact r.1
 |_::_,_::_,j+1,_,_,r,e1,e2=>RepDs.at_ (j:=j) r.2 e1 e2
 |[],_,_,_,_,_,e1,_=>by simp at e1
 |_::_,[],_,_,_,r,_,_=>r.elim
theorem Pc(r:RepDs fz ds vs)(h:ds.Nodup):vs.Nodup:=by rw[List.Nodup,List.pairwise_iff_getElem];intro i j hi hj hij q;have hl:=r.length;have h1:=r.at_ (AAN (show i<ds.length by exact LW hi hl)) (AAN hi);have h2:=r.at_ (AAN (show j<ds.length by exact LW hj hl)) (AAN hj);rw[q] at h1;have:=(List.getElem_inj (h₀:=by exact LW hi hl) (h₁:=by exact LW hj hl) h).mp (AG.inj _ _ _ ((Fr h2).symm.trans (Fr h1)) h1 h2);exact Z2 hij this
theorem Pm{κ:KeyKind}{β:Type}(emb:β->κ.α)(lt:β->β->Bool)(hlt:∀x y,κ.blt (emb x) (emb y)=lt x y){bs:List β}{kA:Array Value}{vs:List Value}{xs:List PyData}(hkey:∀(j:Nat) (x:Value) (y:β),kA.toList[j]? = al x->bs[j]? = al y->κ.keyOf x=al (emb y))(hk:kA.size=bs.length)(hb:bs.length=vs.length)
 (r:RepDs fz xs vs) (nd:xs.Nodup):∃Z:List (κ.α×(Keyed×PyData)),LY κ Z/\kA.zip vs.toArray=(Z.map (·.2.1)).toArray/\∀rev,RepDs fz (Dt rev lt (bs.zip xs)) ((TL rev Z).map (·.2.1.2)):=by
 have hx:=r.length;have hkl:kA.toList.length=bs.length:=by simpa using hk
 obtain⟨Y,hY⟩:∃Y:List (β×(Keyed×PyData)),Y=bs.zip ((kA.toList.zip vs).zip xs):=⟨_,rfl⟩
 have mem:∀y∈Y,∃j:Nat,bs[j]? = al y.1/\kA.toList[j]? = al y.2.1.1/\vs[j]? = al y.2.1.2/\xs[j]? = al y.2.2:=λy hy=>by refine oE (List.mem_iff_getElem?.mp hy) λj hj=>?_;rw[hY] at hj;refine oA (ADS.mp hj) λh1 h2=>?_;refine oA (ADS.mp h2) λh3 h4=>?_;refine oA (ADS.mp h3) λh5 h6=>?_;exact Hv j h1 h5 h6 h4
 have e1:Y.map (λy=>y.2.1)=kA.toList.zip vs:=by
  have:Y.map (λy=>y.2.1)=(Y.map (·.2)).map (·.1):=by rw[AAE];rfl
  rw[this,hY,List.map_snd_zip (by simp;exact jP hkl),List.map_fst_zip (by simp;exact jO hkl hb hx)]
 have e2:Y.map (λy=>(y.1,y.2.2))=bs.zip xs:=by
  refine List.ext_getElem? λj=>?_;rw[ABI,hY];by_cases hj:j<bs.length
  ·have a1:bs[j]? = al bs[j]:=AAN hj;have a2:kA.toList[j]? = al (kA.toList[j]'(LW hj hkl)):=AAN _;have a3:vs[j]? = al (vs[j]'(OG hj hb)):=AAN _;have a4:xs[j]? = al (xs[j]'(VT hj hb hx)):=AAN _;have b1:(bs.zip ((kA.toList.zip vs).zip xs))[j]? = al (bs[j],((kA.toList[j]'(LW hj hkl),vs[j]'(OG hj hb)),xs[j]'(VT hj hb hx))) :=
    ADS.mpr ⟨a1,ADS.mpr ⟨ADS.mpr ⟨a2,a3⟩,a4⟩⟩
   have b2:(bs.zip xs)[j]? = al (bs[j],xs[j]'(VT hj hb hx)):=ADS.mpr ⟨a1,a4⟩;exact b1▸b2▸rfl
  ·rw[List.getElem?_eq_none (by simp;exact jQ hj),List.getElem?_eq_none (by simp;exact jR hj hb hx)];rfl
 refine(Az (Y.map λy=>(emb y.1,y.2)) ⟨λz hz=>?_,?_⟩ ?_ (λrev=>?_))
 ·refine oEA (AAP.mp hz) λy hy q_2=>?_;subst q_2;exact AS (mem y hy) λj h1 h2 _=>hkey j _ _ h2 h1
 ·rw[AAE];have:Y.map ((λz:κ.α×(Keyed×PyData)=>z.2.1.2)∘λy=>(emb y.1,y.2))=(Y.map λy=>y.2.1).map (·.2):=by rw[AAE];rfl
  rw[this,e1,List.map_snd_zip (kF hkl hb)];exact Pc r nd
 ·rw[AAE];show _=(Y.map λy=>y.2.1).toArray;rw[e1];apply Array.toList_inj.mp;simp
 ·have m1:∀L:List (β×(Keyed×PyData)),AH κ.blt (L.map λy=>(emb y.1,y.2))=(AH lt L).map λy=>(emb y.1,y.2):=λL=>G5 _ (λp q=>hlt _ _) L;have m2:∀L:List (β×(Keyed×PyData)),AH lt (L.map λy=>(y.1,y.2.2))=(AH lt L).map λy=>(y.1,y.2.2):=λL=>G5 (lt:=lt) (lt':=lt) (λy:β×(Keyed×PyData)=>(y.1,y.2.2)) (λp q=>rfl) L;have good:∀L:List (β×(Keyed×PyData)),(∀y∈L,y∈Y)->RepDs fz (L.map λy=>y.2.2) (L.map λy=>y.2.1.2):=λL hL=>Q6 λy hy=>by exact Lw (mem y (hL y hy)) λj _ _ h3 h4=>r.at_ h4 h3
  cases rev with
  |false =>
   show RepDs fz ((AH lt (bs.zip xs)).map (·.2)) ((AH κ.blt (Y.map λy=>(emb y.1,y.2))).map (·.2.1.2));rw[<-e2,m1,m2,AAE,AAE];exact good _ λy hy=>(Bh _).mem_iff.mp hy
  |true =>
   show RepDs fz ((AH lt (bs.zip xs).reverse).reverse.map (·.2)) ((AH κ.blt (Y.map λy=>(emb y.1,y.2)).reverse).reverse.map (·.2.1.2));rw[<-e2,<-ACV,<-ACV,m1,m2,<-ACV,<-ACV,AAE,AAE];exact good _ λy hy=>ADW.mp ((Bh _).mem_iff.mp (ADW.mp hy))
open PySem.Calls
set_option tactic.hygienic false
structure Yp where
 β:Type
 κ:KeyKind
 one:κ.OneLt
 emb:β->κ.α
 lt:β->β->Bool
 hlt:∀x y,κ.blt (emb x) (emb y)=lt x y
 kv:β->V
 key:∀{T:Top} {g:G} {y:β} {X:Value},Av T g (kv y) X->κ.keyOf X=al (emb y)
 kind:∀{T:Top} {g:G} {bs:List β} {kA:Array Value},Au T g (bs.map kv) kA.toList->2<=kA.size->keyKind' kA=pure oneType'
section
variable{c:Cx}{g aq:G}{s:Shared}{K:Yp}
theorem RU{h':Heap}{ys:List Value}{ws:List V}(hn:∀b,b∈[D,kS]->aq.hid b=az)(le:G.le [D,kS] aq g)(H:Has c.T g U s)(hD:g.hid D≠az)(hK:g.hid kS≠az)(hb:fA D kS s.heap h')(ho:h'.get? D=al (seqObj "list" ys.toArray m))(hr:Au c.T g ws ys)(hl:ws.length<=line):Cj c.toAr aq U ws (.ref D) {s with heap:=h'}:=by have hi:∀c,c∈[D,kS]->g.hid c≠az:=af hD (AT hK);refine AS (H.back (its:=[D,kS]) (own:=[]) (s':={s with heap:=h'}) (AAV _▸le) hn (λb o hb' e=>hb b o (λq=>hb' (q▸.head _)) (λq=>hb' (q▸.tail _ (.head _))) e) (H.away hi)) λhd H' le' _=>?_;have F:=H.away hi D (.head _);exactλR_ k=>k _ D ys.toArray m le' H' ⟨F.1,(le'.hid D AA1).trans (hn D (.head _)),F.2.1,F.2.2⟩ ho (List.toList_toArray▸Au.eta hr) hl
theorem RV(hk:Ay (λw b=>SE n key (J.set i (al w)) U (K.kv b) U) (xs.map .d) bs)(nd:xs.Nodup)(h64:xs.length<64)(L:Gn c.K i nm sc)(hb:IsE key (c.K.lsub nm sc) b)(f0:Cv aq c.fe)(x0:Loc c J aq)(hn:∀b,b∈[D,kS]->aq.hid b=az)(le:G.le [D,kS] aq g)(I:Inv (n+1) c J g U s)(lm:KF g c.env q nm ap b sc f)(r:Au c.T g (xs.map .d) vs)(hD:g.hid D=al (seqObj "list" #[] e1))(hS:g.hid kS=al (seqObj "list" #[] 0))(hDk:kS≠D)
 (h:∀s',Cj c.toAr aq U ((Dt rev K.lt (bs.zip xs)).map .d) (.ref D) s'->P (.done (.ret .none)) s') :
 wpAny (model c.T.prog c.T.w) c.A.in1.in1 (ksk_rest D (.ref f) rev vs.toArray e1 (.ref kS)) P Er s:=by
 have hlb:xs.length=bs.length:=(AAB _).symm.trans hk.length;have hlv:xs.length=vs.length:=(AAB _).symm.trans r.length;have mD:D∈[D,kS]:=.head _;have mK:kS∈[D,kS]:=.tail _ (.head _);unfold ksk_rest;refine AAD (wpAny_rule ?_);rw[List.forIn_toArray];refine AAD (ksk_fold (λj s'=>∀R_:Prop,(∀g' kA e,G.le [D,kS] g g'->Inv (n+1) c J g' U s'->g'.hid D=al (seqObj "list" #[] e1)->g'.hid kS=al (seqObj "list" kA e)->Au c.T g' ((bs.take j).map K.kv) kA.toList->R_)->R_) vs 0 s (λR_ k=>k g #[] 0 (.refl _ _) I hD hS trivial) ?step ?done)
 case step =>
  intro j x s' hx hz;rw[AC2] at hz ⊢;refine hz _ λg' kA e le' I' hD' hS' rk=>?_;have hj:j<bs.length:=hlb▸hlv▸(AAM.mp hx).1;have hw:(xs.map V.d)[j]? = al (.d (xs[j]'(hlb▸hj))):=by rw[ABI,AAN];rfl
  refine oEA (hk.get hw) λy hy hse=>oEA (r.get hw) λx' hx' rx=>?_;obtain rfl:=As hx hx';refine AAD (wpAny_attempt (AAO (Ur hse L hb I' (lm.mono le'.toup) (Av.mono le'.toup _ _ rx)) (λk s'' p=>p _ λg'' le'' H'' rk'=>?_) λ_ _ hf=>hf.elim));dsimp only;have hS'':=(le''.hid kS AA1).trans hS';have nk:=(H''.hd _ _ hS'').ex (Bs rfl (by decide));refine oE (Sf nk k) λc2 hc2=>?_;have hsz:kA.size=j:=by rw[<-ABA,<-rk.length,AAB,ACT];exact ACP (ACJ hj)
  have hjl:j+1<=sizeLine:=by rw[<-Bd];exact AY (ACJ (AAS hj (hlb▸h64))) rfl
  refine AAD (listUpdate_at nk rfl ?_ (hsz▸Nat.le_of_succ_le hjl) (AAC (Nat.le_of_eq (Array.size_push ..)) (hsz▸AB4 hjl)));have le3:G.le [D,kS] g'' (g''.hide kS (seqObj "list" (kA.push k) c2)):=.hide mK;refine AAY ⟨rfl,λR_ kk=>kk _ (kA.push k) c2 (le'.trans (le''.toO.trans le3)) ((I'.step le'' H'').far f0 x0 hn le3 (H''.rehide (s':={s'' with heap:=s''.heap.update kS (Obj.mapSeq (·.push k))}) hS'' (λb x q e=>((ACR s''.heap kS (Obj.mapSeq (·.push k))).2 b q).trans e) hc2)) ((G.hide_ne hDk.symm).trans ((le''.hid D AA1).trans hD')) G.hide_self ?_⟩;exact Array.toList_push▸List.take_add_one▸hy▸AAQ▸(Au.mono (le''.toup.trans le3.toup) rk).append ⟨Av.mono le3.toup _ _ rk',trivial⟩
 case done =>
  intro s' hz;rw[AC2,<-hlv,hlb,List.take_length] at hz;refine hz _ λg' kA e le' I' hD' hS' rk=>?_;have hsz:kA.size=bs.length:=by rw[<-ABA,<-rk.length,AAB]
  have rx:RepDs g'.fz xs vs:=Au.toD (Au.mono le'.toup r);refine AS (Pm K.emb K.lt K.hlt (bs:=bs) (kA:=kA) (λj x y hx hy=>by obtain⟨x',hx',rx⟩:=rk.get (k:=j) (a:=K.kv y) ((ABI)▸hy▸rfl);obtain rfl:=As hx hx';exact K.key rx) hsz (hlb.symm.trans hlv) rx nd) λZ hz hzk hout=>?_
  refine AAD (listItems_at ((I'.has.hd _ _ hS').ex (Bs rfl (by decide))) rfl ?_);refine Ts K.one hz hzk (hsz.trans (hlb.symm.trans hlv)) (K.kind rk) (hlv▸h64) ((I'.has.hd _ _ hS').ex (Bs rfl (by decide))) ((I'.has.hd _ _ hD').ex (Bs rfl (by decide))) hDk λh' m hb2 ho2=>h _ (RU hn (le.trans le') I'.has (AV hD') (AV hS') hb2 ho2 (Au.ofD (hout rev)) ?_);rw[AAB,((hout rev).length),AAB,(TK rev Z).length_eq,<-AAB (f:=(·.2.1)),<-ACQ,<-hzk,Array.size_zip,hsz,ACQ,<-hlv,hlb,Nat.min_self];exact AY (ACJ (hlb▸h64)) rfl
end
section
variable{c:Cx}{J:Am}{g:G}{s:Shared}{K:Yp}{bs:List K.β}{xs:List PyData}{vs:List Value}
theorem Lm(hk:Ay (λw b=>SE n key (J.set i (al w)) U (K.kv b) U) (xs.map .d) bs)(nd:xs.Nodup)(h64:xs.length<64)(L:Gn c.K i nm sc)(hb:IsE key (c.K.lsub nm sc) b)(I:Inv (n+1) c J g U s)(lm:KF g c.env q nm ap b sc f)(hx:AE U x=al (xs.map .d))(r:Av c.T g x X)
 (ha1:∀l,argsOk "sorted" ⟨[.ref l],kw⟩) (ha2:∀x,argsOk "list.sort" ⟨[.ref x],kw⟩) (ht:∀x,Builtin.«list.sort» ⟨[.ref x],kw⟩=ksk_tree x (.ref f) rev):c.wp (call (.builtin "sorted") [X] kw) (Cj c.toAr g U ((Dt rev K.lt (bs.zip xs)).map .d)) s:=by
 refine Be I.has r hx (R_:=λX=>c.wp (call (.builtin "sorted") [X] kw) (Cj c.toAr g U ((Dt rev K.lt (bs.zip xs)).map .d)) s) λl ys hL rws _ hyl=>?_;have hL':s.heap.IsList l ys.toList.toArray:=by rw[Array.toArray_toList];exact hL
 have hvl:ys.toList.length<=sizeLine:=by rw[ABA,<-Bd];exact hyl
 generalize ys.toList=vs at rws hL' hvl;refine call_function_entry_kw kind_sorted plain_sorted entry_sorted (ha1 _) ?_;unfold Builtin.«sorted»;refine AAD (m:=checkCount "sorted" 1 1 _) (AAY ?_);refine AAD (collect_list hL' ?_ hvl);refine AAD (wpAny_newList ?_ hvl);obtain⟨h1,hh1⟩:∃h1,h1=(s.heap.push (seqObj "list" #[] 0)).update s.heap.objs.size (Obj.mapSeq (·++vs.toArray)):=⟨_,rfl⟩
 have z1:h1.objs.size=s.heap.objs.size+1:=by rw[hh1,Heap.size_update];exact ADT ..
 have k1:∀b o,s.heap.get? b=al o->h1.get? b=al o:=λb o e=>by rw[hh1,Heap.get?_update_ne _ _ _ _ (ACX (ACY e))];exact AAK _ e
 show wpAny _ _ _ _ _ {s with heap:=((s.heap.push (seqObj "list" #[] 0)).update s.heap.objs.size (Obj.mapSeq (·++vs.toArray))).push (seqObj "list" vs.toArray 0)};rw[<-hh1];have hoD:(h1.push (seqObj "list" vs.toArray 0)).get? h1.objs.size=al (seqObj "list" vs.toArray 0):=AA3 _ rfl;have z2:(h1.push (seqObj "list" vs.toArray 0)).objs.size=s.heap.objs.size+2:=by rw[ADT,z1]
 refine AAD (AA8 (wpAny_call_entry_kw (s:={s with heap:=h1.push (seqObj "list" vs.toArray 0)}) slot_list_sort ⟨_,hoD,rfl⟩ entry_list_sort ?body (ha2 _)));show wpAny (model c.T.prog c.T.w) c.A.in1.in1 (Builtin.«list.sort» ⟨[.ref h1.objs.size],kw⟩) _ _ _;rw[ht h1.objs.size];generalize hDe:h1.objs.size=D at hoD z1 ⊢;generalize hh2:h1.push (seqObj "list" vs.toArray 0)=h2 at hoD z2 ⊢;have k2:∀b o,s.heap.get? b=al o->h2.get? b=al o:=λb o e=>by rw[<-hh2];exact AAK _ (k1 b o e)
 have hD0:s.heap.get? D=az:=ABO (z1▸ADP _);have s3:=ACR h2 D (Obj.mapSeq λ_=>(#[]:Array Value));refine oE (Np hoD #[]) λe1 ho3=>?_;unfold ksk_tree;refine AAD (listItems_at hoD rfl ?_);refine AAD (listUpdate_at hoD rfl ?_ (ACQ▸hvl) (ABF _));refine AAD (seqEpoch_at ho3 rfl ?_);refine AAD (wpAny_newTuple ?_ hvl);refine AAD (wpAny_newList ?_ (ABF _));refine AA8 ?_;obtain⟨h3,hh3⟩:∃h3,h3=h2.update D (Obj.mapSeq λ_=>(#[]:Array Value)):=⟨_,rfl⟩
 have z3:h3.objs.size=s.heap.objs.size+2:=by rw[hh3,Heap.size_update,z2]
 rw[<-hh3] at ho3 s3;have k3:∀b o,s.heap.get? b=al o->h3.get? b=al o:=λb o e=>(s3.2 b λq=>Ak hD0 (q▸e)).trans (k2 b o e);show wpAny _ _ (ksk_rest D (.ref f) rev vs.toArray e1 (.ref ((h2.update D (Obj.mapSeq λ_=>(#[]:Array Value))).push (seqObj "tuple" vs.toArray 0)).objs.size)) _ _ {s with heap:=((h2.update D (Obj.mapSeq λ_=>(#[]:Array Value))).push (seqObj "tuple" vs.toArray 0)).push (seqObj "list" #[] 0)};rw[<-hh3];have z4:(h3.push (seqObj "tuple" vs.toArray 0)).objs.size=s.heap.objs.size+3:=by rw[ADT,z3]
 generalize hh4:h3.push (seqObj "tuple" vs.toArray 0)=h4 at z4 ⊢;have k4:∀b o,h3.get? b=al o->(h4.push (seqObj "list" #[] 0)).get? b=al o:=λb o e=>by rw[<-hh4];exact AAK _ (AAK _ e)
 have hk0:s.heap.get? h4.objs.size=az:=ABO (z4▸AA9 _ _);have hDk:h4.objs.size≠D:=by rw[z4,z1];exact Nat.ne_of_gt (Nat.add_lt_add_left (dc rfl) _)
 have hoS:(h4.push (seqObj "list" #[] 0)).get? h4.objs.size=al (seqObj "list" #[] 0):=AA3 _ rfl;generalize h4.objs.size=kS at hk0 hDk hoS ⊢;have FD:=I.has.free hD0;have FK:=I.has.free hk0;have hn:∀b,b∈[D,kS]->g.hid b=az:=af FD.hid (AT FK.hid);have le:G.le [D,kS] g ((g.hide D (seqObj "list" #[] e1)).hide kS (seqObj "list" #[] 0)):=G.le.trans (g':=g.hide D (seqObj "list" #[] e1)) (.hide (.head _)) (.hide (.tail _ (.head _)));exact RV hk nd h64 L hb I.frs I.loc hn le (I.far I.frs I.loc hn le (DA.hide (g:=g.hide D (seqObj "list" #[] e1)) ⟨FK.fz,(G.hide_ne hDk).trans FK.hid,FK.mu,FK.tab⟩ (FD.hide (I.has.keep (s':={s with heap:=h4.push (seqObj "list" #[] 0)}) λb o e=>k4 b o (k3 b o e)) (k4 D _ ho3)) hoS)) (lm.mono le.toup) (Au.mono le.toup rws) ((G.hide_ne hDk.symm).trans G.hide_self) G.hide_self hDk λs' h=>(iEA _ rfl (AAY (iEA _ rfl h)))
theorem Uq(h:t.isSome=true):∃a q,t=al (a,q):=by
 cases t with
 |none=>exact ff_ h
 |some p=>exact⟨p.1,p.2,rfl⟩
theorem SL.sortk(ha:SE (n+1) a J U x ag)(hx:AE ag x=al (xs.map .d))(nd:xs.Nodup)(h64:xs.length<64)(hk:Ay (λw b=>SE n key (J.set i (al w)) ag (K.kv b) ag) (xs.map .d) bs):SL (n+1) (.sortk rev a i key) J U ((Dt rev K.lt (bs.zip xs)).map .d) ag:=λc g s ex hc I =>
 hc (λex=>c.wp (eval ex c.env) (Cj c.toAr g ag ((Dt rev K.lt (bs.zip xs)).map .d)) s) λnm np z pm ap b sc lp kp k cp kp' p h1 h2 h3=>by
 refine AAD (CF I h1 λf hf=>?_);obtain rfl:f=.builtin "sorted" := hf;have st:=(Ck a h2).star c.env [];have L:=(NZ h3.1).2;refine oEE (Uq (NZ h3.1).1) λt q hl=>?_;cases rev with
 |false =>
  refine PyProof.Rows.callWith_kw (e:=z) (rest:=[]) ?_ (by rw[st];rfl) (st▸rfl);rw[st];refine spliced_cons (AAO (ha c g s z h2 I) (λX ai aL=>aL _ λaj av ar ao=>spliced_nil ?_) λ_ _ h=>h);have I1:=I.step av ar;refine PyProof.Rows.kws_cons (AAO (NW L hl I1) (λZ am aM=>aM _ λan le2 aC ay=>?_) λ_ _ h=>h);refine oEA ay λf q_1 lm=>?_;subst q_1;refine PyProof.Rows.kws_nil (AAO (Lm hk nd h64 L h3.2 (I1.step le2 aC) lm hx (Av.mono le2.toup _ _ ao) (λl=>ksk_s1 _ _) (λx=>ksk_l1 _ _) (λx=>ksk_t1 _ _)) (λ_ _ p=>p.after (av.trans le2)) λ_ _ h=>h)
 |true =>
  refine PyProof.Rows.callWith_kw (e:=z) (rest:=[]) ?_ (by rw[st];rfl) (by rw[st];rfl);rw[st];refine spliced_cons (AAO (ha c g s z h2 I) (λX ai aL=>aL _ λaj av ar ao=>spliced_nil ?_) λ_ _ h=>h);have I1:=I.step av ar;refine PyProof.Rows.kws_cons (AAO (NW L hl I1) (λZ am aM=>aM _ λan le2 aC ay=>?_) λ_ _ h=>h);refine oEA ay λf q_1 lm=>?_;subst q_1;refine PyProof.Rows.kws_cons (wpAny_Constant_bool (PyProof.Rows.kws_nil (AAO (Lm hk nd h64 L h3.2 (I1.step le2 aC) lm hx (Av.mono le2.toup _ _ ao) (λl=>ksk_s2 _ _ _) (λx=>ksk_l2 _ _ _) (λx=>ksk_t2 _ _ _)) (λ_ _ p=>p.after (av.trans le2)) λ_ _ h=>h)))
noncomputable def Sz:Yp:=⟨Int,M9,M8,id,λa b=>decide (a<b),λ_ _=>rfl,vi,λ{T g y X} r=>by refine oE r λt q_1=>?_;subst q_1;rfl,λ{T g bs kA} r h2=>ksk_kind (kz:=bs) (by
 generalize kA.toList=l at r
 induction bs generalizing l with
 |nil=>rw[r.nil];exact .nil
 |cons b bs ih=>refine Br (Ay.cons r) λX l q_2 q_3 r'=>?_;subst q_2;obtain⟨t,rfl⟩:=q_3;exact .cons b t (ih l r')) h2⟩
theorem Nw:∀{bs:List Str} {l:List Value},Au T g (vss bs) l->StrsAre l bs
 |[],l,r=>by rw[r.nil];exact .nil
 |b::bs,l,r=>by refine Br (Ay.cons r) λX l q_2 q_3 r'=>?_;subst q_2;obtain⟨t,rfl,_⟩:=q_3;exact .cons b t (Nw r')
noncomputable def mE:Yp:=⟨Str,PyProof.Rows.strKind,strKind_oneLt,λx=>x.cps.toList,B9,λ_ _=>rfl,λx=>.d (.str x),λ{T g y X} r=>by refine oEA r λt q_1 _=>?_;subst q_1;rfl,λ{T g bs kA} r h2=>by
 have q1:=Nw r;obtain⟨aI,aJ,rest,ev⟩:∃aI aJ rest,kA.toList=aI::aJ::rest:=by
  rw[<-ABA] at h2;generalize kA.toList=l at h2;rcases l with _|⟨aI,_|⟨aJ,rest⟩⟩
  ·exact absurd h2 (by decide)
  ·exact absurd h2 (Nat.not_succ_le_self 1)
  ·exact FH aI aJ rest rfl
 have ek:kA=(aI::aJ::rest).toArray:=by rw[<-ev,Array.toArray_toList]
 rw[ev] at q1;rw[ek];exact keyKind_strs q1⟩
end
theorem Mh(hS:StrsAre vs ss):StrsAre vs.reverse ss.reverse:=by have h1:=strsAre_map vs.reverse (λv hv=>hS.all v (ADW.mp hv));rwa [ACV,hS.strs] at h1
section
variable{prog:Program}{w:World}{A:Around}{E:Value->Shared->Prop}{s:Shared}
theorem ZL(h:¬vs.toArray.size<2):∃aI aJ rest,vs=aI::aJ::rest:=by
 rcases vs with _|⟨aI,_|⟨aJ,rest⟩⟩
 ·exact absurd (Nat.zero_lt_succ _) h
 ·exact absurd (ADR _) h
 ·exact⟨aI,aJ,rest,rfl⟩
theorem JM{vs:List Value}{ss:List Str}{P:PySem.Fin->Shared->Prop}(ho:s.heap.get? a=al (seqObj "list" vs.toArray n))(hS:StrsAre vs ss)(h64:vs.length<64)
 (h:∀(out:Array Value) (ss':List Str),StrsAre out.toList ss'->ss'.Perm ss->sortedS ss'.reverse=true->P (.done (.ret .none)) {s with heap:=sortedHeap s.heap a vs out}) :
 wpAny (model prog w) A (Builtin.«list.sort» ⟨[.ref a],[(ACG "reverse",.bool true)]⟩) P E s:=by
 rw[list_sort_rev];have ha:a<s.heap.objs.size:=ACY ho;refine AAD (listItems_at ho rfl ?_);refine AAD (listUpdate_at ho rfl ?_);obtain⟨e1,ho1⟩:∃e1,(s.heap.update a (Obj.mapSeq λ_=>#[])).get? a=al (seqObj "list" #[] e1):=⟨_,get?_update_seq ho (λ_=>#[])⟩
 refine AAD (seqEpoch_at ho1 rfl ?_);refine AAD (wpAny_newTuple ?_);refine AAD (wpAny_newList ?_);refine AA8 ?_;have ho6:(((s.heap.update a (Obj.mapSeq λ_=>#[])).push (seqObj "tuple" vs.toArray 0)).push (seqObj "list" #[] 0)).get? a=al (seqObj "list" #[] e1):=by rw[Heap.get?_push_ne _ _ _ (by rw[size_push',Heap.size_update];exact ACX (Nat.lt_succ_of_lt ha)),Heap.get?_push_ne _ _ _ (by rw[Heap.size_update];exact ACX ha)];exact ho1
 show wpAny (model prog w) A _ P E {s with heap:=((s.heap.update a (Obj.mapSeq λ_=>#[])).push (seqObj "tuple" vs.toArray 0)).push (seqObj "list" #[] 0)};have hsz:vs.toArray.size=vs.length:=ACQ ..;have fin:∀st':SortSt,(arrOf st').Perm (pairsOf vs)->SortedToK PyProof.Rows.strKind (arrOf st') (pairsOf vs).size->P (.done (.ret .none)) {s with heap:=sortedHeap s.heap a vs ((arrOf st').map (·.2)).reverse}:=by intro st' hp hs;exact AS (sorted_out_str hS hp hs) λss' h1 h2 h3=>h _ ss'.reverse (by rw[Array.toList_reverse];exact Mh h1) ((AC5 _).trans h2) (by rw[List.reverse_reverse];exact h3)
 have hstart:(vs.toArray.zip vs.toArray).reverse.Perm (pairsOf vs):=Array.perm_iff_toList_perm.mpr (Array.toList_reverse▸AC5 _);dsimp only;rw[if_pos rfl];refine AAD (wpAny_rule ?_);rw[if_pos rfl];by_cases h2:vs.toArray.size<2
 ·rw[if_pos h2,if_pos h2];refine AAD (AAY ?_);rw[StateT.run_pure];refine AAD (AAY ?_);dsimp only;refine AAD (seqEpoch_at ho6 rfl ?_);rw[if_pos rfl];refine AAD (listUpdate_at ho6 rfl ?_ (hsz2:=by rw[Array.size_reverse,Array.size_map];show(vs.toArray.zip vs.toArray).reverse.size<=_;rw[Array.size_reverse,Array.size_zip,sizeLine_eq];lia))
  simp only[bne_self_eq_false,ADB,↓reduceIte];refine AAY (fin (SortSt.mk' general' (vs.toArray.zip vs.toArray).reverse #[] 7 az) hstart ?_);intro i j hij hj;have:i=j:=by rw[pairsOf_size] at hj;lia
  subst this;exact KeyOrd.kle_refl _
 ·rw[if_neg h2,if_neg h2];refine NE (ZL h2) λaI aJ rest q_3=>?_;subst q_3;rw[keyKind_strs hS];refine AAD (AAY ?_);refine AAD (AAO (wpS_sortRunsK (κ:=PyProof.Rows.strKind) strKind_oneLt (a₀:=pairsOf (aI::aJ::rest))
   (st:=SortSt.mk' oneType' ((aI::aJ::rest).toArray.zip (aI::aJ::rest).toArray).reverse #[] 7 az)
   (Q:=λ_ st'=>(arrOf st').Perm (pairsOf (aI::aJ::rest))/\failedOf st'=az/\SortedToK PyProof.Rows.strKind (arrOf st') (pairsOf (aI::aJ::rest)).size)
   hS.keysOf ⟨hstart,rfl,rfl,rfl⟩ (by rw[pairsOf_size];exact ACK _ _) (by rw[pairsOf_size];exact h64) λst' a1 a2 a3=>⟨a1,a2,a3⟩) ?_ λ_ _ e=>e)
  rintro⟨⟨⟩,st'⟩ s' ⟨rfl,hp,hf,hs⟩;dsimp only;refine AAD (seqEpoch_at ho6 rfl ?_);rw[if_pos rfl];refine AAD (listUpdate_at ho6 rfl ?_ (hsz2:=by rw[Array.size_reverse];refine AAC (Nat.le_of_eq ((Array.size_map ..).trans (hp.size_eq.trans (pairsOf_size _)))) ?_;rw[sizeLine_eq];exact OF h64 rfl))
  rw[hf];simp only[bne_self_eq_false,ADB,↓reduceIte];exact AAY (fin st' hp hs)
theorem IO(hl:s.heap.IsList l vs.toArray)(hS:StrsAre vs ss)(h64:vs.length<64)
 (h:∀(out:Array Value) (ss':List Str),StrsAre out.toList ss'->ss'.Perm ss->sortedS ss'.reverse=true->Q (.ref (s.heap.objs.size+1)) {s with heap:=sortedAll s.heap vs out}) :
 wpAny (model prog w) A (call (.builtin "sorted") [.ref l] [(ACG "reverse",.bool true)]) Q E s:=by
 refine call_function_entry_kw kind_sorted plain_sorted entry_sorted (args_sorted_rev _ _) ?_;unfold Builtin.«sorted»;refine AAD (m:=checkCount "sorted" 1 1 _) (AAY ?_);refine AAD (collect_list hl ?_);refine AAD (wpAny_newList ?_);have hsz:((s.heap.push (seqObj "list" #[] 0)).update s.heap.objs.size (Obj.mapSeq (·++vs.toArray))).objs.size=s.heap.objs.size+1:=by rw[Heap.size_update,size_push']
 have hoL:(((s.heap.push (seqObj "list" #[] 0)).update s.heap.objs.size (Obj.mapSeq (·++vs.toArray))).push (seqObj "list" vs.toArray 0)).get? (s.heap.objs.size+1)=al (seqObj "list" vs.toArray 0):=by exact hsz▸AA3 _ rfl
 show wpAny _ _ _ _ _ {s with heap:=((s.heap.push (seqObj "list" #[] 0)).update s.heap.objs.size (Obj.mapSeq (·++vs.toArray))).push (seqObj "list" vs.toArray 0)};rw[hsz];refine AAD (AA8 (wpAny_call_entry_kw slot_list_sort ⟨_,hoL,rfl⟩ entry_list_sort (JM hoL hS h64 λout ss' a1 a2 a3=>(iEA _ rfl ?_)) (args_list_sort_rev _ _)));exact AAY (iEA _ rfl (h out ss' a1 a2 a3))
end
section
variable{ss ss':List Str}
theorem SL.sortr(ha:SE n a J U x ag)(h:AE ag x=al (vss ss))(hl:ss.length<64)(hp:ss'.Perm ss)(hs:Ek ss'.reverse):SL n (.sortr a) J U (vss ss') ag:=λc g s ex hc I =>
 hc (λex=>c.wp (eval ex c.env) (Cj c.toAr g ag (vss ss')) s) λnm np z k cp kp p h1 h2=>by
 refine AAD (CF I h1 λf hf=>?_);obtain rfl:f=.builtin "sorted" := hf;have st:=(Ck a h2).star c.env [];refine PyProof.Rows.callWith_kw (e:=z) (rest:=[]) ?_ (by rw[st];rfl) (st▸rfl);rw[st];refine spliced_cons (AAO (ha c g s z h2 I) (λX ai aL=>aL _ λaj av ar ao=>spliced_nil ?_) λ_ _ h=>h);refine PyProof.Rows.kws_cons (wpAny_Constant_bool (PyProof.Rows.kws_nil ?_));refine Be ar ao h (R_:=λX=>c.wp (call (.builtin "sorted") [X] [(ACG "reverse",.bool true)]) (Cj c.toAr g ag (vss ss')) ai) λa ys hL hr hn _=>oA (Jo hr) λh1 h2=>?_;have hlen:ys.toList.length<64:=by rw[<-hr.length,AAB];exact hl
 refine IO (vs:=ys.toList) hL h1 hlen λout out' a1 a2 a3=>?_;have e:out'.reverse=ss'.reverse:=Gr (Eb a3) hs ((AC5 _).trans (a2.trans (hp.symm.trans (AC5 _).symm)));obtain rfl:out'=ss':=by rw[<-List.reverse_reverse out',e,List.reverse_reverse]
 exact oE (PyProof.Rows.sortedAll_at ai.heap ys.toList out) λk hk=>Cj.after av (.made ar (λb o e=>PyProof.Rows.sortedAll_old e) (ABO (ADP _)) hk (N7 a1 λz hz=>h2 z (a2.mem_iff.mp hz)) (by rw[AAB,hp.length_eq];exact AY (ACJ hl) rfl))
end
end Mine.Internal
namespace Mine.Internal
open PySem
noncomputable def noE:Expr:=.Name ("" : Str) ⟨0,0,0,0⟩
noncomputable def noS:Stmt:=.Pass ⟨0,0,0,0⟩
noncomputable def mW(x:Expr):List Expr :=
 match x with
 |.BinOp l _ r _=>[l,r]
 |.UnaryOp _ y _=>[y]
 |.BoolOp _ vs _=>vs
 |.Compare l _ rs _=>l::rs
 |.Tuple vs _ _=>vs
 |.List vs _=>vs
 |.Subscript v y _=>[v,y]
 |.Call f vs _ _=>f::vs
 |.Attribute y _ _=>[y]
 |.ListComp y gs _ _=>(match gs with|[g]=>y::g.target::g.iter::g.ifs|_=>[])
 |_=>[]
noncomputable def kE(x:Expr)(i:Nat):Expr:=(mW x)[i]?.getD noE
noncomputable def nmE(x:Expr):Str:=match x with|.Name n _=>n|_=>("" : Str)
noncomputable def KV(x:Expr):Nat:=match x with|.Constant _ k _=>k|.Tuple _ k _=>k|_=>0
noncomputable def WC(x:Expr):Option Expr×Option Expr:=match x with|.Slice l u _ _=>(l,u)|_=>(az,az)
noncomputable def kwE(x:Expr)(i:Nat):Keyword:=match x with|.Call _ _ ks _=>ks[i]?.getD ⟨az,noE,noE.pos⟩|_=>⟨az,noE,noE.pos⟩
noncomputable def cE(x:Expr):Arguments×Expr×Scope:=match x with|.Lambda as b sc _=>(as,b,sc)|_=>(⟨[],[],az,[],[],az,[]⟩,noE,default)
noncomputable def mZ(as:Arguments):Arg:=as.args[0]?.getD ⟨("" : Str),az,noE.pos⟩
noncomputable def scE(x:Expr):Scope:=match x with|.ListComp _ _ sc _=>sc|_=>default
noncomputable def DT(x:Expr):Expr:=.Name (nmE x) x.pos
noncomputable def kwA(x:Expr):Arg:=mZ (cE (kwE x 0).value).1
noncomputable def kwB(x:Expr):Expr:=(cE (kwE x 0).value).2.1
noncomputable def kwS(x:Expr):Scope:=(cE (kwE x 0).value).2.2
noncomputable def SH(x:Expr):List Nat->Nat->List Expr
 |[],_=>[]
 |_::r,k=>DT (kE x k)::SH x r (k+1)
noncomputable def emT(ts:List Nat)(x:Expr):Expr :=
 match ts with
 |[_]=>DT x
 |ts=>.Tuple (SH x ts 0) (KV x) x.pos
noncomputable def em:E->(Expr->Expr)×(Expr->Nat->List Expr)
 |.cst d=>(λx=>.Constant (toC d) (KV x) x.pos,λ_ _=>[])
 |.N _=>(DT,λ_ _=>[])
 |.ty _=>(DT,λ_ _=>[])
 |.glb _=>(DT,λ_ _=>[])
 |.B op a b=>(λx=>.BinOp ((em a).1 (kE x 0)) op ((em b).1 (kE x 1)) x.pos,λ_ _=>[])
 |.neg a=>(λx=>.UnaryOp .USub ((em a).1 (kE x 0)) x.pos,λ_ _=>[])
 |.not a=>(λx=>.UnaryOp .Not ((em a).1 (kE x 0)) x.pos,λ_ _=>[])
 |.P op es=>(λx=>.BoolOp op ((em es).2 x 0) x.pos,λ_ _=>[])
 |.C op a b=>(λx=>.Compare ((em a).1 (kE x 0)) [op] [(em b).1 (kE x 1)] x.pos,λ_ _=>[])
 |.nil=>(id,λ_ _=>[])
 |.cons a r=>(id,λx k=>(em a).1 (kE x k)::(em r).2 x (k+1))
 |.tup es=>(λx=>.Tuple ((em es).2 x 0) (KV x) x.pos,λ_ _=>[])
 |.lst es=>(λx=>.List ((em es).2 x 0) x.pos,λ_ _=>[])
 |.dct=>(λx=>.Dict [] [] x.pos,λ_ _=>[])
 |.aa a i=>(λx=>.Subscript ((em a).1 (kE x 0)) ((em i).1 (kE x 1)) x.pos,λ_ _=>[])
 |.slc a lo hi=>(λx=>.Subscript ((em a).1 (kE x 0)) (.Slice (if BR lo then az else al ((em lo).1 ((WC (kE x 1)).1.getD noE))) (if BR hi then az else al ((em hi).1 ((WC (kE x 1)).2.getD noE))) az (kE x 1).pos) x.pos,λ_ _=>[])
 |.bi _ es=>(λx=>.Call (DT (kE x 0)) ((em es).2 x 1) [] x.pos,λ_ _=>[])
 |.maxd a z=>(λx=>.Call (DT (kE x 0)) [(em a).1 (kE x 1)] [⟨al (ACG "default"),(em z).1 (kwE x 0).value,(kwE x 0).pos⟩] x.pos,λ_ _=>[])
 |.sortr a=>(λx=>.Call (DT (kE x 0)) [(em a).1 (kE x 1)] [⟨al (ACG "reverse"),.Constant (.bool true) (KV (kwE x 0).value) (kwE x 0).value.pos,(kwE x 0).pos⟩] x.pos,λ_ _=>[])
 |.sortk rev a _ key=>(λx=>.Call (DT (kE x 0)) [(em a).1 (kE x 1)] (⟨al (ACG "key"),.Lambda (Ga (kwA x).arg (kwA x).pos) ((em key).1 (kwB x)) (kwS x) (kwE x 0).value.pos,(kwE x 0).pos⟩ ::
  bif rev then [⟨al (ACG "reverse"),.Constant (.bool true) (KV (kwE x 1).value) (kwE x 1).value.pos,(kwE x 1).pos⟩] else []) x.pos,λ_ _=>[])
 |.F _ es=>(λx=>.Call (DT (kE x 0)) ((em es).2 x 1) [] x.pos,λ_ _=>[])
 |.H m o es=>(λx=>.Call (.Attribute ((em o).1 (kE (kE x 0) 0)) (ACG (F5 m)) (kE x 0).pos) ((em es).2 x 1) [] x.pos,λ_ _=>[])
 |.R nm o=>(λx=>.Attribute ((em o).1 (kE x 0)) nm x.pos,λ_ _=>[])
 |.ac nm o es=>(λx=>.Call (.Attribute ((em o).1 (kE (kE x 0) 0)) nm (kE x 0).pos) ((em es).2 x 1) [] x.pos,λ_ _=>[])
 |.new=>(λx=>.Call (DT (kE x 0)) [] [] x.pos,λ_ _=>[])
 |.D elt ts it ifs=>(λx=>.ListComp ((em elt).1 (kE x 0)) [⟨emT ts (kE x 1),(em it).1 (kE x 2),(em ifs).2 x 3,0⟩] (scE x) x.pos,λ_ _=>[])
 |.range es=>(λx=>.Call (DT (kE x 0)) ((em es).2 x 1) [] x.pos,λ_ _=>[])
 |.zip a b=>(λx=>.Call (DT (kE x 0)) [(em a).1 (kE x 1),(em b).1 (kE x 2)] [] x.pos,λ_ _=>[])
 |.enum a=>(λx=>.Call (DT (kE x 0)) [(em a).1 (kE x 1)] [] x.pos,λ_ _=>[])
 |.glx _=>(DT,λ_ _=>[])
noncomputable def TP(K:Kx)(x:Expr):List Nat->Nat->Bool
 |[],_=>true
 |i::r,k=>K.canWr i (nmE (kE x k))&&TP K x r (k+1)
noncomputable def okT(K:Kx)(ts:List Nat)(x:Expr):Bool :=
 match ts with
 |[i]=>K.canWr i (nmE x)
 |ts=>TP K x ts 0
noncomputable def no1(_:Expr):Bool:=false
noncomputable def no2(_:Expr)(_:Nat):Bool:=false
noncomputable def bQ(apos pos:Pos)(n:Nat):Bool:=apos.endLine==pos.line&&Nat.blt n 20
noncomputable def ok:E->Kx->(Expr->Bool)×(Expr->Nat->Bool)
 |.cst d,_=>(λ_=>cOk d,no2)
 |.N i,K=>(λx=>K.isVar (nmE x)&&K.isAt i (nmE x),no2)
 |.ty t,K=>(λx=>GH K (.ty t) (nmE x),no2)
 |.glb d,K=>(λx=>GH K (.cst d) (nmE x),no2)
 |.B _ a b,K=>(λx=>(ok a K).1 (kE x 0)&&(ok b K).1 (kE x 1),no2)
 |.neg a,K=>(λx=>(ok a K).1 (kE x 0),no2)
 |.not a,K=>(λx=>(ok a K).1 (kE x 0),no2)
 |.P _ es,K=>(λx=>(ok es K).2 x 0,no2)
 |.C _ a b,K=>(λx=>(ok a K).1 (kE x 0)&&(ok b K).1 (kE x 1),no2)
 |.nil,_=>(no1,λ_ _=>true)
 |.cons a r,K=>(no1,λx k=>(ok a K).1 (kE x k)&&(ok r K).2 x (k+1))
 |.tup es,K=>(λx=>(ok es K).2 x 0,no2)
 |.lst es,K=>(λx=>(ok es K).2 x 0,no2)
 |.dct,_=>(λ_=>true,no2)
 |.aa a i,K=>(λx=>(ok a K).1 (kE x 0)&&(ok i K).1 (kE x 1),no2)
 |.slc a lo hi,K=>(λx=>(ok a K).1 (kE x 0)&&((BR lo||(ok lo K).1 ((WC (kE x 1)).1.getD noE))&&(BR hi||(ok hi K).1 ((WC (kE x 1)).2.getD noE))),no2)
 |.bi b es,K=>(λx=>GH K (dR b) (nmE (kE x 0))&&(ok es K).2 x 1,no2)
 |.maxd a z,K=>(λx=>GH K (.bi .max) (nmE (kE x 0))&&((ok a K).1 (kE x 1)&&(ok z K).1 (kwE x 0).value),no2)
 |.sortr a,K=>(λx=>GH K (.bi .sorted) (nmE (kE x 0))&&(ok a K).1 (kE x 1),no2)
 |.sortk _ a i key,K=>(λx=>GH K (.bi .sorted) (nmE (kE x 0))&&((ok a K).1 (kE x 1)&&(Ut K i (kwA x).arg (kwS x)&&(ok key (K.lsub (kwA x).arg (kwS x))).1 (kwB x))),no2)
 |.F f es,K=>(λx=>GH K (.fn f) (nmE (kE x 0))&&(ok es K).2 x 1,no2)
 |.H _ o es,K=>(λx=>(ok o K).1 (kE (kE x 0) 0)&&((ok es K).2 x 1&&bQ (kE x 0).pos x.pos ((em es).2 x 1).length),no2)
 |.R _ o,K=>(λx=>(ok o K).1 (kE x 0),no2)
 |.ac _ o es,K=>(λx=>(ok o K).1 (kE (kE x 0) 0)&&((ok es K).2 x 1&&bQ (kE x 0).pos x.pos ((em es).2 x 1).length),no2)
 |.new,K=>(λx=>GH K .cls (nmE (kE x 0)),no2)
 |.D elt ts it ifs,K=>(λx=>(ok it K).1 (kE x 2)&&((IX K ts (scE x)&&I9 ts it)&&(okT (K.sub ts (scE x)) ts (kE x 1)&&((ok elt (K.sub ts (scE x))).1 (kE x 0)&&(ok ifs (K.sub ts (scE x))).2 x 3))),no2)
 |.range es,K=>(λx=>GH K (.ty "range") (nmE (kE x 0))&&(ok es K).2 x 1,no2)
 |.zip a b,K=>(λx=>GH K (.ty "zip") (nmE (kE x 0))&&((ok a K).1 (kE x 1)&&(ok b K).1 (kE x 2)),no2)
 |.enum a,K=>(λx=>GH K (.ty "enumerate") (nmE (kE x 0))&&(ok a K).1 (kE x 1),no2)
 |.glx k,K=>(λx=>GH K (gvE k) (nmE x),no2)
section
variable{K:Kx}
theorem AA(h:(a&&b)=true):a=true:=(AAH.mp h).1
theorem Ai(h:(a&&b)=true):b=true:=(AAH.mp h).2
theorem LK(h:K0 a b=true):a=b:=by
 cases a with
 |int i=>cases b with
  |int j=>rw[ABM h]
  |_=>exact ff_ h
 |str i=>cases b with
  |str j=>rw[ABM h]
  |_=>exact ff_ h
 |_=>exact ff_ h
theorem X6(h:hM v w=true):v=w:=by
 cases v with
 |fn f=>cases w with
  |fn g=>rw[ABM h]
  |_=>exact ff_ h
 |bi f=>cases w with
  |bi g=>cases f<;>cases g<;>first|rfl|exact ff_ h
  |_=>exact ff_ h
 |ty f=>cases w with
  |ty g=>rw[ABM h]
  |_=>exact ff_ h
 |cst f=>cases w with
  |cst g=>rw[LK h]
  |_=>exact ff_ h
 |cls=>cases w with
  |cls=>rfl
  |_=>exact ff_ h
 |exc f=>cases w with
  |exc g=>rw[ABM h]
  |_=>exact ff_ h
theorem Cu(h:GH K v n=true):K.to v n:=by
 refine⟨AA h,?_⟩;have h:=Ai h;cases e:K.gl n with
 |none=>rw[e] at h;exact ff_ h
 |some w=>rw[e] at h;rw[X6 h]
theorem QV(h:K.isAt i n=true):K.vars[i]? = al n:=by
 have h:(match K.vars[i]? with|some m=>m==n|none=>false)=true:=h;cases e:K.vars[i]? with
 |none=>rw[e] at h;exact ff_ h
 |some m=>rw[e] at h;rw[ABM h]
theorem Hs:∀{ts:List Nat} {k:Nat},TP K x ts k=true->OS K ts (SH x ts k)
 |[],_,_=>rfl
 |_::_,_,h=>λR_ f=>f _ _ _ (AA h) (Hs (Ai h))
theorem Uy(h:okT K ts x=true):IsT K ts (emT ts x):=λR_ h1 h2=>by
 match ts,h with
 |[],h=>exact h2 _ _ _ (λq=>nomatch q) (Hs h)
 |[i],h=>exact h1 i _ _ h
 |i::j::l,h=>exact h2 _ _ _ (λq=>nomatch q) (Hs h)
theorem R3(h:bQ a p n=true):a.endLine=p.line/\n<20:=⟨ABM (AA h),Nat.blt_eq.mp (Ai h)⟩
theorem TN(h:(BR e||b)=true)(hb:b=true->A t):(if BR e then Nd else Nc A) (if BR e then az else al t):=by
 by_cases q:BR e=true
 ·exact(if_pos q)▸(if_pos q)▸rfl
 ·rw[if_neg q,if_neg q];rw[Bool.not_eq_true] at q;rw[q] at h;exactλR_ k=>k _ (hb h)
end
theorem AO:∀e:E,(∀K x,(ok e K).1 x=true->(Is e K).1 ((em e).1 x))/\(∀K x k,(ok e K).2 x k=true->(Is e K).2 ((em e).2 x k))
 |.cst d=>⟨λK x h R_ k=>k _ _ h,λ_ _ _ h=>ff_ h⟩
 |.N i=>⟨λK x h R_ k=>k _ _ ⟨AA h,QV (Ai h)⟩,λ_ _ _ h=>ff_ h⟩
 |.ty t=>⟨λK x h R_ k=>k _ _ (Cu h),λ_ _ _ h=>ff_ h⟩
 |.glb d=>⟨λK x h R_ k=>k _ _ (Cu h),λ_ _ _ h=>ff_ h⟩
 |.B op a b=>⟨λK x h R_ k=>k _ _ _ ((AO a).1 K _ (AA h)) ((AO b).1 K _ (Ai h)),λ_ _ _ h=>ff_ h⟩
 |.neg a=>⟨λK x h R_ k=>k _ _ ((AO a).1 K _ h),λ_ _ _ h=>ff_ h⟩
 |.not a=>⟨λK x h R_ k=>k _ _ ((AO a).1 K _ h),λ_ _ _ h=>ff_ h⟩
 |.P op es=>⟨λK x h R_ k=>k _ _ ((AO es).2 K _ _ h),λ_ _ _ h=>ff_ h⟩
 |.C op a b=>⟨λK x h R_ k=>k _ _ _ ((AO a).1 K _ (AA h)) ((AO b).1 K _ (Ai h)),λ_ _ _ h=>ff_ h⟩
 |.nil=>⟨λ_ _ h=>ff_ h,λ_ _ _ _=>rfl⟩
 |.cons a r=>⟨λ_ _ h=>ff_ h,λK x _ h R_ k=>k _ _ ((AO a).1 K _ (AA h)) ((AO r).2 K _ _ (Ai h))⟩
 |.tup es=>⟨λK x h R_ k=>k _ _ _ ((AO es).2 K _ _ h),λ_ _ _ h=>ff_ h⟩
 |.lst es=>⟨λK x h R_ k=>k _ _ ((AO es).2 K _ _ h),λ_ _ _ h=>ff_ h⟩
 |.dct=>⟨λK x h R_ k=>k _,λ_ _ _ h=>ff_ h⟩
 |.aa a i=>⟨λK x h R_ k=>k _ _ _ ((AO a).1 K _ (AA h)) ((AO i).1 K _ (Ai h)),λ_ _ _ h=>ff_ h⟩
 |.slc a lo hi=>⟨λK x h R_ k=>k _ _ _ _ _ ((AO a).1 K _ (AA h)) (TN (AA (Ai h)) ((AO lo).1 K _)) (TN (Ai (Ai h)) ((AO hi).1 K _)),λ_ _ _ h=>ff_ h⟩
 |.bi b es=>⟨λK x h R_ k=>k _ _ _ _ (Cu (AA h)) ((AO es).2 K _ _ (Ai h)),λ_ _ _ h=>ff_ h⟩
 |.maxd a z=>⟨λK x h R_ k=>k _ _ _ _ _ _ (Cu (AA h)) ((AO a).1 K _ (AA (Ai h))) ((AO z).1 K _ (Ai (Ai h))),λ_ _ _ h=>ff_ h⟩
 |.sortr a=>⟨λK x h R_ k=>k _ _ _ _ _ _ _ (Cu (AA h)) ((AO a).1 K _ (Ai h)),λ_ _ _ h=>ff_ h⟩
 |.sortk rev a i key=>⟨λK x h R_ k=>k _ _ _ _ _ _ _ _ _ _ _ _ _ (Cu (AA h)) ((AO a).1 K _ (AA (Ai h))) ⟨AA (Ai (Ai h)),(AO key).1 _ _ (Ai (Ai (Ai h)))⟩,λ_ _ _ h=>ff_ h⟩
 |.F f es=>⟨λK x h R_ k=>k _ _ _ _ (Cu (AA h)) ((AO es).2 K _ _ (Ai h)),λ_ _ _ h=>ff_ h⟩
 |.H m o es=>⟨λK x h R_ k=>k _ _ _ _ ((AO o).1 K _ (AA h)) ((AO es).2 K _ _ (AA (Ai h))) (R3 (Ai (Ai h))).1 (R3 (Ai (Ai h))).2,λ_ _ _ h=>ff_ h⟩
 |.R nm o=>⟨λK x h R_ k=>k _ _ ((AO o).1 K _ h),λ_ _ _ h=>ff_ h⟩
 |.ac nm o es=>⟨λK x h R_ k=>k _ _ _ _ ((AO o).1 K _ (AA h)) ((AO es).2 K _ _ (AA (Ai h))) (R3 (Ai (Ai h))).1 (R3 (Ai (Ai h))).2,λ_ _ _ h=>ff_ h⟩
 |.new=>⟨λK x h R_ k=>k _ _ _ _ (Cu h) rfl,λ_ _ _ h=>ff_ h⟩
 |.D elt ts it ifs=>⟨λK x h R_ k=>k _ _ _ _ _ _ ((AO it).1 K _ (AA h)) ⟨AA (AA (Ai h)),Ai (AA (Ai h))⟩ (Uy (AA (Ai (Ai h)))) ((AO elt).1 _ _ (AA (Ai (Ai (Ai h))))) ((AO ifs).2 _ _ _ (Ai (Ai (Ai (Ai h))))),λ_ _ _ h=>ff_ h⟩
 |.range es=>⟨λK x h R_ k=>k _ _ _ _ (Cu (AA h)) ((AO es).2 K _ _ (Ai h)),λ_ _ _ h=>ff_ h⟩
 |.zip a b=>⟨λK x h R_ k=>k _ _ _ _ (Cu (AA h)) λR_ k=>k _ _ ((AO a).1 K _ (AA (Ai h))) λR_ k=>k _ _ ((AO b).1 K _ (Ai (Ai h))) rfl,λ_ _ _ h=>ff_ h⟩
 |.enum a=>⟨λK x h R_ k=>k _ _ _ _ (Cu (AA h)) λR_ k=>k _ _ ((AO a).1 K _ (Ai h)) rfl,λ_ _ _ h=>ff_ h⟩
 |.glx j=>⟨λK x h R_ k=>k _ _ (Cu h),λ_ _ _ h=>ff_ h⟩
noncomputable def stE(st:Stmt):List Expr :=
 match st with
 |.Assign ts v _=>v::ts
 |.Expr v _=>[v]
 |.If t _ _ _=>[t]
 |.While t _ _ _=>[t]
 |.For t i _ _ _=>[t,i]
 |.Return v _=>(match v with|some v=>[v]|none=>[])
 |.Raise v _ _=>(match v with|some v=>[v]|none=>[])
 |.Try _ hs _ _ _=>(match hs with|h::_=>(match h with|.ExceptHandler t _ _ _=>(match t with|some t=>[t]|none=>[]))|[]=>[])
 |_=>[]
noncomputable def stB(st:Stmt):List Stmt×List Stmt :=
 match st with
 |.If _ x y _=>(x,y)
 |.For _ _ b _ _=>(b,[])
 |.While _ b _ _=>(b,[])
 |.Try b hs _ _ _=>(b,match hs with|h::_=>(match h with|.ExceptHandler _ _ b _=>b)|[]=>[])
 |_=>([],[])
noncomputable def sE(st:Stmt)(i:Nat):Expr:=(stE st)[i]?.getD noE
noncomputable def hsS(st:Stmt):List ExceptHandler:=match st with|.Try _ hs _ _ _=>hs|_=>[]
noncomputable def noH:ExceptHandler:=.ExceptHandler az az [] noS.pos
noncomputable def hdT(h:ExceptHandler):Expr:=match h with|.ExceptHandler t _ _ _=>t.getD noE
noncomputable def hdN(h:ExceptHandler):Str:=match h with|.ExceptHandler _ n _ _=>n.getD ("" : Str)
noncomputable def hdB(h:ExceptHandler):Stmt:=match h with|.ExceptHandler _ _ b _=>b.headD noS
noncomputable def hdP(h:ExceptHandler):Pos:=match h with|.ExceptHandler _ _ _ p=>p
noncomputable def emH:List (Nat×Nat×E)->List ExceptHandler->List ExceptHandler
 |[],_=>[]
 |(_,_,e)::r,l=>.ExceptHandler (al (DT (hdT (l.headD noH)))) (al (hdN (l.headD noH))) [.Return (al ((em e).1 (sE (hdB (l.headD noH)) 0))) (hdB (l.headD noH)).pos] (hdP (l.headD noH))::emH r l.tail
noncomputable def okH(K:Kx):List (Nat×Nat×E)->List ExceptHandler->Bool
 |[],_=>true
 |(k,i,e)::r,l=>(GH K (.exc k) (nmE (hdT (l.headD noH)))&&((K.canWr i (hdN (l.headD noH))&&K.kd (hdN (l.headD noH)) .local)&&(ok e K).1 (sE (hdB (l.headD noH)) 0)))&&okH K r l.tail
theorem U9:∀{hs:List (Nat×Nat×E)} {l:List ExceptHandler},okH K hs l=true->eG K hs (emH hs l)
 |[],_,_=>rfl
 |(_,_,e)::_,_,h=>λR_ f=>f _ _ _ _ _ _ _ (Cu (AA (AA h))) ⟨AA (AA (Ai (AA h))),Ai (AA (Ai (AA h)))⟩ ((AO e).1 K _ (Ai (Ai (AA h)))) (U9 (Ai h))
noncomputable def emS:S->(Stmt->Stmt)×(List Stmt->List Stmt)
 |.any=>(id,id)
 |.nil=>(id,λ_=>[])
 |.cons s r=>(id,λl=>(emS s).1 (l.headD noS)::(emS r).2 l.tail)
 |.A _ e=>(λst=>.Assign [DT (sE st 1)] ((em e).1 (sE st 0)) st.pos,id)
 |.unp xs e=>(λst=>.Assign [.Tuple (SH (sE st 1) xs 0) (KV (sE st 1)) (sE st 1).pos] ((em e).1 (sE st 0)) st.pos,id)
 |.swp xs es=>(λst=>.Assign [.Tuple (SH (sE st 1) xs 0) (KV (sE st 1)) (sE st 1).pos] (.Tuple ((em es).2 (sE st 0) 0) (KV (sE st 0)) (sE st 0).pos) st.pos,id)
 |.set o i v=>(λst=>.Assign [.Subscript ((em o).1 (kE (sE st 1) 0)) ((em i).1 (kE (sE st 1) 1)) (sE st 1).pos] ((em v).1 (sE st 0)) st.pos,id)
 |.exp e=>(λst=>.Expr ((em e).1 (sE st 0)) st.pos,id)
 |.I c a b=>(λst=>.If ((em c).1 (sE st 0)) ((emS a).2 (stB st).1) ((emS b).2 (stB st).2) st.pos,id)
 |.L ts it body=>(λst=>.For (emT ts (sE st 0)) ((em it).1 (sE st 1)) ((emS body).2 (stB st).1) [] st.pos,id)
 |.while_ c body=>(λst=>.While ((em c).1 (sE st 0)) ((emS body).2 (stB st).1) [] st.pos,id)
 |.ret e=>(λst=>.Return (al ((em e).1 (sE st 0))) st.pos,id)
 |.rse _ es=>(λst=>.Raise (al (.Call (DT (kE (sE st 0) 0)) ((em es).2 (sE st 0) 1) [] (sE st 0).pos)) az st.pos,id)
 |.tryAs b hs=>(λst=>.Try ((emS b).2 (stB st).1) (emH hs (hsS st)) [] [] st.pos,id)
 |.setd _ nm=>(λst=>.Assign [.Attribute (DT (kE (sE st 1) 0)) nm (sE st 1).pos] (.Dict [] [] (sE st 0).pos) st.pos,id)
 |.swl _ _ _ es=>(λst=>.Assign [.Tuple [DT (kE (sE st 1) 0),DT (kE (sE st 1) 1),DT (kE (sE st 1) 2)] (KV (sE st 1)) (sE st 1).pos] (.Tuple ((em es).2 (sE st 0) 0) (KV (sE st 0)) (sE st 0).pos) st.pos,id)
noncomputable def noL(_:List Stmt):Bool:=false
noncomputable def okS:S->Kx->(Stmt->Bool)×(List Stmt->Bool)
 |.any,_=>(λ_=>true,λ_=>true)
 |.nil,_=>(λ_=>false,λ_=>true)
 |.cons s r,K=>(λ_=>false,λl=>(okS s K).1 (l.headD noS)&&(okS r K).2 l.tail)
 |.A x e,K=>(λst=>K.canWr x (nmE (sE st 1))&&((ok e K).1 (sE st 0)&&(bif CQ e then Tm K (nmE (sE st 1)) (sE st 1).pos ((em e).1 (sE st 0)) else true)),noL)
 |.unp xs e,K=>(λst=>TP K (sE st 1) xs 0&&(ok e K).1 (sE st 0),noL)
 |.swp xs es,K=>(λst=>TP K (sE st 1) xs 0&&(Iw K (SH (sE st 1) xs 0)&&(ok es K).2 (sE st 0) 0),noL)
 |.set o i v,K=>(λst=>(ok v K).1 (sE st 0)&&((ok o K).1 (kE (sE st 1) 0)&&(ok i K).1 (kE (sE st 1) 1)),noL)
 |.exp e,K=>(λst=>(ok e K).1 (sE st 0),noL)
 |.I c a b,K=>(λst=>(ok c K).1 (sE st 0)&&((okS a K).2 (stB st).1&&(okS b K).2 (stB st).2),noL)
 |.L ts it body,K=>(λst=>(okT K ts (sE st 0)&&I9 ts it)&&((ok it K).1 (sE st 1)&&(okS body K).2 (stB st).1),noL)
 |.while_ c body,K=>(λst=>(ok c K).1 (sE st 0)&&(okS body K).2 (stB st).1,noL)
 |.ret e,K=>(λst=>(ok e K).1 (sE st 0),noL)
 |.rse k es,K=>(λst=>GH K (.exc k) (nmE (kE (sE st 0) 0))&&((ok es K).2 (sE st 0) 1&&Nat.blt ((em es).2 (sE st 0) 1).length 20),noL)
 |.tryAs b hs,K=>(λst=>(okS b K).2 (stB st).1&&(okH K hs (hsS st)&&!hs.isEmpty),noL)
 |.setd x _,K=>(λst=>K.kd (nmE (kE (sE st 1) 0)) .local&&(K.isAt x (nmE (kE (sE st 1) 0))&&!(nmE (kE (sE st 1) 0)==("__debug__" : Str))),noL)
 |.swl i j l es,K=>(λst=>(K.canWr i (nmE (kE (sE st 1) 0))&&(K.canWr j (nmE (kE (sE st 1) 1))&&K.canWr l (nmE (kE (sE st 1) 2))))&&(Tk K (nmE (kE (sE st 1) 0)) (nmE (kE (sE st 1) 1)) (nmE (kE (sE st 1) 2)) (kE (sE st 1) 0).pos (kE (sE st 1) 1).pos (kE (sE st 1) 2).pos ((em es).2 (sE st 0) 0)&&(ok es K).2 (sE st 0) 0),noL)
theorem FF:∀(e:S),(∀K x,(okS e K).1 x=true->(Iss e K).1 ((emS e).1 x))/\(∀K x,(okS e K).2 x=true->(Iss e K).2 ((emS e).2 x))
 |.any=>⟨λ_ _ _=>trivial,λ_ _ _=>trivial⟩
 |.nil=>⟨λ_ _ h=>ff_ h,λ_ _ _=>rfl⟩
 |.cons s r=>⟨λ_ _ h=>ff_ h,λK l h R_ k=>k _ _ ((FF s).1 K _ (AA h)) ((FF r).2 K _ (Ai h))⟩
 |.A x e=>⟨λK st h R_ k=>k _ _ _ _ (AA h) ((AO e).1 K _ (AA (Ai h))) (Ai (Ai h)),λ_ _ h=>ff_ h⟩
 |.unp xs e=>⟨λK st h R_ k=>k _ _ _ _ _ (Hs (AA h)) ((AO e).1 K _ (Ai h)),λ_ _ h=>ff_ h⟩
 |.swp xs es=>⟨λK st h R_ k=>k _ _ _ _ _ _ _ ⟨Hs (AA h),AA (Ai h)⟩ ((AO es).2 K _ _ (Ai (Ai h))),λ_ _ h=>ff_ h⟩
 |.set o i v=>⟨λK st h R_ k=>k _ _ _ _ _ ((AO v).1 K _ (AA h)) ((AO o).1 K _ (AA (Ai h))) ((AO i).1 K _ (Ai (Ai h))),λ_ _ h=>ff_ h⟩
 |.exp e=>⟨λK st h R_ k=>k _ _ ((AO e).1 K _ h),λ_ _ h=>ff_ h⟩
 |.I c a b=>⟨λK st h R_ k=>k _ _ _ _ ((AO c).1 K _ (AA h)) ((FF a).2 K _ (AA (Ai h))) ((FF b).2 K _ (Ai (Ai h))),λ_ _ h=>ff_ h⟩
 |.L ts it body=>⟨λK st h R_ k=>k _ _ _ _ ⟨Uy (AA (AA h)),Ai (AA h)⟩ ((AO it).1 K _ (AA (Ai h))) ((FF body).2 K _ (Ai (Ai h))),λ_ _ h=>ff_ h⟩
 |.while_ c body=>⟨λK st h R_ k=>k _ _ _ ((AO c).1 K _ (AA h)) ((FF body).2 K _ (Ai h)),λ_ _ h=>ff_ h⟩
 |.ret e=>⟨λK st h R_ k=>k _ _ ((AO e).1 K _ h),λ_ _ h=>ff_ h⟩
 |.rse k es=>⟨λK st h R_ f=>f _ _ _ _ _ (Cu (AA h)) ((AO es).2 K _ _ (AA (Ai h))) (Nat.blt_eq.mp (Ai (Ai h))),λ_ _ h=>ff_ h⟩
 |.tryAs b hs=>⟨λK st h R_ f=>by
  have h2:=U9 (AA (Ai h));have h3:=Ai (Ai h)
  match hs,h2,h3 with
  |[],_,h3=>exact ff_ h3
  |(k,i,e)::r,h2,_=>exact f _ _ _ _ ((FF b).2 K _ (AA h)) h2,λ_ _ h=>ff_ h⟩
 |.setd x nm=>⟨λK st h R_ k=>k _ _ _ _ _ ⟨AA h,QV (AA (Ai h)),JE (Ai (Ai h))⟩,λ_ _ h=>ff_ h⟩
 |.swl i j l es=>⟨λK st h R_ k=>k _ _ _ _ _ _ _ _ _ _ _ _ ⟨⟨AA (AA h),AA (Ai (AA h)),Ai (Ai (AA h))⟩,AA (Ai h)⟩ ((AO es).2 K _ _ (Ai (Ai h))),λ_ _ h=>ff_ h⟩
noncomputable def YB(o:Option NameKind):Bool:=match o with|some k=>k==.local||k==.cell|none=>false
structure Rc where
 params:Arguments
 body:List Stmt
 scope:Scope
noncomputable def bP(lam:Option (Addr×Str))(fn:Fn)(vars:List Str)(r:Rc):Bool :=
 (decide (r.scope.kind=.function)&&(!r.scope.isGenerator&&(!r.scope.isCoroutine&&(decide vars.Nodup&&((vars.take fn.np).all (λn=>YB (r.scope.names.lookup n))&&r.scope.names.all (λq=>!(q.2==.free))))))) &&
 ((r.params.posonlyargs.isEmpty&&(r.params.vararg.isNone&&(r.params.kwonlyargs.isEmpty&&(r.params.kwarg.isNone&&(decide (r.params.args.map (·.arg)=vars.take fn.np)&&Nat.ble fn.np vars.length)))))&&(okS fn.body ⟨vars,r.scope.names,vars,glP,lam⟩).2 r.body)
theorem TH{o:Option NameKind}(h:YB o=true):o=al .local\/o=al .cell:=by
 cases o with
 |none=>exact ff_ h
 |some k=>exact(ABC.mp h).imp (λh=>by rw[ABM h]) λh=>by rw[ABM h]
theorem TY{α:Type}{l:List α}(h:l.isEmpty=true):l=[]:=by cases l with|nil=>rfl|cons _ _=>exact ff_ h
theorem none_of'{α:Type}{l:Option α}(h:l.isNone=true):l=az:=by cases l with|none=>rfl|some _=>exact ff_ h
theorem Rj{T:Top}{lam:Option (Addr×Str)}{fn:Fn}{vars:List Str}{r:Rc}{a:Addr}{o:Obj}{fd:FuncData}(h:bP lam fn vars r=true)(hem:(emS fn.body).2 r.body=r.body)
 (ho:T.h0.get? a=al o) (hd:o.data=.func fd) (hc:T.h0.CodeRec fd.code fd.qualname) (hp:fd.params=r.params) (hb:fd.body=.stmts r.body) (hs:fd.scope=r.scope) (hcl:fd.closure=[]) (hg:fd.globals=mainGlobals) (hbl:fd.builtins=builtinsNs) (hdf:fd.defaults=.none) (hkd:fd.kwdefaults=.none)
 (hl:∀t q,lam=al (t,q)->(t,q)∈T.tabs/\(fd.qualname++(".<locals>." : Str))++("<lambda>" : Str)=q/\∃c,fd.code=.ref c/\W.CodeHd T.h0 c t):eR T glP fn a fd r.body o vars lam:=by
 have h1:=AA h;have h2:=AA (Ai h);have h3:=(FF fn.body).2 _ _ (Ai (Ai h));rw[hem] at h3;have k4:=AAG (AA (Ai (Ai (Ai h1))));have p5:=AAG (AA (Ai (Ai (Ai (Ai h2)))));refine⟨ho,hd,hc,hb,hcl,hg,hbl,by rw[hs];exact AAG (AA h1),by rw[hs];exact JE (AA (Ai h1)),by rw[hs];exact JE (AA (Ai (Ai h1))),k4,λvals hv=>?_,λn hn=>?_,λp hp' e=>?_,by rw[hs];exact h3,hl⟩
 ·have e1:=TY (AA h2);have e2:=none_of' (AA (Ai h2));have e3:=TY (AA (Ai (Ai h2)));have e4:=none_of' (AA (Ai (Ai (Ai h2))));rcases hP:r.params with⟨po,as,va,ko,kd,kw,df⟩
  rw[hP] at e1 e2 e3 e4 p5 hp;have e1:=e1;have p5:=p5;subst e1 e2 e3 e4;rw[<-p5];refine K5 hp hdf hkd ?_ ?_
  ·have e5:as.length=(as.map (·.arg)).length:=(AAB _).symm;rw[hv,show as.length=fn.np by rw[e5,p5,ACT,ACP (ACH (Ai (Ai (Ai (Ai (Ai h2))))))]]
  ·exact p5▸List.Nodup.sublist (AC4 _ _) k4
 ·exact hs▸TH (ACL.mp (AA (Ai (Ai (Ai (Ai h1))))) n hn)
 ·rw[hs] at hp';have q:=ACL.mp (Ai (Ai (Ai (Ai (Ai h1))))) p hp';rw[e] at q;exact ff_ q
open PySem.Calls
theorem HOk.fzm(h:HOk n g A)(k:∀a o,g.fz a=al o->g'.fz a=al o):HOk n g' A:=⟨h.1.imp id λq=>⟨q.1,by obtain⟨b,o,vs,h1,h2,h3⟩:=q.2;exact⟨b,o,vs,h1,k _ _ h2,h3⟩⟩,h.2⟩
section
variable{g:G}{d:PyData}{xs:List V}
noncomputable def G.tuck(g:G)(m:Nat)(h:Heap):G:=⟨g.fz,λa=>if a∈g.mu.drop m then h.get? a else g.hid a,g.mu.take m⟩
theorem Q7(h:DV T g o x):x.cls≠frC:=by
 cases o with
 |list vs=>exact h (λx=>x.cls≠frC) λxs m _ _=>Bs rfl (by decide)
 |dictS kvs=>exact h _ λ_ _ _ ho _ _ _ _ _ _=>Bs ho.1 (by decide)
 |dictP kvs=>exact h _ λ_ _ _ ho _ _ _ _ _=>Bs ho.1 (by decide)
theorem Cv.sub(x:Cv g fe)(h:∀a o,g.hid a=al o->g'.hid a=al o):Cv g' fe:=λe he=>⟨(x e he).1,let ⟨L,o,es,ep,h1,h2,h3⟩:=(x e he).2;⟨L,o,es,ep,h1,h _ _ h2,h3⟩⟩
theorem Qo:G.upTo m g (g.tuck m h):=⟨λ_ _ e=>e,λ_ _ hk e=>(AC0 hk).trans e⟩
theorem Jl(q:a∉g.mu):(g.tuck m h).hid a=g.hid a:=if_neg λp=>q (AC1 p)
theorem Has.tuck(H:Has T g (U++τ) s)(hl:∀(k:Nat) o,U[k]? = al o->F7 U.length o):Has T (g.tuck U.length s.heap) U s:=by
 refine⟨H.fz,λa o e=>?_,?_,List.Nodup.sublist (AC4 _ _) H.nd,λa ha=>H.ap a (ACN ha),λa o e=>?_,λk a o e1 e2 R_ kk=>?_,H.base,λt q ht R_ kk=>H.tb t q ht R_ λps h1 h2 h3 h4 h5 h6=>kk ps h1 ((Jl h3).trans h2) (λq=>h3 (ACN q)) h4 h5 h6,H.gens,H.os⟩
 ·have e:(if a∈g.mu.drop U.length then s.heap.get? a else g.hid a)=al o:=e;by_cases q:a∈g.mu.drop U.length
  ·rw[if_pos q] at e;exact .of e
  ·rw[if_neg q] at e;exact H.hd a o e
 ·show(g.mu.take U.length).length=_;exact ACT▸H.len▸AAF▸ACP (AA9 _ _)
 ·have e:(if a∈g.mu.drop U.length then s.heap.get? a else g.hid a)=al o:=e;by_cases q:a∈g.mu.drop U.length
  ·exact⟨H.ap a (AC1 q),λp=>GT H.nd p q⟩
  ·rw[if_neg q] at e;exact⟨(H.ah a o e).1,λp=>(H.ah a o e).2 (ACN p)⟩
 ·have hk:k<U.length:=(AAM.mp e2).1;have e1:(g.mu.take U.length)[k]? = al a:=e1;rw[AC0 hk] at e1;exact H.ob k a o e1 ((ABE hk).trans e2) R_ λx h1 h2=>kk x h1 (Hc Qo (hl k o e2) h2)
theorem Has.untuck(H:Has T g (U++τ) s)(hl:U'.length=U.length)(le:G.le [] (g.tuck U.length s.heap) g')(H':Has T g' U' s'):Has T ⟨g'.fz,g.hid,g.mu⟩ (U'++τ) s':=by
 have hm:g.mu.length=U.length+τ.length:=H.len.trans AAF;have up:G.up g ⟨g'.fz,g.hid,g.mu⟩:=⟨le.fz,λ_ _ e=>e⟩
 have hid:∀a,g'.hid a=(g.tuck U.length s.heap).hid a:=λa=>le.hid a AA1;have hd1:∀{a o},g.hid a=al o->g'.hid a=al o:=λ{a o} e=>(hid a).trans ((Jl (H.ah a o e).2).trans e);have hd2:∀{a o},a∈g.mu.drop U.length->s.heap.get? a=al o->g'.hid a=al o:=λ{a o} q e=>(hid a).trans ((if_pos q).trans e);have mu1:∀{k:Nat} {a},k<U.length->g.mu[k]? = al a->g'.mu[k]? = al a:=λ{k a} hk e=>le.mu k a ((AC0 hk).trans e);have up':G.up g' ⟨g'.fz,g.hid,g.mu⟩:=⟨λ_ _ e=>e,λk a e=>by have hk:k<U.length:=hl▸H'.len▸NK e;have e2:g.mu[k]? = al (g.mu[k]'(hm▸Nat.lt_add_right _ hk)):=AAN _;rw[e2,As (mu1 hk e2) e]⟩
 refine⟨H'.fz,λa o e=>H'.hd a o (hd1 e),hm.trans (by rw[AAF,hl]),H.nd,λa ha=>?_,λa o e=>⟨(H'.ah a o (hd1 e)).1,(H.ah a o e).2⟩,λk a o e1 e2 R_ kk=>?_,H'.base,λt q ht R_ kk=>H.tb t q ht R_ λ_ _ h2 h3 _ _ _=>H'.tb t q ht R_ λps h1 _ _ h4 h5 h6=>kk ps h1 h2 h3 h4 h5 h6,H'.gens,H'.os⟩
 ·obtain⟨k,hk,e⟩:=List.mem_iff_getElem.mp ha;have e:g.mu[k]? = al a:=by rw[AAN hk,e]
  by_cases q:k<U.length
  ·exact H'.ap a (AA5 (mu1 q e))
  ·exact oE (H.muAlive ha) λo ho=>(H'.ah a o (hd2 (AA5 (i:=k-U.length) (by rw[List.getElem?_drop,Nat.add_sub_cancel' (ACM q)];exact e)) ho)).1
 ·by_cases q:k<U.length
  ·rw[ABE (hl▸q)] at e2;exact H'.ob k a o (mu1 q e1) e2 R_ λx h1 h2=>kk x h1 (DV.mono up' _ _ h2)
  ·have q:=ACM q;rw[AA6 (hl▸q),hl] at e2;refine H.ob k a o e1 ((AA6 q).trans e2) R_ λx h1 h2=>kk x ((H'.hd a x (hd2 ?_ h1)).ex (Q7 h2)) (DV.mono up _ _ h2);exact AA5 (i:=k-U.length) (by rw[List.getElem?_drop,Nat.add_sub_cancel' q];exact e1)
theorem FA.tail(hf:FA n f xs U (.d d) U')(hl:U'.length=U.length)(hx:∀x,x∈xs->low U.length x)(hw:∀(k:Nat) o,U[k]? = al o->F7 U.length o):FA n f xs (U++τ) (.d d) (U'++τ):=λr g s a Xs h A R =>
 AAO (hf r (g.tuck U.length s.heap) s a Xs h ⟨A.ok,A.frames,A.top,A.depth,A.units,A.hh.fzm λ_ _ e=>e,A.frs.sub λa o e=>(Jl (A.has.ah a o e).2).trans e,A.has.tuck hw⟩ (Ay.imp (λv X hv rx=>Jv Qo (hx v hv) rx) R)) (λX s' p=>p _ λg' le H' rX =>
  .mk ⟨g'.fz,g.hid,g.mu⟩ ⟨⟨le.fz,λ_ _ e=>e⟩,λ_ _=>rfl⟩ (A.has.untuck hl le H') rX) λ_ _ h=>h
theorem FA.any(hf:FA n f xs [] (.d d) [])(hx:∀x,x∈xs->low 0 x):FA n f xs U (.d d) U:=FA.tail (U:=[]) (U':=[]) hf rfl hx λk o e=>Aa e
theorem FA.more(hf:FA n f xs U v U')(h:n<=k):FA k f xs U v U':=λr g s a Xs hf' A R=>hf r g s a Xs hf' (A.less h) R
theorem FN.more(hf:FN n f xs U v U')(h:n<=k):FN k f xs U v U':=FA.more hf (ADF h 3)
end
open PySem.SeqAt
noncomputable def dfl(o:Option PyData)(z:V):V:=match o with|some d=>.d d|none=>z
theorem SE.getP(hb0:FT a)(ha:SE n a J U (.ref k) ag)(hb:SEs n b J ag [vp q,z] ak)(h0:ag[k]? = al (.dictP kvp))(h1:ak[k]? = al (.dictP kvp)):SE n (.H .get a b) J U (dfl (Aq kvp q) z) ak:=by
 refine SE.H hb0 F.plainAttrs_dict F.slot_dict_get F.type_dict_get ha hb (λr g s X A hx=>?_) λr g s X Ys A hx hy=>?_
 ·refine oEA hx λc hk q_2=>?_;subst q_2;refine⟨Gi A hk h0 (λ_ q=>nomatch q),λl e=>?_⟩;obtain rfl:=ABR e;exact A.has.ob k c _ hk h0 _ λx hx rx=>rx _ λ_ _ _ ho _ _ _ _ _=>(iEA x hx ho.2.1)
 ·refine oEA hx λc hk q_2=>?_;subst q_2;refine Br hy.two λY Z q_2 ry rz=>?_;subst q_2;refine IY ry (R_:=λY=>r.wp (call (.builtin "dict.get") [.ref c,Y,Z]) (Ans r g _ ak) s) λb hb=>A.has.dictP hk h1 λws hD hr=>call_meetsIn F.slot_dict_get hD.typeIs F.entry_dict_get (F.args_dict_get_3 _ _ _) (meetsH_dict_get_default (tupleKind (Dz r.T.prog r.T.w)) c b (A.notMods hk) Z) (PF (AAS (AA9 _ 40) A.room) (Ii q) ws (Fy A.has hb) hD (.refl A.has.tok ?_));rcases Ke hr q with⟨e1,e2⟩|⟨d,v,e1,e2,rv⟩
  ·exact e1▸e2▸rz
  ·exact e1▸e2▸rv
mutual
theorem AG.reads(hz:∀a o,fz a=al o->h.get? a=al o):∀(d:PyData) (v:Value),AG fz d v->∃as,Reads h v d as
 |.none,v,r=>⟨[],(show v=.none from r)▸.none⟩
 |.bool b,v,r=>⟨[],(show v=.bool b from r)▸.bool b⟩
 |.int i,v,r=>let ⟨t,e⟩:=r;⟨[],e▸.int i t⟩
 |.str s,v,r=>let ⟨t,e,_⟩:=r;⟨[],e▸.str s t⟩
 |.list ds,v,r=>r (λv=>∃as,Reads h v (.list ds) as) λa o vs m h1 h2 h3 h4 _=>let ⟨as,ra⟩:=RepDs.reads hz ds vs.toList h4;⟨a::as,.list (hz a o h1) h2 h3 ra⟩
 |.tuple ds,v,r=>r (λv=>∃as,Reads h v (.tuple ds) as) λa o vs m h1 h2 h3 h4 _=>let ⟨as,ra⟩:=RepDs.reads hz ds vs.toList h4;⟨as,.tuple (hz a o h1) h2 h3 ra⟩
 |.dict _,_,r=>r.elim
theorem RepDs.reads(hz:∀a o,fz a=al o->h.get? a=al o):∀(ds:List PyData) (vs:List Value),RepDs fz ds vs->∃as,ReadsAll h vs ds as
 |[],[],_=>⟨[],.nil⟩
 |d::ds,v::vs,r=>let ⟨as,ra⟩:=AG.reads hz d v r.1;let ⟨bs,rb⟩:=RepDs.reads hz ds vs r.2;⟨as++bs,.cons ra rb⟩
 |[],_::_,r=>r.elim
 |_::_,[],r=>r.elim
end
structure Shw(d:PyData):Prop where
 able:d.showable=true
 nod:d.hasDict=false
 dep:d.depth<=50
 len:d.shown.length<=line
noncomputable def WF(d:PyData):Bool:=d.showable&&(!d.hasDict&&(decide (d.depth<=50)&&decide (d.shown.length<=line)))
theorem AB8:type_of% @decide_eq_true_iff:=@decide_eq_true_iff
theorem Qy:WF d=true↔Shw d:=by unfold WF;rw[AAH,AAH,AAH,AB8,AB8,ACZ];exact⟨λh=>⟨h.1,h.2.1,h.2.2.1,h.2.2.2⟩,λh=>⟨h.able,h.nod,h.dep,h.len⟩⟩
noncomputable def U8(d:PyData):Bool:=match d with|.list _=>true|.tuple _=>true|_=>false
theorem Uz(q:U8 d=true)(hx:AG fz d X):∃a,X=.ref a:=by
 cases d with
 |list ds=>exact hx (λX=>∃a,X=.ref a) λa _ _ _ _ _ _ _ _=>⟨a,rfl⟩
 |tuple ds=>exact hx (λX=>∃a,X=.ref a) λa _ _ _ _ _ _ _ _=>⟨a,rfl⟩
 |_=>exact ff_ q
theorem dB(q:U8 d=true)(h:Shw d):Pr1 (λX=>call (Bj .repr) [X]) (.d d) U (.d (.str d.shown)) U:=λr g s X A hx=>by obtain⟨as,R⟩:=AG.reads A.has.fz d X hx;obtain⟨a,rfl⟩:=Uz q hx;have hu:r.A.units+(d.depth+1)<cLine:=BV (Nat.add_le_add (AAC (AA9 _ _) A.units) (ABS h.dep)) rfl;exact repr_of_reads' R h.able (PyData.noDict_hsm h.nod) A.hh.2 hu (λ_ _ e=>e) (λh' u tk hk=>.refl (A.has.keep hk) ⟨u,rfl,h.len⟩) (Bd▸h.len)
noncomputable def CV(v:V):Option Int:=match v with|.d x=>(match x with|.int i=>al i|_=>az)|_=>az
noncomputable def CE(v:V):Option Str:=match v with|.d x=>(match x with|.str s=>al s|_=>az)|_=>az
noncomputable def HI(v:V):Option Bool:=match v with|.d x=>(match x with|.bool s=>al s|_=>az)|_=>az
noncomputable def YC(xs:List PyData):Option (Str×Int) :=
 match xs with
 |x::y::r=>(match x with|.str a=>(match y with|.int b=>(match r with|[]=>al (a,b)|_=>az)|_=>az)|_=>az)
 |_=>az
noncomputable def QC(v:V):Option (Str×Int):=match v with|.d x=>(match x with|.tuple xs=>YC xs|_=>az)|_=>az
noncomputable def D6{α:Type}(f:V->Option α):List V->Option (List α)
 |[]=>al []
 |v::r=>(f v).bind λx=>(D6 f r).bind λxs=>al (x::xs)
noncomputable def mkL(ws:List V):Option V:=if ws.length<=line then(Gm ws).bind λxs=>al (.d (.list xs)) else az
noncomputable def Fp(U:Ac)(v:V):Option Bool :=
 match v with
 |.d x=>(match x with|.none=>al false|.bool b=>al b|.int i=>al (i != 0)|.str s=>al (s.cps.size != 0)|.list xs=>al (!xs.isEmpty)|.tuple xs=>al (!xs.isEmpty)|_=>az)
 |.ref k=>(Fh U[k]?).bind λws=>al (!ws.isEmpty)
 |_=>az
noncomputable def Yh(op:Operator)(x y:V)(U:Ac):Option (List V) :=
 match op with
 |.Add=>(AE U x).bind λws=>(AE U y).bind λus=>if ws.length+us.length<=line then al (ws++us) else az
 |_=>az
noncomputable def dW(x y:V)(U:Ac):Option V :=
 match CV x with
 |some i=>(CV y).bind λj=>al (vi (i+j))
 |none=>(match CE x with
  |some a=>(CE y).bind λb=>if a.length+b.length<=line then al (.d (.str (a++b))) else az
  |none=>(Yh .Add x y U).bind mkL)
noncomputable def LR(f:Int->Int->Option Int)(x y:V):Option V:=(CV x).bind λi=>(CV y).bind λj=>(f i j).bind λk=>al (vi k)
noncomputable def Gy(op:Operator)(x y:V)(U:Ac):Option V :=
 match op with
 |.Add=>dW x y U
 |.Sub=>LR (λi j=>al (i-j)) x y
 |.Mult=>LR (λi j=>if (small i||small j)=true then al (i*j) else az) x y
 |.FloorDiv=>LR (λi j=>if j=0 then az else al (i.fdiv j)) x y
 |.Mod=>LR (λi j=>if j=0 then az else al (i.fmod j)) x y
 |_=>az
noncomputable def Ib(o:Option Bool):Option Bool:=o.bind λb=>al (!b)
noncomputable def eqV(U:Ac)(x y:V):Option Bool:=(GZ U x).bind λd=>(GZ U y).bind λd'=>eqN AQ d d'
noncomputable def gU(x:V):Option Bool:=match x with|.d u=>(match u with|.none=>al true|_=>az)|_=>az
noncomputable def isV(x y:V):Option Bool:=match y with|.d z=>(match z with|.none=>bif Hi x then al false else gU x|_=>az)|_=>az
noncomputable def QX(U:Ac)(x y:V):Option Bool:=(GZ U x).bind λd=>(GZ U y).bind λe=>(match e with|.list ds=>inD d ds|.tuple ds=>inD d ds|_=>az)
noncomputable def inO(U:Ac)(x:V)(k:Nat)(o:Option O):Option Bool :=
 match o with
 |some o=>(match o with
  |.list _=>QX U x (.ref k)
  |.dictS kvs=>(CE x).bind λz=>al (Aq kvs z).isSome
  |.dictP kvs=>(QC x).bind λq=>al (Aq kvs q).isSome)
 |none=>az
noncomputable def inV(U:Ac)(x y:V):Option Bool :=
 match y with
 |.ref k=>inO U x k U[k]?
 |y=>(match CE y with|some w=>(CE x).bind λu=>al (Txt.contains w u)|none=>QX U x y)
noncomputable def V7(f:Int->Int->Bool)(x y:V):Option Bool:=(CV x).bind λi=>(CV y).bind λj=>al (f i j)
noncomputable def geV(x y:V):Option Bool:=match CE x with|some a=>(CE y).bind λb=>al (!B9 a b)|none=>V7 (λi j=>decide (i≥j)) x y
noncomputable def BH(op:CmpOp)(x y:V)(U:Ac):Option Bool :=
 match op with
 |.Eq=>eqV U x y
 |.NotEq=>Ib (eqV U x y)
 |.Lt=>V7 (λi j=>decide (i<j)) x y
 |.LtE=>V7 (λi j=>decide (i<=j)) x y
 |.Gt=>V7 (λi j=>decide (i>j)) x y
 |.GtE=>geV x y
 |.Is=>isV x y
 |.IsNot=>Ib (isV x y)
 |.In=>inV U x y
 |.NotIn=>Ib (inV U x y)
noncomputable def nth(ws:List V)(k:Int):Option V:=if small k=true then(seqIndex? k ws.length).bind λj=>ws[j]? else az
noncomputable def RQ(U:Ac)(y:V)(o:Option O):Option V :=
 match o with
 |some o=>(match o with
  |.list ws=>(CV y).bind (nth ws)
  |.dictS kvs=>(CE y).bind λz=>(Aq kvs z).bind λd=>al (.d d)
  |.dictP kvs=>(QC y).bind λq=>(Aq kvs q).bind λd=>al (.d d))
 |none=>az
noncomputable def BB(x y:V)(U:Ac):Option V :=
 match x with
 |.ref k=>RQ U y U[k]?
 |x=>(match CE x with
  |some z=>(CV y).bind λk=>if small k=true then(Txt.charAt z k).bind λc=>al (.d (.str (O4 c))) else az
  |none=>(match CK x with
   |some ws=>(CV y).bind (nth ws)
   |none=>(AE U x).bind λws=>(CV y).bind (nth ws)))
noncomputable def XZ(U:Ac)(x:V)(lo hi:Option Int):Option (List V):=(AE U x).bind λws=>al (Dc lo hi ws)
noncomputable def slice(U:Ac)(x:V)(lo hi:Option Int):Option V :=
 match CE x with
 |some z=>al (.d (.str (IR lo hi z)))
 |none=>(XZ U x lo hi).bind mkL
noncomputable def EI(x:Str):List Str->List Str
 |[]=>[x]
 |y::r=>if B9 x y then x::y::r else y::EI x r
noncomputable def DX:List Str->List Str
 |[]=>[]
 |x::r=>EI x (DX r)
noncomputable def QP(o:Option O):Option (List V) :=
 match o with
 |some o=>(match o with
  |.list ws=>al ws
  |.dictS kvs=>if kvs.all (λp=>decide (p.1.length<=line))=true then al (vss (kvs.map (·.1))) else az
  |.dictP _=>az)
 |none=>az
noncomputable def toList(U:Ac)(x:V):Option (List V):=match x with|.ref k=>QP U[k]? | x=>AE U x
noncomputable def MW(b:Bi)(U:Ac)(x:V):Option (List V) :=
 match b with
 |.list=>toList U x
 |.sorted=>(AE U x).bind λws=>(D6 CE ws).bind λss=>if ss.length<64 then al (vss (DX ss)) else az
 |_=>az
noncomputable def Ry(b:Bi)(U:Ac)(xs:List V):Option (List V):=match xs with|x::r=>(match r with|[]=>MW b U x|_=>az)|[]=>az
noncomputable def cA(U:Ac)(x:V):Option V :=
 match CE x with
 |some z=>al (vi z.cps.size)
 |none=>(match CK x with
  |some ws=>al (vi ws.length)
  |none=>(AE U x).bind λws=>al (vi ws.length))
noncomputable def YA(x:V):Option V:=match x with|.d d=>bif U8 d&&WF d then al (.d (.str d.shown)) else az|_=>az
noncomputable def VF(b:Bi)(U:Ac)(x:V):Option V :=
 match b with
 |.len=>cA U x
 |.str=>(CV x).bind λi=>if i.natAbs<1000000000000 then al (.d (.str (Qt i))) else az
 |.all=>(AE U x).bind λws=>(D6 HI ws).bind λbs=>al (vb (bs.all id))
 |.any=>(AE U x).bind λws=>(D6 HI ws).bind λbs=>al (vb (bs.any id))
 |.ord=>(CE x).bind λz=>(match z.cps.toList with|c::r=>(match r with|[]=>al (vi c)|_=>az)|[]=>az)
 |.repr=>YA x
 |b=>(MW b U x).bind mkL
noncomputable def VE(b:Bi)(U:Ac)(x y:V):Option V :=
 match b with
 |.min=>LR (λi j=>al (if j<i then j else i)) x y
 |_=>az
noncomputable def Dd(b:Bi)(U:Ac)(xs:List V):Option V :=
 match xs with
 |[]=>az
 |x::r=>(match r with|[]=>VF b U x|y::r=>(match r with|[]=>VE b U x y|_=>az))
noncomputable def wOf(v:V):Option (PyData⊕Nat):=match v with|.d x=>al (.inl x)|.ref k=>al (.inr k)|_=>az
noncomputable def Wx(ws:List V):Option V :=
 if ws.length<=line then(match Gm ws with
  |some ds=>al (.d (.tuple ds))
  |none=>(D6 wOf ws).bind λus=>al (.tup us)) else az
noncomputable def R1:List Str->List Nat->Str->Option Nat
 |a::as,k::ks,nm=>if a==nm then al k else R1 as ks nm
 |_,_,_=>az
noncomputable def Yk(nm:Str)(v:V):Option V:=match v with|.obj ks=>(R1 Dy ks nm).bind λk=>al (.ref k)|_=>az
noncomputable def gD(v:V):Option (List Nat):=match v with|.obj ks=>al ks|_=>az
noncomputable def YK(U:Ac)(x:V)(ys:List V):Option V :=
 match ys with
 |y::r=>(match r with
  |[]=>(CE x).bind λz=>(AE U y).bind λws=>(D6 CE ws).bind λss=>if JoinOk z ss=true then al (.d (.str (Txt.join z ss))) else az
  |_=>az)
 |[]=>az
noncomputable def MA(U:Ac)(x:V)(ys:List V):Option V :=
 match ys with
 |y::r=>(match r with
  |[]=>(match x with|.ref k=>(Fh U[k]?).bind λws=>(Gm ws).bind λds=>(gV y).bind λd=>(inD d ds).bind λ_=>(Of d ds).bind λj=>al (vi j)|_=>az)
  |_=>az)
 |[]=>az
noncomputable def Vx(o:Option O)(y z:V):Option V:=match o with|some o=>(match o with|.dictP kvs=>(QC y).bind λq=>al (dfl (Aq kvs q) z)|_=>az)|none=>az
noncomputable def YT(U:Ac)(x:V)(ys:List V):Option V:=match ys with|y::r=>(match r with|z::r=>(match r with|[]=>(match x with|.ref k=>Vx U[k]? y z|_=>az)|_=>az)|[]=>az)|[]=>az
noncomputable def YH(m:SZ)(U:Ac)(x:V)(ys:List V):Option V:=match m with|.join=>YK U x ys|.index=>MA U x ys|.get=>YT U x ys|_=>az
noncomputable def Fc(f:V->Option (Option V)):List V->Option (List V)
 |[]=>al []
 |v::r=>(f v).bind λx=>(Fc f r).bind λxs=>al (match x with|some y=>y::xs|none=>xs)
noncomputable def Rz(ts:List Nat)(v:V):Bool:=Nat.beq ts.length 1||(match CK v with|some vs=>Nat.beq vs.length ts.length|none=>false)
noncomputable abbrev Its:=List V×List (Nat×List V)
noncomputable def GD(U:Ac)(v:V):Option Its:=match CE v with|some z=>if z.cps.all (· < 128)=true then al (G6 z.cps.toList,[]) else az|none=>(AE U v).bind λws=>al (ws,Fi v ws)
noncomputable def TG(xs:List V):Option Its:=match xs with|x::r=>(match r with|[]=>(CV x).bind λk=>if k<=1000000/\-1000000<=k then al (upV 0 k.toNat,[]) else az|_=>az)|[]=>az
noncomputable def JP(U:Ac)(v:V):Option (List PyData):=(AE U v).bind Gm
noncomputable def D8(e:E):Bool:=match e with|.N _=>true|.cst _=>true|.aa _ _=>true|.R _ _=>true|_=>false
noncomputable def cM(e:E):Bool:=match e with|.N _=>true|_=>false
noncomputable def Ci(J:Am)(i:Nat):Option V:=match J[i]? with|some o=>o|none=>az
noncomputable abbrev Orc:=Nat->List V->Ac->Option V
structure Ev where
 v:Am->Ac->Option V
 nl:Am->Ac->Option (List V)
 row:Am->Ac->Option (List V)
 it:Am->Ac->Option Its
 t:Am->Ac->Option Bool
 bo:BoolOp->Am->Ac->Option V
 bt:BoolOp->Am->Ac->Option Bool
 ts:Am->Ac->Option Bool
noncomputable def Ev.no:Ev:=⟨λ_ _=>az,λ_ _=>az,λ_ _=>az,λ_ _=>az,λ_ _=>az,λ_ _ _=>az,λ_ _ _=>az,λ_ _=>az⟩
noncomputable def Ev.plain(f:Am->Ac->Option V):Ev:={Ev.no with v:=f,it:=λJ U=>(f J U).bind (GD U),t:=λJ U=>(f J U).bind (Fp U)}
noncomputable def Ev.made(f:Am->Ac->Option V)(g:Am->Ac->Option (List V)):Ev:={Ev.plain f with nl:=λJ U=>(g J U).bind λws=>if ws.length<=line then al ws else az}
noncomputable def J9(e:E)(f:Am->Ac->Option V)(J:Am)(U:Ac):Option (Option Int):=if BR e=true then al az else(f J U).bind λv=>(CV v).bind λi=>al (al i)
noncomputable def ev(O:Orc):E->Ev
 |.cst x=>.plain λ_ _=>al (.d x)
 |.N i=>.plain λJ _=>Ci J i
 |.ty t=>.plain λ_ _=>al (.ty t)
 |.glb x=>.plain λ_ _=>al (.d x)
 |.B op a b=>.made (λJ U=>((ev O a).v J U).bind λx=>((ev O b).v J U).bind λy=>Gy op x y U) λJ U=>((ev O a).v J U).bind λx=>((ev O b).v J U).bind λy=>Yh op x y U
 |.neg a=>.plain λJ U=>((ev O a).v J U).bind λx=>(CV x).bind λi=>al (vi (-i))
 |.not a=>{Ev.no with v:=λJ U=>((ev O a).v J U).bind λx=>(Fp U x).bind λt=>al (vb !t),t:=λJ U=>Ib ((ev O a).t J U)}
 |.P op es=>{Ev.no with v:=(ev O es).bo op,t:=(ev O es).bt op}
 |.C op a b=>{Ev.no with v:=λJ U=>((ev O a).v J U).bind λx=>((ev O b).v J U).bind λy=>(BH op x y U).bind λt=>al (vb t),t:=λJ U=>((ev O a).v J U).bind λx=>((ev O b).v J U).bind λy=>BH op x y U}
 |.nil=>{Ev.no with row:=λ_ _=>al [],bt:=λop _ _=>al (!Dx op),ts:=λ_ _=>al true}
 |.cons a r=>{Ev.no with
  row:=λJ U=>((ev O a).v J U).bind λx=>((ev O r).row J U).bind λxs=>al (x::xs)
  bo:=λop J U=>bif BR r then(ev O a).v J U else((ev O a).v J U).bind λx=>(Fp U x).bind λt=>bif t==Dx op then al x else(ev O r).bo op J U
  bt:=λop J U=>((ev O a).t J U).bind λt=>bif t==Dx op then al t else(ev O r).bt op J U
  ts:=λJ U=>((ev O a).t J U).bind λt=>bif t then(ev O r).ts J U else al false}
 |.tup es=>.plain λJ U=>((ev O es).row J U).bind Wx
 |.lst es=>.made (λJ U=>((ev O es).row J U).bind mkL) λJ U=>(ev O es).row J U
 |.aa a i=>.plain λJ U=>((ev O a).v J U).bind λx=>((ev O i).v J U).bind λy=>BB x y U
 |.slc a lo hi=>.made (λJ U=>((ev O a).v J U).bind λx=>(J9 lo (ev O lo).v J U).bind λl=>(J9 hi (ev O hi).v J U).bind λh=>slice U x l h) λJ U=>((ev O a).v J U).bind λx=>(J9 lo (ev O lo).v J U).bind λl=>(J9 hi (ev O hi).v J U).bind λh=>XZ U x l h
 |.bi b es=>.made (λJ U=>((ev O es).row J U).bind (Dd b U)) λJ U=>((ev O es).row J U).bind (Ry b U)
 |.maxd a z=>.plain λJ U=>((ev O a).v J U).bind λx=>((ev O z).v J U).bind λy=>(CV y).bind λk=>(AE U x).bind λws=>(D6 CV ws).bind λis=>al (vi (EY k is))
 |.F f es=>.plain λJ U=>((ev O es).row J U).bind λxs=>O f xs U
 |.H m o es=>.plain λJ U=>bif D8 o then((ev O o).v J U).bind λx=>((ev O es).row J U).bind λys=>YH m U x ys else az
 |.R nm o=>.plain λJ U=>bif cM o then((ev O o).v J U).bind (Yk nm) else az
 |.ac nm o es=>.plain λJ U=>bif D8 o then((ev O o).v J U).bind λx=>((ev O es).row J U).bind λys=>(gD x).bind λks=>(mtP nm).bind λf=>O f (.obj ks::ys) U else az
 |.D elt ts it ifs=>.made (λJ U=>(((ev O it).it J U).bind λp=>Fc (λv=>bif Rz ts v then((ev O ifs).ts (CA (Bm J ts) ts v) U).bind λt=>bif t then((ev O elt).v (CA (Bm J ts) ts v) U).bind (λu=>al (al u)) else al az else az) p.1).bind mkL)
  λJ U=>((ev O it).it J U).bind λp=>Fc (λv=>bif Rz ts v then((ev O ifs).ts (CA (Bm J ts) ts v) U).bind λt=>bif t then((ev O elt).v (CA (Bm J ts) ts v) U).bind (λu=>al (al u)) else al az else az) p.1
 |.range es=>{Ev.no with it:=λJ U=>((ev O es).row J U).bind TG}
 |.zip a b=>{Ev.no with it:=λJ U=>((ev O a).v J U).bind λx=>((ev O b).v J U).bind λy=>(AE U x).bind λds=>(AE U y).bind λds'=>al (KN ds ds',Fi x ds++Fi y ds')}
 |.enum a=>{Ev.no with it:=λJ U=>((ev O a).v J U).bind λx=>(JP U x).bind λds=>al (HC 0 ds,Fi x (ds.map .d))}
 |_=>Ev.no
section
variable{ws us:List V}{b:Bool}{i:Int}
theorem BF(h:CV v=al i):v=vi i:=by
 cases v with
 |d x=>cases x with
  |int j=>rw[AAA h]
  |_=>exact Aa h
 |_=>exact Aa h
theorem BI(h:CE v=al z):v=.d (.str z):=by
 cases v with
 |d x=>cases x with
  |str j=>rw[AAA h]
  |_=>exact Aa h
 |_=>exact Aa h
theorem O6(h:HI v=al b):v=vb b:=by
 cases v with
 |d x=>cases x with
  |bool j=>rw[AAA h]
  |_=>exact Aa h
 |_=>exact Aa h
theorem TJ(h:YC xs=al q):xs=[.str q.1,.int q.2]:=by
 match xs,h with
 |[],h=>exact Aa h
 |[_],h=>exact Aa h
 |x::y::r,h=>cases x with
  |str a=>cases y with
   |int b=>cases r with
    |nil=>rw[<-AAA h]
    |cons _ _=>exact Aa h
   |_=>exact Aa h
  |_=>exact Aa h
theorem J7(h:QC v=al q):v=vp q:=by
 cases v with
 |d x=>cases x with
  |tuple j=>rw[TJ h]
  |_=>exact Aa h
 |_=>exact Aa h
theorem EH{α:Type}{f:V->Option α}{g:α->V}(hf:∀v x,f v=al x->v=g x):∀{ws:List V} {xs:List α},D6 f ws=al xs->ws=xs.map g
 |[],_,h=>by rw[<-AAA h];rfl
 |v::r,xs,h=>by exact oEA (ae h) λx e h=>oEA (ae h) λys e' h=>(AAA h)▸(hf v x e)▸(EH hf e')▸rfl
theorem JI(h:mkL ws=al v):∃ds,ws=ds.map .d/\ws.length<=line/\v=.d (.list ds):=by
 unfold mkL at h;by_cases q:ws.length<=line
 ·rw[if_pos q] at h;exact oEA (ae h) λds e h=>Az ds (HL e) q ((AAA h).symm)
 ·rw[if_neg q] at h;exact Aa h
theorem Me(h:Tr U v b)(e:b=b'):Tr U v b':=e▸h
theorem Ie{α β:Type}{f:α->β}(l:List α):(!(l.map f).isEmpty) = !l.isEmpty:=by cases l<;>rfl
theorem CL(h:Fp U v=al b):Tr U v b:=by
 cases v with
 |d x=>cases x with
  |none=>exact AAA h▸Wy
  |bool b=>exact AAA h▸Qq
  |int i=>exact AAA h▸ZO
  |str s=>exact AAA h▸ZN
  |list xs=>exact Me (Qp rfl) ((Ie xs).trans (AAA h))
  |tuple xs=>exact Me (ZM rfl) ((Ie xs).trans (AAA h))
  |_=>exact Aa h
 |ref k =>
  exact oEA (ae h) λws e h=>Me (Qp e) (AAA h)
 |_=>exact Aa h
theorem MT(h:Yh op x y U=al ws):dX (binaryOp op) x y U ws:=by
 cases op with
 |Add =>
  exact oEA (ae h) λus e h=>oEA (ae h) λus' e' h=>oA (BG h) λq h=>h▸Pu e e' q
 |_=>exact Aa h
theorem FL(hf:∀i j k,f i j=al k->Pr2 m (vi i) (vi j) U (vi k) U l)(h:LR f x y=al v):Pr2 m x y U v U l:=by exact oEA (ae h) λi e h=>oEA (ae h) λj e' h=>oEA (ae h) λk e2 h=>(BF e)▸(BF e')▸(AAA h)▸hf i j k e2
theorem Ht{α:Type}{c:Prop}[Decidable c]{a b:α}(h:(if c then az else al a)=al b):¬ c/\a=b:=by
 by_cases hc:c
 ·rw[if_pos hc] at h;exact Aa h
 ·rw[if_neg hc] at h;exact⟨hc,AAA h⟩
theorem VA(h:Gy op x y U=al v):Pr2 (binaryOp op) x y U v U\/∃ws,Yh op x y U=al ws/\mkL ws=al v:=by
 cases op with
 |Add =>
  have h:dW x y U=al v:=h;unfold dW at h;cases e:CV x with
  |some i =>
   rw[e] at h;exact oEA (ae h) λj e' h=>(BF e)▸(BF e')▸(AAA h)▸.inl gB
  |none =>
   rw[e] at h;cases e':CE x with
   |some a =>
    rw[e'] at h;exact oEA (ae h) λb e2 h=>oA (BG h) λq h=>(BI e')▸(BI e2)▸h▸.inl (gA q)
   |none=>rw[e'] at h;exact .inr (ae h)
 |Sub=>exact .inl (FL (λi j k e=>AAA e▸fR) h)
 |Mult=>exact .inl (FL (f:=λi j=>if (small i||small j)=true then al (i*j) else az) (λi j k e=>(BG e).2▸fS (BG e).1) h)
 |FloorDiv=>exact .inl (FL (f:=λi j=>if j=0 then az else al (i.fdiv j)) (λi j k e=>(Ht e).2▸fZ (Ht e).1) h)
 |Mod=>exact .inl (FL (f:=λi j=>if j=0 then az else al (i.fmod j)) (λi j k e=>(Ht e).2▸fT (Ht e).1) h)
 |_=>exact Aa h
theorem IZ(h:Ib o=al b):∃c,o=al c/\b = !c:=by exact oEA (ae h) λc e h=>iEA c e ((AAA h).symm)
theorem Vr(h:eqV U x y=al b):Pr2 (compareOp .Eq) x y U (vb b) U/\Pr2 (compareOp .NotEq) x y U (vb !b) U:=by exact oEA (ae h) λd e h=>oEA (ae h) λd' e' h=>⟨mM e e' h,mF e e' h⟩
theorem Ux(h:isV x y=al b):Pr2 (compareOp .Is) x y U (vb b) U/\Pr2 (compareOp .IsNot) x y U (vb !b) U:=by
 cases y with
 |d z=>cases z with
  |none =>
   have h:(bif Hi x then al false else gU x)=al b:=h;cases q:Hi x with
   |true=>rw[q] at h;rw[<-AAA h];exact fU q
   |false =>
    rw[q] at h;cases x with
    |d u=>cases u with
     |none=>rw[<-AAA h];exact mI
     |_=>exact Aa h
    |_=>exact Aa h
  |_=>exact Aa h
 |_=>exact Aa h
theorem Oe(h:QX U x y=al b):Pr2 (compareOp .In) x y U (vb b) U/\Pr2 (compareOp .NotIn) x y U (vb !b) U:=by
 refine oEA (ae h) λd e h=>oEA (ae h) λd' e' h=>?_;cases d' with
 |list ds=>exact UG e (.inl e') h
 |tuple ds=>exact UG e (.inr e') h
 |_=>exact Aa h
theorem GF(h:(match CE y with|some w=>(CE x).bind λu=>al (Txt.contains w u)|none=>QX U x y)=al b):Pr2 (compareOp .In) x y U (vb b) U/\Pr2 (compareOp .NotIn) x y U (vb !b) U:=by
 cases e:CE y with
 |some w =>
  rw[e] at h;exact oEA (ae h) λu e' h=>(BI e)▸(BI e')▸(AAA h)▸fV
 |none=>rw[e] at h;exact Oe h
theorem UJ(h:inV U x y=al b):Pr2 (compareOp .In) x y U (vb b) U/\Pr2 (compareOp .NotIn) x y U (vb !b) U:=by
 cases y with
 |ref k =>
  have h:inO U x k U[k]? = al b:=h;cases e:U[k]? with
  |none=>rw[e] at h;exact Aa h
  |some o =>
   rw[e] at h;cases o with
   |list ws=>exact Oe h
   |dictS kvs=>refine oEA (ae h) λu e' h=>?_;rw[BI e',<-AAA h];exact fW e
   |dictP kvs=>refine oEA (ae h) λu e' h=>?_;rw[J7 e',<-AAA h];exact fX e
 |d z=>exact GF h
 |tup z=>exact GF h
 |pr _ _=>exact GF h
 |ty z=>exact GF h
 |obj z=>exact GF h
 |exc z=>exact GF h
 |ecl z=>exact GF h
theorem Jc(hf:∀i j,Pr2 m (vi i) (vi j) U (vb (f i j)) U)(h:V7 f x y=al b):Pr2 m x y U (vb b) U:=by exact oEA (ae h) λi e h=>oEA (ae h) λj e' h=>(BF e)▸(BF e')▸(AAA h)▸hf i j
theorem Dv(h:BH op x y U=al b):Pr2 (compareOp op) x y U (vb b) U:=by
 cases op with
 |Eq=>exact(Vr h).1
 |NotEq=>refine oEA (IZ h) λc e q_2=>?_;subst q_2;exact(Vr e).2
 |Lt=>exact Jc (λ_ _=>mG) h
 |LtE=>exact Jc (λ_ _=>mH) h
 |Gt=>exact Jc (λ_ _=>mJ) h
 |GtE =>
  have h:geV x y=al b:=h;unfold geV at h;cases e:CE x with
  |some a =>
   rw[e] at h;exact oEA (ae h) λb' e2 h=>(BI e)▸(BI e2)▸(AAA h)▸fY
  |none=>rw[e] at h;exact Jc (λ_ _=>mL) h
 |Is=>exact(Ux h).1
 |IsNot=>refine oEA (IZ h) λc e q_2=>?_;subst q_2;exact(Ux e).2
 |In=>exact(UJ h).1
 |NotIn=>refine oEA (IZ h) λc e q_2=>?_;subst q_2;exact(UJ e).2
theorem NG(h:nth ws k=al v):small k=true/\∃j,seqIndex? k ws.length=al j/\ws[j]? = al v:=by
 unfold nth at h;by_cases q:small k=true
 ·rw[if_pos q] at h;exact⟨q,ae h⟩
 ·rw[if_neg q] at h;exact Aa h
theorem QF(e:AE U x=al ws)(h:(CV y).bind (nth ws)=al v):PrG x y U v:=by exact oEA (ae h) λk e' h=>WS (NG h) λq j h1 h2=>(BF e')▸cY e q h1 h2
theorem EB (h:(match CE x with
 |some z=>(CV y).bind λk=>if small k=true then(Txt.charAt z k).bind λc=>al (.d (.str (O4 c))) else az
 |none=>(match CK x with
  |some ws=>(CV y).bind (nth ws)
  |none=>(AE U x).bind λws=>(CV y).bind (nth ws)))=al v):PrG x y U v:=by
 cases e:CE x with
 |some z =>
  rw[e] at h;refine oEA (ae h) λk e' h=>?_;by_cases q:small k=true
  ·rw[if_pos q] at h;exact oEA (ae h) λc e2 h=>(BI e)▸(BF e')▸(AAA h)▸iC q e2
  ·rw[if_neg q] at h;exact Aa h
 |none =>
  rw[e] at h;cases e2:CK x with
  |some ws =>
   rw[e2] at h;exact oEA (ae h) λk e' h=>WS (NG h) λq j h1 h2=>(BF e')▸iB e2 q h1 h2
  |none=>rw[e2] at h;refine oEA (ae h) λws e3 h=>?_;exact QF e3 h
theorem HQ(h:BB x y U=al v):PrG x y U v:=by
 cases x with
 |ref k =>
  have h:RQ U y U[k]? = al v:=h;cases e:U[k]? with
  |none=>rw[e] at h;exact Aa h
  |some o =>
   rw[e] at h;cases o with
   |list ws=>exact QF (by show Fh U[k]? = _;rw[e];rfl) h
   |dictS kvs =>
    exact oEA (ae h) λu e' h=>oEA (ae h) λd e2 h=>(BI e')▸(AAA h)▸XB e e2
   |dictP kvs =>
    exact oEA (ae h) λu e' h=>oEA (ae h) λd e2 h=>(J7 e')▸(AAA h)▸XC e e2
 |d z=>exact EB h
 |tup z=>exact EB h
 |pr _ _=>exact EB h
 |ty z=>exact EB h
 |obj z=>exact EB h
 |exc z=>exact EB h
 |ecl z=>exact EB h
theorem Rw(h:XZ U x lo hi=al ws):PrC x U lo hi λr g=>Cj r g U ws:=by exact oEA (ae h) λus e h=>AAA h▸dQ e
theorem Tv(h:slice U x lo hi=al v):(PrC x U lo hi λr g=>Ans r g v U)\/∃ws,XZ U x lo hi=al ws/\mkL ws=al v:=by
 unfold slice at h;cases e:CE x with
 |some z=>rw[e] at h;rw[BI e,<-AAA h];exact .inl iV
 |none=>rw[e] at h;exact .inr (ae h)
theorem FG(x:Str):∀l:List Str,(EI x l).Perm (x::l)
 |[]=>.refl _
 |y::r=>by
  show(if B9 x y=true then x::y::r else y::EI x r).Perm _;by_cases q:B9 x y=true
  ·rw[if_pos q]
  ·exact(if_neg q)▸(List.Perm.cons y (FG x r)).trans (.swap ..)
theorem GX:∀l:List Str,(DX l).Perm l
 |[]=>.refl _
 |x::r=>(FG x _).trans (.cons x (GX r))
theorem P4{a b:Str}(h:B9 a b=true):B9 b a=false:=AAT λq=>List.lt_irrefl _ (List.lt_trans (AAG h) q)
theorem Uj{a b c:Str}(h1:B9 a b=true)(h2:B9 c b=false):B9 c a=false:=AAT λq=>ABG h2 (List.lt_trans q (AAG h1))
theorem Gv(x:Str):∀l:List Str,Ek l->Ek (EI x l)
 |[],_=>List.pairwise_singleton ..
 |y::r,h=>by
  have h1:=ACS.mp h;show Ek (if B9 x y=true then x::y::r else y::EI x r);by_cases q:B9 x y=true
  ·rw[if_pos q];refine ACS.mpr ⟨λw hw=>?_,h⟩;rcases AAR.mp hw with rfl|hw
   ·exact P4 q
   ·exact Uj q (h1.1 w hw)
  ·rw[if_neg q];refine ACS.mpr ⟨λw hw=>?_,Gv x r h1.2⟩;rcases AAR.mp ((FG x r).mem_iff.mp hw) with rfl|hw
   ·rw[Bool.not_eq_true] at q;exact q
   ·exact h1.1 w hw
theorem DE:∀l:List Str,Ek (DX l)
 |[]=>.nil
 |x::r=>Gv x _ (DE r)
theorem RM(h:toList U x=al ws):Nb (λX=>call (Bj .list) [X]) x U ws 3:=by
 cases x with
 |ref k =>
  have h:QP U[k]? = al ws:=h;cases e:U[k]? with
  |none=>rw[e] at h;exact Aa h
  |some o =>
   rw[e] at h;cases o with
   |list us=>rw[<-AAA h];exact(Vi (by show Fh U[k]? = _;rw[e];rfl)).up
   |dictS kvs =>
    exact oA (BG h) λq h=>h▸(XQ e λp hp=>AAG (ACL.mp q p hp))
   |dictP kvs=>exact Aa h
 |d z=>exact(Vi (x:=.d z) h).up
 |tup z=>exact Aa h
 |pr _ _=>exact Aa h
 |ty z=>exact Aa h
 |obj z=>exact Aa h
 |exc z=>exact Aa h
 |ecl z=>exact Aa h
theorem LM{b:Bi}(h:MW b U x=al ws):Nb (λX=>call (Bj b) [X]) x U ws 3:=by
 cases b with
 |list=>exact RM h
 |sorted =>
  exact oEA (ae h) λus e h=>oEA (ae h) λss e' h=>oA (BG h) λq h=>h▸(Vh (e.trans (congrArg al (EH (λ_ _=>BI) e'))) q (GX ss) (DE ss)).up
 |_=>exact Aa h
theorem M4(h:cA U x=al v):Pr1 (λX=>call (Bj .len) [X]) x U v U:=by
 unfold cA at h;cases e:CE x with
 |some z=>rw[e] at h;rw[BI e,<-AAA h];exact dD
 |none =>
  rw[e] at h;cases e2:CK x with
  |some ws=>rw[e2] at h;rw[<-AAA h];exact dC e2
  |none=>rw[e2] at h;refine oEA (ae h) λws e3 h=>?_;rw[<-AAA h];exact iK e3
theorem bL(h:(match z.cps.toList with|c::r=>(match r with|[]=>al (vi c)|_=>az)|[]=>az)=al v):Pr1 (λX=>call (Bj .ord) [X]) (.d (.str z)) U v U:=by
 match e:z.cps.toList,h with
 |[],h=>exact Aa h
 |[c],h =>
  exact(AAA h)▸(show z=O4 c by rw[show z=⟨z.cps⟩ from rfl,<-Array.toArray_toList (xs:=z.cps),e];rfl)▸iI
 |_::_::_,h=>exact Aa h
theorem FJ{α:Type}{c:Bool}{o:Option α}{y:α}(h:(bif c then o else az)=al y):c=true/\o=al y:=by cases c with|true=>exact⟨rfl,h⟩|false=>exact Aa h
theorem TC(h:YA x=al v):Pr1 (λX=>call (Bj .repr) [X]) x U v U:=by
 cases x with
 |d y =>
  exact oA (FJ h) λq h=>AAA h▸dB (AAH.mp q).1 (Qy.mp (AAH.mp q).2)
 |_=>exact Aa h
theorem SV{b:Bi}(h:VF b U x=al v):Pr1 (λX=>call (Bj b) [X]) x U v U 3\/∃ws,MW b U x=al ws/\mkL ws=al v:=by
 cases b with
 |len=>exact .inl (M4 h).up
 |str =>
  exact oEA (ae h) λi e h=>oA (BG h) λq h=>(BF e)▸h▸.inl (iH q).up
 |all =>
  exact oEA (ae h) λus e h=>oEA (ae h) λss e' h=>(AAA h)▸.inl (YN (e.trans (congrArg al (EH (λ_ _=>O6) e'))))
 |any =>
  exact oEA (ae h) λus e h=>oEA (ae h) λss e' h=>(AAA h)▸.inl (iN (e.trans (congrArg al (EH (g:=λy=>.d (.bool y)) (λ_ _=>O6) e'))))
 |ord =>
  exact oEA (ae h) λz e h=>(BI e)▸.inl (bL h).up
 |repr=>exact .inl (TC h).up
 |_=>exact .inr (ae h)
theorem SU{b:Bi}(h:VE b U x y=al v):Pr2 (λX Y=>call (Bj b) [X,Y]) x y U v U 3:=by
 cases b with
 |min=>exact FL (λi j k e=>AAA e▸iJ) h
 |_=>exact Aa h
theorem ZH(h:wOf v=al u):v=wv u:=by
 cases v with
 |d x=>rw[<-AAA h];rfl
 |ref k=>rw[<-AAA h];rfl
 |_=>exact Aa h
theorem OB:∀{as:List Str} {ks:List Nat} {k:Nat},R1 as ks nm=al k->∃f:Nat,as[f]? = al nm/\ks[f]? = al k
 |[],_,_,h=>Aa h
 |_::_,[],_,h=>Aa h
 |a::as,k'::ks,k,h=>by
  have h:(if (a==nm)=true then al k' else R1 as ks nm)=al k:=h;by_cases q:(a==nm)=true
  ·rw[if_pos q] at h;exact iEA 0 ((ABM q)▸rfl) h
  ·rw[if_neg q] at h;exact oEA (OB h) λf h1 h2=>iEA (f+1) h1 h2
theorem VB(h:Rz ts v=true):FI ts v:=by
 rcases ABC.mp h with q|q
 ·exact .inl (ADL q)
 ·cases e:CK v with
  |none=>rw[e] at q;exact ff_ q
  |some vs=>rw[e] at q;exact .inr (iEA vs e (ADL q))
end
structure Dj(n:Nat)(e:E)(w:Ev):Prop where
 v:∀{J U x},w.v J U=al x->SE (n+3) e J U x U
 nl:∀{J U ws},w.nl J U=al ws->SL (n+3) e J U ws U
 row:∀{J U xs},w.row J U=al xs->SEs (n+3) e J U xs U
 it:∀{J U p},w.it J U=al p->SI (n+3) e J U p.1 p.2 U/\C8 U p.2
 t:∀{J U b},w.t J U=al b->ST (n+3) e J U b U
 bo:∀{op J U x},w.bo op J U=al x->SB (n+3) op e J U x U
 bt:∀{op J U b},w.bt op J U=al b->SBt (n+3) op e J U b U
 ts:∀{J U b},w.ts J U=al b->SIf (n+3) e J U b U
noncomputable def M7(e:E):Bool:=match e with|.not _=>true|.P _ _=>true|.C _ _ _=>true|_=>false
theorem Fo(e:E)(hp:M7 e=false)(h:IsE e K ex):∀env w,isTrue ex env w=(w>>=λv=>standAt ex.pos>>=λ_=>holding [v] (truthy v)):=by
 cases e with
 |nil=>exact h.elim
 |cons _ _=>exact h.elim
 |not _=>exact tt_ hp
 |P _ _=>exact tt_ hp
 |C _ _ _=>exact tt_ hp
 |_=>exact h (λex=>∀env w,isTrue ex env w=(w>>=λv=>standAt ex.pos>>=λ_=>holding [v] (truthy v))) (by intros;rfl)
theorem Hp(h:AE U v=al ws):C8 U (Fi v ws):=λk us m=>by
 cases v with
 |ref j =>
  refine oA (ABK (AAJ.mp m)) λq_0 q_1=>?_;subst q_0;subst q_1;exact Dl h
 |_=>exact nomatch m
theorem Uv(hz:BO e=false)(h:SE (n+3) e J U v U)(hv:GD U v=al p):SI (n+3) e J U p.1 p.2 U/\C8 U p.2:=by
 unfold GD at hv;cases q:CE v with
 |some z =>
  rw[q] at hv;refine oA (BG hv) λha hv=>?_;rw[BI q] at h;exact hv▸⟨SI.str (ACK 3 n) h ha hz,λ_ _ m=>nomatch m⟩
 |none =>
  rw[q] at hv;exact oEA (ae hv) λws e1 hv=>AAA hv▸⟨.lst h e1 hz,Hp e1⟩
theorem Dj.plain(h:∀{J U x},f J U=al x->SE (n+3) e J U x U)(hl:M7 e=false:=by rfl)(hz:BO e=false:=by rfl):Dj n e (.plain f) where
 v:=h
 nl:=λh=>Aa h
 row:=λh=>Aa h
 it:=λq=>by refine oEA (ae q) λx e1 q=>?_;exact Uv hz (h e1) q
 t:=λq=>by refine oEA (ae q) λx e1 q=>?_;exact ST.plain (λhc=>Fo e hl hc) (h e1) (CL q)
 bo:=λh=>Aa h
 bt:=λh=>Aa h
 ts:=λh=>Aa h
theorem Dj.made(h:∀{J U x},f J U=al x->SE (n+3) e J U x U)(hg:∀{J U ws},g J U=al ws->ws.length<=line->SL (n+3) e J U ws U)(hl:M7 e=false:=by rfl)(hz:BO e=false:=by rfl):Dj n e (.made f g) :=
 {Dj.plain h hl hz with nl:=λq=>by refine oEA (ae q) λus e1 q=>?_;refine oA (BG q) λq1 q2=>?_;exact q2▸hg e1 q1}
theorem Il(h:SL (n+3) e J U ws U)(hv:mkL ws=al v):SE (n+3) e J U v U:=by refine AS (JI hv) λds e _ q_3=>?_;subst q_3;rw[e] at h;exact SE.frz h
theorem Dj.no:Dj n e .no:=⟨λh=>Aa h,λh=>Aa h,λh=>Aa h,λh=>Aa h,λh=>Aa h,λh=>Aa h,λh=>Aa h,λh=>Aa h⟩
theorem Ia(h:∀{J U x},f J U=al x->SE (n+3) e J U x U)(q:J9 e f J U=al l):SO (n+3) e J U l U:=by
 unfold J9 at q;by_cases c:BR e=true
 ·rw[if_pos c] at q;rw[<-AAA q];cases e with
  |nil=>exact .none
  |_=>exact ff_ c
 ·rw[if_neg c] at q;exact oEA (ae q) λy e1 q=>oEA (ae q) λi e2 q=>(AAA q)▸.some (Bool.not_eq_true _▸c) (BF e2▸h e1)
theorem CB(h:D8 e=true):FT e:=by
 cases e with
 |N _=>exact An
 |cst _=>exact SY
 |aa _ _=>exact SW
 |R _ _=>exact K6
 |_=>exact ff_ h
theorem DQ(h1:Dj n elt w1)(h2:Dj n ifs w2)(hk:C8 U kps):∀{vs ws:List V},Fc (λv=>bif Rz ts v then(w2.ts (CA (Bm J ts) ts v) U).bind λt=>bif t then(w1.v (CA (Bm J ts) ts v) U).bind (λu=>al (al u)) else al az else az) vs=al ws->E9 (n+3) elt ts ifs kps J U vs U ws
 |[],ws,h=>⟨hk,(AAA h).symm,rfl⟩
 |v::vs,ws,h=>by
  refine oEA (ae h) λo e1 h=>oEA (ae h) λus e2 h=>oA (FJ e1) λhb e1=>oEA (ae e1) λt e3 e1=>⟨hk,(VB hb).at (ACK 3 n),t,U,h2.ts e3,λq=>?_,λq=>?_⟩
  ·subst q;rw[<-AAA e1] at h;exact(AAA h)▸DQ h1 h2 hk e2
  ·subst q;refine oEA (ae e1) λu e4 e1=>?_;rw[<-AAA e1] at h;exact EK u us U (h1.v e4) ((AAA h).symm) (DQ h1 h2 hk e2)
theorem JO(h:JP U v=al ds):AE U v=al (ds.map .d):=by refine oEA (ae h) λws e1 h=>?_;rw[e1,HL h]
section
variable{n:Nat}{O:Orc}(hO:∀f xs U v,O f xs U=al v->FA (n+3) f xs U v U)
include hO
theorem XR(hb:D8 o=true)(h1:SE (n+3) o J U x U)(h2:SEs (n+3) es J U ys U)(h:YH m U x ys=al v):SE (n+3) (.H m o es) J U v U:=by
 cases m with
 |join =>
  have h:=h
  match ys,h with
  |[],h=>exact Aa h
  |[y],h =>
   refine oEA (ae h) λz e1 h=>oEA (ae h) λws e2 h=>oEA (ae h) λss e3 h=>oA (BG h) λq h=>?_;rw[BI e1] at h1;exact h▸SE.join (CB hb) (e2.trans (congrArg al (EH (λ_ _=>BI) e3))) q h1 h2
  |_::_::_,h=>exact Aa h
 |index =>
  have h:=h
  match ys,h with
  |[],h=>exact Aa h
  |[y],h =>
   cases x with
   |ref k =>
    refine oEA (ae h) λws e1 h=>oEA (ae h) λds e2 h=>oEA (ae h) λd e3 h=>oEA (ae h) λq e4 h=>oEA (ae h) λj e5 h=>?_;have hy:y=.d d:=by cases y with|d z=>rw[AAA e3]|_=>exact Aa e3
    rw[hy] at h2;rw[HL e2] at e1;exact AAA h▸SE.lmeth (CB hb) F.slot_list_index F.type_list_index h1 h2 (Dl e1) (Dl e1) (Xc e4 e5)
   |_=>exact Aa h
  |_::_::_,h=>exact Aa h
 |get =>
  have h:=h
  match ys,h with
  |[],h=>exact Aa h
  |[_],h=>exact Aa h
  |[y,z],h =>
   cases x with
   |ref k =>
    have h:Vx U[k]? y z=al v:=h;cases e:U[k]? with
    |none=>rw[e] at h;exact Aa h
    |some o =>
     rw[e] at h;cases o with
     |dictP kvs =>
      refine oEA (ae h) λq e1 h=>?_;rw[J7 e1] at h2;exact AAA h▸SE.getP (CB hb) h1 h2 e e
     |_=>exact Aa h
   |_=>exact Aa h
  |_::_::_::_,h=>exact Aa h
 |_=>exact Aa h
theorem Ao:∀e:E,Dj n e (ev O e)
 |.cst x=>.plain λh=>AAA h▸.cst x
 |.N i=>.plain λ{J U x} h=>.N (by
  have h:(match J[i]? with|some o=>o|none=>az)=al x:=h;cases e:J[i]? with
  |none=>rw[e] at h;exact Aa h
  |some o=>rw[e] at h;rw[show o=al x from h])
 |.ty t=>.plain λh=>AAA h▸.ty
 |.glb x=>.plain λh=>AAA h▸.glb
 |.B op a b=>.made (λh=>by
  refine oEA (ae h) λx e1 h=>oEA (ae h) λy e2 h=>?_;rcases VA h with q|⟨ws,q1,q2⟩
  ·exact .B ((Ao a).v e1) ((Ao b).v e2) q
  ·exact Il (.B ((Ao a).v e1) ((Ao b).v e2) (MT q1)) q2) λh hl=>by
  exact oEA (ae h) λx e1 h=>oEA (ae h) λy e2 h=>.B ((Ao a).v e1) ((Ao b).v e2) (MT h)
 |.neg a=>.plain λh=>by exact oEA (ae h) λx e1 h=>oEA (ae h) λi e2 h=>AAA h▸.neg (BF e2▸(Ao a).v e1)
 |.not a=>{Dj.no with
  v:=λh=>by exact oEA (ae h) λx e1 h=>oEA (ae h) λt e2 h=>AAA h▸.not ((Ao a).v e1) (CL e2)
  t:=λh=>by refine oEA (IZ h) λc e1 e2=>?_;exact e2▸.not ((Ao a).t e1)}
 |.P op es=>{Dj.no with v:=λh=>.P ((Ao es).bo h),t:=λh=>.P ((Ao es).bt h)}
 |.C op a b=>{Dj.no with
  v:=λh=>by exact oEA (ae h) λx e1 h=>oEA (ae h) λy e2 h=>oEA (ae h) λt e3 h=>AAA h▸.C ((Ao a).v e1) ((Ao b).v e2) (Dv e3)
  t:=λh=>by refine oEA (ae h) λx e1 h=>oEA (ae h) λy e2 h=>?_;exact .C ((Ao a).v e1) ((Ao b).v e2) (Dv h)}
 |.nil=>{Dj.no with row:=λh=>AAA h▸.nil,bt:=λh=>AAA h▸.nil,ts:=λh=>AAA h▸.nil}
 |.cons a r=>{Dj.no with
  row:=λh=>by exact oEA (ae h) λx e1 h=>oEA (ae h) λxs e2 h=>AAA h▸.cons ((Ao a).v e1) ((Ao r).row e2)
  bo:=λ{op J U x} h=>by
   have h:(bif BR r then(ev O a).v J U else((ev O a).v J U).bind λx=>(Fp U x).bind λt=>bif t==Dx op then al x else(ev O r).bo op J U)=al x:=h;cases q:BR r with
   |true =>
    rw[q] at h;have e:r=.nil:=by cases r with|nil=>rfl|_=>exact ff_ q
    exact e▸.one ((Ao a).v h)
   |false =>
    rw[q] at h;refine oEA (ae h) λy e1 h=>oEA (ae h) λt e2 h=>.more q ((Ao a).v e1) (CL e2) (λc=>?_) λc=>?_
    ·rw[beq_iff_eq.mpr c] at h;exact⟨(AAA h).symm,rfl⟩
    ·rw[beq_eq_false_iff_ne.mpr c] at h;exact(Ao r).bo h
  bt:=λ{op J U b} h=>by
   refine oEA (ae h) λt e1 h=>.cons ((Ao a).t e1) (λc=>?_) λc=>?_
   ·rw[beq_iff_eq.mpr c] at h;exact⟨(AAA h).symm,rfl⟩
   ·rw[beq_eq_false_iff_ne.mpr c] at h;exact(Ao r).bt h
  ts:=λ{J U b} h=>by
   refine oEA (ae h) λt e1 h=>?_;cases t with
   |true=>exact .cons ((Ao a).t e1) ((Ao r).ts h)
   |false=>exact AAA h▸.no ((Ao a).t e1)}
 |.tup es=>.plain λ{J U x} h=>by
  refine oEA (ae h) λws e1 h=>?_;unfold Wx at h;by_cases q:ws.length<=line
  ·rw[if_pos q] at h;cases e2:Gm ws with
   |some ds =>
    rw[e2] at h;have e4:=(Ao es).row e1;rw[(HL e2)] at e4 q;rw[AAB] at q;exact AAA h▸.tup e4 q
   |none =>
    rw[e2] at h;refine oEA (ae h) λus e3 h=>?_;have e4:=(Ao es).row e1;rw[EH (λ_ _=>ZH) e3] at e4 q;rw[AAB] at q;exact AAA h▸.tupR e4 q
  ·rw[if_neg q] at h;exact Aa h
 |.lst es=>.made (λh=>by refine oEA (ae h) λws e1 h=>AS (JI h) λ_ _ q _=>?_;exact Il (.lst ((Ao es).row e1) q) h) λh hl=>.lst ((Ao es).row h) hl
 |.aa a i=>.plain λh=>by exact oEA (ae h) λx e1 h=>oEA (ae h) λy e2 h=>.aa ((Ao a).v e1) ((Ao i).v e2) (HQ h)
 |.slc a lo hi=>.made (λh=>by
  refine oEA (ae h) λx e1 h=>oEA (ae h) λl e2 h=>oEA (ae h) λu e3 h=>?_;rcases Tv h with q|⟨ws,q1,q2⟩
  ·exact .slc ((Ao a).v e1) (Ia (Ao lo).v e2) (Ia (Ao hi).v e3) q
  ·exact Il (.slc ((Ao a).v e1) (Ia (Ao lo).v e2) (Ia (Ao hi).v e3) (Rw q1)) q2) λh hl=>by
  exact oEA (ae h) λx e1 h=>oEA (ae h) λl e2 h=>oEA (ae h) λu e3 h=>.slc ((Ao a).v e1) (Ia (Ao lo).v e2) (Ia (Ao hi).v e3) (Rw h)
 |.bi b es=>.made (λ{J U v} h=>by
  refine oEA (ae h) λws e1 h=>?_
  match ws,e1,h with
  |[],_,h=>exact Aa h
  |[x],e1,h =>
   rcases SV h with q|⟨ws,q1,q2⟩
   ·exact .bi1 ((Ao es).row e1) q (ACK 3 n)
   ·exact Il (.bi1 ((Ao es).row e1) (LM q1) (ACK 3 n)) q2
  |[x,y],e1,h=>exact .bi2 ((Ao es).row e1) (SU h) (ACK 3 n)
  |_::_::_::_,_,h=>exact Aa h) λ{J U us} h hl=>by
  refine oEA (ae h) λws e1 h=>?_
  match ws,e1,h with
  |[],_,h=>exact Aa h
  |[x],e1,h=>exact .bi1 ((Ao es).row e1) (LM h) (ACK 3 n)
  |_::_::_,_,h=>exact Aa h
 |.maxd a z=>.plain λh=>by exact oEA (ae h) λx e1 h=>oEA (ae h) λy e2 h=>oEA (ae h) λk e3 h=>oEA (ae h) λws e4 h=>oEA (ae h) λis e5 h=>AAA h▸.maxd (ACK 3 n) ((Ao a).v e1) (BF e3▸(Ao z).v e2) (e4.trans (congrArg al (EH (λ_ _=>BF) e5)))
 |.F f es=>.plain λh=>by exact oEA (ae h) λxs e1 h=>.F ((Ao es).row e1) (hO _ _ _ _ h)
 |.H m o es=>.plain λh=>by exact oA (FJ h) λq h=>oEA (ae h) λx e1 h=>oEA (ae h) λys e2 h=>XR hO q ((Ao o).v e1) ((Ao es).row e2) h
 |.R nm o=>.plain λ{J U v} h=>by
  refine oA (FJ h) λq h=>oEA (ae h) λx e1 h=>?_;have e2:=(Ao o).v e1;cases o with
  |N i =>
   cases x with
   |obj ks =>
    exact oEA (ae h) λk e3 h=>oEA (OB e3) λf h1 h2=>AAA h▸.R e2 h1 h2
   |_=>exact Aa h
  |_=>exact ff_ q
 |.ac nm o es=>.plain λh=>by
  refine oA (FJ h) λq h=>oEA (ae h) λx e1 h=>oEA (ae h) λys e2 h=>oEA (ae h) λks e3 h=>oEA (ae h) λf e4 h=>?_;have hx:x=.obj ks:=by cases x with|obj _=>rw[AAA e3]|_=>exact Aa e3
  exact .ac (CB q) e4 (hx▸(Ao o).v e1) ((Ao es).row e2) (hO _ _ _ _ h)
 |.D elt ts it ifs=>.made (λh=>by
  refine oEA (ae h) λws h1 h=>oEA (ae h1) λp e1 h1=>oA ((Ao it).it e1) λi1 i2=>AS (JI h) λ_ _ q _=>?_;exact Il (.D i1 (DQ (Ao elt) (Ao ifs) i2 h1) q) h) λh hl=>by
  exact oEA (ae h) λp e1 h1=>oA ((Ao it).it e1) λi1 i2=>.D i1 (DQ (Ao elt) (Ao ifs) i2 h1) hl
 |.range es=>{Dj.no with
  it:=λ{J U p} h=>by
   refine oEA (ae h) λxs e1 h=>?_
   match xs,e1,h with
   |[],_,h=>exact Aa h
   |[x],e1,h =>
    refine oEA (ae h) λk e2 h=>oA (BG h) λq h=>?_;have e3:=(Ao es).row e1;rw[BF e2] at e3;exact h▸⟨.range (ACK 3 n) e3 q.1 q.2,λ_ _ m=>nomatch m⟩
   |_::_::_,_,h=>exact Aa h}
 |.zip a b=>{Dj.no with
  it:=λh=>by refine oEA (ae h) λx e1 h=>oEA (ae h) λy e2 h=>oEA (ae h) λds e3 h=>oEA (ae h) λds' e4 h=>?_;exact AAA h▸⟨.zip (ACK 3 n) ((Ao a).v e1) ((Ao b).v e2) e3 e4,λk us m=>(AA0.mp m).elim (Hp e3 k us) (Hp e4 k us)⟩}
 |.enum a=>{Dj.no with
  it:=λh=>by refine oEA (ae h) λx e1 h=>oEA (ae h) λds e3 h=>?_;exact AAA h▸⟨.enum (ACK 3 n) ((Ao a).v e1) (JO e3),Hp (JO e3)⟩}
 |.dct=>.no
 |.sortr _=>.no
 |.sortk _ _ _ _=>.no
 |.new=>.no
 |.glx _=>.no
end
open PySem.Calls
structure Cfg where
 n:Nat
 O:Orc
 ok:∀f xs U v,O f xs U=al v->FN n f xs U v U
noncomputable abbrev Cfg.v(C:Cfg)(e:E):Am->Ac->Option V:=(ev C.O e).v
noncomputable abbrev Cfg.row(C:Cfg)(e:E):Am->Ac->Option (List V):=(ev C.O e).row
noncomputable abbrev Cfg.it(C:Cfg)(e:E):Am->Ac->Option Its:=(ev C.O e).it
noncomputable abbrev Cfg.nl(C:Cfg)(e:E):Am->Ac->Option (List V):=(ev C.O e).nl
noncomputable abbrev Cfg.t(C:Cfg)(e:E):Am->Ac->Option Bool:=(ev C.O e).t
def Al(C:Cfg)(P:Fl->Ac->Prop)(l:S)(J:Am)(U:Ac):Prop:=∃fl U',P fl U'/\SSs (C.n+3) l J U λf s=>f=fl/\s=U'
def OP(C:Cfg)(P:Fl->Ac->Prop)(r:S)(fl:Fl)(U:Ac):Prop:=match fl with|.next J=>Al C P r J U|.ret v=>P (.ret v) U
section
variable{C:Cfg}{P:Fl->Ac->Prop}{l:S}{J:Am}{e:E}{ws:List V}
theorem Cfg.sv(C:Cfg)(h:C.v e J U=al w):SE (C.n+3) e J U w U:=(Ao C.ok e).v h
theorem Cfg.sr(C:Cfg)(h:C.row e J U=al ws):SEs (C.n+3) e J U ws U:=(Ao C.ok e).row h
theorem Al.mono(h:Al C M l J U)(hm:∀fl U,M fl U->P fl U):Al C P l J U:=by exact Bb h λfl U' h1 h2=>⟨fl,U',hm _ _ h1,h2⟩
theorem Ab(h:P (.next J) U):Al C P .nil J U:=⟨_,_,h,.nil ⟨rfl,rfl⟩⟩
theorem Cs(hs:∀Q:Fl->Ac->Prop,Q fl U'->SS (C.n+3) st J U Q)(h:OP C P r fl U'):Al C P (.cons st r) J U:=by
 cases fl with
 |next J' =>
  exact Bb h λfl ak h1 h2=>⟨fl,ak,h1,.cons (hs _ h2)⟩
 |ret v=>exact⟨.ret v,U',h,.cons (hs _ ⟨rfl,rfl⟩)⟩
theorem AU(hp:CQ e=false)(h:SE (C.n+3) e J U v U')(k:Al C P r (J.set x (al v)) U'):Al C P (.cons (.A x e) r) J U:=Cs (λQ q=>.A hp h q) k
theorem Aw(h:C.v e J U=al v)(k:Al C P r (J.set x (al v)) U)(hp:CQ e=false:=by rfl):Al C P (.cons (.A x e) r) J U:=AU hp (C.sv h) k
theorem Cg(h:C.nl e J U=al ws)(k:Al C P r (J.set x (al (.ref U.length))) (U++[.list ws]))(hp:CQ e=false:=by rfl):Al C P (.cons (.A x e) r) J U:=AU hp (SE.trk ((Ao C.ok e).nl h)) k
theorem Hy(k:Al C P r (J.set x (al (.ref U.length))) (U++[.dictS []])):Al C P (.cons (.A x .dct) r) J U:=AU rfl .dctS k
theorem MK(k:Al C P r (J.set x (al (.ref U.length))) (U++[.dictP []])):Al C P (.cons (.A x .dct) r) J U:=AU rfl .dctP k
theorem Yc(h:C.nl (.D elt ts it ifs) J U=al ws):∃vs kps,SI (C.n+3) it J U vs kps U/\E9 (C.n+3) elt ts ifs kps J U vs U ws/\ws.length<=line:=by exact oEA (ae h) λus h1 q=>oA (BG q) λq1 q2=>oEA (ae h1) λp e1 h2=>oA ((Ao C.ok it).it e1) λi1 i2=>Gw p.1 p.2 i1 (q2▸DQ (Ao C.ok elt) (Ao C.ok ifs) i2 h2) (q2▸q1)
theorem Rd(h:C.nl (.D elt ts it ifs) J U=al (ds.map .d))(k:Al C P r (J.set x (al (.d (.list ds)))) U):Al C P (.cons (.A x (.D elt ts it ifs)) r) J U:=by exact Br (Yc h) λvs kps h1 h2 h3=>Cs (λQ q=>.asgC h1 h2 h3 (λn=>n.frz) q) k
theorem Bl(hp:CQ e=false)(h:SE (C.n+3) e J U v U')(k:Al C P r J U'):Al C P (.cons (.exp e) r) J U:=Cs (λQ q=>.exp hp h q) k
theorem Ct(h:SE (C.n+3) e J U v U')(k:P (.ret v) U'):Al C P (.cons (.ret e) r) J U:=Cs (λQ q=>.ret h q) k
theorem AB(h:C.v e J U=al v)(k:P (.ret v) U):Al C P (.cons (.ret e) r) J U:=Ct (C.sv h) k
theorem Rb(h:C.nl e J U=al ws)(k:P (.ret (.ref U.length)) (U++[.list ws])):Al C P (.cons (.ret e) r) J U:=Ct (SE.trk ((Ao C.ok e).nl h)) k
theorem Ka{m:SZ}{id:String}{us:List V}(slot:Slot "list" (ACG (F5 m)) id)(ty:typeOf (.builtin id)=pure (.type "method_descriptor"))(ho:C.v o J U=al (.ref k))(hes:C.row es J U=al us)(h0:U[k]? = al (.list ws))(h:PrM id k ws us U v U')(hb:D8 o=true)(kk:Al C P r J U'):Al C P (.cons (.exp (.H m o es)) r) J U :=
 Bl rfl (.lmeth (CB hb) slot ty (C.sv ho) (C.sr hes) h0 h0 h) kk
theorem Bx(ho:C.v o J U=al (.ref k))(hes:C.row es J U=al [y])(h0:U[k]? = al (.list ws))(hl:ws.length<line)(kk:Al C P r J (U.set k (.list (ws++[y]))))(hb:D8 o=true:=by rfl):Al C P (.cons (.exp (.H .append o es)) r) J U :=
 Ka slot_list_append type_list_append ho hes h0 (Hl hl) hb kk
theorem L9(ho:C.v o J U=al (.ref k))(hes:C.row es J U=al [vi i,y])(h0:U[k]? = al (.list ws))(hl:ws.length<line)(hi:0<=i)(hj:i.toNat<=ws.length)(kk:Al C P r J (U.set k (.list (ws.take i.toNat++y::ws.drop i.toNat))))(hb:D8 o=true:=by rfl):Al C P (.cons (.exp (.H .insert o es)) r) J U :=
 Ka F.slot_list_insert F.type_list_insert ho hes h0 (Uh hi hj hl) hb kk
theorem EL(hd:C.v d J U=al (.d dd))(ho:C.v o J U=al (.ref k))(hi:C.v i J U=al (.d (.str w)))(h0:U[k]? = al (.dictS kvs))(hl:kvs.length<line)(kk:Al C P r J (U.set k (.dictS (BX kvs w dd)))):Al C P (.cons (.set o i d) r) J U :=
 Cs (λQ q=>.set (C.sv hd) (C.sv ho) (C.sv hi) (Q4 h0 hl) q) kk
theorem EM(hd:C.v d J U=al (.d dd))(ho:C.v o J U=al (.ref k))(hi:C.v i J U=al (vp w))(h0:U[k]? = al (.dictP kvs))(hl:kvs.length<line)(kk:Al C P r J (U.set k (.dictP (BX kvs w dd)))):Al C P (.cons (.set o i d) r) J U :=
 Cs (λQ q=>.set (C.sv hd) (C.sv ho) (C.sv hi) (WJ h0 hl) q) kk
theorem X7(hd:C.v d J U=al z)(ho:C.v o J U=al (.ref k))(hi:C.v i J U=al (vi j))(h0:U[k]? = al (.list ws))(h1:0<=j)(h2:j<ws.length)(kk:Al C P r J (U.set k (.list (ws.set j.toNat z)))):Al C P (.cons (.set o i d) r) J U :=
 Cs (λQ q=>.set (C.sv hd) (C.sv ho) (C.sv hi) (Pp h0 h1 h2) q) kk
theorem UP(h:C.t c J U=al t)(k:Al C (OP C P r) (bif t then a else b) J U):Al C P (.cons (.I c a b) r) J U:=by
 refine Bb k λfl U' h1 h2=>Cs (λQ q=>.I ((Ao C.ok c).t h) (λe=>?_) λe=>?_) h1
 ·subst e;exact SSs.mono (λf s e=>by rw[e.1,e.2];exact q) h2
 ·subst e;exact SSs.mono (λf s e=>by rw[e.1,e.2];exact q) h2
theorem AC(h:C.t c J U=al t)(kt:t=true->Al C (OP C P r) a J U)(kf:t=false->Al C (OP C P r) b J U):Al C P (.cons (.I c a b) r) J U:=UP h (by cases t with|true=>exact kt rfl|false=>exact kf rfl)
theorem Ge(h:C.t c J U=al false)(k:Al C P r J U):Al C P (.cons (.I c a .nil) r) J U:=UP h (Ab k)
theorem PG(h:SE (C.n+3) e J U v U')(hs:∀{K:Kx} {ex:Expr},IsE e K ex->∀ts k p env,swappedStores [.Tuple ts k p] ex env=pure az)(hv:CK v=al vs)(hl:vs.length=xs.length)(k:Al C P r (Fv J xs vs) U')(hp:CQ e=false:=by rfl):Al C P (.cons (.unp xs e) r) J U:=Cs (λQ q=>.unp (ACK 3 _) hp hs h hv hl q) k
theorem Qm{α:Type}(w:α->V)(ac:List α->Am->Ac->Prop):∀(q p:List α) (J:Am) (U:Ac),(∀p J U,ac p J U->C8 U kps)->(∀a,a∈q->FI ts (w a))->ac p J U ->
 (∀p' a q' J U,p++q=p'++a::q'->ac p' J U->Al C (λfl U'=>∃J',fl=.next J'/\ac (p'++[a]) J' U') body (CA J ts (w a)) U)->∃Je Ue,ac (p++q) Je Ue/\∀Q:Fl->Ac->Prop,Q (.next Je) Ue->Ta (C.n+3) ts body kps Q (q.map w) J U
 |[],p,J,U,hk,_,hJ,_=>(DN J U ((AAV p).symm▸hJ) (λQ h=>⟨hk p J U hJ,h⟩))
 |a::q,p,J,U,hk,hb,hJ,hf=>by
  refine Bb (hf p a q J U rfl hJ) λfl ag q_2 h2=>?_;obtain⟨aP,rfl,h1⟩:=q_2;have e:p++[a]++q=p++a::q:=by rw[ABQ];rfl
  exact Bb (Qm w ac q (p++[a]) aP ag hk (λb hb'=>hb b (.tail _ hb')) h1 λp' b q' J U he=>hf p' b q' J U (e.symm.trans he)) λJe Ue h3 h4=>DN Je Ue (e▸h3) (λQ h=>⟨hk p J U hJ,(hb a (.head _)).at (ACK 3 _),SSs.mono (λf s e=>by rw[e.1,e.2];exact h4 Q h) h2⟩)
theorem Ik{α:Type}{l:List α}(w:α->V)(ac:List α->Am->Ac->Prop)(hit:C.it it J U=al (l.map w,kps))(hk:∀p J U,ac p J U->C8 U kps)(hb:∀a,a∈l->FI ts (w a))(hJ:ac [] J U)
 (hf:∀p a q J U,l=p++a::q->ac p J U->Al C (λfl U'=>∃J',fl=.next J'/\ac (p++[a]) J' U') body (CA J ts (w a)) U) (k:∀J' U',ac l J' U'->Al C P r J' U'):Al C P (.cons (.L ts it body) r) J U:=by
 exact Bb (Qm w ac l [] J U hk hb hJ hf) λJe Ue h1 h2=>Cs (λQ q=>.L ((Ao C.ok it).it hit).1 (h2 Q q)) (k Je Ue h1)
theorem Bk{α:Type}{l:List α}(w:α->V)(ac:List α->Am->Ac->Prop)(hit:C.it it J U=al (l.map w,[]))(hJ:ac [] J U)
 (hf:∀p a q J U,l=p++a::q->ac p J U->Al C (λfl U'=>∃J',fl=.next J'/\ac (p++[a]) J' U') body (J.set x (al (w a))) U) (k:∀J' U',ac l J' U'->Al C P r J' U'):Al C P (.cons (.L [x] it body) r) J U :=
 Ik w ac hit (λ_ _ _ _ _ _ m=>nomatch m) (λ_ _=>.inl rfl) hJ hf k
noncomputable def Ff(fl:Fl):V:=match fl with|.next _=>.d .none|.ret v=>v
theorem FN.ends{fn:Fn}{zs:List V}{R:V->Ac->Prop}(hP:Pg f=al fn:=by unfold Pg;rfl)(hl:zs.length=fn.np:=by rfl)(hn:1<=C.n:=by exact ACH rfl)(h:Al C (λfl U'=>R (Ff fl) U') fn.body (BN fn zs) U):∃v U',R v U'/\FN (C.n+1) f zs U v U':=by
 refine Bb h λfl U' h1 h2=>(DN _ U' h1 ?_)
 show FA (C.n+1+3) f zs U _ U';rw[Nat.add_right_comm];refine FA.of hP hl (SSs.mono (λf s e=>?_) h2) (AAC hn (AA9 _ _));rw[e.1,e.2];cases fl with
 |next _=>exact⟨rfl,rfl⟩
 |ret _=>exact⟨rfl,rfl⟩
theorem FN.same{fn:Fn}{zs:List V}(hP:Pg f=al fn:=by unfold Pg;rfl)(hl:zs.length=fn.np:=by rfl)(hn:1<=C.n:=by exact ACH rfl)(h:Al C (λfl s=>Ff fl=v/\s=U') fn.body (BN fn zs) U):FN (C.n+1) f zs U v U':=by refine Bb (FN.ends (R:=λw s=>w=v/\s=U') hP hl hn h) λ_ _ q h=>?_;rw[q.1,q.2] at h;exact h
end
open PyProof.Rows
noncomputable abbrev Row:=Nat×Str×Fn×List Str
noncomputable def Jy(p:Program)(n:Str):Option Rc:=((recsOf p).find? (·.name==n)).map λd=>⟨d.params,d.body,d.scope⟩
noncomputable def Oz:Str:=ACG "Weave"
noncomputable def V8(p:Program)(loose:List Str):Option ClsRec:=(plainsOf p loose).find? (·.name==Oz)
noncomputable def Mn(p:Program)(loose:List Str)(n:Str):Option Rc:=(V8 p loose).bind λc=>(c.meths.find? (·.name==n)).map λm=>⟨m.params,m.body,m.scope⟩
noncomputable def Fe(o:Option Rc):List Stmt:=match o with|some r=>r.body|none=>[]
noncomputable def JA(o:Option Rc)(lam:Option (Addr×Str))(x:Row):Bool:=match o with|some r=>bP lam x.2.2.1 x.2.2.2 r|none=>false
noncomputable def Et(n:Str):Str:=(n++(".<locals>." : Str))++("<lambda>" : Str)
theorem G8{o:Option Rc}{lam:Option (Addr×Str)}{x:Row}(h:JA o lam x=true):∃r,o=al r/\bP lam x.2.2.1 x.2.2.2 r=true:=by
 cases o with
 |none=>exact ff_ h
 |some r=>exact iEA r rfl h
noncomputable def hide(h:Heap)(t:Addr):Heap:=h.update t λo=>{o with data:=.freed}
theorem JZ(hab:a≠t):(hide h t).get? a=h.get? a:=ABD h _ (Ne.symm hab)
theorem hide_self:(hide h t).get? t=az:=by
 cases hq:h.objs[t]? with
 |none =>
  have e2:(hide h t).objs[t]? = az:=by show(h.objs.modify t λo=>{o with data:=.freed})[t]? = _;rw[Array.getElem?_modify,if_pos rfl,hq];rfl
  unfold Heap.get?;rw[e2]
 |some o' =>
  have e2:(hide h t).objs[t]? = al {o' with data:=.freed}:=by show(h.objs.modify t λo=>{o with data:=.freed})[t]? = _;rw[Array.getElem?_modify,if_pos rfl,hq];rfl
  unfold Heap.get?;rw[e2]
noncomputable def JY(h:Heap):List Addr->Heap
 |[]=>h
 |t::r=>hide (JY h r) t
theorem Gc:∀{ts:List Addr},a∉ts->(JY h ts).get? a=h.get? a
 |[],_=>rfl
 |t::r,q=>(JZ λ(e:a=t)=>q (e▸.head _)).trans (Gc λm=>q (.tail _ m))
theorem Oh:∀{ts:List Addr},a∈ts->(JY h ts).get? a=az
 |t::r,q=>by
  by_cases e:a=t
  ·rw[e];exact hide_self
  ·exact(JZ e).trans (Oh ((AAR.mp q).resolve_left e))
section
variable{p:Program}{loose:List Str}{mean:ExcName->Option Value}{mg mb mN:Str->Option Value}{T:Mine.Internal.Top}{h:Heap}{ts:List Addr}
structure Hid(T:Mine.Internal.Top)(h:Heap)(ts:List Addr):Prop where
 h0:T.h0=JY h ts
 tab:∀t,t∈ts->h.get? t=al (W.tabObj #[])
theorem Hid.get(H:Hid T h ts){a:Addr}{o:Obj}(e:h.get? a=al o)(hd:o.data≠.fields #[]):T.h0.get? a=al o:=by rw[H.h0,Gc λq=>hd (by rw[H.tab a q] at e;rw[<-AAA e])];exact e
theorem Hid.ns(H:Hid T h ts){a:Addr}{m:Str->Option Value}(x:h.Ns a m):T.h0.Ns a m:=by refine CY x λo es ep e d r=>?_;exact⟨o,es,ep,H.get e (by rw[d];exactλq=>nomatch q),d,r⟩
theorem Hid.tail(H:Hid T h ts){bmB tl:List Value}(x:OwnTail h bmB tl):OwnTail T.h0 bmB tl:=by
 induction x with
 |base=>exact .base
 |own h1 h2 h3 _ ih=>exact .own (H.get h1 λq=>nomatch q) (H.ns h2) h3 ih
theorem Hid.own(H:Hid T h ts){x:Str}{C:Addr}{bm:List Value}{newId:String}(O:PyProof.Rows.OwnCls x C bm newId mg h):PyProof.Rows.OwnCls x C bm newId mg T.h0:=by refine dF O.obj λtl N nm q bs hdct sn sub ab col dd k0 k1 k2 k3 k5 mN hh=>?_;refine JB hh λhC hN hni Tl=>?_;exact⟨O.bound,tl,N,nm,q,bs,hdct,sn,sub,ab,col,dd,k0,k1,k2,k3,k5,mN,H.get hC (λq=>nomatch q),H.ns hN,hni,H.tail Tl⟩
theorem Hid.code(H:Hid T h ts){cd:Value}{q:Str}(x:h.CodeRec cd q):T.h0.CodeRec cd q:=by refine Fz x λc o vs t e g d r=>?_;exact⟨c,o,vs,t,e,H.get g (λw=>by rw[d] at w;injection w with w;rw[w] at r;exact Aa r),d,r⟩
theorem Hid.hd(H:Hid T h ts){c t:Addr}(x:W.CodeHd h c t):W.CodeHd T.h0 c t:=by obtain⟨o,vs,file,tf,flags,tg,inF,text,tt,e,a,b,c',d,f,g,i,j,hne⟩:=x;exact⟨o,vs,file,tf,flags,tg,inF,text,tt,H.get e (λw=>by rw[b] at w;injection w with w;rw[w] at c';exact Aa c'),a,b,c',d,f,g,i,j,hne⟩
theorem XO(Tp:PyProof.Rows.Top p loose mean mg mb h)(H:Hid T h ts){x:Row}{lam:Option (Addr×Str)}(hk:JA (Jy p x.2.1) lam x=true)(hem:(emS x.2.2.1.body).2 (Fe (Jy p x.2.1))=Fe (Jy p x.2.1)){a:Addr}(ha:mg x.2.1=al (.ref a))
 (hl:∀t q,lam=al (t,q)->(t,q)∈T.tabs/\Et x.2.1=q/\∀o fd,h.get? a=al o->o.data=.func fd->∃c,fd.code=.ref c/\W.CodeHd h c t):eQ T glP x.2.2.1 a:=by
 refine oEA (G8 hk) λr hr hk=>?_;rw[hr] at hem;refine oEA (ABL.mp hr) λd hd q_2=>?_;subst q_2;have hm:=ABH hd;have hn:d.name=x.2.1:=ABM (show(d.name==x.2.1)=true from ADA (p:=λ(y:DefRec)=>y.name==x.2.1) hd);refine Lv (Tp.fn d hm) λa' o pm code doc e1 e2 e3 e4=>?_;rw[hn,ha] at e1;obtain rfl:=ABR (AAA e1);refineλR_ k=>k _ _ o x.2.2.2 lam (Rj hk hem (H.get e2 (by rw[e3];exactλq=>nomatch q)) e3 (H.code e4) rfl rfl rfl rfl rfl rfl rfl rfl λt q e=>?_);refine oAA (hl t q e) λh1 h2 h3=>?_;refine oEA (h3 o _ e2 e3) λc c1 c2=>?_;exact gY h1 (by rw[<-h2,<-hn];rfl) c c1 (H.hd c2)
theorem My{c:ClsRec}{C N:Addr}(hc:V8 p loose=al c)(P:PlainAt h c C N mN)(H:Hid T h ts){x:Row}(hk:JA (Mn p loose x.2.1) az x=true)(hem:(emS x.2.2.1.body).2 (Fe (Mn p loose x.2.1))=Fe (Mn p loose x.2.1)):∃a o,mN x.2.1=al (.ref a)/\T.h0.get? a=al o/\o.cls=.type "function"/\(∃fd,o.data=.func fd)/\eQ T glP x.2.2.1 a:=by refine oEA (G8 hk) λr hr hk=>?_;rw[hr] at hem;refine oEA (ae hr) λc' hc' hr=>?_;obtain rfl:=As hc hc';refine oEA (ABL.mp hr) λm hm q_2=>?_;subst q_2;have hn:m.name=x.2.1:=ABM (show(m.name==x.2.1)=true from ADA (p:=λ(y:MethRec)=>y.name==x.2.1) hm);refine Pw (P.meths m (ABH hm)) λf o pm cd doc e1 e2 e3 e4 e5=>?_;have ho:=H.get e2 (by rw[e4];exactλq=>nomatch q);exact⟨f,o,hn▸e1,ho,e3,⟨_,e4⟩,λR_ k=>k _ _ o x.2.2.2 az (Rj hk hem ho e4 (H.code e5) rfl rfl rfl rfl rfl rfl rfl rfl λt q e=>Aa e)⟩
noncomputable def Kg(p:Program)(loose:List Str)(x:Str):Bool :=
 !startupNames.contains x&&(!loose.contains x&&(!((recsOf p).map (·.name)).contains x&&(!((litsOf p).map (·.1)).contains x&&(!((clssOf p loose).map (·.name)).contains x&&!(x==("__name__" : Str))))))
theorem FY{l:List Str}(h:(!l.contains x)=true):x∉l:=λhm=>by rw[List.contains_iff_mem.mpr hm] at h;exact ff_ h
theorem Rg(Tp:PyProof.Rows.Top p loose mean mg mb h){x:Str}(hf:Kg p loose x=true):mg x=az/\mb x=bootBuiltins x :=
 ⟨Tp.free x (FY (AA hf)) (FY (AA (Ai hf))) (FY (AA (Ai (Ai hf)))) (FY (AA (Ai (Ai (Ai hf))))) (FY (AA (Ai (Ai (Ai (Ai hf)))))),Tp.builtins x λe=>by have q:=Ai (Ai (Ai (Ai (Ai hf))));rw[e,beq_self_eq_true] at q;exact ff_ q⟩
noncomputable def isInt(d:PyData):Bool:=match d with|.int _=>true|.str z=>Nat.ble z.length 16777216|_=>false
noncomputable def gC(p:Program)(loose:List Str)(e:Str×GV):Bool :=
 match e.2 with
 |.fn f=>(EN.find? λx=>Nat.beq x.1 f).any λx=>x.2.1==e.1
 |.bi b=>Kg p loose e.1&&(bootBuiltins e.1==al (Bj b))
 |.ty t=>Kg p loose e.1&&(bootBuiltins e.1==al (.type t))
 |.cst d=>isInt d&&(match valOf p e.1 with|some d'=>K0 d' d|none=>false)
 |.cls=>e.1==Oz
 |.exc k=>(Ot.lookup k).any λn=>n==e.1
noncomputable def YD(p:Program)(e:Nat×Str):Bool:=(ownsOf p).any λo=>o.name==e.2&&(o.newId == "ValueError.__new__"&&o.bm==[.type "ValueError",.type "Exception",.type "BaseException",.type "object"])
noncomputable def IA(v:Value):Option Addr:=match v with|.ref a=>al a|_=>az
theorem DH{o:Option Value}{a:Addr}(h:o.bind IA=al a):o=al (.ref a):=by
 refine oEA (ae h) λv q_1 h=>?_;subst q_1;cases v with
 |ref b=>rw[AAA (show al b=al a from h)]
 |_=>exact Aa h
noncomputable def IE(mg mN:Str->Option Value)(f:Nat):Option Addr :=
 match EN.find? λx=>Nat.beq x.1 f with
 |some x=>(mg x.2.1).bind IA
 |none=>(match Es.find? λx=>Nat.beq x.1 f with|some x=>(mN x.2.1).bind IA|none=>az)
theorem H0{f:Nat}{x:Row}(hx:(EN.find? λx=>Nat.beq x.1 f)=al x):IE mg mN f=(mg x.2.1).bind IA:=by unfold IE;rw[hx]
theorem Kh{f:Nat}{x:Row}(h0:(EN.find? λx=>Nat.beq x.1 f)=az)(hx:(Es.find? λx=>Nat.beq x.1 f)=al x):IE mg mN f=(mN x.2.1).bind IA:=by unfold IE;rw[h0,hx]
theorem EP{l:List Row}{f:Nat}{x:Row}(h:(l.find? λx=>Nat.beq x.1 f)=al x):x.1=f/\x∈l:=⟨ADL (ADA (p:=λ(x:Row)=>Nat.beq x.1 f) h),ABH h⟩
theorem OJ{α:Type}{f:α->Bool}{o:Option α}(h:o.any f=true):∃d,o=al d/\f d=true:=by
 cases o with
 |none=>exact ff_ h
 |some d=>exact iEA d rfl h
theorem mem_of_lookupE{k:Nat}{n:Str}:∀{l:List (Nat×Str)},l.lookup k=al n->(k,n)∈l
 |[],h=>Aa h
 |b::l,h=>by
  rw[ADC] at h;cases hb:k==b.1 with
  |true =>
   rw[hb] at h;obtain rfl:=AAA h;rw[ABM hb];exact .head _
  |false=>rw[hb] at h;exact .tail _ (mem_of_lookupE h)
noncomputable def LF(mg:Str->Option Value)(k:Nat):Option Addr:=(Ot.lookup k).bind λn=>(mg n).bind IA
structure Wa(p:Program)(loose:List Str)(lamOf:Nat->Option (Addr×Str)):Prop where
 fok:∀x,x∈EN->JA (Jy p x.2.1) (lamOf x.1) x=true
 fem:∀x,x∈EN->(emS x.2.2.1.body).2 (Fe (Jy p x.2.1))=Fe (Jy p x.2.1)
 mok:∀x,x∈Es->JA (Mn p loose x.2.1) az x=true
 mem:∀x,x∈Es->(emS x.2.2.1.body).2 (Fe (Mn p loose x.2.1))=Fe (Mn p loose x.2.1)
 gok:∀e,e∈cW->gC p loose e=true
 eok:∀e,e∈Ot->YD p e=true
 att:∀x,x∈Es->x.2.1∉Dy
 apart:∀x,x∈Es->(EN.find? λy=>Nat.beq y.1 x.1)=az
 self:∀x,x∈Es->(Es.find? λy=>Nat.beq y.1 x.1)=al x
theorem WM{lamOf:Nat->Option (Addr×Str)}{c:ClsRec}{C N:Addr}(K:Wa p loose lamOf)(Tp:PyProof.Rows.Top p loose mean mg mb h)(hc:V8 p loose=al c)(hst:∀nm,nm∈Dy->nm∈c.statics)(hC:mg Oz=al (.ref C))(P:PlainAt h c C N mN)(eC:C=T.cls)(eF:T.fn=IE mg mN)(eE:T.exc=LF mg)(H:Hid T h ts)(S:h.NoSeer)(ht:T.prog.given.tree=az)(htf:∀t q q',(t,q)∈T.tabs->(t,q')∈T.tabs->q=q')(hI:RH T)(hK:RJ T)
 (hl:∀x t q,x∈EN->lamOf x.1=al (t,q)->(t,q)∈T.tabs/\Et x.2.1=q/\∀a o fd,mg x.2.1=al (.ref a)->h.get? a=al o->o.data=.func fd->∃c,fd.code=.ref c/\W.CodeHd h c t):KD T:=by
 have fnA:∀x,x∈EN->∃a o fd,mg x.2.1=al (.ref a)/\h.get? a=al o/\o.data=.func fd:=λx hx=>by refine oEA (G8 (K.fok x hx)) λr hr _=>?_;refine oEA (ABL.mp hr) λd hd q_2=>?_;subst q_2;have hn:d.name=x.2.1:=ABM (show(d.name==x.2.1)=true from ADA (p:=λ(y:DefRec)=>y.name==x.2.1) hd);refine Lv (Tp.fn d (ABH hd)) λa' o pm code doc e1 e2 e3 e4=>?_;exact EK a' o _ (hn▸e1) e2 e3
 have excD:∀{k n},Ot.lookup k=al n->∃C,mg n=al (.ref C)/\lX T C:=λ{k n} e=>by refine oEA (ADV.mp (K.eok (k,n) (Mine.Internal.mem_of_lookupE e))) λo ho h1=>?_;refine oEA (Tp.own o ho) λC O _=>?_;have hn:o.name=n:=ABM (AA h1);refine⟨C,hn▸O.bound,o.name,o.bm,o.newId,"ValueError","ValueError.__init__",mg,H.own O.own,?_⟩;rw[ABM (AA (Ai h1)),ABM (Ai (Ai h1))];exact F.excBase_ValueError
 refine oEA Tp.nolimit λmc n1 n2=>?_;refine oEA S.mods λmm m1 m2=>?_;refine oEA S.statics λmc' c1 c2=>?_;refine oEA S.imp λmb' i1 i2=>?_;refine WR S.main λmg' bm0 ob0 g1 g2 g3 g4=>?_;refine TQ Tp.bmain λbm ob b1 b2 b3 b4 b5 b6=>?_;have hob:=H.get b3 (by rw[b6];exactλq=>nomatch q);have fnD:∀f a,T.fn f=al a->∃o fd,T.h0.get? a=al o/\o.data=.func fd:=λf a e=>by
  rw[eF] at e;cases hx:EN.find? λx=>Nat.beq x.1 f with
  |some x =>
   rw[H0 hx] at e;refine CY (fnA x (EP hx).2) λa' o fd e1 e2 e3=>?_;obtain rfl:=ABR (As (DH e) e1);exact DN o fd (H.get e2 (by rw[e3];exactλq=>nomatch q)) e3
  |none =>
   cases hy:Es.find? λx=>Nat.beq x.1 f with
   |none=>unfold IE at e;rw[hx,hy] at e;exact Aa e
   |some x =>
    rw[Kh hx hy] at e;refine Mr (My hc P H (K.mok x (EP hy).2) (K.mem x (EP hy).2)) λa' o e1 e2 _ q_5 _=>?_;obtain⟨fd,e3⟩:=q_5;obtain rfl:=ABR (As (DH e) e1);exact DN o fd e2 e3
 refine⟨⟨⟨⟨mc,H.ns n1,n2⟩,⟨(iEA mc' (H.ns c1) c2),(iEA mm (H.ns m1) m2),(iEA mb' (H.ns i1) i2),⟨mg,bm,ob,H.ns Tp.g,b1,hob,b4,b5⟩⟩,ht,?_,htf⟩,fnD,mg,mb,H.ns Tp.g,H.ns Tp.b,λn v hv=>?_,bm,ob,b1,b2,hob,b4,b5,b6⟩,λf fn a hP hf=>?_,⟨N,mN,?_,P.quiet _ ?_,P.quiet _ ?_,P.quiet _ ?_,λnm hm=>P.quiet _ (AAW _ (hst nm hm)),λnm f hm=>?_⟩,λk C' e=>?_,hI,hK⟩
 ·refine CY m1 λo es ep e d r=>?_;exact⟨o,H.get e (by rw[d];exactλq=>nomatch q)⟩
 ·unfold glP at hv;have he:=K.gok (n,v) (mem_of_lookup hv);cases v with
  |fn f =>
   refine oEA (OJ (show(EN.find? λx=>Nat.beq x.1 f).any (λx=>x.2.1==n)=true from he)) λx hx he=>?_;refine Cy (fnA x (EP hx).2) λa o fd e1 _=>?_;have hn:x.2.1=n:=ABM he;exact iEA _ ⟨a,by rw[eF,H0 hx,e1];rfl,rfl⟩ (.inl (hn▸e1))
  |bi b =>
   have he:(Kg p loose n&&(bootBuiltins n==al (Bj b)))=true:=he;refine oA (Rg Tp (AA he)) λf1 f2=>?_;exact iEA _ rfl (.inr ⟨f1,by rw[f2];exact beq_iff_eq.mp (Ai he)⟩)
  |ty t =>
   have he:(Kg p loose n&&(bootBuiltins n==al (.type t)))=true:=he;refine oA (Rg Tp (AA he)) λf1 f2=>?_;exact iEA _ rfl (.inr ⟨f1,by rw[f2];exact beq_iff_eq.mp (Ai he)⟩)
  |cst d =>
   have he:(isInt d&&(match valOf p n with|some d'=>K0 d' d|none=>false))=true:=he;have h2:=Ai he;cases e:valOf p n with
   |none=>rw[e] at h2;exact ff_ h2
   |some d' =>
    rw[e] at h2;refine oEA (Tp.const n d' e) λv v1 v2=>?_;rw[LK (show K0 d' d=true from h2)] at v2;refine(iEA v ?_ (.inl v1));have h1:=AA he;cases d with
    |int i=>refine oEA (reads_int_inv (v2 {})) λt e _=>?_;exact⟨t,e⟩
    |str z=>refine oEA (reads_str_inv (v2 {})) λt e _=>?_;exact⟨t,e,ACH h1⟩
    |_=>exact ff_ h1
  |cls=>exact iEA _ rfl (.inl (by rw[ABM (show(n==Oz)=true from he),hC,eC]))
  |exc k =>
   refine oEA (OJ (show(Ot.lookup k).any (λn'=>n'==n)=true from he)) λn' hx he=>?_;refine oEA (excD hx) λC' e1 _=>?_;have hn:n'=n:=ABM he;exact iEA _ ⟨C',by rw[eE];unfold LF;rw[hx];show(mg n').bind IA=_;rw[e1];rfl,rfl⟩ (.inl (hn▸e1))
 ·unfold Pg at hP;refine oEA (ABL.mp hP) λx hx q_2=>?_;subst q_2;rw[List.find?_append] at hx;rw[eF] at hf;cases hy:EN.find? λx=>Nat.beq x.1 f with
  |some y =>
   rw[hy] at hx;obtain rfl:=AAA (show al y=al x from hx);rw[H0 hy] at hf;have hm:=(EP hy).2;exact XO Tp H (K.fok y hm) (K.fem y hm) (DH hf) λt q e=>by refine oAA (hl y t q hm e) λh1 h2 h3=>?_;exact⟨h1,h2,λo fd=>h3 a o fd (DH hf)⟩
  |none =>
   rw[hy] at hx;have hx:(Es.find? λx=>Nat.beq x.1 f)=al x:=hx;rw[Kh hy hx] at hf;refine Mr (My hc P H (K.mok x (EP hx).2) (K.mem x (EP hx).2)) λa' o e1 _ _ _ e2=>?_;obtain rfl:=ABR (As (DH hf) e1);exact e2
 ·rw[<-eC];refine Gu P.cls.obj λnm q bs sn sub col dd k0 k1 k2 k3 k5 e=>?_;exact⟨⟨nm,q,bs,sn,sub,col,dd,k0,k1,k2,k3,k5,H.get e (λq=>nomatch q)⟩,H.ns P.cls.ns⟩
 ·exact AAU _ (.tail _ (.head _))
 ·exact AAU _ (.tail _ (.tail _ (.head _)))
 ·exact AAU _ (.head _)
 ·unfold mtP at hm;refine oEA (ABL.mp hm) λx hx q_2=>?_;subst q_2;have hn:x.2.1=nm:=ABM (show(x.2.1==nm)=true from ADA (p:=λ(y:Row)=>y.2.1==nm) hx);have hxm:=ABH hx;refine Mr (My hc P H (K.mok x hxm) (K.mem x hxm)) λa o e1 e2 e3 _ _=>?_;refine(Ja (hn▸K.att x hxm) a o ?_ (hn▸e1) e2 e3);rw[eF,Kh (K.apart x hxm) (K.self x hxm),e1];rfl
 ·rw[eE] at e;refine oEA (ae (show(Ot.lookup k).bind (λn=>(mg n).bind IA)=al C' from e)) λn hx e=>?_;refine oEA (excD hx) λbG e1 h2=>?_;obtain rfl:=ABR (As (DH e) e1);exact h2
end
end Mine.Internal
namespace Mine.Internal
open PySem PyProof.Rows PySem.W
set_option tactic.hygienic true
set_option maxRecDepth 100000
noncomputable def KY:List Str:=PySem.W.looseW view12 []
noncomputable def QO(t u v:Addr)(f:Nat):Option (Addr×Str):=bif Nat.beq f 8 then al (t,Et nm1) else bif Nat.beq f 20 then al (u,Et nm2) else bif Nat.beq f 76 then al (v,Et nm3) else az
theorem Eh{α:Type}{l:List α}{f:α->Bool}(h:l.all f=true):∀x,x∈l->f x=true:=ACL.mp h
theorem iE(t u v:Addr):(EN.all λx=>JA (Jy view12 x.2.1) (QO t u v x.1) x)=true:=by kernel_rfl
theorem iG:(EN.map λx=>(emS x.2.2.1.body).2 (Fe (Jy view12 x.2.1)))=EN.map λx=>Fe (Jy view12 x.2.1):=by kernel_rfl
theorem gF:(Es.all λx=>JA (Mn view12 KY x.2.1) az x)=true:=by kernel_rfl
theorem gI:(Es.map λx=>(emS x.2.2.1.body).2 (Fe (Mn view12 KY x.2.1)))=Es.map λx=>Fe (Mn view12 KY x.2.1):=by kernel_rfl
theorem hV:(cW.all λe=>gC view12 KY e)=true:=by kernel_rfl
theorem iX:(Es.all λx=>!Dy.contains x.2.1)=true:=by kernel_rfl
theorem nA:(Es.all λx=>(EN.find? λy=>Nat.beq y.1 x.1).isNone)=true:=by kernel_rfl
theorem bB:(Es.map λx=>Es.find? λy=>Nat.beq y.1 x.1)=Es.map al:=by kernel_rfl
theorem iP:(Ot.all (YD view12))=true:=by kernel_rfl
noncomputable def LL:ClsRec:=(V8 view12 KY).getD ⟨Oz,az,[],[],0,[]⟩
theorem PX:V8 view12 KY=al LL:=by kernel_rfl
theorem fK:(Dy.all λnm=>LL.statics.contains nm)=true:=by kernel_rfl
theorem ZQ(t u v:Addr):Wa view12 KY (QO t u v) where
 fok:=Eh (iE t u v)
 fem:=List.map_inj_left.mp iG
 mok:=Eh gF
 mem:=List.map_inj_left.mp gI
 gok:=Eh hV
 eok:=Eh iP
 att:=λx hx=>FY (Eh iX x hx)
 apart:=λx hx=>none_of' (Eh nA x hx)
 self:=List.map_inj_left.mp bB
theorem cC:(EN.all λx=>bif Nat.beq x.1 8 then x.2.1==nm1 else bif Nat.beq x.1 20 then x.2.1==nm2 else bif Nat.beq x.1 76 then x.2.1==nm3 else true)=true:=by kernel_rfl
theorem ZV:∀nm,nm∈Dy->nm∈LL.statics:=λnm hm=>List.contains_iff_mem.mp (Eh fK nm hm)
theorem cB{t u v a:Addr}{q:Str}{x:Row}(hx:x∈EN)(e:QO t u v x.1=al (a,q)):(a=t/\q=Et nm1/\x.2.1=nm1)\/(a=u/\q=Et nm2/\x.2.1=nm2)\/(a=v/\q=Et nm3/\x.2.1=nm3):=by
 have h:=Eh cC x hx;unfold QO at e;cases h8:Nat.beq x.1 8 with
 |true =>
  rw[h8] at e h;refine oA (ABK (AAA (show al (t,Et nm1)=al (a,q) from e))) λq1 q2=>?_;exact .inl ⟨q1.symm,q2.symm,ABM h⟩
 |false =>
  rw[h8] at e h;cases h9:Nat.beq x.1 20 with
  |true =>
   rw[h9] at e h;refine oA (ABK (AAA (show al (u,Et nm2)=al (a,q) from e))) λq1 q2=>?_;exact .inr (.inl ⟨q1.symm,q2.symm,ABM h⟩)
  |false =>
   rw[h9] at e h;cases h7:Nat.beq x.1 76 with
   |true =>
    rw[h7] at e h;refine oA (ABK (AAA (show al (v,Et nm3)=al (a,q) from e))) λq1 q2=>?_;exact .inr (.inr ⟨q1.symm,q2.symm,ABM h⟩)
   |false=>rw[h7] at e;exact Aa e
end Mine.Internal
namespace Mine.Internal
open PySem PySem.Calls
structure LeM(m:Nat)(own:List Addr)(g g':G):Prop where
 fz:Nh g.fz g'.fz
 mu:∀(k:Nat) (a:Addr),k<m->g.mu[k]? = al a->g'.mu[k]? = al a
 hid:∀a,a∉own->g'.hid a=g.hid a
section
variable{U:Ac}{v:V}{c:Cx}{g:G}{s:Shared}
theorem LD:execs [x] env=exec x env:=by
 rw[execs_cons];refine(bind_congr λf=>?_).trans (bind_pure _);cases f with
 |next=>exact arm_execs_nil _
 |_=>rfl
theorem SS.of1(h:SSs n (.o st) J U Q):SS n st J U Q:=λc g s x hc I=>by have h:=h c g s [x] (λR_ k=>k x [] hc rfl) I;rw[LD] at h;exact h
end
open PySem.W
set_option maxRecDepth 100000
structure Y3(K:Frag)(D:Addr):Prop where
 ga:findIn K (.ref D) "__getattribute__" = al (al (.builtin "BaseException.__getattribute__"))
 gh:findIn K (.ref D) "__getattr__" = al az
 fo:findObj K D az "__class__" = al (.bind (.builtin "getset_descriptor.__get__") (.builtin "object.__class__"))
 mo:mroIn K D (.type "object")=al true
 mb:mroIn K D (.type "BaseException")=al true
 is:(clsIn K D).isSome=true
theorem SG{prog:Program}{w:World}{A:Around}{E:Value->Shared->Prop}{s:Shared}{K:Frag}{ox:Obj}{Q:Option Value->Shared->Prop}(X:K.In s.heap)(I:PySem.W.InstAt s.heap x ox D az)(F':Y3 K D)
 (hq:Q (al (.ref D)) {s with toks:=s.toks+1}):wpAny (model prog w) A (getAttr? (.ref x) "__class__") Q E s:=by
 obtain⟨hga,hgh,hf,hm,hmB,_⟩:=F';obtain⟨hh,g,d,t,os⟩:=s;have L0:=I.type (M:=model prog w);have L1:=looks_findIn (M:=model prog w) X hga;unfold getAttr? getAttrBy? getAttrBy;refine AAD (wpAny_mkText (AAD (wpAny_attempt (AA8 (AAD (L0.at (AAD (L1.at ?_))))))));have hx2:(Value.builtin "BaseException.__getattribute__"==Value.builtin "object.__getattribute__")=false:=by decide +kernel
 show wpAny _ _ (if (onTheHeap (Value.ref D)&&Value.builtin "BaseException.__getattribute__"==Value.builtin "object.__getattribute__")=true then _ else _) _ _ _;rw[hx2,ADD,if_neg ABB];unfold getAttrByItsOwn;show wpAny _ _ (typeLookup (.ref D) "__getattr__" >>= _) _ _ _;refine AAD ((looks_findIn (M:=model prog w) X hgh).at ?_);refine AAD (wpAny_attempt (AA8 ?_));show wpAny _ _ (bindSpecial (.builtin "BaseException.__getattribute__") (.ref x)>>=λp=>call p.1 (p.2++[.str "__class__" t])) _ _ _;refine AAD (wpAny_of_eq (F.excAttr_ValueError.ga.bind (.ref x)) ?_);show wpAny _ _ (call (.builtin "BaseException.__getattribute__") [.ref x,.str "__class__" t]) _ _ _;refine wpAny_call (codeAny_call_builtin F.excAttr_ValueError.ga.plain F.entry_bexc_ga ?_);have hk:builtinKind "BaseException.__getattribute__" = al .slot:=by decide +kernel
 have hsplit:splitId "BaseException.__getattribute__" = al ("BaseException","__getattribute__"):=by decide +kernel
 have ha:=F.args_bexc_ga (.ref x) (.str "__class__" t);have LI:Looks (model prog w) hh (isInstance (.ref x) (.type "BaseException")) true:=L0.andThen (looks_mroIn (M:=model prog w) X hmB);simp only[checkBuiltinCall,hk,hsplit];refine AAD (LI.at ?_)
 repeat (first|assumption|wp_step)
 refine wpAny_loadPart I.at_ (AAY ?_);rw[I.cls];refine AAD ((looks_find (M:=model prog w) X I hf).at ?_);unfold Builtin.ObjectAttr.bindTo;show wpAny _ _ (holding [.builtin "object.__class__"] (call (.builtin "getset_descriptor.__get__") [.builtin "object.__class__",.ref x,.ref D])>>=λv=>ret v) _ _ _;refine AAD (AA8 (wpAny_call (class_get (s:=⟨hh,g,d,t+1,os⟩) (ox:=ox) (od:=az) X I hm ?_)));exact AAY (AAY (AAY hq))
set_option tactic.hygienic true in
theorem Uu(F':Y3 K D):KitX K (.ref x) (.ref D) (λh=>PySem.W.InstAt h x ox D az) where
 ty:=λ_ _ _ I=>I.type
 it:=λ_ _ X _=>by
  have hcD:=F'.is;unfold clsIn at hcD;split at hcD
  ·rename_i c' d' cd' sl' ho
   intro A' Q' E' s' k q;unfold isType loadHead;exact AAD (wpAny_loadPart (k _ _ (X _ _ ho)) (AAY q))
  ·exact ff_ hcD
 ne:=λh tp dd its n sl X htp=>by
  have hcD:=F'.is;refine AB7.mpr λq=>?_;have e:D=tp:=ABR (beq_iff_eq.mp q);subst e;unfold clsIn at hcD;split at hcD
  ·rename_i c' d' cd' sl' ho
   have z:=(X _ _ ho).symm.trans htp;exfalso;cases z
  ·exact ff_ hcD
 ca:=λX I k=>SG X I F' k
theorem Od(he:h.get? e=al o)(hc:o.cls=.ref D)(hd:o.dict=az)(hf:∃ws,o.data=.fields ws):PySem.W.InstAt h e o D az:=by
 refine oE hf λws hf=>⟨he,hc,?_,?_⟩
 ·obtain⟨c,dd,dt,sl⟩:=o;simp only at hf;subst hf;rfl
 ·rw[hd];trivial
theorem cL(X:K.In T.h0)(cls:∀c D,c∈HH->T.exc c=al D->Y3 K D)
 (one:∀c k D w,c∈HH->k<10->T.exc c=al D->XcV T k w->kitOne K (.ref D) w=al (Cw c k)):RH T:=by
 intro c k D w hc hk hD hw A Q E s e o vs hz he hcl hdi hd h;exact kia_one (Uu (ox:=o) (cls c D hc hD)) (λa o e=>hz a o (X a o e)) (Od he hcl hdi ⟨vs,hd⟩) (one c k D w hc hk hD hw) (by intro q;exfalso;cases q) h
theorem dP(X:K.In T.h0)
 (one:∀c k D w,c∈HH->k∈HH->T.exc c=al D->T.exc k=al w->kitCls K (.ref D) (.ref w)=al (Cw c k)/\kitCls K (.ref w) (.type "BaseException")=al true):RJ T:=by
 intro c k D w hc hk hD hw A Q E s e o vs hz he hcl hdi hd h;have X':K.In s.heap:=λa o e=>hz a o (X a o e);refine oA (one c k D w hc hk hD hw) λe1 e2=>oAA (kit_cls (M:=model T.prog T.w) X' e1) λL1 L2 L3=>oAA (kit_cls (M:=model T.prog T.w) X' e2) λ_ _ L4=>?_;have LT:Looks (model T.prog T.w) s.heap (isInstance (.ref w) (.type "tuple")) false:=L1.andThen (Looks.of_pure (by rw[isSubtype_type];kernel_rfl));unfold excMatches;refine AAD (LT.at ?_);have LE:Looks (model T.prog T.w) s.heap (isExcClass (.ref w)) true:=by unfold isExcClass;exact L2.andThen L4
 simp only[ADB,if_false,pure_bind,List.forIn_cons,List.forIn_nil];refine AAD (AAD (AAD (LE.at ?_)));simp only[Bool.not_true,ADB,if_false];refine AAY (AAY ?_);refine AAD (((Od he hcl hdi ⟨vs,hd⟩).type (M:=model T.prog T.w)).at (AAD (AAD (AAD (L3.at ?_)))));generalize Cw c k=b at h ⊢;cases b with
 |true =>
  simp only[if_true];exact AAY (AAY (AAY h))
 |false =>
  simp only[ADB,if_false];exact AAY (AAY (AAY h))
open PyProof.Rows
set_option tactic.hygienic true
theorem UC{f:Addr->Option Obj}{vs:List Value}{ns:List Int}(h:IntsAre vs ns):RepDs f (ns.map .int) vs:=by
 induction h with
 |nil=>exact trivial
 |cons n t r ih=>exact⟨⟨t,rfl⟩,ih⟩
theorem Vk{K:Frag}{D:Addr}(h:Vl K D=true):Y3 K D:=by unfold Vl at h;simp only[ACW] at h;refine oA h λq_0 h6=>?_;obtain⟨⟨⟨⟨h1,h2⟩,h3⟩,h4⟩,h5⟩:=q_0;refine⟨JT h1,JT h2,Sy h3,Eu h4,Eu h5,h6⟩
section
variable{w:World}{ai:Shared}{mean:ExcName->Option Value}{mg mb mN:Str->Option Value}{T:Mine.Internal.Top}
theorem Th(Tp:PyProof.Rows.Top view12 KY mean mg mb ai.heap){n:Str}{P:Addr}(hn:(Jy view12 n).isSome=true)(x:IL mg ai.heap n P):(∃c,ai.heap.TableAt c P #[])/\∀a o fd,mg n=al (.ref a)->ai.heap.get? a=al o->o.data=.func fd->∃c,fd.code=.ref c/\CodeHd ai.heap c P:=by
 cases hr:Jy view12 n with
 |none=>rw[hr] at hn;exact ff_ hn
 |some r =>
  refine oEA (ABL.mp hr) λd hd _=>?_;have hdn:d.name=n:=ABM (show(d.name==n)=true from ADA (p:=λ(y:DefRec)=>y.name==n) hd);obtain⟨a,o,fd,c,P',h1,h2,h3,h4,h5,h6⟩:=Tp.tab d (ABH hd);rw[hdn] at h1;obtain⟨a',o',fd',c',oc,vs,e1,e2,e3,e4,e5,e6,e7⟩:=x;obtain rfl:=ABR (As h1 e1);obtain rfl:=As h2 e2;obtain rfl:=Data.func.inj (h3.symm.trans e3);obtain rfl:=ABR (h4.symm.trans e4);refine G9 h6.1 λo2 vs2 f1 f2 f3 f4=>?_;obtain rfl:=As e5 f1;obtain rfl:=Data.fields.inj (e6.symm.trans f3);obtain rfl:=ABR (As e7 f4);refine⟨⟨c,h6⟩,λa' o' fd' e1 e2 e3=>?_⟩;obtain rfl:=ABR (As h1 e1);obtain rfl:=As h2 e2;obtain rfl:=Data.func.inj (h3.symm.trans e3);exact⟨c,h4,.of h5 h6⟩
theorem Hk{a:Addr}{o:Obj}:∀{K:Frag},K.lookup a=al o->(a,o)∈K
 |[],h=>Aa h
 |b::l,h=>by
  rw[ADC] at h;cases hb:a==b.1 with
  |true =>
   rw[hb] at h;obtain rfl:=AAA h;rw[ABM hb];exact .head _
  |false=>rw[hb] at h;exact .tail _ (Hk h)
theorem Sp{k:Nat}{n:Str}(h:Ot.lookup k=al n):(k,n)∈SM:=mem_of_lookupE h
theorem LG{K:Frag}(KX:K.In ai.heap)(G:ai.heap.Ns mainGlobals mg)(KC:K2 W12 SM [7] Sg K=true){k:Nat}{a:Addr}(h:LF mg k=al a):W12 k=.ref a:=by refine oEA (ae h) λn h1 h2=>?_;have h3:=DH h2;have h4:=mg_of KX G (JT (ACL.mp (Ai (AA (AA KC))) (k,n) (Sp h1)));exact As h4 h3
theorem Qr:∀c∈HH,∀k<10,(c,k)∈Sg/\(c==k||k==1||k==0)=Cw c k:=by decide
theorem fO:∀c∈HH,c<10/\(c==0)=false:=by decide
theorem gT{K:Frag}(KX:K.In ai.heap)(KX':K.In T.h0)(eT:T.exc=LF mg)(G:ai.heap.Ns mainGlobals mg)(KC:K2 W12 SM [7] Sg K=true):RH T:=by
 refine cL (K:=K) KX' (λc D hc hD=>?_) λc k D v hc hk hD hv=>?_
 ·have h1:=ACL.mp (Ai (AA KC)) c hc;rw[LG KX G KC (eT▸hD)] at h1;exact Vk h1
 ·have h1:=Eu (AA (ACL.mp (Ai KC) (c,k) (Qr c hc k hk).1));have e1:=LG KX G KC (eT▸hD);have e2:W12 k=v:=by
   have hv:bif Nat.beq k 0 then v=.type "ValueError" else∃a,T.exc k=al a/\v=.ref a:=hv;cases q:Nat.beq k 0 with
   |true=>rw[q] at hv;rw[ADL q];exact Eq.symm hv
   |false=>rw[q] at hv;refine oEA hv λa ha e=>?_;rw[show v=.ref a from e];exact LG KX G KC (eT▸ha)
  rw[e1,e2] at h1;exact h1.trans (congrArg al (Qr c hc k hk).2)
theorem iT{K:Frag}(KX:K.In ai.heap)(KX':K.In T.h0)(eT:T.exc=LF mg)(G:ai.heap.Ns mainGlobals mg)(KC:K2 W12 SM [7] Sg K=true):RJ T:=by refine dP (K:=K) KX' λc k D v hc hk hD hv=>?_;refine oA (fO k hk) λh0 h1=>?_;have h2:=Ai (ACL.mp (Ai KC) (c,k) (Qr c hc k h0).1);have h2:=(ABC.mp h2).resolve_left λq=>tt_ (q.symm.trans h1);have h3:=Eu (AA h2);have h4:=Eu (Ai h2);rw[LG KX G KC (k:=c) (eT▸hD),LG KX G KC (k:=k) (eT▸hv)] at h3;rw[LG KX G KC (k:=k) (eT▸hv)] at h4;exact⟨h3.trans (congrArg al (Qr c hc k h0).2),h4⟩
theorem fG{t u v a:Addr}{n1 n2 n3 q q':Str}(htu:t≠u)(htv:t≠v)(huv:u≠v)(h:(a,q)∈[(t,n1),(u,n2),(v,n3)])(h':(a,q')∈[(t,n1),(u,n2),(v,n3)]):q=q':=by
 have k:∀{q:Str},(a,q)∈[(t,n1),(u,n2),(v,n3)]->(a=t/\q=n1)\/(a=u/\q=n2)\/(a=v/\q=n3):=λh=>by
  rcases AAR.mp h with h|h
  ·exact .inl (ABK h)
  rcases AAR.mp h with h|h
  ·exact .inr (.inl (ABK h))
  ·exact .inr (.inr (ABK (AAJ.mp h)))
 rcases k h with⟨e,x⟩|⟨e,x⟩|⟨e,x⟩<;>rcases k h' with⟨e',y⟩|⟨e',y⟩|⟨e',y⟩<;>first|exact x.trans y.symm|exact absurd (e.symm.trans e') ‹_› | exact absurd (e'.symm.trans e) ‹_›
noncomputable abbrev Li(w:World)(s:Shared)(mg mN:Str->Option Value)(t u v C:Addr):Mine.Internal.Top:=⟨PySem.Challenge.rw_uf010019_12.row.prog,w,JY s.heap [t,u,v],IE mg mN,[(t,Et nm1),(u,Et nm2),(v,Et nm3)],s.gens,s.os,C,LF mg⟩
theorem law12(run:∀ns:List Int,ns.length<=63->∃U',SSs 23 EW.body (BN EW [.d (.list (ns.map .int))]) [] (RG (vb true) U'))
 (Tp:PyProof.Rows.Top view12 KY mean mg mb ai.heap) (TE:TopE view12 KY mg ai.heap) (AP:Ap nm1 nm2 nm3 mg ai.heap) {K:Frag} (KX:K.In ai.heap) (KC:K2 W12 SM [7] Sg K=true) {fa l:Addr} {vs:List Value} {ns:List Int} (hmg:mg (ACG "law")=al (.ref fa)) (hL:ai.heap.IsList l vs.toArray) (hI:IntsAre vs ns) (hn:ns.length<=63) {Q:Value->Shared->Prop} {E:Value->Shared->Prop}
 (hQ:∀s',OldK ai.heap s'.heap->s'.gens=ai.gens->s'.os=ai.os->Q (.bool true) s') :
 wpAny (model PySem.Challenge.rw_uf010019_12.row.prog w) callerA (call (.ref fa) [.ref l]) Q E ai:=by
 obtain⟨t,u,v,t1,u1,v1,htu,htv,huv⟩:=AP;refine oA (Th Tp (by kernel_rfl) t1) λq_0 t3=>?_;obtain⟨ct,t2⟩:=q_0;refine oA (Th Tp (by kernel_rfl) u1) λq_0 u3=>?_;obtain⟨cu,u2⟩:=q_0;refine oA (Th Tp (by kernel_rfl) v1) λq_0 v3=>?_;obtain⟨cv,v2⟩:=q_0;refine Cy (TE.topC LL (ABH PX)) λC N mN hC P=>?_;have hcn:LL.name=Oz:=ABM (show(LL.name==Oz)=true from ADA (p:=λ(y:ClsRec)=>y.name==Oz) PX);rw[hcn] at hC;have H:Hid (Li w ai mg mN t u v C) ai.heap [t,u,v]:=⟨rfl,af t2.2 (af u2.2 (AT v2.2))⟩
 have KX':K.In (JY ai.heap [t,u,v]):=λa o e=>(Gc λq=>by have h2:=As (KX a o e) (H.tab a q);have h3:=ACL.mp (AA (AA (AA KC))) (a,o) (Hk e);rw[h2] at h3;exact ff_ h3).trans (KX a o e)
 have ok:KD (Li w ai mg mN t u v C):=by
  refine WM (ZQ t u v) Tp PX ZV hC P rfl rfl rfl H (Tp.seer (by decide +kernel)) rfl (λa q q' h h'=>?_) (gT KX KX' rfl Tp.g KC) (iT KX KX' rfl Tp.g KC) λx a q hx e=>?_
  ·exact fG htu htv huv h h'
  ·rcases cB hx e with⟨q1,q2,q3⟩|⟨q1,q2,q3⟩|⟨q1,q2,q3⟩
   ·rw[q1,q2,q3];exact⟨.head _,rfl,t3⟩
   ·rw[q1,q2,q3];exact⟨.tail _ (.head _),rfl,u3⟩
   ·rw[q1,q2,q3];exact⟨.tail _ (.tail _ (.head _)),rfl,v3⟩
 have hfa:(Li w ai mg mN t u v C).fn 34=al fa:=by show IE mg mN 34=al fa;rw[H0 (x:=(34,ACG "law",EW,_)) rfl,hmg];rfl
 refine IB hL λo ho hc m hd=>?_;have hle:∀{a:Addr},ai.heap.get? a=al (tabObj #[])->l≠a:=λ{a} ha e=>by subst e;have:=congrArg Obj.data (As ho ha);rw[hd] at this;cases this
 have hne:∀a,a∈[t,u,v]->l≠a:=af (hle t2.2) (af (hle u2.2) (AT (hle v2.2)));let g:G:=⟨λa=>if a∈[t,u,v] then az else ai.heap.get? a,λ_=>az,[]⟩
 have gne:∀{a:Addr},a∉[t,u,v]->g.fz a=ai.heap.get? a:=λh=>if_neg h;have geq:∀{a:Addr},a∈[t,u,v]->g.fz a=az:=λh=>if_pos h;have gz:∀{a:Addr} {o:Obj},g.fz a=al o->ai.heap.get? a=al o:=λ{a o} e=>by
  by_cases q:a∈[t,u,v]
  ·exact Ak (geq q) e
  ·rw[gne q] at e;exact e
 have tabs:∀a,a∈[t,u,v]->ai.heap.get? a=al (tabObj #[]):=af t2.2 (af u2.2 (AT v2.2));have has:Has (Li w ai mg mN t u v C) g [] ai:=by
  refine⟨λa o e=>gz e,λa o e=>Aa e,rfl,ABY,(λa h=>nomatch h),λa o e=>Aa e,λk a o _ e=>Aa e,λa o e=>?_,λa q h R_ k=>?_,rfl,rfl⟩
  ·have e:(JY ai.heap [t,u,v]).get? a=al o:=e;by_cases q:a∈[t,u,v]
   ·exact Ak (Oh q) e
   ·rw[Gc q] at e;exact(gne q).trans e
  ·have hm:a∈[t,u,v]:=by show a∈[(t,Et nm1),(u,Et nm2),(v,Et nm3)].map (·.1);exact AAZ (f:=(·.1)) h
   exact k #[] (geq hm) rfl ((λh=>nomatch h)) (tabs a hm) trivial λpos cv e=>Aa e
 have r:Au (Li w ai mg mN t u v C) g [.d (.list (ns.map .int))] [.ref l]:=⟨λR_ k=>k l o vs.toArray m ((gne λq=>hne l q rfl).trans ho) hc hd (by rw[List.toList_toArray];exact UC hI) (by rw[AAB];exact AAC hn (by decide)),trivial⟩
 refine oE (run ns hn) λU' hrun=>?_;have fin:=FA.run (f:=34) (fn:=EW) (n:=23) (r:=⟨Li w ai mg mN t u v C,[],callerA⟩) (by unfold Pg;rfl) rfl hrun (by decide) hfa ok rfl (show callerA.depth+(23+1)<=600 by decide) (show callerA.units+100*(23+1)<=9000 by decide) ⟨.inl rfl,rfl⟩ (λe he=>nomatch he) has r;refine AAO fin (λx s' p=>p _ λg' le H' rx=>?_) λ_ _ h=>h.elim;obtain rfl:x=.bool true:=rx;have keep:∀b o,b∉[t,u,v]->ai.heap.get? b=al o->s'.heap.get? b=al o:=λb o q e=>H'.fz b o (le.fz b o ((gne q).trans e));have tab:∀a,a∈[t,u,v]->∃ps,s'.heap.get? a=al (tabObj ps):=af (H'.tb t (Et nm1) (.head _) _ λps _ _ _ h _ _=>⟨ps,h⟩) (af (H'.tb u (Et nm2) (.tail _ (.head _)) _ λps _ _ _ h _ _=>⟨ps,h⟩) (AT (H'.tb v (Et nm3) (.tail _ (.tail _ (.head _))) _ λps _ _ _ h _ _=>⟨ps,h⟩)));have ist:∀a,a∈[t,u,v]->isCodeTable ai.heap a:=af t2.isCodeTable (af u2.isCodeTable (AT v2.isCodeTable));refine hQ s' ⟨λb o e=>?_,λb o e=>?_⟩ H'.gens H'.os
 ·by_cases q:b∈[t,u,v]
  ·refine oE (tab b q) λps hps=>?_;obtain rfl:=As (tabs b q) e;exact .inr (.inl ⟨ist b q,rfl,#[],ps,rfl,by rw[Array.empty_append];exact hps⟩)
  ·exact .inl (keep b o q e)
 ·by_cases q:b∈[t,u,v]
  ·refine oE (tab b q) λps hps=>?_;exact⟨_,hps⟩
  ·exact⟨o,keep b o q e⟩
end
end Mine.Internal
namespace Mine.Internal
open PySem
noncomputable def Tx(l:List Nat):Str:=⟨l.toArray⟩
theorem Na(a b:List Nat):Tx a++Tx b=Tx (a++b):=by show Str.append _ _=_;simp[Str.append,Tx]
theorem GL(a:List Nat):(Tx a).length=a.length:=by simp[Str.length,Tx]
theorem Ym(a:List Nat):(Tx a).cps.size=a.length:=by simp[Tx]
theorem Jh(a:List Nat):(Tx a).cps.toList=a:=by simp[Tx]
theorem FQ(h:Tx a=Tx b):a=b:=by have:=congrArg (λs=>s.cps.toList) h;simpa[Tx] using this
theorem VY(x:Str):Tx x.cps.toList=x:=by simp[Tx]
theorem VZ(lo hi:Option Int)(a:List Nat):IR lo hi (Tx a)=Tx (Dc lo hi a):=by simp[IR,Tx]
theorem kM(a:List Nat)(i:Int):Txt.charAt (Tx a) i=(seqIndex? i a.length).bind (a[·]?):=by simp[Txt.charAt,Tx,Str.length]
theorem OO(a b:List Nat):B9 (Tx a) (Tx b)=decide (a<b):=by unfold B9;congr
theorem MZ(a b:List Nat):(Tx a==Tx b)=decide (a=b):=by
 by_cases h:a=b
 ·subst h;simp
 ·have h1:Tx a≠Tx b:=λe=>h (FQ e);simp[h,h1]
noncomputable abbrev vs(l:List Nat):V:=.d (.str (Tx l))
noncomputable abbrev dl(l:List (List Nat)):PyData:=.list (l.map λt=>.str (Tx t))
section
variable{O:Orc}{J:Am}{U:Ac}{a b r i es lo hi:E}{op:Operator}{cop:CmpOp}{bop:BoolOp}
theorem fF:(ev O (.B op a b)).v J U=((ev O a).v J U).bind λx=>((ev O b).v J U).bind λy=>Gy op x y U:=rfl
theorem fI:(ev O (.not a)).t J U=Ib ((ev O a).t J U):=rfl
theorem fE:(ev O (.C cop a b)).v J U=((ev O a).v J U).bind λx=>((ev O b).v J U).bind λy=>(BH cop x y U).bind λt=>al (vb t):=rfl
theorem fJ:(ev O (.C cop a b)).t J U=((ev O a).v J U).bind λx=>((ev O b).v J U).bind λy=>BH cop x y U:=rfl
theorem fC:(ev O (.tup es)).v J U=((ev O es).row J U).bind Wx:=rfl
theorem fD:(ev O (.aa a i)).v J U=((ev O a).v J U).bind λx=>((ev O i).v J U).bind λy=>BB x y U:=rfl
theorem lZ{b:Bi}:(ev O (.bi b es)).v J U=((ev O es).row J U).bind (Dd b U):=rfl
theorem Ww{f:Nat}:(ev O (.F f es)).v J U=((ev O es).row J U).bind λxs=>O f xs U:=rfl
theorem bI:(ev O (.cons a r)).row J U=((ev O a).v J U).bind λx=>((ev O r).row J U).bind λxs=>al (x::xs):=rfl
theorem Ti:(ev O (.P bop es)).t J U=(ev O es).bt bop J U:=rfl
theorem W5{f:Nat}:(ev O (.F f es)).t J U=(((ev O es).row J U).bind λxs=>O f xs U).bind (Fp U):=rfl
theorem mC{b:Bi}:(ev O (.bi b es)).t J U=(((ev O es).row J U).bind (Dd b U)).bind (Fp U):=rfl
theorem K7:(ev O (.cons a r)).bt bop J U=((ev O a).t J U).bind λt=>bif t==Dx bop then al t else(ev O r).bt bop J U:=rfl
theorem bH:(ev O (.cons a r)).ts J U=((ev O a).t J U).bind λt=>bif t then(ev O r).ts J U else al false:=rfl
theorem Tb:(ev O (.slc a lo hi)).v J U=((ev O a).v J U).bind λx=>(J9 lo (ev O lo).v J U).bind λl=>(J9 hi (ev O hi).v J U).bind λh=>slice U x l h:=rfl
theorem bs{α β:Type}{a:α}{f:α->Option β}:(al a).bind f=f a:=rfl
end
theorem iW:Gy .Add (vi i) (vi j) U=al (vi (i+j)):=rfl
theorem LO(h:(small i||small j)=true):Gy .Mult (vi i) (vi j) U=al (vi (i*j)):=by show(if (small i||small j)=true then al (i*j) else az).bind _=_;exact(if_pos h)▸rfl
theorem CC(h:j≠0):Gy .FloorDiv (vi i) (vi j) U=al (vi (i.fdiv j)):=by show(if j=0 then az else al (i.fdiv j)).bind _=_;exact(if_neg h)▸rfl
theorem AW(h:j≠0):Gy .Mod (vi i) (vi j) U=al (vi (i.fmod j)):=by show(if j=0 then az else al (i.fmod j)).bind _=_;exact(if_neg h)▸rfl
theorem LP(a b:List Nat)(h:a.length+b.length<=line):Gy .Add (vs a) (vs b) U=al (vs (a++b)):=by show(if (Tx a).length+(Tx b).length<=line then al (V.d (.str (Tx a++Tx b))) else az)=_;rw[if_pos (by rw[GL,GL];exact h),Na]
theorem DR(l:List PyData):Gm (l.map .d)=al l:=by
 induction l with
 |nil=>rfl
 |cons x r ih =>
  show(Gm (r.map .d)).bind (λxs=>al (x::xs))=_;exact ih▸rfl
theorem JJ(l:List PyData)(h:l.length<=line):mkL (l.map .d)=al (.d (.list l)):=by unfold mkL;rw[if_pos (lml h),DR];rfl
theorem GK(a b:List PyData)(h:a.length+b.length<=line):Gy .Add (.d (.list a)) (.d (.list b)) U=al (.d (.list (a++b))):=by show((if (a.map V.d).length+(b.map V.d).length<=line then al (a.map V.d++b.map V.d) else az).bind mkL)=_;rw[if_pos (by rw[AAB,AAB];exact h),<-AAQ];exact JJ _ (AAF▸h)
theorem NU:Dd .len U [vs l]=al (vi l.length):=by show al (vi ((Tx l).cps.size:Nat))=_;rw[Ym]
theorem CO:Dd .len U [.d (.list l)]=al (vi l.length):=by show al (vi ((l.map V.d).length:Nat))=_;rw[AAB]
theorem gO(h:U[k]? = al (.list ws)):Dd .len U [.ref k]=al (vi ws.length):=by show(Fh U[k]?).bind _=_;exact h▸rfl
theorem QJ(h:U[k]? = al (.list ws)):AE U (.ref k)=al ws:=by show Fh U[k]? = _;exact h▸rfl
theorem B8:BH .Eq (vi i) (vi j) U=al (decide (i=j)):=by
 show al (i==j)=_;by_cases h:i=j
 ·rw[AAI h,beq_iff_eq.mpr h]
 ·rw[AAT h,beq_eq_false_iff_ne.mpr h]
theorem EQ:BH .Eq (vs a) (vs b) U=al (decide (a=b)):=by show al (Tx a==Tx b)=_;rw[MZ]
theorem GA:BH .NotEq (vs a) (vs b) U=al (!decide (a=b)):=by show Ib (al (Tx a==Tx b))=_;rw[MZ];rfl
theorem Lc:BH .Lt (vi i) (vi j) U=al (decide (i<j)):=rfl
theorem MV:BH .Gt (vi i) (vi j) U=al (decide (i>j)):=rfl
theorem mY:BH .GtE (vi i) (vi j) U=al (decide (i≥j)):=rfl
theorem IH:BH .NotIn x y U=Ib (inV U x y):=rfl
theorem Yi:BH .In x y U=inV U x y:=rfl
theorem QY(a:List Nat)(l:List (List Nat)):inD (.str (Tx a)) (l.map λt=>.str (Tx t))=al (decide (a∈l)):=by
 induction l with
 |nil=>rfl
 |cons b l ih =>
  show(al (Tx b==Tx a)).bind (λx=>(inD (.str (Tx a)) (l.map λt=>.str (Tx t))).bind λy=>al (x||y))=_;rw[ih,MZ];show al (decide (b=a)||decide (a∈l))=_;rw[<-Bool.decide_or];congr 1;exact decide_eq_decide.mpr (by rw[AAR,eq_comm])
theorem Cr(a:List Nat)(l:List (List Nat)):inV U (vs a) (.d (dl l))=al (decide (a∈l)):=QY a l
theorem cN{l:List (List Nat)}(h:U[k]? = al (.list (l.map vs))):inV U (vs a) (.ref k)=al (decide (a∈l)):=by show inO U (vs a) k U[k]? = _;rw[h];show(Xd (Fh U[k]?)).bind _=_;rw[h];show((Gm (l.map vs)).bind λxs=>al (PyData.list xs)).bind _=_;rw[show l.map vs=(l.map λt=>PyData.str (Tx t)).map V.d by rw[AAE];rfl,DR];exact QY a l
theorem fL{k:Int}{n:Nat}(h0:0<=k)(h:k<n):seqIndex? k n=al k.toNat:=by
 have h1:=by exact Zz h0
 simp[seqIndex?,h1,h0,h]
theorem Tu(h1:-1000000000000<i)(h2:i<1000000000000):small i=true:=by simp[small];exact(⟨Z0 h1 (by decide),IJ h2 (by decide)⟩)
theorem Px(k:Int)(h0:0<=k)(hs:k<9223372036854775808)(h:ws[k.toNat]? = al v):nth ws k=al v:=by have h1:=(AAM.mp h).1;unfold nth;rw[if_pos (by simp[small];exact Zy h0 hs rfl),fL h0 (Zk h0 h1)];exact h
theorem Eg(k:Int)(h0:0<=k)(hs:k<9223372036854775808)(h:l[k.toNat]? = al y):BB (.d (.list l)) (vi k) U=al (.d y) :=
 Px k h0 hs ((ABI)▸h▸rfl)
theorem K8(k:Int)(h0:0<=k)(hs:k<9223372036854775808)(hj:U[j]? = al (.list ws))(h:ws[k.toNat]? = al v):BB (.ref j) (vi k) U=al v:=by show RQ U (vi k) U[j]? = _;exact hj▸Px k h0 hs h
theorem R2(k:Int)(h0:0<=k)(hs:k<9223372036854775808)(h:l[k.toNat]? = al y):BB (vs l) (vi k) U=al (vs [y]):=by have h1:=(AAM.mp h).1;show(if small k=true then(Txt.charAt (Tx l) k).bind λc=>al (V.d (.str (O4 c))) else az)=_;rw[if_pos (by simp[small];exact Zy h0 hs rfl),kM,fL h0 (Zk h0 h1)];show(l[k.toNat]?).bind _=_;exact h▸rfl
theorem TS(h:ws[ws.length-1]? = al v):nth ws (-1)=al v:=by
 have h1:=(AAM.mp h).1;unfold nth;rw[if_pos (by decide)];have h4:=by exact jE h1
 have h5:(-1+(ws.length:Int))<ws.length:=by exact(by omega)
 have h6:=by exact jD h1
 exact(show seqIndex? (-1) ws.length=al (ws.length-1) by simp[seqIndex?,h4,h5,h6])▸h
theorem O0(n k:Nat):clipAt n (k:Int)=min k n:=by
 show(max 0 (min (if (k:Int)<0 then(k:Int)+n else k) n)).toNat=_;rw[if_neg (Int.not_lt.mpr (AB9 k))];rcases Nat.le_total k n with h|h
 ·rw[Int.min_eq_left (Int.ofNat_le.mpr h),ACP h,Int.max_eq_right (AB9 _)];rfl
 ·rw[Int.min_eq_right (Int.ofNat_le.mpr h),Nat.min_eq_right h,Int.max_eq_right (AB9 _)];rfl
theorem V3{α:Type}(l:List α)(k:Nat):Dc az (al (k:Int)) l=l.take k:=by
 have:=O0 l.length k;simp only[Dc,Option.elim,this,List.drop_zero,Nat.sub_zero];rcases Nat.le_total k l.length with h|h
 ·rw[ACP h]
 ·rw[Nat.min_eq_right h,List.take_of_length_le (AAL _),List.take_of_length_le h]
theorem Ow{α:Type}(l:List α)(k:Nat):Dc (al (k:Int)) az l=l.drop k:=by
 have:=O0 l.length k;simp only[Dc,Option.elim,this];rcases Nat.le_total k l.length with h|h
 ·rw[ACP h,List.take_of_length_le (by simp)]
 ·rw[Nat.min_eq_right h];simp[List.drop_eq_nil_of_le h]
theorem Tz(k:Nat):slice U (vs a) az (al (k:Int))=al (vs (a.take k)):=by show al (V.d (.str (IR az (al (k:Int)) (Tx a))))=_;rw[VZ,V3]
theorem Qw(k:Nat):slice U (vs a) (al (k:Int)) az=al (vs (a.drop k)):=by show al (V.d (.str (IR (al (k:Int)) az (Tx a))))=_;rw[VZ,Ow]
theorem ZZ(h0:0<=i):slice U (vs a) az (al i)=al (vs (a.take i.toNat)):=by rw[<-Tz,ADY h0]
theorem T0(h0:0<=i):slice U (vs a) (al i) az=al (vs (a.drop i.toNat)):=by rw[<-Qw,ADY h0]
theorem Qx(h0:0<=i)(hl:l.length<=line):slice U (.d (.list l)) az (al i)=al (.d (.list (l.take i.toNat))):=by show mkL (Dc az (al i) (l.map V.d))=_;rw[<-ADY h0,V3,<-List.map_take];exact JJ _ (AAC (ACT▸Nat.min_le_right _ _) hl)
theorem HT(h0:0<=i)(hl:l.length<=line):slice U (.d (.list l)) (al i) az=al (.d (.list (l.drop i.toNat))):=by show mkL (Dc (al i) az (l.map V.d))=_;rw[<-ADY h0,Ow,<-List.map_drop];exact JJ _ (AAC (ADI▸Nat.sub_le _ _) hl)
theorem Ba(i:Int)(h:0<j):0<=i.fmod j/\i.fmod j<j:=⟨Int.fmod_nonneg_of_pos i h,Int.fmod_lt_of_pos i h⟩
theorem ZJ(lo:Int)(n:Nat):upV lo n=(List.range n).map λj:Nat=>vi (lo+(j:Int)):=by
 induction n generalizing lo with
 |zero=>rfl
 |succ n ih =>
  show vi lo::upV (lo+1) n=_;rw[ih,List.range_succ_eq_map];simp only[ABP,AAE];congr 1
  ·simp
  ·apply AC8;intro j _;show vi (lo+1+(j:Int))=vi (lo+((j+1:Nat):Int));rw[Int.natCast_add,Int.add_assoc,Int.add_comm 1];rfl
theorem up0(n:Nat):upV 0 n=(List.range n).map λj:Nat=>vi (j:Int):=by simp[ZJ]
section
variable{α:Type}{O:Orc}{J:Am}{U:Ac}{elt ifs it:E}{t:Nat}{l:List α}{m:Int}
theorem itr(h:(ev O es).row J U=al [vi m])(h1:m<=1000000)(h2:-1000000<=m):(ev O (.range es)).it J U=al ((List.range m.toNat).map (λj:Nat=>vi (j:Int)),[]):=by show((ev O es).row J U).bind TG=_;rw[h];show(if m<=1000000/\-1000000<=m then al (upV 0 m.toNat,[]) else az)=_;rw[if_pos ⟨h1,h2⟩,up0]
theorem Ey{f:V->Option (Option V)}(w:α->V)(g:α->Option V):∀(l:List α),(∀a∈l,f (w a)=al (g a))->Fc f (l.map w)=al (l.filterMap g)
 |[],_=>rfl
 |a::l,h=>by show(f (w a)).bind (λx=>(Fc f (l.map w)).bind λxs=>al (match x with|some y=>y::xs|none=>xs))=_;rw[h a (.head _),bs,Ey w g l λb hb=>h b (.tail _ hb),bs,ADH];cases g a<;>rfl
theorem Oq{β:Type}(p:α->Bool)(g:α->β):∀l:List α,(l.filterMap λa=>if p a then al (g a) else az)=(l.filter p).map g
 |[]=>rfl
 |a::l=>by cases h:p a<;>simp[ADH,List.filter_cons,h,Oq p g l]
theorem Ed(w:α->V)(p:α->Bool)(g:α->V)(hi:(ev O it).it J U=al (l.map w,kps))(hl:l.length<=line)
 (hp:∀a∈l,(ev O ifs).ts ((J.set t az).set t (al (w a))) U=al (p a))
 (hg:∀a∈l,p a=true->(ev O elt).v ((J.set t az).set t (al (w a))) U=al (g a)):(ev O (.D elt [t] it ifs)).nl J U=al ((l.filter p).map g):=by
 show(((ev O it).it J U).bind λq=>Fc _ q.1).bind _=_;rw[hi];show(Fc _ (l.map w)).bind _=_;rw[Ey w (λa=>if p a then al (g a) else az) l λa ha=>?_,bs,Oq]
 ·exact if_pos (AAC (lml (AAX _ _)) hl)
 ·show((ev O ifs).ts ((J.set t az).set t (al (w a))) U).bind _=_;rw[hp a ha,bs];cases h:p a with
  |true =>
   show((ev O elt).v ((J.set t az).set t (al (w a))) U).bind _=_;rw[hg a ha h];rfl
  |false=>rfl
theorem Ih{ds:List PyData}(h:(ev O (.D elt [t] it ifs)).nl J U=al (ds.map .d)):(ev O (.D elt [t] it ifs)).v J U=al (.d (.list ds)):=by refine oEA (ae h) λws h1 q=>oA (BG q) λq1 q2=>?_;show(((ev O it).it J U).bind λp=>Fc _ p.1).bind mkL=_;exact(show(((ev O it).it J U).bind λp=>Fc _ p.1)=al ws from h1)▸q2▸bs▸JJ _ (by rw[<-AAB,<-q2];exact q1)
end
section
variable{O:Orc}{J:Am}{U:Ac}{a b i es:E}{op:Operator}{cop:CmpOp}{x y z:V}{p q:Bool}{xs:List V}
theorem Ae(h1:(ev O a).v J U=al x)(h2:(ev O b).v J U=al y)(h3:Gy op x y U=al z):(ev O (.B op a b)).v J U=al z:=by rw[fF,h1,bs,h2,bs];exact h3
theorem Ad(h1:(ev O a).v J U=al x)(h2:(ev O i).v J U=al y)(h3:BB x y U=al z):(ev O (.aa a i)).v J U=al z:=by rw[fD,h1,bs,h2,bs];exact h3
theorem Aj(h1:(ev O a).v J U=al x)(h2:(ev O b).v J U=al y)(h3:BH cop x y U=al p):(ev O (.C cop a b)).t J U=al p:=by rw[fJ,h1,bs,h2,bs];exact h3
theorem Iu(h1:(ev O a).v J U=al x)(h2:(ev O b).v J U=al y)(h3:BH cop x y U=al p):(ev O (.C cop a b)).v J U=al (vb p):=by rw[fE,h1,bs,h2,bs,h3];rfl
theorem Rr(h1:(ev O a).v J U=al x)(h2:(ev O r).row J U=al xs):(ev O (.cons a r)).row J U=al (x::xs):=by rw[bI,h1,bs,h2];rfl
theorem A8(h1:(ev O a).v J U=al x):(ev O (.o a)).row J U=al [x]:=Rr h1 rfl
theorem Bg(h1:(ev O a).v J U=al x)(h2:(ev O b).v J U=al y):(ev O (.t a b)).row J U=al [x,y]:=Rr h1 (A8 h2)
theorem ER(h1:(ev O a).v J U=al x)(h2:(ev O b).v J U=al y)(h3:(ev O c).v J U=al z):(ev O (.c a (.t b c))).row J U=al [x,y,z]:=Rr h1 (Bg h2 h3)
theorem AZ{b:Bi}(h1:(ev O es).row J U=al xs)(h2:Dd b U xs=al z):(ev O (.bi b es)).v J U=al z:=by rw[lZ,h1,bs];exact h2
theorem Gl{f:Nat}(h1:(ev O es).row J U=al xs)(h2:O f xs U=al z):(ev O (.F f es)).v J U=al z:=by rw[Ww,h1,bs];exact h2
theorem Rt{f:Nat}(h1:(ev O es).row J U=al xs)(h2:O f xs U=al (vb p)):(ev O (.F f es)).t J U=al p:=by rw[W5,h1,bs,h2];rfl
theorem LJ(h:(ev O a).t J U=al p):(ev O (.not a)).t J U=al (!p):=by rw[fI,h];rfl
theorem Cn{v:V}(h:(ev O es).row J U=al xs)(h2:Wx xs=al v):(ev O (.tup es)).v J U=al v:=by rw[fC,h,bs];exact h2
theorem IG(h1:(ev O a).t J U=al p)(h2:p=false->(ev O b).t J U=al q):(ev O (.P .Or (.t a b))).t J U=al (p||q):=by
 rw[Ti,K7,h1,bs];cases p with
 |true=>rfl
 |false =>
  rw[K7,h2 rfl,bs];cases q<;>rfl
theorem BC(h1:(ev O a).t J U=al p)(h2:p=true->(ev O b).t J U=al q):(ev O (.P .And (.t a b))).t J U=al (p&&q):=by
 rw[Ti,K7,h1,bs];cases p with
 |false=>rfl
 |true =>
  rw[K7,h2 rfl,bs];cases q<;>rfl
theorem MR(h1:(ev O a).t J U=al p)(h2:p=true->(ev O b).t J U=al q)(h3:p=true->q=true->(ev O c).t J U=al s):(ev O (.P .And (.c a (.t b c)))).t J U=al (p&&(q&&s)):=by
 rw[Ti,K7,h1,bs];cases p with
 |false=>rfl
 |true=>exact BC (q:=s) (h2 rfl) λe=>h3 rfl e
theorem EZ(h1:(ev O a).t J U=al p):(ev O (.o a)).ts J U=al p:=by rw[bH,h1,bs];cases p<;>rfl
theorem XW(h1:(ev O a).v J U=al (vb p))(h2:p=true->(ev O b).v J U=al (vb q)):(ev O (.P .And (.t a b))).v J U=al (vb (p&&q)):=by
 show((ev O a).v J U).bind (λx=>(Fp U x).bind λt=>bif t==Dx .And then al x else(ev O (.o b)).bo .And J U)=_;rw[h1,bs];cases p with
 |false=>rfl
 |true=>exact h2 rfl
theorem len_of'(h:AE U x=al ws):Dd .len U [x]=al (vi ws.length):=by
 cases x with
 |d y=>cases y with
  |list l=>rw[CO,<-AAA h,AAB]
  |_=>exact Aa h
 |ref k=>exact gO (Dl h)
 |_=>exact Aa h
theorem Tn(h:AE U x=al ws):BB x (vi k) U=nth ws k:=by
 cases x with
 |d y=>cases y with
  |list l=>rw[<-AAA h];rfl
  |_=>exact Aa h
 |ref j=>show RQ U (vi k) U[j]? = _;rw[Dl h];rfl
 |_=>exact Aa h
theorem tr_of'(h:AE U x=al ws):Fp U x=al (!ws.isEmpty):=by
 cases x with
 |d y=>cases y with
  |list l=>rw[<-AAA h,Ie];rfl
  |_=>exact Aa h
 |ref j=>rw[show Fp U (.ref j)=(Fh U[j]?).bind λws=>al (!ws.isEmpty) from rfl,show Fh U[j]? = al ws from h];rfl
 |_=>exact Aa h
theorem UH{l:List (List Nat)}(h:AE U x=al (l.map vs)):inV U (vs w) x=al (decide (w∈l)):=by
 cases x with
 |d y=>cases y with
  |list l' =>
   have e:=by have h1:=congrArg (λo=>o.bind Gm) h;have h2:Gm (l'.map V.d)=Gm (l.map vs):=h1;rw[DR,show l.map vs=(l.map λt=>PyData.str (Tx t)).map V.d by rw[AAE];rfl,DR] at h2;exact AAA h2
   exact e▸Cr w l
  |_=>exact Aa h
 |ref j=>exact cN (Dl h)
 |_=>exact Aa h
end
section
variable{P:Fl->Ac->Prop}
theorem Dw{M:Am->Ac->Prop}(h:Al C (λfl U'=>∃J',fl=.next J'/\M J' U') (.o st) J U)(k:∀J' U',M J' U'->Al C P r J' U'):Al C P (.cons st r) J U:=by refine Bb h λfl U' q_2 h2=>?_;obtain⟨J',rfl,h1⟩:=q_2;exact Cs (fl:=.next J') (λQ q=>SS.mono (λf s e=>by rw[e.1,e.2];exact q) (.of1 h2)) (k J' U' h1)
end
noncomputable def Du(c k:Int):Int:=((c+7919*k)*48271).fmod 2147483647
theorem sm1(i:Int):(small 7919||small i)=true:=by rw[show small 7919=true by decide];rfl
theorem sm2(i:Int):(small i||small 48271)=true:=by rw[show small 48271=true by decide,Bool.or_true]
theorem sm4(i:Int):(small 4||small i)=true:=by rw[show small 4=true by decide];rfl
theorem smr(h1:-1000000000000<j)(h2:j<1000000000000):(small i||small j)=true:=by rw[Tu h1 h2,Bool.or_true]
noncomputable def C0(n:Nat):Cfg:=⟨n,λ_ _ _=>az,λ_ _ _ _ h=>Aa h⟩
theorem UZ(c k:Int):FN 2 10 [vi c,vi k] U (vi (Du c k)) U:=by exact FN.same (C:=C0 1) (fn:=Wk) (h:=AB (Ae (Ae (Ae rfl (Ae rfl rfl (LO (sm1 _))) rfl) rfl (LO (sm2 _))) rfl (AW (by decide))) ⟨rfl,rfl⟩)
noncomputable def gH(xs:List V):Option V:=match xs with|x::r=>(match r with|y::r=>(match r with|[]=>(CV x).bind λc=>(CV y).bind λk=>al (vi (Du c k))|_=>az)|[]=>az)|[]=>az
theorem WZ(hn:2<=n)(h:gH xs=al v):FN n 10 xs U v U:=by
 match xs,h with
 |[],h=>exact Aa h
 |[_],h=>exact Aa h
 |[x,y],h =>
  exact oEA (ae h) λc e1 h=>oEA (ae h) λk e2 h=>(BF e1)▸(BF e2)▸(AAA h)▸(UZ c k).more hn
 |_::_::_::_,h=>exact Aa h
noncomputable def Cfg.add(C:Cfg)(f:Nat)(g:List V->Ac->Option V)(h:∀xs U v,g xs U=al v->FN C.n f xs U v U):Cfg:=⟨C.n,λf' xs U=>bif Nat.beq f' f then g xs U else C.O f' xs U,λf' xs U v e=>by
 cases q:Nat.beq f' f with
 |true=>rw[q] at e;rw[ADL q];exact h xs U v e
 |false=>rw[q] at e;exact C.ok f' xs U v e⟩
noncomputable def C1(n:Nat)(hn:2<=n):Cfg:=(C0 n).add 10 (λxs _=>gH xs) λ_ _ _ h=>WZ hn h
theorem XM(sc:List Int)(k:Int)(h0:0<=k)(hk:k<1000):FN 2 9 [.d (.list (sc.map .int)),vi k] U (vi (sc.getD k.toNat 0)) U:=by
 exact FN.same (C:=C0 1) (h:=by
  refine AC (Aj rfl (AZ (A8 rfl) (CO.trans (by rw[AAB]))) Lc) (λh=>?_) λh=>Ab ?_
  ·have h:=AAG h;refine AB (Ad rfl rfl (Eg k h0 (IJ hk rfl) ?_)) ⟨rfl,rfl⟩;have:k.toNat<sc.length:=by exact LS h0 h
   simp[List.getD,this]
  ·have h:=ABG h;refine AB ?_ ⟨rfl,rfl⟩;rw[show sc.getD k.toNat 0=0 by
    have:sc.length<=k.toNat:=by exact jJ h0 h
    simp[List.getD,this]]
   rfl)
noncomputable def EX:List Nat:=[97,98,99,100,101,102,103,104,105,106,107,108,109,110,111,112,113,114,115,116,117,118,119,120,121,122,48,49,50,51,52,53,54,55,56,57]
noncomputable def Bq(t:List Nat):Bool:=!(decide ((t.length:Int)<1)||decide ((t.length:Int)>12))&&t.all λc=>decide (c∈EX)
theorem QQ:ACG "abcdefghijklmnopqrstuvwxyz0123456789" = Tx EX:=by decide +kernel
theorem Cl(t:List Nat):Bq t=true↔1<=t.length/\t.length<=12/\∀c∈t,c∈EX:=by
 simp only[Bq,ACW,ACZ,Bool.or_eq_false_iff,decide_eq_false_iff_not,ACL,decide_eq_true_eq];constructor
 ·rintro⟨⟨h1,h2⟩,h3⟩;exact⟨by exact(by omega),by exact(by omega),h3⟩
 ·rintro⟨h1,h2,h3⟩;exact⟨⟨by exact IK h1,by exact IK h2⟩,h3⟩
noncomputable def sg(i:Int):Nat:=EX.getD i.toNat 0
theorem Y7(i:Int)(h0:0<=i)(h:i<36):EX[i.toNat]? = al (sg i):=by
 have:i.toNat<EX.length:=by simp[EX];(with_reducible assumption)
 simp[sg,List.getD,this]
theorem Pn(i:Int)(h0:0<=i)(h:i<36):sg i∈EX:=AA5 (Y7 i h0 h)
theorem Ph(h0:0<=i)(h:i<36):BB (vs EX) (vi i) U=al (vs [sg i]):=R2 i h0 (IJ h rfl) (Y7 i h0 h)
noncomputable def num(j:Nat):List Nat:=(Qt (j:Int)).cps.toList
theorem NF:∀j:Nat,j<130->Bq (num j)=true:=by decide +kernel
theorem Sj:((List.range 130).map num).Nodup:=by decide +kernel
theorem Mu(h0:0<=i)(h:i<130):Dd .str U [vi i]=al (vs (num i.toNat)):=by show(if i.natAbs<1000000000000 then al (V.d (.str (Qt i))) else az)=_;rw[if_pos (by lia)];unfold num;rw[ADY h0];simp only[vs,VY]
theorem G7{β:Type}[DecidableEq β]:∀(l m:List β),l.Nodup->(∀x∈l,x∈m)->l.length<=m.length
 |[],m,_,_=>by exact ABF _
 |a::l,m,hn,hs=>by
  have ha:=hs a (.head _);rw[ABX] at hn;have:=G7 l (m.erase a) hn.2 (by intro x hx;have hne:x≠a:=λe=>hn.1 (e▸hx);exact(List.mem_erase_of_ne hne).mpr (hs x (.tail _ hx)))
  rw[List.length_erase_of_mem ha] at this;have h0:0<m.length:=List.length_pos_iff.mpr (λe=>by simp[e] at ha);simp;exact(AAC (ABS this) (Nat.le_of_eq (Nat.sub_add_cancel h0)))
theorem TR(l:List (List Nat))(hl:l.length<130):∃j,j<=l.length/\num j∉l:=by
 apply Classical.byContradiction;intro hno;have h1:((List.range (l.length+1)).map num).Nodup:=by
  have:(List.range (l.length+1)).map num=((List.range 130).map num).take (l.length+1):=by rw[<-List.map_take,List.take_range];congr 2;exact((ACP hl).symm)
  exact this▸List.Sublist.nodup (AC4 _ _) Sj
 have:=G7 _ l h1 (by intro x hx;simp only[AAP,ABZ] at hx;refine oEA hx λj h2 q_2=>?_;subst q_2;apply Classical.byContradiction;intro h3;exact hno (iEA j (by(exact ACF ‹_›)) h3))
 simp at this
 (exact ABU _ ‹_›)
theorem Ua(c k:Int):0<=Du c k/\Du c k<2147483647:=Ba _ (by decide)
theorem Xz(l:List (List Nat))(h:l.length<=1000000)(h1:∀t∈l,t.length<=1):JoinOk (Tx []) (l.map Tx)=true:=by
 refine PyProof.Rows.joinOk_of ?_;have h2:((l.map Tx).map (·.length)).sum<=l.length:=by
  clear h
  induction l with
  |nil=>simp
  |cons a l ih =>
   have:=h1 a (by simp);have:=ih (λt ht=>h1 t (by simp[ht]));simp only[ABP,List.sum_cons,AA2,GL];exact(by omega)
 simp only[GL,List.length_nil,Nat.mul_zero];exact(II (AAC h2 h) rfl)
theorem gS(l:List (List Nat)):Txt.join (Tx []) (l.map Tx)=Tx l.flatten:=by
 show Builtin.Str.glued _ _=_;rw[StrLaws.glued_eq_join]
 induction l with
 |nil=>rfl
 |cons a l ih =>
  induction l with
  |nil=>simp[Str.join]
  |cons b l =>
   simp only[ABP,Str.join] at ih ⊢;rw[ih,Na,Na];simp
theorem gQ:ACG "" = Tx []:=by decide +kernel
theorem Ig:∀l:List Str,D6 CE (vss l)=al l
 |[]=>rfl
 |x::l=>by show(D6 CE (vss l)).bind _=_;rw[Ig l];rfl
theorem Rq{O:Orc}{J:Am}{m:Int}(g:Int->Nat)(hi:(ev O es).row J U=al [vi m])(hl:m<=1000)(hl2:-1000<=m)
 (hg:∀i:Int,0<=i->i<m->(ev O elt).v ((J.set t az).set t (al (vi i))) U=al (vs [g i])) :
 (ev O (.H .join (.cst (.str (ACG ""))) (.cons (.D elt [t] (.range es) .nil) .nil))).v J U=al (vs ((List.range m.toNat).map λj:Nat=>g (j:Int))):=by
 have h1:=Ih (ifs:=.nil) (by rw[Ed (λj:Nat=>vi (j:Int)) (λ_=>true) (λj:Nat=>vs [g (j:Int)]) (itr hi (OI hl rfl) (OH hl2 rfl)) (ABV▸AAC (show m.toNat<=1000 by exact OC hl rfl) (by decide)) (λ_ _=>rfl) (λj hj _=>hg j (AB9 _) (by have:=ABZ.mp hj;exact Zl this)),List.filter_eq_self.mpr (λ_ _=>rfl),AAE];rfl)
 show(((ev O (.cons (.D elt [t] (.range es) .nil) .nil)).row J U).bind λys=>YK U (.d (.str (ACG ""))) ys)=_;rw[A8 h1,gQ];show((D6 CE (((List.range m.toNat).map λj:Nat=>PyData.str (Tx [g (j:Int)])).map V.d)).bind λss=>if JoinOk (Tx []) ss=true then al (V.d (.str (Txt.join (Tx []) ss))) else az)=_;rw[show(((List.range m.toNat).map λj:Nat=>PyData.str (Tx [g (j:Int)])).map V.d)=vss (((List.range m.toNat).map λj:Nat=>[g (j:Int)]).map Tx) by show _=(((List.range m.toNat).map λj:Nat=>[g (j:Int)]).map Tx).map λy=>V.d (.str y);rw[AAE,AAE,AAE];rfl,Ig,bs,if_pos (Xz _ (by simp;exact OI hl rfl) (by simp)),gS];congr 3;generalize List.range m.toNat=l;congr 1
 induction l with
 |nil=>rfl
 |cons a l ih=>simp[ih]
theorem Sl(m:Nat)(g:Nat->Int)(h1:1<=m)(h2:m<=12)(hg:∀j,0<=g j/\g j<36):Bq ((List.range m).map λj=>sg (g j))=true:=by rw[Cl];refine⟨by simpa using h1,by simpa using h2,?_⟩;intro x hx;simp only[AAP] at hx;refine oEA hx λj _ q_2=>?_;subst q_2;exact Pn _ (hg j).1 (hg j).2
theorem Uk{u:List Nat}(h:u.length<=12):(u.take i++[x]).length+(u.drop j).length<=line/\(u.take i).length+[x].length<=line:=by simp[line];exact(by omega)
theorem nm4{u:List Nat}{a:Int}(h2:u.length<=12)(h0:0<=a)(ha:a<u.length):1<=(u.take a.toNat++[x]++u.drop (a+1).toNat).length/\(u.take a.toNat++[x]++u.drop (a+1).toNat).length<=12:=by simp;lia
theorem T7(hm:∀c k,C.O 10 [vi c,vi k] U=al (vi (Du c k)))(c:Int)(tk:List (List Nat))(hx:AE U x=al (tk.map vs))(hg:∀x∈tk,Bq x=true)(hl:tk.length<100) :
 Al C (λfl U'=>∃r,Bq r=true/\r∉tk/\Ff fl=vs r/\U'=U) Wi.body (BN Wi [vi c,x]) U:=by
 have hlen:=len_of' hx;rw[AAB] at hlen;have htr:=tr_of' hx;refine Aw (congrArg (λs=>al (V.d (.str s))) QQ) (Aw (Gl (Bg rfl rfl) (hm _ _)) ?_);have hL:=Ua c 5;generalize Du c 5=L at hL;have h12:=Ba L (j:=12) (by decide);have h36:=Ba L (j:=36) (by decide);refine Aw (Rq (λi=>sg ((Du c i).fmod 36)) (A8 (Ae rfl (Ae rfl rfl (AW (by decide))) rfl)) (by have:=h12.2;omega) (by have:=h12.1;omega) (λi _ _=>by have h:=Ba (Du c i) (j:=36) (by decide);exact Ad rfl (Ae (Gl (Bg rfl rfl) (hm _ _)) rfl (AW (by decide))) (Ph h.1 h.2))) ?_
 have hf:Bq ((List.range (1+L.fmod 12).toNat).map λj:Nat=>sg ((Du c j).fmod 36))=true:=Sl _ (λj=>(Du c j).fmod 36) (by have:=h12.1;omega) (by have:=h12.1;have:=h12.2;omega) (λj=>Ba _ (by decide));generalize((List.range (1+L.fmod 12).toNat).map λj:Nat=>sg ((Du c j).fmod 36))=f at hf;let K:List Nat->Option V->Am:=λf z=>[al (vi c),al x,al (vs EX),al (vi L),al (vs f),az,z]
 let M:Am->Ac->Prop:=λJ U'=>(∃f z,Bq f=true/\J=K f z)/\U=U';refine Dw (M:=M) ?_ ?_
 ·refine AC (Aj (Ae rfl rfl (AW (by decide))) rfl B8) (λh=>?_) (λh=>?_)
  ·have hx:=Ba L (j:=130) (by decide);exact Aw (AZ (A8 (Ae rfl rfl (AW (by decide)))) (Mu hx.1 hx.2)) (Ab (Ab (Az _ rfl (DN _ az (NF _ (LS hx.1 hx.2)) rfl) rfl)))
  ·exact Ab (Ab (Az _ rfl (DN f az hf rfl) rfl))
 intro q_u0 q_u1 q_r1;obtain⟨⟨f,z,hf,rfl⟩,rfl⟩:=q_r1;refine Dw (M:=M) ?_ ?_
 ·refine AC (BC (Aj (Ae rfl rfl (AW (by decide))) rfl B8) λ_=>htr) (λh=>?_) (λh=>?_)
  ·have hne:tk≠[]:=by intro e;rw[e] at h;simp at h
   have hlast:=List.getLast?_eq_some_getLast hne;have hgl:=(Cl _).mp (hg _ (List.getLast_mem hne));generalize tk.getLast hne=u at hlast hgl;rw[List.getLast?_eq_getElem?] at hlast;refine Aw (Ae (x:=vs (u.take 11)) ?_ (Ad rfl (Ae rfl rfl (AW (by decide))) (Ph h36.1 h36.2)) (LP _ _ (Uk (j:=0) hgl.2.1).2)) (Ab (Ab (Az _ rfl (DN _ z ?_ rfl) rfl)))
   ·rw[Tb,Ad rfl rfl ((Tn hx).trans (TS (by rw[AAB,ABI,hlast];rfl))),bs];exact Tz (U:=U) 11
   ·rw[Cl];refine⟨by simp,by simp;exact Nat.min_le_left _ _,?_⟩;intro x hx;simp only[AA0,AAJ] at hx;rcases hx with hx|rfl
    ·exact hgl.2.2 x (ACN hx)
    ·exact Pn _ h36.1 h36.2
  ·exact Ab (Ab (Az _ rfl (DN f z hf rfl) rfl))
 clear hf f z;intro q_u0 q_u1 q_r2;obtain⟨⟨f,z,hf,rfl⟩,rfl⟩:=q_r2;refine Dw (M:=M) ?_ ?_
 ·refine AC (BC (Aj (Ae rfl rfl (AW (by decide))) rfl MV) λ_=>htr) (λh=>?_) (λh=>?_)
  ·have hne:tk≠[]:=by intro e;rw[e] at h;simp at h
   have hpos:=List.length_pos_iff.mpr hne;have hlt:=Ba L (Int.ofNat_le.mpr ‹_›);obtain⟨u,hu⟩:∃u,tk[(L.fmod tk.length).toNat]? = al u:=⟨_,AAN (LS hlt.1 hlt.2)⟩
   have hgu:=(Cl _).mp (hg u (AA5 hu));refine Aw (Ad rfl (Ae rfl (AZ (A8 rfl) hlen) (AW (RD hpos))) ((Tn hx).trans (Px _ hlt.1 (VM hlt.2 (ACJ hl) rfl) (by rw[ABI,hu];rfl)))) ?_;have hat:=Ba (L.fdiv 60) (YX hgu);refine Aw (Ae (Ae rfl rfl (CC (by decide))) (AZ (A8 rfl) NU) (AW (Int.ne_of_gt (YX hgu)))) ?_;generalize(L.fdiv 60).fmod u.length=a at hat;have hs:=Ba (L.fdiv 720) (j:=36) (by decide);refine Aw (Ae (Ae (x:=vs (u.take a.toNat)) ?_ (Ad rfl (Ae (Ae rfl rfl (CC (by decide))) rfl (AW (by decide))) (Ph hs.1 hs.2)) (LP _ _ (Uk (j:=0) hgu.2.1).2)) (y:=vs (u.drop (a+1).toNat)) ?_ (LP _ _ (Uk hgu.2.1).1)) (Ab (Ab (Az _ rfl (DN _ (al (vi a)) ?_ rfl) rfl)))
   ·exact ZZ (U:=U) hat.1
   ·exact T0 (U:=U) (Int.add_nonneg hat.1 (AAG rfl))
   ·rw[Cl];refine⟨(nm4 hgu.2.1 hat.1 hat.2).1,(nm4 hgu.2.1 hat.1 hat.2).2,?_⟩;intro x hx;simp only[AA0,AAJ] at hx;rcases hx with(hx|rfl)|hx
    ·exact hgu.2.2 x (ACN hx)
    ·exact Pn _ hs.1 hs.2
    ·exact hgu.2.2 x (AC1 hx)
  ·exact Ab (Ab (Az _ rfl (DN f z hf rfl) rfl))
 clear hf f z;intro q_u0 q_u1 q_r3;refine oA q_r3 λq_0 q_1=>?_;obtain⟨f,z,hf,rfl⟩:=q_0;subst q_1;refine AC (Aj rfl rfl (by rw[IH,UH hx];rfl)) (λh=>?_) (λh=>Ab ?_)
 ·exact AB rfl ⟨f,hf,by simpa using h,rfl,rfl⟩
 ·have hc:(ev C.O (.D (.bi .str (.cons (.N 5) .nil)) [5] (.range (.cons (.B .Add (.bi .len (.cons (.N 1) .nil)) (.cst (.int 1))) .nil)) (.cons (.C .NotIn (.bi .str (.cons (.N 5) .nil)) (.N 1)) .nil))).v (K f z) U=al (.d (.list (((List.range ((tk.length:Int)+1).toNat).filter λj=>!decide (num j∈tk)).map λj=>.str (Tx (num j))))):=by
   refine Ih ?_;rw[Ed (λj:Nat=>vi (j:Int)) (λj=>!decide (num j∈tk)) (λj=>vs (num j)) (itr (A8 (Ae (AZ (A8 rfl) hlen) rfl rfl)) (by omega) (by omega)) (ABV▸AAC (show((tk.length:Int)+1).toNat<=101 by exact VR hl rfl) (by decide)) (λj hj=>?_) (λj hj _=>?_),AAE]
   ·rfl
   ·have hj:=ABZ.mp hj;exact EZ (Aj (AZ (A8 rfl) (Mu (AB9 _) (by omega))) rfl (IH▸(UH hx)▸rfl))
   ·have hj:=ABZ.mp hj;exact AZ (A8 rfl) (Mu (AB9 _) (by omega))
  refine oEA (TR tk (ABT hl (by decide))) λj hj1 hj2=>?_;have hmem:j∈(List.range ((tk.length:Int)+1).toNat).filter λj=>!decide (num j∈tk):=AA4.mpr ⟨ABZ.mpr (Nat.lt_succ_of_le ‹_›),by simpa using hj2⟩;cases hfl:(List.range ((tk.length:Int)+1).toNat).filter λj=>!decide (num j∈tk) with
  |nil=>rw[hfl] at hmem;cases hmem
  |cons i rest =>
   have hi:i∈(List.range ((tk.length:Int)+1).toNat).filter λj=>!decide (num j∈tk):=by rw[hfl];exact .head _
   have hi:=AA4.mp hi;rw[hfl] at hc;exact AB (Ad hc rfl (Eg 0 (by decide) (by decide) rfl)) (Hv (num i) (NF i (by have:=ABZ.mp hi.1;exact(by omega))) (by simpa using hi.2) rfl rfl)
theorem Rh(c:Int)(tk:List (List Nat))(hx:AE U x=al (tk.map vs))(hg:∀x∈tk,Bq x=true)(hl:tk.length<100):∃r,Bq r=true/\r∉tk/\FN 3 11 [vi c,x] U (vs r) U:=by refine Bb (FN.ends (C:=C1 2 (AAL _)) (f:=11) (R:=λv U'=>∃r,Bq r=true/\r∉tk/\v=vs r/\U'=U) (h:=T7 (λ_ _=>rfl) c tk hx hg hl)) λv U' q_2 h=>Lw q_2 λr h1 h2 h3 h4=>?_;rw[h3,h4] at h;exact Az r h1 h2 h
noncomputable def Y5:List Nat:=[32,33,34,35,36,38,39,40,41,42,43,44,45,46,47,48,49,50,51,52,53,54,55,56,57,58,59,60,61,62,63,64,65,66,67,68,69,70,71,72,73,74,75,76,77,78,79,80,81,82,83,84,85,86,87,88,89,90,91,92,93,94,95,96]
noncomputable def Y4:List Nat:=[97,98,99,100,101,102,103,104,105,106,107,108,109,110,111,112,113,114,115,116,117,118,119,120,121,122,123,124,125,126]
noncomputable def Lo:List Nat:=Y5++Y4
theorem Xw:ACG " !\"#$&'()*+,-./0123456789:;<=>?@ABCDEFGHIJKLMNOPQRSTUVWXYZ[\\]^_`" = Tx Y5:=by decide +kernel
theorem Xv:ACG "abcdefghijklmnopqrstuvwxyz{|}~" = Tx Y4:=by decide +kernel
theorem gR:ACG ": " = Tx [58,32]:=by decide +kernel
noncomputable def so(i:Int):Nat:=Lo.getD i.toNat 0
theorem Y6(i:Int)(h0:0<=i)(h:i<94):Lo[i.toNat]? = al (so i):=by have:i.toNat<Lo.length:=Int.toNat_lt h0 |>.mpr h;simp[so,List.getD,this]
theorem WB:∀x∈Lo,32<=x/\x<=126:=by decide +kernel
structure BE(l:List Nat):Prop where
 len:l.length<=200
 ok:∀x∈l,32<=x/\x<=126
theorem ZT(h0:0<=i)(h:i<94):BB (vs Lo) (vi i) U=al (vs [so i]):=R2 i h0 (IJ h rfl) (Y6 i h0 h)
theorem T8(c:Int):Al C (λfl U'=>∃l,BE l/\Ff fl=vs l/\U'=U) Wl.body (BN Wl [vi c]) U:=by
 refine Aw (congrArg (λs=>al (V.d (.str s))) Xw) (Aw (Ae rfl (congrArg (λs=>al (V.d (.str s))) Xv) (LP _ _ (dc rfl))) ?_);have h4:=Ba c (j:=4) (by decide);refine Aw (Ae rfl rfl (AW (by decide))) (Dw (M:=λJ U'=>(∃s:Int,0<=s/\s<=200/\J=[al (vi c),al (vs Lo),al (vi s),az,az])/\U=U') ?_ ?_)
 ·refine AC (Aj (Ae (Ae rfl rfl (CC (by decide))) rfl (AW (by decide))) rfl B8) (λh=>?_) (λh=>?_)
  ·have h5:=Ba (c.fdiv 36) (j:=201) (by decide);exact Aw (Ae (Ae rfl rfl (CC (by decide))) rfl (AW (by decide))) (Ab (Ab (Az _ rfl (Az _ h5.1 (VU h5.2 rfl) rfl) rfl)))
  ·exact Ab (Ab (Az _ rfl (Az _ h4.1 (VU h4.2 rfl) rfl) rfl))
 rintro _ _ ⟨⟨s,hs0,hs1,rfl⟩,rfl⟩;have h5:=Ba c (j:=5) (by decide);refine Aw (Rq (λi=>so ((c.fdiv 7+i*(1+c.fmod 5)).fmod 94)) rfl (OI hs1 rfl) (OH hs0 rfl) (λi _ _=>by have h:=Ba (c.fdiv 7+i*(1+c.fmod 5)) (j:=94) (by decide);exact Ad rfl (Ae (Ae (Ae rfl rfl (CC (by decide))) (Ae rfl (Ae rfl (Ae rfl rfl (AW (by decide))) rfl) (LO (smr (Zx h5.1 rfl) (by have:=h5.2;omega)))) rfl) rfl (AW (by decide))) (ZT h.1 h.2))) ?_
 have hf1:((List.range s.toNat).map λj:Nat=>so ((c.fdiv 7+j*(1+c.fmod 5)).fmod 94)).length=s.toNat:=by simp
 have hf2:∀x∈((List.range s.toNat).map λj:Nat=>so ((c.fdiv 7+j*(1+c.fmod 5)).fmod 94)),32<=x/\x<=126:=by intro x hx;refine oEA (AAP.mp hx) λj _ q_2=>?_;subst q_2;have h:=Ba (c.fdiv 7+j*(1+c.fmod 5)) (j:=94) (by decide);exact WB _ (AA5 (Y6 _ h.1 h.2))
 generalize((List.range s.toNat).map λj:Nat=>so ((c.fdiv 7+j*(1+c.fmod 5)).fmod 94))=f at hf1 hf2;refine AC (BC (Aj (Ae (Ae rfl rfl (CC (by decide))) rfl (AW (by decide))) rfl B8) (λ_=>rfl)) (λh=>?_) (λh=>Ab ?_)
 ·simp only[ACW,decide_eq_true_eq] at h;refine AB (Ae (Ae (Tz (U:=U) 1) (congrArg (λs=>al (V.d (.str s))) gR) (LP _ _ (by simp[line];lia))) (Qw (U:=U) 1) (LP _ _ (by simp[line];lia))) ⟨_,⟨by simp;omega,?_⟩,rfl,rfl⟩;intro x hx;simp only[AA0,AAR,AA1,or_false] at hx;rcases hx with(hx|rfl|rfl)|hx
  ·exact hf2 x (ACN hx)
  ·decide
  ·decide
  ·exact hf2 x (AC1 hx)
 ·exact AB rfl (Az f ⟨by exact(hf1▸OC hs1 rfl),hf2⟩ rfl rfl)
theorem CZ(x:PyData)(m:Nat):low m (.d x):=trivial
theorem MP(c:Int):∃l,BE l/\∀U,FN 2 12 [vi c] U (vs l) U:=by refine Bb (FN.ends (C:=C0 1) (f:=12) (R:=λv U'=>∃l,BE l/\v=vs l/\U'=[]) (h:=T8 c)) λv U' q_2 h=>?_;obtain⟨l,h1,h2,h3⟩:=q_2;rw[h2,h3] at h;exact iEA l h1 (λU=>h.any (af (CZ _ _) Ah))
noncomputable def NT(c:Int):List Nat:=Classical.choose (MP c)
theorem Ul(c:Int):BE (NT c):=(ADM (MP c)).1
theorem Um(c:Int)(U:Ac):FN 2 12 [vi c] U (vs (NT c)) U:=(ADM (MP c)).2 U
noncomputable def gW(g:Int->V)(xs:List V):Option V:=match xs with|x::r=>(match r with|[]=>(CV x).bind λc=>al (g c)|_=>az)|[]=>az
theorem X4(hf:∀c,FN n f [vi c] U (g c) U)(h:gW g xs=al v):FN n f xs U v U:=by
 match xs,h with
 |[],h=>exact Aa h
 |[x],h =>
  exact oEA (ae h) λc e1 h=>(BF e1)▸(AAA h)▸hf c
 |_::_::_,h=>exact Aa h
noncomputable def C2(n:Nat)(hn:2<=n):Cfg:=(C1 n hn).add 12 (λxs _=>gW (λc=>vs (NT c)) xs) λ_ U _ h=>X4 (λc=>(Um c U).more hn) h
end Mine.Internal
namespace Mine.Internal
set_option tactic.hygienic true
noncomputable def Da:List Nat:=[97,100,100]
noncomputable def Ho:List Nat:=[115,101,116]
set_option genInjectivity true in
structure AK where
 word:List Nat
 mark:Option (List Nat×Int)
 text:Option (List Nat)
noncomputable abbrev Ch:=List Nat×List (List Nat)×List AK
noncomputable abbrev Mk:=List Nat×Int
noncomputable def aft(m x:Mk):List Mk->List Mk
 |[]=>[x]
 |y::r=>if y=m then y::x::r else y::aft m x r
theorem dU(m x:Mk)(r:List Mk):aft m x (m::r)=m::x::r:=if_pos rfl
theorem dT(h:y≠m):aft m x (y::r)=y::aft m x r:=if_neg h
noncomputable def JU(o:Option Mk)(x:Mk)(r:List Mk):List Mk:=match o with|none=>x::r|some m=>aft m x r
noncomputable def AF(d:AK):Bool:=decide (d.word=Da)
noncomputable def adds:List AK->Nat
 |[]=>0
 |d::ds=>(if AF d then 1 else 0)+adds ds
noncomputable def HY(nm:List Nat):List AK->Nat->List Mk->List Mk
 |[],_,r=>r
 |d::ds,k,r=>if AF d then HY nm ds (k+1) (JU d.mark (nm,(k:Int)) r) else HY nm ds k r
noncomputable def Ju:List Ch->List Mk->List Mk
 |[],r=>r
 |c::cs,r=>Ju cs (HY c.1 c.2.2 0 r)
noncomputable def Hg(nm:List Nat)(k:Nat):Nat->List Mk
 |0=>[]
 |n+1=>(nm,(k:Int))::Hg nm (k+1) n
theorem DJ:m∈Hg nm k n↔m.1=nm/\(k:Int)<=m.2/\m.2<(k:Int)+n:=by
 induction n generalizing k with
 |zero =>
  refine⟨λh=>(nomatch h),λh=>?_⟩;have h1:=h.2.1;exact absurd h.2.2 (by simp;(with_reducible assumption))
 |succ n ih =>
  obtain⟨a,b⟩:=m;simp only[Hg,AAR,ih,Prod.mk.injEq];constructor
  ·rintro(⟨rfl,rfl⟩|⟨rfl,h1,h2⟩)
   ·exact⟨rfl,by lia,by exact kH⟩
   ·exact⟨rfl,by exact Int.le_of_lt ‹_›,by exact kL h2⟩
  ·rintro⟨rfl,h1,h2⟩;by_cases e:b=k
   ·exact .inl ⟨rfl,e⟩
   ·exact .inr ⟨rfl,by exact kI h1 e,by exact kK h2⟩
theorem VX(m x:Mk)(r:List Mk):(aft m x r).Perm (x::r):=by
 induction r with
 |nil=>exact .refl _
 |cons y r ih =>
  unfold aft;split
  ·exact .swap ..
  ·exact(ih.cons y).trans (.swap ..)
theorem Ew(o:Option Mk)(x:Mk)(r:List Mk):(JU o x r).Perm (x::r):=by
 cases o with
 |none=>exact .refl _
 |some m=>exact VX m x r
theorem Sd(nm:List Nat)(ds:List AK)(k:Nat)(r:List Mk):(HY nm ds k r).Perm (Hg nm k (adds ds)++r):=by
 induction ds generalizing k r with
 |nil=>exact .refl _
 |cons d ds ih =>
  unfold HY adds;split
  ·rw[AC9 1];exact(ih (k+1) _).trans (((Ew ..).append_left _).trans List.perm_middle)
  ·rw[AC2];exact ih k r
theorem Js(cs:List Ch)(r:List Mk):(Ju cs r).Perm ((cs.flatMap λc=>Hg c.1 0 (adds c.2.2))++r):=by
 induction cs generalizing r with
 |nil=>exact .refl _
 |cons c cs ih =>
  refine(ih _).trans (((Sd c.1 c.2.2 0 r).append_left _).trans ?_);rw[List.flatMap_cons,<-ABQ];exact(List.perm_append_comm).append_right _
noncomputable def Iy(q:Mk->Bool)(nm:List Nat):List AK->Nat->List Mk->Prop
 |[],_,_=>True
 |d::ds,k,r=>if AF d then(∀m,d.mark=al m->q m=true/\m∈r)/\Iy q nm ds (k+1) (JU d.mark (nm,(k:Int)) r) else Iy q nm ds k r
noncomputable def DOk(nm:List Nat)(ms:List Mk):List AK->Nat->Prop
 |[],_=>True
 |d::ds,k=>(∀m,d.mark=al m->m∈ms\/(m.1=nm/\0<=m.2/\m.2<(k:Int)))/\DOk nm ms ds (if AF d then k+1 else k)
theorem dA(ds:List AK)(k:Nat)(r:List Mk)(h:DOk nm ms ds k)(hq:∀m∈ms,q m=true)(hn:∀i:Int,q (nm,i)=true)(hm:∀m∈ms,m∈r)(ho:∀m:Mk,m.1=nm->0<=m.2->m.2<(k:Int)->m∈r):Iy q nm ds k r:=by
 induction ds generalizing k r with
 |nil=>exact trivial
 |cons d ds ih =>
  unfold DOk at h;unfold Iy;split
  ·rename_i e
   rw[if_pos e] at h;have sub:∀m,m∈r->m∈JU d.mark (nm,(k:Int)) r:=λm hm=>(Ew ..).mem_iff.mpr (.tail _ hm);refine⟨λm e1=>?_,ih (k+1) _ h.2 (λm hm'=>sub m (hm m hm')) λm h1 h2 h3=>?_⟩
   ·rcases h.1 m e1 with h2|h2
    ·exact⟨hq m h2,hm m h2⟩
    ·obtain⟨a,b⟩:=m;have:a=nm:=h2.1;subst this;exact⟨hn b,ho _ rfl h2.2.1 h2.2.2⟩
   ·by_cases e2:m.2=(k:Int)
    ·obtain⟨a,b⟩:=m;have q1:a=nm:=h1;have q2:b=(k:Int):=e2;exact q1▸q2▸(Ew ..).mem_iff.mpr (.head _)
    ·exact sub m (ho m h1 h2 (kJ h3 e2))
  ·rename_i e
   rw[if_neg e] at h;exact ih k r h.2 hm ho
section
variable{κ β:Type}[DecidableEq κ]{h t:List (κ×β)}{k:κ}{v:β}
theorem Bp(q:κ×β)(h:List (κ×β))(k:κ):Aq (q::h) k=if q.1=k then al q.2 else Aq h k:=by
 unfold Aq;rw[List.find?_cons];by_cases e:q.1=k
 ·exact(AAI e)▸(if_pos e)▸rfl
 ·rw[AAT e,if_neg e]
theorem Kb(e:Aq h k=al v):Aq (h++t) k=al v:=by
 induction h with
 |nil=>cases e
 |cons q h ih =>
  rw[List.cons_append,Bp] at *;split at e
  ·rename_i q1;rw[if_pos q1];exact e
  ·rename_i q1;rw[if_neg q1];exact ih e
theorem Gf(e:Aq h k=az):Aq (h++t) k=Aq t k:=by
 induction h with
 |nil=>rfl
 |cons q h ih =>
  rw[Bp] at e;rw[List.cons_append,Bp];split at e
  ·cases e
  ·rename_i q1;rw[if_neg q1];exact ih e
theorem D9:Aq h k=az↔k∉h.map (·.1):=by
 induction h with
 |nil=>simp[Aq]
 |cons q h ih =>
  rw[Bp,ABP,AAR];by_cases e:q.1=k
  ·exact(if_pos e)▸⟨(λq=>by cases q),λq=>(q (.inl e.symm)).elim⟩
  ·rw[if_neg e,ih];exact⟨λq1 q2=>q2.elim (λq3=>e q3.symm) q1,λq1 q2=>q1 (.inr q2)⟩
theorem AJ:(∃v,Aq h k=al v)↔k∈h.map (·.1):=by
 cases e:Aq h k with
 |none=>exact⟨(λ⟨v,q⟩=>by cases q),λq=>(D9.mp e q).elim⟩
 |some v =>
  refine⟨λ_=>?_,λ_=>⟨v,rfl⟩⟩;by_cases q:k∈h.map (·.1)
  ·exact q
  ·rw[D9.mpr q] at e;cases e
theorem Kc{p:κ->Bool}(hk:p k=true):Aq (h.filter λq=>p q.1) k=Aq h k:=by
 induction h with
 |nil=>rfl
 |cons q h ih =>
  by_cases e:p q.1=true
  ·rw[ADQ (by exact e),Bp,Bp,ih]
  ·rw[List.filter_cons_of_neg (by exact e),Bp,ih,if_neg λq1=>e (by rw[q1];exact hk)]
theorem HK:(h.any λp=>p.1=k)=(Aq h k).isSome:=by
 induction h with
 |nil=>rfl
 |cons q h ih =>
  rw[List.any_cons,Bp,ih];by_cases e:q.1=k
  ·exact(if_pos e)▸(AAI e)▸rfl
  ·exact(if_neg e)▸(AAT e)▸rfl
theorem He(e:Aq h k=az):BX h k v=h++[(k,v)]:=by unfold BX;rw[HK,e];rfl
theorem Fw(k':κ):k'∈(BX h k v).map (·.1)↔k'=k\/k'∈h.map (·.1):=by
 unfold BX;rw[HK];cases e:Aq h k with
 |none=>simp[or_comm]
 |some d =>
  have q1:(h.map λp=>if p.1=k then(p.1,v) else p).map (·.1)=h.map (·.1):=by rw[AAE];refine AC8 λp _=>?_;show(if p.1=k then(p.1,v) else p).1=p.1;split<;>rfl
  show k'∈(h.map λp=>if p.1=k then(p.1,v) else p).map (·.1)↔_;rw[q1];exact⟨.inr,λq=>q.elim (λq=>q▸(AJ.mp ⟨d,e⟩)) id⟩
end
theorem LA(l:List Int)(x:Int):x<=l.foldl (λa b=>if a<b then b else a) x/\∀y∈l,y<=l.foldl (λa b=>if a<b then b else a) x:=by
 induction l generalizing x with
 |nil=>exact⟨Int.le_refl _,λy h=>by cases h⟩
 |cons z l ih =>
  have h:=ih (if x<z then z else x);rw[List.foldl_cons];have hx:x<=(if x<z then z else x)/\z<=(if x<z then z else x):=by split<;>lia
  refine⟨Int.le_trans hx.1 h.1,λy hy=>?_⟩;rcases AAR.mp hy with rfl|hy
  ·exact Int.le_trans hx.2 h.1
  ·exact h.2 y hy
theorem Ud(z:Int)(l:List Int):∀y∈l,y<=EY z l:=by
 cases l with
 |nil=>intro y h;cases h
 |cons x r =>
  intro y hy;rcases AAR.mp hy with rfl|hy
  ·exact(LA r y).1
  ·exact(LA r x).2 y hy
abbrev Gsl:=List (List Nat×Int)
noncomputable def hv(h:Gsl)(ls:List (List Nat)):Int:=EY 0 (ls.map λl=>(Aq h l).getD 0+1)
noncomputable def hts:Gsl->List Ch->Gsl
 |h,[]=>h
 |h,c::cs=>hts (h++[(c.1,hv h c.2.1)]) cs
noncomputable def hgt(cs:List Ch)(n:List Nat):Int:=(Aq (hts [] cs) n).getD 0
theorem Hw(h:Gsl)(a b:List Ch):hts h (a++b)=hts (hts h a) b:=by
 induction a generalizing h with
 |nil=>rfl
 |cons c a ih=>exact ih _
theorem Cm(h:Gsl)(cs:List Ch):(hts h cs).map (·.1)=h.map (·.1)++cs.map (·.1):=by
 induction cs generalizing h with
 |nil=>simp[hts]
 |cons c cs ih=>rw[hts,ih];simp
theorem ME(e:Aq h k=al v):Aq (hts h cs) k=al v:=by
 induction cs generalizing h with
 |nil=>exact e
 |cons c cs ih=>exact ih (Kb e)
theorem JX(p:List Nat->Bool)(h:Gsl)(cs:List Ch)(hc:∀c∈cs,p c.1=true->∀l∈c.2.1,p l=true) :
 hts (h.filter λq=>p q.1) (cs.filter λc=>p c.1)=(hts h cs).filter λq=>p q.1:=by
 induction cs generalizing h with
 |nil=>rfl
 |cons c cs ih =>
  have hc':=λd hd=>hc d (List.mem_cons_of_mem _ hd);by_cases e:p c.1=true
  ·rw[ADQ (by exact e),hts,hts,<-ih _ hc',ABN,ADQ (by exact e),List.filter_nil];congr 4;unfold hv;congr 1;exact AC8 λl hl=>by rw[Kc (hc c (.head _) e l hl)]
  ·rw[List.filter_cons_of_neg (by exact e),hts,<-ih _ hc',ABN,List.filter_cons_of_neg (by exact e),List.filter_nil,AAV]
theorem GG{p:List Nat->Bool}{cs:List Ch}(hc:∀c∈cs,p c.1=true->∀l∈c.2.1,p l=true){n:List Nat}(hn:p n=true):hgt (cs.filter λc=>p c.1) n=hgt cs n:=by unfold hgt;have:=JX p [] cs hc;rw[List.filter_nil] at this;rw[this,Kc hn]
noncomputable def C6(pre:List Ch)(ls:List (List Nat)):List Mk:=(pre.filter λc=>decide (c.1∈ls)).flatMap λc=>Hg c.1 0 (adds c.2.2)
structure AR(cs:List Ch):Prop where
 nd:(cs.map (·.1)).Nodup
 ok:∀pre c post,cs=pre++c::post->(∀l∈c.2.1,l∈pre.map (·.1))/\DOk c.1 (C6 pre c.2.1) c.2.2 0
theorem AR.filter{cs:List Ch}(H:AR cs){p:List Nat->Bool}(hc:∀c∈cs,p c.1=true->∀l∈c.2.1,p l=true):AR (cs.filter λc=>p c.1):=by
 refine⟨(List.Sublist.map _ List.filter_sublist).nodup H.nd,λpre c post e=>?_⟩;refine Br (ACB.mp e) λa b e1 q_3 e2=>?_;subst q_3;refine G9 (ACC.mp e2) λa' b' e3 e4 e5 q_5=>?_;subst q_5;have e6:cs=(a++a')++c::b':=by rw[e1,e3,ABQ]
 refine oA (H.ok _ _ _ e6) λh1 h2=>?_;have hp:=hc c (by rw[e6];simp) e5;have fa:(a++a').filter (λc=>p c.1)=a.filter λc=>p c.1:=by rw[ABN,List.filter_eq_nil_iff.mpr (λx hx=>e4 x hx),AAV]
 refine⟨λl hl=>?_,?_⟩
 ·refine oEA (AAP.mp (h1 l hl)) λd hd q_2=>?_;subst q_2;exact fa▸AAZ (AA4.mpr ⟨hd,hp _ hl⟩)
 ·have:C6 (a.filter λc=>p c.1) c.2.1=C6 (a++a') c.2.1:=by
   unfold C6;rw[<-fa,AB2];congr 1;refine List.filter_congr λx _=>?_;by_cases q:x.1∈c.2.1
   ·rw[hp _ q,AAI q];rfl
   ·exact(AAT q)▸rfl
  exact this▸h2
theorem AR.lower(H:AR cs)(hc:c∈cs)(hl:l∈c.2.1):hgt cs l<hgt cs c.1:=by
 refine oEE (ACA hc) λpre post e=>oA (H.ok _ _ _ e) λh1 _=>?_;have hk:=Cm [] pre;refine oE (AJ.mpr (show l∈(hts [] pre).map (·.1) by rw[hk];exact AA0.mpr (.inr (h1 l hl)))) λv hv'=>?_;have hnew:Aq (hts [] pre) c.1=az:=by refine D9.mpr ?_;rw[hk];have hn:=H.nd;rw[e,AAQ,ABW] at hn;exactλq=>hn.2.2 c.1 (by simpa using q) c.1 (.head _) rfl
 have a1:Aq (hts [] cs) l=al v:=by rw[e,Hw];exact ME hv'
 have a2:Aq (hts [] cs) c.1=al (hv (hts [] pre) c.2.1):=by rw[e,Hw,hts];refine ME ?_;rw[Gf hnew,Bp,if_pos rfl]
 unfold hgt;rw[a1,a2];have:=Ud 0 (c.2.1.map λl=>(Aq (hts [] pre) l).getD 0+1) (v+1) (AAP.mpr (iEA l hl (hv'▸rfl)));unfold hv;exact Z4 this
def Bf(H:List Nat->Int)(a b:Ch):Prop:=H a.1<H b.1\/(H a.1=H b.1/\b.1<a.1)
structure Ma(H:List Nat->Int)(cs O:List Ch):Prop where
 perm:O.Perm cs
 bf:O.Pairwise (Bf H)
theorem Yj(H:List Nat->Int)(a b:Ch)(h:Bf H a b)(h':Bf H b a):False:=by
 rcases h with h|h<;>rcases h' with h'|h'
 ·exact Z6 h' h
 ·exact Z5 h h'.1
 ·exact Z5 h' h.1
 ·exact List.lt_irrefl _ (List.lt_trans h.2 h'.2)
theorem Ma.uniq{H:List Nat->Int}{cs O O':List Ch}(h:Ma H cs O)(h':Ma H cs O'):O=O':=CT (Yj H) h.bf h'.bf (h.perm.trans h'.perm.symm)
theorem WO{cs O:List Ch}(H:AR cs)(ho:Ma (hgt cs) cs O){A B:List Ch}{c:Ch}(e:O=A++c::B){q:Mk->Bool}(hq:∀m:Mk,m.1∈c.2.1->q m=true)(hn:∀i:Int,q (c.1,i)=true):Iy q c.1 c.2.2 0 (Ju A []):=by
 have hc:c∈cs:=ho.perm.mem_iff.mp (by rw[e];simp);refine oEE (ACA hc) λpre post e1=>oA (H.ok _ _ _ e1) λh1 h2=>?_;have lm:∀m∈C6 pre c.2.1,∃d∈pre,d.1∈c.2.1/\m∈Hg d.1 0 (adds d.2.2):=λm hm=>by refine oEA (List.mem_flatMap.mp hm) λd hd hm'=>?_;have:=AA4.mp hd;exact Az d this.1 (by simpa using this.2) hm'
 refine dA c.2.2 0 _ h2 (λm hm=>?_) hn (λm hm=>?_) λm _ h3 h4=>by exact(absurd h3 (Int.not_le.mpr h4))
 ·exact AS (lm m hm) λd _ h3 h4=>hq m (((DJ.mp h4).1)▸h3)
 ·refine AS (lm m hm) λd h3 h4 h5=>?_;have hd:=ho.perm.mem_iff.mpr (e1▸AAU _ h3);have low:=H.lower hc h4;have hA:d∈A:=by
   rw[e] at hd;rcases AA0.mp hd with hd|hd
   ·exact hd
   ·rcases AAR.mp hd with rfl|hd
    ·exact Z6 low low
    ·have hb:=ho.bf;rw[e,List.pairwise_append] at hb;rcases(ACS.mp hb.2.1).1 d hd with h6|h6<;>omega
  have:=Js A [];rw[AAV] at this;exact this.mem_iff.mpr (List.mem_flatMap.mpr (iEA d hA h5))
open PySem
set_option tactic.hygienic false
theorem DM:ACG "add" = Tx Da:=by decide +kernel
noncomputable def Gj:List Nat:=[99,117,116]
theorem Ob:ACG "cut" = Tx Gj:=by decide +kernel
theorem ID:ACG "set" = Tx Ho:=by decide +kernel
theorem cG:Ho≠Da:=by decide
theorem cF:Gj≠Da:=by decide
theorem Xq:Gj≠Ho:=by decide
noncomputable def AD(o:Option Mk):PyData:=match o with|none=>.none|some m=>.tuple [.str (Tx m.1),.int m.2]
noncomputable abbrev vm(m:Mk):V:=.d (AD (al m))
noncomputable abbrev dms(ms:List Mk):PyData:=.list (ms.map λm=>AD (al m))
noncomputable def AK.data(d:AK):PyData:=.tuple (.str (Tx d.word)::AD d.mark::(match d.text with|none=>[]|some l=>[.str (Tx l)]))
noncomputable abbrev dds(ds:List AK):PyData:=.list (ds.map AK.data)
noncomputable def Ch.data(c:Ch):PyData:=.tuple [.str (Tx c.1),dl c.2.1,dds c.2.2]
noncomputable abbrev vc(c:Ch):V:=.d (Ch.data c)
theorem BQ(d:AK):BB (.d d.data) (vi 0) U=al (vs d.word):=by unfold AK.data;cases d.text<;>rfl
theorem CM(d:AK):BB (.d d.data) (vi 1) U=al (.d (AD d.mark)):=by unfold AK.data;cases d.text<;>rfl
theorem El(d:AK)(h:d.text=al l):BB (.d d.data) (vi 2) U=al (vs l):=by unfold AK.data;rw[h];rfl
theorem AM(c:Ch):BB (vc c) (vi 0) U=al (vs c.1):=rfl
theorem Dq(c:Ch):BB (vc c) (vi 1) U=al (.d (dl c.2.1)):=rfl
theorem CW(c:Ch):BB (vc c) (vi 2) U=al (.d (dds c.2.2)):=rfl
theorem X3(m:Option Mk):BH .Is (.d (AD m)) (.d .none) U=al m.isNone:=by cases m<;>rfl
theorem Hr(m:Option Mk):BH .IsNot (.d (AD m)) (.d .none) U=al (!m.isNone):=by cases m<;>rfl
structure BU(d:AK):Prop where
 shp:(d.word=Da/\∃l,d.text=al l/\BE l)\/(d.word=Ho/\∃m l,d.mark=al m/\d.text=al l/\BE l)\/(d.word=Gj/\∃m,d.mark=al m)
 ctx:d.word=Gj->d.text=az
theorem Jg:∀ds:List AK,(ds.filter λd=>decide (d.word=Da)).length=adds ds
 |[]=>rfl
 |d::ds=>by
  rw[List.filter_cons];show _=(if AF d then 1 else 0)+adds ds;rw[<-Jg ds];unfold AF;split
  ·rw[AA2,AC9]
  ·rw[AC2]
theorem Jf(ds:List AK):adds ds<=ds.length:=by rw[<-Jg];exact AAX _ _
theorem Dp:∀(ds:List AK) (d:AK),adds (ds++[d])=adds ds+(if AF d then 1 else 0)
 |[],d=>by show(if AF d then 1 else 0)+0=0+_;rw[AC9]
 |e::ds,d=>by show(if AF e then 1 else 0)+adds (ds++[d])=(if AF e then 1 else 0)+adds ds+_;rw[Dp ds d,ADK]
theorem KJ:∀(ds:List AK) (k:Nat),DOk nm ms ds k->(∀m,d.mark=al m->m∈ms\/(m.1=nm/\0<=m.2/\m.2<((k+adds ds:Nat):Int)))->DOk nm ms (ds++[d]) k
 |[],k,_,h=>⟨h,trivial⟩
 |e::ds,k,⟨h1,h2⟩,h=>by
  refine⟨h1,KJ ds _ h2 λm hm=>?_⟩;have:=h m hm;have e1:(if AF e then k+1 else k)+adds ds=k+adds (e::ds):=by show _=k+((if AF e then 1 else 0)+adds ds);split<;>omega
  exact e1▸this
theorem BT{α:Type}(l:List α):l.filter (λ_=>true)=l:=List.filter_eq_self.mpr λ_ _=>rfl
section
variable{O:Orc}{J:Am}{m:Int}
theorem Ru(g:Int->PyData)(hi:(ev O es).row J U=al [vi m])(h0:0<=m)(hl:m<=1000000)
 (hg:∀i:Int,0<=i->i<m->(ev O elt).v ((J.set t az).set t (al (vi i))) U=al (.d (g i))):(ev O (.D elt [t] (.range es) .nil)).v J U=al (.d (.list ((List.range m.toNat).map λj:Nat=>g (j:Int)))):=by
 refine Ih ?_;rw[Ed (λj:Nat=>vi (j:Int)) (λ_=>true) (λj:Nat=>.d (g (j:Int))) (itr hi hl (OH h0 rfl)) (ABV▸AY (show m.toNat<=1000000 by exact OC hl rfl) rfl) (λ_ _=>rfl) (λj hj _=>hg j (AB9 _) (by have:=ABZ.mp hj;exact Zl this)),BT,AAE];rfl
theorem CG{α:Type}{l:List α}(d:α->PyData)(p:α->Bool)(g:α->PyData)(ha:(ev O a).it J U=al (l.map λx=>.d (d x),[]))(hl:l.length<=line)(hp:∀x∈l,(ev O ifs).ts ((J.set t az).set t (al (.d (d x)))) U=al (p x))
 (hg:∀x∈l,p x=true->(ev O elt).v ((J.set t az).set t (al (.d (d x)))) U=al (.d (g x))):(ev O (.D elt [t] a ifs)).v J U=al (.d (.list ((l.filter p).map g))):=by
 exact Ih ((Ed (λx=>.d (d x)) p (λx=>.d (g x)) ha hl hp hg)▸AAE▸rfl)
theorem Bv{α:Type}{l:List α}{d:α->PyData}(h:(ev O e).v J U=al (.d (.list (l.map d))))(he:(ev O e).it J U=((ev O e).v J U).bind (GD U)):(ev O e).it J U=al (l.map λx=>.d (d x),[]):=by rw[he,h];show al ((l.map d).map V.d,[])=_;rw[AAE];rfl
end
theorem NB(t:List Nat)(k:Nat):((List.range k).map λj:Nat=>AD (al (t,(j:Int))))=((List.range k).map λj:Nat=>(t,(j:Int))).map λm=>AD (al m):=by rw[AAE];rfl
theorem Pv(nm:List Nat)(n k:Nat):Hg nm k n=(List.range n).map λj:Nat=>(nm,((k+j:Nat):Int)):=by
 induction n generalizing k with
 |zero=>rfl
 |succ n ih =>
  rw[List.range_succ_eq_map,ABP,AAE];show(nm,(k:Int))::Hg nm (k+1) n=_;rw[ih];congr 1;refine AC8 λj _=>?_;show(nm,((k+1+j:Nat):Int))=(nm,((k+(j+1):Nat):Int));rw[show k+1+j=k+(j+1) by exact(by omega)]
theorem FU(nm:List Nat)(n:Nat):Hg nm 0 n=(List.range n).map λj:Nat=>(nm,(j:Int)):=by rw[Pv];simp
theorem Va(c:Ch)(hd:c.2.2.length<=100):FN 2 14 [vc c] U (.d (dms (Hg c.1 0 (adds c.2.2)))) U:=by
 exact FN.same (C:=C0 1) (h:=by refine Aw (v:=vi (adds c.2.2)) (AZ (A8 (CG (O:=(C0 1).O) (J:=[al (vc c),az,az,az]) (U:=U) (elt:=.N 2) (t:=2) (a:=.aa (.N 0) (.i 2)) (ifs:=.cons (.C .Eq (.aa (.N 2) (.i 0)) (.s "add")) .nil) (l:=c.2.2) AK.data (λd=>decide (d.word=Da)) AK.data (Bv (Ad rfl rfl (CW c)) rfl) (AY hd rfl) (λd _=>EZ (Aj (Ad rfl rfl (BQ d)) (congrArg (λs=>al (V.d (.str s))) DM) EQ)) (λd _ _=>rfl))) (CO.trans (by rw[AAB,Jg]))) ?_;have hk:=Jf c.2.2;generalize adds c.2.2=k at hk;refine AB (Ru (λi=>AD (al (c.1,i))) rfl (AB9 _) (by omega) (λi _ _=>Cn (Bg (Ad rfl rfl (AM c)) rfl) rfl)) ⟨?_,rfl⟩;show V.d (.list ((List.range (k:Int).toNat).map λj:Nat=>AD (al (c.1,(j:Int)))))=_;rw[Int.toNat_natCast,NB,FU])
theorem QS{C:Cfg}{m:Int}(h:(ev C.O es).row J U=al [vi m])(h1:m<=1000000)(h2:-1000000<=m):C.it (.range es) J U=al ((List.range m.toNat).map (λj:Nat=>vi (j:Int)),[]):=itr h h1 h2
structure Wp(t:List Nat)(ms:List Mk)(p:Nat)(ds:List AK)(own:Nat):Prop where
 own:own=adds ds
 len:ds.length=p
 dok:DOk t ms ds 0
 ok:∀d∈ds,BU d
theorem Wp.snoc{t:List Nat}{ms:List Mk}{p:Nat}{ds:List AK}{own own':Nat}{d:AK}(h:Wp t ms p ds own)(ho:own'=own+(if AF d then 1 else 0))(hd:BU d)(hm:∀m,d.mark=al m->m∈ms\/(m.1=t/\0<=m.2/\m.2<(own:Int))):Wp t ms (p+1) (ds++[d]) own' :=
 ⟨by rw[ho,Dp,h.own],by rw[AAF,h.len];rfl,KJ ds 0 h.dok λm e=>by rw[AC2,<-h.own];exact hm m e,λe he=>by
  rcases AA0.mp he with he|he
  ·exact h.ok e he
  ·rw[AAJ.mp he];exact hd⟩
theorem Sc(hm:∀c k U,C.O 10 [vi c,vi k] U=al (vi (Du c k)))(hl:∀c U,C.O 12 [vi c] U=al (vs (NT c)))
 (t:List Nat) (c many:Int) (ms:List Mk) (h0:0<=many) (h1:many<=100) (hml:ms.length<=10000) :
 Al C (λfl U'=>∃ds:List AK,ds.length=many.toNat/\DOk t ms ds 0/\(∀d∈ds,BU d)/\Ff fl=.ref 0/\U'=[.list (ds.map λd=>.d d.data)]) Qf.body (BN Qf [vs t,vi c,vi many,.d (dms ms)]) []:=by
 refine Cg rfl (Aw rfl ?_);let K:Nat->Option V->Option V->Option V->Option V->Option V->Option V->Option V->Am:=λown z6 z7 z8 z9 z10 z11 z12=>[al (vs t),al (vi c),al (vi many),al (.d (dms ms)),al (.ref 0),al (vi own),z6,z7,z8,z9,z10,z11,z12]
 refine Bk (λj:Nat=>vi (j:Int)) (λp J U=>∃ds own,Wp t ms p.length ds own/\(∃z6 z7 z8 z9 z10 z11 z12,J=K own z6 z7 z8 z9 z10 z11 z12)/\U=[.list (ds.map λd=>.d d.data)])
  (QS rfl (OI h1 rfl) (OH h0 rfl)) (Gw [] 0 ⟨rfl,rfl,trivial,λd h=>nomatch h⟩ (Hu az az az az az az az rfl) rfl) ?_ ?_
 ·intro p j q J U hp q_r1;refine Br q_r1 λds own D q_3 q_4=>?_;obtain⟨z6,z7,z8,z9,z10,z11,z12,rfl⟩:=q_3;subst q_4;have hpl:p.length<100:=by have:=congrArg List.length hp;rw[ABV,AAF,AA2] at this;exact Zj this h1 rfl
  have hdl:=D.len▸hpl;have hon:own<=100:=by rw[D.own];exact AAC (Jf ds) (ACJ hdl)
  have hll:(ds.map λd=>V.d d.data).length<line:=by rw[AAB];exact ABT hdl (dc rfl)
  have fin:∀(d:AK) (own':Nat) (J:Am),own'=own+(if AF d then 1 else 0)->BU d->(∀m,d.mark=al m->m∈ms\/(m.1=t/\0<=m.2/\m.2<(own:Int)))->(∃z6 z7 z8 z9 z10 z11 z12,J=K own' z6 z7 z8 z9 z10 z11 z12) ->
   ∃J',Fl.next J=.next J'/\∃ds' own,Wp t ms (p++[j]).length ds' own/\(∃z6 z7 z8 z9 z10 z11 z12,J'=K own z6 z7 z8 z9 z10 z11 z12)/\([O.list ((ds.map λd=>V.d d.data)++[V.d d.data])]:Ac)=[O.list (ds'.map λd=>V.d d.data)]:=λd own' J ho hd hm hρ =>
   ⟨J,rfl,ds++[d],own',by rw[AAF];exact D.snoc ho hd hm,hρ,by rw[AAQ];rfl⟩
  have hown:(ev C.O (.D (.tup (.t (.N 0) (.N 12))) [12] (.range (.o (.N 5))) .nil)).v (K own (al (vi j)) z7 z8 z9 z10 z11 z12) [.list (ds.map λd=>.d d.data)]=al (.d (dms ((List.range own).map λj:Nat=>(t,(j:Int))))):=by rw[Ru (λi=>AD (al (t,i))) rfl (AB9 _) (by omega) (λi _ _=>Cn (Bg rfl rfl) rfl),Int.toNat_natCast,NB]
  obtain⟨ks,hks,hks1,hks2⟩:∃ks:List Mk,C.v (.B .Add (.N 3) (.D (.tup (.t (.N 0) (.N 12))) [12] (.range (.o (.N 5))) .nil)) (K own (al (vi j)) z7 z8 z9 z10 z11 z12) [.list (ds.map λd=>.d d.data)]=al (.d (dms ks))/\(∀m∈ks,m∈ms\/(m.1=t/\0<=m.2/\m.2<(own:Int)))/\ks.length<=10100:=by
   refine(Az (ms++(List.range own).map (λj:Nat=>(t,(j:Int)))) (Ae rfl hown ((GK _ _ ?_).trans (by rw[<-AAQ]))) ?_ ?_)
   ·simp[line];exact RC hml hon rfl
   ·intro m hm;rcases AA0.mp hm with hm|hm
    ·exact .inl hm
    ·refine oEA (AAP.mp hm) λi hi q_2=>?_;subst q_2;have:=ABZ.mp hi;exact .inr ⟨rfl,AB9 i,by show(i:Int)<_;exact Int.ofNat_le.mpr ‹_›⟩
   ·simp;exact RC hml hon rfl
  refine Aw hks (Aw (Gl (Bg rfl rfl) (hm _ _ _)) ?_);generalize Du c j=L;have hat:=Ba (L.fdiv 5) (j:=(ks.length:Int)+1) (Z9);have hkl:∀U,Dd .len U [.d (dms ks)]=al (vi ks.length):=λU=>CO.trans (by rw[AAB]);refine Aw (Ae (Ae rfl rfl (CC (by decide))) (Ae (AZ (A8 rfl) (hkl _)) rfl rfl) (AW (ZA))) ?_;generalize(L.fdiv 5).fmod ((ks.length:Int)+1)=a at hat;refine Aw (Gl (A8 (Ae rfl rfl (CC (by decide)))) (hl _ _)) ?_;have hlo:=Ul (L.fdiv 365);generalize NT (L.fdiv 365)=l at hlo;have pick:∀i:Int,0<=i->i<ks.length->∃m,m∈ks/\∀U,BB (.d (dms ks)) (vi i) U=al (vm m):=λi i0 i1=>by
   obtain⟨m,hm1⟩:∃m,ks[i.toNat]? = al m:=⟨_,AAN (LS i0 i1)⟩
   exact iEA m (AA5 hm1) (λU=>Eg _ i0 (by omega) (by rw[ABI,hm1];rfl))
  refine AC (IG (Aj (Ae rfl rfl (AW (by decide))) rfl Lc) λ_=>rfl) (λh=>?_) (λh=>?_)
  ·refine Aw rfl (Dw (M:=λJ U'=>(∃o:Option Mk,(∀m,o=al m->m∈ks)/\J=K own (al (vi j)) (al (.d (dms ks))) (al (vi L)) (al (vi a)) (al (vs l)) (al (.d (AD o))) z12)/\[.list (ds.map λd=>.d d.data)]=U') ?_ ?_)
   ·refine AC rfl (λh=>?_) (λh=>?_)
    ·have h:=AAG h;exact oEA (pick (a-1) (by omega) (by omega)) λm hm1 hm2=>Aw (Ad rfl (Ae rfl rfl rfl) (hm2 _)) (Ab (Ab (Az _ rfl (iEA (al m) (λm' e=>AAA e▸hm1) rfl) rfl)))
    ·exact Ab (Ab (Az _ rfl (iEA az (λm' e=>Aa e) rfl) rfl))
   intro q_u0 q_u1 q_r2;refine oA q_r2 λq_0 q_1=>?_;obtain⟨o,ho,rfl⟩:=q_0;subst q_1;exact Bx rfl (A8 (Cn (ER (congrArg (λs=>al (V.d (.str s))) DM) rfl rfl) rfl)) rfl hll (Aw rfl (Ab (Ab (fin ⟨Da,o,al l⟩ (own+1) _ rfl ⟨.inl (cR rfl l rfl hlo),λe=>absurd e (show Da≠Gj by decide)⟩ (λm e=>hks1 m (ho m e)) (Hu _ _ _ _ _ _ _ rfl)))))
  ·have h2:=(Bool.or_eq_false_iff.mp h).2;have hpos:0<ks.length:=by
    cases ks with
    |nil=>cases h2
    |cons _ _=>exact AC3 _
   have hi:=Ba a (Int.ofNat_le.mpr ‹_›);refine oEA (pick (a.fmod ks.length) hi.1 hi.2) λm hm1 hm2=>AC (Aj (Ae rfl rfl (AW (by decide))) rfl B8) (λh=>?_) (λh=>?_)
   ·exact Bx rfl (A8 (Cn (Bg (congrArg (λs=>al (V.d (.str s))) Ob) (Ad rfl (Ae rfl (AZ (A8 rfl) (hkl _)) (AW (RD hpos))) (hm2 _))) rfl)) rfl hll (Ab (Ab (Ab (fin ⟨Gj,al m,az⟩ own _ rfl ⟨.inr (.inr (iAE rfl m rfl)),λ_=>rfl⟩ (λm' e=>AAA e▸hks1 m hm1) (Hu _ _ _ _ _ _ _ rfl)))))
   ·exact Bx rfl (A8 (Cn (ER (congrArg (λs=>al (V.d (.str s))) ID) (Ad rfl (Ae rfl (AZ (A8 rfl) (hkl _)) (AW (RD hpos))) (hm2 _)) rfl) rfl)) rfl hll (Ab (Ab (Ab (fin ⟨Ho,al m,al l⟩ own _ rfl ⟨.inr (.inl (PF rfl m l rfl rfl hlo)),λe=>absurd e (show Ho≠Gj by decide)⟩ (λm' e=>AAA e▸hks1 m hm1) (Hu _ _ _ _ _ _ _ rfl)))))
 ·intro J U q_r3;refine Br q_r3 λds own D q_3 q_4=>?_;obtain⟨z6,z7,z8,z9,z10,z11,z12,rfl⟩:=q_3;subst q_4;exact AB rfl (MD ds (by rw[D.len,ABV]) D.dok D.ok rfl rfl)
theorem Ve(t:List Nat)(c many:Int)(ms:List Mk)(h0:0<=many)(h1:many<=100)(hml:ms.length<=10000):∃ds:List AK,ds.length=many.toNat/\DOk t ms ds 0/\(∀d∈ds,BU d)/\∀U,FN 3 15 [vs t,vi c,vi many,.d (dms ms)] U (.d (dds ds)) U:=by refine Bb (FN.ends (C:=C2 2 (AAL _)) (f:=15) (R:=λv U'=>∃ds:List AK,ds.length=many.toNat/\DOk t ms ds 0/\(∀d∈ds,BU d)/\v=.ref 0/\U'=[.list (ds.map λd=>.d d.data)]) (h:=Sc (λ_ _ _=>rfl) (λ_ _=>rfl) t c many ms h0 h1 hml)) λv U' q_2 h=>Mt q_2 λds k1 k2 k3 k4 k5=>?_;rw[k4,k5] at h;exact Hv ds k1 k2 k3 (λU=>(FA.seal h ⟨_,rfl,ABF _,by rw[AAE];rfl⟩).any (af (CZ _ _) (af (CZ _ _) (af (CZ _ _) (af (CZ _ _) Ah)))))
noncomputable def PB(x:List Nat):List (List Nat)->List (List Nat)
 |[]=>[x]
 |y::r=>if decide (x<y) then x::y::r else y::PB x r
noncomputable def Ax:List (List Nat)->List (List Nat)
 |[]=>[]
 |x::r=>PB x (Ax r)
theorem S0(x:List Nat)(l:List (List Nat)):EI (Tx x) (l.map Tx)=(PB x l).map Tx:=by
 induction l with
 |nil=>rfl
 |cons y l ih =>
  show(if B9 (Tx x) (Tx y)=true then Tx x::Tx y::l.map Tx else Tx y::EI (Tx x) (l.map Tx))=(if decide (x<y)=true then x::y::l else y::PB x l).map Tx;rw[OO,ih];cases decide (x<y)<;>rfl
theorem G4(l:List (List Nat)):DX (l.map Tx)=(Ax l).map Tx:=by
 induction l with
 |nil=>rfl
 |cons y l ih =>
  show EI (Tx y) (DX (l.map Tx))=(PB y (Ax l)).map Tx;rw[ih,S0]
theorem Af(l:List (List Nat)):(Ax l).Perm l:=by
 have ins:∀(x:List Nat) (l:List (List Nat)),(PB x l).Perm (x::l):=by
  intro x l
  induction l with
  |nil=>exact .refl _
  |cons y l ih =>
   unfold PB;split
   ·exact .refl _
   ·exact(ih.cons y).trans (.swap ..)
 induction l with
 |nil=>exact .refl _
 |cons y l ih=>exact(ins y _).trans (ih.cons y)
theorem BM(l:List (List Nat))(h:l.Nodup):(Ax l).Pairwise (· < ·):=by have h1:=DE (l.map Tx);rw[G4] at h1;have h1:((Ax l).map Tx).Pairwise λa b=>B9 b a=false:=h1;rw[ACU] at h1;refine(h1.and ((Af l).nodup_iff.mpr h)).imp λ{a b} q=>?_;have q1:=q.1;rw[OO] at q1;exact Classical.byContradiction λh=>q.2 (List.le_antisymm (List.not_lt.mp (ABG q1)) (List.not_lt.mp h))
theorem QI(l:List (List Nat)):D6 CE (l.map vs)=al (l.map Tx):=by exact(show l.map vs=vss (l.map Tx) by show _=(l.map Tx).map _;rw[AAE];rfl)▸Ig _
theorem Dr(hx:AE U x=al (l.map vs))(h:l.length<64):Dd .sorted U [x]=al (.d (dl (Ax l))):=by
 show((AE U x).bind λws=>(D6 CE ws).bind λss=>if ss.length<64 then al (vss (DX ss)) else az).bind mkL=_;rw[hx,bs,QI,bs,if_pos (lmt h),bs,G4];have e:vss ((Ax l).map Tx)=((Ax l).map λt=>PyData.str (Tx t)).map V.d:=by show((Ax l).map Tx).map _=_;rw[AAE,AAE];rfl
 exact e▸JJ _ (by rw[AAB,(Af l).length_eq];exact AY (ACJ h) rfl)
theorem Ov(ds:List PyData)(k:Nat):HC k ds=(ds.zipIdx k).map λp=>V.d (.tuple [.int (p.2:Int),p.1]):=by
 induction ds generalizing k with
 |nil=>rfl
 |cons x a ih=>show _::HC (k+1) a=_;rw[ih];rfl
theorem MB:∀(l:List Ch) (k:Nat),(l.zipIdx k).map (·.1.1)=l.map (·.1)
 |[],_=>rfl
 |_::l,k=>by rw[List.zipIdx_cons,ABP,ABP,MB l (k+1)]
noncomputable abbrev lcs(cs:List Ch):O:=.list (cs.map vc)
theorem Sa(hm:∀c k U,C.O 10 [vi c,vi k] U=al (vi (Du c k)))(c:Int)(cs:List Ch)(hcs:cs.length<=61)(hy:∀o,AE (τ++[o]) y=al (cs.map vc)) :
 Al C (λfl U'=>∃fs:List (List Nat),fs.Sublist (cs.map (·.1))/\Ff fl=.d (dl (Ax fs))/\U'=τ++[.list (fs.map vs)]) Qe.body (BN Qe [vi c,y]) τ:=by
 have hy':∀o,AE (τ++[o]) y=al ((cs.map Ch.data).map V.d):=λo=>by rw[hy,AAE];rfl
 refine Aw (Gl (Bg rfl rfl) (hm _ _ _)) (Cg rfl ?_);let K:Int->Option V->Option V->Option V->Am:=λL z4 z5 z6=>[al (vi c),al y,al (vi L),al (.ref τ.length),z4,z5,z6]
 have hlen:=λo=>(len_of' (hy o)).trans (by rw[AAB]);refine Ik (l:=cs.zipIdx) (kps:=Fi y ((cs.map Ch.data).map V.d)) (λp=>V.d (.tuple [.int (p.2:Int),Ch.data p.1])) (λp J U=>∃fs:List (List Nat),fs.Sublist (p.map (·.1.1))/\(∃L z4 z5 z6,J=K L z4 z5 z6)/\U=τ++[.list (fs.map vs)]) ?_ ?_ (λ_ _=>.inr (iEA _ rfl rfl)) (Az [] (.refl _) (L8 _ az az az rfl) rfl) ?_ ?_
 ·show(JP (τ++[.list []]) y).bind (λds=>al (HC 0 ds,Fi y (ds.map .d)))=_;rw[show JP (τ++[.list []]) y=al (cs.map Ch.data) by unfold JP;rw[hy'];exact DR _,bs,Ov,List.zipIdx_map,AAE];rfl
 ·intro p J U q_r1;refine AS q_r1 λfs _ _ q_3=>?_;subst q_3;exact Hp (hy' _)
 ·intro p q_r2 q J U hp q_r3;obtain⟨ch,i⟩:=q_r2;refine AS q_r3 λfs g1 q_2 q_3=>?_;obtain⟨L,z4,z5,z6,rfl⟩:=q_2;subst q_3;have hfl:fs.length<100:=by have h1:=g1.length_le;have h2:=congrArg List.length hp;simp at h1 h2;exact Zm h2 h1 hcs rfl
  refine Aw (XW (Iu rfl (Ae (AZ (A8 rfl) (hlen _)) rfl rfl) B8) λ_=>Iu (Ae rfl rfl (AW (by decide))) rfl B8) ?_;generalize(decide ((i:Int)=cs.length-1)&&decide (c.fmod 7=3))=last;refine Dw (M:=λJ U=>∃fs':List (List Nat),fs'.Sublist ((p++[(ch,i)]).map (·.1.1))/\J=K L (al (vi i)) (al (vc ch)) (al (vb last))/\U=τ++[.list (fs'.map vs)]) ?_ ?_
  ·refine AC
    (IG rfl λ_=>BC (Aj (Ae rfl (Ae rfl (Ae rfl rfl (AW (by decide))) rfl) (AW (kG (Ba c (j:=3) (by decide)).1 rfl))) rfl B8) λ_=>IG (Aj (AZ (A8 rfl) (hlen _)) rfl Lc) λ_=>Aj (Ae rfl rfl (AW (by decide))) (Ae (Ae rfl rfl (CC (by decide))) rfl (AW (by decide))) B8) (λ_=>?_) (λ_=>?_)
   ·refine Bx rfl (A8 (Ad rfl rfl (AM ch))) List.getElem?_concat_length (lmt (ABT hfl (dc rfl))) (Ab (Ab (BS _ rfl (fs++[ch.1]) ?_ rfl ?_)))
    ·exact AAQ▸g1.append (.refl _)
    ·rw[AAQ,List.set_append_right _ _ (AAL _),ADJ];rfl
   ·exact Ab (Ab (BS _ rfl fs (AAQ▸g1.trans (List.sublist_append_left _ _)) rfl rfl))
  intro q_u0 q_u1 q_r4;refine AS q_r4 λfs' k1 q_2 q_3=>?_;subst q_2;subst q_3;refine Aw (Ae rfl rfl (CC (by decide))) (AC rfl (λ_=>?_) (λ_=>?_))
  ·exact Aw (Gl (Bg rfl rfl) (hm _ _ _)) (Ab (Ab (BS _ rfl fs' k1 (L8 _ _ _ _ rfl) rfl)))
  ·exact Ab (Ab (BS _ rfl fs' k1 (L8 _ _ _ _ rfl) rfl))
 ·intro J U q_r5;refine AS q_r5 λfs g1 q_2 q_3=>?_;obtain⟨L,z4,z5,z6,rfl⟩:=q_2;subst q_3;have g2:fs.Sublist (cs.map (·.1)):=by rw[<-MB cs 0];exact g1
  have hl:=g2.length_le;rw[AAB] at hl;exact AB (AZ (A8 rfl) (Dr (QJ List.getElem?_concat_length) (Zt hl hcs rfl))) (Az fs g2 rfl rfl)
theorem bY(cs:List Ch):∀(k:Nat) o,([lcs cs]:Ac)[k]? = al o->F7 1 o:=λk o e=>by
 cases k with
 |zero =>
  rw[<-AAA e];intro v hv;refine oEA (AAP.mp hv) λc _ q_2=>?_;subst q_2;exact trivial
 |succ k=>exact Aa e
theorem Vb(c:Int)(cs:List Ch)(hcs:cs.length<=61):∃fs:List (List Nat),fs.Sublist (cs.map (·.1))/\FN 3 13 [vi c,.ref 0] (lcs cs::τ) (.d (dl (Ax fs))) (lcs cs::τ):=by refine Bb (FN.ends (C:=C1 2 (AAL _)) (f:=13) (R:=λv U'=>∃fs:List (List Nat),fs.Sublist (cs.map (·.1))/\v=.d (dl (Ax fs))/\U'=[lcs cs,.list (fs.map vs)]) (h:=Sa (λ_ _ _=>rfl) c cs hcs (y:=.ref 0) (τ:=[lcs cs]) λ_=>rfl)) λv U' q_2 h=>AS q_2 λfs k1 k2 k3=>?_;rw[k2,k3] at h;exact iEA fs k1 (FA.tail (FA.seal h rfl) rfl (af (CZ _ _) (af (dc rfl) Ah)) (bY cs))
structure GenCh(c:Ch):Prop where
 name:Bq c.1=true
 few:c.2.1.length<=61
 rise:c.2.1.Pairwise (· < ·)
 deeds:c.2.2.length<=20
 ok:∀d∈c.2.2,BU d
theorem NR(pre:List Ch)(c:Ch)(ls:List (List Nat)):C6 (pre++[c]) ls=C6 pre ls++(if c.1∈ls then Hg c.1 0 (adds c.2.2) else []):=by
 unfold C6;rw[ABN,List.flatMap_append];congr 1;by_cases h:c.1∈ls
 ·rw[if_pos h,ADQ (by exact AAI h)];simp
 ·rw[if_neg h,List.filter_cons_of_neg (by simpa using h)];rfl
theorem AR.snoc(H:AR cs)(hn:c.1∉cs.map (·.1))(hl:∀l∈c.2.1,l∈cs.map (·.1))(hd:DOk c.1 (C6 cs c.2.1) c.2.2 0):AR (cs++[c]):=by
 refine⟨?_,λpre x post e=>?_⟩
 ·rw[AAQ,ABW];refine⟨H.nd,by simp,λa ha b hb e=>hn ?_⟩;have:b=c.1:=by simpa using hb
  exact this▸e▸ha
 ·rcases List.eq_nil_or_concat post with rfl|⟨post',y,rfl⟩
  ·refine oA (ADX e rfl) λq_0 e2=>?_;subst q_0;cases e2;exact⟨hl,hd⟩
  ·have e':cs++[c]=(pre++x::post')++[y]:=by rw[e];simp
   exact oA (ADX e' rfl) λe1 _=>H.ok _ _ _ e1
theorem cI:ACG "0" = Tx [48]:=by decide +kernel
theorem RK:Bq [48]=true:=by decide
noncomputable abbrev scD(ns:List Int):PyData:=.list (ns.map .int)
theorem Pi(i:Int)(h0:0<=i)(h:i<ns.length)(hn:ns.length<=1000):BB (.d (scD ns)) (vi i) U=al (vi (ns.getD i.toNat 0)):=by
 have hi:=by exact LS h0 h
 refine Eg i h0 (VM h hn rfl) ?_;rw[ABI,AAN hi];rw[List.getD_eq_getElem?_getD,AAN hi];rfl
noncomputable abbrev ltk(cs:List Ch):O:=.list (([48]::cs.map (·.1)).map vs)
noncomputable def dO:S:=match HO.body with|.cons _ (.cons _ (.cons (.L _ _ b) _))=>b|_=>.nil
theorem Mc(hn:3<=C.n)(ns:List Int)(most k:Int)(hns:ns.length<=1000)(h0:0<=k)(hk:4*(k+1)<=ns.length)(cs:List Ch)(hcs:cs.length<61)(hg:∀c∈cs,GenCh c)(hok:AR cs)(hnd:([48]::cs.map (·.1)).Nodup)(z5 z6 z7 z8 z9:Option V) :
 Al C (λfl U'=>∃J',fl=.next J'/\∃(c:Ch) (z5 z6 z7 z8 z9:Option V),GenCh c/\AR (cs++[c])/\([48]::(cs++[c]).map (·.1)).Nodup/\J'=[al (.d (scD ns)),al (vi most),al (.ref 0),al (.ref 1),al (vi k),z5,z6,z7,z8,z9]/\U'=[lcs (cs++[c]),ltk (cs++[c])])
  dO [al (.d (scD ns)),al (vi most),al (.ref 0),al (.ref 1),al (vi k),z5,z6,z7,z8,z9] [lcs cs,ltk cs]:=by
 have hnm:∀x∈([48]::cs.map (·.1)),Bq x=true:=by
  intro x hx;rcases AAR.mp hx with rfl|hx
  ·exact RK
  ·refine oEA (AAP.mp hx) λc hc q_2=>?_;subst q_2;exact(hg c hc).name
 have m4:∀{e U z5 z6 z7 z8 z9},(ev C.O (.B .Mult (.i 4) (.N 4))).v [al (.d (scD ns)),al (vi most),al (.ref 0),al (.ref 1),al (vi k),z5,z6,z7,z8,z9] U=e↔al (vi (4*k))=e:=by intro e U z5 z6 z7 z8 z9;rw[Ae rfl rfl (LO (sm4 k))]
 have cell:∀(j:Int) {U z5 z6 z7 z8 z9},0<=j->j<4->(ev C.O (.aa (.N 0) (.B .Add (.B .Mult (.i 4) (.N 4)) (.cst (.int j))))).v [al (.d (scD ns)),al (vi most),al (.ref 0),al (.ref 1),al (vi k),z5,z6,z7,z8,z9] U=al (vi (ns.getD (4*k+j).toNat 0)):=λj {U z5 z6 z7 z8 z9} j0 j4 =>
  Ad rfl (Ae (m4.mpr rfl) rfl rfl) (Pi (4*k+j) (Int.add_nonneg (Int.mul_nonneg (AAG rfl) h0) j0) (by omega) hns)
 refine AS (Rh (U:=[lcs cs,ltk cs]) (x:=.ref 1) (ns.getD (4*k).toNat 0) ([48]::cs.map (·.1)) (QJ rfl) hnm (by rw[AA2,AAB];exact AAS ‹_› (ACH rfl))) λt t1 t2 t3=>AU rfl (.F (C.sr (Bg (Ad rfl (m4.mpr rfl) (Pi (4*k) (Int.mul_nonneg (AAG rfl) h0) (by omega) hns)) rfl)) (t3.more hn)) (Bx rfl rfl rfl (by rw[AAB,AA2,AAB];exact ABT (Nat.succ_lt_succ hcs) (dc rfl)) ?_);obtain⟨fs,f1,f2⟩:=Vb (ns.getD (4*k+1).toNat 0) cs (ACJ hcs);refine AU rfl (.F (C.sr (Bg (cell 1 (by decide) (by decide)) rfl)) (f2.more hn)) (Aw rfl ?_);have hfl:(Ax fs).length<=61:=by rw[(Af fs).length_eq];have:=f1.length_le;rw[AAB] at this;exact(OF (AAS this hcs) rfl)
 refine Ik vc (λpre J U=>(∃ms,ms=C6 pre (Ax fs)/\ms.length<=20*pre.length/\∃z8,J=[al (.d (scD ns)),al (vi most),al (.ref 0),al (.ref 1),al (vi k),al (vs t),al (.d (dl (Ax fs))),al (.d (dms ms)),z8,z9])/\U=[lcs cs,.list (([48]::cs.map (·.1)).map vs++[vs t])]) rfl ?_ (λ_ _=>.inl rfl) ⟨(UM [] rfl (ABF _) _ rfl),rfl⟩ ?_ ?_
 ·intro p J U q_r1 k ws hk;refine oA q_r1 λ_ q_1=>?_;subst q_1;refine oA (ABK (AAJ.mp hk)) λq_0 q_1=>?_;subst q_0;subst q_1;rfl
 ·intro p c q J U hp q_r2;refine oA q_r2 λq_0 q_1=>?_;obtain⟨ms,m1,m2,z8,rfl⟩:=q_0;subst q_1;have hpl:=by have:=congrArg List.length hp;simp at this;exact jN this hcs
  have hsn:=NR p c (Ax fs);have hjd:=Jf c.2.2;have hcd:=(hg c (by rw[hp];simp)).deeds;refine AC (Aj (Ad rfl rfl (AM c)) rfl (Cr _ _)) (λh=>?_) (λh=>?_)
  ·refine AU (v:=.d (dms (ms++Hg c.1 0 (adds c.2.2)))) rfl (Il (.B (C.sv rfl) (.F (C.sr (A8 rfl)) ((Va c (II hcd rfl)).more (DU hn rfl))) (MT ?_)) (JJ _ ?_)) (Ab (Ab (Az _ rfl (UM _ (by rw[hsn,if_pos (AAG h),m1]) ?_ _ rfl) rfl)))
   ·show(if _ then _ else _)=_;rw[if_pos (by simp[line,FU];exact Zu m2 hpl hjd hcd rfl)];simp[AAQ]
   ·simp[line,FU];exact Zu m2 hpl hjd hcd rfl
   ·simp[FU];exact(Nat.add_le_add m2 (AAC hjd hcd))
  ·exact Ab (Ab (Az _ rfl (UM ms (by rw[hsn,if_neg (ABG h),AAV];exact m1) (AAF▸(by omega)) _ rfl) rfl))
 intro q_u0 q_u1 q_r3;refine oA q_r3 λq_0 q_1=>?_;obtain⟨ms,m1,m2,z8,rfl⟩:=q_0;subst q_1;have h5:=Ba (ns.getD (4*k+3).toNat 0) (j:=5) (by decide);refine Aw (Ae (cell 3 (by decide) (by decide)) rfl (AW (by decide))) (Dw (M:=λJ U=>(∃m:Int,0<=m/\m<=20/\J=[al (.d (scD ns)),al (vi most),al (.ref 0),al (.ref 1),al (vi k),al (vs t),al (.d (dl (Ax fs))),al (.d (dms ms)),z8,al (vi m)])/\U=[lcs cs,.list (([48]::cs.map (·.1)).map vs++[vs t])]) ?_ ?_)
 ·refine AC (Aj (Ae (Ae (cell 3 (by decide) (by decide)) rfl (CC (by decide))) rfl (AW (by decide))) rfl B8) (λh=>?_) (λh=>?_)
  ·have h16:=Ba ((ns.getD (4*k+3).toNat 0).fdiv 80) (j:=16) (by decide);exact Aw (Ae rfl (Ae (Ae (cell 3 (by decide) (by decide)) rfl (CC (by decide))) rfl (AW (by decide))) rfl) (Ab (Ab (Az _ rfl (Az _ (by have:=h16.2;omega) (by have:=h16.1;omega) rfl) rfl)))
  ·exact Ab (Ab (Az _ rfl (Az _ h5.1 (VU h5.2 rfl) rfl) rfl))
 intro q_u0 q_u1 q_r4;refine oA q_r4 λq_0 q_1=>?_;obtain⟨m,hm0,hm1,rfl⟩:=q_0;subst q_1;refine Lw (Ve t (ns.getD (4*k+2).toNat 0) m ms hm0 (OI hm1 rfl) (by have:=ACJ hcs;omega)) λds d1 d2 d3 d4=>Bl (U':=[.list (cs.map vc++[vc (t,Ax fs,ds)]),.list (([48]::cs.map (·.1)).map vs++[vs t])]) rfl (.lmeth An slot_list_append type_list_append (C.sv rfl) (.cons (.tup (ds:=[.str (Tx t),dl (Ax fs),dds ds]) (.cons (C.sv rfl) (.cons (C.sv rfl) (.cons (.F (C.sr (Rr rfl (ER (cell 2 (by decide) (by decide)) rfl rfl))) ((d4 _).more hn)) .nil))) (dc rfl)) .nil) rfl rfl (Hl (lmt (ABT hcs (dc rfl))))) ?_;have hfn:∀l∈Ax fs,l∈cs.map (·.1):=λl hl=>f1.subset ((Af fs).mem_iff.mp hl);refine Ab ⟨_,rfl,(t,Ax fs,ds),al (vs t),al (.d (dl (Ax fs))),al (.d (dms ms)),z8,al (vi m),⟨t1,hfl,BM fs (f1.nodup hok.nd),by rw[d1];exact OC hm1 rfl,d3⟩,hok.snoc (λh=>t2 (.tail _ h)) hfn (m1▸d2),?_,rfl,?_⟩
 ·have:[48]::(cs++[(t,Ax fs,ds)]).map (·.1)=([48]::cs.map (·.1))++[t]:=by simp
  rw[this,ABW];exact⟨hnd,by simp,λa ha b hb e=>t2 ((AAJ.mp hb)▸e▸ha)⟩
 ·simp[lcs,ltk,AAQ]
theorem mP(m:Nat)(most:Int)(hm:m<=1000)(h0:0<=most)(h1:most<=61):0<=(if most<(m:Int).fdiv 4 then most else(m:Int).fdiv 4)/\(if most<(m:Int).fdiv 4 then most else(m:Int).fdiv 4)<=most/\4*(if most<(m:Int).fdiv 4 then most else(m:Int).fdiv 4)<=m:=by rw[Int.fdiv_eq_ediv_of_nonneg _ (by decide)];split<;>lia
theorem N6(hn:3<=C.n)(ns:List Int)(most:Int)(hns:ns.length<=1000)(h0:0<=most)(h1:most<=61) :
 Al C (λfl U'=>∃cs:List Ch,(cs.length:Int)<=most/\(∀c∈cs,GenCh c)/\AR cs/\[48]∉cs.map (·.1)/\Ff fl=.ref 0/\U'=[lcs cs,ltk cs]) HO.body (BN HO [.d (scD ns),vi most]) []:=by
 refine Cg rfl (Cg (by show(ev C.O (.lst _)).nl _ _=_;exact congrArg (λs=>al [V.d (.str s)]) cI) ?_);refine oAA (mP ns.length most hns h0 h1) λm0 m1 m2=>?_;have hr:(ev C.O (.o (.bi .min (.t (.B .FloorDiv (.bi .len (.o (.N 0))) (.i 4)) (.N 1))))).row [al (.d (scD ns)),al (vi most),al (.ref 0),al (.ref 1),az,az,az,az,az,az] [.list [],.list [vs [48]]]=al [vi (if most<(ns.length:Int).fdiv 4 then most else(ns.length:Int).fdiv 4)] :=
  A8 (AZ (Bg (Ae (AZ (A8 rfl) (CO.trans (by rw[AAB]))) rfl (CC (by decide))) rfl) rfl)
 generalize(if most<(ns.length:Int).fdiv 4 then most else(ns.length:Int).fdiv 4)=m at m0 m1 m2 hr;refine Bk (λj:Nat=>vi (j:Int)) (λpre J U=>∃cs:List Ch,cs.length=pre.length/\(∀c∈cs,GenCh c)/\AR cs/\([48]::cs.map (·.1)).Nodup/\(∃z4 z5 z6 z7 z8 z9,J=[al (.d (scD ns)),al (vi most),al (.ref 0),al (.ref 1),z4,z5,z6,z7,z8,z9])/\U=[lcs cs,ltk cs])
  (QS hr (by omega) (OH m0 rfl)) ⟨[],rfl,Ah,⟨ABY,λpre c post e=>by simp at e⟩,by simp,⟨az,az,az,az,az,az,rfl⟩,rfl⟩ ?_ ?_
 ·intro p j q J U hp q_r5;refine Ms q_r5 λcs g0 g1 g2 g3 q_5 q_6=>?_;obtain⟨z4,z5,z6,z7,z8,z9,rfl⟩:=q_5;subst q_6;have hj:=by
   have:j∈List.range m.toNat:=by rw[hp];simp
   exact ABZ.mp this
  have hl:p.length<61:=by have:=congrArg List.length hp;simp at this;exact(Zj this (Int.le_trans m1 h1) rfl)
  refine(Mc hn ns most (j:Int) hns (AB9 _) (Int.le_trans (Int.mul_le_mul_of_nonneg_left (by omega) (AAG rfl)) m2) cs (g0▸hl) g1 g2 g3 z5 z6 z7 z8 z9).mono λfl U' h=>KU h λJ' e c y5 y6 y7 y8 y9 k1 k2 k3 k4 k5=>⟨J',e,cs++[c],by rw[AAF,AAF,g0];rfl,λx hx=>?_,k2,k3,⟨_,_,_,_,_,_,k4⟩,k5⟩
  rcases AA0.mp hx with hx|hx
  ·exact g1 x hx
  ·exact(AAJ.mp hx)▸k1
 ·intro J U q_r6;refine Ms q_r6 λcs g0 g1 g2 g3 q_5 q_6=>?_;obtain⟨z4,z5,z6,z7,z8,z9,rfl⟩:=q_5;subst q_6;refine AB rfl ⟨cs,?_,g1,g2,(ABX.mp g3).1,rfl,rfl⟩;rw[ABV] at g0;exact(by omega)
theorem PN(ns:List Int)(most:Int)(hns:ns.length<=1000)(h0:0<=most)(h1:most<=61):∃cs:List Ch,(cs.length:Int)<=most/\(∀c∈cs,GenCh c)/\AR cs/\[48]∉cs.map (·.1)/\∀U,FN 4 16 [.d (scD ns),vi most] U (.d (.list (cs.map Ch.data))) U:=by refine Bb (FN.ends (C:=C0 3) (f:=16) (R:=λv U'=>∃cs:List Ch,(cs.length:Int)<=most/\(∀c∈cs,GenCh c)/\AR cs/\[48]∉cs.map (·.1)/\v=.ref 0/\U'=[lcs cs,ltk cs]) (h:=N6 (AAL _) ns most hns h0 h1)) λv U' q_2 h=>Ms q_2 λcs k1 k2 k3 k6 k4 k5=>?_;rw[k4,k5] at h;exact MD cs k1 k2 k3 k6 (λU=>(FA.seal h ⟨_,rfl,ABF _,by rw[AAE];rfl⟩).any (af (CZ _ _) (af (CZ _ _) Ah)))
theorem TZ:BH .NotEq (vi i) (vi j) U=al (!decide (i=j)):=by show Ib (BH .Eq (vi i) (vi j) U)=_;exact B8▸rfl
noncomputable abbrev QL(ns:List Int):O:=.list (ns.map vi)
theorem Un(ns:List Int):Dd .len U [.d (scD ns)]=al (vi ns.length):=CO.trans (by rw[AAB])
theorem T6(hm:∀c k U,C.O 10 [vi c,vi k] U=al (vi (Du c k)))(ns:List Int)(flag:Int)(hns:ns.length<=1000) :
 Al C (λfl U'=>∃ns':List Int,ns'.length<=1000/\((Ff fl=.d (scD ns')/\U'=[])\/(Ff fl=.ref 0/\U'=[QL ns']))) Wf.body (BN Wf [.d (scD ns),vi flag,vi 10]) []:=by
 refine AC (IG (Aj (AZ (A8 rfl) (Un ns)) rfl Lc) λ_=>Aj (Ae rfl rfl (AW (by decide))) rfl TZ) (λh=>?_) (λh=>Ab ?_)
 ·exact AB rfl ⟨ns,hns,.inl ⟨rfl,rfl⟩⟩
 ·have h4:=ABG (Bool.or_eq_false_iff.mp h).1;refine Cg rfl ?_;have hq:=Ba (flag.fdiv 12) (j:=51) (by decide);refine Bk (λj:Nat=>vi (j:Int)) (λp J U=>∃ns':List Int,ns'.length=p.length/\(∃z,J=[al (.d (scD ns)),al (vi flag),al (vi 10),al (.ref 0),z])/\U=[QL ns'])
   (QS (A8 (Ae rfl (Ae rfl (Ae (y:=vi 51) (Ae rfl rfl (CC (by decide))) rfl (AW (by decide))) rfl) (LO (sm4 _)))) (YZ hq rfl rfl) (by omega)) (Az [] rfl ⟨az,rfl⟩ rfl) ?_ ?_
  ·rintro p j q J U hp ⟨ns',g0,⟨z,rfl⟩,rfl⟩;have hj:p.length=j/\j<244:=by
    have h1:(List.range (4*(10+(flag.fdiv 12).fmod 51)).toNat)[p.length]? = al j:=by rw[hp];simp
    obtain⟨h2,h3⟩:=AAM.mp h1;rw[List.getElem_range] at h3;rw[ABV] at h2;exact(⟨h3,h3▸ACE h2 (YY hq rfl rfl)⟩)
   have hi:=Ba (j:Int) (Z7 h4);refine Bx rfl (A8 (Gl (Bg (Ad rfl (Ae rfl (AZ (A8 rfl) (Un ns)) (AW (by omega))) (Pi _ hi.1 hi.2 hns)) rfl) (hm _ _ _))) rfl (by rw[AAB,g0,hj.1];exact ABT hj.2 (dc rfl)) ?_;generalize Du (ns.getD ((j:Int).fmod ns.length).toNat 0) j=M;have hx:(ns'.map vi++[vi M])[(j:Int).toNat]? = al (vi M):=by rw[Int.toNat_natCast,AA6 (by rw[AAB,g0,hj.1];exact AAL _),AAB,g0,hj.1,ADJ];rfl
   refine AC (BC (Aj (Ae rfl rfl (AW (by decide))) rfl B8) λ_=>Aj (Ae (Ae rfl rfl (CC (by decide))) rfl (AW (by decide))) rfl B8) (λh=>?_) (λh=>?_)
   ·refine X7 (Ae (Ae (Ae (Ad rfl rfl (K8 (j:Int) (AB9 _) (by omega) rfl hx)) rfl (CC (by decide))) rfl (LO (smr (by decide) (by decide)))) rfl rfl) rfl rfl rfl (AB9 _) (by rw[AAF,AAB,g0,hj.1];show(j:Int)<((j+1:Nat):Int);exact(by omega)) (Ab (Ab (BS _ rfl (ns'++[M.fdiv 7*7+3]) (by rw[AAF,AAF,g0];rfl) ⟨_,rfl⟩ ?_)));show [O.list ((ns'.map vi++[vi M]).set (j:Int).toNat (vi (M.fdiv 7*7+3)))]=_;rw[Int.toNat_natCast,List.set_append_right _ _ (by rw[AAB,g0,hj.1];exact AAL _),AAB,g0,hj.1,ADJ,QL,AAQ];rfl
   ·exact Ab (Ab (BS _ rfl (ns'++[M]) (by rw[AAF,AAF,g0];rfl) ⟨_,rfl⟩ (by show _=[O.list ((ns'++[M]).map vi)];rw[AAQ];rfl)))
  ·rintro J U ⟨ns',g0,⟨z,rfl⟩,rfl⟩;exact AB rfl (iEA ns' (by rw[g0,ABV];exact YY hq rfl rfl) (.inr ⟨rfl,rfl⟩))
theorem XD(ns:List Int)(flag:Int)(hns:ns.length<=1000):∃ns':List Int,ns'.length<=1000/\∀U,FN 3 33 [.d (scD ns),vi flag,vi 10] U (.d (scD ns')) U:=by
 obtain⟨v,U',⟨ns',k1,k2⟩,h⟩:=FN.ends (C:=C1 2 (AAL _)) (f:=33) (R:=λv U'=>∃ns':List Int,ns'.length<=1000/\((v=.d (scD ns')/\U'=[])\/(v=.ref 0/\U'=[QL ns']))) (h:=T6 (λ_ _ _=>rfl) ns flag hns);refine(iEA ns' k1 (λU=>?_));refine FA.any ?_ (af (CZ _ _) (af (CZ _ _) (af (CZ _ _) Ah)));rcases k2 with⟨k2,k3⟩|⟨k2,k3⟩
 ·rw[k2,k3] at h;exact h
 ·rw[k2,k3] at h;exact FA.seal h ⟨_,rfl,ABF _,by rw[AAE];rfl⟩
theorem GC(h:l.length<=line):Dd .list U [.d (.list l)]=al (.d (.list l)):=JJ l h
theorem XK(c:Ch)(hc:c.2.1.length<=line)(hd:c.2.2.length<=line):FN 2 17 [vc c] U (vc c) U:=by
 obtain⟨v,U',⟨h1,h2⟩,h⟩:=FN.ends (C:=C0 1) (f:=17) (fn:=ZC) (zs:=[vc c]) (R:=λv U'=>v=vc c/\U'=U) (by unfold Pg;rfl) rfl (AAL _)
  (AB (Cn (ER (Ad rfl rfl (AM c)) (AZ (A8 (Ad rfl rfl (Dq c))) (GC (lml hc))) (AZ (A8 (Ad rfl rfl (CW c))) (GC (lml hd)))) rfl) ⟨rfl,rfl⟩)
 rw[h1,h2] at h;exact h
theorem Db(n:Nat)(a b:List Nat):eqN n (.str (Tx a)) (.str (Tx b))=al (decide (a=b)):=by rw[<-MZ];cases n<;>rfl
theorem XT(n:Nat)(a b:Int):eqN n (.int a) (.int b)=al (decide (a=b)):=by
 have h:(a==b)=decide (a=b):=by
  by_cases e:a=b
  ·rw[AAI e,beq_iff_eq.mpr e]
  ·rw[AAT e,beq_eq_false_iff_ne.mpr e]
 rw[<-h];cases n<;>rfl
def EqT{α:Type}(f:PyData->PyData->Option Bool)(g:α->PyData):Prop:=∀a b,∃r,f (g a) (g b)=al r/\(a=b->r=true)
theorem Rl{α:Type}{f:PyData->PyData->Option Bool}{g:α->PyData}(h:EqT f g):∀l l':List α,∃r,Di f (l.map g) (l'.map g)=al r/\(l=l'->r=true)
 |[],[]=>(iEA true rfl (λ_=>rfl))
 |[],_::_=>(iEA false rfl (λe=>nomatch e))
 |_::_,[]=>(iEA false rfl (λe=>nomatch e))
 |a::l,b::l'=>by
  refine oEA (h a b) λr h1 h2=>oEA (Rl h l l') λr' h3 h4=>(iEA (r&&r') ?_ (λe=>?_))
  ·show(f (g a) (g b)).bind _=_;exact h1▸bs▸h3▸rfl
  ·refine oA (List.cons.inj e) λe1 e2=>?_;rw[h2 e1,h4 e2];rfl
theorem Ou{α:Type}{g:α->PyData}(h:EqT (eqN n) g):EqT (eqN (n+1)) λl:List α=>.list (l.map g):=λl l'=>by
 show∃r,(if (l.map g).length=(l'.map g).length then Di (eqN n) (l.map g) (l'.map g) else al false)=al r/\_;refine oEA (Rl h l l') λr h1 h2=>?_;by_cases e:(l.map g).length=(l'.map g).length
 ·exact(if_pos e)▸iEA r h1 h2
 ·exact(if_neg e)▸iEA false rfl (λq=>absurd (congrArg (λl=>(l.map g).length) q) e)
theorem XS(n:Nat):EqT (eqN n) λt:List Nat=>.str (Tx t):=λa b=>(iEA _ (Db n a b) (λe=>AAI e))
theorem Ir(n:Nat)(a b:Mk):eqN (n+1) (AD (al a)) (AD (al b))=al (decide (a=b)):=by show(eqN n (.str (Tx a.1)) (.str (Tx b.1))).bind (λx=>((eqN n (.int a.2) (.int b.2)).bind λy=>(al true).bind λz=>al (y&&z)).bind λy=>al (x&&y))=_;rw[Db,XT];show al (decide (a.1=b.1)&&(decide (a.2=b.2)&&true))=_;congr 1;rw[Bool.and_true,<-Bool.decide_and];exact decide_eq_decide.mpr Prod.ext_iff.symm
theorem Vo(n:Nat):EqT (eqN (n+1)) AD:=λa b=>by
 cases a with
 |none=>cases b with
  |none=>exact iEA true rfl (λ_=>rfl)
  |some b=>exact iEA false rfl (λe=>nomatch e)
 |some a=>cases b with
  |none=>exact iEA false rfl nm_
  |some b=>exact iEA _ (Ir n a b) (λe=>AAI (AAA e))
theorem Vp(n:Nat):EqT (eqN (n+2)) AK.data:=λa b=>by
 refine oEA (Vo n a.mark b.mark) λr h1 h2=>?_;have key:∀(x y:List PyData) (r':Bool),Di (eqN (n+1)) x y=al r'->eqN (n+2) (.tuple (.str (Tx a.word)::AD a.mark::x)) (.tuple (.str (Tx b.word)::AD b.mark::y))=al (decide (a.word=b.word)&&(r&&r')):=λx y r' e=>by show(eqN (n+1) (.str (Tx a.word)) (.str (Tx b.word))).bind (λp=>((eqN (n+1) (AD a.mark) (AD b.mark)).bind λq=>(Di (eqN (n+1)) x y).bind λz=>al (q&&z)).bind λq=>al (p&&q))=_;rw[Db,h1,e];rfl
 unfold AK.data;cases ha:a.text with
 |none=>cases hb:b.text with
  |none=>exact iEA _ (key [] [] true rfl) (λe=>by rw[AAI (congrArg AK.word e),h2 (congrArg AK.mark e)];rfl)
  |some l=>exact iEA _ (key [] [_] false rfl) (λe=>by rw[e,hb] at ha;cases ha)
 |some k=>cases hb:b.text with
  |none=>exact iEA _ (key [_] [] false rfl) (λe=>by rw[e,hb] at ha;cases ha)
  |some l=>exact iEA _ (key [.str (Tx k)] [.str (Tx l)] (decide (k=l)&&true) (by
   show(eqN (n+1) (.str (Tx k)) (.str (Tx l))).bind (λa=>(al true).bind λb=>al (a&&b))=_;rw[Db];rfl)) (λe=>by
   rw[AAI (congrArg AK.word e),h2 (congrArg AK.mark e)];have:k=l:=by rw[e,hb] at ha;exact(AAA ha).symm
   rw[AAI this];rfl)
theorem dH(a b:Ch):∃r,eqN AQ (Ch.data a) (Ch.data b)=al r/\(a=b->r=true)/\(a.1≠b.1->r=false):=by
 refine oEA (Ou (XS 38) a.2.1 b.2.1) λr h1 h2=>oEA (Ou (Vp 36) a.2.2 b.2.2) λr' h3 h4=>(Az (decide (a.1=b.1)&&(r&&(r'&&true))) ?_ (λe=>?_) (λe=>?_))
 ·show(eqN 39 (.str (Tx a.1)) (.str (Tx b.1))).bind (λp=>((eqN 39 (dl a.2.1) (dl b.2.1)).bind λq=>((eqN 39 (dds a.2.2) (dds b.2.2)).bind λu=>(al true).bind λw=>al (u&&w)).bind λu=>al (q&&u)).bind λq=>al (p&&q))=_;rw[Db,h1,h3];rfl
 ·rw[AAI (congrArg (·.1) e),h2 (congrArg (·.2.1) e),h4 (congrArg (·.2.2) e)];rfl
 ·rw[AAT e];rfl
def Dg(cs:List Ch):Prop:=∀pre c post,cs=pre++c::post->∀l∈c.2.1,l∈pre.map (·.1)
theorem Dg.snoc(h:Dg cs)(hc:∀l∈c.2.1,l∈cs.map (·.1)):Dg (cs++[c]):=λpre x post e=>by
 rcases List.eq_nil_or_concat post with rfl|⟨post',y,rfl⟩
 ·refine oA (ADX e rfl) λq_0 e2=>?_;subst q_0;exact((List.cons.inj e2).1)▸hc
 ·have e':cs++[c]=(pre++x::post')++[y]:=by rw[e];simp
  exact oA (ADX e' rfl) λe1 _=>h _ _ _ e1
structure nB(cs L F:List Ch):Prop where
 sub:L.Sublist cs
 perm:(F++L).Perm cs
 topo:Dg F
theorem YS{O:Orc}{xs:List V}{b:Bi}{p:Bool}(h1:(ev O es).row J U=al xs)(h2:Dd b U xs=al (vb p)):(ev O (.bi b es)).t J U=al p:=by rw[mC,h1,bs,h2];rfl
open PySem.Calls
section
variable{α β:Type}{l l':List α}{m:List β}{k:Nat}{a:α}
theorem Ml(hl:l.length=m.length)(h1:(l++l')[k]? = al a)(h2:(m++m')[k]? = al o):(l[k]? = al a/\m[k]? = al o)\/∃j,k=l.length+j/\l'[j]? = al a/\m'[j]? = al o:=by
 by_cases q:k<l.length
 ·rw[ABE q] at h1;rw[ABE (hl▸q)] at h2;exact .inl ⟨h1,h2⟩
 ·have q:=ACM q;rw[AA6 q] at h1;rw[AA6 (hl▸q),<-hl] at h2;exact .inr (Az (k-l.length) ((Nat.add_sub_cancel' q).symm) h1 h2)
theorem CH(h:l[k]? = al a):(l++l')[k]? = al a:=(ABE (AAM.mp h).1).trans h
theorem CP(h:l'[k]? = al a):(l++l')[l.length+k]? = al a:=by rw[AA6 (AA9 _ _),Nat.add_sub_cancel_left];exact h
theorem at_right'(hl:l.length=m.length)(h:l'[k]? = al a):(l++l')[m.length+k]? = al a:=hl▸CP h
end
section
variable{g:G}{A B C D:List Addr}{d:PyData}{xs:List V}
noncomputable def G.mid(g:G)(A B C:List Addr)(h:Heap):G:=⟨g.fz,λa=>@ite _ (a∈A\/a∈C) (ACI _) (h.get? a) (g.hid a),B⟩
theorem Ub{h:Heap}(q:a∈A\/a∈C):(g.mid A B C h).hid a=h.get? a:=if_pos q
theorem EG{h:Heap}(q:¬ (a∈A\/a∈C)):(g.mid A B C h).hid a=g.hid a:=if_neg q
theorem upz(h:Nh g.fz g'.fz):G.upTo 0 g g':=⟨h,λ_ _ hk _=>absurd hk (Nat.not_lt_zero _)⟩
theorem Mz:G.upTo 0 g (g.mid A B C h):=upz λ_ _ q=>q
theorem NJ{a:Addr}(e:g.mu=A++(B++C))(h:a∉g.mu):¬ (a∈A\/a∈C):=λq=>h (by
 rw[e];rcases q with q|q
 ·exact AAU _ q
 ·exact AAW _ (AAW _ q))
theorem bW{a:Addr}(nd:g.mu.Nodup)(e:g.mu=A++(B++C))(q:a∈A\/a∈C)(hb:a∈B):False:=by
 rw[e] at nd;refine oAA (ABW.mp nd) λ_ n2 n3=>?_;rcases q with q|q
 ·exact n3 a q a (AAU _ hb) rfl
 ·exact(ABW.mp n2).2.2 a hb a q rfl
theorem Has.mid(H:Has T g (τ++(U++τ')) s)(e:g.mu=A++(B++C))(la:A.length=τ.length)(lb:B.length=U.length)(hl:∀o∈U,F7 0 o):Has T (g.mid A B C s.heap) U s:=by
 have nd:=H.nd;rw[e] at nd;have mB:∀{a},a∈B->a∈g.mu:=λ{a} q=>by rw[e];exact AAW _ (AAU _ q)
 have mAC:∀{a},(a∈A\/a∈C)->a∈g.mu:=λ{a} q=>by
  rw[e];rcases q with q|q
  ·exact AAU _ q
  ·exact AAW _ (AAW _ q)
 refine⟨H.fz,λa o h=>?_,lb,(ABW.mp (ABW.mp nd).2.1).1,λa ha=>H.ap a (mB ha),λa o h=>?_,λk a o e1 e2 R_ kk=>?_,H.base,λt q ht R_ kk=>H.tb t q ht R_ λps h1 h2 h3 h4 h5 h6=>kk ps h1 ((EG (NJ e h3)).trans h2) (λq=>h3 (mB q)) h4 h5 h6,H.gens,H.os⟩
 ·by_cases q:a∈A\/a∈C
  ·rw[Ub q] at h;exact .of h
  ·rw[EG q] at h;exact H.hd a o h
 ·by_cases q:a∈A\/a∈C
  ·exact⟨H.ap a (mAC q),λp=>bW H.nd e q p⟩
  ·rw[EG q] at h;exact⟨(H.ah a o h).1,λp=>(H.ah a o h).2 (mB p)⟩
 ·exact H.ob (A.length+k) a o (e▸CP (CH e1)) (la▸CP (CH e2)) R_ λx h1 h2=>kk x h1 (Hc Mz (hl o (AA5 e2)) h2)
theorem Has.unmid(H:Has T g (τ++(U++τ')) s)(e:g.mu=A++(B++C))(la:A.length=τ.length)(lb:B.length=U.length)(lb':U'.length=U.length)(hl:∀o∈U'++N,F7 0 o)(le:G.le [] (g.mid A B C s.heap) g')(H':Has T g' (U'++N) s')(e':g'.mu=B++D):Has T ⟨g'.fz,g.hid,g.mu++D⟩ ((τ++(U'++τ'))++N) s':=by
 have hid:=λa=>le.hid a AA1;have hd1:=λ{a o} h=>(hid a).trans ((EG (NJ e (H.ah a o h).2)).trans h);have hd2:∀{a o},(a∈A\/a∈C)->s.heap.get? a=al o->g'.hid a=al o:=λ{a o} q h=>(hid a).trans ((Ub q).trans h);have mAC:∀{a},(a∈A\/a∈C)->a∈g.mu:=λ{a} q=>by
  rw[e];rcases q with q|q
  ·exact AAU _ q
  ·exact AAW _ (AAW _ q)
 have out:∀{a},(a∈A\/a∈C)->g'.fz a=az/\a∉g'.mu:=λ{a} q=>by exact oE (H.muAlive (mAC q)) λo ho=>H'.ah a o (hd2 q ho)
 have three:∀{a},a∈g.mu->(a∈A\/a∈C)\/a∈B:=λ{a} q=>by
  rw[e] at q;rcases AA0.mp q with q|q
  ·exact .inl (.inl q)
  ·rcases AA0.mp q with q|q
   ·exact .inr q
   ·exact .inl (.inr q)
 have nd':=H'.nd;rw[e'] at nd';refine oAA (ABW.mp nd') λ_ n2 n3=>?_;have inB:∀{a},a∈B->a∈g'.mu:=λ{a} q=>by rw[e'];exact AAU _ q
 have inD:∀{a},a∈D->a∈g'.mu:=λ{a} q=>by rw[e'];exact AAW _ q
 have ld:=by have:=H'.len;rw[e',AAF,AAF,lb,lb'] at this;exact Nat.add_left_cancel this
 have lm:g.mu.length=(τ++(U'++τ')).length:=by rw[H.len,AAF,AAF,AAF,AAF,lb']
 have up:G.up g ⟨g'.fz,g.hid,g.mu++D⟩:=⟨le.fz,λ_ _ q=>CH q⟩
 have old:∀{k:Nat} {a:Addr} {o:O},(a∈A\/a∈C)->g.mu[k]? = al a->(τ++(U++τ'))[k]? = al o->∀R_:Prop,(∀x,s'.heap.get? a=al x->DV T ⟨g'.fz,g.hid,g.mu++D⟩ o x->R_)->R_:=λ{k a o} q h1 h2 R_ kk =>
  H.ob k a o h1 h2 R_ λx h3 h4=>kk x ((H'.hd a x (hd2 q h3)).ex (Q7 h4)) (DV.mono up _ _ h4)
 refine⟨H'.fz,λa o h=>H'.hd a o (hd1 h),by rw[AAF,AAF,lm,ld],ABW.mpr ⟨H.nd,n2,λx hx y hy q=>?_⟩,λa ha=>?_,λa o h=>⟨(H'.ah a o (hd1 h)).1,λq=>?_⟩,λk a o e1 e2 R_ kk=>?_,H'.base,λt q ht R_ kk=>H.tb t q ht R_ λ_ _ h2 h3 _ _ _=>H'.tb t q ht R_ λps h1 _ h3' h4 h5 h6=>kk ps h1 h2 (λq=>?_) h4 h5 h6,H'.gens,H'.os⟩
 ·rcases three hx with p|p
  ·exact(out p).2 (q▸inD hy)
  ·exact n3 x p y hy q
 ·rcases AA0.mp ha with q|q
  ·rcases three q with p|p
   ·exact(out p).1
   ·exact H'.ap a (inB p)
  ·exact H'.ap a (inD q)
 ·rcases AA0.mp q with q|q
  ·exact(H.ah a o h).2 q
  ·exact(H'.ah a o (hd1 h)).2 (inD q)
 ·rcases Ml lm e1 e2 with⟨h1,h2⟩|⟨j,_,h1,h2⟩
  ·have h1':=h1;rw[e] at h1;rcases Ml la h1 h2 with⟨i1,i2⟩|⟨j,ek,i1,i2⟩
   ·exact old (.inl (AA5 i1)) h1' (CH i2) R_ kk
   ·rcases Ml (lb.trans lb'.symm) i1 i2 with⟨i3,i4⟩|⟨i,ej,i3,i4⟩
    ·exact H'.ob j a o (e'▸CH i3) (CH i4) R_ λx h3 h4=>kk x h3 (Hc (upz (g:=g') λ_ _ q=>q) (hl o (AAU _ (AA5 i4))) h4)
    ·refine old (.inr (AA5 i3)) h1' ?_ R_ kk;exact ek▸la▸CP (ej▸lb▸CP i4)
  ·exact H'.ob (B.length+j) a o (e'▸CP h1) (lb▸lb'▸CP h2) R_ λx h3 h4=>kk x h3 (Hc (upz (g:=g') (g':=⟨g'.fz,g.hid,g.mu++D⟩) λ_ _ q=>q) (hl o (AAW _ (AA5 h2))) h4)
 ·rcases AA0.mp q with q|q
  ·exact h3 q
  ·exact h3' (inD q)
theorem bV(H:Has T g (τ++(U++τ')) s):∃A B C,g.mu=A++(B++C)/\A.length=τ.length/\B.length=U.length:=by
 have hl:=H.len;rw[AAF,AAF] at hl;refine(EK (g.mu.take τ.length) ((g.mu.drop τ.length).take U.length) ((g.mu.drop τ.length).drop U.length) ?_ ?_ ?_)
 ·rw[List.take_append_drop,List.take_append_drop]
 ·exact ACT▸jT hl
 ·exact ACT▸ADI▸jS hl
theorem WY(le:G.le [] (g.mid A B C h) g'):∃D,g'.mu=B++D:=by
 refine⟨g'.mu.drop B.length,?_⟩;have:g'.mu.take B.length=B:=by
  refine List.ext_getElem? λk=>?_;by_cases q:k<B.length
  ·rw[AC0 q];have e2:=AAN q;exact e2▸le.mu k _ e2
  ·have q:=ACM q;rw[List.getElem?_eq_none q,List.getElem?_eq_none (AAC (List.length_take_le _ _) q)]
 have h2:=List.take_append_drop B.length g'.mu;rw[this] at h2;exact h2.symm
theorem WQ(e:g.mu=A++(B++C))(la:A.length=b)(lb:B.length=3)(r:Av T g (.obj [b,b+1,b+2]) v):Av T (g.mid A B C h) (.obj [0,1,2]) v:=by
 have key:∀(k:Nat) (a:Addr),k<3->g.mu[b+k]? = al a->B[k]? = al a:=λk a hk h=>by rw[e,<-la,AA6 (AA9 _ _),Nat.add_sub_cancel_left,ABE (lb▸hk)] at h;exact h
 refine r (λv=>Av T (g.mid A B C h) (.obj [0,1,2]) v) λa d o mA h1 h2 h3 h4 h5 h6 h7 h8=>λR_ k=>k a d o mA h1 h2 h3 h4 h5 h6 h7 (JB h8 λq_0 q_1 q_2 _=>?_);exact oEA q_0 λa0 p0 q0=>oEA q_1 λa1 p1 q1=>oEA q_2 λa2 p2 q2=>⟨(iEA a0 (key 0 a0 (dc rfl) p0) q0),(iEA a1 (key 1 a1 (dc rfl) p1) q1),(iEA a2 (key 2 a2 (dc rfl) p2) q2),trivial⟩
theorem FA.at(hf:FA n f (.obj [0,1,2]::xs) U (.d d) U')(h3:U.length=3)(h3':U'.length=3)(hx:∀x,x∈xs->low 0 x)(hw:∀o∈U,F7 0 o)(hw':∀o∈U',F7 0 o)(hb:τ.length=b):FA n f (.obj [b,b+1,b+2]::xs) (τ++(U++τ')) (.d d) (τ++(U'++τ')):=λr g s a Xs h At_ R=>by refine CY (bV At_.has) λA B C e la lb=>Br R.cons λX Xr q_2 r1 r2=>?_;subst q_2;refine AAO (hf r (g.mid A B C s.heap) s a (X::Xr) h ⟨At_.ok,At_.frames,At_.top,At_.depth,At_.units,At_.hh.fzm λ_ _ e=>e,At_.frs.sub λa o h=>(EG (NJ e (At_.has.ah a o h).2)).trans h,At_.has.mid e la lb hw⟩ ⟨WQ e (la.trans hb) (lb.trans h3) r1,Ay.imp (λv X hv rx=>Jv Mz (hx v hv) rx) r2⟩) (λX s' p=>p _ λg' le H' rX=>?_) λ_ _ h=>h;refine oE (WY le) λD e'=>?_;have:=At_.has.unmid e la lb (h3'.trans h3.symm) (λo ho=>hw' o (by rw[AAV] at ho;exact ho)) le (by rw[AAV];exact H') e';rw[AAV] at this;exact .mk ⟨g'.fz,g.hid,g.mu++D⟩ ⟨⟨le.fz,λ_ _ q=>CH q⟩,λ_ _=>rfl⟩ this rX
end
noncomputable def Rf(fe:List Env):List Addr:=fe.filterMap (·.frame)
def HM(its fs:List Addr)(h h':Heap):Prop:=∀c o,c∉its->h.get? c=al o->(∃sl,h'.get? c=al {o with slots:=sl})/\(c∉fs->h'.get? c=al o)
theorem HM.trans(x:HM its fs h h')(y:HM its fs h' h''):HM its fs h h'':=λc o hc e=>by exact oA (x c o hc e) λq_0 k=>oE q_0 λsl e1=>oA (y c _ hc e1) λq_0 k'=>oE q_0 λsl' e2=>⟨⟨sl',e2⟩,λhf=>(y c o hc (k hf)).2 hf⟩
theorem HM.of_same(k:∀c o,c∉its->h.get? c=al o->h'.get? c=al o):HM its fs h h':=λc o hc e=>⟨⟨o.slots,k c o hc e⟩,λ_=>k c o hc e⟩
theorem HM.wide(x:HM its fs h h')(hs:∀c,c∈its->c∈its'):HM its' fs h h':=λc o hc e=>x c o (λq=>hc (hs c q)) e
noncomputable def Yn:Option Value->Prop:=λ_=>True
noncomputable def PTb:Option Value->Prop
 |none=>False
 |some _=>True
inductive TbX(T:Top)(g:G)(h:Heap)(e:Addr)(v:Option Value)(P:Option Value->Prop):Prop
 |mk (tb:Addr) (ot:Obj) (ts:Array Value) (f:Value) (k1:v=al (.ref tb)) (k2:h.get? tb=al ot) (k3:ot.data=.fields ts) (k4:tb≠e) (k5:DA T g tb) (k6:ts[3]? = al f) (k7:P (al f)):TbX T g h e v P
inductive EV(T:Top)(g:G)(h:Heap)(k:Nat)(x:Value)(P:Option Value->Prop):Prop
 |mk (e:Addr) (oe:Obj) (vs:Array Value) (C:Addr) (q1:x=.ref e) (q2:h.get? e=al oe) (q3:T.exc k=al C) (q4:oe.cls=.ref C) (q5:oe.dict=az) (q6:oe.data=.fields vs) (q7:DA T g e) (q8:vs[2]? = al .none)
  (q9:(vs[1]? = al .none/\P az)\/TbX T g h e vs[1]? P):EV T g h k x P
section
variable{T:Top}{env:Env}{A:Around}{s:Shared}{h':Heap}
theorem EV.le(f:EV T g h k x P)(hP:∀o,P o->P' o):EV T g h k x P':=by obtain⟨e,oe,vs,C,q1,q2,q3,q4,q5,q6,q7,q8,q9⟩:=f;refine⟨e,oe,vs,C,q1,q2,q3,q4,q5,q6,q7,q8,q9.imp (λh=>⟨h.1,hP _ h.2⟩) ?_⟩;intro q_r1;obtain⟨tb,ot,ts,f,k1,k2,k3,k4,k5,k6,k7⟩:=q_r1;exact⟨tb,ot,ts,f,k1,k2,k3,k4,k5,k6,hP _ k7⟩
theorem EV.any(f:EV T g h k x P):EV T g h k x Yn:=f.le λ_ _=>trivial
theorem EV.other(f:EV T g h k x P)(hg:∀a,DA T g a->DA T g' a):EV T g' h k x P:=by obtain⟨e,oe,vs,C,q1,q2,q3,q4,q5,q6,q7,q8,q9⟩:=f;refine⟨e,oe,vs,C,q1,q2,q3,q4,q5,q6,hg _ q7,q8,q9.imp id ?_⟩;intro q_r2;obtain⟨tb,ot,ts,f,k1,k2,k3,k4,k5,k6,k7⟩:=q_r2;exact⟨tb,ot,ts,f,k1,k2,k3,k4,hg _ k5,k6,k7⟩
theorem UU(fr:Cv g fe)(ha:a∈Rf fe):∃o es ep,g.hid a=al o/\o.cls=frC/\o.data=.dict es ep:=by exact oEA (List.mem_filterMap.mp ha) λe he hf=>QE (fr e he) λ_ L o es ep h1 h2=>FH o es ep (As h1 hf▸h2)
theorem Has.near(H:Has T g U s)(fr:Cv g fe)(hi:∀a,a∈its->DA T g a)(nr:HM its (Rf fe) s.heap h'):Has T g U {s with heap:=h'}:=by
 have ex:=λa o h1 h2 e=>(nr a o h1 e).2 λq=>by exact Cy (UU fr q) λo' _ _ h3 _=>Ak h2 h3
 have nofz:∀a o,g.fz a=al o->a∉its/\g.hid a=az:=λa o e=>⟨λq=>Ak (hi a q).fz e,EE λo' e'=>Ak (H.ah a o' e').1 e⟩
 have nomu:∀a,a∈g.mu->a∉its/\g.hid a=az:=λa e=>⟨λq=>(hi a q).mu e,EE λo' e'=>(H.ah a o' e').2 e⟩
 have:=H.re (s':={s with heap:=h'}) g.hid (λa o e=>⟨?_,(H.ah a o e).1,(H.ah a o e).2,H.hidTab e⟩) (λb o e e'=>ex b o (nofz b o e).1 (nofz b o e).2 e') (λb o e e'=>ex b o (nomu b e).1 (nomu b e).2 e') (λt q o m e=>H.tb t q m _ λ_ _ h2 _ _ _ _=>ex t o (λp=>(hi t p).tab q m) h2 e) rfl rfl
 ·exact this
 ·refine AS (H.hd a o e) λo' e1 e2 e3=>oA (nr a o' (λq=>Ak (hi a q).hid e) e1) λq_0 e5=>oE q_0 λsl e4=>?_;by_cases q:a∈Rf fe
  ·exact CY (UU fr q) λo2 _ _ h3 h4 _=>⟨_,e4,e2,λn=>absurd (As h3 e▸h4) n⟩
  ·exact⟨o',e5 q,e2,e3⟩
theorem Cv.funFrames(H:Has T g U s):∀{l:List Env},Cv g l->s.heap.FunFrames T.h0 l
 |[],_=>trivial
 |e::r,fr=>by
  refine Si (fr e (.head _)) λtf L o es ep h1 h2 h3 h4=>AS (H.hd L o h2) λo' e1 e2 _=>⟨tf.kind,(PE L o' h1 (EE λbj q=>Ak (H.ah L o h2).1 (H.base L bj q)) e1 (λvs q=>?_)),Cv.funFrames H λe he=>fr e (.tail _ he)⟩
  rw[e2,h4] at q;cases q
theorem LH{oe:Obj}{vs:Array Value}(hfr:A.frames=al (env::outer))(hl:s.heap.FunFrames T.h0 (env::outer))(hf:env.frame=al L)
 (he:s.heap.get? e=al oe) (hd:oe.data=.fields vs) (hsz:1<vs.size)
 (h:∀h' tb oe' ts,HM [e] (Rf (env::outer)) s.heap h'->s.heap.get? tb=az->h'.get? e=al oe'->(oe'.cls=oe.cls/\oe'.dict=oe.dict)->oe'.data=.fields (vs.setIfInBounds 1 (.ref tb)) ->
  h'.get? tb=al {cls:=.type "traceback",dict:=az,data:=.fields ts,slots:=#[]}->ts[3]? = al (rawInt L)->Q () {s with heap:=h'}) :
 wpAny (model T.prog T.w) A (do let a <-frameOf env;let pl <-entryPlaceOf L hadNext;let b <-EntryCells.newEntry head a .none (rawInt L) .none pl;setField (.ref e) 1 b) Q Er s:=by
 have hene:e∉(env::outer).filterMap (·.frame):=λhm=>by refine WS (hl.mem hm) λ_ o ho hnf=>?_;rw[he] at ho;injection ho with ho;subst ho;exact hnf vs hd
 refine AAD (wpAny_frameOf_fun hfr hl hf λh₁ aZ=>?_);refine AAD (wpAny_entryPlaceOf λpl hpl=>?_);unfold EntryCells.newEntry newFields;refine AAD (wpAny_newObj_type ?_ (hpl.sizeOk5 _ _ _ _ _));have he1:=(aZ.2.1 e hene).trans he;have he2:=AAK {cls:=.type "traceback",dict:=az,data:=.fields ([head,.ref L,.none,rawInt L,.none]++(if pl.isEmpty then List.replicate 6 Value.none else pl)).toArray} he1;have hd3:=Obj.data_mapFields hd (·.setIfInBounds 1 (Value.ref h₁.objs.size));have he3:=ACO (Obj.mapFields (·.setIfInBounds 1 (Value.ref h₁.objs.size))) he2 (Obj.isFreed_of_fields hd3);have hT3:=(ABD (h₁.push {cls:=.type "traceback",dict:=az,data:=.fields ([head,.ref L,.none,rawInt L,.none]++(if pl.isEmpty then List.replicate 6 Value.none else pl)).toArray})
  (Obj.mapFields (·.setIfInBounds 1 (Value.ref h₁.objs.size))) (Ne.symm (Nat.ne_of_gt (ACY he1)))).trans (AA3 h₁ rfl)
 refine wpAny_setField he2 hd hsz (h _ h₁.objs.size _ _ ?_ ?_ he3 ⟨Obj.cls_mapFields _ _,by unfold Obj.mapFields;split<;>rfl⟩ hd3 hT3 ?_)
 ·intro b o hb e';have hbe:b≠e:=λq=>hb (q▸AAJ.mpr rfl);have up:∀o',h₁.get? b=al o'->((h₁.push {cls:=.type "traceback",dict:=az,data:=.fields ([head,.ref L,.none,rawInt L,.none]++(if pl.isEmpty then List.replicate 6 Value.none else pl)).toArray}).update e (Obj.mapFields (·.setIfInBounds 1 (Value.ref h₁.objs.size)))).get? b=al o':=λo' q=>by rw[ABD _ _ (Ne.symm hbe)];exact AAK _ q
  refine⟨?_,λhnf=>up o ((aZ.2.1 b hnf).trans e')⟩;exact oE (aZ.2.2 b o e') λsl q=>⟨sl,up _ q⟩
 ·exact aZ.1▸By _
 ·first|(simp;done)|(rcases hpl with rfl|⟨_,_,_,_,_,_,_,rfl⟩<;>simp)
theorem JD(hfr:A.frames=al (env::outer))(fr:Cv g (env::outer))(H:Has T g U s)(fl:EV T g s.heap k x Yn)
 (h:∀h',Has T g U {s with heap:=h'}->EV T g h' k x PTb->Q () {s with heap:=h'}):wpAny (model T.prog T.w) A (noteFrame x env) Q Er s:=by
 have hl:=fr.funFrames H;refine QE (fr env (.head _)) λ_ L _ _ _ hf _=>?_;obtain⟨e,oe,vs,C,rfl,q2,q3,q4,q5,q6,q7,q8,q9⟩:=fl;have hsz2:=(Array.getElem?_eq_some_iff.mp q8).1;unfold noteFrame;simp only[hf];rcases q9 with⟨h1,_⟩|⟨tb,ot,ts,f,k1,k2,k3,k4,k5,k6,k7⟩
 ·refine AAD (wpAny_field q2 q6 h1 ?_);rw[if_neg (by decide)];refine LH hfr hl hf q2 q6 (ACJ hsz2) λh' tb oe' ts nr hn he' hc' hd' ht h3=>h h' (H.near fr (λa ha=>by rw[AAJ.mp ha];exact q7) nr) ⟨e,oe',_,C,rfl,he',q3,hc'.1.trans q4,hc'.2.trans q5,hd',q7,?_,.inr ⟨tb,_,ts,_,by simp[show 1<vs.size from Nat.lt_of_succ_lt hsz2],ht,rfl,?_,H.free hn,h3,trivial⟩⟩
  ·rw[Array.getElem?_setIfInBounds_ne (by decide)];exact q8
  ·intro q;rw[q,q2] at hn;exact GY hn
 ·refine AAD (wpAny_field q2 q6 k1 ?_);rw[if_pos (by rfl)];refine AAD (wpAny_field k2 k3 k6 ?_);by_cases k9:(f==rawInt L)=true
  case neg =>
   rw[if_neg k9];have hsz3:=(Array.getElem?_eq_some_iff.mp k6).1;refine AAD (wpAny_setField k2 k3 hsz3 ?_);have other:∀b,b≠tb->(s.heap.update tb (Obj.mapFields (·.setIfInBounds 3 Value.none))).get? b=s.heap.get? b:=λb hb=>ABD _ _ (Ne.symm hb);have noRecord:∀b o,s.heap.get? b=al o->(∀vs,o.data≠.fields vs)->b≠tb:=λb o hb hnf q=>by rw[q,k2] at hb;injection hb with hb;subst hb;exact hnf ts k3
   refine LH hfr (hl.of_keeps λb o hb hnf=>(iEA o ((other b (noRecord b o hb hnf)).trans hb) rfl)) hf ((other e (Ne.symm k4)).trans q2) q6 (ACJ hsz2) λh' tb' oe' ts' nr hn he' hc' hd' ht h3=>?_;have hn':s.heap.get? tb'=az:=by
    by_cases q:tb'=tb
    ·subst q;exact GY ((Eq.symm (ACO _ k2 (Obj.isFreed_of_fields (Obj.data_mapFields k3 _)))).trans hn)
    ·exact(other tb' q)▸hn
   refine h h' (H.near fr (its:=[e,tb]) (λa ha=>?_) (HM.trans (HM.of_same λb o hb eb=>(other b λq=>hb (.tail _ (q▸.head _))).trans eb) (nr.wide λb hb=>by rw[AAJ.mp hb];simp)))
    ⟨e,oe',_,C,rfl,he',q3,hc'.1.trans q4,hc'.2.trans q5,hd',q7,?_,.inr ⟨tb',_,ts',_,by simp[show 1<vs.size from Nat.lt_of_succ_lt hsz2],ht,rfl,?_,H.free hn',h3,trivial⟩⟩
   ·simp only[AAR,AA1,or_false] at ha;rcases ha with rfl|rfl
    ·exact q7
    ·exact k5
   ·rw[Array.getElem?_setIfInBounds_ne (by decide)];exact q8
   ·intro q;rw[q,q2] at hn';exact GY hn'
  case pos =>
   exact(if_pos k9)▸AAY (h s.heap H ⟨e,oe,vs,C,rfl,q2,q3,q4,q5,q6,q7,q8,.inr ⟨tb,ot,ts,_,k1,k2,k3,k4,k5,k6,trivial⟩⟩)
theorem EO(fr:Cv g fe)(H:Has T g U s)(fl:EV T g s.heap k x PTb)
 (h:∀h',Has T g U {s with heap:=h'}->EV T g h' k x PTb->Q () {s with heap:=h'}):wpAny (model T.prog T.w) A (setFlight x L) Q Er s:=by
 obtain⟨e,oe,vs,C,rfl,q2,q3,q4,q5,q6,q7,q8,q9⟩:=fl;rcases q9 with⟨_,h1⟩|⟨tb,ot,ts,f,k1,k2,k3,k4,k5,k6,k7⟩
 ·exact h1.elim
 ·unfold setFlight;refine AAD (wpAny_field q2 q6 k1 ?_);rw[if_pos (by rfl)];have hsz3:=(Array.getElem?_eq_some_iff.mp k6).1;refine wpAny_setField k2 k3 hsz3 ?_;have other:∀b,b≠tb->(s.heap.update tb (Obj.mapFields (·.setIfInBounds 3 (L.elim Value.none λf=>rawInt f)))).get? b=s.heap.get? b:=λb hb=>ABD _ _ (Ne.symm hb);exact h _ (H.near fr (λa ha=>by rw[AAJ.mp ha];exact k5) (HM.of_same λb o hb eb=>(other b λq=>hb (by exact q▸.head _)).trans eb))
   ⟨e,oe,vs,C,rfl,(other e (Ne.symm k4)).trans q2,q3,q4,q5,q6,q7,q8,.inr ⟨tb,_,_,L.elim Value.none λf=>rawInt f,k1,ACO _ k2 (Obj.isFreed_of_fields (Obj.data_mapFields k3 _)),Obj.data_mapFields k3 _,k4,k5,by simp[hsz3],trivial⟩⟩
theorem EV.field(fl:EV T g s.heap k x PTb)(h:∀tb,Q (.ref tb) s):wpAny (model T.prog T.w) A (field x 1) Q Er s:=by
 obtain⟨e,oe,vs,C,rfl,q2,q3,q4,q5,q6,q7,q8,q9⟩:=fl;rcases q9 with⟨_,h1⟩|⟨tb,ot,ts,f,k1,k2,k3,k4,k5,k6,k7⟩
 ·exact h1.elim
 ·exact wpAny_field q2 q6 k1 (h tb)
end
noncomputable abbrev Ar.wx{α:Type}(r:Ar)(m:Sem α)(X:Value->Shared->Prop)(s:Shared):Prop:=wpAny (model r.T.prog r.T.w) r.A m (λ_ _=>False) X s
def KB(T:Top)(g:G)(U':Ac)(k:Nat)(x:Value)(s':Shared):Prop:=∀R_:Prop,(∀g',G.le [] g g'->Has T g' U' s'->EV T g' s'.heap k x Yn->R_)->R_
def FXA(n f:Nat)(xs:List V)(U:Ac)(k:Nat)(U':Ac):Prop :=
 ∀(r:Ar) (g:G) (s:Shared) (a:Addr) (Xs:List Value),r.T.fn f=al a->At n r g U s->Au r.T g xs Xs->r.wx (call (.ref a) Xs) (KB r.T g U' k) s
noncomputable abbrev FX(n f:Nat)(xs:List V)(U:Ac)(k:Nat)(U':Ac):Prop:=FXA (n+3) f xs U k U'
def SEx(n:Nat)(e:E)(J:Am)(U:Ac)(k:Nat)(U':Ac):Prop :=
 ∀(c:Cx) (g:G) (s:Shared) (ex:Expr),IsE e c.K ex->Inv n c J g U s->c.wx (eval ex c.env) (KB c.T g U' k) s
def SXP(n:Nat)(c:Cx)(g:G)(k:Nat)(X:Am->Ac->Prop)(x:Value)(s':Shared):Prop:=∀R_:Prop,(∀J' U' g',X J' U'->G.le c.own g g'->Inv n c J' g' U' s'->EV c.T g' s'.heap k x Yn->R_)->R_
def SX(n:Nat)(st:S)(J:Am)(U:Ac)(k:Nat)(X:Am->Ac->Prop):Prop :=
 ∀(c:Cx) (g:G) (s:Shared) (x:Stmt),IsS st c.K x->Inv n c J g U s->c.wx (exec x c.env) (SXP n c g k X) s
def SXs(n:Nat)(st:S)(J:Am)(U:Ac)(k:Nat)(X:Am->Ac->Prop):Prop :=
 ∀(c:Cx) (g:G) (s:Shared) (xs:List Stmt),Yt st c.K xs->Inv n c J g U s->c.wx (execs xs c.env) (SXP n c g k X) s
theorem KB.after(le:G.le [] g aj)(h:KB T aj U' k x s'):KB T g U' k x s':=λR_ kk=>h R_ λg' l a f=>kk g' (le.trans l) a f
theorem SXP.after(le:G.le c.own g aj)(h:SXP n c aj k X x s'):SXP n c g k X x s':=λR_ kk=>h R_ λJ' U' g' hX l I f=>kk J' U' g' hX (le.trans l) I f
theorem SXs.head(h:SX n st J U k X):SXs n (.cons st r) J U k X:=λc g s xs hc I=>hc (λxs=>c.wx (execs xs c.env) (SXP n c g k X) s) λx l h1 h2=>by rw[execs_cons];exact AAD (AAO (h c g s x h1 I) (λ_ _ h=>h.elim) λ_ _ h=>h)
theorem SX.I(h:ST n e J U true ag)(h1:SXs n p J ag k X):SX n (.I e p q) J U k X:=λc g s x hc I=>hc (λx=>c.wx (exec x c.env) (SXP n c g k X) s) λex xs ys pos c1 c2 c3=>by refine wpAny_If (AAO (h c g s ex c1 I) (λb ai p=>p _ λaj le ar aV=>?_) λ_ _ h=>h.elim);subst aV;exact AAO (h1 c aj ai xs c2 (I.step le ar)) (λ_ _ h=>h) λ_ _ p=>p.after le.toO
theorem SX.rse(h3:3<=n)(h:SEs n a J U ws ag)(hl:ws.length<=line)(hX:X J ag):SX n (.rse k a) J U k X:=λc g s x hc I=>hc (λx=>c.wx (exec x c.env) (SXP n c g k X) s) λnm np vs cp p h1 h2 _=>by refine G9 I.cx.rd.ns λmg mb hg hb ht _=>oEA (ht nm _ h1.2) λ_ q_1 _=>?_;obtain⟨C,hC,rfl⟩:=q_1;refine ND (I.ok.excs k C hC) λx bm newId B initId mg' O FB=>dF O.obj λtl N nm' q bs hdct sn sub ab col dd k0 k1 k2 k3 k5 mN hh=>JB hh λhCo hN hni Tl=>wpAny_Raise_call_subT (C:=C) (nm:=nm') (q:=q) (N:=N) (bs:=bs) (hdct:=hdct) (sn:=sn) (sub:=sub) (ab:=ab) (col:=col) (dd:=dd) (k0:=k0) (k1:=k1) (k2:=k2) (k3:=k3) (k5:=k5) FB (Tl.hasType FB.hasBase) (I.hh.none h3) (CR _ _ h2) hni (CF I h1 λy hy=>?_);refine oEA hy λC' hC' q_2=>?_;subst q_2;obtain rfl:=As hC hC';refine⟨rfl,AAO (Dm h2 (AAO (h c g s vs cp h2 I) (λXs ai p=>p _ λaj le ar ao=>?_) λ_ _ h=>h)) (λ_ _ h=>h) λ_ _ h=>h.elim⟩;have hz:=(I.step le ar).base;refine⟨rfl,by show Xs.length<=_;rw[<-ao.length,<-Bd];exact hl,hz _ _ hCo,hN.keeps hz,Tl.keeps hz,λh' e hm=>?_⟩;exact AS hm.there λt ht _ _=>λR_ kk=>kk J ag aj hX le.toO (I.step le (ar.keep (s':={ai with heap:=h'}) hm.keeps)) ⟨e,_,_,C,rfl,ht,hC,rfl,rfl,rfl,ar.free hm.new,rfl,.inl ⟨rfl,trivial⟩⟩
theorem SX.exp(hp:CQ e=false)(h:SEx n e J U k U')(hX:X J U'):SX n (.exp e) J U k X:=λc g s x hc I=>hc (λx=>c.wx (exec x c.env) (SXP n c g k X) s) λex p hc=>by
 have hi:interactive c.env=false:=by unfold interactive;rw[I.cx.kind];rfl
 rw[arm_exec_Expr];refine AAD (AA7 ?_);rw[hi];rw[GU e hp hc,pure_bind,if_neg ABB];exact AAD (AAO (h c g s ex hc I) (λ_ _ h=>h.elim) λy s' p R_ kk=>p R_ λg' le H fl=>kk J U' g' hX le.toO (I.step le H) fl)
theorem FXA.of(hP:Pg f=al fn)(hl:xs.length=fn.np)(hb:SXs n fn.body (BN fn xs) U k λ_ ag=>ag=U')(hn:1<=n):FXA (n+1) f xs U k U':=λr g s a Xs hf A R=>A.ok.fns f fn a hP hf _ λfd body o vars lam F=>by
 have H:=A.has;have hz:=λb o e=>H.fz b o (H.base b o e);refine wpAny_call (codeAny_call_cells (BV (AAC (AA9 _ _) A.depth) rfl) (hz _ _ F.ob) F.data (A.ok.ok.nolimit.keeps hz) (F.code.keeps hz) F.bd (F.bind Xs (R.length.symm.trans hl)) F.clo (λp hp=>?_) (λai ic=>?_) F.cor F.gen F.kind)
 ·refine(F.par p.1 (List.of_mem_zip hp).1).imp id λh=>⟨h,?_⟩
  obtain⟨c,q⟩:=Cp (Bo h);exact oE (F8 q) λc q=>q▸rfl
 ·refine AS (O5 F hn hl A.ok A.frames A.depth A.units (A.hh.less (ADP _)) A.frs H R rfl ic) λaj I le new=>AAO (hb _ aj ai body F.is I) (λ_ _ h=>h.elim) λx am p=>p _ λJ ak an e l I2 fl=>?_;subst e;unfold leaving;refine AAD (JD I2.frames I2.frs I2.has fl λaO aN fl3=>?_);refine EO I2.frs aN fl3 λaY aF fl4=>AS (aF.back (own:=[]) (AAV _▸le.trans l) new (λ_ _ _ e=>e) (aF.away I2.loc.ow)) λhd H' le' e'=>λR_ kk=>kk _ le' H' (fl4.other (g':=⟨an.fz,hd,an.mu⟩) λc F=>⟨F.fz,?_,F.mu,F.tab⟩).any;by_cases q:c∈DI (callEnvC fd s.heap.objs.size a)
  ·exact(le'.hid c AA1).trans (new c q)
  ·exact(e' c q).trans F.hid
theorem FX.of(hP:Pg f=al fn)(hl:xs.length=fn.np)(hb:SXs (n+3) fn.body (BN fn xs) U k λ_ ag=>ag=U')(hn:1<=n):FX (n+1) f xs U k U':=by show FXA (n+1+3) f xs U k U';rw[Nat.add_right_comm];exact FXA.of hP hl hb (AAC hn (AA9 _ _))
theorem SXs.tail(h:SS n st J U λfl U'=>match fl with|.next J'=>SXs n r J' U' k X|.ret _=>False):SXs n (.cons st r) J U k X:=λc g s xs hc I=>hc (λxs=>c.wx (execs xs c.env) (SXP n c g k X) s) λx l h1 h2=>by rw[execs_cons];refine AAD (AAO (h c g s x h1 I) (λf ai p=>p.elim (λaP ag aj e q le I1=>?_) λv x ag aj e q le H w r=>q.elim) λ_ _ h=>h.elim);subst e;exact AAO (q c aj ai l h2 I1) (λ_ _ h=>h) λ_ _ p=>p.after le
theorem NH(h:env.frame=env'.frame):noteFrame x env=noteFrame x env':=by unfold noteFrame frameOf;rw[h]
section
variable{j:Int}{A':Around}{Er:Value->Shared->Prop}
theorem Vj(I:Inv n c J g U s)(q3:c.T.exc k=al C)(q2:s.heap.get? e=al oe)(q4:oe.cls=.ref C)(hq:Q true s):wpAny (model c.T.prog c.T.w) A' (excMatches (.ref e) (.ref C)) Q Er s:=by exact ND (I.ok.excs k C q3) λx bm newId B initId mg' O FB=>dF O.obj λtl N nm' q bs hdct sn sub ab col dd k0 k1 k2 k3 k5 mN hh=>JB hh λhCo hN hni Tl=>wpAny_excMatches_sub_self (I.base _ _ hCo) q2 q4 (Tl.hasType FB.hasBase) hq
end
theorem SE.glx:SE n (.glx k) J U (.ecl k) U:=λc g s ex hc I=>hc (λex=>c.wp (eval ex c.env) (Ans c.toAr g (.ecl k) U) s) λnm p hc=>CF I hc λx r=>.refl I.has (by
 unfold gvE at r;show∃a,(bif Nat.beq k 0 then al c.T.cls else c.T.exc k)=al a/\x=.ref a;cases q:Nat.beq k 0 with
 |true=>rw[q] at r;exact⟨_,rfl,r⟩
 |false=>rw[q] at r;exact r)
theorem iL(hj:j∈HH)(h0:Nat.beq k 0=false)(hk:k<10):Pr2 (λX Y=>call (Bj .isinstance) [X,Y]) (.exc j) (.ecl k) U (vb (Cw j k)) U:=λr g s X Y A hx hy=>by refine oEA hy λa ha q_2=>?_;subst q_2;unfold Top.ec at ha;rw[h0] at ha;exact hx (λX=>r.wp (call (Bj .isinstance) [X,.ref a]) (Ans r g (vb (Cw j k)) U) s) λe D o vs h1 h2 h3 h4 h5=>A.ok.isi j k D (.ref a) hj hk h2 (by unfold XcV;rw[h0];exact⟨a,ha,rfl⟩) r.A _ _ s e o vs (λb o q=>A.has.fz _ _ (A.has.base b o q)) (A.has.fz _ _ h1) h3 h4 h5 λtk=>.refl A.has.tok rfl
theorem dE(hj:j∈HH):Pr2 (λX Y=>call (Bj .isinstance) [X,Y]) (.exc j) (.ty "ValueError") U (vb (Cw j 0)) U:=λr g s X Y A hx hy=>by obtain rfl:Y=.type "ValueError" := hy;exact hx (λX=>r.wp (call (Bj .isinstance) [X,.type "ValueError"]) (Ans r g (vb (Cw j 0)) U) s) λe D o vs h1 h2 h3 h4 h5=>A.ok.isi j 0 D (.type "ValueError") hj (dc rfl) h2 rfl r.A _ _ s e o vs (λb o q=>A.has.fz _ _ (A.has.base b o q)) (A.has.fz _ _ h1) h3 h4 h5 λtk=>.refl A.has.tok rfl
theorem Sk(I:Inv n c J g U s)(hk:c.K.kd m .local=true)(h:∀g' s',G.le c.own g g'->G.up g g'->Has c.T g' U s'->(∀a,a∈c.own->g'.hid a≠az)->R () s'):wpAny (model c.T.prog c.T.w) A' (do bindName c.env m .none;unbindBehindTheSuite c.env m pos) R Er s:=by exact I.loc.ns _ λmm hm _=>wpAny_nameGoes (by rw[AN I.cx.names];exact Kx.kd_eq hk) (I.has.ns hm) (I.cx.kind▸rfl) λh' m' hn hb=>Cy (id hm) λaS _ _ e0 _=>Cy hn λo es ep ho hd=>h (g.hide c.env.locals (frO o)) _ (.hide I.cx.oloc) ⟨λ_ _ e=>e,λ_ _ e=>e⟩ (I.has.rehideH e0 (λb x q e=>(hb.2 b q).trans e) (.fr ho)) λa ha=>Gd (I.loc.ow a ha)
noncomputable def Cx.held(c:Cx)(e:Addr):Cx:={c with A:=c.A.mark (al (.ref e))}
theorem IV.held(h:IV n c)(h2:2<=n):IV 2 (c.held a):=⟨h.rd,h.names,h.kind,h.glob,h.blt,h.hfr,h.cinj,h.nd,h.oloc,h.ocell,λt q e=>⟨by decide,(h.lamc t q e).2⟩⟩
theorem Loc.held(h:Loc c J g):Loc (c.held a) J g:=⟨h.ns,h.ce,h.ow⟩
theorem Inv.held{vs:Array Value}(I:Inv n c J g U s)(h2:2<=n)(hf:g.fz a=al o)(hd:o.data=.fields vs)(h3:vs[2]? = al .none):Inv 2 (c.held a) J g U s :=
 ⟨⟨I.ok,I.frames,I.top,AAC (AC7 h2 _) I.depth,AAC (AC7 (ADG _ h2) _) I.units,⟨.inr ⟨by decide,⟨a,o,vs,rfl,hf,hd,h3⟩⟩,I.hh.2⟩,I.frs,I.has⟩,I.cx.held h2,I.loc.held⟩
theorem Inv.freeze(I:Inv n c J g U s)(F:DA c.T g a)(ho:s.heap.get? a=al o):Inv n c J (g.put a o) U s:=I.step (.put F.fz) (F.put I.has ho)
theorem SS.tryAs(hb:SXs n b J U k λJ' ag=>J'=J/\ag=U1')(h2:2<=n)(he:SE 2 e (J.set i (al (.exc k))) U1' v ak)(hq:Q (.ret v) ak):SS n (.tryAs b ((k,i,e)::hs)) J U Q:=λc g s x hc I=>hc (λx=>c.wp (exec x c.env) (BL n c g Q) s) λbd h0 hs' p h1 hH=>by refine hH (λl=>c.wp (exec (.Try bd l [] [] p) c.env) (BL n c g Q) s) λnm np m ex rp hp t k1 k2 k3 _=>wpAny_Try_except (AAO (hb c g s bd h1 I) (λ_ _ h=>h.elim) λx ai q=>q _ λJ' ag aj hX le I1 fl=>?_);refine oA hX λq_0 q_1=>?_;subst q_0;subst q_1;refine Bb I1.cx.hfr λe0 l hfe hfr=>?_;have fr:=I1.frs;rw[hfe] at fr;rw[NH hfr];refine JD (I1.frames.trans (congrArg al hfe)) fr I1.has fl λaO aN fl3=>EO I1.frs aN fl3 λaY aF fl4=>?_;have I4:=I1.step (.refl _ _) aF;have fl4':=fl4;obtain⟨a,oe,vs,C,rfl,q2,q3,q4,q5,q6,q7,q8,q9⟩:=fl4';refine wpAny_handleBy_cons (codeAny_handlers_test (CF I4 k1 λy hy=>?_)) (by intro q;cases q);refine oEA hy λC' hC' q_2=>?_;subst q_2;obtain rfl:=As q3 hC';refine Vj I4 q3 q2 q4 (codeAny_handlers_suite_as (EO I4.frs aF fl4 λbl bA fl5=>?_));obtain⟨a',oe',vs',C',hx,p2,p3,p4,p5,p6,p7,p8,_⟩:=fl5;obtain rfl:=ABR hx;have rx:Av c.T (aj.put a oe') (.exc k) (.ref a):=λR_ kk=>kk a C' oe' vs' G.put_self p3 p4 p5 p6;refine((I4.step (.refl _ _) bA).freeze p7 p2).store k2.1 rx λg6 aQ le6 up6 I6=>?_;rw[LD,arm_exec_Return];refine AAD (AA7 (AAD (AAO (he (c.held a) g6 aQ ex k3 (I6.held h2 (up6.fz _ _ G.put_self) p6 p8)) (λX s7 q=>q _ λg7 le7 H7 r7=>AAY ?_) λ_ _ h=>h.elim)));exact Sk (I6.step le7 H7) k2.2 λg9 s9 le9 up9 H9 ow9=>λR_ _ kk=>kk v X ak g9 hq (le.trans ((G.le.put p7.fz).trans (le6.trans (le7.toO.trans le9)))) H9 ow9 (Av.mono up9 _ _ r7)
noncomputable def Yz(n:Nat)(ts:List Nat)(b:S)(kps:List (Nat×List V))(k:Nat)(X:Am->Ac->Prop):List V->Am->Ac->Prop
 |[],_,_=>False
 |v::vs,J,U=>C8 U kps/\LN n ts v/\(SXs n b (CA J ts v) U k X\/SSs n b (CA J ts v) U λfl U'=>match fl with|.next J'=>Yz n ts b kps k X vs J' U'|.ret _=>False)
section
variable{X:Am->Ac->Prop}{vs ws:List V}{kps:List (Nat×List V)}{ts:List Nat}
theorem SXP.came(p:SXP n c g k X x s'):notedBy (model c.T.prog c.T.w) c.A c.env (λe s''=>cameBackBy (model c.T.prog c.T.w) c.A c.env (SXP n c g k X) e s'') x s':=p _ λJ' U' g' hX le I fl=>by unfold notedBy;refine Bb I.cx.hfr λe0 l hfe hfr=>?_;have fr:=I.frs;rw[hfe] at fr;rw[NH hfr];refine JD (outer:=l) (I.frames.trans (congrArg al hfe)) fr I.has fl λaO aN fl3=>?_;unfold cameBackBy;refine AAD (EV.field (s:={s' with heap:=aO}) fl3 λtb=>?_);exact(if_neg (show ¬ ((Value.ref tb==Value.none)=true) fromλh=>nomatch h))▸EO (s:={s' with heap:=aO}) I.frs aN fl3 λaY aF fl4=>λR_ kk=>kk J' U' g' hX le (I.step (.refl _ _) aF) fl4.any
theorem SX.L(hi:SI n it J U vs kps ag)(h:Yz n ts st kps k X vs J ag):SX n (.L ts it st) J U k X:=λc g s x hc I=>hc (λx=>c.wx (exec x c.env) (SXP n c g k X) s) λt i bd p h1 h2 h3=>by
 refine wpAny_For (AAO (hi c g s i h2 I) (λY ai h₁=>AAO h₁ (λitv am p=>?_) λ_ _ h=>h.elim) λ_ _ h=>h.elim) ((Ck it h2).fold c.env);refine p (λitv=>codeAny (model c.T.prog c.T.w) c.A (.forLoop t itv bd [] c.env) _ am) λits a an le2 aD new it2 _=>?_;have ni:∀a,a∈its->a∉c.own:=λa q q'=>I.loc.ow a q' (new a q);have toI:∀{g g'},G.le its g g'->G.le (its++c.own) g g':=λle=>⟨le.toup,λa q=>le.hid a λh=>q (AAU _ h)⟩
 have toO:∀{g g'},G.le c.own g g'->G.le (its++c.own) g g':=λle=>⟨le.toup,λa q=>le.hid a λh=>q (AAW _ h)⟩
 have mono:∀{vs g g'},G.le c.own g g'->ItS n c.T (BO it) kps its a vs g->ItS n c.T (BO it) kps its a vs g':=λle h=>h.mono le.toup λc hc=>le.hid c (ni c hc);refine codeAny_forLoop_any (I:=λm s'=>∀R_:Prop,(∀vs J U g',m=vs.length->Yz n ts st kps k X vs J U->G.le (its++c.own) g g'->Inv n c J g' U s'->ItS n c.T (BO it) kps its a vs g'->R_)->R_) (λm aB hz=>hz _ λvs aX au aE hk w aA I3 it3=>?_) vs.length
  λR_ kk=>kk vs J ag an rfl h (toI le2) (I.far I.frs I.loc new le2 aD) it2
 subst hk;cases vs with
 |nil=>exact w.elim
 |cons v vs =>
  refine AAO (it3.2 c.toAr aE au aB rfl I3.toAt (.refl _) (λ_ _=>rfl) w.1 t (λr ai=>∃X,r=al X/\∀Q':Unit->Shared->Prop,(∀g' s',G.le its aE g'->Has c.T g' au s'->Av c.T g' v X->ItS n c.T (BO it) kps its a vs g'->Q' () s')->c.wp (letOwnedTupleGo t (.ref a) X) Q' ai) (P8 h1.1 h1.2) λX ai k=>(iEA X rfl k)) (λr ai h=>?_) λ_ _ h=>h.elim;obtain⟨Y,rfl,h⟩:=h;refine AAO (h _ λaT aK le4 aF r4 it4=>?_) (λ_ _ h=>h) λ_ _ h=>h.elim;refine(I3.far I.frs I.loc new le4 aF).bind h1.1 w.2.1 r4 λg5 s5 le5 I5=>?_;have le':=aA.trans ((toI le4).trans (toO le5));rcases w.2.2 with w|w
  ·refine AAO (w c g5 s5 bd h3 I5) (λ_ _ h=>h.elim) λy aQ p=>SXP.came (p _ λJ6 U6 g6 hX l6 I6 fl=>?_);refine AS (I6.has.back (s':=aQ) (le'.trans (toO l6)) new (λ_ _ _ e=>e) (I6.has.away (mono (le5.trans l6) it4).at)) λhd H' le e=>λR_ kk=>kk J6 U6 _ hX le (I6.far I.frs I.loc new ⟨⟨λ_ _ e=>e,λ_ _ e=>e⟩,e⟩ H') (fl.other λa F=>⟨F.fz,?_,F.mu,F.tab⟩);by_cases q:a∈its
   ·exact(le.hid a (ni a q)).trans (new a q)
   ·exact(e a q).trans F.hid
  ·refine AAO (w c g5 s5 bd h3 I5) (λf aQ p=>p.elim (λJ6 U6 g6 aR q l6 I6=>?_) λv x U6 g6 aR q l6 H w r6=>q.elim) λ_ _ h=>h.elim;subst aR;exact iEA vs.length (ADR _) (λR_ kk=>kk vs J6 U6 g6 rfl q (le'.trans (toO l6)) I6 (mono (le5.trans l6) it4))
theorem SEx.F(h:SEs n a J U ws ag)(hf:FXA n f ws ag k ak):SEx n (.F f a) J U k ak:=λc g s ex hc I=>hc (λex=>c.wx (eval ex c.env) (KB c.T g ak k) s) λnm np es p h1 h2=>by refine G9 I.cx.rd.ns λmg mb hg hb ht _=>oEA (ht nm _ h1.2) λ_ q_1 _=>?_;obtain⟨fa,hfa,rfl⟩:=q_1;refine Bb (I.cx.rd.fnob f fa hfa) λo fd ho hd=>PyProof.Rows.Call_Name rfl (CF I h1 λy hy=>?_);refine oEA hy λfa' hfa' q_2=>?_;subst q_2;obtain rfl:=As hfa hfa';refine callWith_function (o:=o) (fd:=fd) (AAO (Dm (r:=c.toAr) (Q:=λa am=>(am.heap.get? fa=al o/\o.data=.func fd)/\c.wx (call (.ref fa) ([]++a.pos) a.kw) (KB c.T g ak k) am) h2 (AAO (h c g s es p h2 I) (λYs am aM=>aM _ λan le2 aC ay=>⟨⟨(I.step le2 aC).base _ _ ho,hd⟩,AAO (hf c.toAr an am fa Ys hfa (I.step le2 aC).toAt ay) (λ_ _ h=>h) λ_ _ p=>p.after le2⟩) λ_ _ h=>h)) (λ_ _ h=>h) λ_ _ h=>h.elim)
end
theorem Sw{prog:Program}{w:World}{A:Around}{E:Value->Shared->Prop}{s:Shared}{o:Obj}{d:Int}{t:Tok}{Q:Fin->Shared->Prop}(ho:s.heap.get? a=al o)(hc:o.cls=c)(hq:Q (.done (.ret (.bool true))) s):wpAny (model prog w) A (Builtin.«isinstance.nested» ⟨[.ref a,c,.int d t],[]⟩) Q E s:=by
 have he:(c==c)=true:=beq_self_eq_true _
 repeat (any_goals (first|assumption|wp_step))
theorem Sv:Meets (Builtin.«isinstance» ⟨[.ref a,c],[]⟩) (λ_ R s=>(∃o,s.heap.get? a=al o/\o.cls=c)/\R (.ok (.ret (.bool true))) s):=λ_ _ _ _ s hs=>by obtain⟨⟨o,h1,h2⟩,h3⟩:=hs;exact isinstance_outer (Sw h1 h2 h3) (λe=>nomatch e)
theorem iM:Pr2 (λX Y=>call (Bj .isinstance) [X,Y]) (.obj ks) (.ecl 0) U (vb true) U:=λr g s X Y A hx hy=>by
 obtain⟨a,ha,rfl⟩:=hy;refine hx (λX=>r.wp (call (Bj .isinstance) [X,.ref a]) (Ans r g (vb true) U) s) λb d o mA h1 h2 h3 h4 h5 h6 h7 h8=>call_isinstance Sv ⟨(iEA o (A.has.fz _ _ h1) ?_),?_⟩
 ·exact(show o.cls=.ref r.T.cls by assumption).trans (congrArg Value.ref (AAA ha))
 ·exact .refl A.has rfl
end Mine.Internal
namespace Mine.Internal
open PySem
def OrR(ac:Am->Ac->Prop)(P:Fl->Ac->Prop)(fl:Fl)(U:Ac):Prop:=match fl with|.next J=>ac J U|.ret v=>P (.ret v) U
def GP(C:Cfg)(P:Fl->Ac->Prop)(K:Nat->Ac->Prop)(l:S)(J:Am)(U:Ac):Prop:=Al C P l J U\/∃k U',K k U'/\SXs (C.n+3) l J U k λ_ ag=>ag=U'
section
variable{C:Cfg}{P:Fl->Ac->Prop}{K:Nat->Ac->Prop}{α:Type}
theorem Te(w:α->V)(ac:List α->Am->Ac->Prop):∀(q p:List α) (J:Am) (U:Ac),(∀p J U,ac p J U->C8 U kps)->ac p J U ->
 (∀p' a q' J U,p++q=p'++a::q'->ac p' J U->Al C (OrR (ac (p'++[a])) P) body (CA J [x] (w a)) U)->∃fl Ue,OrR (ac (p++q)) P fl Ue/\∀Q:Fl->Ac->Prop,Q fl Ue->Ta (C.n+3) [x] body kps Q (q.map w) J U
 |[],p,J,U,hk,hJ,_=>(DN (.next J) U ((AAV p).symm▸hJ) (λQ h=>⟨hk p J U hJ,h⟩))
 |a::q,p,J,U,hk,hJ,hf=>by
  have hb:FI [x] (w a):=.inl rfl;refine Bb (hf p a q J U rfl hJ) λfl ag h1 h2=>?_;cases fl with
  |ret v=>exact DN (.ret v) ag h1 (λQ h=>⟨hk p J U hJ,hb.at (ACK 3 _),SSs.mono (λf s e=>by rw[e.1,e.2];exact h) h2⟩)
  |next aP =>
   have e:p++[a]++q=p++a::q:=by rw[ABQ];rfl
   exact Bb (Te w ac q (p++[a]) aP ag hk h1 λp' b q' J U he=>hf p' b q' J U (e.symm.trans he)) λfe Ue h3 h4=>DN fe Ue (e▸h3) (λQ h=>⟨hk p J U hJ,hb.at (ACK 3 _),SSs.mono (λf s e=>by rw[e.1,e.2];exact h4 Q h) h2⟩)
theorem MJ(w:α->V)(ac:List α->Am->Ac->Prop)(hit:C.it it J U=al (l.map w,kps))(hk:∀p J U,ac p J U->C8 U kps)(hJ:ac [] J U)
 (hf:∀p a q J U,l=p++a::q->ac p J U->Al C (OrR (ac (p++[a])) P) body (J.set x (al (w a))) U) (k:∀J' U',ac l J' U'->Al C P r J' U'):Al C P (.cons (.L [x] it body) r) J U:=by
 refine Bb (Te (C:=C) (P:=P) (body:=body) (x:=x) (kps:=kps) w ac l [] J U hk hJ hf) λfl Ue h1 h2=>Cs (fl:=fl) (λQ q=>.L ((Ao C.ok it).it hit).1 (h2 Q q)) ?_;cases fl with
 |next J'=>exact k J' Ue h1
 |ret v=>exact h1
theorem Re{M:Am->Ac->Prop}(h:Al C (λfl U'=>∃J',fl=.next J'/\M J' U') (.o st) J U)(k:∀J' U',M J' U'->GP C P K r J' U'):GP C P K (.cons st r) J U:=by
 refine Bb h λfl U' q_2 h2=>?_;obtain⟨J',rfl,h1⟩:=q_2;rcases k J' U' h1 with q|⟨kk,ak,hK,q⟩
 ·exact .inl (Dw (M:=λa b=>a=J'/\b=U') ⟨_,_,(Az J' rfl rfl rfl),h2⟩ λa b e=>by rw[e.1,e.2];exact q)
 ·exact .inr (DN kk ak hK (.tail (SS.mono (λf s e=>by rw[e.1,e.2];exact q) (.of1 h2))))
theorem Hz(h:Al C (λfl ag=>fl=.next J'/\ag=U') (.o st) J U)(k:GP C P K r J' U'):GP C P K (.cons st r) J U :=
 Re (M:=λa b=>a=J'/\b=U') (h.mono λfl ag q=>(Az J' q.1 rfl q.2)) λa b e=>by rw[e.1,e.2];exact k
theorem Td(w:α->V)(ac:List α->Am->Ac->Prop):∀(q p:List α) (J:Am) (U:Ac),(∀p J U,ac p J U->C8 U kps)->(∀a,a∈q->FI ts (w a))->ac p J U ->
 (∀p' a q' J U,p++q=p'++a::q'->ac p' J U->GP C (λfl U'=>∃J',fl=.next J'/\ac (p'++[a]) J' U') K body (CA J ts (w a)) U) ->
 (∃Je Ue,ac (p++q) Je Ue/\∀Q:Fl->Ac->Prop,Q (.next Je) Ue->Ta (C.n+3) ts body kps Q (q.map w) J U)\/∃k U',K k U'/\Yz (C.n+3) ts body kps k (λ_ ag=>ag=U') (q.map w) J U
 |[],p,J,U,hk,_,hJ,_=>.inl (DN J U ((AAV p).symm▸hJ) (λQ h=>⟨hk p J U hJ,h⟩))
 |a::q,p,J,U,hk,hb,hJ,hf=>by
  rcases hf p a q J U rfl hJ with⟨fl,ag,⟨aP,rfl,h1⟩,h2⟩|⟨k,U',hK,h2⟩
  ·have e:p++[a]++q=p++a::q:=by rw[ABQ];rfl
   rcases Td w ac q (p++[a]) aP ag hk (λb hb'=>hb b (.tail _ hb')) h1 λp' b q' J U he=>hf p' b q' J U (e.symm.trans he) with⟨Je,Ue,h3,h4⟩|⟨k,U',hK,h4⟩
   ·exact .inl (DN Je Ue (e▸h3) (λQ h=>⟨hk p J U hJ,(hb a (.head _)).at (ACK 3 _),SSs.mono (λf s e=>by rw[e.1,e.2];exact h4 Q h) h2⟩))
   ·exact .inr ⟨k,U',hK,hk p J U hJ,(hb a (.head _)).at (ACK 3 _),.inr (SSs.mono (λf s e=>by rw[e.1,e.2];exact h4) h2)⟩
  ·exact .inr ⟨k,U',hK,hk p J U hJ,(hb a (.head _)).at (ACK 3 _),.inl h2⟩
theorem FXA.more(hf:FXA n f xs U k U')(h:n<=m):FXA m f xs U k U':=λr g s a Xs hf' A R=>hf r g s a Xs hf' (A.less h) R
def FE(n f:Nat)(xs:List V)(U:Ac)(R:V->Ac->Prop)(K:Nat->Ac->Prop):Prop:=(∃v U',R v U'/\FN n f xs U v U')\/∃kk U',K kk U'/\FX n f xs U kk U'
theorem GP.fn{fn:Fn}{zs:List V}(hP:Pg f=al fn)(hl:zs.length=fn.np)(hn:1<=C.n)(h:GP C (λfl U'=>R (Ff fl) U') K fn.body (BN fn zs) U):FE (C.n+1) f zs U R K:=h.imp (FN.ends hP hl hn) λ⟨kk,U',h1,h2⟩=>⟨kk,U',h1,FX.of hP hl h2 hn⟩
end
theorem C9(h:C.t c J U=al t)(e:t=false)(k:Al C P r J U):Al C P (.cons (.I c a .nil) r) J U:=Ge (e▸h) k
theorem SJ(l:List Nat)(c:Nat):Txt.contains (Tx l) (Tx [c])=decide (c∈l):=by have h:=StrLaws.found_one (Tx l) c;rw[Jh] at h;exact h
theorem Lp:∀l:List Nat,G6 l=l.map λc=>vs [c]
 |[]=>rfl
 |c::l=>by show _::G6 l=_;rw[Lp l];rfl
theorem QR{C:Cfg}{l:List Nat}(h:Ci J i=al (vs l))(ha:∀c∈l,c<128):C.it (.N i) J U=al (l.map λc=>vs [c],[]):=by show(Ci J i).bind (GD U)=_;rw[h];show(if (Tx l).cps.all (· < 128)=true then al (G6 (Tx l).cps.toList,[]) else az)=_;rw[if_pos,Jh,Lp];rw[List.all_toArray,ACL];exactλc hc=>AAI (ha c hc)
theorem Hq{C:Cfg}{α:Type}{l:List α}{d:α->PyData}(h:Ci J i=al (.d (.list (l.map d)))):C.it (.N i) J U=al (l.map λa=>.d (d a),[]):=Bv h rfl
theorem N2:∀c∈EX,c<128:=by decide +kernel
theorem S9(t:List Nat)(h:Bq t=true):FN 2 2 [vs t] U (vb true) U:=by
 refine oAA ((Cl t).mp h) λn1 n2 n3=>Bb (FN.ends (C:=C0 1) (f:=2) (zs:=[vs t]) (R:=λv U'=>v=vb true/\U'=U) (h:=by
  refine C9 (IG (Aj (AZ (A8 rfl) NU) rfl Lc) λ_=>Aj (AZ (A8 rfl) NU) rfl MV) (by rw[AAT (by exact IK n1),AAT (by exact IK n2)];rfl) ?_
  ·refine Bk (λc=>vs [c]) (λ_ J U'=>(∃z,J=[al (vs t),z])/\U=U') (QR rfl λc hc=>N2 c (n3 c hc)) ⟨⟨az,rfl⟩,rfl⟩ ?_ ?_
   ·intro p c q J q_u4 hp q_r1;obtain⟨⟨z,rfl⟩,rfl⟩:=q_r1;exact C9 (Aj rfl (congrArg (λs=>al (V.d (.str s))) QQ) rfl) (by rw[SJ,AAI (n3 c (by rw[hp];simp))];rfl) (Ab (Az _ rfl ⟨_,rfl⟩ rfl))
   ·intro J q_u1 q_r2;obtain⟨⟨z,rfl⟩,rfl⟩:=q_r2;exact AB rfl ⟨rfl,rfl⟩)) λv U' q_2 h=>?_
 obtain⟨h1,h2⟩:=q_2;rw[h1,h2] at h;exact h
theorem SA(t:List Nat)(h:BE t):FN 2 3 [vs t] U (vb true) U:=by
 exact FN.same (C:=C0 1) (h:=by
  refine C9 (Aj (AZ (A8 rfl) NU) rfl MV) (AAT (by have:=h.len;exact IK this)) ?_
  ·refine Bk (λc=>vs [c]) (λ_ J U'=>(∃z,J=[al (vs t),z])/\U=U') (QR rfl λc hc=>by have:=h.ok c hc;exact(AAS this.2 (by decide))) ⟨⟨az,rfl⟩,rfl⟩ ?_ ?_
   ·intro p c q J q_u4 hp q_r3;obtain⟨⟨z,rfl⟩,rfl⟩:=q_r3;have hc:=h.ok c (by rw[hp];simp);exact C9 (IG (Aj (AZ (A8 rfl) rfl) rfl Lc) λ_=>Aj (AZ (A8 rfl) rfl) rfl MV) (by rw[AAT (by exact IK hc.1),AAT (by exact IK hc.2)];rfl) (Ab (Az _ rfl ⟨_,rfl⟩ rfl))
   ·intro J q_u1 q_r4;obtain⟨⟨z,rfl⟩,rfl⟩:=q_r4;exact AB rfl ⟨rfl,rfl⟩)
noncomputable def Wr(P:List Nat->Prop)(xs:List V):Option V:=match xs with|x::r=>(match r with|[]=>(CE x).bind λz=>@ite _ (P z.cps.toList) (ACI _) (al (vb true)) az|_=>az)|[]=>az
theorem Qi(hf:∀t,P t->FN n f [vs t] U (vb true) U)(h:Wr P xs=al v):FN n f xs U v U:=by
 match xs,h with
 |[],h=>exact Aa h
 |[x],h =>
  exact oEA (ae h) λz e1 h=>oA (@BG _ _ _ _ (ACI _) h) λq h=>(BI e1)▸h▸(VY z)▸hf _ q
 |_::_::_,h=>exact Aa h
theorem Mb(h:P t):Wr P [vs t]=al (vb true):=by show@ite _ (P (Tx t).cps.toList) (ACI _) (al (vb true)) az=_;rw[Jh];exact@if_pos _ (ACI _) h _ _ _
noncomputable def C3(n:Nat)(hn:2<=n):Cfg:=(C0 n).add 2 (λxs _=>Wr (Bq · = true) xs) λ_ _ _ h=>Qi (λt ht=>(S9 t ht).more hn) h
noncomputable def C4(n:Nat)(hn:2<=n):Cfg:=(C0 n).add 3 (λxs _=>Wr BE xs) λ_ _ _ h=>Qi (λt ht=>(SA t ht).more hn) h
theorem Nn{α β:Type}(d:α->PyData)(d':β->PyData):∀(l:List α) (m:List β),KN ((l.map d).map .d) ((m.map d').map .d)=(l.zip m).map λp=>V.d (.tuple [d p.1,d' p.2])
 |[],_=>rfl
 |_::_,[]=>rfl
 |a::l,b::m=>by show _::KN ((l.map d).map .d) ((m.map d').map .d)=_;rw[Nn d d' l m];rfl
theorem PL(t:List Nat)(ls:List (List Nat))(ht:Bq t=true)(hl:∀l∈ls,Bq l=true)(hr:ls.Pairwise (· < ·))(hn:t∉ls)(hlen:ls.length<=1000):FN 3 4 [vs t,.d (dl ls)] U DW U:=by
 exact FN.same (C:=C3 2 (AAL _)) (h:=by
  refine Ge (LJ (p:=true) (Rt (A8 rfl) (Mb (P:=(Bq · = true)) ht))) (Bk (λl=>vs l) (λ_ J U'=>(∃z2,J=[al (vs t),al (.d (dl ls)),z2,az,az])/\U=U') (Hq rfl) ⟨⟨az,rfl⟩,rfl⟩ ?_ ?_)
  ·intro p l q J q_u4 hp q_r5;obtain⟨⟨z,rfl⟩,rfl⟩:=q_r5;exact Ge (LJ (p:=true) (Rt (A8 rfl) (Mb (P:=(Bq · = true)) (hl l (by rw[hp];simp))))) (Ab (Az _ rfl ⟨_,rfl⟩ rfl))
  intro J q_u1 q_r6;obtain⟨⟨z2,rfl⟩,rfl⟩:=q_r6;refine Ik (l:=ls.zip (ls.drop 1)) (kps:=[]) (λp=>V.d (.tuple [.str (Tx p.1),.str (Tx p.2)])) (λ_ J U'=>(∃z3 z4,J=[al (vs t),al (.d (dl ls)),z2,z3,z4])/\U=U') ?_ (λ_ _ _ _ _ _ m=>nomatch m) (λ_ _=>.inr (iEA _ rfl rfl)) ⟨(iEE az az rfl),rfl⟩ ?_ ?_
  ·have hs:(ev (C3 2 (AAL _)).O (.slc (.N 1) (.i 1) .nil)).v [al (vs t),al (.d (dl ls)),z2,az,az] U=al (.d (dl (ls.drop 1))):=(HT (U:=U) (by decide) (lml (AY hlen rfl))).trans (List.map_drop▸rfl);show((ev (C3 2 (AAL _)).O (.slc (.N 1) (.i 1) .nil)).v [al (vs t),al (.d (dl ls)),z2,az,az] U).bind (λy=>(AE U (.d (dl ls))).bind λds=>(AE U y).bind λds'=>al (KN ds ds',Fi (.d (dl ls)) ds++Fi y ds'))=_;rw[hs,bs];show al (KN ((ls.map λt=>PyData.str (Tx t)).map V.d) (((ls.drop 1).map λt=>PyData.str (Tx t)).map V.d),_)=_;rw[Nn];rfl
  ·intro p q_r7 q J q_u4 hp q_r8;obtain⟨a,b⟩:=q_r7;obtain⟨⟨z3,z4,rfl⟩,rfl⟩:=q_r8;refine Ge ?_ (Ab (Az _ rfl (iEE _ _ rfl) rfl));have hab:a<b:=by
    have hm:(a,b)∈ls.zip (ls.drop 1):=by rw[hp];simp
    obtain⟨j,hj⟩:=List.mem_iff_getElem?.mp hm;obtain⟨j1,j2⟩:=ADS.mp hj;rw[List.getElem?_drop] at j2;obtain⟨k1,k2⟩:=AAM.mp j1;obtain⟨k3,k4⟩:=AAM.mp j2;have k2:ls[j]=a:=k2;have k4:ls[1+j]=b:=k4;exact k2▸k4▸List.pairwise_iff_getElem.mp hr j (1+j) k1 k3 (by omega)
   show al (!B9 (Tx a) (Tx b))=_;rw[OO,AAI hab];rfl
  intro J q_u1 q_r9;obtain⟨⟨z3,z4,rfl⟩,rfl⟩:=q_r9;refine Ge (Aj rfl rfl ((Cr t ls).trans (by rw[AAT hn]))) (Ab ⟨rfl,rfl⟩))
theorem SD(d:AK)(h:BU d):FN 3 5 [.d d.data] U DW U:=by
 exact FN.same (C:=C4 2 (AAL _)) (h:=by
  have w:∀{s:String} {k:List Nat},ACG s=Tx k->(ev (C4 2 (AAL _)).O (.C .NotEq (.aa (.N 0) (.i 0)) (.cst (.str (ACG s))))).t [al (.d d.data)] U=al (!decide (d.word=k)):=λ{s k} e=>Aj (Ad rfl rfl (BQ d)) (congrArg (λs=>al (V.d (.str s))) e) GA;have hm:(ev (C4 2 (AAL _)).O (.C .Is (.aa (.N 0) (.i 1)) (.cst .none))).t [al (.d d.data)] U=al d.mark.isNone:=Aj (Ad rfl rfl (CM d)) rfl (X3 d.mark);refine C9 (MR (w DM) (λ_=>w Ob) (λ_ _=>w ID)) (by rcases h.shp with⟨e,_⟩|⟨e,_⟩|⟨e,_⟩<;>rw[e]<;>rfl) (C9 (BC (w DM) (λ_=>hm)) (by rcases h.shp with⟨e,_⟩|⟨e,m,l,e2,_⟩|⟨e,m,e2⟩<;>rw[e]<;>first|rfl|(rw[e2];rfl)) ?_);have hl:∀l,d.text=al l->BE l->(ev (C4 2 (AAL _)).O (.not (.F 3 (.o (.aa (.N 0) (.i 2)))))).t [al (.d d.data)] U=al false:=λl e ok=>LJ (p:=true) (Rt (A8 (Ad rfl rfl (El d e))) (Mb ok));have hc:d.word=Gj\/∃l,d.text=al l/\BE l:=by
   rcases h.shp with⟨_,l,e,k⟩|⟨_,m,l,_,e,k⟩|⟨e,_⟩
   ·exact .inr (iEA l e k)
   ·exact .inr (iEA l e k)
   ·exact .inl e
  exact C9 (BC (w Ob) λq=>hc.elim (λe=>by rw[AAI e] at q;cases q) λ⟨l,e,k⟩=>hl l e k) (ADD _) (Ab ⟨rfl,rfl⟩))
section
variable{κ κ' α β:Type}[DecidableEq κ][DecidableEq κ'](φ:κ->κ')(f:α->β)
noncomputable def Bc(kvs:List (κ×α)):List (κ'×β):=kvs.map λp=>(φ p.1,f p.2)
theorem Bu(kvs:List (κ×α)):(Bc φ f kvs).length=kvs.length:=AAB ..
theorem Uf(a b:List (κ×α)):Bc φ f (a++b)=Bc φ f a++Bc φ f b:=AAQ ..
variable{φ}(hφ:∀a b,φ a=φ b->a=b)
include hφ
theorem AI(kvs:List (κ×α))(k:κ):Aq (Bc φ f kvs) (φ k)=(Aq kvs k).map f:=by
 induction kvs with
 |nil=>rfl
 |cons q r ih =>
  show Aq ((φ q.1,f q.2)::Bc φ f r) (φ k)=_;rw[Bp,Bp,ih];by_cases e:q.1=k
  ·exact(if_pos e)▸(if_pos (congrArg φ e))▸rfl
  ·rw[if_neg e,if_neg (λh=>e (hφ _ _ h))]
theorem Bn(kvs:List (κ×α))(k:κ)(v:α):BX (Bc φ f kvs) (φ k) (f v)=Bc φ f (BX kvs k v):=by
 unfold BX;have h:((Bc φ f kvs).any λp=>p.1=φ k)=kvs.any λp=>p.1=k:=by rw[HK,HK,AI f hφ];cases Aq kvs k<;>rfl
 rw[h];split
 ·unfold Bc;rw[AAE,AAE];refine AC8 λp _=>?_;show(if (φ p.1)=φ k then(φ p.1,f v) else(φ p.1,f p.2))=(φ (if p.1=k then(p.1,v) else p).1,f (if p.1=k then(p.1,v) else p).2);by_cases e:p.1=k
  ·rw[if_pos e,if_pos (congrArg φ e)]
  ·rw[if_neg e,if_neg (λh=>e (hφ _ _ h))]
 ·rw[Uf];rfl
end
noncomputable def mk2(m:Mk):Str×Int:=(Tx m.1,m.2)
theorem BA:∀a b:List Nat,Tx a=Tx b->a=b:=λ_ _=>FQ
theorem DK:∀a b:Mk,mk2 a=mk2 b->a=b:=λ⟨a,i⟩ ⟨b,j⟩ h=>by rw[FQ (show Tx a=Tx b from(congrArg Prod.fst h)),(show i=j from(congrArg Prod.snd h))]
theorem Ls{κ β:Type}[DecidableEq κ]{h:List (κ×β)}{k:κ}{v:β}(nd:(h.map (·.1)).Nodup):((BX h k v).map (·.1)).Nodup:=by
 unfold BX;split
 ·rw[AAE,show((λx:κ×β=>x.1)∘λp=>if p.1=k then(p.1,v) else p)=λx=>x.1 from funext λp=>by show(if p.1=k then(p.1,v) else p).1=p.1;split<;>rfl];exact nd
 ·rename_i q
  rw[AAQ,ABW];refine⟨nd,ABX.mpr ⟨AA1,ABY⟩,λa ha b hb e=>q ?_⟩;refine oEA (AAP.mp ha) λp hp q_2=>?_;subst q_2;exact ADV.mpr (iEA p hp (AAI (e.trans (AAJ.mp hb))))
theorem Cq(hk:U[k]? = al (.dictS kvs))(hd:Aq kvs (Tx a)=al d):BB (.ref k) (vs a) U=al (.d d):=by show RQ U (vs a) U[k]? = _;rw[hk];show(Aq kvs (Tx a)).bind _=_;exact hd▸rfl
theorem YL(hk:U[k]? = al (.dictS kvs)):inV U (vs a) (.ref k)=al (Aq kvs (Tx a)).isSome:=by show inO U (vs a) k U[k]? = _;exact hk▸rfl
theorem To(hk:U[k]? = al (.dictP kvs))(hd:Aq kvs (mk2 m)=al d):BB (.ref k) (vm m) U=al (.d d):=by show RQ U (vm m) U[k]? = _;rw[hk];show(Aq kvs (mk2 m)).bind _=_;exact hd▸rfl
theorem gX(hk:U[k]? = al (.dictP kvs)):inV U (vm m) (.ref k)=al (Aq kvs (mk2 m)).isSome:=by show inO U (vm m) k U[k]? = _;exact hk▸rfl
theorem Ra(m x:Mk):∀r:List Mk,m∈r->∃j,Of (AD (al m)) (r.map λm=>AD (al m))=al j/\j<r.length/\r.take (j+1)++x::r.drop (j+1)=aft m x r
 |[],h=>by cases h
 |y::r,h=>by
  have e0:eqN AQ (AD (al y)) (AD (al m))=al (decide (y=m)):=Ir 39 y m;by_cases e:y=m
  ·subst e;refine(Az 0 ?_ (AC3 _) ?_)
   ·show(eqN AQ (AD (al y)) (AD (al y))).bind _=_;rw[e0,AAI rfl];rfl
   ·rw[dU];rfl
  ·refine AS (Ra m x r ((AAR.mp h).resolve_left λq=>e q.symm)) λj h1 h2 h3=>(Az (j+1) ?_ (Nat.succ_lt_succ h2) ?_)
   ·show(eqN AQ (AD (al y)) (AD (al m))).bind _=_;exact e0▸(AAT e)▸h1▸rfl
   ·exact(dT e)▸h3▸rfl
theorem UI(m:Mk):∀r:List Mk,∃q,inD (AD (al m)) (r.map λm=>AD (al m))=al q
 |[]=>⟨false,rfl⟩
 |y::r=>by refine oE (UI m r) λq h=>?_;have e0:eqN AQ (AD (al y)) (AD (al m))=al (decide (y=m)):=Ir 39 y m;exact⟨decide (y=m)||q,by show(eqN AQ (AD (al y)) (AD (al m))).bind _=_;rw[e0,bs,h];rfl⟩
theorem PZ(r:List Mk):Gm (r.map vm)=al (r.map λm=>AD (al m)):=by have:=DR (r.map λm=>AD (al m));rw[AAE] at this;exact this
theorem QZ{r:List Mk}(hk:U[k]? = al (.list (r.map vm)))(hj:Of (AD (al m)) (r.map λm=>AD (al m))=al j):MA U (.ref k) [vm m]=al (vi j):=by refine oE (UI m r) λq hq=>?_;show(Fh U[k]?).bind _=_;rw[hk];show(Gm (r.map vm)).bind _=_;rw[PZ,bs];show(inD (AD (al m)) (r.map λm=>AD (al m))).bind _=_;exact hq▸bs▸hj▸rfl
structure ChkOk(c:Ch):Prop extends GenCh c where
 lnm:∀l∈c.2.1,Bq l=true
 self:c.1∉c.2.1
 mks:∀d∈c.2.2,∀m,d.mark=al m->m.1=c.1\/m.1∈c.2.1
theorem cU(h:C.v (.tup es) J U=al v)(hv:CK v=al [u,w,z])(k:Al C P r (((J.set l (al z)).set j (al w)).set i (al u)) U):Al C P (.cons (.swl i j l es) r) J U :=
 Cs (λQ q=>.swl (ACK 3 _) (C.sv h) hv q) k
theorem Vf(c:Ch)(h:ChkOk c):FN 4 6 [vc c] U DW U:=by
 exact FN.same (C:=C0 3) (h:=by
  refine cU (Cn (ER (Ad rfl rfl (AM c)) (Ad rfl rfl (Dq c)) (Ad rfl rfl (CW c))) rfl) rfl (Bl rfl (.F ((C0 3).sr rfl) (PL c.1 c.2.1 h.name h.lnm h.rise h.self (AY h.few rfl))) ?_);refine C9 (Aj (AZ (A8 rfl) (CO.trans (by rw[AAB]))) rfl MV) (AAT (by have:=h.deeds;exact IK this)) (Bk (l:=c.2.2) (λd=>.d d.data) (λ_ J U'=>(∃z,J=[al (vc c),al (vs c.1),al (.d (dl c.2.1)),al (.d (dds c.2.2)),z])/\U=U') (Hq rfl) ⟨⟨az,rfl⟩,rfl⟩ ?_ ?_)
  ·intro p d q J q_u4 hp q_r1;obtain⟨⟨z,rfl⟩,rfl⟩:=q_r1;exact Bl rfl (.F ((C0 3).sr rfl) (SD d (h.ok d (by rw[hp];simp)))) (Ab (Az _ rfl ⟨_,rfl⟩ rfl))
  intro J q_u1 q_r2;obtain⟨⟨z,rfl⟩,rfl⟩:=q_r2;refine Bk (l:=c.2.2) (λd=>.d d.data) (λ_ J U'=>(∃z,J=[al (vc c),al (vs c.1),al (.d (dl c.2.1)),al (.d (dds c.2.2)),z])/\U=U') (Hq rfl) ⟨⟨z,rfl⟩,rfl⟩ ?_ ?_
  ·intro p d q J q_u4 hp q_r3;obtain⟨⟨z,rfl⟩,rfl⟩:=q_r3;have hm:=Ad (O:=(C0 3).O) (J:=[al (vc c),al (vs c.1),al (.d (dl c.2.1)),al (.d (dds c.2.2)),al (.d d.data)]) (U:=U) (a:=.N 4) (i:=.cst (.int 1)) rfl rfl (CM d);refine C9 (MR (q:=!decide ((d.mark.getD ([],0)).1=c.1)) (Aj hm rfl (Hr d.mark)) (λq=>?_) λq q'=>?_) (by rw[ADD,ADD]) (Ab (Az _ rfl ⟨_,rfl⟩ rfl))
   ·cases e:d.mark with
    |none=>rw[e] at q;cases q
    |some m =>
     rw[e] at hm;exact Aj (Ad hm rfl rfl) rfl GA
   ·cases e:d.mark with
    |none=>rw[e] at q;cases q
    |some m =>
     rw[e] at hm q';have hl:=(h.mks d (by rw[hp];simp) m e).resolve_left λe2=>by have q':(!decide (m.1=c.1))=true:=q';rw[AAI e2] at q';cases q'
     exact Aj (Ad hm rfl rfl) rfl (by rw[IH,Cr,AAI hl];rfl)
  ·intro J q_u1 q_r4;obtain⟨⟨z,rfl⟩,rfl⟩:=q_r4;exact Ab ⟨rfl,rfl⟩)
theorem XN(c:Ch)(hd:c.2.2.length<=100):FN 2 7 [vc c] U (.d (dds (c.2.2.filter λd=>decide (d.word=Da)))) U:=by exact FN.same (C:=C0 1) (fn:=OW) (h:=AB (CG AK.data (λd=>decide (d.word=Da)) AK.data (Bv (Ad rfl rfl (CW c)) rfl) (AY hd rfl) (λd _=>EZ (Aj (Ad rfl rfl (BQ d)) (congrArg (λs=>al (V.d (.str s))) DM) EQ)) (λd _ _=>rfl)) ⟨rfl,rfl⟩)
inductive Blw(F:List Ch):List Nat->List Nat->Prop
 |one {c:Ch} {l:List Nat} (hc:c∈F) (hl:l∈c.2.1):Blw F c.1 l
 |more {c:Ch} {l m:List Nat} (hc:c∈F) (hl:l∈c.2.1) (h:Blw F l m):Blw F c.1 m
theorem IW{F:List Ch}(nd:(F.map (·.1)).Nodup){a b:Ch}(ha:a∈F)(hb:b∈F)(e:a.1=b.1):a=b:=by
 induction F with
 |nil=>cases ha
 |cons x F ih =>
  have nd:=ABX.mp nd;rcases AAR.mp ha with q|q<;>rcases AAR.mp hb with r|r
  ·rw[q,r]
  ·exact absurd (AAZ (f:=(·.1)) r) (e▸q▸nd.1)
  ·exact absurd (AAZ (f:=(·.1)) q) (e▸r▸nd.1)
  ·exact ih nd.2 q r
section
variable{F G:List Ch}{a b:List Nat}
theorem Blw.mono(h:∀c∈F,c∈G)(x:Blw F a b):Blw G a b:=by
 induction x with
 |one hc hl=>exact .one (h _ hc) hl
 |more hc hl _ ih=>exact .more (h _ hc) hl ih
theorem Blw.step(nd:(F.map (·.1)).Nodup)(hc:c∈F):Blw F c.1 m↔∃l∈c.2.1,m=l\/Blw F l m:=by
 refine⟨λh=>?_,λ⟨l,hl,h⟩=>h.elim (λe=>e▸.one hc hl) (.more hc hl)⟩;generalize en:c.1=n at h;cases h with
 |one hc' hl=>exact iEA _ (IW nd hc' hc en.symm▸hl) (.inl rfl)
 |more hc' hl h=>exact iEA _ (IW nd hc' hc en.symm▸hl) (.inr h)
theorem Dg.lean(ht:Dg F)(hc:c∈F)(hl:l∈c.2.1):l∈F.map (·.1):=by exact oEE (ACA hc) λp q e=>e▸AAQ▸AAU _ (ht p c q e l hl)
theorem Blw.names(ht:Dg F)(x:Blw F a b):b∈F.map (·.1):=by
 induction x with
 |one hc hl=>exact ht.lean hc hl
 |more _ _ _ ih=>exact ih
theorem Blw.snoc(ht:Dg F)(hn:c.1∉F.map (·.1))(ha:a∈F.map (·.1)):Blw (F++[c]) a b↔Blw F a b:=by
 refine⟨λx=>?_,Blw.mono λx hx=>AAU _ hx⟩;have inF:∀{c':Ch},c'∈F++[c]->c'.1∈F.map (·.1)->c'∈F:=λ{c'} h1 h2=>(AA0.mp h1).elim id λq=>by rw[AAJ.mp q] at h2;exact absurd h2 hn
 induction x with
 |one hc hl=>exact .one (inF hc ha) hl
 |more hc hl _ ih=>exact .more (inF hc ha) hl (ih (ht.lean (inF hc ha) hl))
end
noncomputable abbrev hK(F:List Ch):List (List Nat×Ch):=F.map λc=>(c.1,c)
noncomputable abbrev oH(F:List Ch):O:=.dictS (Bc Tx Ch.data (hK F))
abbrev Gsg:=List (List Nat×List (List Nat))
noncomputable abbrev oG(gs:Gsg):O:=.dictS (Bc Tx dl gs)
noncomputable abbrev oT(hs:Gsl):O:=.dictS (Bc Tx PyData.int hs)
noncomputable abbrev W(F:List Ch)(gs:Gsg)(hs:Gsl):Ac:=[oH F,oG gs,oT hs]
noncomputable abbrev self:V:=.obj [0,1,2]
theorem MI(F:List Ch):(hK F).map (·.1)=F.map (·.1):=by rw[AAE];rfl
theorem MM(nd:(F.map (·.1)).Nodup)(hc:c∈F):Aq (hK F) c.1=al c:=by
 induction F with
 |nil=>cases hc
 |cons a F ih =>
  have nd':=ABX.mp nd;show Aq ((a.1,a)::hK F) c.1=_;rw[Bp];rcases AAR.mp hc with rfl|hc
  ·exact if_pos rfl
  ·exact(if_neg λe=>nd'.1 (by show a.1∈F.map (·.1);rw[show a.1=c.1 from e];exact AAZ hc))▸ih nd'.2 hc
theorem inH(n:List Nat):(Aq (Bc Tx Ch.data (hK F)) (Tx n)).isSome=decide (n∈F.map (·.1)):=by
 rw[AI Ch.data BA];have h:=AJ (h:=hK F) (k:=n);rw[MI] at h;cases e:Aq (hK F) n with
 |none=>exact(AAT λq=>by obtain⟨v,hv⟩:=h.mpr q;rw[e] at hv;cases hv).symm
 |some c=>exact(AAI (h.mp ⟨c,e⟩)).symm
theorem Ij(h:C.t c J U=al t)(e:t=true)(k:Al C (OP C P r) a J U):Al C P (.cons (.I c a b) r) J U:=UP (t:=true) (e▸h) k
section
variable{O:Orc}{J:Am}{U:Ac}
theorem DS(h:Ci J 0=al self):(ev O (.R (ACG "held") (.N 0))).v J U=al (.ref 0):=by show(Ci J 0).bind (Yk (ACG "held"))=_;rw[h];kernel_rfl
theorem DD(h:Ci J 0=al self):(ev O (.R (ACG "grounds") (.N 0))).v J U=al (.ref 1):=by show(Ci J 0).bind (Yk (ACG "grounds"))=_;rw[h];kernel_rfl
theorem E6(h:Ci J 0=al self):(ev O (.R (ACG "heights") (.N 0))).v J U=al (.ref 2):=by show(Ci J 0).bind (Yk (ACG "heights"))=_;rw[h];kernel_rfl
end
def ZB(F:List Ch)(c:Ch):Prop:=∀pre d post,c.2.2=pre++d::post->∀m,d.mark=al m->(m.1=c.1/\0<=m.2/\m.2<(adds pre:Int))\/(m.1≠c.1/\∃c'∈F,c'.1=m.1/\0<=m.2/\m.2<(adds c'.2.2:Int))
theorem PK{F:List Ch}{gs:Gsg}{hs:Gsl}(nd:(F.map (·.1)).Nodup)(hg:∀c∈F,c.2.2.length<=100)(c:Ch)(hm:ZB F c):FN 3 37 [self,vc c] (W F gs hs) DW (W F gs hs):=by
 exact FN.same (C:=C0 2) (h:=by
  refine Aw rfl ?_;let K:Int->Option V->Option V->Option V->Am:=λown z3 z4 z5=>[al self,al (vc c),al (vi own),z3,z4,z5]
  refine Bk (l:=c.2.2) (λd=>.d d.data) (λp J U'=>(∃z3 z4 z5,J=K (adds p) z3 z4 z5)/\W F gs hs=U') (Bv (Ad rfl rfl (CW c)) rfl) ⟨(FH az az az rfl),rfl⟩ ?_ ?_
  ·rintro p d q J _ hp ⟨⟨z3,z4,z5,rfl⟩,rfl⟩;refine Aw (Ad rfl rfl (CM d)) (Dw (M:=λJ U'=>(∃z5,J=K (adds p) (al (.d d.data)) (al (.d (AD d.mark))) z5)/\W F gs hs=U') ?_ ?_)
   ·refine AC (Aj rfl rfl (Hr d.mark)) (λe=>?_) λe=>Ab (Ab (Az _ rfl ⟨_,rfl⟩ rfl));cases em:d.mark with
    |none=>rw[em] at e;cases e
    |some m =>
     refine Aw rfl ?_;have s0:∀{z5 U},(ev (C0 2).O (.aa (.N 4) (.i 0))).v (K (adds p) (al (.d d.data)) (al (vm m)) z5) U=al (vs m.1):=Ad rfl rfl rfl;have s1:∀{z5 U},(ev (C0 2).O (.aa (.N 4) (.i 1))).v (K (adds p) (al (.d d.data)) (al (vm m)) z5) U=al (vi m.2):=Ad rfl rfl rfl;have fin:∀n:Nat,0<=m.2->m.2<(n:Int)->Al (C0 2) (OP (C0 2) (λfl U'=>∃J',fl=.next J'/\(∃z5,J'=K (adds p) (al (.d d.data)) (al (vm m)) z5)/\W F gs hs=U') .nil) (.cons (.I (.P .Or (.t (.C .Lt (.aa (.N 4) (.i 1)) (.i 0)) (.C .GtE (.aa (.N 4) (.i 1)) (.N 5)))) .any .nil) .nil) (K (adds p) (al (.d d.data)) (al (vm m)) (al (vi n))) (W F gs hs):=λn n0 n1 =>
      C9 (IG (Aj s1 rfl Lc) λ_=>Aj s1 rfl mY) (by rw[AAT (Zz n0),AAT (Int.not_le.mpr n1)];rfl) (Ab (Ab (Az _ rfl ⟨_,rfl⟩ rfl)))
     rcases hm p d q hp m em with⟨m1,m2,m3⟩|⟨m1,c',hc',m2,m3,m4⟩
     ·exact C9 (Aj s0 (Ad rfl rfl (AM c)) GA) ((AAI m1)▸rfl) (fin _ m2 m3)
     ·refine Ij (Aj s0 (Ad rfl rfl (AM c)) GA) ((AAT m1)▸rfl) ?_;have hh:BB (.ref 0) (vs m.1) (W F gs hs)=al (vc c'):=Cq rfl (by rw[AI Ch.data BA,<-m2,MM nd hc'];rfl);refine AU rfl (.bi1 (.cons (.F (.cons ((C0 2).sv (Ad (DS rfl) s0 hh)) .nil) (XN c' (hg c' hc'))) .nil) (M4 ?_)) (Ab (fin _ m3 m4));exact(CO (U:=W F gs hs)).trans (by rw[AAB,Jg])
   ·rintro _ _ ⟨⟨z5,rfl⟩,rfl⟩;refine AC (Aj (Ad rfl rfl (BQ d)) (congrArg (λs=>al (V.d (.str s))) DM) EQ) (λe=>?_) λe=>?_
    ·exact Aw rfl (Ab (Ab (Az _ rfl (FH _ _ _ (by rw[Dp,show AF d=true from e];rfl)) rfl)))
    ·exact Ab (Ab (Az _ rfl (FH _ _ _ (by rw[Dp,show AF d=false from e];rfl)) rfl))
  ·rintro J _ ⟨⟨z3,z4,z5,rfl⟩,rfl⟩;exact Ab ⟨rfl,rfl⟩)
theorem QW(n:List Nat):BH .In (vs n) (.ref 0) (oH F::τ)=al (decide (n∈F.map (·.1))):=by show inV (oH F::τ) (vs n) (.ref 0)=_;rw[YL rfl,inH]
theorem NI(n:List Nat):BH .NotIn (vs n) (.ref 0) (oH F::τ)=al (!decide (n∈F.map (·.1))):=by show Ib (BH .In (vs n) (.ref 0) (oH F::τ))=_;rw[QW];rfl
structure IS(F:List Ch)(gs:Gsg):Prop where
 nd:(F.map (·.1)).Nodup
 topo:Dg F
 gen:∀c∈F,GenCh c
 len:F.length<=61
 gk:gs.map (·.1)=F.map (·.1)
 gin:∀p∈gs,(p.2.length<=61/\p.2.Pairwise (· < ·))/\∀l,l∈p.2↔Blw F p.1 l
structure Wq(F:List Ch)(c:Ch):Prop extends ChkOk c where
 new:c.1∉F.map (·.1)
 lin:∀l∈c.2.1,l∈F.map (·.1)
 mrk:ZB F c
 room:F.length<61
theorem Lz:∀(l:List Int) (b:Int),l.foldl (λa b=>if a<b then b else a) b+1=(l.map (· + 1)).foldl (λa b=>if a<b then b else a) (b+1)
 |[],_=>rfl
 |x::l,b=>by rw[ABP,List.foldl_cons,List.foldl_cons,Lz l];congr 1;split<;>split<;>lia
theorem Xa(l:List Int):1+EY (-1) l=EY 0 (l.map (· + 1)):=by
 cases l with
 |nil=>rfl
 |cons x l =>
  show 1+l.foldl _ x=(l.map (· + 1)).foldl _ (x+1);rw[Int.add_comm,Lz]
theorem L5(l:List Int):D6 CV (l.map vi)=al l:=by
 induction l with
 |nil=>rfl
 |cons x l ih=>show(D6 CV (l.map vi)).bind _=_;rw[ih];rfl
structure Ng(F:List Ch)(gd:List (List Nat×Bool)):Prop where
 nd:(gd.map (·.1)).Nodup
 sub:∀n∈gd.map (·.1),n∈F.map (·.1)
def eK(F:List Ch)(ls:List (List Nat))(gd:List (List Nat×Bool)):Prop:=∀n,n∈gd.map (·.1)↔∃l∈ls,n=l\/Blw F l n
theorem Ng.put(h:Ng F gd)(hn:n∈F.map (·.1)):Ng F (BX gd n true) :=
 ⟨Ls h.nd,λk hk=>((Fw k).mp hk).elim (λe=>e▸hn) (h.sub k)⟩
theorem Ng.len(h:Ng F gd):gd.length<=F.length:=by have:=G7 _ _ h.nd h.sub;rwa [AAB,AAB] at this
noncomputable abbrev oB(gd:List (List Nat×Bool)):O:=.dictS (Bc Tx PyData.bool gd)
theorem cH(hk:U[k]? = al (oB gd))(hl:∀n∈gd.map (·.1),n.length<=12)(h:gd.length<=61):Dd .list U [.ref k]=al (.d (dl (gd.map (·.1)))):=by
 show(QP U[k]?).bind mkL=_;rw[hk];show((if (Bc Tx PyData.bool gd).all (λp=>decide (p.1.length<=line))=true then al (vss ((Bc Tx PyData.bool gd).map (·.1))) else az).bind mkL)=_;rw[if_pos,bs]
 ·have e:vss ((Bc Tx PyData.bool gd).map (·.1))=((gd.map (·.1)).map λt=>PyData.str (Tx t)).map V.d:=by show((Bc Tx PyData.bool gd).map (·.1)).map _=_;unfold Bc;rw[AAE,AAE,AAE,AAE];rfl
  exact e▸JJ _ (lml (lml (AY h rfl)))
 ·rw[ACL];intro p hp;obtain⟨q,hq,rfl⟩:=AAP.mp hp;refine AAI ?_;rw[GL];exact AY (hl q.1 (AAZ hq)) rfl
theorem WK{F:List Ch}{gs:Gsg}(w:IS F gs)(c:Ch)(h:Wq F c) :
 Al (C0 4) (λfl U'=>∃gd,(Ng F gd/\eK F c.2.1 gd)/\Ff fl=DW/\U'=W (F++[c]) (gs++[(c.1,Ax (gd.map (·.1)))]) (hts [] (F++[c]))++[oB gd]) GO.body (BN GO [self,vc c]) (W F gs (hts [] F)):=by
 have hnm:∀n∈F.map (·.1),n.length<=12:=λn hn=>by obtain⟨x,hx,rfl⟩:=AAP.mp hn;exact((Cl _).mp (w.gen x hx).name).2.1
 refine Bl rfl (.F ((C0 4).sr rfl) (Vf c h.toChkOk)) (Aw (Ad rfl rfl (AM c)) ?_);refine C9 (Aj rfl (DS rfl) (QW c.1)) (AAT h.new) (Bk (λl=>vs l) (λ_ J U'=>(∃z,J=[al self,al (vc c),al (vs c.1),z,az,az])/\W F gs (hts [] F)=U') (Bv (Ad rfl rfl (Dq c)) rfl) ⟨⟨az,rfl⟩,rfl⟩ ?_ ?_)
 ·rintro p l q J _ hp ⟨⟨z,rfl⟩,rfl⟩;exact C9 (Aj rfl (DS rfl) (NI l)) ((AAI (h.lin l (by rw[hp];simp)))▸rfl) (Ab (Az _ rfl ⟨_,rfl⟩ rfl))
 rintro J _ ⟨⟨z3,rfl⟩,rfl⟩;refine Bl rfl (.ac An (by unfold mtP;kernel_rfl) ((C0 4).sv rfl) ((C0 4).sr rfl) ((PK w.nd (λx hx=>AAC (w.gen x hx).deeds (dc rfl)) c h.mrk).more (dc rfl))) ?_;have hF:=w.len;refine EL (dd:=Ch.data c) (Cn (ER rfl (AZ (A8 (Ad rfl rfl (Dq c))) (GC (lml (AY h.few rfl)))) (AZ (A8 (Ad rfl rfl (CW c))) (GC (lml (AY h.deeds rfl))))) rfl) (DS rfl) rfl rfl (by rw[Bu,AAB];exact BV hF rfl) ?_;have eH:BX (Bc Tx Ch.data (hK F)) (Tx c.1) (Ch.data c)=Bc Tx Ch.data (hK (F++[c])):=by rw[Bn Ch.data BA,He (D9.mpr (by rw[MI];exact h.new))];show Bc Tx Ch.data (F.map (λc=>(c.1,c))++[(c.1,c)])=Bc Tx Ch.data ((F++[c]).map λc=>(c.1,c));exact AAQ▸rfl
 rw[eH];refine Hy ?_;let St:List (List Nat×Bool)->Ac:=λgd=>[oH (F++[c]),oG gs,oT (hts [] F),oB gd]
 let K:Option V->Option V->Am:=λz3 z5=>[al self,al (vc c),al (vs c.1),z3,al (.ref 3),z5]
 refine Bk (λl=>vs l) (λp J U'=>∃gd,(Ng F gd/\eK F p gd)/\(∃z3 z5,J=K z3 z5)/\St gd=U') (Bv (Ad rfl rfl (Dq c)) rfl) ⟨[],⟨⟨ABY,Ah⟩,λn=>⟨(λh=>nomatch h),λ⟨l,h,_⟩=>nomatch h⟩⟩,⟨z3,az,rfl⟩,rfl⟩ ?_ ?_
 ·rintro p l q J _ hp ⟨gd,⟨G,GI⟩,⟨z3,z5,rfl⟩,rfl⟩;have hl:=h.lin l (by rw[hp];simp);refine EL rfl rfl rfl rfl (by rw[Bu];exact BV (AAC G.len hF) rfl) ?_;rw[Bn PyData.bool BA];obtain⟨ls,hls⟩:=AJ.mpr (show l∈gs.map (·.1) by rw[w.gk];exact hl);obtain⟨pr,hpr,epr,epl⟩:∃pr∈gs,pr.2=ls/\pr.1=l:=by unfold Aq at hls;obtain⟨pr,e1,e2⟩:=ABL.mp hls;exact Az pr (ABH e1) e2 (by simpa using ADA e1)
  have hin:=w.gin pr hpr;rw[epr,epl] at hin;refine Bk (λl=>vs l) (λp' J U'=>∃gd,(Ng F gd/\∀n,n∈gd.map (·.1)↔(∃l∈p,n=l\/Blw F l n)\/n=l\/n∈p')/\(∃z5,J=K (al (vs l)) z5)/\St gd=U') (Bv (Ad (DD rfl) rfl (Cq rfl (by rw[AI dl BA,hls];rfl))) rfl) (Az _ ⟨G.put hl,λn=>by rw[Fw,GI n];simp[or_comm]⟩ ⟨z5,rfl⟩ rfl) ?_ ?_
  ·rintro p' l' q' J _ hp' ⟨gd,⟨G,GJ⟩,⟨z5,rfl⟩,rfl⟩;refine EL rfl rfl rfl rfl (by rw[Bu];exact BV (AAC G.len hF) rfl) (Ab (BS _ rfl (BX gd l' true) ⟨G.put (((hin.2 l').mp (by rw[hp'];simp)).names w.topo),λn=>by
    rw[Fw,GJ n,AA0,AAJ];constructor
    ·rintro(h|h|h|h)
     ·exact .inr (.inr (.inr h))
     ·exact .inl h
     ·exact .inr (.inl h)
     ·exact .inr (.inr (.inl h))
    ·rintro(h|h|h|h)
     ·exact .inr (.inl h)
     ·exact .inr (.inr (.inl h))
     ·exact .inr (.inr (.inr h))
     ·exact .inl h⟩ ⟨_,rfl⟩ ?_))
   rw[Bn PyData.bool BA];rfl
  ·rintro J _ ⟨gd,⟨G,GJ⟩,⟨z5,rfl⟩,rfl⟩;refine Ab (BS _ rfl gd ⟨G,λn=>?_⟩ (iEE _ _ rfl) rfl);rw[GJ n,hin.2 n];constructor
   ·rintro(⟨x,hx,h⟩|h)
    ·exact iEA x (AAU _ hx) h
    ·exact iEA l (AAW _ (.head _)) h
   ·rintro⟨x,hx,h⟩;rcases AA0.mp hx with hx|hx
    ·exact .inl (iEA x hx h)
    ·exact .inr (AAJ.mp hx▸h)
 rintro J _ ⟨gd,⟨G,GI⟩,⟨z3',z5,rfl⟩,rfl⟩;have hgl:=AAC G.len hF;have hgs:gs.length<=61:=by have:=congrArg List.length w.gk;rw[AAB,AAB] at this;exact RB this hF rfl
 refine EL (AZ (A8 (AZ (A8 rfl) (cH (U:=St gd) (k:=3) rfl (λn hn=>hnm n (G.sub n hn)) hgl))) (Dr mm2 (lmt (AAS ‹_› (ACH rfl))))) (DD rfl) rfl rfl (by rw[Bu];exact BV hgs rfl) ?_;rw[Bn dl BA,He (D9.mpr (w.gk▸h.new))];have hhl:(hts [] F).length<=61:=by have:=congrArg List.length (Cm [] F);rw[AAB,AAF,AAB] at this;simp at this;exact RB this hF rfl
 have hget:∀l∈c.2.1,Aq (hts [] F) l=al ((Aq (hts [] F) l).getD 0):=λl hl=>by obtain⟨v,hv⟩:=AJ.mpr (show l∈(hts [] F).map (·.1) by rw[Cm];exact h.lin l hl);exact hv▸rfl
 have hcomp:(ev (C0 4).O (.D (.aa (.R (ACG "heights") (.N 0)) (.N 3)) [3] (.aa (.N 1) (.i 1)) .nil)).v (K z3' z5) [oH (F++[c]),oG (gs++[(c.1,Ax (gd.map (·.1)))]),oT (hts [] F),oB gd]=al (.d (.list (c.2.1.map λl=>.int ((Aq (hts [] F) l).getD 0)))):=by rw[CG (λt=>.str (Tx t)) (λ_=>true) (λl=>.int ((Aq (hts [] F) l).getD 0)) (Bv (Ad rfl rfl (Dq c)) rfl) (AY h.few rfl) (λ_ _=>rfl) (λl hl _=>Ad (E6 rfl) rfl (Cq rfl (by rw[AI PyData.int BA,hget l hl];rfl))),BT]
 have hmax:(ev (C0 4).O (.maxd (.D (.aa (.R (ACG "heights") (.N 0)) (.N 3)) [3] (.aa (.N 1) (.i 1)) .nil) (.neg (.i 1)))).v (K z3' z5) [oH (F++[c]),oG (gs++[(c.1,Ax (gd.map (·.1)))]),oT (hts [] F),oB gd]=al (vi (EY (-1) (c.2.1.map λl=>(Aq (hts [] F) l).getD 0))):=by show((ev (C0 4).O (.D _ _ _ _)).v _ _).bind _=_;rw[hcomp,bs];show(D6 CV ((c.2.1.map λl=>PyData.int ((Aq (hts [] F) l).getD 0)).map V.d)).bind _=_;rw[show(c.2.1.map λl=>PyData.int ((Aq (hts [] F) l).getD 0)).map V.d=(c.2.1.map λl=>(Aq (hts [] F) l).getD 0).map vi by rw[AAE,AAE];rfl,L5];rfl
 refine EL (dd:=.int (hv (hts [] F) c.2.1)) ((Ae rfl hmax rfl).trans ?_) (E6 rfl) rfl rfl (by rw[Bu];exact BV hhl rfl) (Ab (Az gd ⟨G,GI⟩ rfl ?_))
 ·rw[Xa,AAE];rfl
 ·rw[Bn PyData.int BA,He (D9.mpr (by rw[Cm];exact h.new)),Hw];rfl
theorem Hn{F:List Ch}{gs:Gsg}{hs:Gsl}(m k:Nat)(o:O)(e:(W F gs hs)[k]? = al o):F7 m o:=by
 match k,e with
 |0,e=>rw[<-AAA e];exact trivial
 |1,e=>rw[<-AAA e];exact trivial
 |2,e=>rw[<-AAA e];exact trivial
 |k+3,e=>exact Aa e
theorem F6:low 3 self:=λk hk=>by have:k∈[0,1,2]:=hk;simp at this;exact(by omega)
theorem PQ{F:List Ch}{gs:Gsg}(w:IS F gs)(c:Ch)(h:Wq F c):∃gs',IS (F++[c]) gs'/\∀τ,FN 5 36 [self,vc c] (W F gs (hts [] F)++τ) DW (W (F++[c]) gs' (hts [] (F++[c]))++τ):=by
 refine Bb (FN.ends (f:=36) (R:=λv U'=>∃gd,(Ng F gd/\eK F c.2.1 gd)/\v=DW/\U'=W (F++[c]) (gs++[(c.1,Ax (gd.map (·.1)))]) (hts [] (F++[c]))++[oB gd]) (hn:=by decide) (h:=WK w c h)) λv U' q_2 hf=>?_;obtain⟨gd,⟨G,GI⟩,k1,k2⟩:=q_2;rw[k1,k2] at hf;have sub:∀l,l∈F.map (·.1)->l∈(F++[c]).map (·.1):=λl hl=>by rw[AAQ];exact AAU _ hl
 have nd':((F++[c]).map (·.1)).Nodup:=by rw[AAQ,ABW];exact⟨w.nd,ABX.mpr ⟨AA1,ABY⟩,λa ha b hb e=>h.new (by have hb:b=c.1:=AAJ.mp hb;rw[<-hb,<-e];exact ha)⟩
 refine(iEA (gs++[(c.1,Ax (gd.map (·.1)))]) ⟨nd',w.topo.snoc h.lin,λx hx=>?_,?_,?_,λp hp=>?_⟩ (λτ=>?_))
 ·rcases AA0.mp hx with hx|hx
  ·exact w.gen x hx
  ·exact(AAJ.mp hx)▸h.toGenCh
 ·exact AAF▸h.room
 ·rw[AAQ,AAQ,w.gk];rfl
 ·rcases AA0.mp hp with hp|hp
  ·have hp1:p.1∈F.map (·.1):=by rw[<-w.gk];exact AAZ hp
   exact⟨(w.gin p hp).1,λl=>((w.gin p hp).2 l).trans (Blw.snoc w.topo h.new hp1).symm⟩
  ·rw[AAJ.mp hp];refine⟨⟨?_,BM _ G.nd⟩,λl=>?_⟩
   ·rw[(Af _).length_eq,AAB];exact AAC G.len w.len
   ·rw[(Af _).mem_iff,GI l,Blw.step nd' (AAW _ (.head _))];refine exists_congr λx=>and_congr_right λhx=>or_congr Iff.rfl (Blw.snoc w.topo h.new (h.lin x hx)).symm
 ·exact FA.tail (FA.seal' hf rfl (Hn 3) rfl) rfl (af F6 (af (CZ _ _) Ah)) (Hn 3)
theorem Qh:∀{ds:List AK} {k:Nat},DOk nm ms ds k->∀pre d post,ds=pre++d::post->∀m,d.mark=al m->m∈ms\/(m.1=nm/\0<=m.2/\m.2<((k+adds pre:Nat):Int))
 |[],_,_,pre,d,post,e=>by simp at e
 |a::ds,k,h,[],d,post,e=>by refine oA (List.cons.inj e) λq_0 _=>?_;subst q_0;exact h.1
 |a::ds,k,h,b::pre,d,post,e=>by
  refine oA (List.cons.inj e) λq_0 e2=>?_;subst q_0;intro m hm;have:=Qh h.2 pre d post e2 m hm;have e1:(if AF a then k+1 else k)+adds pre=k+adds (a::pre):=by show _=k+((if AF a then 1 else 0)+adds pre);split<;>omega
  rw[e1] at this;exact this
theorem Co{cs:List Ch}(nd:(cs.map (·.1)).Nodup){a b:Ch}(ha:a∈cs)(hb:b∈cs)(e:a.1=b.1):a=b:=by have h1:=MM nd ha;rw[e,MM nd hb] at h1;exact(AAA h1).symm
theorem JK(h:m∈C6 pre ls):∃c'∈pre,c'.1∈ls/\c'.1=m.1/\0<=m.2/\m.2<(adds c'.2.2:Int):=by refine oEA (List.mem_flatMap.mp h) λc' h1 h2=>?_;have h1:=AA4.mp h1;have h3:=DJ.mp h2;exact MD c' h1.1 (AAG h1.2) h3.1.symm (by have:=h3.2.1;simpa using this) (by have:=h3.2.2;simpa using this)
theorem Qa(H:AR cs)(hg:∀c∈cs,GenCh c)(hl:cs.length<=61)(hp:F.Perm cs)(ht:Dg F)(e:F=pre++c::post):Wq pre c:=by
 have hc:c∈cs:=hp.mem_iff.mp (by rw[e];simp);have hpre:∀x∈pre,x∈cs:=λx hx=>hp.mem_iff.mp (e▸AAU _ hx);refine oEE (ACA hc) λa b ec=>oA (H.ok a c b ec) λh1 h2=>?_;have ha:∀x∈a,x∈cs:=λx hx=>by rw[ec];exact AAU _ hx
 have ndF:=(hp.map _).nodup_iff.mpr H.nd;have lin:=ht pre c post e;have self':=λq=>by have nd:=H.nd;rw[ec,AAQ,ABP,ABW] at nd;exact nd.2.2 c.1 (h1 c.1 q) c.1 (.head _) rfl
 refine⟨⟨hg c hc,λl hl=>?_,self',λd hd m hm=>?_⟩,?_,lin,λp d q ed m hm=>?_,?_⟩
 ·refine oEA (AAP.mp (lin l hl)) λx hx q_2=>?_;subst q_2;exact(hg x (hpre x hx)).name
 ·refine oEE (ACA hd) λp q ed=>?_;rcases Qh h2 p d q ed m hm with q|q
  ·exact Lw (JK q) λc' _ k1 k2 _=>.inr (k2▸k1)
  ·exact .inl q.1
 ·rw[e,AAQ,ABP,ABW] at ndF;exactλq=>ndF.2.2 c.1 q c.1 (.head _) rfl
 ·rcases Qh h2 p d q ed m hm with q|q
  ·refine Mt (JK q) λc' k0 k1 k2 k3 k4=>oEA (AAP.mp (lin c'.1 k1)) λx hx ex=>?_;obtain rfl:=Co H.nd (hpre x hx) (ha c' k0) ex;exact .inr (cQ (λq=>self' (q▸k2▸k1)) x hx k2 k3 k4)
  ·exact .inl ⟨q.1,q.2.1,by have:=q.2.2;rwa [AC2] at this⟩
 ·have:=hp.length_eq;rw[e,AAF,AA2] at this;exact(FM this.symm hl)
theorem UV(H:AR cs)(hg:∀c∈cs,GenCh c)(hl:cs.length<=61)(hp:F.Perm cs)(ht:Dg F):∃gs,IS F gs/\FN 6 27 [.d (.list (F.map Ch.data))] [] self (W F gs (hts [] F)):=by
 refine Bb (FN.ends (C:=C0 5) (f:=27) (zs:=[.d (.list (F.map Ch.data))]) (U:=[]) (R:=λv U'=>∃gs,IS F gs/\v=self/\U'=W F gs (hts [] F)) (h:=by
  refine AU rfl (.new (f:=35) (by unfold mtP;kernel_rfl) (by unfold Pg;rfl)) (Bk vc (λp J U=>∃gs,IS p gs/\(∃z,J=[al (.d (.list (F.map Ch.data))),al self,z])/\W p gs (hts [] p)=U) (Hq rfl) (Az [] ⟨ABY,λpre c post e=>by simp at e,Ah,ABF _,rfl,λp h=>nomatch h⟩ ⟨az,rfl⟩ rfl) ?_ ?_)
  ·intro p c q J q_u4 e q_r1;obtain⟨gs,w,⟨z,rfl⟩,rfl⟩:=q_r1;have A:=Qa H hg hl hp ht e;obtain⟨gs',w',hf⟩:=PQ w c A;exact Bl rfl (.ac An (by unfold mtP;kernel_rfl) ((C0 5).sv rfl) (.cons (.F ((C0 5).sr rfl) ((XK c (AY A.few rfl) (AY A.deeds rfl)).more (dc rfl))) .nil) (hf [])) (Ab (BS _ rfl gs' w' ⟨_,rfl⟩ ((AAV _).symm)))
  ·intro J q_u1 q_r2;obtain⟨gs,w,⟨z,rfl⟩,rfl⟩:=q_r2;exact AB rfl (Az gs w rfl rfl))) λv U' q_2 h=>?_
 obtain⟨gs,k1,k2,k3⟩:=q_2;rw[k2,k3] at h;exact iEA gs k1 h
noncomputable def ltI(a b:Int):Bool:=decide (a<b)
theorem DZ{κ κ' α α':Type}{lt:κ->κ->Bool}{lt':κ'->κ'->Bool}(f:κ×α->κ'×α')(h:∀p q,lt' (f p).1 (f q).1=lt p.1 q.1)(l:List (κ×α)):AH lt' (l.map f)=(AH lt l).map f:=by
 have ins:∀(p:κ×α) (l:List (κ×α)),Dh lt' (f p) (l.map f)=(Dh lt p l).map f:=by
  intro p l
  induction l with
  |nil=>rfl
  |cons q r ih =>
   show(if lt' (f q).1 (f p).1 then f q::Dh lt' (f p) (r.map f) else f p::f q::r.map f)=(if lt q.1 p.1 then q::Dh lt p r else p::q::r).map f;rw[h,ih];split<;>rfl
 induction l with
 |nil=>rfl
 |cons p r ih =>
  show Dh lt' (f p) (AH lt' (r.map f))=(Dh lt p (AH lt r)).map f;rw[ih,ins]
noncomputable def ltN(a b:List Nat):Bool:=decide (a<b)
theorem mQ:Wc ltN:=⟨λa=>AAT (List.lt_irrefl a),λa b c h h'=>AAI (List.lt_trans (AAG h) (AAG h')),λa b h h'=>List.le_antisymm (List.not_lt.mp (ABG h')) (List.not_lt.mp (ABG h))⟩
theorem gM:Wc ltI:=⟨λa=>AAT (Int.lt_irrefl a),λa b c h h'=>AAI (Int.lt_trans (AAG h) (AAG h')),λa b h h'=>by have:=ABG h;have:=ABG h';exact Z3 ‹_› this⟩
noncomputable def A9(cs:List Ch):List Ch:=((AH ltN (cs.map λc=>(c.1,c)).reverse).reverse).map (·.2)
noncomputable def AL(cs:List Ch):List Ch:=(AH ltI ((A9 cs).map λc=>(hgt cs c.1,c))).map (·.2)
theorem CU(cs:List Ch):(A9 cs).Perm cs:=by have h:=((AC5 _).trans ((Bh (lt:=ltN) (cs.map λc=>(c.1,c)).reverse).trans (AC5 _))).map (·.2);rw[AAE,show((λx:List Nat×Ch=>x.2)∘λc:Ch=>(c.1,c))=id from rfl,List.map_id] at h;exact h
theorem ES(hn:(cs.map (·.1)).Nodup):(A9 cs).Pairwise λa b=>b.1<a.1:=by
 have h0:(cs.map λc=>(c.1,c)).reverse.Pairwise λa b:List Nat×Ch=>a.1≠b.1:=by rw[List.pairwise_reverse,ACU];have:=hn;rw[List.Nodup,ACU] at this;exact this.imp λh e=>h e.symm
 unfold A9;rw[ACU,List.pairwise_reverse];refine(DY mQ _ h0).imp_of_mem λ{a b} ha hb h=>?_;have key:∀x:List Nat×Ch,x∈AH ltN (cs.map λc=>(c.1,c)).reverse->x.1=x.2.1:=λx hx=>by have:=ADW.mp ((Bh _).mem_iff.mp hx);refine oEA (AAP.mp this) λc _ q_2=>?_;subst q_2;rfl
 rcases h with h|h
 ·exact(key a ha)▸(key b hb)▸AAG h
 ·exact(h.2 h.1).elim
theorem CX(hn:(cs.map (·.1)).Nodup):Ma (hgt cs) cs (AL cs):=by
 have h0:((A9 cs).map λc=>(hgt cs c.1,c)).Pairwise λa b:Int×Ch=>b.2.1<a.2.1:=by rw[ACU];exact ES hn
 refine⟨?_,?_⟩
 ·have h:=(Bh (lt:=ltI) ((A9 cs).map λc=>(hgt cs c.1,c))).map (·.2);rw[AAE,show((λx:Int×Ch=>x.2)∘λc:Ch=>(hgt cs c.1,c))=id from rfl,List.map_id] at h;have h2:(AL cs).Perm (A9 cs):=h;exact h2.trans (CU cs)
 ·unfold AL;rw[ACU];refine(DY gM _ h0).imp_of_mem λ{a b} ha hb h=>?_;have key:∀x:Int×Ch,x∈AH ltI ((A9 cs).map λc=>(hgt cs c.1,c))->x.1=hgt cs x.2.1:=λx hx=>by refine oEA (AAP.mp ((Bh _).mem_iff.mp hx)) λc _ q_2=>?_;subst q_2;rfl
  unfold Bf;exact(key a ha)▸(key b hb)▸h.imp AAG id
theorem MF(nd:(F.map (·.1)).Nodup)(ht:Dg F)(hc:c∈F):hgt F c.1=EY 0 (c.2.1.map λl=>hgt F l+1):=by
 refine oEE (ACA hc) λpre post q_2=>?_;subst q_2;have nd':=nd;rw[AAQ,ABP,ABW] at nd';have hn:Aq (hts [] pre) c.1=az:=D9.mpr (by rw[Cm];exactλq=>nd'.2.2 c.1 q c.1 (.head _) rfl);have old:∀{n v},Aq (hts [] pre++[(c.1,hv (hts [] pre) c.2.1)]) n=al v->hgt (pre++c::post) n=v:=λ{n v} e=>by unfold hgt;rw[Hw,hts,ME e];rfl
 rw[old (v:=hv (hts [] pre) c.2.1) (by rw[Gf hn,Bp,if_pos rfl])];unfold hv;congr 1;exact AC8 λl hl=>oE (AJ.mpr (show l∈(hts [] pre).map (·.1) by rw[Cm];exact ht pre c post rfl l hl)) λv hv'=>(old (Kb hv'))▸hv'▸rfl
theorem Hx{F G:List Ch}(nd:(F.map (·.1)).Nodup)(hp:G.Perm F)(hF:Dg F)(hG:Dg G):∀c∈F,hgt F c.1=hgt G c.1:=by
 have ndG:(G.map (·.1)).Nodup:=(hp.map _).nodup_iff.mpr nd;have key:∀(post pre:List Ch),F=pre++post->(∀c∈pre,hgt F c.1=hgt G c.1)->∀c∈F,hgt F c.1=hgt G c.1:=by
  intro post
  induction post with
  |nil=>intro pre e h;rw[AAV] at e;rw[e] at h ⊢;exact h
  |cons x post ih =>
   intro pre e h;refine ih (pre++[x]) (by rw[ABQ];exact e) λc hc=>?_;rcases AA0.mp hc with hc|hc
   ·exact h c hc
   ·rw[AAJ.mp hc];have hx:x∈F:=by rw[e];simp
    rw[MF nd hF hx,MF ndG hG (hp.mem_iff.mpr hx)];congr 1;refine AC8 λl hl=>oEA (AAP.mp (hF pre x post e l hl)) λy hy q_2=>?_;subst q_2;rw[h y hy]
 exact key F [] rfl λc h=>nomatch h
theorem AR.topo(H:AR cs):Dg cs:=λpre c post e=>(H.ok pre c post e).1
theorem TM{F G:List Ch}(nd:(F.map (·.1)).Nodup)(hp:G.Perm F)(hF:Dg F)(hG:Dg G):AL G=AL F:=by have ndG:(G.map (·.1)).Nodup:=(hp.map _).nodup_iff.mpr nd;have h2:=CX ndG;refine Ma.uniq (H:=hgt F) (cs:=F) ⟨h2.perm.trans hp,h2.bf.imp_of_mem λ{a b} ha hb h=>?_⟩ (CX nd);unfold Bf at h ⊢;exact(Hx nd hp hF hG a (hp.mem_iff.mp (h2.perm.mem_iff.mp ha)))▸(Hx nd hp hF hG b (hp.mem_iff.mp (h2.perm.mem_iff.mp hb)))▸h
theorem Ee{C:Cfg}{J:Am}{α:Type}{l:List α}(w:α->V)(ac:List α->Am->Ac->Prop)(hit:SI (C.n+3) it J U (l.map w) [] ag)(hJ:ac [] J ag)
 (hf:∀p a q J U,l=p++a::q->ac p J U->Al C (λfl U'=>∃J',fl=.next J'/\ac (p++[a]) J' U') body (J.set x (al (w a))) U) (k:∀J' U',ac l J' U'->Al C P r J' U'):Al C P (.cons (.L [x] it body) r) J U:=by
 exact Bb (Qm (ts:=[x]) (kps:=[]) w ac l [] J ag (λ_ _ _ _ _ _ m=>nomatch m) (λ_ _=>.inl rfl) hJ hf) λJe Ue h1 h2=>Cs (λQ q=>.L hit (h2 Q q)) (k Je Ue h1)
theorem Km(cs:List Ch)(hg:∀c∈cs,c.2.1.length<=61)(hl:cs.length<=61)(nd:(cs.map (·.1)).Nodup)(ht:Dg cs):FN 2 19 [.d (.list (cs.map Ch.data))] [] (.ref 0) [oT (hts [] cs)]:=by
 exact FN.same (C:=C0 1) (h:=by
  refine Hy (Bk vc (λp J U=>(∃z2 z3,J=[al (.d (.list (cs.map Ch.data))),al (.ref 0),z2,z3])/\[oT (hts [] p)]=U) (Hq rfl) ⟨(iEE az az rfl),rfl⟩ ?_ ?_)
  ·rintro p c q J _ e ⟨⟨z2,z3,rfl⟩,rfl⟩;have hc:c∈cs:=by rw[e];simp
   have hget:∀l∈c.2.1,Aq (hts [] p) l=al ((Aq (hts [] p) l).getD 0):=λl hl=>by obtain⟨v,hv⟩:=AJ.mpr (show l∈(hts [] p).map (·.1) by rw[Cm];exact ht p c q e l hl);exact hv▸rfl
   have hcomp:(ev (C0 1).O (.D (.B .Add (.aa (.N 1) (.N 3)) (.i 1)) [3] (.aa (.N 2) (.i 1)) .nil)).v [al (.d (.list (cs.map Ch.data))),al (.ref 0),al (vc c),z3] [oT (hts [] p)]=al (.d (.list (c.2.1.map λl=>.int ((Aq (hts [] p) l).getD 0+1)))):=by rw[CG (λt=>.str (Tx t)) (λ_=>true) (λl=>.int ((Aq (hts [] p) l).getD 0+1)) (Bv (Ad rfl rfl (Dq c)) rfl) (AY (hg c hc) rfl) (λ_ _=>rfl) (λl hl _=>Ae (Ad rfl rfl (Cq rfl (by rw[AI PyData.int BA,hget l hl];rfl))) rfl rfl),BT]
   have hmax:(ev (C0 1).O (.maxd (.D (.B .Add (.aa (.N 1) (.N 3)) (.i 1)) [3] (.aa (.N 2) (.i 1)) .nil) (.i 0))).v [al (.d (.list (cs.map Ch.data))),al (.ref 0),al (vc c),z3] [oT (hts [] p)]=al (vi (hv (hts [] p) c.2.1)):=by show((ev (C0 1).O (.D _ _ _ _)).v _ _).bind _=_;rw[hcomp,bs];show(D6 CV ((c.2.1.map λl=>PyData.int ((Aq (hts [] p) l).getD 0+1)).map V.d)).bind _=_;rw[show(c.2.1.map λl=>PyData.int ((Aq (hts [] p) l).getD 0+1)).map V.d=(c.2.1.map λl=>(Aq (hts [] p) l).getD 0+1).map vi by rw[AAE,AAE];rfl,L5];rfl
   have hpl:(hts [] p).length<=61:=by have h1:=congrArg List.length (Cm [] p);have h2:=congrArg List.length e;simp at h1 h2;exact(LU h2 (Nat.le_of_eq h1) hl rfl)
   refine EL hmax rfl (Ad rfl rfl (AM c)) rfl (by rw[Bu];exact BV hpl rfl) (Ab (Az _ rfl (iEE _ _ rfl) ?_));rw[Bn PyData.int BA,He (D9.mpr ?_),Hw]
   ·rfl
   ·rw[Cm];rw[e,AAQ,ABP,ABW] at nd;exactλq=>nd.2.2 c.1 q c.1 (.head _) rfl
  ·rintro J _ ⟨⟨z2,z3,rfl⟩,rfl⟩;exact AB rfl ⟨rfl,rfl⟩)
noncomputable abbrev Sm:=List Mk×List (Mk×List Nat)×List (Mk×Bool)
noncomputable def stD(nm:List Nat)(k:Nat)(d:AK)(s:Sm):Sm :=
 if AF d then(JU d.mark (nm,(k:Int)) s.1,BX s.2.1 (nm,(k:Int)) (d.text.getD []),s.2.2)
 else if d.word=Ho then(s.1,BX s.2.1 (d.mark.getD ([],0)) (d.text.getD []),s.2.2) else(s.1,s.2.1,BX s.2.2 (d.mark.getD ([],0)) true)
noncomputable def G3(nm:List Nat):List AK->Nat->Sm->Sm
 |[],_,s=>s
 |d::ds,k,s=>G3 nm ds (if AF d then k+1 else k) (stD nm k d s)
noncomputable def stC(s:Sm)(c:Ch):Sm:=G3 c.1 c.2.2 0 s
noncomputable def AX(O:List Ch):Sm:=O.foldl stC ([],[],[])
theorem Em(nm:List Nat)(d:AK):∀(D:List AK) (k:Nat) (s:Sm),G3 nm (D++[d]) k s=stD nm (k+adds D) d (G3 nm D k s)
 |[],k,s=>rfl
 |e::D,k,s=>by show G3 nm (D++[d]) (if AF e then k+1 else k) (stD nm k e s)=stD nm (k+((if AF e then 1 else 0)+adds D)) d (G3 nm D (if AF e then k+1 else k) (stD nm k e s));rw[Em nm d D];congr 1;split<;>omega
theorem W9(nm:List Nat)(k:Nat)(d:AK)(s:Sm):(stD nm k d s).1=if AF d then JU d.mark (nm,(k:Int)) s.1 else s.1:=by
 unfold stD;split
 ·rfl
 ·split<;>rfl
theorem GW(nm:List Nat):∀(ds:List AK) (k:Nat) (s:Sm),(G3 nm ds k s).1=HY nm ds k s.1
 |[],_,_=>rfl
 |d::ds,k,s=>by
  show(G3 nm ds _ (stD nm k d s)).1=if AF d then HY nm ds (k+1) (JU d.mark (nm,(k:Int)) s.1) else HY nm ds k s.1
  rw[GW,W9];split<;>rfl
theorem Jp(O:List Ch)(c:Ch):AX (O++[c])=stC (AX O) c:=by unfold AX;exact List.foldl_append▸rfl
theorem HR(O:List Ch):(AX O).1=Ju O []:=by
 have key:∀(O:List Ch) (s:Sm),(O.foldl stC s).1=Ju O s.1:=by
  intro O
  induction O with
  |nil=>exactλ_=>rfl
  |cons c O ih =>
   intro s;show(O.foldl stC (stC s c)).1=Ju O (HY c.1 c.2.2 0 s.1);rw[ih,show(stC s c).1=HY c.1 c.2.2 0 s.1 from GW ..]
 exact key O _
theorem MH{κ β:Type}[DecidableEq κ]{h:List (κ×β)}{k k':κ}{v:β}(e:k'=k\/∃l,Aq h k'=al l):∃l,Aq (BX h k v) k'=al l:=by
 rw[AJ,Fw];rcases e with e|e
 ·exact .inl e
 ·exact .inr (AJ.mp e)
structure E8(B:Nat)(s:Sm):Prop where
 row:s.1.length<=B
 wd:s.2.1.length<=B
 gn:s.2.2.length<=B
 has:∀m∈s.1,∃l,Aq s.2.1 m=al l
theorem E8.step(h:E8 B s)(nm:List Nat)(k:Nat)(d:AK):E8 (B+1) (stD nm k d s):=by
 unfold stD;split
 ·refine⟨?_,AAC (ED _ _ _) (ABS h.wd),AB4 h.gn,λm hm=>?_⟩
  ·exact((Ew ..).length_eq)▸AA2▸ABS h.row
  ·rcases AAR.mp ((Ew ..).mem_iff.mp hm) with q|q
   ·exact MH (.inl q)
   ·exact MH (.inr (h.has m q))
 ·split
  ·exact⟨AB4 h.row,AAC (ED _ _ _) (ABS h.wd),AB4 h.gn,λm hm=>MH (.inr (h.has m hm))⟩
  ·exact⟨AB4 h.row,AB4 h.wd,AAC (ED _ _ _) (ABS h.gn),h.has⟩
noncomputable abbrev Pk(l:List Nat):PyData:=.str (Tx l)
noncomputable abbrev oR(r:List Mk):O:=.list (r.map vm)
noncomputable abbrev oW(wd:List (Mk×List Nat)):O:=.dictP (Bc mk2 Pk wd)
noncomputable abbrev oN(gn:List (Mk×Bool)):O:=.dictP (Bc mk2 PyData.bool gn)
noncomputable abbrev three(s:Sm):Ac:=[oR s.1,oW s.2.1,oN s.2.2]
theorem MQ(hd:AF d=true):∀(D1:List AK) (k:Nat) (r:List Mk),Iy q nm (D1++d::D2) k r->∀m,d.mark=al m->m∈HY nm D1 k r
 |[],k,r,h,m,hm=>by have h:(if AF d then(∀m,d.mark=al m->q m=true/\m∈r)/\Iy q nm D2 (k+1) (JU d.mark (nm,(k:Int)) r) else Iy q nm D2 k r):=h;rw[if_pos hd] at h;exact(h.1 m hm).2
 |e::D1,k,r,h,m,hm=>by
  have h:(if AF e then(∀m,e.mark=al m->q m=true/\m∈r)/\Iy q nm (D1++d::D2) (k+1) (JU e.mark (nm,(k:Int)) r) else Iy q nm (D1++d::D2) k r):=h;show m∈if AF e then HY nm D1 (k+1) (JU e.mark (nm,(k:Int)) r) else HY nm D1 k r
  by_cases he:AF e=true
  ·rw[if_pos he] at h ⊢;exact MQ hd D1 _ _ h.2 m hm
  ·rw[if_neg he] at h ⊢;exact MQ hd D1 _ _ h m hm
theorem Ky(h:BU d):(AF d=true/\d.word=Da/\∃l,d.text=al l)\/(AF d=false/\d.word=Ho/\∃m l,d.mark=al m/\d.text=al l)\/(AF d=false/\d.word=Gj/\∃m,d.mark=al m):=by
 rcases h.shp with⟨e,l,e2,_⟩|⟨e,m,l,e2,e3,_⟩|⟨e,m,e2⟩
 ·exact .inl (gZ (AAI e) e l e2)
 ·exact .inr (.inl ⟨AAT (e▸cG),e,m,l,e2,e3⟩)
 ·exact .inr (.inr (gZ (AAT (e▸cF)) e m e2))
theorem UD(hm:∀k,m=al k->k∈row):∃a:Nat,a<=row.length/\row.take a++x::row.drop a=JU m x row/\(m=az->a=0)/\∀k,m=al k->∃j,a=j+1/\Of (AD (al k)) (row.map λm=>AD (al m))=al j:=by
 cases m with
 |none=>exact Hv 0 (ABF _) rfl (λ_=>rfl) (λk e=>Aa e)
 |some k =>
  exact AS (Ra k x row (hm k rfl)) λj j1 j2 j3=>Hv (j+1) j2 j3 (λe=>GY e) (λk' e=>AAA e▸(iEA j rfl j1))
noncomputable def YI:S:=match Wj.body with|.cons _ (.cons _ (.cons _ (.cons (.L _ _ b) _)))=>b|_=>.nil
noncomputable def gL:S:=match YI with|.cons _ (.cons (.L _ _ b) _)=>b|_=>.nil
theorem YQ{O:Orc}{ys:List V}(h1:Ci J i=al (.ref k))(h2:(ev O es).row J U=al ys)(h3:MA U (.ref k) ys=al v):(ev O (.H .index (.N i) es)).v J U=al v:=by show((Ci J i).bind λx=>((ev O es).row J U).bind λys=>MA U x ys)=_;exact h1▸bs▸h2▸bs▸h3
theorem Pd(hd:BU d)(hm:AF d=true->∀m,d.mark=al m->m∈s.1)(hs:E8 B s)(hB:B<=10000) :
 Al C (λfl U'=>∃J',fl=.next J'/\(∃z10,J'=[a0,a1,a2,al (vc c),al (.ref 1),al (.ref 2),al (.ref 3),al (vi ((own+(if AF d then 1 else 0):Nat):Int)),al (.d d.data),z9,z10,z11])/\U'=o0::three (stD c.1 own d s))
  gL [a0,a1,a2,al (vc c),al (.ref 1),al (.ref 2),al (.ref 3),al (vi own),al (.d d.data),z9,z10,z11] (o0::three s):=by
 obtain⟨row,wd,gn⟩:=s;have hx:∀{J:Am} {U:Ac},Ci J 8=al (.d d.data)->(ev C.O (.aa (.N 8) (.i 1))).v J U=al (.d (AD d.mark)):=λh=>Ad h rfl (CM d);have hw:∀{J:Am} {U:Ac} {s:String} {k:List Nat},ACG s=Tx k->Ci J 8=al (.d d.data)->C.t (.C .Eq (.aa (.N 8) (.i 0)) (.cst (.str (ACG s)))) J U=al (decide (d.word=k)):=λe h=>Aj (Ad h rfl (BQ d)) (congrArg (λs=>al (V.d (.str s))) e) EQ;have htup:∀{z10:Option V} {U:Ac},(ev C.O (.tup (.t (.aa (.N 3) (.i 0)) (.N 7)))).v [a0,a1,a2,al (vc c),al (.ref 1),al (.ref 2),al (.ref 3),al (vi own),al (.d d.data),z9,z10,z11] U=al (vm (c.1,(own:Int))):=Cn (Bg (Ad rfl rfl (AM c)) rfl) rfl;have hwl:wd.length<line:=BV (AAC hs.wd hB) rfl;have hgl:gn.length<line:=BV (AAC hs.gn hB) rfl;have hrl:row.length<line:=BV (AAC hs.row hB) rfl;rcases Ky hd with⟨ia,e1,l,e2⟩|⟨ia,e1,m,l,e2,e3⟩|⟨ia,e1,m,e2⟩
 ·refine Ij (hw DM rfl) (AAI e1) (Aw rfl ?_);obtain⟨a,h1,h2,h3,h4⟩:=UD (hm ia);refine Dw (M:=λJ U'=>J=[a0,a1,a2,al (vc c),al (.ref 1),al (.ref 2),al (.ref 3),al (vi own),al (.d d.data),z9,al (vi (a:Int)),z11]/\U'=o0::three (row,wd,gn)) ?_ ?_
  ·refine AC (Aj (hx rfl) rfl (Hr d.mark)) (λe=>?_) λe=>?_
   ·cases em:d.mark with
    |none=>rw[em] at e;cases e
    |some k =>
     refine oEA (h4 k em) λj j1 j2=>Aw ((Ae (YQ rfl (A8 ((hx rfl).trans (by rw[em]))) (QZ rfl j2)) rfl rfl).trans (j1▸rfl)) (Ab (Ab (Az _ rfl rfl rfl)))
   ·have em:d.mark=az:=by
     cases em:d.mark with
     |none=>rfl
     |some k=>rw[em] at e;cases e
    exact(h3 em)▸Ab (Ab (Az _ rfl rfl rfl))
  rintro _ _ ⟨rfl,rfl⟩;refine L9 rfl (Bg rfl htup) rfl (lmt hrl) (AB9 _) (by rw[AAB];exact h1) (EM (w:=mk2 (c.1,(own:Int))) (Ad rfl rfl (El d e2)) rfl htup rfl (by rw[Bu];exact hwl) ?_);refine Aw rfl (Ab (Ab (Az _ rfl ⟨_,by rw[if_pos ia];rfl⟩ ?_)));unfold stD;rw[if_pos ia,Bn Pk DK,e2];rw[Int.toNat_natCast,<-List.map_take,<-List.map_drop,<-ABP,<-AAQ,h2];rfl
 ·refine AC (hw DM rfl) (λe=>absurd (AAG e) (e1▸cG)) λ_=>Ij (hw ID rfl) (AAI e1) (EM (w:=mk2 m) (Ad rfl rfl (El d e3)) rfl ((hx rfl).trans (e2▸rfl)) rfl (by rw[Bu];exact hwl) (Ab (Ab (Ab (Az _ rfl ⟨_,by rw[ia];rfl⟩ ?_)))));unfold stD;rw[if_neg (by rw[ia];decide),if_pos e1,Bn Pk DK,e2,e3];rfl
 ·refine AC (hw DM rfl) (λe=>absurd (AAG e) (e1▸cF)) λ_=>AC (hw ID rfl) (λe=>absurd (AAG e) (e1▸Xq)) λ_=>EM (w:=mk2 m) rfl rfl ((hx rfl).trans (e2▸rfl)) rfl (by rw[Bu];exact hgl) (Ab (Ab (Ab (Az _ rfl ⟨_,by rw[ia];rfl⟩ ?_))));unfold stD;rw[if_neg (by rw[ia];decide),if_neg (e1▸Xq),Bn PyData.bool DK,e2];rfl
theorem FO{α β γ:Type}{R:β->γ->Prop}{f:α->β}{g:α->γ}:∀{l:List α},(∀a∈l,R (f a) (g a))->Ay R (l.map f) (l.map g)
 |[],_=>trivial
 |_::_,h=>⟨h _ (.head _),FO λb hb=>h b (.tail _ hb)⟩
theorem Fj{α β γ:Type}(f:α->β)(g:α->γ):∀l:List α,(l.map f).zip (l.map g)=l.map λa=>(f a,g a)
 |[]=>rfl
 |a::l=>congrArg ((f a,g a)::·) (Fj f g l)
theorem V2(h:Ch.data a=Ch.data b):a.1=b.1:=by
 unfold Ch.data at h;injection h with h
 injection h with h
 injection h with h
 exact FQ h
theorem Kz{cs:List Ch}(nd:(cs.map (·.1)).Nodup):(cs.map Ch.data).Nodup:=by rw[List.Nodup,ACU] at nd ⊢;exact nd.imp λh e=>h (V2 e)
theorem RT(cs:List Ch):Dt true B9 ((cs.map λc=>Tx c.1).zip (cs.map Ch.data))=(A9 cs).map Ch.data:=by rw[Fj];show(AH B9 (cs.map λc=>(Tx c.1,Ch.data c)).reverse).reverse.map (·.2)=(((AH ltN (cs.map λc=>(c.1,c)).reverse).reverse).map (·.2)).map Ch.data;rw[show(cs.map λc=>(Tx c.1,Ch.data c)).reverse=((cs.map λc=>(c.1,c)).reverse).map λp=>(Tx p.1,Ch.data p.2) by rw[<-ACV,<-ACV,AAE];rfl,DZ (lt:=ltN) (λp=>(Tx p.1,Ch.data p.2)) (λp q=>OO ..),<-ACV,AAE,AAE];rfl
theorem Tq(cs:List Ch):Dt false Sz.lt (((A9 cs).map λc=>hgt cs c.1).zip ((A9 cs).map Ch.data))=(AL cs).map Ch.data:=by rw[Fj];show(AH ltI ((A9 cs).map λc=>(hgt cs c.1,Ch.data c))).map (·.2)=((AH ltI ((A9 cs).map λc=>(hgt cs c.1,c))).map (·.2)).map Ch.data;rw[show((A9 cs).map λc=>(hgt cs c.1,Ch.data c))=((A9 cs).map λc=>(hgt cs c.1,c)).map λp=>(p.1,Ch.data p.2) by rw[AAE];rfl,DZ (λp:Int×Ch=>(p.1,Ch.data p.2)) (λp q=>rfl),AAE,AAE];rfl
theorem MG(h:n∈cs.map (·.1)):Aq (hts [] cs) n=al (hgt cs n):=by refine oE (AJ.mpr (show n∈(hts [] cs).map (·.1) by rw[Cm];exact h)) λv hv=>?_;unfold hgt;exact hv▸rfl
noncomputable abbrev Pr:=Mk×List Nat
noncomputable def prD(x:Pr):PyData:=.tuple [AD (al x.1),.str (Tx x.2)]
noncomputable def Bz(s:Sm):List Pr:=(s.1.filter λm=>(Aq s.2.2 m).isNone).map λm=>(m,(Aq s.2.1 m).getD [])
theorem E8.foldl(nm:List Nat):∀(ds:List AK) {B:Nat},E8 B s->E8 (B+ds.length) (G3 nm ds 0 s):=by
 have key:∀(ds:List AK) (k B:Nat) (s:Sm),E8 B s->E8 (B+ds.length) (G3 nm ds k s):=by
  intro ds
  induction ds with
  |nil=>exactλ_ _ _ h=>h
  |cons d ds ih =>
   intro k B s h;have:=ih (if AF d then k+1 else k) (B+1) _ (h.step nm k d);rw[ADK,AC9 1] at this;exact this
 exactλds {B} h=>key ds 0 B s h
theorem GR:(Bz s).length<=s.1.length:=by unfold Bz;exact lml (AAX _ _)
theorem QH{C:Cfg}{J:Am}{s:Sm}(hs:E8 B s)(hB:B<=10000)(h1:Ci J iv=al (.ref k))(hr:U[k]? = al (oR s.1))
 (hin:∀m,C.t (.C .NotIn (.N t) (.N ig)) ((J.set t az).set t (al (vm m))) U=al (Aq s.2.2 m).isNone)
 (hel:∀m l,Aq s.2.1 m=al l->C.v (.tup (.cons (.N t) (.cons (.aa (.N iw) (.N t)) .nil))) ((J.set t az).set t (al (vm m))) U=al (.d (prD (m,l)))) :
 C.nl (.D (.tup (.cons (.N t) (.cons (.aa (.N iw) (.N t)) .nil))) [t] (.N iv) (.cons (.C .NotIn (.N t) (.N ig)) .nil)) J U=al ((Bz s).map λx=>.d (prD x)):=by
 have hit:(ev C.O (.N iv)).it J U=al (s.1.map vm,[(k,s.1.map vm)]):=by show(Ci J iv).bind (GD U)=_;rw[h1];show(Fh U[k]?).bind _=_;exact hr▸rfl
 rw[show C.nl _ _ _=_ from Ed vm (λm=>(Aq s.2.2 m).isNone) (λm=>.d (prD (m,(Aq s.2.1 m).getD []))) hit (AY (AAC hs.row hB) rfl) (λm _=>EZ (hin m)) (λm hm _=>?_)]
 ·unfold Bz;rw[AAE];rfl
 ·exact oE (hs.has m hm) λl hl=>hl▸hel m l hl
theorem TV(hk:U[k]? = al (oN gn)):BH .NotIn (vm m) (.ref k) U=al (Aq gn m).isNone:=by rw[IH,gX hk,AI PyData.bool DK];cases Aq gn m<;>rfl
theorem Tf(hg:GenCh c)(hf:Iy (λ_=>true) c.1 c.2.2 0 s.1)(hs:E8 B s)(hB:B<=9900) :
 Al C (λfl U'=>∃J',fl=.next J'/\(∃z7 z8 z10,J'=[a0,a1,a2,al (vc c),al (.ref 1),al (.ref 2),al (.ref 3),z7,z8,z9,z10,z11])/\U'=o0::three (stC s c)) YI [a0,a1,a2,al (vc c),al (.ref 1),al (.ref 2),al (.ref 3),z7,z8,z9,z10,z11] (o0::three s):=by
 refine Aw rfl (Bk (l:=c.2.2) (λd=>.d d.data) (λp J U=>E8 (B+p.length) (G3 c.1 p 0 s)/\(∃z8 z10,J=[a0,a1,a2,al (vc c),al (.ref 1),al (.ref 2),al (.ref 3),al (vi (adds p)),z8,z9,z10,z11])/\U=o0::three (G3 c.1 p 0 s)) (Bv (Ad rfl rfl (CW c)) rfl) ⟨hs,(iEE _ _ rfl),rfl⟩ ?_ ?_)
 ·rintro p d q J U e ⟨h1,⟨z8,z10,rfl⟩,rfl⟩;have hpl:=by have h:=congrArg List.length e;have:=hg.deeds;rw[AAF,AA2] at h;exact FM h this
  refine(Pd (hg.ok d (by rw[e];simp)) (λia m hm=>?_) h1 (Zw hB hpl rfl)).mono λfl U' h=>?_
  ·rw[GW];exact MQ ia p 0 s.1 (e▸hf) m hm
  ·refine AS h λJ' e1 q_2 e3=>?_;obtain⟨z10,e2⟩:=q_2;refine(Hv J' e1 ?_ (iEE _ z10 (by rw[e2,Dp])) ?_)
   ·rw[Em,AAF];exact h1.step _ _ _
   ·rw[e3,Em,AC2]
 ·rintro J U ⟨h1,⟨z8,z10,rfl⟩,rfl⟩;exact Ab (Az _ rfl (FH _ _ _ rfl) rfl)
theorem Rk(H:AR cs)(e:AL cs=A++c::B):Iy (λ_=>true) c.1 c.2.2 0 (Ju A []):=WO H (CX H.nd) e (λ_ _=>rfl) (λ_=>rfl)
theorem ET(hg:∀c∈A,GenCh c):E8 (20*A.length) (AX A):=by
 have key:∀(A:List Ch) (B:Nat) (s:Sm),(∀c∈A,GenCh c)->E8 B s->E8 (B+20*A.length) (A.foldl stC s):=by
  intro A
  induction A with
  |nil=>exactλ_ _ _ h=>h
  |cons c A ih =>
   intro B s hg h;have h1:=E8.foldl c.1 c.2.2 h;have hd:=(hg c (.head _)).deeds;have h2:E8 (B+20) (stC s c):=⟨AAC h1.row (VS hd),AAC h1.wd (VS hd),AAC h1.gn (VS hd),h1.has⟩
   have:=ih (B+20) _ (λx hx=>hg x (.tail _ hx)) h2;rw[AA2,Nat.mul_add,Nat.mul_one,AC9 (20*A.length),<-ADK];exact this
 have:=key A 0 ([],[],[]) hg ⟨AAL _,AAL _,AAL _,λm h=>nomatch h⟩;rw[AC2] at this;exact this
section
variable{cs:List Ch}
theorem RZ(hl:cs.length<=61)(nd:(cs.map (·.1)).Nodup)(ha:SE (n+3+1) a J U (.d (.list (cs.map Ch.data))) U)(hi:i<J.length):SE (n+3+1) (.sortk true a i (.aa (.N i) (.i 0))) J U (.d (.list ((A9 cs).map Ch.data))) U:=by rw[<-RT];refine SE.frz (SL.sortk (K:=mE) ha rfl (Kz nd) (lmt (AAS ‹_› (ACH rfl))) ?_);rw[AAE];refine FO λc hc=>(C0 n).sv (Ad ?_ rfl (AM c));show Ci (J.set i (al (vc c))) i=_;unfold Ci;rw[AB1 hi]
theorem T5(hl:cs.length<=61)(nd:(cs.map (·.1)).Nodup)(ha:SE (n+3+1) a J U (.d (.list ((A9 cs).map Ch.data))) U)(hi:i<J.length)(hj:Ci J j=al (.ref k))(hij:j≠i)(hk:U[k]? = al (oT (hts [] cs))) :
 SE (n+3+1) (.sortk false a i (.aa (.N j) (.aa (.N i) (.i 0)))) J U (.d (.list ((AL cs).map Ch.data))) U:=by
 have hp:=CU cs;have hk':Ay (λw b=>SE (n+3) (.aa (.N j) (.aa (.N i) (.i 0))) (J.set i (al w)) U (Sz.kv b) U) (((A9 cs).map Ch.data).map .d) ((A9 cs).map λc=>hgt cs c.1):=by
  rw[AAE];refine FO λc hc=>(C0 n).sv (Ad ?_ (Ad ?_ rfl (AM c)) (Cq hk ?_))
  ·show Ci (J.set i (al (vc c))) j=_;unfold Ci at hj ⊢;rw[ADN (Ne.symm hij)];exact hj
  ·show Ci (J.set i (al (vc c))) i=_;unfold Ci;rw[AB1 hi]
  ·rw[AI PyData.int BA,MG (AAZ (hp.mem_iff.mp hc))];rfl
 exact SE.frz ((congrArg (λl:List PyData=>SL (n+3+1) (.sortk false a i (.aa (.N j) (.aa (.N i) (.i 0)))) J U (l.map V.d) U) (Tq cs)).mp (SL.sortk (rev:=false) ha rfl (Kz ((hp.map _).nodup_iff.mpr nd)) (by rw[AAB,hp.length_eq];exact AAS ‹_› (ACH rfl)) hk'))
end
noncomputable abbrev rowD'(s:Sm):PyData:=dms s.1
noncomputable abbrev Fq(s:Sm):PyData:=.list ((Bz s).map prD)
theorem UO(h:SE (C.n+3) (.tup es) J U v ag)(hv:CK v=al ws)(hl:ws.length=xs.length)(k:Al C P r (Fv J xs ws) ag):Al C P (.cons (.swp xs es) r) J U :=
 Cs (λQ q=>.swp (ACK 3 _) h hv hl q) k
theorem Om(H:AR cs)(hg:∀c∈cs,GenCh c)(hl:cs.length<=61):∀U,FN 4 20 [.d (.list (cs.map Ch.data))] U (.d (.tuple [rowD' (AX (AL cs)),Fq (AX (AL cs))])) U:=by
 have hO:=CX H.nd;have hgo:=λc hc=>hg c (hO.perm.mem_iff.mp hc);refine Bb (FN.ends (f:=20) (zs:=[.d (.list (cs.map Ch.data))]) (R:=λv U'=>v=.tup [.inr 1,.inl (Fq (AX (AL cs)))]/\U'=oT (hts [] cs)::three (AX (AL cs))) (hn:=show 1<=3 by decide) (h:=by
  refine AU rfl (.F ((C0 3).sr rfl) ((Km cs (λc hc=>(hg c hc).few) hl H.nd H.topo).more (dc rfl))) (AU rfl (RZ hl H.nd ((C0 3).sv rfl) (dc rfl)) ?_);refine UO (v:=.tup [.inr 1,.inr 2,.inr 3]) (.tupR (.cons (SE.trk (.lst .nil (ABF _))) (.cons .dctP (.cons .dctP .nil))) (dc rfl)) rfl rfl ?_;let K:Option V->Option V->Option V->Option V->Am:=λz3 z7 z8 z10=>[al (.d (.list (cs.map Ch.data))),al (.ref 0),al (.d (.list ((A9 cs).map Ch.data))),z3,al (.ref 1),al (.ref 2),al (.ref 3),z7,z8,az,z10,az]
  refine Ee vc (λp J U=>(∃z3 z7 z8 z10,J=K z3 z7 z8 z10)/\U=oT (hts [] cs)::three (AX p)) (SI.lst (T5 hl H.nd ((C0 3).sv rfl) (dc rfl) rfl (by decide) rfl) mm2) ⟨(L8 az az az az rfl),rfl⟩ ?_ ?_
  ·rintro p c q J U e ⟨⟨z3,z7,z8,z10,rfl⟩,rfl⟩;have hpl:=by have h1:=congrArg List.length e;rw[hO.perm.length_eq,AAF,AA2] at h1;exact FM h1 hl
   refine(Tf (hgo c (by rw[e];simp)) (by rw[HR];exact Rk H e) (ET λx hx=>hgo x (e▸AAU _ hx)) (Zv hpl rfl)).mono λfl U' h=>?_;obtain⟨J',e1,⟨z7,z8,z10,e2⟩,e3⟩:=h;exact Az J' e1 (L8 _ z7 z8 z10 e2) (by rw[e3,Jp])
  ·rintro J U ⟨⟨z3,z7,z8,z10,rfl⟩,rfl⟩;have hol:(AL cs).length<=61:=by rw[hO.perm.length_eq];exact hl
   refine AB (Cn (Bg rfl (Ih ((QH (C:=C0 3) (J:=K z3 z7 z8 z10) (U:=oT (hts [] cs)::three (AX (AL cs))) (iv:=4) (iw:=5) (ig:=6) (t:=11) (ET hgo) (K9 hol rfl) rfl rfl (λm=>Aj rfl rfl (TV rfl)) (λm l hl=>Cn (Bg rfl (Ad rfl rfl (To rfl (by rw[AI Pk DK,hl];rfl)))) rfl)).trans (AAE▸rfl)))) rfl) ⟨rfl,rfl⟩)) λv U' q_2 h=>?_
 obtain⟨k2,k3⟩:=q_2;rw[k2,k3] at h;refineλU=>(FA.seal (d:=.tuple [rowD' (AX (AL cs)),Fq (AX (AL cs))]) h ⟨_,rfl,⟨⟨_,rfl,ABF _,?_⟩,rfl,trivial⟩⟩).any (af (CZ _ _) Ah);rw[AAE];rfl
noncomputable abbrev nms(F:List Ch):List (List Nat):=F.map (·.1)
theorem RW(cs:List Ch):Dt false Sz.lt (((A9 cs).map λc=>hgt cs c.1).zip ((A9 cs).map λc=>PyData.str (Tx c.1)))=(AL cs).map λc=>PyData.str (Tx c.1):=by rw[Fj];show(AH ltI ((A9 cs).map λc=>(hgt cs c.1,PyData.str (Tx c.1)))).map (·.2)=((AH ltI ((A9 cs).map λc=>(hgt cs c.1,c))).map (·.2)).map λc=>PyData.str (Tx c.1);rw[show((A9 cs).map λc=>(hgt cs c.1,PyData.str (Tx c.1)))=((A9 cs).map λc=>(hgt cs c.1,c)).map λp=>(p.1,PyData.str (Tx p.2.1)) by rw[AAE];rfl,DZ (λp:Int×Ch=>(p.1,PyData.str (Tx p.2.1))) (λp q=>rfl),AAE,AAE];rfl
theorem Lk{cs:List Ch}(nd:(cs.map (·.1)).Nodup):(cs.map λc=>PyData.str (Tx c.1)).Nodup:=by rw[List.Nodup,ACU] at nd ⊢;exact nd.imp λh e=>h (by injection e with e;exact FQ e)
theorem PJ(hl:F.length<=61)(nd:(F.map (·.1)).Nodup)(hk:U[2]? = al (oT (hts [] F))):FN 3 8 [.d (dl (nms F)),.ref 2] U (.d (dl (nms (AL F)))) U:=by
 have hp:=CU F;exact FN.same (C:=C0 2) (h:=by
  have e1:vss ((A9 F).map λc=>Tx c.1)=((A9 F).map λc=>PyData.str (Tx c.1)).map V.d:=by show((A9 F).map λc=>Tx c.1).map _=_;rw[AAE,AAE];rfl
  have hs1:SL 5 (.sortr (.N 0)) [al (.d (dl (nms F))),al (.ref 2),az,az] U (vss ((A9 F).map λc=>Tx c.1)) U:=by
   refine SL.sortr ((C0 2).sv rfl) ?_ (lmt (AAS ‹_› (ACH rfl))) (hp.map _) ?_
   ·show al ((((F.map (·.1)).map λt=>PyData.str (Tx t))).map V.d)=al ((F.map λc=>Tx c.1).map _);rw[AAE,AAE,AAE];rfl
   ·show(((A9 F).map λc=>Tx c.1).reverse).Pairwise λa b=>B9 b a=false;rw[List.pairwise_reverse,ACU];exact(ES nd).imp λ{a b} h=>by rw[OO];exact AAT λq=>List.lt_irrefl _ (List.lt_trans q h)
  rw[e1] at hs1;refine AU rfl (SE.frz hs1) ?_;have hk':Ay (λw b=>SE 4 (.aa (.N 1) (.N 3)) (([al (.d (dl (nms F))),al (.ref 2),al (.d (.list ((A9 F).map λc=>PyData.str (Tx c.1)))),az]:Am).set 3 (al w)) U (Sz.kv b) U) (((A9 F).map λc=>PyData.str (Tx c.1)).map .d) ((A9 F).map λc=>hgt F c.1):=by rw[AAE];refine FO λc hc=>(C0 1).sv (Ad rfl rfl (Cq hk ?_));rw[AI PyData.int BA,MG (AAZ (hp.mem_iff.mp hc))];rfl
  have h:=SL.sortk (rev:=false) ((Ao (C0 2).ok (.N 2)).v rfl) rfl (Lk ((hp.map _).nodup_iff.mpr nd)) (by rw[AAB,hp.length_eq];exact AAS ‹_› (ACH rfl)) hk';refine Ct (SE.frz ((congrArg (λl:List PyData=>SL 5 (.sortk false (.N 2) 3 (.aa (.N 1) (.N 3))) _ U (l.map V.d) U) (RW F)).mp h) |> λq=>?_) ⟨rfl,rfl⟩;show SE 5 _ _ _ (.d (.list ((nms (AL F)).map λt=>.str (Tx t)))) _;rw[AAE];exact q)
noncomputable def YM:S:=match HP.body with|.cons _ (.cons _ (.cons _ (.cons (.L _ _ b) _)))=>b|_=>.nil
noncomputable def iD:S:=match YM with|.cons _ (.cons (.L _ _ b) _)=>b|_=>.nil
section
variable{C:Cfg}{F:List Ch}{gs:Gsg}{hs:Gsl}{z7 z8:Option V}{c:Ch}{d:AK}{s:Sm}
noncomputable abbrev gK(c:Ch)(z5 z6 z7 z8:Option V):Am:=[al self,al (.ref 3),al (.ref 4),al (.ref 5),al (vs c.1),z5,z6,z7,z8]
theorem Pe(hd:BU d)(hm:AF d=true->∀m,d.mark=al m->m∈s.1)(hs':E8 B s)(hB:B<=10000) :
 Al C (λfl U'=>∃J',fl=.next J'/\(∃z7 z8,J'=gK c (al (vi ((own+(if AF d then 1 else 0):Nat):Int))) (al (.d d.data)) z7 z8)/\U'=W F gs hs++three (stD c.1 own d s))
  iD (gK c (al (vi own)) (al (.d d.data)) z7 z8) (W F gs hs++three s):=by
 obtain⟨row,wd,gn⟩:=s;have hx:∀{J:Am} {U:Ac},Ci J 6=al (.d d.data)->(ev C.O (.aa (.N 6) (.i 1))).v J U=al (.d (AD d.mark)):=λh=>Ad h rfl (CM d);have hw:∀{J:Am} {U:Ac} {s:String} {k:List Nat},ACG s=Tx k->Ci J 6=al (.d d.data)->C.t (.C .Eq (.aa (.N 6) (.i 0)) (.cst (.str (ACG s)))) J U=al (decide (d.word=k)):=λe h=>Aj (Ad h rfl (BQ d)) (congrArg (λs=>al (V.d (.str s))) e) EQ;have hwl:wd.length<line:=BV (AAC hs'.wd hB) rfl;have hgl:gn.length<line:=BV (AAC hs'.gn hB) rfl;have hrl:row.length<line:=BV (AAC hs'.row hB) rfl;rcases Ky hd with⟨ia,e1,l,e2⟩|⟨ia,e1,m,l,e2,e3⟩|⟨ia,e1,m,e2⟩
 ·refine Ij (hw DM rfl) (AAI e1) (Aw (Cn (Bg rfl rfl) rfl) ?_);refine Aw rfl (Aw rfl ?_);obtain⟨a,h1,h2,h3,h4⟩:=UD (hm ia);refine Dw (M:=λJ U'=>J=gK c (al (vi ((own:Int)+1))) (al (.d d.data)) (al (vm (c.1,(own:Int)))) (al (vi (a:Int)))/\U'=W F gs hs++three (row,wd,gn)) ?_ ?_
  ·refine AC (Aj (hx rfl) rfl (Hr d.mark)) (λe=>?_) λe=>?_
   ·cases em:d.mark with
    |none=>rw[em] at e;cases e
    |some k =>
     exact oEA (h4 k em) λj j1 j2=>Aw ((Ae (YQ rfl (A8 ((hx rfl).trans (by rw[em]))) (QZ rfl j2)) rfl rfl).trans (j1▸rfl)) (Ab (Ab (Az _ rfl rfl rfl)))
   ·have em:d.mark=az:=by
     cases em:d.mark with
     |none=>rfl
     |some k=>rw[em] at e;cases e
    exact(h3 em)▸Ab (Ab (Az _ rfl rfl rfl))
  rintro _ _ ⟨rfl,rfl⟩;refine L9 rfl (Bg rfl rfl) rfl (lmt hrl) (AB9 _) (by rw[AAB];exact h1) (EM (w:=mk2 (c.1,(own:Int))) (Ad rfl rfl (El d e2)) rfl rfl rfl (by rw[Bu];exact hwl) (Ab (Ab (Az _ rfl (iEE _ _ (by rw[if_pos ia];rfl)) ?_))));unfold stD;rw[if_pos ia,Bn Pk DK,e2];rw[Int.toNat_natCast,<-List.map_take,<-List.map_drop,<-ABP,<-AAQ,h2];rfl
 ·refine AC (hw DM rfl) (λe=>absurd (AAG e) (e1▸cG)) λ_=>Ij (hw ID rfl) (AAI e1) (EM (w:=mk2 m) (Ad rfl rfl (El d e3)) rfl ((hx rfl).trans (e2▸rfl)) rfl (by rw[Bu];exact hwl) (Ab (Ab (Ab (Az _ rfl (iEE _ _ (by rw[ia];rfl)) ?_)))));unfold stD;rw[if_neg (by rw[ia];decide),if_pos e1,Bn Pk DK,e2,e3];rfl
 ·refine AC (hw DM rfl) (λe=>absurd (AAG e) (e1▸cF)) λ_=>AC (hw ID rfl) (λe=>absurd (AAG e) (e1▸Xq)) λ_=>EM (w:=mk2 m) rfl rfl ((hx rfl).trans (e2▸rfl)) rfl (by rw[Bu];exact hgl) (Ab (Ab (Ab (Az _ rfl (iEE _ _ (by rw[ia];rfl)) ?_))));unfold stD;rw[if_neg (by rw[ia];decide),if_neg (e1▸Xq),Bn PyData.bool DK,e2];rfl
end
structure Wov(cs F:List Ch)(gs:Gsg):Prop where
 H:AR cs
 gen:∀c∈cs,GenCh c
 len:cs.length<=61
 perm:F.Perm cs
 w:IS F gs
theorem Wov.ord{cs F:List Ch}{gs:Gsg}(h:Wov cs F gs):AL F=AL cs:=TM h.H.nd h.perm h.H.topo h.w.topo
theorem P7(hk:U[k]? = al (oH F))(hl:∀n∈nms F,n.length<=12)(h:F.length<=61):Dd .list U [.ref k]=al (.d (dl (nms F))):=by
 show(QP U[k]?).bind mkL=_;rw[hk];show((if (Bc Tx Ch.data (hK F)).all (λp=>decide (p.1.length<=line))=true then al (vss ((Bc Tx Ch.data (hK F)).map (·.1))) else az).bind mkL)=_;rw[if_pos,bs]
 ·have e:vss ((Bc Tx Ch.data (hK F)).map (·.1))=((nms F).map λt=>PyData.str (Tx t)).map V.d:=by show((Bc Tx Ch.data (hK F)).map (·.1)).map _=_;unfold Bc;rw[AAE,AAE,AAE,AAE,AAE];rfl
  exact e▸JJ _ (lml (lml (AY h rfl)))
 ·rw[ACL];intro p hp;refine oEA (AAP.mp hp) λq hq q_2=>?_;subst q_2;refine oEA (AAP.mp hq) λc hc q_2=>?_;subst q_2;refine AAI ?_;rw[GL];exact AY (hl c.1 (AAZ hc)) rfl
section
variable{F:List Ch}{gs:Gsg}{hs:Gsl}{z5 z6 z7 z8:Option V}{c:Ch}{s:Sm}
theorem Tg(nd:(F.map (·.1)).Nodup)(hc:c∈F)(hg:GenCh c)(hf:Iy (λ_=>true) c.1 c.2.2 0 s.1)(hs':E8 B s)(hB:B<=9900) :
 Al C (λfl U'=>∃J',fl=.next J'/\(∃z5 z6 z7 z8,J'=gK c z5 z6 z7 z8)/\U'=W F gs hs++three (stC s c)) YM (gK c z5 z6 z7 z8) (W F gs hs++three s):=by
 refine Aw rfl (Bk (l:=c.2.2) (λd=>.d d.data) (λp J U=>E8 (B+p.length) (G3 c.1 p 0 s)/\(∃z6 z7 z8,J=gK c (al (vi (adds p))) z6 z7 z8)/\U=W F gs hs++three (G3 c.1 p 0 s)) (Bv (Ad (Ad (DS rfl) rfl (Cq rfl (by rw[AI Ch.data BA,MM nd hc];rfl))) rfl (CW c)) rfl) ⟨hs',(FH _ _ _ rfl),rfl⟩ ?_ ?_)
 ·rintro p d q J U e ⟨h1,⟨z6,z7,z8,rfl⟩,rfl⟩;have hpl:=by have h:=congrArg List.length e;have:=hg.deeds;rw[AAF,AA2] at h;exact FM h this
  refine(Pe (hg.ok d (by rw[e];simp)) (λia m hm=>?_) h1 (Zw hB hpl rfl)).mono λfl U' h=>?_
  ·rw[GW];exact MQ ia p 0 s.1 (e▸hf) m hm
  ·refine AS h λJ' e1 q_2 e3=>?_;obtain⟨z7,z8,e2⟩:=q_2;refine(Hv J' e1 ?_ (FH _ z7 z8 (by rw[e2,Dp])) ?_)
   ·rw[Em,AAF];exact h1.step _ _ _
   ·rw[e3,Em,AC2]
 ·rintro J U ⟨h1,⟨z6,z7,z8,rfl⟩,rfl⟩;exact Ab (Az _ rfl (L8 _ _ _ _ rfl) rfl)
end
theorem On{cs F:List Ch}{gs:Gsg}(h:Wov cs F gs):FN 4 45 [self] (W F gs (hts [] F)) (.tup [.inr 3,.inr 4,.inr 5]) (W F gs (hts [] F)++three (AX (AL cs))):=by
 have hO:=CX h.H.nd;have hgo:=λc hc=>h.gen c (hO.perm.mem_iff.mp hc);have hnm:∀n∈nms F,n.length<=12:=λn hn=>by refine oEA (AAP.mp hn) λx hx q_2=>?_;subst q_2;exact((Cl _).mp (h.w.gen x hx).name).2.1
 exact FN.same (C:=C0 3) (h:=by
  refine Cg rfl (MK ?_);refine MK ?_;let K:Option V->Option V->Option V->Option V->Option V->Am:=λz4 z5 z6 z7 z8=>[al self,al (.ref 3),al (.ref 4),al (.ref 5),z4,z5,z6,z7,z8]
  refine Ee (λc=>vs c.1) (λp J U=>(∃z4 z5 z6 z7 z8,J=K z4 z5 z6 z7 z8)/\U=W F gs (hts [] F)++three (AX p)) (SI.lst (.F ((C0 3).sr (Bg (AZ (A8 (DS rfl)) (P7 rfl hnm h.w.len)) (E6 rfl))) (PJ h.w.len h.w.nd rfl)) (by rw[h.ord];show al (((nms (AL cs)).map λt=>PyData.str (Tx t)).map V.d)=_;rw[AAE,AAE];rfl)) ⟨(MC _ _ _ _ _ rfl),rfl⟩ ?_ ?_
  ·rintro p c q J U e ⟨⟨z4,z5,z6,z7,z8,rfl⟩,rfl⟩;have hpl:=by have h1:=congrArg List.length e;have:=h.len;rw[hO.perm.length_eq,AAF,AA2] at h1;exact FM h1 this
   have hc:c∈AL cs:=by rw[e];simp
   refine(Tg h.w.nd (h.perm.mem_iff.mpr (hO.perm.mem_iff.mp hc)) (hgo c hc) (by rw[HR];exact Rk h.H e) (ET λx hx=>hgo x (e▸AAU _ hx)) (Zv hpl rfl)).mono λfl U' h=>?_;obtain⟨J',e1,⟨z5,z6,z7,z8,e2⟩,e3⟩:=h;exact Az J' e1 (MC _ z5 z6 z7 z8 e2) (by rw[e3,Jp])
  ·rintro J U ⟨⟨z4,z5,z6,z7,z8,rfl⟩,rfl⟩;exact AB rfl ⟨rfl,rfl⟩)
theorem JS{a b:List (List Nat)}(h:a.Perm b)(nd:a.Nodup):Ax a=Ax b:=CT (λx y p q=>List.lt_irrefl _ (List.lt_trans p q)) (BM a nd) (BM b (h.nodup_iff.mp nd)) ((Af a).trans (h.trans (Af b).symm))
section
variable{cs F:List Ch}{gs:Gsg}
theorem cZ(h:Wov cs F gs):FN 5 46 [self] (W F gs (hts [] F)) (.ref 3) (W F gs (hts [] F)++three (AX (AL cs))):=by
 exact FN.same (C:=C0 4) (h:=by exact Ct (.aa (.ac An (by unfold mtP;kernel_rfl) ((C0 4).sv rfl) .nil (On h)) ((C0 4).sv rfl) (HQ rfl)) ⟨rfl,rfl⟩)
theorem fn_row'(h:Wov cs F gs):FN 5 46 [self] (W F gs (hts [] F)) (.d (dms (AX (AL cs)).1)) (W F gs (hts [] F)) :=
 FA.seal' (cZ h) rfl (Hn 3) ⟨_,rfl,AAL _,by rw[AAE];rfl⟩
theorem XE(h:Wov cs F gs):FN 5 47 [self] (W F gs (hts [] F)) (.ref 6) (W F gs (hts [] F)++(three (AX (AL cs))++[.list ((Bz (AX (AL cs))).map λx=>.d (prD x))])):=by
 have hO:=CX h.H.nd;have hol:(AL cs).length<=61:=by rw[hO.perm.length_eq];exact h.len
 exact FN.same (C:=C0 4) (h:=by refine PG (.ac An (by unfold mtP;kernel_rfl) ((C0 4).sv rfl) .nil (On h)) (λ{K ex} hc ts k p env=>hc (λex=>swappedStores [.Tuple ts k p] ex env=pure az) (by intros;rfl)) rfl rfl ?_;exact Rb (QH (ET λc hc=>h.gen c (hO.perm.mem_iff.mp hc)) (K9 hol rfl) rfl rfl (λm=>Aj rfl rfl (TV rfl)) (λm l hl=>Cn (Bg rfl (Ad rfl rfl (To rfl (by rw[AI Pk DK,hl];rfl)))) rfl)) ⟨rfl,rfl⟩)
theorem fn_told'(h:Wov cs F gs):FN 5 47 [self] (W F gs (hts [] F)) (.d (Fq (AX (AL cs)))) (W F gs (hts [] F)) :=
 FA.seal' (XE h) rfl (Hn 3) ⟨_,rfl,(dc rfl),by rw[AAE];rfl⟩
theorem UY(h:Wov cs F gs):FN 2 40 [self] (W F gs (hts [] F)) (.ref 3) (W F gs (hts [] F)++[.list ((Ax (nms cs)).map vs)]):=by
 have hnm:∀n∈nms F,n.length<=12:=λn hn=>by refine oEA (AAP.mp hn) λx hx q_2=>?_;subst q_2;exact((Cl _).mp (h.w.gen x hx).name).2.1
 have hlen:=h.w.len;refine Bb (FN.ends (C:=C0 1) (f:=40) (zs:=[self]) (R:=λv U'=>v=.ref 3/\U'=W F gs (hts [] F)++[.list ((Ax (nms F)).map vs)]) (h:=by
  refine Rb ?_ ⟨rfl,rfl⟩;show(((ev (C0 1).O (.cons _ .nil)).row _ _).bind (Ry .sorted _)).bind _=_;rw[A8 (AZ (A8 (DS rfl)) (P7 rfl hnm h.w.len)),bs];show((D6 CE (((nms F).map λt=>PyData.str (Tx t)).map V.d)).bind λss=>if ss.length<64 then al (vss (DX ss)) else az).bind _=_;rw[show((nms F).map λt=>PyData.str (Tx t)).map V.d=(nms F).map vs by rw[AAE];rfl,QI,bs,if_pos (lmt (lmt (AAS ‹_› (ACH rfl)))),bs,G4];have e:vss ((Ax (nms F)).map Tx)=(Ax (nms F)).map vs:=by exact mm3
  rw[e,if_pos];rw[AAB,(Af _).length_eq,AAB];exact AY hlen rfl)) λv U' q_2 hf=>?_
 obtain⟨k2,k3⟩:=q_2;rw[k2,k3,JS (h.perm.map _) h.w.nd] at hf;exact hf
theorem XF(h:Wov cs F gs):FN 6 48 [self] (W F gs (hts [] F)) (.ref 3) (W F gs (hts [] F)++[.list ((Bz (AX (AL cs))).map λx=>vs x.2)]):=by
 have hO:=CX h.H.nd;have hol:(AL cs).length<=61:=by rw[hO.perm.length_eq];exact h.len
 have ht:(Bz (AX (AL cs))).length<=line:=AAC GR (AAC (ET λc hc=>h.gen c (hO.perm.mem_iff.mp hc)).row (AY (show 20*(AL cs).length<=10000 by exact K9 hol rfl) rfl));exact FN.same (C:=C0 5) (h:=by
  refine Ct (SE.trk (SL.D (vs:=(Bz (AX (AL cs))).map λx=>V.d (prD x)) (SI.lst (.ac An (by unfold mtP;kernel_rfl) ((C0 5).sv rfl) .nil (fn_told' h)) (by show al (((Bz (AX (AL cs))).map prD).map V.d)=_;rw[AAE];rfl)) (DQ (kps:=[]) (Ao (C0 5).ok _) (Ao (C0 5).ok _) (λ_ _ m=>nomatch m) ?_) (lml ht))) ⟨rfl,rfl⟩
  rw[Ey (λx:Pr=>V.d (prD x)) (λx=>al (vs x.2)) _ (λx _=>rfl),List.filterMap_eq_map'])
end
theorem VW{α:Type}(l:List α):Dd .all U [.d (.list (l.map λ_=>PyData.bool true))]=al (vb true):=by
 show(D6 HI ((l.map λ_=>PyData.bool true).map V.d)).bind _=_;have:D6 HI ((l.map λ_=>PyData.bool true).map V.d)=al (l.map λ_=>true):=by
  induction l with
  |nil=>rfl
  |cons a l ih=>show(D6 HI ((l.map λ_=>PyData.bool true).map V.d)).bind _=_;rw[ih];rfl
 rw[this,bs];congr 2;rw[ACL.mpr λx hx=>?_];refine oEA (AAP.mp hx) λ_ _ q_2=>?_;subst q_2;rfl
noncomputable def Cfg.know(C:Cfg)(f:Nat)(v:V)(P:List V->Ac->Prop)(h:∀xs U,P xs U->FN C.n f xs U v U):Cfg:=C.add f (λxs U=>@ite _ (P xs U) (ACI _) (al v) az) λxs U u e=>by exact oA (@BG _ _ _ _ (ACI _) e) λq e=>e▸h xs U q
theorem Xp{C:Cfg}{P:List V->Ac->Prop}{hk:∀xs U,P xs U->FN C.n f xs U v U}{xs:List V}(h:P xs U):(C.know f v P hk).O f xs U=al v:=by show(bif Nat.beq f f then@ite _ (P xs U) (ACI _) (al v) az else C.O f xs U)=_;exact(Nat.beq_refl f)▸@if_pos _ (ACI _) h _ _ _
open PySem.Calls
theorem PS(ws:List V)(y:V):(ws++[y]).eraseIdx ((ws++[y]).length-1)=ws:=by rw[AAF,show ws.length+[y].length-1=ws.length from rfl,List.eraseIdx_append_of_length_le (AAL _),ADJ];exact AAV ws
theorem cV(ho:C.v o J U=al (.ref k))(h0:U[k]? = al (.list (ws++[y])))(kk:Al C P r (J.set x (al y)) (U.set k (.list ws)))(hb:D8 o=true:=by rfl):Al C P (.cons (.A x (.H .pop o .nil)) r) J U:=by
 refine AU rfl (.lmeth (CB hb) F.slot_list_pop F.type_list_pop (C.sv ho) .nil h0 h0 (gJ (v:=y) ?_)) ?_
 ·rw[AAF,show ws.length+[y].length-1=ws.length from rfl,AA6 (AAL _),ADJ];rfl
 ·rw[PS];exact kk
theorem S3(ho:C.v o J U=al (.ref k))(hes:C.row es J U=al [y])(h0:U[k]? = al (.list ws))(hy:AE U y=al us)(hl:ws.length+us.length<=line)(kk:Al C P r J (U.set k (.list (ws++us))))(hb:D8 o=true:=by rfl):Al C P (.cons (.exp (.H .extend o es)) r) J U :=
 Ka F.slot_list_extend F.type_list_extend ho hes h0 (Ui hy hl) hb kk
theorem X8{C:Cfg}{α:Type}{l:List α}(w:α->V)(ac:List α->Am->Ac->Prop)(hit:SI (C.n+3) it J U (l.map w) [] ag)(hb:∀a,a∈l->FI ts (w a))(hJ:ac [] J ag)
 (hf:∀p a q J U,l=p++a::q->ac p J U->Al C (λfl U'=>∃J',fl=.next J'/\ac (p++[a]) J' U') body (CA J ts (w a)) U) (k:∀J' U',ac l J' U'->Al C P r J' U'):Al C P (.cons (.L ts it body) r) J U:=by
 exact Bb (Qm (C:=C) (body:=body) (ts:=ts) (kps:=[]) w ac l [] J ag (λ_ _ _ _ _ _ m=>nomatch m) hb hJ hf) λJe Ue h1 h2=>Cs (fl:=.next Je) (λQ q=>.L hit (h2 Q q)) (k Je Ue h1)
theorem iQ{O:Orc}{b:Bi}{xs ws:List V}(h:(ev O es).row J U=al xs)(h2:Ry b U xs=al ws)(hl:ws.length<=line):(ev O (.bi b es)).nl J U=al ws:=by show(((ev O es).row J U).bind (Ry b U)).bind (λws=>if ws.length<=line then al ws else az)=_;rw[h,bs,h2,bs,if_pos hl]
theorem DF{l:List (List Nat)}(h:l.Pairwise (· < ·)):l.Nodup:=h.imp λ{a b} (h:a<b) (e:a=b)=>List.lt_irrefl b (by rw[e] at h;exact h)
section
variable{P:Fl->Ac->Prop}
theorem Qj(ac:Nat->Am->Ac->Prop)(B:Am->Ac->Bool)(ht:∀m J U,ac m J U->C.t c J U=al (B J U))(h0:∀J U,ac 0 J U->B J U=false)
 (hf:∀m J U,ac (m+1) J U->B J U=true->Al C (λfl U'=>∃J',fl=.next J'/\ac m J' U') body J U):∀(m:Nat) (J:Am) (U:Ac),ac m J U->∃Je Ue m',ac m' Je Ue/\B Je Ue=false/\∀Q:Fl->Ac->Prop,Q (.next Je) Ue->WhQ (C.n+3) c body Q (m+1) J U
 |0,J,U,hJ=>(EK J U 0 hJ (h0 J U hJ) (λQ q=>⟨false,U,(Ao C.ok c).t (h0 J U hJ▸ht 0 J U hJ),λ_=>q,λh=>ff_ h⟩))
 |m+1,J,U,hJ=>by
  have h:=ht (m+1) J U hJ;cases e:B J U with
  |false=>rw[e] at h;exact EK J U (m+1) hJ e (λQ q=>⟨false,U,(Ao C.ok c).t h,λ_=>q,λh=>ff_ h⟩)
  |true =>
   rw[e] at h;refine Bb (hf m J U hJ e) λfl ag q_2 h2=>?_;obtain⟨aP,rfl,h1⟩:=q_2;exact CY (Qj ac B ht h0 hf m aP ag h1) λJe Ue m' h3 h5 h4=>EK Je Ue m' h3 h5 (λQ q=>⟨true,U,(Ao C.ok c).t h,λh=>tt_ h,λ_=>SSs.mono (λf s e=>by rw[e.1,e.2];exact h4 Q q) h2⟩)
theorem S2(ac:Nat->Am->Ac->Prop)(B:Am->Ac->Bool)(m:Nat)(hJ:ac m J U)(ht:∀m J U,ac m J U->C.t c J U=al (B J U))(h0:∀J U,ac 0 J U->B J U=false)
 (hf:∀m J U,ac (m+1) J U->B J U=true->Al C (λfl U'=>∃J',fl=.next J'/\ac m J' U') body J U) (k:∀m' J' U',ac m' J' U'->B J' U'=false->Al C P r J' U'):Al C P (.cons (.while_ c body) r) J U:=by
 exact CY (Qj (C:=C) ac B ht h0 hf m J U hJ) λJe Ue m' h1 h2 h3=>Cs (fl:=.next Je) (λQ q=>.while_ (h3 Q q)) (k m' Je Ue h1 h2)
end
theorem Blw.trans(x:Blw F a b)(y:Blw F b c):Blw F a c:=by
 induction x with
 |one hc hl=>exact .more hc hl y
 |more hc hl _ ih=>exact .more hc hl (ih y)
noncomputable def rem(fs:List (List Nat)):List Ch->Nat
 |[]=>0
 |c::cs=>(if c.1∈fs then 0 else c.2.1.length)+rem fs cs
theorem N8(fs:List (List Nat))(n:List Nat):∀cs:List Ch,n∉nms cs->rem (fs++[n]) cs=rem fs cs
 |[],_=>rfl
 |c::cs,h=>by
  have h1:c.1≠n:=λe=>h (e▸.head _);show(if c.1∈fs++[n] then 0 else c.2.1.length)+rem (fs++[n]) cs=(if c.1∈fs then 0 else c.2.1.length)+rem fs cs;rw[N8 fs n cs λq=>h (.tail _ q)];congr 1;have:(c.1∈fs++[n])↔c.1∈fs:=by rw[AA0,AAJ];exact⟨λq=>q.resolve_right h1,.inl⟩
  simp only[this]
theorem Q8(hf:c.1∉fs):∀{cs:List Ch},(nms cs).Nodup->c∈cs->rem fs cs=c.2.1.length+rem (fs++[c.1]) cs
 |a::cs,nd,hc=>by
  have nd:=ABX.mp nd;show(if a.1∈fs then 0 else a.2.1.length)+rem fs cs=c.2.1.length+((if a.1∈fs++[c.1] then 0 else a.2.1.length)+rem (fs++[c.1]) cs);rcases AAR.mp hc with e|hc
  ·subst e;rw[if_neg hf,if_pos (AAW _ (.head _)),N8 fs c.1 cs nd.1,AC2]
  ·have h1:a.1≠c.1:=λe=>nd.1 (show a.1∈nms cs by rw[e];exact AAZ hc);rw[Q8 hf nd.2 hc];have:(a.1∈fs++[c.1])↔a.1∈fs:=by rw[AA0,AAJ];exact⟨λq=>q.resolve_right h1,.inl⟩
   simp only[this];lia
theorem TF(fs:List (List Nat)):∀cs:List Ch,(∀c∈cs,c.2.1.length<=61)->rem fs cs<=61*cs.length
 |[],_=>AAL _
 |c::cs,h=>by have:=TF fs cs λx hx=>h x (.tail _ hx);have:=h c (.head _);show(if c.1∈fs then 0 else c.2.1.length)+rem fs cs<=61*(cs.length+1);split<;>omega
structure IU(cs:List Ch)(ns fs wt:List (List Nat)):Prop where
 nd:fs.Nodup
 sub:∀n,n∈fs\/n∈wt->∃o∈ns,n=o\/Blw cs o n
 all:∀o∈ns,o∈fs\/o∈wt
 cov:∀c∈cs,c.1∈fs->∀l∈c.2.1,l∈fs\/l∈wt
theorem IU.names(h:IU cs ns fs wt)(ht:Dg cs)(hn:∀n∈ns,n∈nms cs)(q:n∈fs\/n∈wt):n∈nms cs:=by
 obtain⟨o,ho,e|e⟩:=h.sub n q
 ·exact e▸hn o ho
 ·exact e.names ht
theorem IU.skip(h:IU cs ns fs (wt++[n]))(hn:n∈fs):IU cs ns fs wt:=by have drop:∀{x},x∈fs\/x∈wt++[n]->x∈fs\/x∈wt:=λ{x} q=>q.elim .inl λq=>(AA0.mp q).elim .inr λq=>.inl (AAJ.mp q▸hn);exact⟨h.nd,λx q=>h.sub x (q.imp id (AAU _)),λo ho=>drop (h.all o ho),λc hc hf l hl=>drop (h.cov c hc hf l hl)⟩
theorem IU.take(nd:(nms cs).Nodup)(h:IU cs ns fs (wt++[c.1]))(hc:c∈cs)(hn:c.1∉fs):IU cs ns (fs++[c.1]) (wt++c.2.1):=by
 have mv:∀{x},x∈fs\/x∈wt++[c.1]->x∈fs++[c.1]\/x∈wt++c.2.1:=λ{x} q=>q.elim (λq=>.inl (AAU _ q)) λq=>(AA0.mp q).elim (λq=>.inr (AAU _ q)) λq=>.inl (AAW _ q);have here:c.1∈fs\/c.1∈wt++[c.1]:=.inr (AAW _ (.head _));refine⟨ABW.mpr ⟨h.nd,ABX.mpr ⟨AA1,ABY⟩,λa ha b hb e=>hn ((AAJ.mp hb)▸e▸ha)⟩,λx q=>?_,λo ho=>mv (h.all o ho),λd hd hf l hl=>?_⟩
 ·rcases q with q|q
  ·rcases AA0.mp q with q|q
   ·exact h.sub x (.inl q)
   ·exact(AAJ.mp q)▸h.sub _ here
  ·rcases AA0.mp q with q|q
   ·exact h.sub x (.inr (AAU _ q))
   ·refine oEA (h.sub _ here) λo ho e=>(iEA o ho (.inr ?_))
    rcases e with e|e
    ·exact e▸.one hc q
    ·exact Blw.trans e (.one hc q)
 ·rcases AA0.mp hf with hf|hf
  ·exact mv (h.cov d hd hf l hl)
  ·rw[IW nd hd hc (AAJ.mp hf)] at hl;exact .inr (AAW _ hl)
theorem IU.done(h:IU cs ns fs []):n∈fs↔∃o∈ns,n=o\/Blw cs o n:=by
 have up:∀{a b:List Nat},Blw cs a b->a∈fs->b∈fs:=λx=>by
  induction x with
  |one hc hl=>exactλq=>(h.cov _ hc q _ hl).resolve_right AA1
  |more hc hl _ ih=>exactλq=>ih ((h.cov _ hc q _ hl).resolve_right AA1)
 refine⟨λq=>h.sub n (.inl q),λ⟨o,ho,e⟩=>?_⟩;have h1:=(h.all o ho).resolve_right AA1;exact e.elim (λe=>e▸h1) λe=>up e h1
noncomputable abbrev lnK(cs:List Ch):Gsg:=cs.map λc=>(c.1,c.2.1)
noncomputable abbrev oL(cs:List Ch):O:=.dictS (Bc Tx dl (lnK cs))
theorem mX(nd:(F.map (·.1)).Nodup)(hc:c∈F):Aq (lnK F) c.1=al c.2.1:=by
 induction F with
 |nil=>cases hc
 |cons a F ih =>
  have nd':=ABX.mp nd;show Aq ((a.1,a.2.1)::lnK F) c.1=_;rw[Bp];rcases AAR.mp hc with rfl|hc
  ·exact if_pos rfl
  ·exact(if_neg λe=>nd'.1 (by show a.1∈F.map (·.1);rw[show a.1=c.1 from e];exact AAZ hc))▸ih nd'.2 hc
theorem Ip(nd:(nms cs).Nodup)(ht:Dg cs)(hl:cs.length<=61)(hg:∀c∈cs,c.2.1.length<=61)(hn:∀n∈ns,n∈nms cs)(hnl:ns.length<=100):∃fs:List (List Nat),fs.Nodup/\(∀n,n∈fs↔∃o∈ns,n=o\/Blw cs o n)/\∀U,FN 2 28 [.d (.list (cs.map Ch.data)),.d (dl ns)] U (.d (dl fs)) U:=by
 let C:=C0 1;refine Bb (FN.ends (C:=C) (f:=28) (zs:=[.d (.list (cs.map Ch.data)),.d (dl ns)]) (U:=[]) (R:=λv U'=>∃fs wt,IU cs ns fs wt/\wt=[]/\v=.ref 1/\U'=[oL cs,.list (fs.map vs),.list (wt.map vs)]) (h:=by
  let K:Option V->Option V->Option V->Option V->Option V->Am:=λz2 z3 z4 z5 z6=>[al (.d (.list (cs.map Ch.data))),al (.d (dl ns)),z2,z3,z4,z5,z6]
  refine Hy (Bk vc (λp J U=>(∃z3,J=K (al (.ref 0)) z3 az az az)/\[oL p]=U) (Hq rfl) ⟨⟨az,rfl⟩,rfl⟩ ?_ ?_)
  ·intro p c q J q_u4 e q_r1;refine oA q_r1 λq_0 q_1=>?_;obtain⟨z3,rfl⟩:=q_0;subst q_1;have hpl:(lnK p).length<=61:=by have h2:=congrArg List.length e;rw[AAF,AA2] at h2;exact lml (R7 h2 hl rfl)
   refine EL (Ad rfl rfl (Dq c)) rfl (Ad rfl rfl (AM c)) rfl (by rw[Bu];exact BV hpl rfl) (Ab (Az _ rfl ⟨_,rfl⟩ ?_));rw[Bn dl BA,He (D9.mpr ?_),oL,lnK,lnK,AAQ]
   ·rfl
   ·rw[lnK,AAE];rw[e,nms,AAQ,ABP,ABW] at nd;exactλq=>nd.2.2 c.1 q c.1 (.head _) rfl
  intro J q_u1 q_r2;refine oA q_r2 λq_0 q_1=>?_;obtain⟨z3,rfl⟩:=q_0;subst q_1;refine Cg rfl (Cg (ws:=ns.map vs) (iQ (A8 rfl) mm2 (lml (AY hnl rfl))) ?_);let St:List (List Nat)->List (List Nat)->Ac:=λfs wt=>[oL cs,.list (fs.map vs),.list (wt.map vs)]
  have hr:=TF [] cs hg;refine S2 (λm J U=>m<=10000/\∃fs wt,IU cs ns fs wt/\wt.length+rem fs cs=m/\(∃z6,J=K (al (.ref 0)) z3 (al (.ref 1)) (al (.ref 2)) z6)/\St fs wt=U) (λJ U=>match U with|[_,_,.list ws]=>!ws.isEmpty|_=>false) (ns.length+rem [] cs) (Ja (by lia) [] ns ⟨ABY,λn q=>(iEA n (q.resolve_left AA1) (.inl rfl)),λo ho=>.inr ho,λc _ q=>nomatch q⟩ rfl ⟨_,rfl⟩ rfl) ?_ ?_ ?_ ?_
  ·intro m J q_u2 q_r3;refine FW q_r3 λ_ fs wt _ _ q_5 q_6=>?_;obtain⟨z6,rfl⟩:=q_5;subst q_6;exact tr_of' (U:=St fs wt) (x:=.ref 2) rfl
  ·intro J q_u1 q_r4;refine FW q_r4 λ_ fs wt _ e _ q_6=>?_;subst q_6;have:wt=[]:=List.length_eq_zero_iff.mp (jL e);subst this;rfl
  ·intro m J q_u2 q_r5 hB;refine FW q_r5 λhm fs wt G e q_5 q_6=>?_;obtain⟨z6,rfl⟩:=q_5;subst q_6;rcases List.eq_nil_or_concat wt with rfl|⟨wt,y,rfl⟩
   ·cases hB
   rw[List.concat_eq_append] at G e ⊢;rw[AAF] at e;have e:=e;refine oEA (AAP.mp (G.names ht hn (.inr (AAW _ (.head _))))) λc hc q_2=>?_;subst q_2;have hfl:=by have:=G7 fs (nms cs) G.nd λn q=>G.names ht hn (.inl q);rw[AAB] at this;exact AAC ‹_› ‹_›
   refine cV rfl (by show al (O.list ((wt++[c.1]).map vs))=_;rw[AAQ];rfl) (AC (Aj rfl rfl (by rw[IH,UH (QJ rfl)];rfl)) (λq=>?_) λq=>?_)
   ·have q:c.1∉fs:=λh=>by rw[AAI h] at q;cases q
    have er:=Q8 q nd hc;refine Bx rfl rfl rfl (lmt (BV hfl rfl)) (S3 (us:=c.2.1.map vs) rfl (A8 (Ad rfl rfl (Cq rfl (by rw[AI dl BA,mX nd hc];rfl)))) rfl (by show al ((c.2.1.map λt=>PyData.str (Tx t)).map V.d)=_;rw[AAE];rfl) (by rw[AAB,AAB];exact AY (show wt.length+c.2.1.length<=10100 by have:=hg c hc;exact iY hm e er rfl) rfl) (Ab (Ab ⟨_,rfl,by exact ACJ ‹_›,fs++[c.1],wt++c.2.1,G.take nd hc q,by rw[AAF];exact iZ e er,⟨_,rfl⟩,?_⟩)));show [oL cs,O.list ((fs++[c.1]).map vs),O.list ((wt++c.2.1).map vs)]=[oL cs,O.list (fs.map vs++[vs c.1]),O.list (wt.map vs++c.2.1.map vs)];exact AAQ▸AAQ▸rfl
   ·exact Ab (Ab ⟨_,rfl,by exact ACJ ‹_›,fs,wt,G.skip (AAG (by cases h:decide (c.1∈fs) with|true=>rfl|false=>rw[h] at q;cases q)),by exact jK e,⟨_,rfl⟩,rfl⟩)
  ·intro m J q_u2 q_r6 hB;refine FW q_r6 λ_ fs wt G e q_5 q_6=>?_;obtain⟨z6,rfl⟩:=q_5;subst q_6;have:wt=[]:=by
    cases wt with
    |nil=>rfl
    |cons _ _=>cases hB
   exact AB rfl (PE fs wt G this rfl rfl))) λv U' q_2 h=>?_
 refine G9 q_2 λfs wt g1 g2 k2 k3=>?_;rw[k2,k3] at h;subst g2;refine(Az fs g1.nd (λn=>g1.done) (λU=>(FA.seal h ⟨_,rfl,ABF _,?_⟩).any (af (CZ _ _) (af (CZ _ _) Ah))));exact AAE▸rfl
noncomputable def Cfg.knowF(C:Cfg)(f:Nat){α:Type}(arg:α->List V)(out:α->V)(h:∀a U,FN C.n f (arg a) U (out a) U):Cfg:=C.add f (λxs _=>@dite _ (∃a,arg a=xs) (ACI _) (λq=>al (out (Classical.choose q))) λ_=>az) λxs U v e=>by
 by_cases q:∃a,arg a=xs
 ·rw[dif_pos q] at e;rw[<-AAA e];have:=h (Classical.choose q) U;rw[ADM q] at this;exact this
 ·rw[dif_neg q] at e;exact Aa e
theorem JR{C:Cfg}{α:Type}{arg:α->List V}{out:α->V}{h:∀a U,FN C.n f (arg a) U (out a) U}(inj:∀a b,arg a=arg b->out a=out b)(a:α)(U:Ac):(C.knowF f arg out h).O f (arg a) U=al (out a):=by
 have q:∃b,arg b=arg a:=⟨a,rfl⟩
 show(bif Nat.beq f f then@dite _ (∃b,arg b=arg a) (ACI _) (λq=>al (out (Classical.choose q))) λ_=>az else C.O f (arg a) U)=_;rw[Nat.beq_refl f];show@dite _ (∃b,arg b=arg a) (ACI _) (λq=>al (out (Classical.choose q))) (λ_=>az)=_;rw[dif_pos q,inj _ _ (ADM q)]
theorem TT{O:Orc}{J:Am}{α:Type}{l:List α}(w:α->V)(p:α->Bool)(g:α->V)(h1:Ci J i=al (.ref k))(h2:U[k]? = al (.list (l.map w)))(hl:l.length<=line)
 (hp:∀a∈l,(ev O ifs).ts ((J.set t az).set t (al (w a))) U=al (p a)) (hg:∀a∈l,p a=true->(ev O elt).v ((J.set t az).set t (al (w a))) U=al (g a)):(ev O (.D elt [t] (.N i) ifs)).nl J U=al ((l.filter p).map g):=by
 refine Ed (kps:=[(k,l.map w)]) w p g ?_ hl hp hg;show(Ci J i).bind (GD U)=_;rw[h1];show(Fh U[k]?).bind _=_;exact h2▸rfl
theorem LX{α:Type}(f:α->Bool)(l:List α):Dd .any U [.d (.list (l.map λa=>PyData.bool (f a)))]=al (vb (l.any f)):=by
 show(D6 HI ((l.map λa=>PyData.bool (f a)).map V.d)).bind _=_;have:D6 HI ((l.map λa=>PyData.bool (f a)).map V.d)=al (l.map f):=by
  induction l with
  |nil=>rfl
  |cons a l ih=>show(D6 HI ((l.map λa=>PyData.bool (f a)).map V.d)).bind _=_;rw[ih];rfl
 rw[this,bs,List.any_map];rfl
theorem dG(a:Option Mk)(m:Mk):eqN AQ (AD a) (AD (al m))=al (decide (a=al m)):=by
 cases a with
 |none=>rfl
 |some a =>
  have:decide (a=m)=decide (al a=al m):=decide_eq_decide.mpr ⟨λe=>e▸rfl,AAA⟩;exact this▸Ir 39 a m
noncomputable def EC(m:Mk)(d:AK):Bool:=decide (d.word=Ho)&&decide (d.mark=al m)
noncomputable def HU(m:Mk)(c:Ch):Bool:=c.2.2.any (EC m)
noncomputable def CI(cs:List Ch)(m:Mk):List (List Nat):=nms (cs.filter (HU m))
structure Opn(cs:List Ch)(m:Mk)(us:List (List Nat)):Prop where
 rise:us.Pairwise (· < ·)
 mem:∀n,n∈us↔n∈CI cs m/\¬ ∃o∈CI cs m,Blw cs o n
theorem Opn.uniq(h:Opn cs m us)(h':Opn cs m us'):us=us' :=
 CT (λx y p q=>List.lt_irrefl _ (List.lt_trans p q)) h.rise h'.rise ((List.perm_ext_iff_of_nodup (DF h.rise) (DF h'.rise)).mpr λn=>(h.mem n).trans (h'.mem n).symm)
theorem Blw.lower(nd:(F.map (·.1)).Nodup)(ht:Dg F)(x:Blw F a b):hgt F b<hgt F a:=by
 have one:∀{c:Ch} {l:List Nat},c∈F->l∈c.2.1->hgt F l<hgt F c.1:=λ{c l} hc hl=>by rw[MF nd ht hc];have:=Ud 0 (c.2.1.map λl=>hgt F l+1) (hgt F l+1) (AAZ hl);exact Z4 this
 induction x with
 |one hc hl=>exact one hc hl
 |more hc hl _ ih=>have:=one hc hl;exact(Int.lt_trans ih this)
theorem En(h:n∈CI cs m):n∈nms cs:=by refine oEA (AAP.mp h) λc hc q_2=>?_;subst q_2;exact AAZ (AA4.mp hc).1
theorem N5(cs:List Ch)(m:Mk):(CI cs m).length<=cs.length:=by rw[CI,AAB];exact AAX _ _
theorem MN(nd:(nms cs).Nodup)(ht:Dg cs)(hl:cs.length<=61)(hg:∀c∈cs,GenCh c)(m:Mk):∃us:List (List Nat),Opn cs m us/\us.length<=61/\∀U,FN 3 31 [.d (.list (cs.map Ch.data)),vm m] U (.d (dl us)) U:=by
 have hgr:∀n:{n//n∈nms cs},∃fs:List (List Nat),(∀x,x∈fs↔x=n.1\/Blw cs n.1 x)/\∀U,FN 2 28 [.d (.list (cs.map Ch.data)),.d (dl [n.1])] U (.d (dl fs)) U:=λn=>by
  refine AS (Ip nd ht hl (λc hc=>(hg c hc).few) (ns:=[n.1]) (λx hx=>by rw[AAJ.mp hx];exact n.2) (dc rfl)) λfs _ h2 h3=>⟨fs,λx=>(h2 x).trans ⟨λ⟨o,ho,e⟩=>?_,λe=>⟨n.1,.head _,e⟩⟩,h3⟩
  rw[AAJ.mp ho] at e;exact e
 refine oE (Classical.axiomOfChoice hgr) λgr hgr=>?_;let C:Cfg:=(C0 2).knowF 28 (λn:{n//n∈nms cs}=>[.d (.list (cs.map Ch.data)),.d (dl [n.1])]) (λn=>.d (dl (gr n))) (λn U=>(hgr n).2 U);have hgO:∀(n:{n//n∈nms cs}) U,C.O 28 [.d (.list (cs.map Ch.data)),.d (dl [n.1])] U=al (.d (dl (gr n))):=λn U=>JR (λa b e=>by
  injection e with _ e
  injection e with e _
  injection e with e
  injection e with e
  injection e with e _
  injection e with e
  rw[Subtype.ext (FQ e)]) n U
 have hsl:=AAC (N5 cs m) hl;let gi:List Nat->List Nat->Bool:=λo n=>@decide (∃h:o∈nms cs,n∈gr ⟨o,h⟩) (ACI _);have gi_eq:∀(o:List Nat) (h:o∈nms cs) (n:List Nat),gi o n=decide (n∈gr ⟨o,h⟩):=λo h n=>by
  by_cases q:n∈gr ⟨o,h⟩
  ·exact(AAI q)▸@AAI _ (ACI _) ⟨h,q⟩
  ·exact(AAT q)▸@AAT _ (ACI _) λ⟨_,r⟩=>q r
 let op:List Nat->Bool:=λn=>!((CI cs m).filter λo=>!decide (o=n)).any λo=>gi o n;refine Bb (FN.ends (C:=C) (f:=31) (zs:=[.d (.list (cs.map Ch.data)),vm m]) (U:=[]) (R:=λv U'=>v=.d (dl (Ax ((CI cs m).filter op)))/\U'=[.list ((CI cs m).map vs),.list (((CI cs m).filter op).map vs)]) (h:=by
  let K:Option V->Option V->Option V->Option V->Am:=λz2 z3 z5 z6=>[al (.d (.list (cs.map Ch.data))),al (vm m),z2,z3,az,z5,z6,az]
  refine Cg rfl (Bk vc (λp J U=>(∃z3,J=K (al (.ref 0)) z3 az az)/\[.list ((CI p m).map vs)]=U) (Hq rfl) ⟨⟨az,rfl⟩,rfl⟩ ?_ ?_)
  ·intro p c q J q_u4 e q_r1;obtain⟨⟨z3,rfl⟩,rfl⟩:=q_r1;have hc:c∈cs:=by rw[e];simp
   have hpl:(CI p m).length<=61:=by have h2:=congrArg List.length e;rw[AAF,AA2] at h2;exact LU h2 (N5 p m) hl rfl
   have hsn:CI (p++[c]) m=if HU m c then CI p m++[c.1] else CI p m:=by
    unfold CI nms;rw[ABN,List.filter_cons];cases HU m c with
    |true=>rw[AAQ];rfl
    |false=>exact congrArg _ (AAV _)
   have hcomp:(ev C.O (.D (.N 4) [4] (.aa (.N 3) (.i 2)) (.o (.P .And (.t (.C .Eq (.aa (.N 4) (.i 0)) (.s "set")) (.C .Eq (.aa (.N 4) (.i 1)) (.N 1))))))).v (K (al (.ref 0)) (al (vc c)) az az) [.list ((CI p m).map vs)]=al (.d (.list ((c.2.2.filter (EC m)).map AK.data))) :=
    CG AK.data (EC m) AK.data (Bv (Ad rfl rfl (CW c)) rfl) (AAC (hg c hc).deeds (dc rfl)) (λd _=>EZ (BC (Aj (Ad rfl rfl (BQ d)) (congrArg (λs=>al (V.d (.str s))) ID) EQ) λ_=>Aj (Ad rfl rfl (CM d)) rfl (dG d.mark m))) (λd _ _=>rfl)
   have hs:decide (((c.2.2.filter (EC m)).length:Int)>0)=HU m c:=by
    unfold HU;cases h:c.2.2.any (EC m) with
    |true =>
     obtain⟨d,h1,h2⟩:=ADV.mp h;have:=List.length_pos_of_mem (AA4.mpr ⟨h1,h2⟩);exact AAI (by omega)
    |false =>
     exact(List.filter_eq_nil_iff.mpr λd hd=>List.any_eq_false.mp h d hd)▸rfl
   refine AC ((Aj (AZ (A8 hcomp) (CO.trans (by rw[AAB]))) rfl MV).trans (congrArg al hs)) (λh=>?_) λh=>?_
   ·refine Bx rfl (A8 (Ad rfl rfl (AM c))) rfl (lmt (BV hpl rfl)) (Ab (Ab (Az _ rfl ⟨_,rfl⟩ ?_)));exact hsn▸(if_pos h)▸AAQ▸rfl
   ·refine Ab (Ab (Az _ rfl ⟨_,rfl⟩ ?_));rw[hsn,if_neg (h▸ABB)]
  intro J q_u1 q_r2;obtain⟨⟨z3,rfl⟩,rfl⟩:=q_r2;refine Cg rfl ?_;let St:List (List Nat)->Ac:=λfs=>[.list ((CI cs m).map vs),.list (fs.map vs)]
  refine Ik vs (λp J U=>(∃z6,J=K (al (.ref 0)) z3 (al (.ref 1)) z6)/\St (p.filter op)=U) rfl ?_ (λ_ _=>.inl rfl) ⟨⟨az,rfl⟩,rfl⟩ ?_ ?_
  ·intro p J q_u2 q_r3 k ws hk;obtain⟨_,rfl⟩:=q_r3;obtain⟨rfl,rfl⟩:=ABK (AAJ.mp hk);rfl
  ·intro p n q J q_u4 e q_r4;obtain⟨⟨z6,rfl⟩,rfl⟩:=q_r4;have hpl:(p.filter op).length<=61:=by have h2:=congrArg List.length e;rw[AAF,AA2] at h2;exact LU h2 (AAX op p) hsl rfl
   have hcomp:(ev C.O (.D (.C .In (.N 6) (.F 28 (.t (.N 0) (.lst (.o (.N 7)))))) [7] (.N 2) (.o (.C .NotEq (.N 7) (.N 6))))).v (K (al (.ref 0)) z3 (al (.ref 1)) (al (vs n))) (St (p.filter op))=al (.d (.list (((CI cs m).filter λo=>!decide (o=n)).map λo=>.bool (gi o n)))):=by
    refine Ih ?_;rw[TT vs (λo=>!decide (o=n)) (λo=>vb (gi o n)) rfl rfl (AY hsl rfl) (λo _=>EZ (Aj rfl rfl GA)) (λo ho _=>?_),AAE]
    ·rfl
    ·have hon:=En ho;refine Iu rfl (Gl (Bg rfl rfl) (hgO ⟨o,hon⟩ _)) ?_;rw[Yi,Cr,gi_eq o hon n]
   refine AC (t:=op n) (LJ (YS (A8 hcomp) (LX _ _))) (λh=>?_) λh=>?_
   ·refine Bx rfl rfl rfl (lmt (BV hpl rfl)) (Ab (Ab (Az _ rfl ⟨_,rfl⟩ ?_)));rw[ABN,ADQ h];show [_,O.list ((p.filter op++[n]).map vs)]=_;exact AAQ▸rfl
   ·refine Ab (Ab (Az _ rfl ⟨_,rfl⟩ ?_));rw[ABN,List.filter_cons_of_neg (h▸ABB)];show St (p.filter op++[])=_;rw[AAV]
  ·intro J q_u1 q_r5;obtain⟨⟨z6,rfl⟩,rfl⟩:=q_r5;exact AB (AZ (A8 rfl) (Dr (QJ rfl) (by have:=AAX op (CI cs m);exact Zt this hsl rfl))) ⟨rfl,rfl⟩)) λv U' q_2 h=>?_
 obtain⟨k2,k3⟩:=q_2;rw[k2,k3] at h;refine(Az (Ax ((CI cs m).filter op)) ⟨BM _ ((List.Nodup.sublist ((List.filter_sublist (p:=HU m)).map (λc:Ch=>c.1)) nd).filter _),λn=>?_⟩ (by rw[(Af _).length_eq];exact AAC (AAX _ _) hsl) (λU=>(FA.seal h rfl).any (af (CZ _ _) (af (CZ _ _) Ah))));rw[(Af _).mem_iff,AA4];refine and_congr_right λhn=>?_;rw[ACZ,List.any_eq_false];constructor
 ·intro h q_r6;refine oEA q_r6 λo ho hb=>?_;have hne:o≠n:=λe=>by rw[e] at hb;exact absurd (hb.lower nd ht) (Int.lt_irrefl _)
  refine h o (AA4.mpr ⟨ho,by rw[AAT hne];rfl⟩) ((gi_eq o (En ho) n).trans (AAI (((hgr ⟨o,En ho⟩).1 n).mpr (.inr hb))))
 ·intro h o ho q;refine oA (AA4.mp ho) λh1 h2=>?_;have h3:=En h1;have hne:o≠n:=λe=>by rw[AAI e] at h2;cases h2
  exact h (iEA o h1 ((((hgr ⟨o,h3⟩).1 n).mp (AAG ((gi_eq o h3 n).symm.trans q))).resolve_left λe=>hne e.symm))
theorem X9{κ β:Type}[DecidableEq κ](h:List (κ×β))(k k':κ)(v:β):Aq (BX h k v) k'=if k'=k then al v else Aq h k':=by
 unfold BX;rw[HK];cases e:Aq h k with
 |none =>
  show Aq (h++[(k,v)]) k'=_;by_cases q:k'=k
  ·subst q;rw[if_pos rfl,Gf e,Bp,if_pos rfl]
  ·rw[if_neg q];cases e':Aq h k' with
   |none=>rw[Gf e',Bp,if_neg λr=>q r.symm];rfl
   |some x=>exact Kb e'
 |some d =>
  show Aq (h.map λp=>if p.1=k then(p.1,v) else p) k'=_;have key:∀h:List (κ×β),Aq (h.map λp=>if p.1=k then(p.1,v) else p) k'=if k'=k then(Aq h k').map λ_=>v else Aq h k':=by
   intro h
   induction h with
   |nil=>show az=_;split<;>rfl
   |cons p h ih =>
    rw[ABP,Bp,Bp,ih];by_cases q:k'=k
    ·subst q;rw[if_pos rfl,if_pos rfl];by_cases r:p.1=k'
     ·exact(if_pos r)▸(if_pos r)▸(if_pos r)▸rfl
     ·rw[if_neg r,if_neg r,if_neg r]
    ·rw[if_neg q,if_neg q];by_cases r:p.1=k
     ·rw[if_pos r,if_neg λs=>q (s.symm.trans r),if_neg λs=>q (s.symm.trans r)]
     ·rw[if_neg r]
  rw[key h];by_cases q:k'=k
  ·subst q;exact(if_pos rfl)▸(if_pos rfl)▸e▸rfl
  ·rw[if_neg q,if_neg q]
section
variable{O:Orc}{kvs:List ((Str×Int)×PyData)}{m:Mk}
theorem YR(h1:Ci J i=al (.ref k))(h2:(ev O es).row J U=al [vm m,z])(h3:U[k]? = al (.dictP kvs)):(ev O (.H .get (.N i) es)).v J U=al (dfl (Aq kvs (mk2 m)) z):=by show((Ci J i).bind λx=>((ev O es).row J U).bind λys=>YT U x ys)=_;rw[h1,bs,h2,bs];show Vx U[k]? (vm m) z=_;exact h3▸rfl
end
noncomputable abbrev oS(st:List (Mk×List (List Nat))):O:=.dictP (Bc mk2 dl st)
theorem Vy(st:List (Mk×List (List Nat)))(m:Mk):dfl (Aq (Bc mk2 dl st) (mk2 m)) (.d (.list []))=.d (dl ((Aq st m).getD [])):=by rw[AI dl DK];cases Aq st m<;>rfl
section
variable{cs F:List Ch}{gs:Gsg}
theorem Im(h:Wov cs F gs)(τ:Ac):FN 2 40 [self] (W F gs (hts [] F)++τ) (.d (dl (Ax (nms cs)))) (W F gs (hts [] F)++τ) :=
 FA.tail (FA.seal' (UY h) rfl (Hn 3) ⟨_,rfl,AAL _,by rw[AAE];rfl⟩) rfl (af F6 Ah) (Hn 3)
theorem UW(h:Wov cs F gs)(τ:Ac):FN 5 47 [self] (W F gs (hts [] F)++τ) (.d (Fq (AX (AL cs)))) (W F gs (hts [] F)++τ):=FA.tail (fn_told' h) rfl (af F6 Ah) (Hn 3)
structure kP(sn:Mk->List Nat->Bool)(p:List (List Nat))(n:List Nat)(pd:List AK)(B:Nat)(st:List (Mk×List (List Nat))):Prop where
 get:∀m,(Aq st m).getD []=p.filter (sn m)++(if pd.any (EC m) then [n] else [])
 len:st.length<=B
theorem PI(h:Wov cs F gs)(τ:Ac):∃st:List (Mk×List (List Nat)),(∀m,(Aq st m).getD []=(Ax (nms cs)).filter λn=>decide (n∈CI cs m))/\FN 3 49 [self] (W F gs (hts [] F)++τ) (.ref (W F gs (hts [] F)++τ).length) ((W F gs (hts [] F)++τ)++[oS st]):=by
 let U0:=W F gs (hts [] F)++τ;let sn:Mk->List Nat->Bool:=λm n=>decide (n∈CI cs m);have ndL:=DF (BM _ h.H.nd);have hLl:(Ax (nms cs)).length<=61:=by rw[(Af _).length_eq,AAB];exact h.len
 let C:=C0 2;have at0:∀{o:O},(U0++[o])[U0.length]? = al o:=λ{o}=>by rw[AA6 (AAL _),ADJ];rfl
 have set0:∀{o o':O},(U0++[o]).set U0.length o'=U0++[o']:=λ{o o'}=>by rw[List.set_append_right _ _ (AAL _),ADJ];rfl
 refine Bb (FN.ends (C:=C) (f:=49) (zs:=[self]) (U:=U0) (R:=λv U'=>∃st:List (Mk×List (List Nat)),(∀m,(Aq st m).getD []=(Ax (nms cs)).filter (sn m))/\v=.ref U0.length/\U'=U0++[oS st]) (h:=by
  let K:Option V->Option V->Am:=λz2 z3=>[al self,al (.ref U0.length),z2,z3]
  refine MK (Ee vs (λp J U=>∃st,kP sn p [] [] (20*p.length) st/\(∃z2 z3,J=K z2 z3)/\U=U0++[oS st]) (SI.lst (.ac An (by unfold mtP;kernel_rfl) (C.sv rfl) .nil (Im h (τ++[.dictP []]))) mm2) (Az [] ⟨λm=>rfl,ABF _⟩ (iEE az az rfl) rfl) ?_ ?_)
  ·intro p n q J q_u4 e q_r1;refine AS q_r1 λst S q_2 q_3=>?_;obtain⟨z2,z3,rfl⟩:=q_2;subst q_3;have hn:n∈nms cs:=(Af _).mem_iff.mp (by rw[e];simp);have hnp:=λr=>by rw[e,ABW] at ndL;exact ndL.2.2 n r n (.head _) rfl
   refine oEA (AAP.mp hn) λc hc q_2=>?_;subst q_2;have hg:=h.gen c hc;have hpl:p.length<=61:=by have:=congrArg List.length e;rw[AAF,AA2] at this;exact R7 this hLl rfl
   refine Bk (λd=>.d d.data) (λpd J U=>∃st,kP sn p c.1 pd (20*p.length+pd.length) st/\(∃z3,J=K (al (vs c.1)) z3)/\U=U0++[oS st]) (Bv (Ad (Ad (DS rfl) rfl (Cq rfl (by rw[AI Ch.data BA,MM h.w.nd (h.perm.mem_iff.mpr hc)];rfl))) rfl (CW c)) rfl) (Az st ⟨λm=>(S.get m).trans rfl,S.len⟩ ⟨_,rfl⟩ rfl) ?_ ?_
   ·intro pd d qd J q_u4 ed q_r2;refine AS q_r2 λst S q_2 q_3=>?_;obtain⟨z3,rfl⟩:=q_2;subst q_3;have hw:C.t (.C .Eq (.aa (.N 3) (.i 0)) (.s "set")) (K (al (vs c.1)) (al (.d d.data))) (U0++[oS st])=al (decide (d.word=Ho)):=Aj (Ad rfl rfl (BQ d)) (congrArg (λs=>al (V.d (.str s))) ID) EQ;have any_sn:∀m,(pd++[d]).any (EC m)=(pd.any (EC m)||EC m d):=λm=>by rw[List.any_append];congr 1;exact Bool.or_false _
    have hlen:20*p.length+(pd++[d]).length=20*p.length+pd.length+1:=by rw[AAF];rfl
    have hget:∀{m:Mk},d.mark=al m->(ev C.O (.H .get (.N 1) (.t (.aa (.N 3) (.i 1)) (.lst .nil)))).v (K (al (vs c.1)) (al (.d d.data))) (U0++[oS st])=al (.d (dl ((Aq st m).getD []))):=λ{m} em=>by rw[YR rfl (Bg ((Ad rfl rfl (CM d)).trans (by rw[em])) rfl) at0,Vy]
    by_cases ew:d.word=Ho
    ·obtain⟨m,em⟩:∃m,d.mark=al m:=by
      rcases(hg.ok d (by rw[ed];simp)).shp with⟨e1,_⟩|⟨_,m,l,e2,_⟩|⟨e1,m,e2⟩
      ·exact absurd (ew.symm.trans e1) (by decide)
      ·exact⟨m,e2⟩
      ·exact⟨m,e2⟩
     have sd:∀m',EC m' d=decide (m=m'):=λm'=>by unfold EC;rw[AAI ew,em,Bool.true_and];exact decide_eq_decide.mpr ⟨λe=>AAA e,λe=>e▸rfl⟩
     have hin:(c.1∈(Aq st m).getD [])↔pd.any (EC m)=true:=by
      rw[S.get m,AA0];constructor
      ·rintro(r|r)
       ·exact absurd (AA4.mp r).1 hnp
       ·by_cases q:pd.any (EC m)=true
        ·exact q
        ·rw[if_neg q] at r;cases r
      ·intro r;exact(if_pos r)▸.inr (.head _)
     refine AC (BC hw λ_=>Aj rfl (hget em) (by rw[IH,Cr];rfl)) (λhh=>?_) λhh=>?_
     ·have hno:pd.any (EC m)=false:=by
       cases q:pd.any (EC m) with
       |false=>rfl
       |true=>exact absurd (hin.mpr q) (ABG (by have:=(AAH.mp hh).2;rw[ACZ] at this;exact this))
      have hgl:((Aq st m).getD []).length<=61:=by rw[S.get m,hno,if_neg (by decide),AAV];exact AAC (AAX _ _) hpl
      have hpd:pd.length<=20:=by have:=congrArg List.length ed;rw[AAF,AA2] at this;exact R7 this hg.deeds rfl
      refine EM (w:=mk2 m) (Ae (hget em) (y:=.d (dl [c.1])) rfl ((GK _ _ ?_).trans (by rw[<-AAQ]))) rfl ((Ad rfl rfl (CM d)).trans (em▸rfl)) at0 (by rw[Bu];exact BV (show st.length<=10000 by exact kC S.len hpl hpd rfl) rfl) (Ab (Ab (BS _ rfl (BX st m ((Aq st m).getD []++[c.1])) ⟨λm'=>?_,?_⟩ ⟨_,rfl⟩ ?_)))
      ·rw[AAB,AAB];exact AY (show _+1<=100 by exact AAS ‹_› (ACH rfl)) rfl
      ·rw[X9,any_sn,sd];by_cases q:m'=m
       ·subst q;rw[if_pos rfl,AAI rfl,Bool.or_true,if_pos rfl];show(Aq st m').getD []++[c.1]=_;rw[S.get m',hno,if_neg (by decide),AAV]
       ·rw[if_neg q,AAT λr=>q r.symm,Bool.or_false];exact S.get m'
      ·exact hlen▸AAC (ED _ _ _) (ABS S.len)
      ·rw[Bn dl DK,set0]
     ·have hh:=by rw[AAI ew,Bool.true_and] at hh;exact AAG (by cases r:decide (c.1∈(Aq st m).getD []) with|true=>rfl|false=>rw[r] at hh;cases hh)
      refine Ab (Ab (BS _ rfl st ⟨λm'=>?_,by rw[hlen];exact AB4 S.len⟩ ⟨_,rfl⟩ rfl));rw[any_sn,sd,S.get m'];by_cases q:m=m'
      ·subst q;rw[hin.mp hh];rfl
      ·rw[AAT q,Bool.or_false]
    ·refine C9 (BC (q:=true) hw (λq=>absurd (AAG q) ew)) (by rw[AAT ew];rfl) (Ab (BS _ rfl st ⟨λm=>?_,by rw[hlen];exact AB4 S.len⟩ ⟨_,rfl⟩ rfl));rw[any_sn,show EC m d=false by unfold EC;rw[AAT ew];rfl,Bool.or_false];exact S.get m
   ·intro J q_u1 q_r3;refine AS q_r3 λst S q_2 q_3=>?_;obtain⟨z3,rfl⟩:=q_2;subst q_3;refine Ab (BS _ rfl st ⟨λm=>?_,?_⟩ (iEE _ _ rfl) rfl)
    ·rw[S.get m,ABN];show _=(p.filter (sn m)++[c.1].filter (sn m))++[];rw[AAV,List.filter_cons];have:sn m c.1=c.2.2.any (EC m):=by
      by_cases q:c.2.2.any (EC m)=true
      ·exact q▸AAI (AAZ (AA4.mpr ⟨hc,q⟩))
      ·rw[Bool.not_eq_true] at q;rw[q];refine AAT λr=>oEA (AAP.mp r) λc' hc' e'=>oA (AA4.mp hc') λh1 h2=>?_;rw[IW h.H.nd h1 hc e'] at h2;exact ABB (q.symm.trans h2)
     exact this▸rfl
    ·have:=hg.deeds;have:=S.len;exact AAF▸(show [c.1].length=1 from rfl)▸kD this ‹_›
  ·intro J q_u1 q_r4;refine AS q_r4 λst S q_2 q_3=>?_;obtain⟨z2,z3,rfl⟩:=q_2;subst q_3;exact AB rfl (Az st (λm=>(S.get m).trans (AAV _)) rfl rfl))) λv U' q_2 hf=>?_
 refine AS q_2 λst k1 k2 k3=>?_;rw[k2,k3] at hf;exact iEA st k1 hf
end
noncomputable abbrev gdL(gs:Gsg)(o:List Nat):List (List Nat):=(Aq gs o).getD []
noncomputable def opB(gs:Gsg)(ns:List (List Nat))(n:List Nat):Bool:=!ns.any λo=>decide (n∈gdL gs o)
section
variable{cs F:List Ch}{gs:Gsg}
theorem XI{U:Ac}(hσ:U[1]? = al (oG gs)){ns:List (List Nat)}(hn:∀n∈ns,n∈gs.map (·.1))(hl:ns.length<=61):FN 2 50 [self,.d (dl ns)] U (.ref U.length) (U++[.list ((ns.filter (opB gs ns)).map vs)]):=by
 let C:=C0 1;have at0:∀{o:O},(U++[o])[U.length]? = al o:=λ{o}=>by rw[AA6 (AAL _),ADJ];rfl
 have set0:∀{o o':O},(U++[o]).set U.length o'=U++[o']:=λ{o o'}=>by rw[List.set_append_right _ _ (AAL _),ADJ];rfl
 have at1:∀{o:O},(U++[o])[1]? = al (oG gs):=λ{o}=>(ABE (AAM.mp hσ).1).trans hσ;exact FN.same (C:=C) (h:=by
  let K:Option V->Am:=λz3=>[al self,al (.d (dl ns)),al (.ref U.length),z3,az]
  refine Cg rfl (Bk vs (λp J U'=>(∃z3,J=K z3)/\U++[.list ((p.filter (opB gs ns)).map vs)]=U') (Hq rfl) ⟨⟨az,rfl⟩,rfl⟩ ?_ ?_)
  ·rintro p n q J _ e ⟨⟨z3,rfl⟩,rfl⟩;have hpl:(p.filter (opB gs ns)).length<=61:=by have h2:=congrArg List.length e;rw[AAF,AA2] at h2;exact LU h2 (AAX (opB gs ns) p) hl rfl
   have hcomp:(ev C.O (.D (.C .In (.N 3) (.aa (.R (ACG "grounds") (.N 0)) (.N 4))) [4] (.N 1) .nil)).v (K (al (vs n))) (U++[.list ((p.filter (opB gs ns)).map vs)])=al (.d (.list (ns.map λo=>.bool (decide (n∈gdL gs o))))):=by rw[CG (λt=>.str (Tx t)) (λ_=>true) (λo=>.bool (decide (n∈gdL gs o))) (Bv rfl rfl) (AY hl rfl) (λ_ _=>rfl) (λo ho _=>?_),BT];obtain⟨ls,hls⟩:=AJ.mpr (hn o ho);refine Iu (y:=.d (dl (gdL gs o))) rfl (Ad (DD rfl) rfl (Cq at1 (by rw[AI dl BA,gdL,hls];rfl))) ?_;rw[Yi,Cr]
   refine AC (t:=opB gs ns n) (LJ (YS (A8 hcomp) (LX _ _))) (λh=>?_) λh=>?_
   ·refine Bx rfl rfl at0 (lmt (BV hpl rfl)) (Ab (Ab (Az _ rfl ⟨_,rfl⟩ ?_)));rw[set0,ABN,ADQ h,AAQ];rfl
   ·refine Ab (Ab (Az _ rfl ⟨_,rfl⟩ ?_));rw[ABN,List.filter_cons_of_neg (h▸ABB)];show U++[O.list ((p.filter (opB gs ns)++[]).map vs)]=_;rw[AAV]
  ·rintro J _ ⟨⟨z3,rfl⟩,rfl⟩;exact AB rfl ⟨rfl,rfl⟩)
noncomputable def onF(cs:List Ch)(gs:Gsg)(m:Mk):List (List Nat):=((Ax (nms cs)).filter λn=>decide (n∈CI cs m)).filter (opB gs ((Ax (nms cs)).filter λn=>decide (n∈CI cs m)))
theorem bO(h:Wov cs F gs)(m:Mk):(onF cs gs m).length<=61:=by have h2:=AAX (λn=>decide (n∈CI cs m)) (Ax (nms cs));rw[(Af _).length_eq,AAB] at h2;exact AAC (AAX (opB gs ((Ax (nms cs)).filter λn=>decide (n∈CI cs m))) ((Ax (nms cs)).filter λn=>decide (n∈CI cs m))) (AAC h2 h.len)
theorem bN(h:Wov cs F gs)(m:Mk):Opn cs m (onF cs gs m):=by
 have mem:∀o,o∈((Ax (nms cs)).filter λn=>decide (n∈CI cs m))↔o∈CI cs m:=λo=>by rw[AA4,(Af _).mem_iff];exact⟨λq=>AAG q.2,λq=>⟨En q,AAI q⟩⟩
 have ground:∀o∈CI cs m,∀n,n∈gdL gs o↔Blw cs o n:=λo ho n=>by
  have hoF:o∈gs.map (·.1):=by rw[h.w.gk];exact(h.perm.map _).mem_iff.mpr (En ho)
  refine oE (AJ.mpr hoF) λls hls=>?_;obtain⟨pr,hpr,epr,epl⟩:∃pr∈gs,pr.2=ls/\pr.1=o:=by unfold Aq at hls;exact oEA (ABL.mp hls) λpr e1 e2=>Az pr (ABH e1) e2 (by simpa using ADA e1)
  have:=(h.w.gin pr hpr).2 n;rw[epr,epl] at this;rw[gdL,hls];exact this.trans ⟨Blw.mono λc hc=>h.perm.mem_iff.mp hc,Blw.mono λc hc=>h.perm.mem_iff.mpr hc⟩
 refine⟨((BM _ h.H.nd).filter _).filter _,λn=>?_⟩;unfold onF;rw[AA4,mem];refine and_congr_right λhn=>?_;unfold opB;rw[ACZ,List.any_eq_false];constructor
 ·rintro q ⟨o,ho,hb⟩;exact q o ((mem o).mpr ho) (AAI ((ground o ho n).mpr hb))
 ·intro q o ho r;have ho:=(mem o).mp ho;exact q (iEA o ho ((ground o ho n).mp (AAG r)))
end
structure ShK(D L:Nat)(d:PyData):Prop where
 able:d.showable=true
 nod:d.hasDict=false
 dep:d.depth<=D
 len:d.shown.length<=L
theorem ShK.str(hl:l.length<=n)(hc:∀c∈l,c<4294967296):ShK 0 (10*n+2) (.str (Tx l)):=by refine⟨by simp only[PyData.showable],by simp only[PyData.hasDict],by simp only[PyData.depth,AAL],?_⟩;simp only[PyData.shown];have:=StrLaws.reprText_len (Tx l) (by rw[Jh];exact hc);rw[GL] at this;exact jZ this hl
theorem ShK.int(h:i.natAbs<1000):ShK 0 13 (.int i):=by
 refine⟨?_,by simp only[PyData.hasDict],by simp only[PyData.depth,AAL],PyData.shown_int_le (ABT h (dc rfl))⟩;simp only[PyData.showable];refine AAI ?_;by_cases h0:i.natAbs=0
 ·rw[h0];decide
 ·exact ABT ((Nat.log2_lt (k:=10) h0).mpr (ABT h (dc rfl))) (dc rfl)
theorem ShK.tup(h1:ShK D L a)(h2:ShK D L' b):ShK (D+1) (L+L'+7) (.tuple [a,b]):=by
 refine⟨by simp only[PyData.showable,PyData.showableAll,h1.able,h2.able,Bool.and_self],by simp only[PyData.hasDict,PyData.hasDictAll,h1.nod,h2.nod,Bool.or_self],?_,?_⟩
 ·simp only[PyData.depth,PyData.depthAll];have:=h1.dep;have:=h2.dep;exact jC ‹_› this
 ·simp only[PyData.shown,PyData.shownAll];have h3:=tupleText_len_le [a.shown,b.shown];simp only[ABP,List.map_nil,List.sum_cons,List.sum_nil,AA2,List.length_nil] at h3;have:=h1.len;have:=h2.len;omega
theorem ShK.all:∀ds:List PyData,(∀d∈ds,ShK D L d)->PyData.showableAll ds=true/\PyData.hasDictAll ds=false/\PyData.depthAll ds<=D/\((PyData.shownAll ds).map (·.length)).sum+2*(PyData.shownAll ds).length<=ds.length*(L+2)
 |[],_=>by simp only[PyData.showableAll,PyData.hasDictAll,PyData.depthAll,PyData.shownAll];exact⟨trivial,trivial,ABF _,ABF _⟩
 |d::ds,h=>by refine JB (ShK.all ds λx hx=>h x (.tail _ hx)) λa1 a2 a3 a4=>?_;have hd:=h d (.head _);refine⟨by simp only[PyData.showableAll,hd.able,a1,Bool.and_self],by simp only[PyData.hasDictAll,hd.nod,a2,Bool.or_self],by simp only[PyData.depthAll];exact Nat.max_le.mpr ⟨hd.dep,a3⟩,?_⟩;simp only[PyData.shownAll,ABP,List.sum_cons,AA2];have:=hd.len;rw[Nat.add_mul];exact jA a4 this
theorem ShK.lst(h:∀d∈ds,ShK D L d)(hn:ds.length<=n):ShK (D+1) (n*(L+2)+3) (.list ds):=by
 refine JB (ShK.all ds h) λa1 a2 a3 a4=>⟨by simp only[PyData.showable,a1],by simp only[PyData.hasDict,a2],by simp only[PyData.depth];exact Nat.lt_succ_of_le ‹_›,?_⟩
 simp only[PyData.shown];exact jB a4 (listText_len_le (PyData.shownAll ds)) (Nat.mul_le_mul_right (L+2) hn)
theorem ShK.shw(h:ShK D L d)(hd:D<=50)(hl:L<=line):Shw d:=⟨h.able,h.nod,AAC h.dep hd,AAC h.len hl⟩
section
variable{O:List Ch}{c:Ch}{m:Mk}
theorem WD{c:Nat}(h:c∈EX):c<4294967296:=ABT (N2 c h) (dc rfl)
theorem Qz(h:Bq t=true):ShK 0 122 (.str (Tx t)):=ShK.str ((Cl t).mp h).2.1 λc hc=>WD (((Cl t).mp h).2.2 c hc)
theorem Q0(h:BE t):ShK 0 2002 (.str (Tx t)):=ShK.str h.len λc hc=>AAS (h.ok c hc).2 (dc rfl)
theorem YG(hg:∀c∈O,GenCh c)(hm:m∈(AX O).1):Bq m.1=true/\m.2.natAbs<1000:=by rw[HR] at hm;have hm:=(Js O []).mem_iff.mp hm;rw[AAV] at hm;refine oEA (List.mem_flatMap.mp hm) λc hc h=>oAA (DJ.mp h) λh1 h2 h3=>?_;have h4:=Jf c.2.2;have h5:=(hg c hc).deeds;exact⟨h1▸(hg c hc).name,by omega⟩
theorem Mi(hg:∀c∈O,GenCh c)(hm:m∈(AX O).1):ShK 1 142 (AD (al m)):=(Qz (YG hg hm).1).tup (.int (YG hg hm).2)
theorem bJ{κ β:Type}[DecidableEq κ]{h:List (κ×β)}{k:κ}{v:β}{p:κ×β}(hp:p∈BX h k v):p.2=v\/p∈h:=by
 unfold BX at hp;split at hp
 ·refine oEA (AAP.mp hp) λq hq q_2=>?_;subst q_2;split
  ·exact .inl rfl
  ·exact .inr hq
 ·rcases AA0.mp hp with q|q
  ·exact .inr q
  ·exact(AAJ.mp q)▸.inl rfl
theorem Wt(h:∀p∈s.2.1,BE p.2)(hd:BU d):∀p∈(stD nm k d s).2.1,BE p.2:=by
 have ht:d.word=Gj\/BE (d.text.getD []):=by
  rcases hd.shp with⟨_,l,e2,hl⟩|⟨_,_,l,_,e3,hl⟩|⟨e,_⟩
  ·exact .inr (e2▸hl)
  ·exact .inr (e3▸hl)
  ·exact .inl e
 have put:∀k':Mk,d.word≠Gj->∀p∈BX s.2.1 k' (d.text.getD []),BE p.2:=λk' hw p hp=>by
  rcases bJ hp with q|q
  ·exact q▸ht.resolve_left hw
  ·exact h p q
 unfold stD;split
 ·rename_i q
  exact put _ λe=>by have:=AAG q;rw[e] at this;exact absurd this (by decide)
 ·split
  ·rename_i q
   exact put _ λe=>by rw[e] at q;exact absurd q (by decide)
  ·exact h
theorem No(nm:List Nat):∀(ds:List AK) (k:Nat) (s:Sm),(∀p∈s.2.1,BE p.2)->(∀d∈ds,BU d)->∀p∈(G3 nm ds k s).2.1,BE p.2
 |[],_,_,h,_=>h
 |d::ds,k,s,h,hd=>No nm ds _ _ (Wt h (hd d (.head _))) λx hx=>hd x (.tail _ hx)
theorem ZG(hg:∀c∈O,GenCh c):∀p∈(AX O).2.1,BE p.2:=by
 have key:∀(O:List Ch) (s:Sm),(∀p∈s.2.1,BE p.2)->(∀c∈O,GenCh c)->∀p∈(O.foldl stC s).2.1,BE p.2:=by
  intro O
  induction O with
  |nil=>exactλ_ h _=>h
  |cons c O ih=>exactλs h hg=>ih _ (No c.1 c.2.2 0 s h (hg c (.head _)).ok) λx hx=>hg x (.tail _ hx)
 exact key O _ Ah hg
theorem cX{κ β:Type}[DecidableEq κ]{h:List (κ×β)}{k:κ}{v:β}(e:Aq h k=al v):∃p∈h,p.2=v:=by unfold Aq at e;exact oEA (ABL.mp e) λp e1 e2=>(iEA p (ABH e1) e2)
theorem Mf(hg:∀c∈O,GenCh c)(hy:y∈Bz (AX O)):y.1∈(AX O).1/\BE y.2:=by refine oEA (AAP.mp hy) λm hm q_2=>?_;subst q_2;have hm:=(AA4.mp hm).1;refine⟨hm,?_⟩;refine oE ((ET hg).has m hm) λl e=>?_;rw[e];refine oEA (cX e) λp hp q_2=>?_;subst q_2;exact ZG hg p hp
theorem Mm(hg:∀c∈O,GenCh c)(hl:O.length<=61):(AX O).1.length<=1220:=AAC (ET hg).row (K9 hl rfl)
theorem GS(hg:∀c∈O,GenCh c)(hl:O.length<=61):(Bz (AX O)).length<=1220:=AAC GR (Mm hg hl)
theorem WE(hg:∀c∈O,GenCh c)(hl:O.length<=61):Shw (dms (AX O).1):=by refine(ShK.lst (D:=1) (L:=142) (λd hd=>?_) (lml (Mm hg hl))).shw (dc rfl) (dc rfl);refine oEA (AAP.mp hd) λm hm q_2=>?_;subst q_2;exact Mi hg hm
theorem T1(hg:∀c∈O,GenCh c)(hl:O.length<=61):Shw (Fq (AX O)):=by refine(ShK.lst (D:=2) (L:=2151) (λd hd=>?_) (lml (GS hg hl))).shw (dc rfl) (dc rfl);refine oEA (AAP.mp hd) λy hy q_2=>?_;subst q_2;refine oA (Mf hg hy) λh1 h2=>?_;have h3:=Q0 h2;exact(Mi hg h1).tup ⟨h3.able,h3.nod,AY h3.dep rfl,h3.len⟩
theorem T2(hg:∀c∈O,GenCh c)(hl:O.length<=61):Shw (dl ((Bz (AX O)).map (·.2))):=by refine(ShK.lst (D:=0) (L:=2002) (λd hd=>?_) (lml (lml (GS hg hl)))).shw (dc rfl) (dc rfl);refine oEA (AAP.mp hd) λt ht q_2=>?_;subst q_2;refine oEA (AAP.mp ht) λy hy q_2=>?_;subst q_2;exact Q0 (Mf hg hy).2
theorem N4(h:∀n∈ns,Bq n=true)(hl:ns.length<=61):ShK 1 7567 (dl ns):=by refine ShK.lst (L:=122) (λd hd=>?_) (lml hl);refine oEA (AAP.mp hd) λt ht q_2=>?_;subst q_2;exact Qz (h t ht)
end
noncomputable abbrev duV(on:Mk->List (List Nat))(m:Mk):PyData:=.tuple [AD (al m),dl (on m)]
noncomputable abbrev duL(on:Mk->List (List Nat))(p:List Pr):List PyData:=(p.filter λx=>decide (1<(on x.1).length)).map λx=>duV on x.1
theorem HD(on:Mk->List (List Nat))(p:List Pr)(x:Pr):duL on (p++[x])=if 1<(on x.1).length then duL on p++[duV on x.1] else duL on p:=by
 unfold duL;rw[ABN,List.filter_cons,AAQ];by_cases q:1<(on x.1).length
 ·exact(if_pos q)▸(if_pos (AAI q))▸rfl
 ·exact(if_neg q)▸(if_neg ((AAT q)▸ABB))▸AAV _
section
variable{cs F:List Ch}{gs:Gsg}
theorem UX(hσ:U[1]? = al (oG gs)){ns:List (List Nat)}(hn:∀n∈ns,n∈gs.map (·.1))(hl:ns.length<=61):FN 2 50 [self,.d (dl ns)] U (.d (dl (ns.filter (opB gs ns)))) U :=
 FA.seal (XI hσ hn hl) ⟨_,rfl,AAL _,by rw[AA6 (AAL _),ADJ,AAE];rfl⟩
theorem LB(h:Wov cs F gs):FN 6 51 [self] (W F gs (hts [] F)) (.d (.list (duL (onF cs gs) (Bz (AX (AL cs)))))) (W F gs (hts [] F)):=by
 let U0:=W F gs (hts [] F);let on:=onF cs gs;let T:=Bz (AX (AL cs));have hO:=CX h.H.nd;have hs:=ET λc hc=>h.gen c (hO.perm.mem_iff.mp hc);have hol:(AL cs).length<=61:=by rw[hO.perm.length_eq];exact h.len
 have hT:T.length<=10000:=AAC GR (AAC hs.row (K9 hol rfl));refine oEA (PI h [.list []]) λst s1 s2=>?_;let C:=C0 5;let St:List Pr->Ac:=λp=>U0++[.list ((duL on p).map .d),oS st];have hq:FN 6 51 [self] U0 (.ref 3) (U0++[.list ((duL on T).map .d),oS st]):=by
  exact FN.same (C:=C) (h:=by
   let K:Option V->Option V->Am:=λz3 z4=>[al self,al (.ref 3),al (.ref 4),z3,z4]
   refine Cg rfl (AU rfl (.ac An (by unfold mtP;kernel_rfl) (C.sv rfl) .nil (s2.more (dc rfl))) ?_);refine Ee (λx=>.d (prD x)) (λp J U=>(∃z3 z4,J=K z3 z4)/\U=St p) (SI.lst (.ac An (by unfold mtP;kernel_rfl) (C.sv rfl) .nil (UW h [.list [],oS st])) mm2) ⟨(iEE az az rfl),rfl⟩ ?_ ?_
   ·intro p x q J q_u4 e q_r1;obtain⟨⟨z3,z4,rfl⟩,rfl⟩:=q_r1;have hpl:(duL on p).length<=10000:=by have h1:=AAX (λx:Pr=>decide (1<(on x.1).length)) p;have h2:=congrArg List.length e;rw[AAF,AA2] at h2;exact lml (LU h2 h1 hT rfl)
    have hsub:∀n∈((Ax (nms cs)).filter λn=>decide (n∈CI cs x.1)),n∈gs.map (·.1):=λn hn=>by exact h.w.gk▸(h.perm.map _).mem_iff.mpr ((Af _).mem_iff.mp (AA4.mp hn).1)
    have hsl:=by have h2:=AAX (λn=>decide (n∈CI cs x.1)) (Ax (nms cs));rw[(Af _).length_eq,AAB] at h2;exact AAC h2 h.len
    have hx:∀{z4:Option V} {U:Ac},(ev C.O (.aa (.N 3) (.i 0))).v (K (al (.d (prD x))) z4) U=al (vm x.1):=Ad rfl rfl rfl;have hget:(ev C.O (.H .get (.N 2) (.t (.aa (.N 3) (.i 0)) (.lst .nil)))).v (K (al (.d (prD x))) z4) (St p)=al (.d (dl ((Ax (nms cs)).filter λn=>decide (n∈CI cs x.1)))):=by rw[YR rfl (Bg hx rfl) rfl,Vy,s1]
    refine AU (v:=.d (dl (on x.1))) rfl (.ac An (by unfold mtP;kernel_rfl) (C.sv rfl) (C.sr (A8 hget)) ((UX rfl hsub hsl).more (dc rfl))) (AC (Aj (AZ (A8 rfl) (CO.trans (by rw[AAB]))) rfl MV) (λhh=>?_) λhh=>?_)
    ·have hh:=AAG hh;refine Bx rfl (A8 (Cn (Bg hx rfl) rfl)) rfl (lmt (BV hpl rfl)) (Ab (Ab (Az _ rfl (iEE _ _ rfl) ?_)));show U0++[O.list ((duL on p).map .d++[V.d (duV on x.1)]),oS st]=U0++[O.list ((duL on (p++[x])).map .d),oS st];rw[HD,if_pos (by exact Int.ofNat_le.mp ‹_›),AAQ];rfl
    ·have hh:=ABG hh;refine Ab (Ab (Az _ rfl (iEE _ _ rfl) ?_));show U0++[O.list ((duL on p).map .d),oS st]=U0++[O.list ((duL on (p++[x])).map .d),oS st];rw[HD,if_neg (Z8 hh)]
   ·intro J q_u1 q_r2;obtain⟨⟨z3,z4,rfl⟩,rfl⟩:=q_r2;exact AB rfl ⟨rfl,rfl⟩)
 exact FA.seal hq ⟨duL on T,rfl,AAL _,rfl⟩
theorem DC(h:Wov cs F gs):FN 2 40 [self] (W F gs (hts [] F)) (.d (dl (Ax (nms cs)))) (W F gs (hts [] F)):=by have:=Im h [];rw[AAV] at this;exact this
theorem Ol(h:Wov cs F gs):FN 6 48 [self] (W F gs (hts [] F)) (.d (dl ((Bz (AX (AL cs))).map (·.2)))) (W F gs (hts [] F)) :=
 FA.seal (XF h) ⟨_,rfl,AAL _,by rw[AAE,AAE];rfl⟩
noncomputable def KA(cs:List Ch)(gs:Gsg):List PyData :=
 [dms (AX (AL cs)).1,Fq (AX (AL cs)),dl (Ax (nms cs)),dl ((Bz (AX (AL cs))).map (·.2)),.list (duL (onF cs gs) (Bz (AX (AL cs))))]
theorem bM(m:Mk){n:List Nat}(hn:n∈onF cs gs m):n∈nms cs:=(Af _).mem_iff.mp (AA4.mp (AA4.mp hn).1).1
theorem Yl(h:Wov cs F gs):∀d∈KA cs gs,Shw d:=by
 have hO:=CX h.H.nd;have hg:=λc hc=>h.gen c (hO.perm.mem_iff.mp hc);have hl:(AL cs).length<=61:=by rw[hO.perm.length_eq];exact h.len
 have nm:∀n∈nms cs,Bq n=true:=λn hn=>by refine oEA (AAP.mp hn) λc hc q_2=>?_;subst q_2;exact(h.gen c hc).name
 have hn:=N4 (λn hn=>nm n ((Af _).mem_iff.mp hn)) (by rw[(Af _).length_eq,AAB];exact h.len);refine af (WE hg hl) (af (T1 hg hl) (af (hn.shw (dc rfl) (dc rfl)) (af (T2 hg hl) (af ?_ Ah))));refine(ShK.lst (D:=2) (L:=7716) (λd hd=>?_) (lml (AAC (AAX _ _) (GS hg hl)))).shw (dc rfl) (dc rfl);refine oEA (AAP.mp hd) λy hy q_2=>?_;subst q_2;exact(Mi hg (Mf hg (AA4.mp hy).1).1).tup (N4 (λn hn=>nm n (bM _ hn)) (bO h _))
end
noncomputable abbrev kp(d:PyData):PyData:=.tuple [d,.str d.shown]
def ShL(d:PyData):Prop:=Shw d/\U8 d=true
theorem Q5(h:ShL d):Dd .repr U [.d d]=al (.d (.str d.shown)):=by show(bif U8 d&&WF d then al (V.d (.str d.shown)) else az)=_;rw[Qy.mpr h.1,h.2];rfl
theorem T4{α:Type}{l:List α}{a:α}(h:l[k]? = al a):l.set k a=l:=by obtain⟨h1,rfl⟩:=AAM.mp h;exact List.set_getElem_self h1
section
variable{cs F:List Ch}{gs:Gsg}
theorem MY(h:Wov cs F gs):∀d∈KA cs gs,ShL d:=λd hd=>⟨Yl h d hd,by
 revert d
 exact af rfl (af rfl (af rfl (af rfl (af rfl Ah))))⟩
theorem Ri(h:Wov cs F gs)(hi:U[i]? = al (.list (hs.map .d)))(hl:hs.length<=100)
 (hf:∀(n f:Nat) (d:PyData),FN n f [self] (W F gs (hts [] F)) (.d d) (W F gs (hts [] F))->FN n f [.obj [b,b+1,b+2]] U (.d d) U) :
 FN 7 64 [.obj [b,b+1,b+2],.ref i] U DW (U.set i (.list ((hs++(KA cs gs).map kp).map .d))):=by
 let C:=C0 6;let me:V:=.obj [b,b+1,b+2];have hA:(KA cs gs).length=5:=rfl;have shl:=MY h;have rows:SEs (C.n+3) (.c (.ac (ACG "row") (.N 0) .nil) (.c (.ac (ACG "told") (.N 0) .nil) (.c (.ac (ACG "names") (.N 0) .nil) (.t (.ac (ACG "text") (.N 0) .nil) (.ac (ACG "questions") (.N 0) .nil))))) [al me,al (.ref i),az] U ((KA cs gs).map .d) U :=
  .cons (.ac An (by unfold mtP;kernel_rfl) (C.sv rfl) .nil ((hf _ _ _ (fn_row' h)).more (dc rfl)))
  (.cons (.ac An (by unfold mtP;kernel_rfl) (C.sv rfl) .nil ((hf _ _ _ (fn_told' h)).more (dc rfl)))
  (.cons (.ac An (by unfold mtP;kernel_rfl) (C.sv rfl) .nil ((hf _ _ _ (DC h)).more (dc rfl)))
  (.cons (.ac An (by unfold mtP;kernel_rfl) (C.sv rfl) .nil (hf _ _ _ (Ol h)))
  (.cons (.ac An (by unfold mtP;kernel_rfl) (C.sv rfl) .nil (hf _ _ _ (LB h))) .nil))))
 have hlst:=SE.frz (SL.lst rows (dc rfl));generalize KA cs gs=A at hA shl hlst;exact FN.same (C:=C) (h:=by
  refine Ee V.d (λp J U'=>(∃z,J=[al me,al (.ref i),z])/\U'=U.set i (.list ((hs++p.map kp).map .d))) (SI.lst hlst rfl) ⟨⟨_,rfl⟩,by rw[List.map_nil,AAV,T4 hi]⟩ ?_ ?_
  ·intro p x q J q_u4 e q_r1;obtain⟨⟨z,rfl⟩,rfl⟩:=q_r1;have hpl:=by have:=congrArg List.length e;rw[hA,AAF,AA2] at this;exact jM this
   refine Bx rfl (A8 (Cn (Bg rfl (AZ (A8 rfl) (Q5 (shl x (e▸AAW _ (.head _)))))) rfl)) (AB1 (AAM.mp hi).1) (by rw[AAB,AAF,AAB];exact BV (show hs.length+p.length<=200 by exact RC hl hpl rfl) rfl) (Ab (Az _ rfl ⟨_,rfl⟩ ?_));rw[List.set_set,AAQ (l₁:=p),<-ABQ,AAQ (l₁:=hs++p.map kp)];rfl
  ·intro J q_u1 q_r2;obtain⟨⟨z,rfl⟩,rfl⟩:=q_r2;exact Ab ⟨rfl,rfl⟩)
end
theorem XU(z:Str):BH .Eq (.d (.str z)) (.d (.str z)) U=al true:=by show al (z==z)=_;rw[beq_self_eq_true]
theorem XJ{hs:List PyData}(hi:U[i]? = al (.list ((hs.map kp).map .d)))(hl:hs.length<=1000)(hh:∀d∈hs,ShL d):FN 2 65 [.ref i] U (vb true) U:=by
 have hl':hs.length<=line:=AY hl rfl;exact FN.same (C:=C0 1) (h:=by
  refine AB (AZ (A8 ?_) (VW hs)) ⟨rfl,rfl⟩;show(((Fh U[i]?).bind λws=>al (ws,Fi (.ref i) ws)).bind λq=>Fc _ q.1).bind mkL=_;rw[hi];show(Fc _ ((hs.map kp).map V.d)).bind mkL=_;rw[AAE];rw[Ey (V.d∘kp) (λ_=>al (vb true)) hs (λd hd=>?_),bs,List.filterMap_eq_map']
  ·exact(show(hs.map λ_=>vb true)=(hs.map λ_=>PyData.bool true).map V.d by rw[AAE];rfl)▸JJ _ (lml hl')
  ·rw[Iu (AZ (A8 rfl) (Q5 (hh d hd))) rfl (XU _)];rfl)
open PySem.Calls PySem.SeqAt
noncomputable def Lb{κ β:Type}[DecidableEq κ](kvs:List (κ×β))(z:κ):List (κ×β):=kvs.filter λp=>decide (p.1≠z)
theorem Ay.filter{α β:Type}{R:α->β->Prop}{p:α->Bool}{q:β->Bool}(h:∀a b,R a b->p a=q b):∀{as:List α} {bs:List β},Ay R as bs->Ay R (as.filter p) (bs.filter q)
 |[],[],_=>trivial
 |a::as,b::bs,x=>by
  rw[List.filter_cons,List.filter_cons,<-h a b x.1];cases p a with
  |true=>exact⟨x.1,Ay.filter h x.2⟩
  |false=>exact Ay.filter h x.2
 |[],_::_,x=>x.elim
 |_::_,[],x=>x.elim
theorem SE.popS(hb0:FT a)(ha:SE n a J U (.ref k) ag)(hb:SEs n b J ag [.d (.str z)] ak)(h0:ag[k]? = al (.dictS kvs))(h1:ak[k]? = al (.dictS kvs))(hd:Aq kvs z=al d)(hl:kvs.length<line):SE n (.H .pop a b) J U (.d d) (ak.set k (.dictS (Lb kvs z))):=by
 refine SE.H hb0 F.plainAttrs_dict F.slot_dict_pop F.type_dict_pop ha hb (λr g s X A hx=>?_) λr g s X Ys A hx hy=>?_
 ·refine oEA hx λc hk q_2=>?_;subst q_2;refine⟨Gi A hk h0 (λ_ q=>nomatch q),λl e=>?_⟩;obtain rfl:=ABR e;exact A.has.ob k c _ hk h0 _ λx hx rx=>rx _ λ_ _ _ ho _ _ _ _ _ _=>(iEA x hx ho.2.1)
 ·refine oEA hx λc hk q_2=>?_;subst q_2;refine oEA hy.one λY q_1 ry=>?_;subst q_1;refine oEA ry λt q_1 _=>?_;subst q_1;refine A.has.dictS hk h1 λws hD hr=>?_;rcases Kd hr z with⟨e1,_⟩|⟨d',v,e1,e2,rv⟩
  ·exact Ak e1 hd
  ·rw[As hd e1];refine call_meetsIn F.slot_dict_pop hD.typeIs F.entry_dict_pop (F.args_dict_pop_2 _ _) (meets_dict_pop_there (strKind r.T.prog r.T.w) c (strKind_is _ _ z t) [] (.inl rfl) rfl) (PE ws v hD (P6 hr hl) e2 (λh' hD' hs=>?_));refine Ep hD' λx es ep hx ho hdd hk' hp hn=>.mk g (.refl _ _) (A.has.turn hk (λb x hb e=>(hs.2 b hb).trans e) hx λR_ kk=>kk es ep _ ho hdd hk' hp hn (hr.filter λp q h=>by rw[h.1]) (AAC (AAX _ _) (ACJ hl))) rv
section
variable{g g':G}{U N:Ac}{s s':Shared}{n f:Nat}{xs:List V}
theorem FA.newR(hf:FA n f xs [] (.ref j) N)(hx:∀x,x∈xs->low 0 x)(hw:∀o∈N,F7 0 o):FA n f xs U (.ref (U.length+j)) (U++N):=λr g s a Xs h At_ R=>by
 have H:Has r.T g (U++([]++[])) s:=by rw[AAV,AAV];exact At_.has
 have e:g.mu=g.mu++([]++[]):=(AAV _).symm;refine AAO (hf r (g.mid g.mu [] [] s.heap) s a Xs h ⟨At_.ok,At_.frames,At_.top,At_.depth,At_.units,At_.hh.fzm λ_ _ e=>e,At_.frs.sub λa o h=>(EG (NJ e (At_.has.ah a o h).2)).trans h,H.mid e At_.has.len rfl Ah⟩ (Ay.imp (λv X hv rx=>Jv Mz (hx v hv) rx) R)) (λX s' p=>p _ λg' le H' rX=>?_) λ_ _ h=>h;refine oEA rX λc hc q_2=>?_;subst q_2;have:=H.unmid e At_.has.len rfl rfl hw le H' rfl;rw[AAV,AAV] at this;exact .mk ⟨g'.fz,g.hid,g.mu++g'.mu⟩ ⟨⟨le.fz,λ_ _ q=>CH q⟩,λ_ _=>rfl⟩ this ⟨c,at_right' At_.has.len hc,rfl⟩
theorem WP{b:Nat}{v:Value}{fz hid:Addr->Option Obj}(hb:g.mu.length=b)(r:Av T g' (.obj [0,1,2]) v):Av T ⟨g'.fz,hid,g.mu++g'.mu⟩ (.obj [b,b+1,b+2]) v:=by refine r (λv=>Av T ⟨g'.fz,hid,g.mu++g'.mu⟩ (.obj [b,b+1,b+2]) v) λa d o mA h1 h2 h3 h4 h5 h6 h7 h8=>λR_ k=>k a d o mA h1 h2 h3 h4 h5 h6 h7 (JB h8 λq_0 q_1 q_2 _=>?_);obtain⟨a0,p0,q0⟩:=q_0;obtain⟨a1,p1,q1⟩:=q_1;obtain⟨a2,p2,q2⟩:=q_2;exact hb▸⟨(iEA a0 (CP p0) q0),(iEA a1 (CP p1) q1),(iEA a2 (CP p2) q2),trivial⟩
theorem FA.newO(hf:FA n f xs [] (.obj [0,1,2]) N)(hx:∀x,x∈xs->low 0 x)(hw:∀o∈N,F7 0 o):FA n f xs U (.obj [U.length,U.length+1,U.length+2]) (U++N):=λr g s a Xs h At_ R=>by
 have H:Has r.T g (U++([]++[])) s:=by rw[AAV,AAV];exact At_.has
 have e:g.mu=g.mu++([]++[]):=(AAV _).symm;refine AAO (hf r (g.mid g.mu [] [] s.heap) s a Xs h ⟨At_.ok,At_.frames,At_.top,At_.depth,At_.units,At_.hh.fzm λ_ _ e=>e,At_.frs.sub λa o h=>(EG (NJ e (At_.has.ah a o h).2)).trans h,H.mid e At_.has.len rfl Ah⟩ (Ay.imp (λv X hv rx=>Jv Mz (hx v hv) rx) R)) (λX s' p=>p _ λg' le H' rX=>?_) λ_ _ h=>h;have:=H.unmid e At_.has.len rfl rfl hw le H' rfl;rw[AAV,AAV] at this;exact .mk ⟨g'.fz,g.hid,g.mu++g'.mu⟩ ⟨⟨le.fz,λ_ _ q=>CH q⟩,λ_ _=>rfl⟩ this (WP (fz:=g.fz) At_.has.len rX)
end
section
variable{F:List Ch}{gs:Gsg}{hs:Gsl}{a:List Nat}{τ:Ac}
theorem H8(ha:a∈nms F):FN 2 38 [self,vs a] (W F gs hs++τ) DW (W F gs hs++τ):=by
 exact FN.same (C:=C0 1) (h:=by exact C9 (Aj rfl (DS rfl) (NI a)) ((AAI ha)▸rfl) (Ab ⟨rfl,rfl⟩))
theorem UN(ha:a∈nms F):Aq (Bc Tx PyData.int (hts [] F)) (Tx a)=al (.int (hgt F a)):=by rw[AI PyData.int BA,MG ha];rfl
theorem Io(ha:a∈nms F):FN 3 42 [self,vs a] (W F gs (hts [] F)++τ) (vi (hgt F a)) (W F gs (hts [] F)++τ):=by
 exact FN.same (C:=C0 2) (h:=by refine Bl rfl (.ac An (by unfold mtP;kernel_rfl) ((C0 2).sv rfl) ((C0 2).sr rfl) (H8 ha)) ?_;exact AB (Ad (E6 rfl) rfl (Cq rfl (UN ha))) ⟨rfl,rfl⟩)
theorem Iq(nd:(F.map (·.1)).Nodup)(hg:∀c∈F,GenCh c)(hc:c∈F):FN 3 41 [self,vs c.1] (W F gs hs++τ) (vc c) (W F gs hs++τ):=by
 have ha:c.1∈nms F:=AAZ hc;exact FN.same (C:=C0 2) (h:=by refine Bl rfl (.ac An (by unfold mtP;kernel_rfl) ((C0 2).sv rfl) ((C0 2).sr rfl) (H8 ha)) (Aw (Ad (DS rfl) rfl (Cq rfl (by rw[AI Ch.data BA,MM nd hc];rfl))) ?_);exact AB (Cn (ER rfl (AZ (A8 (Ad rfl rfl (Dq c))) (GC (lml (AAC (hg c hc).few (dc rfl))))) (AZ (A8 (Ad rfl rfl (CW c))) (GC (lml (AAC (hg c hc).deeds (dc rfl)))))) rfl) ⟨rfl,rfl⟩)
theorem Ok(w:IS F gs)(ha:a∈nms F):∃ls,Aq gs a=al ls/\(ls.length<=61/\ls.Pairwise (· < ·))/\∀l,l∈ls↔Blw F a l:=by
 refine oE (AJ.mpr (show a∈gs.map (·.1) by rw[w.gk];exact ha)) λls hls=>?_;obtain⟨pr,hpr,epr,epl⟩:∃pr∈gs,pr.2=ls/\pr.1=a:=by unfold Aq at hls;exact oEA (ABL.mp hls) λpr e1 e2=>(Az pr (ABH e1) e2 (by simpa using ADA e1))
 have:=w.gin pr hpr;rw[epr,epl] at this;exact iEA ls hls this
theorem PM(w:IS F gs)(ha:a∈nms F):FN 3 43 [self,vs a] (W F gs hs++τ) (.d (dl (gdL gs a))) (W F gs hs++τ):=by
 refine AS (Ok w ha) λls hls q_2 _=>?_;obtain⟨hl,_⟩:=q_2;have el:gdL gs a=ls:=by rw[gdL,hls];rfl
 rw[el];exact FN.same (C:=C0 2) (h:=by refine Bl rfl (.ac An (by unfold mtP;kernel_rfl) ((C0 2).sv rfl) ((C0 2).sr rfl) (H8 ha)) ?_;exact AB (AZ (A8 (Ad (DD rfl) rfl (Cq rfl (by rw[AI dl BA,hls];rfl)))) (GC (lml (AY hl rfl)))) ⟨rfl,rfl⟩)
noncomputable def lnL(cs:List Ch)(gs:Gsg)(a:List Nat):List (List Nat):=(Ax (nms cs)).filter λn=>decide (a∈gdL gs n)
theorem Kk(h:Wov cs F gs)(ha:a∈nms F):FN 4 44 [self,vs a] (W F gs (hts [] F)++τ) (.d (dl (lnL cs gs a))) (W F gs (hts [] F)++τ):=by
 let C:=C0 3;let U:=W F gs (hts [] F)++τ;have hl:(Ax (nms cs)).length<=61:=by rw[(Af _).length_eq,AAB];exact h.len
 exact FN.same (C:=C) (h:=by
  refine Bl rfl (.ac An (by unfold mtP;kernel_rfl) (C.sv rfl) (C.sr rfl) ((H8 ha).more (dc rfl))) (Ct (SE.frz (SL.D (vs:=(Ax (nms cs)).map vs) (SI.lst (.ac An (by unfold mtP;kernel_rfl) (C.sv rfl) .nil ((Im h τ).more (dc rfl))) (by
   show al (((Ax (nms cs)).map λt=>PyData.str (Tx t)).map V.d)=_;rw[AAE];rfl)) (DQ (kps:=[]) (Ao C.ok _) (Ao C.ok _) (λ_ _ m=>nomatch m) ?_) (by
   rw[AAB,AAB];exact AAC (AAX _ _) (AY hl rfl)))) ⟨rfl,rfl⟩)
  rw[Ey vs (λn=>if decide (a∈gdL gs n)=true then al (vs n) else az) (Ax (nms cs)) (λn hn=>?_)]
  ·congr 1;rw[lnL,AAE];generalize Ax (nms cs)=L
   induction L with
   |nil=>rfl
   |cons n L ih =>
    rw[ADH,List.filter_cons];by_cases q:decide (a∈gdL gs n)=true
    ·exact(if_pos q)▸(if_pos q)▸ABP▸ih▸rfl
    ·rw[if_neg q,if_neg q,<-ih]
  ·obtain⟨ls,hls,_⟩:=Ok h.w ((h.perm.map _).mem_iff.mpr ((Af _).mem_iff.mp hn));have ht:=by exact EZ (Aj (O:=C.O) (J:=[al self,al (vs a),al (vs n)]) (U:=U) (a:=.N 1) (b:=.aa (.R (ACG "grounds") (.N 0)) (.N 2)) (y:=.d (dl (gdL gs n))) rfl (Ad (DD rfl) rfl (Cq rfl (by rw[AI dl BA,gdL,hls];rfl))) (by rw[Yi,Cr]))
   show((ev C.O (.o (.C .In (.N 1) (.aa (.R (ACG "grounds") (.N 0)) (.N 2))))).ts [al self,al (vs a),al (vs n)] U).bind _=_;rw[ht];cases decide (a∈gdL gs n)<;>rfl)
end
noncomputable def Cfg.knowA(C:Cfg)(f:Nat){α:Type}(arg:α->List V)(out:α->V)(P:Ac->Prop)(h:∀a U,P U->FN C.n f (arg a) U (out a) U):Cfg:=C.add f (λxs U=>@dite _ (P U/\∃a,arg a=xs) (ACI _) (λq=>al (out (Classical.choose q.2))) λ_=>az) λxs U v e=>by
 by_cases q:P U/\∃a,arg a=xs
 ·rw[dif_pos q] at e;rw[<-AAA e];have:=h (Classical.choose q.2) U q.1;rw[ADM q.2] at this;exact this
 ·rw[dif_neg q] at e;exact Aa e
theorem DL{C:Cfg}{α:Type}{arg:α->List V}{out:α->V}{P:Ac->Prop}{h:∀a U,P U->FN C.n f (arg a) U (out a) U}(inj:∀a b,arg a=arg b->out a=out b)(a:α)(hσ:P U):(C.knowA f arg out P h).O f (arg a) U=al (out a):=by have q:P U/\∃b,arg b=arg a:=iAE hσ a rfl;show(bif Nat.beq f f then@dite _ (P U/\∃b,arg b=arg a) (ACI _) (λq=>al (out (Classical.choose q.2))) λ_=>az else C.O f (arg a) U)=_;rw[Nat.beq_refl f];show@dite _ (P U/\∃b,arg b=arg a) (ACI _) (λq=>al (out (Classical.choose q.2))) (λ_=>az)=_;rw[dif_pos q,inj _ _ (ADM q.2)]
theorem Gh{O:Orc}{ks:List Nat}{ys:List V}(h1:Ci J i=al (.obj ks))(h2:(ev O es).row J U=al ys)(hm:mtP nm=al f)(h3:O f (.obj ks::ys) U=al v):(ev O (.ac nm (.N i) es)).v J U=al v:=by show((Ci J i).bind λx=>((ev O es).row J U).bind λys=>(gD x).bind λks=>(mtP nm).bind λf=>O f (.obj ks::ys) U)=_;exact h1▸bs▸h2▸bs▸hm▸h3
section
variable{F:List Ch}{gs:Gsg}{a:List Nat}
theorem Vz{κ κ' α β:Type}[DecidableEq κ][DecidableEq κ']{φ:κ->κ'}{f:α->β}(inj:∀a b,φ a=φ b->a=b)(kvs:List (κ×α))(k:κ):Lb (Bc φ f kvs) (φ k)=Bc φ f (Lb kvs k):=by unfold Lb Bc;rw[AB3];congr 1;exact List.filter_congr λp _=>decide_eq_decide.mpr ⟨λh e=>h (congrArg φ e),λh e=>h (inj _ _ e)⟩
noncomputable abbrev CJ(p:List (List Nat))(n:List Nat):Bool:=!decide (n∈p)
theorem Kw{α:Type}(kvs:List (List Nat×α))(p:List (List Nat))(n:List Nat):Lb (kvs.filter λq=>CJ p q.1) n=kvs.filter λq=>CJ (p++[n]) q.1:=by
 unfold Lb;rw[AB2];refine List.filter_congr λq _=>?_;by_cases h1:q.1=n
 ·simp[CJ,h1]
 ·simp[CJ,h1]
theorem Pt{C:Cfg}{P:Fl->Ac->Prop}{U:Ac}{β:Type}{f:β->PyData}{kvs:List (List Nat×β)}{n:List Nat}(ha:(ev C.O (.R nm (.N 0))).v J U=al (.ref k))(hi:Ci J 3=al (vs n))(h0:U[k]? = al (.dictS (Bc Tx f kvs)))(hn:n∈kvs.map (·.1))(hl:kvs.length<=100)(kk:Al C P r J (U.set k (.dictS (Bc Tx f (Lb kvs n))))):Al C P (.cons (.exp (.H .pop (.R nm (.N 0)) (.o (.N 3)))) r) J U:=by refine oE (AJ.mpr hn) λx hx=>?_;rw[<-Vz BA] at kk;exact Bl rfl (SE.popS K6 (C.sv ha) (C.sr (A8 hi)) h0 h0 (by rw[AI f BA,hx];rfl) (by rw[Bu];exact BV hl rfl)) kk
noncomputable def Fg(cs:List Ch)(gs:Gsg)(a:List Nat):List (List Nat):=Ax (lnL cs gs a++[a])
theorem XG(h:Wov cs F gs)(ha:a∈nms F)(hnd:(lnL cs gs a++[a]).Nodup)(hcl:∀c∈F,CJ (Fg cs gs a) c.1=true->∀l∈c.2.1,CJ (Fg cs gs a) l=true) :
 FN 5 39 [self,vs a] (W F gs (hts [] F)++τ) (.d (dl (Fg cs gs a))) (W (F.filter λc=>CJ (Fg cs gs a) c.1) (gs.filter λq=>CJ (Fg cs gs a) q.1) (hts [] (F.filter λc=>CJ (Fg cs gs a) c.1))++τ):=by
 let U:=W F gs (hts [] F)++τ;let out:=Fg cs gs a;have hL:(lnL cs gs a).length<=61:=AAC (AAX _ _) (by rw[(Af _).length_eq,AAB];exact h.len);have hk44:∀(x:Unit) U',U'=U->FN (C0 4).n 44 [self,vs a] U' (.d (dl (lnL cs gs a))) U':=λ_ U' e=>e▸Kk h ha;let C:Cfg:=(C0 4).knowA 44 (λ_:Unit=>[self,vs a]) (λ_=>.d (dl (lnL cs gs a))) (λU'=>U'=U) hk44;have o44:C.O 44 [self,vs a] U=al (.d (dl (lnL cs gs a))):=DL (λ_ _ _=>rfl) () rfl;have odd:out.Nodup:=(Af _).nodup_iff.mpr hnd;have oin:∀n∈out,n∈nms F:=λn hn=>by
  rcases AA0.mp ((Af _).mem_iff.mp hn) with q|q
  ·exact(h.perm.map _).mem_iff.mpr ((Af _).mem_iff.mp (AA4.mp q).1)
  ·exact(AAJ.mp q)▸ha
 let St:List (List Nat)->Ac:=λp=>[.dictS (Bc Tx Ch.data ((hK F).filter λq=>CJ p q.1)),.dictS (Bc Tx dl (gs.filter λq=>CJ p q.1)),.dictS (Bc Tx PyData.int ((hts [] F).filter λq=>CJ p q.1))]++τ;have St0:St []=U:=by show [O.dictS (Bc Tx Ch.data ((hK F).filter λ_=>true)),.dictS (Bc Tx dl (gs.filter λ_=>true)),.dictS (Bc Tx PyData.int ((hts [] F).filter λ_=>true))]++τ=_;rw[BT,BT,BT]
 have eSt:St out=W (F.filter λc=>CJ out c.1) (gs.filter λq=>CJ out q.1) (hts [] (F.filter λc=>CJ out c.1))++τ:=by
  have e1:=JX (CJ out) [] F hcl;rw[List.filter_nil] at e1;have e2:(hK F).filter (λq=>CJ out q.1)=hK (F.filter λc=>CJ out c.1):=by exact AB3▸rfl
  show [O.dictS (Bc Tx Ch.data ((hK F).filter λq=>CJ out q.1)),.dictS (Bc Tx dl (gs.filter λq=>CJ out q.1)),.dictS (Bc Tx PyData.int ((hts [] F).filter λq=>CJ out q.1))]++τ=_;rw[e2,<-e1]
 refine Bb (FN.ends (f:=39) (zs:=[self,vs a]) (U:=U) (R:=λv U'=>v=.d (dl out)/\U'=St out) (hn:=show 1<=4 by decide) (h:=by
  refine Bl rfl (.ac An (by unfold mtP;kernel_rfl) (C.sv rfl) (C.sr rfl) ((H8 ha).more (dc rfl))) (Aw (AZ (A8 (x:=.d (dl (lnL cs gs a++[a]))) ?_) (Dr mm2 (by rw[AAF];show(lnL cs gs a).length+1<64;exact(by omega)))) ?_)
  ·refine Ae (y:=.d (dl [a])) (Gh rfl rfl (by unfold mtP;kernel_rfl) o44) rfl ?_;rw[GK _ _ (lmt (AY (ABS hL) rfl)),<-AAQ]
  show Al C _ _ _ U;rw[<-St0];let K:Option V->Am:=λz=>[al self,al (vs a),al (.d (dl out)),z]
  refine Bk (l:=out) (λn=>vs n) (λp J U'=>(∃z,J=K z)/\U'=St p) (Hq rfl) ⟨⟨az,rfl⟩,rfl⟩ ?_ ?_
  ·intro p n q J q_u4 e q_r1;obtain⟨⟨z,rfl⟩,rfl⟩:=q_r1;have hnp:n∉p:=by have h1:=odd;rw[e] at h1;exactλq'=>(ABW.mp h1).2.2 n q' n (.head _) rfl
   have hnF:=oin n (e▸AAW _ (.head _));have key:∀{β:Type} {kvs:List (List Nat×β)},n∈kvs.map (·.1)->n∈(kvs.filter λq=>CJ p q.1).map (·.1):=λ{β kvs} hk=>by obtain⟨x,hx,rfl⟩:=AAP.mp hk;exact AAZ (AA4.mpr ⟨hx,by simp[CJ,hnp]⟩)
   have hF:=h.w.len;have hg:gs.length<=100:=by have:=congrArg List.length h.w.gk;rw[AAB,AAB] at this;exact RB this hF rfl
   have hh:(hts [] F).length<=100:=by have:=congrArg List.length (Cm [] F);rw[AAB,AAF,AAB] at this;simp at this;exact RB this hF rfl
   refine Pt (DS rfl) rfl rfl (key (by rw[MI];exact hnF)) (AAC (AAX _ _) (lml (AAC ‹_› (ACH rfl)))) (Pt (DD rfl) rfl rfl (key (h.w.gk▸hnF)) (AAC (AAX _ _) hg) ?_);refine Pt (E6 rfl) rfl rfl (key (by rw[Cm];exact hnF)) (AAC (AAX _ _) hh) (Ab (Az _ rfl ⟨_,rfl⟩ ?_));show [O.dictS (Bc Tx Ch.data (Lb ((hK F).filter λq=>CJ p q.1) n)),.dictS (Bc Tx dl (Lb (gs.filter λq=>CJ p q.1) n)),.dictS (Bc Tx PyData.int (Lb ((hts [] F).filter λq=>CJ p q.1) n))]++τ=_;rw[Kw,Kw,Kw]
  ·intro J q_u1 q_r2;obtain⟨⟨z,rfl⟩,rfl⟩:=q_r2;exact AB rfl ⟨rfl,rfl⟩)) λv U' q_2 hf=>?_
 obtain⟨h1,h2⟩:=q_2;rw[h1,h2,eSt] at hf;exact hf
end
section
variable{cs F G:List Ch}{gs:Gsg}{a n:List Nat}{p:List Nat->Bool}
theorem UT(h:Wov cs F gs)(hn:n∈nms cs):a∈gdL gs n↔Blw cs n a:=by refine AS (Ok h.w ((h.perm.map _).mem_iff.mpr hn)) λls hls _ hm=>?_;rw[gdL,hls];exact(hm a).trans ⟨Blw.mono λc hc=>h.perm.mem_iff.mp hc,Blw.mono λc hc=>h.perm.mem_iff.mpr hc⟩
theorem P5(h:Wov cs F gs):n∈lnL cs gs a↔n∈nms cs/\Blw cs n a:=by rw[lnL,AA4,(Af _).mem_iff];exact and_congr_right λhn=>by rw[AB8];exact UT h hn
theorem NQ(h:Wov cs F gs):(lnL cs gs a++[a]).Nodup:=by refine ABW.mpr ⟨(DF (BM _ h.H.nd)).filter _,ABX.mpr ⟨AA1,ABY⟩,λx hx y hy e=>?_⟩;rw[AAJ.mp hy] at e;rw[e] at hx;exact absurd (((P5 h).mp hx).2.lower h.H.nd h.H.topo) (Int.lt_irrefl _)
theorem FV(h:Wov cs F gs)(ha:a∈nms cs):n∈Fg cs gs a↔n∈nms cs/\(n=a\/Blw cs n a):=by
 rw[Fg,(Af _).mem_iff,AA0,P5 h,AAJ];constructor
 ·rintro(⟨h1,h2⟩|rfl)
  ·exact⟨h1,.inr h2⟩
  ·exact⟨ha,.inl rfl⟩
 ·rintro⟨h1,h2|h2⟩
  ·exact .inr h2
  ·exact .inl ⟨h1,h2⟩
theorem Ly:CJ l n=true↔n∉l:=by simp[CJ]
theorem J8(h:Wov cs F gs)(ha:a∈nms cs):∀c∈cs,CJ (Fg cs gs a) c.1=true->∀l∈c.2.1,CJ (Fg cs gs a) l=true:=λc hc h1 l hl=>by
 refine Ly.mpr λh2=>(Ly.mp h1) ((FV h ha).mpr ⟨AAZ hc,.inr ?_⟩)
 rcases((FV h ha).mp h2).2 with q|q
 ·exact q▸.one hc hl
 ·exact .more hc hl q
theorem Dg.filter(ht:Dg F)(hc:∀c∈F,p c.1=true->∀l∈c.2.1,p l=true):Dg (F.filter λc=>p c.1):=λpre c post e l hl=>by
 refine Br (ACB.mp e) λa b e1 q_3 e2=>?_;subst q_3;refine G9 (ACC.mp e2) λa' b' e3 e4 e5 q_5=>?_;subst q_5;have e6:F=(a++a')++c::b':=by rw[e1,e3,ABQ]
 have hcF:c∈F:=by rw[e6];exact AAW _ (.head _)
 refine oEA (AAP.mp (ht _ _ _ e6 l hl)) λx hx ex=>?_;have px:p x.1=true:=by rw[ex];exact hc c hcF e5 l hl
 rcases AA0.mp hx with q|q
 ·exact AAP.mpr (iEA x (AA4.mpr ⟨q,px⟩) ex)
 ·exact absurd px (e4 x q)
theorem Blw.keep(hc:∀c∈F,p c.1=true->∀l∈c.2.1,p l=true)(b:Blw F x y):p x=true->Blw (F.filter λc=>p c.1) x y:=by
 induction b with
 |one h1 h2=>exactλq=>.one (AA4.mpr ⟨h1,q⟩) h2
 |more h1 h2 _ ih=>exactλq=>.more (AA4.mpr ⟨h1,q⟩) h2 (ih (hc _ h1 q _ h2))
theorem Wov.left(h:Wov cs F gs)(hc:∀c∈cs,p c.1=true->∀l∈c.2.1,p l=true):Wov (cs.filter λc=>p c.1) (F.filter λc=>p c.1) (gs.filter λq=>p q.1):=by
 have hF:=λc hx=>hc c (h.perm.mem_iff.mp hx);refine⟨h.H.filter hc,λc hx=>h.gen c (AA4.mp hx).1,AAC (AAX _ _) h.len,h.perm.filter _,⟨?_,h.w.topo.filter hF,λc hx=>h.w.gen c (AA4.mp hx).1,AAC (AAX _ _) h.w.len,?_,λq hq=>⟨(h.w.gin q (AA4.mp hq).1).1,λl=>((h.w.gin q (AA4.mp hq).1).2 l).trans ⟨λb=>b.keep hF (AA4.mp hq).2,Blw.mono λc hx=>(AA4.mp hx).1⟩⟩⟩⟩
 ·exact(List.Sublist.map _ List.filter_sublist).nodup h.w.nd
 ·have e1:(gs.filter λq=>p q.1).map (·.1)=(gs.map (·.1)).filter p:=by rw[AB3];rfl
  have e2:(F.filter λc=>p c.1).map (·.1)=(F.map (·.1)).filter p:=by rw[AB3];rfl
  rw[e1,e2,h.w.gk]
end
theorem Ku{O:Orc}{x:PyData}(h:(ev O a).v J U=al (.d x)):(ev O (.lst (.o a))).v J U=al (.d (.list [x])):=by show((ev O (.o a)).row J U).bind mkL=_;exact(A8 h)▸JJ [x] (dc rfl)
theorem HA:∀l:List PyData,(∀d∈l,f d d=al true)->Di f l l=al true
 |[],_=>rfl
 |d::l,h=>by show(f d d).bind (λa=>(Di f l l).bind λb=>al (a&&b))=_;rw[h d (.head _),HA l λx hx=>h x (.tail _ hx)];rfl
theorem HB(h:∀d∈l,eqN n d d=al true):eqN (n+1) (.list l) (.list l)=al true:=by show(if l.length=l.length then Di (eqN n) l l else al false)=_;exact(if_pos rfl)▸HA l h
theorem Ko(n:Nat)(m:Mk):eqN (n+1) (AD (al m)) (AD (al m))=al true:=by rw[Ir n m m,AAI rfl]
theorem DO(n:Nat)(l:List (List Nat)):eqN (n+1) (dl l) (dl l)=al true:=HB λd hd=>by refine oEA (AAP.mp hd) λt _ q_2=>?_;subst q_2;rw[Db,AAI rfl]
theorem FZ(h:eqN AQ d d=al true):BH .NotEq (.d d) (.d d) U=al false:=by show Ib (eqN AQ d d)=_;exact h▸rfl
theorem eq_self'(h:eqN AQ d d=al true):BH .Eq (.d d) (.d d) U=al true:=h
theorem Vn(on:Mk->List (List Nat))(T:List Pr):eqN AQ (.list (duL on T)) (.list (duL on T))=al true:=by refine HB λd hd=>oEA (AAP.mp hd) λx _ q_2=>?_;subst q_2;exact HA _ (af (Ko 37 x.1) (af (DO 37 _) Ah))
section
variable{cs F:List Ch}{gs:Gsg}{hs:Gsl}{a:List Nat}
theorem cT(h:Wov cs F gs):∃gr:{n//n∈nms cs}->List (List Nat),∀n:{n//n∈nms cs},((gr n).Nodup/\(gr n).length<=62/\∀x,x∈gr n↔x=n.1\/Blw cs n.1 x)/\∀U,FN 2 28 [.d (.list (cs.map Ch.data)),.d (dl [n.1])] U (.d (dl (gr n))) U:=by refine Classical.axiomOfChoice (r:=λ(n:{n//n∈nms cs}) gr=>(gr.Nodup/\gr.length<=62/\∀x,x∈gr↔x=n.1\/Blw cs n.1 x)/\∀U,FN 2 28 [.d (.list (cs.map Ch.data)),.d (dl [n.1])] U (.d (dl gr)) U) λn=>AS (Ip h.H.nd h.H.topo h.len (λc hc=>(h.gen c hc).few) (ns:=[n.1]) (λx hx=>by rw[AAJ.mp hx];exact n.2) (dc rfl)) λfs h1 h2 h3=>?_;have hm:=λx=>(h2 x).trans ⟨λ⟨o,ho,e⟩=>by rw[AAJ.mp ho] at e;exact e,λe=>⟨n.1,.head _,e⟩⟩;refine(iEA fs ⟨h1,?_,hm⟩ h3);have sub:=λx hx=>((hm x).mp hx).elim (λe=>e▸n.2) λb=>b.names h.H.topo;have:=List.Nodup.length_le_of_subset h1 sub;rw[AAB] at this;exact AAC this (AY h.len rfl)
theorem Lr(n1:l.Nodup)(n2:l'.Nodup)(h:∀x,x∈l↔x∈l'):Ax l=Ax l':=JS ((List.perm_ext_iff_of_nodup n1 n2).mpr h) n1
theorem dlj(e:[V.d d,.d (dl [x])]=[.d d,.d (dl [y])]):x=y:=by
 injection e with _ e
 injection e with e _
 injection e with e
 injection e with e
 injection e with e _
 injection e with e
 exact FQ e
theorem L7(h:Wov cs F gs)(n:Nat)(hn:2<=n):∃(C:Cfg) (gr:{n//n∈nms cs}->List (List Nat)),C.n=n/\(∀n:{n//n∈nms cs},(gr n).Nodup/\(gr n).length<=62/\∀x,x∈gr n↔x=n.1\/Blw cs n.1 x)/\∀(n:{n//n∈nms cs}) U,C.O 28 [.d (.list (cs.map Ch.data)),.d (dl [n.1])] U=al (.d (dl (gr n))):=by exact oE (cT h) λgr hgr=>(Gw ((C0 n).knowF 28 (λn:{n//n∈nms cs}=>[.d (.list (cs.map Ch.data)),.d (dl [n.1])]) (λn=>.d (dl (gr n))) (λm U=>((hgr m).2 U).more hn)) gr rfl (λn=>(hgr n).1) (λm U=>JR (λa b e=>by rw[Subtype.ext (dlj e)]) m U))
theorem hW(h:Wov cs F gs)(ha:a∈nms cs){gr:{n//n∈nms cs}->List (List Nat)}(hg:∀n:{n//n∈nms cs},(gr n).Nodup/\(gr n).length<=62/\∀x,x∈gr n↔x=n.1\/Blw cs n.1 x):∃gi:List Nat->Bool,(∀(o:List Nat) (h:o∈nms cs),gi o=decide (a∈gr ⟨o,h⟩))/\Ax (nms (cs.filter λc=>gi c.1))=Fg cs gs a:=by
 let gi:List Nat->Bool:=λo=>@decide (∃h:o∈nms cs,a∈gr ⟨o,h⟩) (ACI _);have gi_eq:∀(o:List Nat) (h:o∈nms cs),gi o=decide (a∈gr ⟨o,h⟩):=λo h=>by
  by_cases q:a∈gr ⟨o,h⟩
  ·exact(AAI q)▸@AAI _ (ACI _) ⟨h,q⟩
  ·exact(AAT q)▸@AAT _ (ACI _) λ⟨_,r⟩=>q r
 let L:=cs.filter λc=>gi c.1;have eL:Ax (nms L)=Fg cs gs a:=by
  refine Lr ((List.Sublist.map _ List.filter_sublist).nodup h.H.nd) (NQ h) λx=>?_;rw[AA0,P5 h,AAJ];constructor
  ·intro hx;refine oEA (AAP.mp hx) λc hc q_2=>?_;subst q_2;refine oA (AA4.mp hc) λh1 h2=>?_;have hcn:c.1∈nms cs:=AAZ h1;rw[gi_eq c.1 hcn] at h2;rcases((hg ⟨c.1,hcn⟩).2.2 a).mp (AAG h2) with q|q
   ·exact .inr q.symm
   ·exact .inl ⟨hcn,q⟩
  ·intro hx;have hcn:=hx.elim (·.1) λq=>q▸ha;refine oEA (AAP.mp hcn) λc hc q_2=>?_;subst q_2;refine AAZ (AA4.mpr ⟨hc,?_⟩);rw[gi_eq c.1 hcn];refine AAI (((hg ⟨c.1,hcn⟩).2.2 a).mpr ?_);rcases hx with q|q
   ·exact .inr q.2
   ·exact .inl q.symm
 exact iEA gi gi_eq eL
theorem S6(h:Wov cs F gs)(U:Ac):FN 5 60 [.d (.list (cs.map Ch.data))] U (.d (.list (duL (onF cs gs) (Bz (AX (AL cs)))))) U:=by
 let on:=onF cs gs;let T:=Bz (AX (AL cs));have hun:=λm U=>by refine AS (MN h.H.nd h.H.topo h.len h.gen m) λus u1 _ u3=>?_;have:=u3 U;rw[u1.uniq (bN h m)] at this;exact this
 have hO:=CX h.H.nd;have hs:=ET λc hc=>h.gen c (hO.perm.mem_iff.mp hc);have hol:(AL cs).length<=61:=by rw[hO.perm.length_eq];exact h.len
 have hT:T.length<=10000:=AAC GR (AAC hs.row (K9 hol rfl));let C:=C0 4;obtain⟨rD,hmod⟩:∃rD,∀U,FN 4 20 [.d (.list (cs.map Ch.data))] U (.d (.tuple [rD,.list (T.map prD)])) U:=⟨_,Om h.H h.gen h.len⟩
 have hmi:=λ{J U} h=>by have h1:SE (C.n+3) (.aa (.F 20 (.o (.N 0))) (.i 1)) J U (.d (.list (T.map prD))) U:=.aa (.F (C.sr (A8 h)) (hmod U)) (.cst _) (HQ rfl);have h2:=SI.lst h1 rfl;rw[AAE] at h2;exact h2
 have hq:FN 5 60 [.d (.list (cs.map Ch.data))] [] (.ref 0) [.list ((duL on T).map .d)]:=by
  exact FN.same (C:=C) (h:=by
   let K:Option V->Option V->Option V->Am:=λz2 z3 z4=>[al (.d (.list (cs.map Ch.data))),al (.ref 0),z2,z3,z4]
   refine Cg rfl (X8 (λx=>.d (prD x)) (λp J U=>(∃z2 z3 z4,J=K z2 z3 z4)/\[.list ((duL on p).map .d)]=U) (hmi rfl) (λ_ _=>.inr (iEA _ rfl rfl)) ⟨(FH az az az rfl),rfl⟩ ?_ ?_)
   ·intro p x q J q_u4 e q_r1;obtain⟨⟨z2,z3,z4,rfl⟩,rfl⟩:=q_r1;have hpl:(duL on p).length<=10000:=by have h1:=AAX (λx:Pr=>decide (1<(on x.1).length)) p;have h2:=congrArg List.length e;rw[AAF,AA2] at h2;exact lml (LU h2 h1 hT rfl)
    refine AU rfl (.F (C.sr rfl) ((hun x.1 _).more (dc rfl))) (AC (Aj (AZ (A8 rfl) (CO.trans (by rw[AAB]))) rfl MV) (λhh=>?_) λhh=>?_)
    ·have hh:=AAG hh;refine Bx rfl (A8 (Cn (Bg rfl rfl) rfl)) rfl (lmt (BV hpl rfl)) (Ab (Ab (Az _ rfl (FH _ _ _ rfl) ?_)));rw[HD,if_pos (by exact Int.ofNat_le.mp ‹_›),AAQ];rfl
    ·have hh:=ABG hh;refine Ab (Ab (Az _ rfl (FH _ _ _ rfl) ?_));rw[HD,if_neg (Z8 hh)]
   ·intro J q_u1 q_r2;obtain⟨⟨z2,z3,z4,rfl⟩,rfl⟩:=q_r2;exact AB rfl ⟨rfl,rfl⟩)
 exact FA.any (FA.seal hq ⟨duL on T,rfl,AAL _,rfl⟩) (af trivial Ah)
end
theorem vsj(e:[s,vs x]=[s,vs y]):x=y:=by
 injection e with _ e
 injection e with e _
 injection e with e
 injection e with e
 exact FQ e
section
variable{cs F:List Ch}{gs:Gsg}
theorem XA(h:Wov cs F gs)(ha:a∈nms cs){l:List (List Nat)}(nd:l.Nodup)(hm:∀x,x∈l↔x=a\/Blw cs a x):Ax (gdL gs a++[a])=Ax l:=by
 refine AS (Ok h.w ((h.perm.map _).mem_iff.mpr ha)) λls hls q_2 hb=>oA q_2 λ_ hr=>?_;have e:gdL gs a=ls:=by rw[gdL,hls];rfl
 have hmem:∀x,x∈gdL gs a↔Blw cs a x:=λx=>UT h ha;refine Lr ?_ nd λx=>?_
 ·refine ABW.mpr ⟨by rw[e];exact DF hr,ABX.mpr ⟨AA1,ABY⟩,λx hx y hy q=>?_⟩;rw[AAJ.mp hy] at q;rw[q] at hx;exact absurd (((hmem a).mp hx).lower h.H.nd h.H.topo) (Int.lt_irrefl _)
 ·rw[AA0,hmem,AAJ,hm];exact or_comm
theorem Vc(h:Wov cs F gs)(cell:Int):FN 7 61 [self,.d (.list (cs.map Ch.data)),vi cell] (W F gs (hts [] F)++τ) (vb true) (W F gs (hts [] F)++τ):=by
 let W0:=W F gs (hts [] F);let U:=W0++τ;let U1:=U++[oT (hts [] cs)];let P:Ac->Prop:=λU'=>∃τ',U'=W0++τ';have P0:P U:=⟨τ,rfl⟩
 have P1:P U1:=⟨τ++[oT (hts [] cs)],ABQ _ _ _⟩
 let cD:V:=.d (.list (cs.map Ch.data));let Qs:PyData:=.list (duL (onF cs gs) (Bz (AX (AL cs))));have eqQ:eqN AQ Qs Qs=al true:=Vn _ _;have toF:∀{n},n∈nms cs->n∈nms F:=λhn=>(h.perm.map _).mem_iff.mpr hn;refine Br (L7 h 6 (dc rfl)) λCa gr hCn hg hO=>?_;have k51:∀(x:Unit) U',P U'->FN Ca.n 51 [self] U' (.d Qs) U':=λ_ U' ⟨τ',e⟩=>by rw[e,hCn];exact FA.tail (LB h) rfl (af F6 Ah) (Hn 3)
 let Cb:=Ca.knowA 51 (λ_:Unit=>[self]) (λ_=>.d Qs) P k51;have o51':∀{U'},P U'->Cb.O 51 [self] U'=al (.d Qs):=λhσ=>DL (λ_ _ _=>rfl) () hσ;have k60:∀(x:Unit) U',True->FN Cb.n 60 [cD] U' (.d Qs) U':=λ_ U' _=>by show FN Ca.n 60 _ _ _ _;rw[hCn];exact(S6 h U').more (dc rfl)
 let Cc:=Cb.knowA 60 (λ_:Unit=>[cD]) (λ_=>.d Qs) (λ_=>True) k60;have o60':∀U',Cc.O 60 [cD] U'=al (.d Qs):=λU'=>DL (λ_ _ _=>rfl) () trivial;have k42:∀(n:{n//n∈nms cs}) U',P U'->FN Cc.n 42 [self,vs n.1] U' (vi (hgt F n.1)) U':=λn U' ⟨τ',e⟩=>by show FN Ca.n 42 _ _ _ _;rw[e,hCn];exact(Io (toF n.2)).more (dc rfl)
 let Cd:=Cc.knowA 42 (λn:{n//n∈nms cs}=>[self,vs n.1]) (λn=>vi (hgt F n.1)) P k42;have o42':∀(n:{n//n∈nms cs}) {U'},P U'->Cd.O 42 [self,vs n.1] U'=al (vi (hgt F n.1)):=λn U' hσ=>DL (λa b e=>by rw[vsj e]) n hσ;have k41:∀(c:{c//c∈cs}) U',P U'->FN Cd.n 41 [self,vs c.1.1] U' (vc c.1) U':=λc U' ⟨τ',e⟩=>by show FN Ca.n 41 _ _ _ _;rw[e,hCn];exact(Iq h.w.nd h.w.gen (h.perm.mem_iff.mpr c.2)).more (dc rfl)
 let Ce:=Cd.knowA 41 (λc:{c//c∈cs}=>[self,vs c.1.1]) (λc=>vc c.1) P k41;have o41':∀(c:{c//c∈cs}) {U'},P U'->Ce.O 41 [self,vs c.1.1] U'=al (vc c.1):=λc U' hσ=>DL (λa b e=>by rw[Co h.H.nd a.2 b.2 (vsj e)]) c hσ;have k43:∀(n:{n//n∈nms cs}) U',P U'->FN Ce.n 43 [self,vs n.1] U' (.d (dl (gdL gs n.1))) U':=λn U' ⟨τ',e⟩=>by show FN Ca.n 43 _ _ _ _;rw[e,hCn];exact(PM h.w (toF n.2)).more (dc rfl)
 let Cf:=Ce.knowA 43 (λn:{n//n∈nms cs}=>[self,vs n.1]) (λn=>.d (dl (gdL gs n.1))) P k43;have o43':∀(n:{n//n∈nms cs}) {U'},P U'->Cf.O 43 [self,vs n.1] U'=al (.d (dl (gdL gs n.1))):=λn U' hσ=>DL (λa b e=>by rw[vsj e]) n hσ;have k44:∀(n:{n//n∈nms cs}) U',P U'->FN Cf.n 44 [self,vs n.1] U' (.d (dl (lnL cs gs n.1))) U':=λn U' ⟨τ',e⟩=>by show FN Ca.n 44 _ _ _ _;rw[e,hCn];exact(Kk h (toF n.2)).more (dc rfl)
 let C:=Cf.knowA 44 (λn:{n//n∈nms cs}=>[self,vs n.1]) (λn=>.d (dl (lnL cs gs n.1))) P k44;have o44:∀(n:{n//n∈nms cs}) {U'},P U'->C.O 44 [self,vs n.1] U'=al (.d (dl (lnL cs gs n.1))):=λn U' hσ=>DL (λa b e=>by rw[vsj e]) n hσ;have o41:∀(c:{c//c∈cs}) {U'},P U'->C.O 41 [self,vs c.1.1] U'=al (vc c.1):=o41';have o42:∀(n:{n//n∈nms cs}) {U'},P U'->C.O 42 [self,vs n.1] U'=al (vi (hgt F n.1)):=o42';have o60:=o60';have o51:∀{U'},P U'->C.O 51 [self] U'=al (.d Qs):=o51';have o28:=hO;have hC6:C.n=6:=hCn;refine Bb (FN.ends (f:=61) (zs:=[self,cD,vi cell]) (R:=λv U'=>v=vb true/\U'=U1) (hn:=by rw[hC6];decide) (h:=by
  let K:Option V->Option V->Option V->Option V->Option V->Option V->Am:=λz3 z4 z5 z6 z7 z8=>[al self,al cD,al (vi cell),z3,z4,z5,z6,z7,z8,az]
  refine C9 (BC (Aj (Ae rfl rfl (AW (by decide))) rfl B8) λ_=>Aj (Gh rfl rfl (by unfold mtP;kernel_rfl) (o51 P0)) (Gl (A8 rfl) (o60 U)) (FZ eqQ)) (ADD _) (AU rfl (.F (C.sr (A8 rfl)) ((FA.newR (Km cs (λc hc=>(h.gen c hc).few) h.len h.H.nd h.H.topo) (af trivial Ah) (af trivial Ah)).more (by rw[hC6];decide))) ?_);let Ln:Int:=(cs.length:Int)
  have hmin:∀{J:Am} {U:Ac},Ci J 1=al cD->(ev C.O (.o (.bi .min (.t (.i 4) (.bi .len (.o (.N 1))))))).row J U=al [vi (if Ln<4 then Ln else 4)]:=λhv=>A8 (AZ (Bg rfl (AZ (A8 hv) (CO.trans (by rw[AAB])))) rfl);refine Bk (λj:Nat=>vi (j:Int)) (λ_ J U'=>(∃z4 z5 z6 z7 z8,J=K (al (.ref U.length)) z4 z5 z6 z7 z8)/\U'=U1) (QS (hmin rfl) (by split<;>omega) (by split<;>exact AB9 _)) ⟨(MC az az az az az rfl),rfl⟩ ?_ ?_
  ·intro p j q J q_u4 e q_r1;refine oA q_r1 λq_0 q_1=>?_;obtain⟨z4,z5,z6,z7,z8,rfl⟩:=q_0;subst q_1;have hj:=ABZ.mp (e▸AAW _ (.head _));have hpos:0<Ln:=by
    by_cases q:Ln<4
    ·rw[if_pos q] at hj;lia
    ·exact Z7 q
   refine oA (Ba (cell+(j:Int)) hpos) λi0 i1=>?_;have hi:=by exact LS i0 i1
   let c:=cs[((cell+(j:Int)).fmod Ln).toNat];have hc:c∈cs:=List.getElem_mem hi;have hcn:c.1∈nms cs:=AAZ hc;have hci:(cs.map Ch.data)[((cell+(j:Int)).fmod Ln).toNat]? = al (Ch.data c):=by rw[ABI,AAN hi];rfl
   clear_value c
   refine Aw (Ad rfl (Ae (Ae rfl rfl rfl) (AZ (A8 rfl) (CO.trans (by rw[AAB]))) (AW (by lia))) (Eg _ i0 (VM i1 h.len rfl) hci)) (Aw (Ad rfl rfl (AM c)) ?_);have hgl:=(hg ⟨c.1,hcn⟩).2.1;refine Aw (AZ (A8 (Gl (Bg rfl (Ku rfl)) (o28 ⟨c.1,hcn⟩ U1))) (Dr mm2 (AAS ‹_› (ACH rfl)))) (oEA (hW h hcn hg) λgi gi_eq eL=>?_);let L:=cs.filter λc=>gi c.1;have eL:Ax (nms L)=Fg cs gs c.1:=eL;have hLl:(nms L).length<=61:=by rw[AAB];exact AAC (AAX _ _) h.len
   refine Rd (ds:=(nms L).map λt=>.str (Tx t)) ?_ ?_
   ·refine(Ed (λc=>.d (Ch.data c)) (λc=>gi c.1) (λc=>vs c.1) (Bv rfl rfl) (AY h.len rfl) (λc' hc'=>?_) (λc' hc' _=>Ad rfl rfl (AM c'))).trans ?_
    ·have hcn':c'.1∈nms cs:=AAZ hc';exact(gi_eq c'.1 hcn')▸EZ (Aj rfl (Gl (Bg rfl (Ku (Ad rfl rfl (AM c')))) (o28 ⟨c'.1,hcn'⟩ U1)) (by rw[Yi,Cr]))
    ·rw[AAE,AAE];rfl
   have hlnl:(lnL cs gs c.1).length<=61:=AAC (AAX _ _) (by rw[(Af _).length_eq,AAB];exact h.len);let J1:=K (al (.ref U.length)) (al (vi (j:Int))) (al (vc c)) (al (vs c.1)) (al (.d (dl (Ax (gr ⟨c.1,hcn⟩))))) (al (.d (dl (nms L))));have cat:∀{nm:Str} {f:Nat} {l:List (List Nat)},l.length<=61->mtP nm=al f->C.O f [self,vs c.1] U1=al (.d (dl l))->(ev C.O (.bi .sorted (.o (.B .Add (.ac nm (.N 0) (.o (.N 6))) (.lst (.o (.N 6))))))).v J1 U1=al (.d (dl (Ax (l++[c.1])))):=λ{nm f l} hl hm ho=>by refine AZ (A8 (x:=.d (dl (l++[c.1]))) (Ae (y:=.d (dl [c.1])) (Gh rfl rfl hm ho) (Ku rfl) ?_)) (Dr mm2 (by rw[AAF];show l.length+1<64;omega));rw[GK _ _ (lmt (AY (ABS hl) rfl)),<-AAQ]
   have s8:(ev C.O (.bi .sorted (.o (.N 8)))).v J1 U1=al (.d (dl (Fg cs gs c.1))):=by exact eL▸AZ (A8 rfl) (Dr mm2 (by omega))
   have sl:=cat hlnl (nm:=ACG "leaning") (by unfold mtP;kernel_rfl) (o44 ⟨c.1,hcn⟩ P1);refine AS (Ok h.w (toF hcn)) λls hls q_2 _=>?_;obtain⟨hll,_⟩:=q_2;have sg:=cat (by rw[gdL,hls];exact hll) (f:=43) (nm:=ACG "ground") (by unfold mtP;kernel_rfl) (o43' ⟨c.1,hcn⟩ P1);rw[XA h hcn (hg ⟨c.1,hcn⟩).1 (hg ⟨c.1,hcn⟩).2.2] at sg;refine C9 (BC (Aj (Ae (Ae rfl rfl (CC (by decide))) rfl (AW (by decide))) rfl B8) λ_=>Aj sl s8 (FZ (DO 39 _))) (ADD _) (C9 (IG (p:=false) ((Aj (Gh rfl rfl (by unfold mtP;kernel_rfl) (o42 ⟨c.1,hcn⟩ P1)) (Ad rfl rfl (Cq ?_ (UN hcn))) TZ).trans (by rw[((Hx h.H.nd h.perm h.H.topo h.w.topo c hc).symm),AAI rfl];rfl)) λ_=>Aj (Gh rfl rfl (by unfold mtP;kernel_rfl) (o41 ⟨c,hc⟩ P1)) rfl (FZ ?_)) rfl ?_)
   ·rw[AA6 (AAL _),ADJ];rfl
   ·refine AS (dH c c) λr e1 e2 _=>?_;rw[e1,e2 rfl]
   exact C9 (Aj sg rfl (FZ (DO 39 _))) rfl (C9 (Aj sl s8 (FZ (DO 39 _))) rfl (Ab (Az _ rfl (MC _ _ _ _ _ rfl) rfl)))
  ·intro J q_u1 q_r2;refine oA q_r2 λq_0 q_1=>?_;obtain⟨z4,z5,z6,z7,z8,rfl⟩:=q_0;subst q_1;exact AB (Iu (Gh rfl rfl (by unfold mtP;kernel_rfl) (o51 P1)) (Gl (A8 rfl) (o60 U1)) (eq_self' eqQ)) ⟨rfl,rfl⟩)) λv U' q_2 hf=>?_
 refine oA q_2 λh1 h2=>?_;rw[h1,h2,hC6] at hf;exact FA.seal hf rfl
end
theorem Vq(n:Nat)(p:Pr):eqN (n+2) (prD p) (prD p)=al true:=HA _ (af (Ko _ _) (af (by rw[Db,AAI rfl]) Ah))
theorem Lj(s:Sm):eqN AQ (Fq s) (Fq s)=al true:=HB λd hd=>by refine oEA (AAP.mp hd) λp _ q_2=>?_;subst q_2;exact Vq 37 p
theorem T9(r:List Mk):eqN AQ (dms r) (dms r)=al true:=HB λd hd=>by refine oEA (AAP.mp hd) λm _ q_2=>?_;subst q_2;exact Ko _ m
theorem BZ(h:ST (C.n+3) c J U t U')(kt:t=true->Al C (OP C P r) a J U')(kf:t=false->Al C (OP C P r) b J U'):Al C P (.cons (.I c a b) r) J U:=by
 cases t with
 |true =>
  exact Bb (kt rfl) λfl ak h1 h2=>Cs (λQ q=>.I h (λ_=>SSs.mono (λf s e=>by rw[e.1,e.2];exact q) h2) λe=>nomatch e) h1
 |false =>
  exact Bb (kf rfl) λfl ak h1 h2=>Cs (λQ q=>.I h ff_ λ_=>SSs.mono (λf s e=>by rw[e.1,e.2];exact q) h2) h1
theorem Qu(h1:ST n a J U t U)(h2:ST n b J U false U):ST n (.P .And (.t a b)) J U false U:=by refine .P (.cons h1 (λq=>⟨q.symm,rfl⟩) λ_=>.cons h2 (λ_=>⟨rfl,rfl⟩) λq=>absurd rfl q)
theorem ZW(h1:ST n a J U false U)(h2:ST n b J U false U)(h3:ST n c J U false U):ST n (.P .Or (.c a (.t b c))) J U false U :=
 .P (.cons h1 ff_ λ_=>.cons h2 ff_ λ_=>.cons h3 ff_ λ_=>.nil)
theorem Nz(h1:SE n a J U (.d d) U)(h2:SE n b J U (.d d) U)(h:eqN AQ d d=al true):ST n (.C .NotEq a b) J U false U:=.C h1 h2 (Dv (FZ h))
section
variable{cs F:List Ch}{gs:Gsg}
theorem Gg(h:Wov cs F gs):FN 8 26 [self,.d (.list (cs.map Ch.data))] (W F gs (hts [] F)) (vb true) (W F gs (hts [] F)):=by
 let C:=C0 7;let s:=AX (AL cs);let rD:PyData:=dms s.1;let xD:PyData:=dl ((Bz s).map (·.2));let U:=W F gs (hts [] F);let J:Am:=[al self,al (.d (.list (cs.map Ch.data))),al (.d rD),al (.d (Fq s)),az,az]
 have hO:=CX h.H.nd;have hlr:=Mm (λc hc=>h.gen c (hO.perm.mem_iff.mp hc)) (hO.perm.length_eq▸h.len);have hlt:(Bz s).length<=line:=AY (GS (λc hc=>h.gen c (hO.perm.mem_iff.mp hc)) (hO.perm.length_eq▸h.len)) rfl;have hx:(ev C.O (.D (.aa (.N 4) (.i 1)) [4] (.N 3) .nil)).v J U=al (.d xD):=by rw[CG prD (λ_=>true) (λp=>.str (Tx p.2)) (Bv rfl rfl) hlt (λ_ _=>rfl) (λp _ _=>Ad rfl rfl rfl),BT];show al (V.d (.list _))=al (V.d (.list (((Bz s).map (·.2)).map λt=>.str (Tx t))));rw[AAE];rfl
 have hT:SE (C.n+3) (.ac (ACG "text") (.N 0) .nil) J U (.d xD) U:=.ac An (by unfold mtP;kernel_rfl) (C.sv rfl) .nil ((Ol h).more (dc rfl));have hL:SE (C.n+3) (.ac (ACG "told") (.N 0) .nil) J U (.d (Fq s)) U:=.ac An (by unfold mtP;kernel_rfl) (C.sv rfl) .nil ((fn_told' h).more (dc rfl));have hR:SE (C.n+3) (.ac (ACG "row") (.N 0) .nil) J U (.d rD) U:=.ac An (by unfold mtP;kernel_rfl) (C.sv rfl) .nil ((fn_row' h).more (dc rfl));have hN:SE (C.n+3) (.ac (ACG "names") (.N 0) .nil) J U (.d (dl (Ax (nms cs)))) U:=.ac An (by unfold mtP;kernel_rfl) (C.sv rfl) .nil ((DC h).more (dc rfl));have hc:(ev C.O (.D (.aa (.N 5) (.i 0)) [5] (.N 1) .nil)).v J U=al (.d (dl (nms cs))):=by rw[CG Ch.data (λ_=>true) (λc=>.str (Tx c.1)) (Bv rfl rfl) (AY h.len rfl) (λ_ _=>rfl) (λc _ _=>Ad rfl rfl (AM c)),BT];show al (V.d (.list _))=al (V.d (.list ((nms cs).map λt=>.str (Tx t))));rw[AAE];rfl
 exact FN.same (C:=C) (h:=by refine PG (.F (C.sr rfl) ((Om h.H h.gen h.len _).more (dc rfl))) (λ{K ex} hc ts k p env=>hc (λex=>swappedStores [.Tuple ts k p] ex env=pure az) (by intros;rfl)) rfl rfl (BZ (Qu ((Ao C.ok (.C .Eq (.B .Mod (.bi .len (.o (.N 2))) (.i 2)) (.i 1))).t (Aj (Ae (AZ (A8 rfl) CO) rfl (AW (by decide))) rfl B8)) (Nz hT (C.sv hx) (DO _ _))) ff_ λ_=>Ab ?_);refine BZ (Qu ((Ao C.ok (.C .Eq (.B .Mod (.bi .len (.o (.N 3))) (.i 2)) (.i 1))).t (Aj (Ae (AZ (A8 rfl) CO) rfl (AW (by decide))) rfl B8)) (Nz hL (C.sv rfl) (Lj s))) ff_ λ_=>Ab (BZ (ZW (Nz hR (C.sv rfl) (T9 _)) (Nz hL (C.sv rfl) (Lj s)) (Nz hT (C.sv hx) (DO _ _))) ff_ λ_=>Ab ?_);exact Ct (.C hN (C.sv (AZ (A8 hc) (Dr (by show al (((nms cs).map λt=>PyData.str (Tx t)).map V.d)=_;rw[AAE];rfl) (lmt (BV h.len rfl))))) (Dv (eq_self' (DO _ _)))) ⟨rfl,rfl⟩)
end
theorem GB{F:List Ch}{gs:Gsg}{hs:Gsl}:∀o∈W F gs hs,F7 0 o:=af trivial (af trivial (af trivial Ah))
section
variable{cs F:List Ch}{gs:Gsg}
theorem Kl(h:Wov cs F gs)(cell:Int):FN 9 62 [self,.d (.list (cs.map Ch.data)),vi cell] (W F gs (hts [] F)++τ) (vb true) (W F gs (hts [] F)++τ):=by
 let U:=W F gs (hts [] F)++τ;let cD:V:=.d (.list (cs.map Ch.data));have f61:FN 8 61 [self,cD,vi cell] U (vb true) U:=(Vc h cell).more (dc rfl);have f26:FN 8 26 [self,cD] U (vb true) U:=FA.tail (Gg h) rfl (af F6 (af trivial Ah)) (Hn 3);let C:=(C0 8).know 61 (vb true) (λxs U'=>xs=[self,cD,vi cell]/\U'=U) (by rintro _ _ ⟨rfl,rfl⟩;exact f61);have o61:C.O 61 [self,cD,vi cell] U=al (vb true):=Xp ⟨rfl,rfl⟩;exact FN.same (C:=C) (h:=by refine C9 (BC (Aj (Ae (Ae rfl rfl (CC (by decide))) rfl (AW (by decide))) rfl B8) λ_=>LJ (Rt rfl o61)) (ADD _) ?_;exact Ct (.P (.more rfl (.F (C.sr rfl) f26) (CL rfl) (λq=>tt_ q) λ_=>.one (.F (C.sr rfl) f61))) ⟨rfl,rfl⟩)
end
theorem XH(cs:List Ch)(hcs:cs.length<=61)(c:Int):∃fs:List (List Nat),fs.Sublist (cs.map (·.1))/\∀U,FN 3 79 [.d (.list (cs.map Ch.data)),vi c] U (.d (dl fs)) U:=by
 let C:=C1 2 (AAL _);let cD:V:=.d (.list (cs.map Ch.data));have hm:∀c k U,C.O 10 [vi c,vi k] U=al (vi (Du c k)):=λ_ _ _=>rfl;refine Bb (FN.ends (C:=C) (f:=79) (zs:=[cD,vi c]) (U:=[]) (R:=λv U'=>∃fs:List (List Nat),fs.Sublist (cs.map (·.1))/\v=.ref 0/\U'=[.list (fs.map vs)]) (h:=by
  refine Aw (Gl (Bg rfl rfl) (hm _ _ _)) (Cg rfl ?_);let K:Int->Option V->Option V->Am:=λL z4 z5=>[al cD,al (vi c),al (vi L),al (.ref 0),z4,z5]
  refine Ik (l:=cs.zipIdx) (kps:=[]) (λp=>V.d (.tuple [.int (p.2:Int),Ch.data p.1])) (λp J τ=>∃fs:List (List Nat),fs.Sublist (p.map (·.1.1))/\(∃L z4 z5,J=K L z4 z5)/\τ=[.list (fs.map vs)]) ?_ (λ_ _ _ _ _ _ m=>nomatch m) (λ_ _=>.inr (iEA _ rfl rfl)) (Az [] (.refl _) (FH _ az az rfl) rfl) ?_ ?_
  ·show(JP [.list []] cD).bind (λds=>al (HC 0 ds,Fi cD (ds.map .d)))=_;rw[show JP [.list []] cD=al (cs.map Ch.data) from DR _,bs,Ov,List.zipIdx_map,AAE];rfl
  ·intro p q_r1 q J τ hp q_r2;obtain⟨ch,i⟩:=q_r1;refine AS q_r2 λfs g1 q_2 q_3=>?_;obtain⟨L,z4,z5,rfl⟩:=q_2;subst q_3;have hfl:fs.length<100:=by have h1:=g1.length_le;have h2:=congrArg List.length hp;simp at h1 h2;exact Zm h2 h1 hcs rfl
   refine Dw (M:=λJ τ=>∃fs':List (List Nat),fs'.Sublist ((p++[(ch,i)]).map (·.1.1))/\J=K L (al (vi i)) (al (vc ch))/\τ=[.list (fs'.map vs)]) ?_ ?_
   ·refine AC (Aj (Ae rfl rfl (AW (by decide))) rfl B8) (λ_=>?_) (λ_=>?_)
    ·refine Bx rfl (A8 (Ad rfl rfl (AM ch))) rfl (lmt (ABT hfl (dc rfl))) (Ab (Ab (BS _ rfl (fs++[ch.1]) ?_ rfl ?_)))
     ·exact AAQ▸g1.append (.refl _)
     ·exact AAQ▸rfl
    ·exact Ab (Ab (BS _ rfl fs (AAQ▸g1.trans (List.sublist_append_left _ _)) rfl rfl))
   intro q_u0 q_u1 q_r3;refine AS q_r3 λfs' k1 q_2 q_3=>?_;subst q_2;subst q_3;refine Aw (Ae rfl rfl (CC (by decide))) (AC rfl (λ_=>?_) (λ_=>?_))
   ·exact Aw (Gl (Bg rfl rfl) (hm _ _ _)) (Ab (Ab (BS _ rfl fs' k1 (FH _ _ _ rfl) rfl)))
   ·exact Ab (Ab (BS _ rfl fs' k1 (FH _ _ _ rfl) rfl))
  ·intro J τ q_r4;refine AS q_r4 λfs g1 q_2 q_3=>?_;obtain⟨L,z4,z5,rfl⟩:=q_2;subst q_3;exact AB rfl (Az fs ((MB cs 0)▸g1) rfl rfl))) λv U' q_2 h=>?_
 refine AS q_2 λfs k1 k2 k3=>?_;rw[k2,k3] at h;exact iEA fs k1 λU=>(FA.seal h ⟨_,rfl,ABF _,by rw[AAE];rfl⟩).any (af (CZ _ _) (af (CZ _ _) Ah))
theorem SF(nd:(nms cs).Nodup)(ht:Dg cs)(hl:cs.length<=61)(hg:∀c∈cs,c.2.1.length<=61)(hn:∀n∈ns,n∈nms cs)(hnl:ns.length<=100):∃fs:List (List Nat),(∀n,n∈fs↔∃o∈ns,n=o\/Blw cs o n)/\∀U,FN 3 78 [.d (.list (cs.map Ch.data)),.d (dl ns)] U (.d (.list ((cs.filter λc=>decide (c.1∈fs)).map Ch.data))) U:=by
 refine AS (Ip nd ht hl hg hn hnl) λfs _ g2 g3=>iEA fs g2 λU=>?_;let C:=C0 2;let cD:V:=.d (.list (cs.map Ch.data));exact FN.same (C:=C) (h:=by refine AU rfl (.F (C.sr (Bg rfl rfl)) (g3 U)) ?_;refine AB (CG Ch.data (λc=>decide (c.1∈fs)) Ch.data (Bv rfl rfl) (AY hl rfl) (λc _=>EZ (Aj (Ad rfl rfl (AM c)) rfl (Cr _ _))) (λc _ _=>rfl)) ⟨rfl,rfl⟩)
noncomputable def IQ(η:List Nat->Int)(D:List Ch):List Ch:=(AH ltI ((A9 D).reverse.map λc=>(η c.1,c))).map (·.2)
theorem Eo(η:List Nat->Int)(D:List Ch):(IQ η D).Perm D:=by have h:=(Bh (lt:=ltI) ((A9 D).reverse.map λc=>(η c.1,c))).map (·.2);rw[AAE,show((λx:Int×Ch=>x.2)∘λc:Ch=>(η c.1,c))=id from rfl,List.map_id] at h;exact h.trans ((AC5 _).trans (CU D))
theorem NC(η:List Nat->Int)(D:List Ch):(IQ η D).Pairwise λa b=>η a.1<=η b.1:=by
 unfold IQ;rw[ACU];have h:=DY gM ((A9 D).reverse.map λc=>(η c.1,c)) (List.pairwise_of_forall λ_ _=>trivial);refine h.imp_of_mem λ{a b} ha hb h=>?_;have key:∀x:Int×Ch,x∈AH ltI ((A9 D).reverse.map λc=>(η c.1,c))->x.1=η x.2.1:=λx hx=>by refine oEA (AAP.mp ((Bh _).mem_iff.mp hx)) λc _ q_2=>?_;subst q_2;rfl
 rw[<-key a ha,<-key b hb];rcases h with h|h
 ·exact Int.le_of_lt (AAG h)
 ·exact h.1▸Int.le_refl _
theorem Sh(hD:∀c∈D,∀l∈c.2.1,l∈nms D/\η l<η c.1):Dg (IQ η D):=λpre c post e l hl=>by
 refine oA (hD c ((Eo η D).mem_iff.mp (e▸AAW _ (.head _))) l hl) λh1 h2=>oEA (AAP.mp h1) λc' h3 h4=>?_;have h5:=(Eo η D).mem_iff.mpr h3;have hs:=NC η D;rw[e] at h5 hs;rcases AA0.mp h5 with q|q
 ·exact AAP.mpr (iEA c' q h4)
 ·rcases AAR.mp q with q|q
  ·rw[q] at h4;rw[h4] at h2;exact absurd h2 (Int.lt_irrefl _)
  ·have:=(ACS.mp (List.pairwise_append.mp hs).2.1).1 c' q;rw[h4] at this;exact absurd h2 (Int.not_lt.mpr this)
theorem M6(nd:(nms D).Nodup):Ax (nms D)=nms (A9 D).reverse:=by refine CT (λx y p q=>List.lt_irrefl _ (List.lt_trans p q)) (BM _ nd) ?_ ((Af _).trans (((AC5 _).trans (CU D)).map _).symm);rw[ACU,List.pairwise_reverse];exact ES nd
theorem RX(η:List Nat->Int)(D:List Ch):Dt false Sz.lt (((A9 D).reverse.map λc=>η c.1).zip ((A9 D).reverse.map λc=>PyData.str (Tx c.1)))=(IQ η D).map λc=>PyData.str (Tx c.1):=by rw[Fj];show(AH ltI ((A9 D).reverse.map λc=>(η c.1,PyData.str (Tx c.1)))).map (·.2)=((AH ltI ((A9 D).reverse.map λc=>(η c.1,c))).map (·.2)).map λc=>PyData.str (Tx c.1);rw[show((A9 D).reverse.map λc=>(η c.1,PyData.str (Tx c.1)))=((A9 D).reverse.map λc=>(η c.1,c)).map λp=>(p.1,PyData.str (Tx p.2.1)) by rw[AAE];rfl,DZ (λp:Int×Ch=>(p.1,PyData.str (Tx p.2.1))) (λp q=>rfl),AAE,AAE];rfl
noncomputable abbrev ob(b:Nat):V:=.obj [b,b+1,b+2]
theorem S7(H:AR cs)(hg:∀c∈cs,GenCh c)(cl:cs.length<=61)(hp:D.Perm cs)(hi:U[i]? = al (oH D))(hj:U[j]? = al (oT hh))(hη:∀c∈D,Aq hh c.1=al (η c.1))(hD:∀c∈D,∀l∈c.2.1,l∈nms D/\η l<η c.1) :
 ∃gs,IS (IQ η D) gs/\FN 6 76 [.ref i,.ref j] U (ob U.length) (U++W (IQ η D) gs (hts [] (IQ η D))):=by
 let C:=C0 5;have nd:=(hp.map (·.1)).nodup_iff.mpr H.nd;have hl:D.length<=61:=by rw[hp.length_eq];exact cl
 have hR:=(AC5 _).trans (CU D);have hi':∀τ,(U++τ)[i]? = al (oH D):=λτ=>CH hi;have hj':∀τ,(U++τ)[j]? = al (oT hh):=λτ=>CH hj;let K:Option V->Am:=λz=>[al (.ref i),al (.ref j),al (ob U.length),z]
 refine Bb (FN.ends (C:=C) (f:=76) (zs:=[.ref i,.ref j]) (U:=U) (R:=λv U'=>∃gs,IS (IQ η D) gs/\v=ob U.length/\U'=U++W (IQ η D) gs (hts [] (IQ η D))) (h:=by
  refine AU rfl (.new (f:=35) (by unfold mtP;kernel_rfl) (by unfold Pg;rfl)) ?_;have hs1:=by
   have h:=(Ao C.ok (.bi .sorted (.cons (.bi .list (.cons (.N 0) .nil)) .nil))).v (J:=K az) (U:=U++W [] [] []) (AZ (A8 (AZ (A8 rfl) (P7 (hi' _) (λn hn=>by refine oEA (AAP.mp hn) λx hx q_2=>?_;subst q_2;exact((Cl _).mp (hg x (hp.mem_iff.mp hx)).name).2.1) hl))) (Dr mm2 (lmt (BV hl rfl))))
   rw[M6 nd] at h;rw[show(dl (nms (A9 D).reverse))=.list ((A9 D).reverse.map λc=>PyData.str (Tx c.1)) by show PyData.list _=_;rw[AAE];rfl] at h;exact h
  have hk':Ay (λw b=>SE 7 (.aa (.N 1) (.N 3)) ((K az).set 3 (al w)) (U++W [] [] []) (Sz.kv b) (U++W [] [] [])) (((A9 D).reverse.map λc=>PyData.str (Tx c.1)).map .d) ((A9 D).reverse.map λc=>η c.1):=by rw[AAE];refine FO λc hc=>(C0 4).sv (Ad rfl rfl (Cq (hj' _) ?_));rw[AI PyData.int BA,hη c (hR.mem_iff.mp hc)];rfl
  have h:=SL.sortk (rev:=false) hs1 rfl (Lk ((hR.map _).nodup_iff.mpr nd)) (by rw[AAB,hR.length_eq];exact BV hl rfl) hk';have h:=(congrArg (λl:List PyData=>SL 8 (.sortk false (.bi .sorted (.o (.bi .list (.o (.N 0))))) 3 (.aa (.N 1) (.N 3))) (K az) (U++W [] [] []) (l.map V.d) (U++W [] [] [])) (RX η D)).mp h;refine Ee (λc=>vs c.1) (λp J τ=>∃gs,IS p gs/\(∃z,J=K z)/\τ=U++W p gs (hts [] p)) (SI.lst (SE.frz h) (by show al (((IQ η D).map λc=>PyData.str (Tx c.1)).map V.d)=_;rw[AAE];rfl)) (Az [] ⟨ABY,λpre c post e=>by simp at e,Ah,ABF _,rfl,λp h=>nomatch h⟩ ⟨az,rfl⟩ rfl) ?_ ?_
  ·intro p c q J q_u4 e q_r1;refine AS q_r1 λgs w q_2 q_3=>?_;obtain⟨z,rfl⟩:=q_2;subst q_3;refine oEA (PQ w c (Qa H hg cl ((Eo η D).trans hp) (Sh hD) e)) λgs' w' hf=>?_;have hf:=hf [];rw[AAV,AAV] at hf;have hf:=FA.at (τ:=U) (τ':=[]) hf rfl rfl (af trivial Ah) GB GB rfl;rw[AAV,AAV] at hf;exact Bl rfl (.ac An (by unfold mtP;kernel_rfl) (C.sv rfl) (C.sr (A8 (Ad rfl rfl (Cq (hi' _) (by rw[AI Ch.data BA,MM nd ((Eo η D).mem_iff.mp (e▸AAW _ (.head _)))];rfl))))) hf) (Ab (BS _ rfl gs' w' ⟨_,rfl⟩ rfl))
  ·intro J q_u1 q_r2;refine AS q_r2 λgs w q_2 q_3=>?_;obtain⟨z,rfl⟩:=q_2;subst q_3;exact AB rfl (Az gs w rfl rfl))) λv U' q_2 h=>?_
 refine AS q_2 λgs k1 k2 k3=>?_;rw[k2,k3] at h;exact iEA gs k1 h
def EqS{α:Type}(f:PyData->PyData->Option Bool)(g:α->PyData):Prop:=∀a b,∃r,f (g a) (g b)=al r/\(r=true↔a=b)
theorem Ro{α:Type}{f:PyData->PyData->Option Bool}{g:α->PyData}(h:EqS f g):∀l l':List α,∃r,Di f (l.map g) (l'.map g)=al r/\(r=true↔l=l')
 |[],[]=>⟨true,rfl,λ_=>rfl,λ_=>rfl⟩
 |[],_::_=>⟨false,rfl,ff_,(λe=>nomatch e)⟩
 |_::_,[]=>⟨false,rfl,ff_,(λe=>nomatch e)⟩
 |a::l,b::l'=>by
  refine oEA (h a b) λr h1 h2=>oEA (Ro h l l') λr' h3 h4=>(iEA (r&&r') ?_ ?_)
  ·show(f (g a) (g b)).bind _=_;exact h1▸bs▸h3▸rfl
  ·rw[AAH,h2,h4,List.cons.injEq]
theorem Kp{α:Type}{g:α->PyData}(h:EqS (eqN n) g):EqS (eqN (n+1)) λl:List α=>.list (l.map g):=λl l'=>by
 show∃r,(if (l.map g).length=(l'.map g).length then Di (eqN n) (l.map g) (l'.map g) else al false)=al r/\_;by_cases e:(l.map g).length=(l'.map g).length
 ·exact(if_pos e)▸Ro h l l'
 ·exact(if_neg e)▸⟨false,rfl,ff_,λq=>absurd (congrArg (λl=>(l.map g).length) q) e⟩
theorem XV(n:Nat):EqS (eqN n) λt:List Nat=>.str (Tx t):=λa b=>(iEA _ (Db n a b) AB8)
theorem Vs(n:Nat):EqS (eqN (n+1)) AD:=λa b=>by
 cases a with
 |none=>cases b with
  |none=>exact⟨true,rfl,λ_=>rfl,λ_=>rfl⟩
  |some b=>exact⟨false,rfl,ff_,(λe=>nomatch e)⟩
 |some a=>cases b with
  |none=>exact⟨false,rfl,ff_,nm_⟩
  |some b=>exact iEA _ (Ir n a b) (AB8.trans ⟨congrArg al,AAA⟩)
theorem V0:∀{a b:AK},a.word=b.word->a.mark=b.mark->a.text=b.text->a=b
 |⟨_,_,_⟩,⟨_,_,_⟩,rfl,rfl,rfl=>rfl
theorem Vt(n:Nat):EqS (eqN (n+2)) AK.data:=λa b=>by
 refine oEA (Vs n a.mark b.mark) λr h1 h2=>?_;have key:∀(x y:List PyData) (r':Bool),Di (eqN (n+1)) x y=al r'->eqN (n+2) (.tuple (.str (Tx a.word)::AD a.mark::x)) (.tuple (.str (Tx b.word)::AD b.mark::y))=al (decide (a.word=b.word)&&(r&&r')):=λx y r' e=>by show(eqN (n+1) (.str (Tx a.word)) (.str (Tx b.word))).bind (λp=>((eqN (n+1) (AD a.mark) (AD b.mark)).bind λq=>(Di (eqN (n+1)) x y).bind λz=>al (q&&z)).bind λq=>al (p&&q))=_;rw[Db,h1,e];rfl
 have fin:∀{r':Bool},(r'=true↔a.text=b.text)->((decide (a.word=b.word)&&(r&&r'))=true↔a=b):=λ{r'} h=>by rw[AAH,AAH,AB8,h2,h];exact⟨λq=>V0 q.1 q.2.1 q.2.2,λq=>by rw[q];exact⟨rfl,rfl,rfl⟩⟩
 unfold AK.data;cases ha:a.text with
 |none=>cases hb:b.text with
  |none=>exact iEA _ (key [] [] true rfl) (fin (ha▸hb▸(⟨λ_=>rfl,λ_=>rfl⟩)))
  |some l=>exact iEA _ (key [] [_] false rfl) (fin (ha▸hb▸⟨ff_,(λe=>nomatch e)⟩))
 |some k=>cases hb:b.text with
  |none=>exact iEA _ (key [_] [] false rfl) (fin (ha▸hb▸⟨ff_,nm_⟩))
  |some l=>exact iEA _ (key [.str (Tx k)] [.str (Tx l)] (decide (k=l)&&true) (by show(eqN (n+1) (.str (Tx k)) (.str (Tx l))).bind (λa=>(al true).bind λb=>al (a&&b))=_;rw[Db];rfl)) (fin (by rw[ha,hb,Bool.and_true,AB8];exact⟨congrArg al,AAA⟩))
theorem PT(n:Nat):EqS (eqN (n+4)) Ch.data:=λa b=>by
 refine oEA (Kp (XV (n+2)) a.2.1 b.2.1) λr h1 h2=>oEA (Kp (Vt n) a.2.2 b.2.2) λr' h3 h4=>(iEA (decide (a.1=b.1)&&(r&&(r'&&true))) ?_ ?_)
 ·show(eqN (n+3) (.str (Tx a.1)) (.str (Tx b.1))).bind (λp=>((eqN (n+3) (dl a.2.1) (dl b.2.1)).bind λq=>((eqN (n+3) (dds a.2.2) (dds b.2.2)).bind λz=>(al true).bind λt=>al (z&&t)).bind λz=>al (q&&z)).bind λq=>al (p&&q))=_;rw[Db,show eqN (n+3) (dl a.2.1) (dl b.2.1)=_ from h1,show eqN (n+3) (dds a.2.2) (dds b.2.2)=_ from h3];rfl
 ·rw[AAH,AAH,Bool.and_true,AB8,h2,h4];exact⟨λq=>Prod.ext q.1 (Prod.ext q.2.1 q.2.2),λq=>by rw[q];exact⟨rfl,rfl,rfl⟩⟩
theorem YE(a b:Ch):∃r,BH .NotEq (vc a) (vc b) U=al r/\(r=true↔a≠b):=by
 refine oEA (PT 36 a b) λr h1 h2=>⟨!r,?_,?_⟩
 ·show Ib (eqN AQ a.data b.data)=_;exact h1▸rfl
 ·rw[ACZ];exact⟨λq e=>ABB (q.symm.trans (h2.mpr e)),λq=>AB7.mpr λe=>q (h2.mp e)⟩
noncomputable def S.from:Nat->S->S
 |0,s=>s
 |n+1,s=>match s with|.cons _ r=>S.from n r|s=>s
noncomputable def S.at(n:Nat)(s:S):S:=match S.from n s with|.cons s _=>s|s=>s
structure EU(F:List Ch)(Z:List Nat->Prop)(kc:List (List Nat×Ch)):Prop where
 nd:(kc.map (·.1)).Nodup
 sm:∀q∈kc,q.1=q.2.1/\q.2∈F
 mem:∀n,n∈kc.map (·.1)↔Z n
theorem QA{κ β:Type}[DecidableEq κ]{h:List (κ×β)}{k:κ}{v:β}{p:κ×β}(hp:p∈BX h k v):p=(k,v)\/p∈h:=by
 unfold BX at hp;split at hp
 ·refine oEA (AAP.mp hp) λq hq q_2=>?_;subst q_2;by_cases e:q.1=k
  ·exact(if_pos e)▸e▸.inl rfl
  ·exact(if_neg e)▸.inr hq
 ·rcases AA0.mp hp with q|q
  ·exact .inr q
  ·exact .inl (AAJ.mp q)
theorem EU.put(h:EU F Z kc)(hc:c∈F):EU F (λn=>n=c.1\/Z n) (BX kc c.1 c) :=
 ⟨Ls h.nd,λq hq=>(QA hq).elim (λe=>by rw[e];exact⟨rfl,hc⟩) (h.sm q),λn=>(Fw n).trans (or_congr_right (h.mem n))⟩
theorem EU.iff(h:EU F Z kc)(e:∀n,Z n↔Z' n):EU F Z' kc:=⟨h.nd,h.sm,λn=>(h.mem n).trans (e n)⟩
theorem EU.hK(h:EU F Z kc):kc=hK (kc.map (·.2)):=by
 show kc=(kc.map (·.2)).map λc=>(c.1,c)
 rw[AAE];refine((List.map_id kc).symm.trans (AC8 λq hq=>?_));show q=(q.2.1,q.2);rw[<-(h.sm q hq).1]
theorem EU.len(h:EU F Z kc)(hl:F.length<=61):kc.length<=61:=by
 have h1:∀n∈kc.map (·.1),n∈nms F:=λn hn=>by refine oEA (AAP.mp hn) λq hq q_2=>?_;subst q_2;exact((h.sm q hq).1)▸AAZ (h.sm q hq).2
 have h2:=G7 _ _ h.nd h1;rw[AAB,AAB] at h2;exact AAC h2 hl
noncomputable abbrev chD(kc:List (List Nat×Ch)):O:=.dictS (Bc Tx Ch.data kc)
noncomputable abbrev htD(F:List Ch)(kc:List (List Nat×Ch)):O:=.dictS (Bc Tx (λc:Ch=>PyData.int (hgt F c.1)) kc)
theorem Y9:(U++[a,b]).set U.length a'=U++[a',b]:=by rw[List.set_append_right _ _ (AAL _),ADJ];rfl
theorem Y8:(U++[a,b]).set (U.length+1) b'=U++[a,b']:=by rw[List.set_append_right _ _ (AA9 _ _),Nat.add_sub_cancel_left];rfl
theorem Oj:(U++[a,b])[U.length]? = al a:=by rw[AA6 (AAL _),ADJ];rfl
theorem US:(U++[a,b])[U.length+1]? = al b:=by rw[AA6 (AA9 _ _),Nat.add_sub_cancel_left];rfl
theorem Jb(hd:SE (C.n+3) d J U (.d dd) U)(ho:C.v o J U=al (.ref k))(hi:C.v i J U=al (.d (.str w)))(h0:U[k]? = al (.dictS kvs))(hl:kvs.length<line)(kk:Al C P r J (U.set k (.dictS (BX kvs w dd)))):Al C P (.cons (.set o i d) r) J U :=
 Cs (λQ q=>.set hd (C.sv ho) (C.sv hi) (Q4 h0 hl) q) kk
theorem YF(h:(nms l).Nodup):l.Nodup:=List.Pairwise.imp (λh e=>h (congrArg _ e)) (ACU.mp h)
theorem UR{C:Cfg}{α:Type}{l:List α}(w:α->V)(ac:List α->Am->Ac->Prop)(hit:SI (C.n+3) it J U (l.map w) [] U)(hJ:ac [] J U)
 (hf:∀p a q J U,l=p++a::q->ac p J U->GP C (λfl U'=>∃J',fl=.next J'/\ac (p++[a]) J' U') K body (J.set x (al (w a))) U) (k:∀J' U',ac l J' U'->GP C P K r J' U'):GP C P K (.cons (.L [x] it body) r) J U:=by
 rcases Td (ts:=[x]) (kps:=[]) w ac l [] J U (λ_ _ _ _ _ _ m=>nomatch m) (λ_ _=>.inl rfl) hJ hf with⟨Je,Ue,h1,h2⟩|⟨kk,U',hK,h2⟩
 ·exact Hz (Cs (λQ q=>.L hit (h2 Q q)) (Ab ⟨rfl,rfl⟩)) (k Je Ue h1)
 ·exact .inr (DN kk U' hK (.head (.L hit h2)))
theorem UQ(h:ST (C.n+3) c J U t U)(kt:t=true->K kk U)(kf:t=false->GP C P K r J U)(ha:C.row a J U=al ws:=by rfl)(hl:ws.length<=line:=by decide):GP C P K (.cons (.I c (.cons (.rse kk a) .nil) .nil) r) J U:=by
 cases t with
 |true=>exact .inr (DN kk U (kt rfl) (.head (.I h (.head (.rse (ACK 3 _) (C.sr ha) hl rfl)))))
 |false=>exact Hz (BZ h ff_ λ_=>Ab (Ab ⟨rfl,rfl⟩)) (kf rfl)
def WAt(F:List Ch)(gs:Gsg)(b:Nat)(U:Ac):Prop:=∀(n f:Nat) (zs:List V) (d:PyData),FN n f (self::zs) (W F gs (hts [] F)) (.d d) (W F gs (hts [] F))->(∀z,z∈zs->low 0 z)->∀τ,FN n f (ob b::zs) (U++τ) (.d d) (U++τ)
theorem WAt.of{F:List Ch}{gs:Gsg}{τ:Ac}(hb:τ.length=b):WAt F gs b (τ++(W F gs (hts [] F)++τ')):=λn f zs d h hz τ''=>by rw[ABQ,ABQ];exact FA.at h rfl rfl hz GB GB hb
section
variable{cs F:List Ch}{gs:Gsg}
theorem Sb(hC:3<=C.n)(h:Wov cs F gs)(hw:WAt F gs b U)(K:Option V->Am)(hK:K=λz=>[al (ob b),al y,al (.ref U.length),al (.ref (U.length+1)),z]) :
 Al C (λfl U'=>∃J',fl=.next J'/\∃kc,EU F (λn=>n∈nms F) kc/\(∃z,J'=K z)/\U'=U++[chD kc,htD F kc])
  (.cons (S.at 2 KI.body) .nil) (K az) (U++[chD [],htD F []]):=by
 subst hK;refine Ee vs (λp J U'=>∃kc,EU F (λn=>n∈p) kc/\(∃z,J=[al (ob b),al y,al (.ref U.length),al (.ref (U.length+1)),z])/\U'=U++[chD kc,htD F kc]) (SI.lst (.ac An (by unfold mtP;kernel_rfl) (C.sv rfl) .nil (FN.more (hw _ _ _ _ (DC h) Ah [chD [],htD F []]) (DU hC rfl))) mm2) (Az [] ⟨ABY,Ah,λn=>⟨(λq=>nomatch q),(λq=>nomatch q)⟩⟩ ⟨az,rfl⟩ rfl) ?_ ?_
 ·intro p n q J q_u4 e q_r1;refine AS q_r1 λkc P q_2 q_3=>?_;obtain⟨z,rfl⟩:=q_2;subst q_3;have hm:=(h.perm.map (·.1)).mem_iff.mpr ((Af _).mem_iff.mp (e▸AAW _ (.head _)));refine oEA (AAP.mp hm) λc hc q_2=>?_;subst q_2;have hkl:∀{β:Type} (f:Ch->β),(Bc Tx f kc).length<line:=λf=>by rw[Bu];exact BV (P.len h.w.len) rfl
  have hch:=Iq (gs:=gs) (hs:=hts [] F) (τ:=[]) h.w.nd h.w.gen hc;rw[AAV] at hch;refine Jb (.ac An (by unfold mtP;kernel_rfl) (C.sv rfl) (C.sr rfl) ((hw _ _ _ _ hch (af trivial Ah) [chD kc,htD F kc]).more hC)) rfl rfl Oj (hkl _) ?_;rw[Y9,Bn (f:=Ch.data) BA];have hht:=Io (gs:=gs) (τ:=[]) (AAZ hc);rw[AAV] at hht;refine Jb (.ac An (by unfold mtP;kernel_rfl) (C.sv rfl) (C.sr rfl) ((hw _ _ _ _ hht (af trivial Ah) [chD (BX kc c.1 c),htD F kc]).more hC)) rfl rfl US (hkl _) ?_;rw[Y8,Bn (f:=λc:Ch=>PyData.int (hgt F c.1)) BA];exact Ab (BS _ rfl _ ((P.put hc).iff λm=>⟨λq=>q.elim (λq=>q▸AAW _ (.head _)) (AAU _),λq=>(AA0.mp q).elim .inr λq=>.inl (AAJ.mp q)⟩) ⟨_,rfl⟩ rfl)
 ·intro J q_u1 q_r2;refine AS q_r2 λkc P q_2 q_3=>?_;obtain⟨z,rfl⟩:=q_2;subst q_3;exact Ab (BS _ rfl kc (P.iff λn=>(Af _).mem_iff.trans (h.perm.map (·.1)).mem_iff.symm) ⟨_,rfl⟩ rfl)
end
def NoC(F1 F2:List Ch):Prop:=∀c1∈F1,∀c2∈F2,c1.1=c2.1->c1=c2
theorem EU.len'(h:EU F Z kc):kc.length<=F.length:=by
 have h1:∀n∈kc.map (·.1),n∈nms F:=λn hn=>by refine oEA (AAP.mp hn) λq hq q_2=>?_;subst q_2;exact((h.sm q hq).1)▸AAZ (h.sm q hq).2
 have h2:=G7 _ _ h.nd h1;rw[AAB,AAB] at h2;exact h2
theorem EU.get(h:EU F Z kc)(hq:q∈kc):Aq kc q.1=al q.2:=by
 have nd:=by have:=h.nd;rw[h.hK,AAE] at this;exact this
 have:=MM nd (AAZ hq);rw[<-h.hK,<-(h.sm q hq).1] at this;exact this
section
variable{cs1 cs2 F1 F2:List Ch}{g1 g2:Gsg}{U:Ac}
theorem Pq{C:Cfg}{P:Fl->Ac->Prop}{K:Nat->Ac->Prop}(hC:3<=C.n)(h1:Wov cs1 F1 g1)(h2:Wov cs2 F2 g2)(hw:WAt F2 g2 b2 U){η:List Nat->Int}{Ag:Prop}(hA1:Ag->∀n∈nms F1,η n=hgt F1 n)(hA2:Ag->∀n∈nms F2,η n=hgt F2 n)(Kf:Option V->Am)(hK:Kf=λz=>[al (ob b1),al (ob b2),al (.ref U.length),al (.ref (U.length+1)),z]){kc0:List (List Nat×Ch)}(h0:EU F1 (λn=>n∈nms F1) kc0){z:Option V}
 (kx:¬ NoC F1 F2->∀τ',K 7 (U++τ'))
 (k:NoC F1 F2->∀kc kvs z,EU (F1++F2) (λn=>n∈nms F1\/n∈nms F2) kc->(Ag->kvs=Bc Tx (λc:Ch=>PyData.int (η c.1)) kc)->GP C P K r (Kf z) (U++[chD kc,.dictS kvs])) :
 GP C P K (.cons (S.at 3 KI.body) r) (Kf z) (U++[chD kc0,htD F1 kc0]):=by
 subst hK;have hn:=hw _ _ _ _ (DC h2) Ah [chD kc0,htD F1 kc0];have nd2:=(Af _).nodup_iff.mpr h2.H.nd;have hl2:(Ax (nms cs2)).length<=61:=by rw[(Af _).length_eq,AAB];exact h2.len
 refine UR vs (λp J U'=>(∀n∈p,∀c1∈F1,∀c2∈F2,c1.1=n->c2.1=n->c1=c2)/\∃kc kvs,EU (F1++F2) (λn=>n∈nms F1\/n∈p) kc/\(∀q∈kc,q.1∉p->q.2∈F1)/\kvs.length<=61+p.length/\(Ag->kvs=Bc Tx (λc:Ch=>PyData.int (η c.1)) kc)/\(∃z,J=[al (ob b1),al (ob b2),al (.ref U.length),al (.ref (U.length+1)),z])/\U'=U++[chD kc,.dictS kvs]) (SI.lst (.ac An (by unfold mtP;kernel_rfl) (C.sv rfl) .nil (FN.more hn (DU hC rfl))) mm2) (Gb Ah kc0 _ ⟨h0.nd,λq hq=>⟨(h0.sm q hq).1,AAU _ (h0.sm q hq).2⟩,λn=>(h0.mem n).trans ⟨.inl,λq=>q.elim id λq=>nomatch q⟩⟩ (λq hq _=>(h0.sm q hq).2) (lml (h0.len h1.w.len)) (λa=>AC8 λq hq=>congrArg (λi=>(Tx q.1,PyData.int i)) (hA1 a q.2.1 (AAZ (h0.sm q hq).2)).symm) ⟨z,rfl⟩ rfl) ?_ ?_
 ·intro p n q J q_u4 e q_r1;refine Lx q_r1 λhp kc kvs P ho hk ha q_7 q_8=>?_;obtain⟨z,rfl⟩:=q_7;subst q_8;have hm:=(h2.perm.map (·.1)).mem_iff.mpr ((Af _).mem_iff.mp (e▸AAW _ (.head _)));refine oEA (AAP.mp hm) λc2 hc2 q_2=>?_;subst q_2;have hpl:p.length<=61:=by have:=congrArg List.length e;rw[AAF] at this;exact R7 this hl2 rfl
  have hnp:=λq=>by rw[e] at nd2;exact(ABW.mp nd2).2.2 _ q _ (.head _) rfl
  have hch:=Iq (gs:=g2) (hs:=hts [] F2) (τ:=[]) h2.w.nd h2.w.gen hc2;rw[AAV] at hch;have hse:∀τ',SE (C.n+3) (.ac (ACG "change") (.N 1) (.o (.N 4))) [al (ob b1),al (ob b2),al (.ref U.length),al (.ref (U.length+1)),al (vs c2.1)] (U++τ') (vc c2) (U++τ'):=λτ'=>.ac An (by unfold mtP;kernel_rfl) (C.sv rfl) (C.sr rfl) (((hw _ _ _ _ hch (af trivial Ah)) τ').more hC);have hin:=by have h:=YL (a:=c2.1) (Oj (U:=U) (a:=chD kc) (b:=O.dictS kvs));rw[AI (f:=Ch.data) BA,Option.isSome_map] at h;exact h
  have hcond:∃t,ST (C.n+3) (.P .And (.t (.C .In (.N 4) (.N 2)) (.C .NotEq (.aa (.N 2) (.N 4)) (.ac (ACG "change") (.N 1) (.o (.N 4)))))) [al (ob b1),al (ob b2),al (.ref U.length),al (.ref (U.length+1)),al (vs c2.1)] (U++[chD kc,.dictS kvs]) t (U++[chD kc,.dictS kvs])/\(t=true->¬ NoC F1 F2)/\(t=false->∀c1∈F1,c1.1=c2.1->c1=c2):=by
   have s1:=(Ao C.ok (.C .In (.N 4) (.N 2))).t (J:=[al (ob b1),al (ob b2),al (.ref U.length),al (.ref (U.length+1)),al (vs c2.1)]) (Aj rfl rfl hin);by_cases hx:c2.1∈nms F1
   ·refine oEA (AAP.mp hx) λc1 hc1 e1=>oEA (AAP.mp ((P.mem c2.1).mpr (.inl hx))) λq1 hq1 e2=>?_;have e3:=Co h1.w.nd (ho q1 hq1 (e2▸hnp)) hc1 (by rw[<-(P.sm q1 hq1).1,e2,e1]);have hg:Aq kc c2.1=al c1:=by rw[<-e2,<-e3];exact P.get hq1
    refine oEA (YE (U:=U++[chD kc,.dictS kvs]) c1 c2) λt t1 t2=>?_;rw[hg] at s1;refine(Az t (.P (.cons s1 tt_ λ_=>.cons (.C (C.sv (Ad rfl rfl (Cq Oj (by rw[AI (f:=Ch.data) BA,hg];rfl)))) (hse _) (Dv t1)) (λ_=>⟨rfl,rfl⟩) λq=>?_)) (λq hN=>t2.mp q (hN c1 hc1 c2 hc2 e1)) (λq c hc ec=>?_))
    ·cases t with
     |true=>exact .nil
     |false=>exact absurd rfl q
    ·exact(Co h1.w.nd hc hc1 (ec.trans e1.symm))▸(Classical.byContradiction λq'=>ABB (q.symm.trans (t2.mpr q')))
   ·have hg:(Aq kc c2.1).isSome=false:=by
     cases hg:Aq kc c2.1 with
     |none=>rfl
     |some c=>exact absurd ((P.mem c2.1).mp (AJ.mp ⟨c,hg⟩)) λq=>q.elim hx hnp
    rw[hg] at s1;exact Az false (.P (.cons s1 (λ_=>⟨rfl,rfl⟩) λq=>absurd rfl q)) ff_ (λ_ c hc ec=>absurd (AAP.mpr ⟨c,hc,ec⟩) hx)
  refine AS hcond λt ht hT hF=>UQ ht (λq=>kx (hT q) _) λq=>?_;have hkl:kvs.length<line:=BV (AAC hk (AC7 hpl 61)) rfl;have hcl:(Bc Tx Ch.data kc).length<line:=by rw[Bu];exact AAS P.len' (AAF▸BV (Nat.add_le_add h1.w.len h2.w.len) rfl)
  refine .inl (Jb (hse _) rfl rfl Oj hcl ?_);rw[Y9,Bn (f:=Ch.data) BA];have hht:=Io (gs:=g2) (τ:=[]) (AAZ hc2);rw[AAV] at hht;refine Jb (.ac An (by unfold mtP;kernel_rfl) (C.sv rfl) (C.sr rfl) ((hw _ _ _ _ hht (af trivial Ah) [chD (BX kc c2.1 c2),.dictS kvs]).more hC)) rfl rfl US hkl ?_;rw[Y8];refine Ab ⟨_,rfl,λm hm c1 hc1 c hc e1 e2=>?_,_,_,(P.put (AAW _ hc2)).iff λm=>?_,λq' hq' hq2=>?_,?_,λa=>?_,⟨_,rfl⟩,rfl⟩
  ·rcases AA0.mp hm with q'|q'
   ·exact hp m q' c1 hc1 c hc e1 e2
   ·have e3:=AAJ.mp q';exact(Co h2.w.nd hc hc2 (e2.trans e3))▸hF q c1 hc1 (e1.trans e3)
  ·exact⟨λq=>q.elim (λq=>.inr (q▸AAW _ (.head _))) λq=>q.imp id (AAU _),λq=>q.elim (λq=>.inr (.inl q)) λq=>(AA0.mp q).elim (λq=>.inr (.inr q)) λq=>.inl (AAJ.mp q)⟩
  ·rcases QA hq' with e3|e3
   ·rw[e3] at hq2;exact absurd (AAW _ (.head _)) hq2
   ·exact ho q' e3 λq=>hq2 (AAU _ q)
  ·exact AAF▸AAC (ED _ _ _) (ABS hk)
  ·exact(ha a)▸(hA2 a c2.1 (AAZ hc2))▸Bn (f:=λc:Ch=>PyData.int (η c.1)) BA kc c2.1 c2
 ·intro J q_u1 q_r2;refine Lx q_r2 λhp kc kvs P _ _ ha q_7 q_8=>?_;obtain⟨z,rfl⟩:=q_7;subst q_8;have hm:∀n,n∈Ax (nms cs2)↔n∈nms F2:=λn=>(Af _).mem_iff.trans (h2.perm.map (·.1)).mem_iff.symm;exact k (λc1 hc1 c2 hc2 e=>hp c2.1 ((hm _).mpr (AAZ hc2)) c1 hc1 c2 hc2 e rfl) kc kvs z (P.iff λn=>or_congr_right (hm n)) ha
end
structure UOk(F1 F2 aa:List Ch):Prop where
 H:AR aa
 gen:∀c∈aa,GenCh c
 len:aa.length<=61
 mem:∀c,c∈aa↔c∈F1\/c∈F2
 e1:∀n∈nms F1,hgt aa n=hgt F1 n
 e2:∀n∈nms F2,hgt aa n=hgt F2 n
def kW(F1 F2 aa:List Ch)(U:Ac)(v:V)(U':Ac):Prop:=NoC F1 F2/\∃G gs' τ',Wov aa G gs'/\τ'.length=2/\v=ob (U.length+2)/\U'=U++τ'++W G gs' (hts [] G)
def kU(F1 F2:List Ch)(U:Ac)(kk:Nat)(U':Ac):Prop:=kk=7/\¬ NoC F1 F2/\∃τ',U'=U++τ'
section
variable{cs1 cs2 F1 F2 aa:List Ch}{g1 g2:Gsg}
theorem LC(h1:Wov cs1 F1 g1)(h2:Wov cs2 F2 g2)(w1:WAt F1 g1 b1 U)(w2:WAt F2 g2 b2 U)(hU:NoC F1 F2->UOk F1 F2 aa):FE 8 90 [ob b1,ob b2] U (kW F1 F2 aa U) (kU F1 F2 U):=by
 let C:=C0 7;refine GP.fn (C:=C) (by unfold Pg;rfl) rfl (dc rfl) (Hz (Hy (Ab ⟨rfl,rfl⟩)) ?_);refine Hz (Hy (Ab ⟨rfl,rfl⟩)) ?_;let Kf:Option V->Am:=λz=>[al (ob b1),al (ob b2),al (.ref U.length),al (.ref (U.length+1)),z]
 have e1:U++[O.dictS []]++[O.dictS []]=U++[chD [],htD F1 []]:=ABQ _ _ _;have e2:(U++[O.dictS []]).length=U.length+1:=by rw[AAF];rfl
 rw[e1,e2];refine Re (Sb (dc rfl) h1 w1 Kf rfl) ?_;intro q_u0 q_u1 q_r1;refine AS q_r1 λkc0 P0 q_2 q_3=>?_;obtain⟨z,rfl⟩:=q_2;subst q_3;refine Pq (dc rfl) h1 h2 w2 (λa=>(hU a).e1) (λa=>(hU a).e2) Kf rfl P0 (λq τ'=>⟨rfl,q,τ',rfl⟩) λhN kc kvs z P hk=>?_;have u:=hU hN;have hk:=hk hN;subst hk;have hsub:∀c∈kc.map (·.2),c∈aa:=λc hc=>by refine oEA (AAP.mp hc) λq hq q_2=>?_;subst q_2;exact(u.mem _).mpr (AA0.mp (P.sm q hq).2)
 have hnm:nms (kc.map (·.2))=kc.map (·.1):=by show(kc.map (·.2)).map (·.1)=_;rw[AAE];exact AC8 λq hq=>(P.sm q hq).1.symm
 have ndD:(nms (kc.map (·.2))).Nodup:=by rw[hnm];exact P.nd
 have hall:∀c∈aa,c∈kc.map (·.2):=λc hc=>by have:c.1∈kc.map (·.1):=(P.mem c.1).mpr (((u.mem c).mp hc).imp (AAZ) (AAZ));exact oEA (AAP.mp this) λq hq e=>(Co u.H.nd (hsub q.2 (AAZ hq)) hc ((P.sm q hq).1.symm.trans e))▸AAZ hq
 have hpm:=(List.perm_ext_iff_of_nodup (YF ndD) (YF u.H.nd)).mpr λc=>⟨hsub c,hall c⟩
 have hget:∀c∈kc.map (·.2),Aq (Bc id (λc:Ch=>hgt aa c.1) (hK (kc.map (·.2)))) c.1=al (hgt aa c.1):=λc hc=>by refine(AI (λc:Ch=>hgt aa c.1) (λ_ _ e=>e) (hK (kc.map (·.2))) c.1).trans ?_;exact(MM ndD hc)▸rfl
 refine oEA (S7 (U:=U++[chD kc,.dictS (Bc Tx (λc:Ch=>PyData.int (hgt aa c.1)) kc)]) u.H u.gen u.len hpm (Oj.trans (congrArg (λk=>al (chD k)) P.hK)) (US.trans (congrArg (λk=>al (O.dictS k)) (by
  rw[<-P.hK];show _=((kc.map λp=>(id p.1,hgt aa p.2.1)).map _);rw[AAE];rfl))) hget λc hc l hl=>by have b:Blw aa c.1 l:=.one (hsub c hc) hl;exact⟨(hpm.map (·.1)).mem_iff.mpr (b.names u.H.topo),Blw.lower u.H.nd u.H.topo b⟩) λgs' w' hf=>?_
 have e3:(U++[chD kc,.dictS (Bc Tx (λc:Ch=>PyData.int (hgt aa c.1)) kc)]).length=U.length+2:=by rw[AAF];rfl
 rw[e3] at hf;exact .inl (Ct (.F (C.sr (Bg rfl rfl)) (hf.more (dc rfl))) ⟨hN,_,gs',_,⟨u.H,u.gen,u.len,(Eo _ _).trans hpm,w'⟩,rfl,rfl,rfl⟩)
theorem S8(h1:Wov cs1 F1 g1)(h2:Wov cs2 F2 g2)(w1:WAt F1 g1 b1 U)(w2:WAt F2 g2 b2 U)(hN:NoC F1 F2)(u:UOk F1 F2 aa):∃G gs' τ',Wov aa G gs'/\τ'.length=2/\FN 8 90 [ob b1,ob b2] U (ob (U.length+2)) (U++τ'++W G gs' (hts [] G)):=by
 rcases LC h1 h2 w1 w2 (λ_=>u) with⟨v,U',⟨_,G,gs',τ',hG,hl,rfl,rfl⟩,hf⟩|⟨kk,U',⟨_,q,_⟩,_⟩
 ·exact EK G gs' τ' hG hl hf
 ·exact absurd hN q
theorem S4(h1:Wov cs1 F1 g1)(h2:Wov cs2 F2 g2)(w1:WAt F1 g1 b1 U)(w2:WAt F2 g2 b2 U)(hN:¬ NoC F1 F2):∃τ',FX 8 90 [ob b1,ob b2] U 7 (U++τ'):=by
 rcases LC (aa:=[]) h1 h2 w1 w2 (λq=>absurd q hN) with⟨v,U',⟨q,_⟩,hf⟩|⟨kk,U',⟨rfl,_,τ',rfl⟩,hf⟩
 ·exact absurd q hN
 ·exact⟨τ',hf⟩
end
section
variable{n:Nat}
theorem Iv(hi:2<J.length):∀bs:List Bool,E9 n (.N 2) [2] (.o (.N 2)) [] J U (vbs bs) U (vbs (bs.filter id))
 |[]=>⟨(λ_ _ m=>nomatch m),rfl,rfl⟩
 |b::bs=>by
  have hv:SE n (.N 2) (CA (Bm J [2]) [2] (vb b)) U (vb b) U:=SE.N (by show((J.set 2 az).set 2 (al (vb b)))[2]? = _;rw[AB1 (by rw[AB0];exact hi)]);have ht:=ST.plain (λhc=>Fo (.N 2) rfl hc) hv (CL rfl);refine⟨(λ_ _ m=>nomatch m),.inl rfl,b,U,?_,λq=>?_,λq=>?_⟩
  ·cases b with
   |true=>exact .cons ht .nil
   |false=>exact .no ht
  ·subst q;exact Iv hi bs
  ·subst q;exact EK (vb true) _ U hv rfl (Iv hi bs)
end
theorem Jr(hv:J[0]? = al (al (.exc j)))(hj:j∈HH)(h0:Nat.beq k 0=false)(hk:k<10):SE n (.bi .isinstance (.t (.N 0) (.glx k))) J U (vb (Cw j k)) U:=.bi2 (.cons (.N hv) (.cons .glx .nil)) (iL hj h0 hk)
theorem Vg(hj:j∈HH):FA 2 73 [.exc j] U (vb true) U:=by
 let b1:List Bool:=[Cw j 2,Cw j 3,Cw j 4,Cw j 5]
 let b2:List Bool:=[Cw j 6,Cw j 7,Cw j 8,Cw j 9]
 have e1:=(show∀j∈HH,(([Cw j 2,Cw j 3,Cw j 4,Cw j 5]:List Bool)++[Cw j 6,Cw j 7,Cw j 8,Cw j 9]).filter id=[true] by decide) j hj;have e2:Cw j 1=true:=by unfold Cw;rw[show Nat.beq 1 1=true from rfl,Bool.true_or,Bool.or_true]
 have e3:Cw j 0=true:=by unfold Cw;rw[show Nat.beq 0 0=true from rfl,Bool.or_true,Bool.or_true]
 have row:∀{z k1 k2 k3 k4},Nat.beq k1 0=false->k1<10->Nat.beq k2 0=false->k2<10->Nat.beq k3 0=false->k3<10->Nat.beq k4 0=false->k4<10 ->
  SE 1 (.lst (.cons (.bi .isinstance (.cons (.N 0) (.cons (.glx k1) .nil))) (.cons (.bi .isinstance (.cons (.N 0) (.cons (.glx k2) .nil))) (.cons (.bi .isinstance (.cons (.N 0) (.cons (.glx k3) .nil))) (.cons (.bi .isinstance (.cons (.N 0) (.cons (.glx k4) .nil))) .nil))))) [al (.exc j),z,az] U (.d (.list [.bool (Cw j k1),.bool (Cw j k2),.bool (Cw j k3),.bool (Cw j k4)])) U:=λ{z k1 k2 k3 k4} a1 a2 a3 a4 a5 a6 a7 a8 =>
  SE.frz (SL.lst (.cons (Jr rfl hj a1 a2) (.cons (Jr rfl hj a3 a4) (.cons (Jr rfl hj a5 a6) (.cons (Jr rfl hj a7 a8) .nil)))) (dc rfl))
 refine FA.of (by unfold Pg;rfl) rfl ?_ (AAL _);refine .cons (.A rfl (row (k1:=2) (k2:=3) (k3:=4) (k4:=5) rfl (dc rfl) rfl (dc rfl) rfl (dc rfl) rfl (dc rfl)) ?_);refine .cons (.A (v:=.d (.list ((b1++b2).map .bool))) rfl (SE.frz (SL.B (.N rfl) (row (k1:=6) (k2:=7) (k3:=8) (k4:=9) rfl (dc rfl) rfl (dc rfl) rfl (dc rfl) rfl (dc rfl)) (Pu (ws:=(b1.map PyData.bool).map V.d) rfl rfl (show 4+4<=line by decide)))) ?_);have hc:SE 1 (.D (.N 2) [2] (.N 1) (.o (.N 2))) [al (.exc j),al (.d (.list ((b1++b2).map .bool))),az] U (.d (.list [.bool true])) U:=by have h:=Iv (n:=1) (U:=U) (J:=[al (.exc j),al (.d (.list ((b1++b2).map .bool))),az]) (dc rfl) (b1++b2);rw[e1] at h;exact SE.frz (SL.D (SI.lst (.N rfl) rfl) h (dc rfl))
 refine .cons (.ret (.P (.more rfl (.C (.bi1 (.cons hc .nil) (M4 rfl)) (.cst (.int 1)) (Dv rfl)) (CL rfl) tt_ λ_=>?_)) ⟨rfl,rfl⟩);exact .more (t:=true) rfl (e2▸Jr rfl hj rfl (dc rfl)) (CL rfl) tt_ λ_=>.one (e3▸SE.bi2 (.cons (.N rfl) (.cons .ty .nil)) (dE hj))
section
variable{cs1 cs2 F1 F2:List Ch}{g1 g2:Gsg}
theorem Kj(h1:Wov cs1 F1 g1)(h2:Wov cs2 F2 g2)(w1:WAt F1 g1 b1 U)(w2:WAt F2 g2 b2 U)(hN:¬ NoC F1 F2):∃τ',FN 10 74 [ob b1,ob b2] U (vb true) (U++τ'):=by
 refine oE (S4 h1 h2 w1 w2 hN) λτ' hx=>⟨τ',?_⟩
 refine FA.of (by unfold Pg;rfl) rfl ?_ (dc rfl);exact .cons (.tryAs (.head (.exp rfl (.F ((C0 9).sr (Bg rfl rfl)) (FXA.more hx (dc rfl))) ⟨rfl,rfl⟩)) (dc rfl) (.F (.cons (.N rfl) .nil) (Vg (.head _))) ⟨rfl,rfl⟩)
end
noncomputable def uni(L1 L2 cs:List Ch):List Ch:=cs.filter λc=>decide (c.1∈nms (L1++L2))
theorem H6(l1:L1.length<=61)(l2:L2.length<=61)(l3:cs.length<=61):FN 3 91 [.d (.list (L1.map Ch.data)),.d (.list (L2.map Ch.data)),.d (.list (cs.map Ch.data))] U (.d (.list ((uni L1 L2 cs).map Ch.data))) U:=by
 let C:=C0 2;let a:V:=.d (.list (L1.map Ch.data));let b:V:=.d (.list (L2.map Ch.data));let d:V:=.d (.list (cs.map Ch.data));have hl:(L1++L2).length<=122:=by rw[AAF];exact Nat.add_le_add l1 l2
 have hc:∀{z},(ev C.O (.B .Add (.N 0) (.N 1))).v [al a,al b,al d,z,az] U=al (.d (.list ((L1++L2).map Ch.data))):=λ{z}=>(Ae rfl rfl (GK _ _ (by rw[AAB,AAB,<-AAF];exact AY hl rfl))).trans (by rw[AAQ]);exact FN.same (C:=C) (h:=by
  refine Rd (ds:=(nms (L1++L2)).map λt=>.str (Tx t)) ((Ed (λc=>.d (Ch.data c)) (λ_=>true) (λc=>vs c.1) (Bv hc rfl) (AY hl rfl) (λ_ _=>rfl) (λc' hc' _=>Ad rfl rfl (AM c'))).trans ?_) ?_
  ·rw[BT,AAE,AAE];rfl
  ·exact AB (CG Ch.data (λc=>decide (c.1∈nms (L1++L2))) Ch.data (Bv rfl rfl) (AY l3 rfl) (λc _=>EZ (Aj (Ad rfl rfl (AM c)) rfl (Cr _ _))) (λc _ _=>rfl)) ⟨rfl,rfl⟩)
theorem Oo(l1:L1.length<=61)(l2:L2.length<=61):∃r,(r=true↔¬ NoC L1 L2)/\FN 2 96 [.d (.list (L1.map Ch.data)),.d (.list (L2.map Ch.data))] U (vb r) U:=by
 let C:=C0 1;let a:V:=.d (.list (L1.map Ch.data));let b:V:=.d (.list (L2.map Ch.data));let K:Option V->Option V->Am:=λz w=>[al a,al b,z,w]
 refine Bb (FN.ends (C:=C) (f:=96) (zs:=[a,b]) (R:=λv U'=>∃r:Bool,(r=true↔¬ NoC L1 L2)/\v=vb r/\U'=U) (h:=by
  refine MJ vc (λp J U'=>NoC p L2/\(∃z w,J=K z w)/\U=U') (Bv rfl rfl) (λ_ _ _ _ _ _ m=>nomatch m) ⟨Ah,(iEE _ _ rfl),rfl⟩ ?_ ?_
  ·intro p c1 q J q_u4 e q_r1;obtain⟨hp,⟨z,w,rfl⟩,rfl⟩:=q_r1;have hc1:c1∈L1:=by rw[e];exact AAW _ (.head _)
   refine MJ vc (λp' J U'=>(∀c2∈p',c1.1=c2.1->c1=c2)/\(∃w,J=K (al (vc c1)) w)/\U=U') (Bv rfl rfl) (λ_ _ _ _ _ _ m=>nomatch m) ⟨Ah,⟨_,rfl⟩,rfl⟩ ?_ ?_
   ·intro p' c2 q' J q_u4 e' q_r2;obtain⟨hp',⟨w,rfl⟩,rfl⟩:=q_r2;have hc2:c2∈L2:=by rw[e'];exact AAW _ (.head _)
    obtain⟨t,t1,t2⟩:=YE c1 c2;refine AC (BC (Aj (Ad rfl rfl (AM c1)) (Ad rfl rfl (AM c2)) EQ) λ_=>Aj rfl rfl t1) (λq=>?_) λq=>?_
    ·obtain⟨q1,q2⟩:=AAH.mp q;exact AB rfl ⟨true,⟨λ_ hN=>t2.mp q2 (hN c1 hc1 c2 hc2 (AAG q1)),λ_=>rfl⟩,rfl,rfl⟩
    ·refine Ab (Ab ⟨λc hc ec=>?_,⟨_,rfl⟩,rfl⟩);rcases AA0.mp hc with q'|q'
     ·exact hp' c q' ec
     ·rw[AAJ.mp q'] at ec ⊢;rw[AAI ec,Bool.true_and] at q;exact Classical.byContradiction λq''=>ABB (q.symm.trans (t2.mpr q''))
   ·intro J q_u1 q_r3;obtain⟨hp',⟨w,rfl⟩,rfl⟩:=q_r3;refine Ab ⟨λc hc c2 hc2 ec=>?_,(iEE _ _ rfl),rfl⟩;rcases AA0.mp hc with q'|q'
    ·exact hp c q' c2 hc2 ec
    ·rw[AAJ.mp q'] at ec ⊢;exact hp' c2 hc2 ec
  ·intro J q_u1 q_r4;obtain⟨hp,⟨z,w,rfl⟩,rfl⟩:=q_r4;exact AB rfl (Az false ⟨ff_,λq=>absurd hp q⟩ rfl rfl))) λv U' q_2 h=>?_
 obtain⟨r,k1,k2,k3⟩:=q_2;rw[k2,k3] at h;exact iEA r k1 h
def KL(cs:List Ch)(p:List Nat->Bool):Prop:=∀c∈cs,p c.1=true->∀l∈c.2.1,p l=true
theorem Wov.hgt(h:Wov (cs.filter λc=>p c.1) F g)(hc:KL cs p):∀n∈nms F,Mine.Internal.hgt F n=Mine.Internal.hgt cs n:=λn hn=>by refine oEA (AAP.mp hn) λc c1 q_2=>?_;subst q_2;have hm:=h.perm.mem_iff.mp c1;exact(Hx h.H.nd h.perm h.H.topo h.w.topo c hm)▸GG hc (AA4.mp hm).2
theorem Nr(H:AR cs)(k1:KL cs p1)(k2:KL cs p2):KL cs λn=>decide (n∈nms ((cs.filter λc=>p1 c.1)++cs.filter λc=>p2 c.1)):=λc hc hq l hl=>by
 have hlc:=(Blw.one hc hl).names H.topo;refine oEA (AAP.mp hlc) λd hd ed=>?_;have key:∀{p:List Nat->Bool},KL cs p->c.1∈nms (cs.filter λc=>p c.1)->d∈cs.filter λc=>p c.1:=λ{p} k hm=>by refine oEA (AAP.mp hm) λc' c1 c2=>AA4.mpr ⟨hd,?_⟩;exact ed▸k c hc (c2▸(AA4.mp c1).2) l hl
 refine AAI (AAP.mpr (iEA d ?_ ed));refine oEA (AAP.mp (AAG hq)) λx hx ex=>?_;rcases AA0.mp hx with q|q
 ·exact AAU _ (key k1 (AAP.mpr (iEA x q ex)))
 ·exact AAW _ (key k2 (AAP.mpr (iEA x q ex)))
theorem ZK(H:AR cs)(hg:∀c∈cs,GenCh c)(cl:cs.length<=61)(k1:KL cs p1)(k2:KL cs p2)(h1:Wov (cs.filter λc=>p1 c.1) F1 g1)(h2:Wov (cs.filter λc=>p2 c.1) F2 g2):NoC F1 F2/\UOk F1 F2 (uni (cs.filter λc=>p1 c.1) (cs.filter λc=>p2 c.1) cs):=by
 have i1:∀c,c∈F1↔c∈cs.filter λc=>p1 c.1:=λc=>h1.perm.mem_iff;have i2:∀c,c∈F2↔c∈cs.filter λc=>p2 c.1:=λc=>h2.perm.mem_iff;have m1:=λc hc=>(AA4.mp ((i1 c).mp hc)).1;have m2:=λc hc=>(AA4.mp ((i2 c).mp hc)).1;have hu:=Nr H k1 k2;refine⟨λc1 a c2 b e=>Co H.nd (m1 c1 a) (m2 c2 b) e,H.filter (p:=λn=>decide (n∈nms ((cs.filter λc=>p1 c.1)++cs.filter λc=>p2 c.1))) hu,λc hc=>hg c (AA4.mp hc).1,AAC (AAX _ _) cl,λc=>?_,λn hn=>?_,λn hn=>?_⟩
 ·rw[i1,i2];constructor
  ·intro hc;have hc:=AA4.mp hc;refine oEA (AAP.mp (AAG hc.2)) λx hx ex=>?_;rcases AA0.mp hx with q|q
   ·exact(Co H.nd (AA4.mp q).1 hc.1 ex)▸.inl q
   ·exact(Co H.nd (AA4.mp q).1 hc.1 ex)▸.inr q
  ·rintro(q|q)
   ·exact AA4.mpr ⟨(AA4.mp q).1,AAI (AAZ (AAU _ q))⟩
   ·exact AA4.mpr ⟨(AA4.mp q).1,AAI (AAZ (AAW _ q))⟩
 ·rw[h1.hgt k1 n hn];refine oEA (AAP.mp hn) λc c1 q_2=>?_;subst q_2;exact GG (p:=λn=>decide (n∈nms ((cs.filter λc=>p1 c.1)++cs.filter λc=>p2 c.1))) hu (AAI (AAZ (AAU _ ((i1 c).mp c1))))
 ·rw[h2.hgt k2 n hn];refine oEA (AAP.mp hn) λc c1 q_2=>?_;subst q_2;exact GG (p:=λn=>decide (n∈nms ((cs.filter λc=>p1 c.1)++cs.filter λc=>p2 c.1))) hu (AAI (AAZ (AAW _ ((i2 c).mp c1))))
open PySem.Calls
theorem Qn{h:Heap}(x:h.IsTuple a xs):∃n dd sl,h.get? a=al {cls:=.type "tuple",dict:=dd,data:=.seq xs n,slots:=sl}:=by refine IB x λq_0 ho hc n hd=>?_;obtain⟨c,dd,data,sl⟩:=q_0;simp only at hc hd;subst hc hd;exact FH n dd sl ho
theorem bK(h1:a≠[])(hl:a.length+b.length<=line):Pr2 (binaryOp .Add) (.d (.tuple a)) (.d (.tuple b)) U (.d (.tuple (a++b))) U:=λr g s X Y A hx hy=>by
 refine CD A.has hx rfl (R_:=λX'=>X=X'->r.wp (binaryOp .Add X' Y) (Ans r g (.d (.tuple (a++b))) U) s) (λla ia ha1 ha2 ha3 _ eX=>?_) rfl;refine CD A.has hy rfl (R_:=λY=>r.wp (binaryOp .Add (.ref la) Y) (Ans r g (.d (.tuple (a++b))) U) s) λlb ib hb1 hb2 hb3 _=>NE (Qn ha1) λn1 d1 s1 o1=>NE (Qn hb1) λn2 d2 s2 o2=>?_;rw[AAB] at ha3 hb3;have hne:¬ ia.isEmpty=true:=λq=>h1 (ACD (ha3▸(Array.isEmpty_iff.mp q)▸rfl));by_cases hb:ib.isEmpty=true
 ·have eb:=ACD (by rw[hb3,Array.isEmpty_iff.mp hb];rfl);refine concat_meets ⟨_,o1,rfl⟩ ⟨_,o2,rfl⟩ noFill_tuple_add seq_tuple_add PySem.F.slot_tuple_add PySem.F.entry_tuple_add (PySem.F.args_tuple_add_2 _ _) (PyProof.Rows.tuple_addW1 la lb ia ib n1 n2 d1 d2 s1 s2 hne hb) ⟨o1,o2,?_⟩;rw[eb,AAV];exact .refl A.has (eX▸hx)
 ·refine concat_meets ⟨_,o1,rfl⟩ ⟨_,o2,rfl⟩ noFill_tuple_add seq_tuple_add PySem.F.slot_tuple_add PySem.F.entry_tuple_add (PySem.F.args_tuple_add_2 _ _) (PyProof.Rows.tuple_addW2 la lb ia ib n1 n2 d1 d2 s1 s2 hne hb (ha3▸hb3▸Bd▸hl)) ⟨o1,o2,?_⟩;have hr:=ha2.append hb2;rw[<-AAQ,<-Array.toList_append (xs:=ia)] at hr;exact Md (A.has.keep λb o e=>AAK _ e) (A.has.free (By _)) (AA3 _ rfl) rfl rfl (ZP hr) (AAF▸hl)
theorem dK{C:Cfg}{l1 l2:List (List Nat)}(h1:(ev C.O a).v J U=al (.d (dl l1)))(h2:(ev C.O b).v J U=al (.d (dl l2)))(hl:l1.length+l2.length<=1000):(ev C.O (.B .Add a b)).v J U=al (.d (dl (l1++l2))):=(Ae h1 h2 (GK _ _ (by rw[AAB,AAB];exact AY hl rfl))).trans (by rw[<-AAQ])
theorem YV(e:L=pre++c::post)(hl:L.length<=61):BB (.d (.list (L.map Ch.data))) (vi pre.length) U=al (vc c):=by
 have hp:pre.length<=61:=by rw[e,AAF] at hl;lia
 refine Eg (pre.length:Int) (AB9 _) (by omega) ?_;rw[Int.toNat_natCast,ABI,e,AA6 (AAL _),ADJ];rfl
theorem MO(e:L=pre++c::post)(hl:L.length<=61)(hc:c.2.1.length<=61):∃ls,(ls=c.2.1\/∃x∈nms pre,x∉c.2.1/\ls=Ax (c.2.1++[x]))/\FN 2 92 [.d (.list (L.map Ch.data)),vi pre.length] U (.d (dl ls)) U:=by
 let C:=C0 1;let d:V:=.d (.list (L.map Ch.data));let K:Option V->Am:=λz=>[al d,al (vi pre.length),z]
 have hs:(ev C.O (.slc (.N 0) .nil (.N 1))).v (K az) U=al (.d (.list (pre.map Ch.data))):=by show slice U d az (al (pre.length:Int))=_;rw[Qx (AB9 _) (lml (AY hl rfl)),<-List.map_take,Int.toNat_natCast,e,List.take_left]
 have hb:∀{z},(ev C.O (.aa (.aa (.N 0) (.N 1)) (.i 1))).v (K z) U=al (.d (dl c.2.1)):=λ{z}=>Ad (Ad rfl rfl (YV e hl)) rfl (Dq c);refine Bb (FN.ends (f:=92) (zs:=[d,vi pre.length]) (R:=λv U'=>∃ls,(ls=c.2.1\/∃x∈nms pre,x∉c.2.1/\ls=Ax (c.2.1++[x]))/\v=.d (dl ls)/\U'=U) (hn:=AAL _) (h:=by
  refine MJ vc (λp J U'=>(∃z,J=K z)/\U=U') (Bv hs rfl) (λ_ _ _ _ _ _ m=>nomatch m) ⟨⟨_,rfl⟩,rfl⟩ ?_ ?_
  ·intro p x q J q_u4 ep q_r1;obtain⟨⟨z,rfl⟩,rfl⟩:=q_r1;refine AC (Aj (Ad rfl rfl (AM x)) hb (by rw[IH,Cr];rfl)) (λq=>?_) λ_=>Ab (Ab ⟨⟨_,rfl⟩,rfl⟩);refine AB (AZ (A8 (dK hb (Ku (Ad rfl rfl (AM x))) (l2:=[x.1]) (AY (ABS hc) rfl))) (Dr mm2 ?_)) ⟨_,.inr (Az x.1 (AAZ (ep▸AAW _ (.head _))) (ABG (by rw[<-ACZ];exact q)) rfl),rfl,rfl⟩;exact AAF▸BV (ABS hc) rfl
  ·intro J q_u1 q_r2;obtain⟨⟨z,rfl⟩,rfl⟩:=q_r2;exact AB hb (Az _ (.inl rfl) rfl rfl))) λv U' q_2 h=>?_
 obtain⟨ls,k1,k2,k3⟩:=q_2;rw[k2,k3] at h;exact iEA ls k1 h
theorem GE(m:Option Mk):BH .IsNot (.d (AD m)) (.d .none) U=al (!m.isNone):=by cases m<;>rfl
theorem RO(l:List Nat):slice U (vs l) (al 1) az=al (vs (l.drop 1)):=by
 show al (V.d (.str (IR (al 1) az (Tx l))))=_;have:IR (al 1) az (Tx l)=Tx (l.drop 1):=by
  show(⟨(Dc (al 1) az (Tx l).cps.toList).toArray⟩:Str)=⟨_⟩;rw[show(Tx l).cps.toList=l from rfl];cases l with
  |nil=>rfl
  |cons a l =>
   show(⟨(((a::l).drop (clipAt (l.length+1) 1)).take (l.length+1-clipAt (l.length+1) 1)).toArray⟩:Str)=_;have:clipAt (l.length+1) 1=1:=by unfold clipAt;simp;lia
   rw[this,Nat.add_sub_cancel];exact List.take_length▸rfl
 rw[this]
theorem PP(d:AK)(h:BU d)(cell:Int):∃d':AK,BU d'/\(d'.mark=d.mark\/d'.mark=az)/\(d'.word=Da↔d.word=Da)/\FN 2 93 [.d d.data,vi cell] U (.d d'.data) U:=by
 let C:=C0 1;let K:Am:=[al (.d d.data),al (vi cell)]
 have w:∀{s:String} {k:List Nat},ACG s=Tx k->(ev C.O (.C .Eq (.aa (.N 0) (.i 0)) (.cst (.str (ACG s))))).t K U=al (decide (d.word=k)):=λ{s k} e=>Aj (Ad rfl rfl (BQ d)) (congrArg (λs=>al (V.d (.str s))) e) EQ;have hw:(ev C.O (.aa (.N 0) (.i 0))).v K U=al (vs d.word):=Ad rfl rfl (BQ d);have hm:(ev C.O (.aa (.N 0) (.i 1))).v K U=al (.d (AD d.mark)):=Ad rfl rfl (CM d);refine Bb (FN.ends (f:=93) (zs:=[.d d.data,vi cell]) (R:=λv U'=>∃d':AK,BU d'/\(d'.mark=d.mark\/d'.mark=az)/\(d'.word=Da↔d.word=Da)/\v=.d d'.data/\U'=U) (hn:=AAL _) (h:=by
  by_cases hc:d.word=Gj
  ·obtain⟨m,em⟩:∃m,d.mark=al m:=by
    rcases h.shp with⟨e,_⟩|⟨e,_⟩|⟨_,q⟩
    ·rw[e] at hc;exact absurd hc (by decide)
    ·rw[e] at hc;exact absurd hc (by decide)
    ·exact q
   refine Ij (w Ob) (AAI hc) (AB (Cn (ER rfl hm rfl) rfl) ⟨⟨Ho,d.mark,al []⟩,⟨.inr (.inl ⟨rfl,m,[],em,rfl,by decide,λx hx=>nomatch hx⟩),λq=>absurd q (show Ho≠Gj by decide)⟩,.inl rfl,?_,rfl,rfl⟩);rw[hc];show Ho=Da↔Gj=Da;decide
  ·refine C9 (w Ob) (AAT hc) ?_;obtain⟨l,el,ok⟩:∃l,d.text=al l/\BE l:=by
    rcases h.shp with⟨_,l,q,r⟩|⟨_,m,l,_,q,r⟩|⟨e,_⟩
    ·exact iEA l q r
    ·exact iEA l q r
    ·exact absurd e hc
   have ht:(ev C.O (.aa (.N 0) (.i 2))).v K U=al (vs l):=Ad rfl rfl (El d el);have mk:∀l',BE l'->BU ⟨d.word,d.mark,al l'⟩:=λl' q=>⟨by
    rcases h.shp with⟨e,_⟩|⟨e,m,_,em,_⟩|⟨e,_⟩
    ·exact .inl (cR e l' rfl q)
    ·exact .inr (.inl (PF e m l' em rfl q))
    ·exact absurd e hc,λq=>absurd q hc⟩
   refine AC (BC (Aj (Ae rfl rfl (AW (by decide))) rfl B8) λ_=>Aj (AZ (A8 ht) NU) rfl Lc) (λq=>?_) λ_=>Ab ?_
   ·have q2:=AAG (AAH.mp q).2;have q3:=by exact Int.ofNat_le.mp ‹_›
    refine AB (Cn (ER (z:=vs (l++[33])) hw hm (Ae ht rfl ?_)) rfl) ⟨⟨d.word,d.mark,al (l++[33])⟩,mk _ ⟨by rw[AAF];exact q3,λx hx=>(AA0.mp hx).elim (ok.ok x) λq=>by rw[AAJ.mp q];decide⟩,.inl rfl,Iff.rfl,rfl,rfl⟩;show(if (Tx l).length+(ACG "!").length<=line then al (V.d (.str (Tx l++ACG "!"))) else az)=_;rw[if_pos (show(Tx l).length+(ACG "!").length<=line from AY (show l.length+1<=201 by exact VR q3 rfl) rfl),show ACG "!" = Tx [33] from rfl,Na]
   ·refine AC (BC (w DM) λ_=>Aj hm rfl (GE d.mark)) (λq=>?_) λ_=>Ab ?_
    ·refine AB (Cn (ER rfl rfl ht) rfl) ⟨⟨Da,az,al l⟩,⟨.inl (cR rfl l rfl ok),λq=>absurd q (show Da≠Gj by decide)⟩,.inr rfl,?_,rfl,rfl⟩;rw[(AAG (AAH.mp q).1)]
    ·refine AB (Cn (ER (z:=vs (l.drop 1)) hw hm ?_) rfl) (MD ⟨d.word,d.mark,al (l.drop 1)⟩ (mk _ ⟨AAC (ADI▸Nat.sub_le _ _) ok.len,λx hx=>ok.ok x (AC1 hx)⟩) (.inl rfl) Iff.rfl rfl rfl);show((ev C.O (.aa (.N 0) (.i 2))).v K U).bind (λx=>slice U x (al 1) az)=_;rw[ht];exact RO (U:=U) l)) λv U' q_2 hf=>?_
 obtain⟨d',k0,k1,k2,k3,k4⟩:=q_2;rw[k3,k4] at hf;exact Hv d' k0 k1 k2 hf
theorem Q3{l1 l2:List PyData}(h1:SE n x J U (.d (.list l1)) ag)(h2:SE n y J ag (.d (.list l2)) ak)(hh:l1.length+l2.length<=line):SE n (.B .Add x y) J U (.d (.list (l1++l2))) ak:=by refine SE.frz ?_;rw[AAQ];exact SL.B h1 h2 (Pu rfl rfl (by rw[AAB,AAB];exact hh))
theorem Mj{α:Type}{C:Cfg}(f:α->PyData){l a m b ns:List α}(e:l=a++(m++b))(hl:l.length<=1000)(hn:ns.length<=1000)(hx:(ev C.O x).v J U=al (.d (.list (l.map f))))(hz:BR kx=false)(hk:(ev C.O kx).v J U=al (vi a.length))(hj:j=(m.length:Int))(hd:SE (C.n+3) y J U (.d (.list (ns.map f))) U):SE (C.n+3) (.B .Add (.B .Add (.slc x .nil kx) y) (.slc x (.B .Add kx (.cst (.int j))) .nil)) J U (.d (.list ((a++(ns++b)).map f))) U:=by
 have h0:(l.map f).length<=line:=lml (AY hl rfl);have hab:a.length+(m.length+b.length)<=1000:=by rw[e,AAF,AAF] at hl;exact hl
 have s1:(ev C.O (.slc x .nil kx)).v J U=al (.d (.list (a.map f))):=by
  have q:J9 kx (ev C.O kx).v J U=al (al (a.length:Int)):=by unfold J9;rw[hz,if_neg ABB,hk];rfl
  rw[Tb,hx,bs];show(J9 kx (ev C.O kx).v J U).bind (λh=>slice U (.d (.list (l.map f))) az h)=_;rw[q,bs,Qx (AB9 _) h0,Int.toNat_natCast,<-List.map_take,e,List.take_left]
 have s2:(ev C.O (.slc x (.B .Add kx (.cst (.int j))) .nil)).v J U=al (.d (.list (b.map f))):=by rw[Tb,hx,bs];show(((ev C.O (.B .Add kx (.cst (.int j)))).v J U).bind λv=>(CV v).bind λi=>al (al i)).bind (λh=>slice U (.d (.list (l.map f))) h az)=_;rw[Ae hk rfl iW,hj];show slice U (.d (.list (l.map f))) (al ((a.length+m.length:Nat):Int)) az=_;rw[HT (AB9 _) h0,Int.toNat_natCast,<-AAF,<-List.map_drop,show l=(a++m)++b by rw[e,ABQ],List.drop_left]
 have h:=Q3 (Q3 (C.sv s1) hd (by rw[AAB,AAB];exact AY (show a.length+ns.length<=2000 by omega) rfl)) (C.sv s2) (by rw[AAF,AAB,AAB,AAB];exact AY (show a.length+ns.length+b.length<=3000 by omega) rfl);rw[<-AAQ,<-AAQ,ABQ] at h;exact h
def OM(ds ds':List AK):Prop:=ds'=ds\/(∃a d b m,ds=a++d::b/\d.mark=al m/\0<m.2/\ds'=a++⟨d.word,al (m.1,m.2-1),d.text⟩::b)\/∃a d e b,ds=a++d::e::b/\d.word≠Da/\e.word≠Da/\ds'=a++e::d::b
theorem Jd(e:ds=a++d::b)(hl:ds.length<=61):BB (.d (dds ds)) (vi a.length) U=al (.d d.data):=by
 have hp:a.length<=61:=by rw[e,AAF] at hl;lia
 refine Eg (a.length:Int) (AB9 _) (by omega) ?_;rw[Int.toNat_natCast,ABI,e,AA6 (AAL _),ADJ];rfl
theorem KZ(e:ds=a++d::b)(hl:ds.length<=20):∃ds',OM ds ds'/\FN 2 94 [.d (dds ds),vi a.length] U (.d (dds ds')) U:=by
 let C:=C0 1;let D:V:=.d (dds ds);let J:Am:=[al D,al (vi a.length),al (.d (AD d.mark))]
 have hd:(ev C.O (.aa (.N 0) (.N 1))).v J U=al (.d d.data):=Ad rfl rfl (Jd e (AY hl rfl));refine Bb (FN.ends (C:=C) (f:=94) (zs:=[D,vi a.length]) (U:=U) (R:=λv U'=>∃ds',OM ds ds'/\v=.d (dds ds')/\U'=U) (h:=by
  refine Aw (Ad (Ad rfl rfl (Jd e (AY hl rfl))) rfl (CM d)) ?_;show Al C _ _ J U;have later:∀{r:S},Al C (λfl U'=>∃ds',OM ds ds'/\Ff fl=.d (dds ds')/\U'=U) (.cons (.ret (.N 0)) r) J U:=λ{r}=>AB rfl (Az ds (.inl rfl) rfl rfl);have next:Al C (λfl U'=>∃ds',OM ds ds'/\Ff fl=.d (dds ds')/\U'=U) (S.from 2 HN.body) J U:=by
   have w1:(ev C.O (.C .NotEq (.aa (.aa (.N 0) (.N 1)) (.i 0)) (.s "add"))).t J U=al (!decide (d.word=Da)):=Aj (Ad hd rfl (BQ d)) (congrArg (λs=>al (V.d (.str s))) DM) GA;have w2:(ev C.O (.C .Lt (.B .Add (.N 1) (.i 1)) (.bi .len (.o (.N 0))))).t J U=al (decide ((a.length:Int)+1<(ds.map AK.data).length)):=Aj (Ae rfl rfl rfl) (AZ (A8 rfl) CO) Lc;cases b with
   |nil =>
    refine C9 (MR (s:=false) w1 (λ_=>w2) λ_ q=>?_) ?_ later
    ·have q:=AAG q;rw[AAB,e,AAF] at q;exact absurd q (by show ¬ ((a.length:Int)+1<((a.length+1:Nat):Int));omega)
    ·rw[ADD,ADD]
   |cons e2 b' =>
    have e3:ds=(a++[d])++e2::b':=by rw[e,ABQ];rfl
    have hd2:(ev C.O (.aa (.N 0) (.B .Add (.N 1) (.i 1)))).v J U=al (.d e2.data):=by refine Ad rfl (Ae rfl rfl rfl) ?_;have:=Jd (U:=U) e3 (AY hl rfl);rw[AAF] at this;exact this
    have w3:(ev C.O (.C .NotEq (.aa (.aa (.N 0) (.B .Add (.N 1) (.i 1))) (.i 0)) (.s "add"))).t J U=al (!decide (e2.word=Da)):=Aj (Ad hd2 rfl (BQ e2)) (congrArg (λs=>al (V.d (.str s))) DM) GA;refine AC (MR w1 (λ_=>w2) λ_ _=>w3) (λq=>?_) λ_=>Ab later;have q1:=AAH.mp q;exact Ct (Mj AK.data (m:=[d,e2]) (b:=b') (ns:=[e2,d]) e (AY hl rfl) (dc rfl) rfl rfl rfl rfl (SE.frz (SL.lst (.cons (C.sv hd2) (.cons (C.sv hd) .nil)) (dc rfl)))) (Az _ (.inr (.inr (Ex a d e2 b' e (ABG (by rw[<-ACZ];exact q1.1)) (ABG (by rw[<-ACZ];exact((AAH.mp q1.2).2))) rfl))) rfl rfl)
  cases hm:d.mark with
  |none=>exact Ge (BC (p:=false) (q:=false) (Aj rfl rfl (by rw[GE,hm];rfl)) λq=>nomatch q) next
  |some m =>
   have h2:(ev C.O (.N 2)).v J U=al (.d (AD (al m))):=by show al (V.d (AD d.mark))=_;rw[hm]
   refine AC (BC (Aj h2 rfl (GE (al m))) λ_=>Aj (Ad h2 rfl rfl) rfl rfl) (λq=>?_) λ_=>Ab next
   have q:=AAG q;let d':AK:=⟨d.word,al (m.1,m.2-1),d.text⟩
   have hdeed:SE (C.n+3) (.B .Add (.tup (.t (.aa (.aa (.N 0) (.N 1)) (.i 0)) (.tup (.t (.aa (.N 2) (.i 0)) (.B .Sub (.aa (.N 2) (.i 1)) (.i 1)))))) (.slc (.aa (.N 0) (.N 1)) (.i 2) .nil)) J U (.d d'.data) U:=by
    have hr:∀r:List PyData,(∀x,d.text=x->r=(match x with|none=>[]|some l=>[.str (Tx l)]))->r.length<=1:=λr hr=>by
     rw[hr _ rfl];cases d.text with
     |none=>exact ABF _
     |some l=>exact AAL _
    exact SE.B (y:=.d (.tuple (match d.text with|none=>[]|some l=>[.str (Tx l)]))) (C.sv (Cn (Bg (Ad hd rfl (BQ d)) (Cn (Bg (Ad h2 rfl rfl) (Ae (Ad h2 rfl rfl) rfl rfl)) rfl)) rfl)) (SE.slc (C.sv hd) (.some rfl (.cst _)) .none (iU (dc rfl) (ACK 2 _))) (bK (λq=>nomatch q) (AY (AC7 (hr _ λ_ e=>by rw[e]) 2) rfl))
   exact Ct (Mj AK.data (m:=[d]) (b:=b) (ns:=[d']) e (AY hl rfl) (dc rfl) rfl rfl rfl rfl (SE.frz (SL.lst (.cons hdeed .nil) (dc rfl)))) (Az _ (.inr (.inl (Ex a d b m e hm q rfl))) rfl rfl))) λv U' q_2 h=>?_
 obtain⟨ds',k1,k2,k3⟩:=q_2;rw[k2,k3] at h;exact iEA ds' k1 h
theorem FP:∀a b:List AK,adds (a++b)=adds a+adds b
 |[],b=>(AC2 _).symm
 |d::a,b=>by show(if AF d then 1 else 0)+adds (a++b)=(if AF d then 1 else 0)+adds a+adds b;rw[FP a b,ADK]
theorem HF:∀(a b:List AK) (k:Nat),DOk nm ms (a++b) k↔DOk nm ms a k/\DOk nm ms b (k+adds a)
 |[],b,k=>⟨λh=>⟨trivial,h⟩,λh=>h.2⟩
 |d::a,b,k=>by show(_/\DOk nm ms (a++b) (if AF d then k+1 else k))↔(_/\DOk nm ms a (if AF d then k+1 else k))/\DOk nm ms b (k+((if AF d then 1 else 0)+adds a));rw[HF a b,and_assoc,show(if AF d then k+1 else k)+adds a=k+((if AF d then 1 else 0)+adds a) by split<;>omega]
theorem Kv(hm:∀m∈ms,m∈ms'):∀(a:List AK) (k:Nat),DOk nm ms a k->DOk nm ms' a k
 |[],_,_=>trivial
 |d::a,k,h=>⟨λm e=>(h.1 m e).imp (hm m) id,Kv hm a _ h.2⟩
theorem Rv(h:DOk nm ms (a++d::b) 0)(ha:AF d'=AF d)(hm:∀k:Nat,(∀m,d.mark=al m->m∈ms\/(m.1=nm/\0<=m.2/\m.2<(k:Int)))->∀m,d'.mark=al m->m∈ms\/(m.1=nm/\0<=m.2/\m.2<(k:Int))):DOk nm ms (a++d'::b) 0/\adds (a++d'::b)=adds (a++d::b):=by
 have h:=(HF a _ 0).mp h;refine⟨(HF a _ 0).mpr ⟨h.1,hm _ h.2.1,?_⟩,?_⟩
 ·exact ha▸h.2.2
 ·rw[FP,FP];show adds a+((if AF d' then 1 else 0)+adds b)=adds a+((if AF d then 1 else 0)+adds b);rw[ha]
theorem dL(h:DOk nm ms ds 0)(o:OM ds ds')(hd:∀m∈ms,0<m.2->(m.1,m.2-1)∈ms):DOk nm ms ds' 0/\adds ds'=adds ds:=by
 rcases o with rfl|⟨a,d,b,m,rfl,em,hp,rfl⟩|⟨a,d,e,b,rfl,h1,h2,rfl⟩
 ·exact⟨h,rfl⟩
 ·exact Rv h rfl λk hk m' e=>(AAA e)▸(hk m em).imp (λq=>hd m q hp) λq=>⟨q.1,by show 0<=m.2-1;omega,by show m.2-1<_;have:=q.2.2;omega⟩
 ·have i1:AF d=false:=AAT h1;have i2:AF e=false:=AAT h2;have h:=(HF a _ 0).mp h;have h3:=h.2;refine⟨(HF a _ 0).mpr ⟨h.1,?_⟩,?_⟩
  ·unfold DOk at h3 ⊢;have h4:=h3.2;unfold DOk at h4;rw[i1] at h4;rw[i2];refine⟨h4.1,?_⟩;unfold DOk;rw[i1];rw[i2] at h4;exact⟨h3.1,h4.2⟩
  ·rw[FP,FP];show adds a+((if AF e then 1 else 0)+((if AF d then 1 else 0)+adds b))=adds a+((if AF d then 1 else 0)+((if AF e then 1 else 0)+adds b));rw[i1,i2]
theorem Cz:m∈C6 pre ls↔∃y∈pre,y.1∈ls/\m∈Hg y.1 0 (adds y.2.2):=by
 unfold C6;rw[List.mem_flatMap];constructor
 ·intro q_r1;refine oEA q_r1 λy h1 h2=>?_;have h1:=AA4.mp h1;exact Az y h1.1 (AAG h1.2) h2
 ·intro q_r2;exact AS q_r2 λy h1 h2 h3=>iEA y (AA4.mpr ⟨h1,AAI h2⟩) h3
theorem NS(h:m∈C6 pre ls)(hp:0<m.2):(m.1,m.2-1)∈C6 pre ls:=by
 refine AS (Cz.mp h) λy h1 h2 h3=>?_;have h3:=DJ.mp h3;refine Cz.mpr (Az y h1 h2 (DJ.mpr ⟨h3.1,?_,?_⟩))
 ·show((0:Nat):Int)<=m.2-1;omega
 ·show m.2-1<_;have:=h3.2.2;omega
theorem Yg(H:AR (pre++c::post))(hn:c'.1=c.1)(hl:∀l∈c'.2.1,l∈nms pre)(hd:DOk c'.1 (C6 pre c'.2.1) c'.2.2 0)(ha:adds c.2.2<=adds c'.2.2):AR (pre++c'::post):=by
 have hnm:∀t:List Ch,(pre++c'::t).map (·.1)=(pre++c::t).map (·.1):=λt=>by rw[AAQ,AAQ,ABP,ABP,hn]
 refine⟨by rw[hnm];exact H.nd,λp1 x q1 e=>?_⟩;rcases List.append_eq_append_iff.mp e with⟨t,e1,e2⟩|⟨t,e1,e2⟩
 ·cases t with
  |nil =>
   rw[AAV] at e1;injection e2 with e3 e4
   exact e1▸e3▸⟨hl,hd⟩
  |cons y t =>
   injection e2 with e3 e4
   subst e3;have h:=H.ok (pre++c::t) x q1 (by rw[e4,ABQ];rfl);rw[e1];refine⟨λl q=>by rw[hnm];exact h.1 l q,Kv (λm hm=>?_) _ _ h.2⟩;refine AS (Cz.mp hm) λy h1 h2 h3=>?_;rcases AA0.mp h1 with q|q
   ·exact Cz.mpr (Az y (AAU _ q) h2 h3)
   ·rcases AAR.mp q with q|q
    ·rw[q] at h2 h3;have h3:=DJ.mp h3;exact Cz.mpr (Az c' (AAW _ (.head _)) (by rw[hn];exact h2) (DJ.mpr ⟨by rw[hn];exact h3.1,h3.2.1,by have:=h3.2.2;omega⟩))
    ·exact Cz.mpr (Az y (AAW _ (.tail _ q)) h2 h3)
 ·cases t with
  |nil =>
   rw[AAV] at e1;injection e2 with e3 e4
   exact e1▸e3▸⟨hl,hd⟩
  |cons y t =>
   injection e2 with e3 e4
   subst e3;exact H.ok p1 x (t++c::post) (by rw[e1,ABQ];rfl)
structure DB(pre:List Ch)(c:Ch)(ls:List (List Nat))(ds:List AK):Prop where
 lin:∀l∈ls,l∈nms pre
 few:ls.length<=61
 rise:ls.Pairwise (· < ·)
 len:ds.length<=20
 ok:∀d∈ds,BU d
 dok:DOk c.1 (C6 pre ls) ds 0
 add:adds c.2.2<=adds ds
theorem DB.start(H:AR (pre++c::post))(g:GenCh c):DB pre c c.2.1 c.2.2 :=
 ⟨(H.ok pre c post rfl).1,g.few,g.rise,g.deeds,g.ok,(H.ok pre c post rfl).2,AAL _⟩
theorem DB.done(H:AR (pre++c::post))(g:GenCh c)(a:DB pre c ls ds):GenCh (c.1,ls,ds)/\AR (pre++(c.1,ls,ds)::post) :=
 ⟨⟨g.name,a.few,a.rise,a.len,a.ok⟩,Yg H rfl a.lin a.dok a.add⟩
theorem DB.more(a:DB pre c ls ds)(h:ds.length<20):DB pre c ls (ds++[⟨Da,az,al []⟩]) :=
 ⟨a.lin,a.few,a.rise,by rw[AAF];exact h,λd hd=>(AA0.mp hd).elim (a.ok d) λq=>by rw[AAJ.mp q];exact⟨.inl ⟨rfl,[],rfl,by decide,Ah⟩,λq=>absurd q (by decide)⟩,KJ ds 0 a.dok (λm q=>nomatch q),by rw[Dp];exact AAC a.add (AA9 _ _)⟩
theorem DB.lean(a:DB pre c ls ds)(hx:x∈nms pre)(hn:x∉ls)(hp:pre.length<=60):DB pre c (Ax (ls++[x])) ds:=by
 have nd:(ls++[x]).Nodup:=ABW.mpr ⟨List.Pairwise.imp (λ{y z} h (e:y=z)=>List.lt_irrefl z (e▸h)) a.rise,ABX.mpr ⟨(λh=>nomatch h),ABY⟩,λy hy z hz e=>hn ((AAJ.mp hz)▸e▸hy)⟩;have sub:=λl hl=>(AA0.mp hl).elim (a.lin l) λq=>by rw[AAJ.mp q];exact hx
 have hl:=G7 _ _ nd sub;rw[AAB] at hl;refine⟨λl hl=>sub l ((Af _).mem_iff.mp hl),by rw[(Af _).length_eq];exact AAC hl (AB4 hp),BM _ nd,a.len,a.ok,Kv (λm hm=>?_) _ _ a.dok,a.add⟩;exact AS (Cz.mp hm) λy h1 h2 h3=>Cz.mpr (Az y h1 ((Af _).mem_iff.mpr (AAU _ h2)) h3)
theorem DB.deed(a:DB pre c ls (p++d::q))(h:BU d')(hm:d'.mark=d.mark\/d'.mark=az)(hw:d'.word=Da↔d.word=Da):DB pre c ls (p++d'::q):=by
 obtain⟨h1,h2⟩:=Rv a.dok (decide_eq_decide.mpr hw) λk hk m e=>hm.elim (λq=>hk m (q▸e)) λq=>by rw[q] at e;exact nomatch e
 refine⟨a.lin,a.few,a.rise,?_,λx hx=>?_,h1,h2▸a.add⟩
 ·have:=a.len;rw[AAF] at this ⊢;exact this
 ·rcases AA0.mp hx with r|r
  ·exact a.ok x (AAU _ r)
  ·rcases AAR.mp r with r|r
   ·exact r▸h
   ·exact a.ok x (AAW _ (.tail _ r))
theorem DB.om(a:DB pre c ls ds)(o:OM ds ds'):DB pre c ls ds':=by
 refine oA (dL a.dok o λm hm hp=>NS hm hp) λh1 h2=>?_;have h3:ds'.length=ds.length/\∀d∈ds',BU d:=by
  rcases o with rfl|⟨p,d,q,m,rfl,em,hp,rfl⟩|⟨p,d,e,q,rfl,_,_,rfl⟩
  ·exact⟨rfl,a.ok⟩
  ·refine⟨by rw[AAF,AAF];rfl,λx hx=>?_⟩;have hd:=a.ok d (AAW _ (.head _));rcases AA0.mp hx with r|r
   ·exact a.ok x (AAU _ r)
   ·rcases AAR.mp r with r|r
    ·rw[r];refine⟨?_,hd.ctx⟩;rcases hd.shp with⟨e,l,k⟩|⟨e,_,l,_,k⟩|⟨e,_⟩
     ·exact .inl ⟨e,l,k⟩
     ·exact .inr (.inl ⟨e,_,l,rfl,k⟩)
     ·exact .inr (.inr ⟨e,_,rfl⟩)
    ·exact a.ok x (AAW _ (.tail _ r))
  ·refine⟨by rw[AAF,AAF];rfl,λx hx=>a.ok x ?_⟩;rcases AA0.mp hx with r|r
   ·exact AAU _ r
   ·refine AAW _ ?_;rcases AAR.mp r with r|r
    ·exact r▸.tail _ (.head _)
    ·rcases AAR.mp r with r|r
     ·exact r▸.head _
     ·exact .tail _ (.tail _ r)
 exact⟨a.lin,a.few,a.rise,by rw[h3.1];exact a.len,h3.2,h1,by rw[h2];exact a.add⟩
theorem V4{α:Type}{l:List α}{i:Int}(h0:0<=i)(h1:i<l.length):∃a d b,l=a++d::b/\i=(a.length:Int):=by refine oE (Int.eq_ofNat_of_zero_le h0) λk q_1=>?_;subst q_1;have hk:=Int.ofNat_lt.mp h1;exact Og (l.take k) (l[k]) (l.drop (k+1)) (by rw[<-List.drop_eq_getElem_cons hk,List.take_append_drop]) (by rw[ACT,ACP (ACJ hk)])
section
variable{L pre post:List Ch}{c:Ch}
theorem Op(e:L=pre++c::post)(H:AR L)(hg:∀c∈L,GenCh c)(hl:L.length<=61){cell:Int}(hat:cell.fmod (L.length:Int)=pre.length):∃c':Ch,c'.1=c.1/\GenCh c'/\AR (pre++c'::post)/\FN 3 95 [.d (.list (L.map Ch.data)),vi cell] U (.d (.list ((pre++c'::post).map Ch.data))) U:=by
 let C:=C0 2;let D:V:=.d (.list (L.map Ch.data));have hc:c∈L:=by rw[e];exact AAW _ (.head _)
 have g:=hg c hc;have hpl:pre.length<=60:=by rw[e,AAF,AA2] at hl;lia
 let way:Int:=(cell.fdiv 60).fmod 5;let K:List (List Nat)->List AK->Option V->Am:=λls ds z=>[al D,al (vi cell),al (vi pre.length),al (vs c.1),al (.d (dl ls)),al (.d (dds ds)),al (vi way),z]
 refine Bb (FN.ends (C:=C) (f:=95) (zs:=[D,vi cell]) (R:=λv U'=>∃ls ds,DB pre c ls ds/\v=.d (.list ((pre++(c.1,ls,ds)::post).map Ch.data))/\U'=U) (h:=by
  have hlen:(ev C.O (.bi .len (.o (.N 0)))).v [al D,al (vi cell),az,az,az,az,az,az] U=al (vi L.length):=(AZ (A8 rfl) CO).trans (by rw[AAB]);have hL0:(L.length:Int)≠0:=by rw[e,AAF,AA2];exact ZA
  refine Aw ((Ae rfl hlen (AW hL0)).trans (by rw[hat])) (PG (C.sv (Ad rfl rfl (YV e hl))) (λ{K ex} hc ts k p env=>hc (λex=>swappedStores [.Tuple ts k p] ex env=pure az) (by intros;rfl)) rfl rfl ?_);have hcut:∀{ls ds z},(!(ds.map AK.data).isEmpty)=true->∃p d s,ds=p++d::s/\(ev C.O (.B .Mod (.B .FloorDiv (.N 1) (.i 300)) (.bi .len (.o (.N 5))))).v (K ls ds z) U=al (vi p.length):=λ{ls ds z} q=>by
   have hp:0<ds.length:=by
    cases ds with
    |nil=>exact ff_ q
    |cons _ _=>exact AC3 _
   have hm:=Ba (cell.fdiv 300) (show(0:Int)<ds.length by exact Int.ofNat_le.mpr ‹_›);obtain⟨p,d,s,e1,e2⟩:=V4 hm.1 hm.2;exact Og p d s e1 (e2▸(Ae (Ae rfl rfl (CC (by decide))) (AZ (A8 rfl) CO) (AW (by rw[AAB];exact RD hp))).trans (by rw[AAB]))
  let P:Fl->Ac->Prop:=λfl U'=>∃ls ds,DB pre c ls ds/\Ff fl=.d (.list ((pre++(c.1,ls,ds)::post).map Ch.data))/\U'=U;have k4:∀{ls ds z},DB pre c ls ds->Al C P (S.from 7 FS.body) (K ls ds z) U:=λ{ls ds z} a=>Ct (Mj Ch.data (m:=[c]) (b:=post) (ns:=[(c.1,ls,ds)]) e (AY hl rfl) (dc rfl) rfl rfl rfl rfl (SE.frz (SL.lst (.cons (C.sv (Cn (ER rfl rfl rfl) rfl)) .nil) (dc rfl)))) (Gw ls ds a rfl rfl);have k3:∀{ls ds z},DB pre c ls ds->Al C P (S.from 6 FS.body) (K ls ds z) U:=λ{ls ds z} a=>by refine AC (BC (Aj rfl rfl MV) λ_=>rfl) (λq=>?_) λ_=>Ab (k4 a);obtain⟨p,d,s,rfl,hk⟩:=hcut (AAH.mp q).2;exact oEA (KZ rfl a.len) λds' o hf=>AU rfl (.F (C.sr (Bg rfl hk)) (hf.more (dc rfl))) (Ab (k4 (a.om o)))
  have k2:∀{ls ds z},DB pre c ls ds->Al C P (S.from 5 FS.body) (K ls ds z) U:=λ{ls ds z} a=>by refine AC (BC (Aj rfl rfl B8) λ_=>rfl) (λq=>?_) λ_=>Ab (k3 a);obtain⟨p,d,s,rfl,hk⟩:=hcut (AAH.mp q).2;exact Aw hk (Lw (PP d (a.ok d (AAW _ (.head _))) (cell.fdiv 6000)) λd' k0 k1 k2 hf=>AU rfl (Mj AK.data (m:=[d]) (b:=s) (ns:=[d']) rfl (AY a.len rfl) (dc rfl) rfl rfl rfl rfl (SE.frz (SL.lst (.cons (.F (C.sr (Bg (Ad rfl rfl (Jd rfl (AY a.len rfl))) (Ae rfl rfl (CC (by decide))))) (hf.more (dc rfl))) .nil) (dc rfl)))) (Ab (k3 (a.deed k0 k1 k2))))
  have k1:∀{ds z},DB pre c c.2.1 ds->Al C P (S.from 4 FS.body) (K c.2.1 ds z) U:=λ{ds z} a=>by
   refine AC (Aj rfl rfl B8) (λq=>?_) λ_=>Ab (k2 a);obtain⟨ls,hls,hf⟩:=MO e hl g.few;refine AU rfl (.F (C.sr (Bg rfl rfl)) (hf.more (dc rfl))) (Ab (k2 ?_));rcases hls with rfl|⟨x,hx,hn,rfl⟩
   ·exact a
   ·exact a.lean hx hn hpl
  have a0:=DB.start (e▸H) g;refine Aw (Ae (Ae rfl rfl (CC (by decide))) rfl (AW (by decide))) (AC (BC (Aj rfl rfl B8) λ_=>Aj (AZ (A8 rfl) CO) rfl Lc) (λq=>?_) λ_=>Ab (k1 a0));have q2:=AAG (AAH.mp q).2;rw[AAB] at q2;have q3:=Int.ofNat_le.mp q2;exact Aw ((Ae (y:=.d (dds [⟨Da,az,al []⟩])) rfl rfl (GK _ _ (lmt (AY (Nat.succ_le_of_lt q3) rfl)))).trans (by rw[<-AAQ])) (Ab (k1 (a0.more q3))))) λv U' q_2 h=>?_
 obtain⟨ls,ds,k1,k2,k3⟩:=q_2;refine oA (DB.done (e▸H) g k1) λd1 d2=>?_;rw[k2,k3] at h;exact Hv (c.1,ls,ds) rfl d1 d2 h
theorem PO(H:AR L)(hg:∀c∈L,GenCh c)(hl:L.length<=61)(hne:L≠[])(cell:Int):∃pre c post c',L=pre++c::post/\c'.1=c.1/\GenCh c'/\AR (pre++c'::post)/\FN 3 95 [.d (.list (L.map Ch.data)),vi cell] U (.d (.list ((pre++c'::post).map Ch.data))) U:=by
 have hp:(0:Int)<L.length:=by
  cases L with
  |nil=>exact absurd rfl hne
  |cons _ _=>rw[AA2];exact Z9
 have hm:=Ba cell hp;exact Cy (V4 hm.1 hm.2) λpre c post e1 e2=>Lw (Op e1 H hg hl e2) λc' h1 h2 h3 h4=>⟨pre,c,post,c',e1,h1,h2,h3,h4⟩
end
theorem UK(c:Ch):∀cs:List Ch,∃r,inD c.data (cs.map Ch.data)=al r/\(r=true↔c∈cs)
 |[]=>⟨false,rfl,ff_,(λq=>nomatch q)⟩
 |x::cs=>by
  refine oEA (PT 36 x c) λr h1 h2=>oEA (UK c cs) λr' h3 h4=>(iEA (r||r') ?_ ?_)
  ·show(eqN AQ x.data c.data).bind (λa=>(inD c.data (cs.map Ch.data)).bind λb=>al (a||b))=_;exact h1▸h3▸rfl
  ·rw[ABC,h2,h4,AAR,eq_comm]
noncomputable def TX(cs:List Ch)(c:Ch):Bool:=@decide (c∉cs) (ACI _)
theorem JG:TX cs c=true↔c∉cs:=@AB8 _ (ACI _)
theorem WV(c:Ch)(cs:List Ch):BH .NotIn (vc c) (.d (.list (cs.map Ch.data))) U=al (TX cs c):=by refine oEA (UK c cs) λr h1 h2=>?_;show Ib (inD c.data (cs.map Ch.data))=_;rw[h1];show al (!r)=_;congr 1;exact Bool.eq_iff_iff.mpr (by rw[JG,<-h2];cases r<;>decide)
theorem dI(a b:List Ch):∃r,BH .Eq (.d (.list (a.map Ch.data))) (.d (.list (b.map Ch.data))) U=al r/\(r=true↔a=b):=Kp (PT 35) a b
section
variable{cs:List Ch}{p:List Nat->Bool}
theorem Lh(h:∀c∈cs,c.1∈nms (a++b)↔c.1∈nms (a'++b')):uni a b cs=uni a' b' cs:=List.filter_congr λc hc=>decide_eq_decide.mpr (h c hc)
theorem EF:n∈nms (a++b)↔n∈nms a\/n∈nms b:=by rw[nms,AAQ,AA0]
theorem QG(hc:c∈cs):c.1∈nms (uni a b cs)↔c.1∈nms (a++b):=by
 constructor
 ·intro h;exact oEA (AAP.mp h) λd d1 d2=>d2▸AAG (AA4.mp d1).2
 ·exactλh=>AAZ (AA4.mpr ⟨hc,AAI h⟩)
theorem Tc:uni a b cs=uni b a cs:=Lh λc _=>by rw[EF,EF,or_comm]
theorem RL:uni a (uni b r cs) cs=uni (uni a b cs) r cs:=Lh λc hc=>by rw[EF,EF,QG hc,QG hc,EF,EF,or_assoc]
theorem JF(hc:c∈cs):c.1∈nms (cs.filter λc=>p c.1)↔p c.1=true:=by
 constructor
 ·intro h;exact oEA (AAP.mp h) λd d1 d2=>d2▸(AA4.mp d1).2
 ·exactλh=>AAZ (AA4.mpr ⟨hc,h⟩)
theorem Nq(hn:nms a=nms (cs.filter λc=>p c.1))(h:∀n∈nms b,n∈nms a):uni a b cs=cs.filter λc=>p c.1:=by
 refine List.filter_congr λc hc=>Bool.eq_iff_iff.mpr ?_;rw[AB8,EF];constructor
 ·exactλq=>(JF hc).mp (hn▸q.elim id (h _))
 ·exactλq=>.inl (hn▸(JF hc).mpr q)
end
def Part(cs r:List Ch):Prop:=∃p,KL cs p/\r=cs.filter λc=>p c.1
def Alt(r r':List Ch):Prop:=r'=r\/∃pre c post c',r=pre++c::post/\c'.1=c.1/\r'=pre++c'::post
theorem Alt.nms(h:Alt r r'):Mine.Internal.nms r'=Mine.Internal.nms r:=by
 rcases h with rfl|⟨pre,c,post,c',rfl,e,rfl⟩
 ·rfl
 ·show List.map _ _=List.map _ _;rw[AAQ,AAQ,ABP,ABP,e]
theorem Part.sub(h:Part cs r)(hc:c∈r):c∈cs:=by refine oEA h λp _ q_2=>?_;subst q_2;exact(AA4.mp hc).1
theorem Part.uni(h:Part cs r)(ha:Alt r r')(e:r'=Mine.Internal.uni r' [] cs):r'=r:=by refine oEA h λp _ q_2=>?_;subst q_2;exact e▸(Nq ha.nms λn hn=>nomatch hn)
theorem Alt.new(nd:(Mine.Internal.nms cs).Nodup)(h0:Part cs r0)(h:Part cs r)(ha:Alt r r')(hN:¬ NoC r0 r'):∃pre c post c',r=pre++c::post/\c'.1=c.1/\r'=pre++c'::post/\c'∉cs:=by
 have key:∀x,(∀c∈x,c∈cs)->NoC r0 x:=λx hx c1 h1 c2 h2 e=>Co nd (h0.sub h1) (hx c2 h2) e;rcases ha with rfl|⟨pre,c,post,c',rfl,e,rfl⟩
 ·exact absurd (key _ λc=>h.sub) hN
 ·refine(Ex pre c post c' rfl e rfl (λhc=>hN (key _ λx hx=>?_)));rcases AA0.mp hx with q|q
  ·exact h.sub (AAU _ q)
  ·rcases AAR.mp q with q|q
   ·exact q▸hc
   ·exact h.sub (AAW _ (.tail _ q))
theorem WW(h:∀x∈pre++c::post,x∈cs)(hn:c'∉cs):(pre++c'::post).filter (TX cs)=[c']:=by
 have no:∀l:List Ch,(∀x∈l,x∈cs)->l.filter (TX cs)=[]:=λl hl=>List.filter_eq_nil_iff.mpr λx hx q=>(JG.mp q) (hl x hx)
 rw[ABN,ADQ (JG.mpr hn),no pre λx hx=>h x (AAU _ hx),no post λx hx=>h x (AAW _ (.tail _ hx))];rfl
theorem VV(e:(cs.filter λx=>p x.1)=pre++c::post)(hn:c'.1=c.1)(hq:q c.1=false)(k1:KL cs p)(k:KL (pre++c'::post) q):((pre++c'::post).filter λx=>q x.1)=(cs.filter λx=>(p x.1&&q x.1))/\KL cs λn=>p n&&q n:=by
 have h1:(pre++c'::post).filter (λx=>q x.1)=(pre++c::post).filter λx=>q x.1:=by rw[ABN,ABN,List.filter_cons_of_neg (hn▸hq▸ABB),List.filter_cons_of_neg (hq▸ABB)]
 refine⟨?_,λx hx h l hl=>?_⟩
 ·rw[h1,<-e,AB2];exact List.filter_congr λx _=>Bool.and_comm _ _
 ·have h:=AAH.mp h;have hm:x∈pre++c::post:=by rw[<-e];exact AA4.mpr ⟨hx,h.1⟩
  have hm':x∈pre++c'::post:=by
   rcases AA0.mp hm with r|r
   ·exact AAU _ r
   ·rcases AAR.mp r with r|r
    ·rw[r,hq] at h;exact ff_ h.2
    ·exact AAW _ (.tail _ r)
  exact AAH.mpr ⟨k1 x hx h.1 l hl,k x hm' h.2 l hl⟩
theorem Q1{α:Type}{l:List α}{x y:α}:(l++[x]).set l.length y=l++[y]:=by rw[List.set_append_right _ _ (AAL _),ADJ];rfl
theorem ML{α:Type}{l:List α}{x:α}:(l++[x])[l.length]? = al x:=by rw[AA6 (AAL _),ADJ];rfl
theorem N0(h:SE n (.F f a) J U (vb t) U'):ST n (.not (.F f a)) J U (!t) U':=.not (ST.plain (λhc=>Fo (.F f a) rfl hc) h (CL rfl))
theorem Ll(h:SE n (.F f a) J U (vb true) U'):ST n (.not (.F f a)) J U false U':=N0 h
theorem Pl(h1:ST n a J U false ag)(h2:ST n b J ag false ak):ST n (.P .Or (.t a b)) J U false ak:=.P (.cons h1 ff_ λ_=>.cons h2 ff_ λ_=>.nil)
section
variable{F G:List Ch}{gs gs':Gsg}{U τ τ':Ac}
theorem FN.wv2{d:PyData}{zs:List V}(h:FN n f (self::zs) (W F gs (hts [] F)) (.d d) (W G gs' (hts [] G)))(hz:∀z,z∈zs->low 0 z)(hb:τ.length=b):FN n f (ob b::zs) (τ++(W F gs (hts [] F)++τ')) (.d d) (τ++(W G gs' (hts [] G)++τ')):=FA.at h rfl rfl hz GB GB hb
theorem WAt.app(w:WAt F gs b U):WAt F gs b (U++τ):=λn f zs d h hz τ'=>by rw[ABQ];exact w n f zs d h hz _
theorem WAt.fn{d:PyData}{zs:List V}(w:WAt F gs b U)(h:FN n f (self::zs) (W F gs (hts [] F)) (.d d) (W F gs (hts [] F)))(hz:∀z,z∈zs->low 0 z):FN n f (ob b::zs) U (.d d) U:=by have:=w n f zs d h hz [];rw[AAV] at this;exact this
theorem WAt.new:WAt G gs U.length (U++W G gs (hts [] G)):=by have:=WAt.of (F:=G) (gs:=gs) (τ:=U) (τ':=[]) rfl;rw[AAV] at this;exact this
end
section
variable{cs cs1 cs2 F1 F2 aa r1 r2:List Ch}{g1 g2:Gsg}{ag:Ac}{C:Cfg}
theorem HX(hC:8<=C.n)(h1:Wov cs1 F1 g1)(h2:Wov cs2 F2 g2)(hr:SEs (C.n+3) r J U [ob b1,ob b2] ag)(w1:WAt F1 g1 b1 ag)(w2:WAt F2 g2 b2 ag)(u:NoC F1 F2/\UOk F1 F2 aa):∃G gs' τ',Wov aa G gs'/\SE (C.n+3) (.F 90 r) J U (ob (ag++τ').length) (ag++τ'++W G gs' (hts [] G)):=by refine CY (S8 h1 h2 w1 w2 u.1 u.2) λG gs' τ' hG hl hf=>?_;rw[show ag.length+2=(ag++τ').length by rw[AAF,hl]] at hf;exact Og G gs' τ' hG (.F hr (hf.more hC))
theorem Fs(hC:8<=C.n)(h1:Wov cs1 F1 g1)(h2:Wov cs2 F2 g2)(hr:SEs (C.n+3) r J U [ob b1,ob b2] ag)(w1:WAt F1 g1 b1 ag)(w2:WAt F2 g2 b2 ag)(u:NoC F1 F2/\UOk F1 F2 aa)(hx:∀τ,(ev C.O x).v J (ag++τ)=al (.d (.list (aa.map Ch.data)))):∃τ',ST (C.n+3) (.not (.F 26 (.t (.F 90 r) x))) J U false (ag++τ'):=by
 refine Cy (HX hC h1 h2 hr w1 w2 u) λG gs' τ' hG hj=>⟨τ'++W G gs' (hts [] G),?_⟩
 rw[<-ABQ];exact Ll (.F (.cons hj (.cons (C.sv (by rw[ABQ];exact hx _)) .nil)) ((WAt.new.fn (Gg hG) (af trivial Ah)).more hC))
theorem NA(H:AR cs)(hg:∀c∈cs,GenCh c)(cl:cs.length<=61)(k1:Part cs r1)(k2:Part cs r2)(h1:Wov r1 F1 g1)(h2:Wov r2 F2 g2):NoC F1 F2/\UOk F1 F2 (uni r1 r2 cs):=by obtain⟨p1,k1,rfl⟩:=k1;obtain⟨p2,k2,rfl⟩:=k2;exact ZK H hg cl k1 k2 h1 h2
theorem Part.join(H:AR cs)(k1:Part cs r1)(k2:Part cs r2):Part cs (Mine.Internal.uni r1 r2 cs):=by obtain⟨p1,k1,rfl⟩:=k1;obtain⟨p2,k2,rfl⟩:=k2;exact⟨_,Nr H k1 k2,rfl⟩
theorem Part.twice(k:Part cs r):Mine.Internal.uni r r cs=r:=by refine oEA k λp _ q_2=>?_;subst q_2;exact Nq rfl λn hn=>hn
end
noncomputable abbrev rV(r:List Ch):V:=.d (.list (r.map Ch.data))
noncomputable abbrev J12(r0 r1 r2 F0 F1 F2:List Ch)(g0 g1 g2:Gsg)(τ:Ac):Ac:=.list [rV r0,rV r1,rV r2]::.list [ob 2,ob 5,ob 8]::(W F0 g0 (hts [] F0)++(W F1 g1 (hts [] F1)++(W F2 g2 (hts [] F2)++τ)))
structure Jx(r0 r1 r2 F0 F1 F2:List Ch)(g0 g1 g2:Gsg)(U:Ac):Prop where
 rs:U[0]? = al (.list [rV r0,rV r1,rV r2])
 ws:U[1]? = al (.list [ob 2,ob 5,ob 8])
 w0:WAt F0 g0 2 U
 w1:WAt F1 g1 5 U
 w2:WAt F2 g2 8 U
theorem Jx.app(h:Jx r0 r1 r2 F0 F1 F2 g0 g1 g2 U):Jx r0 r1 r2 F0 F1 F2 g0 g1 g2 (U++τ):=⟨CH h.rs,CH h.ws,h.w0.app,h.w1.app,h.w2.app⟩
theorem Jx.of:Jx r0 r1 r2 F0 F1 F2 g0 g1 g2 (J12 r0 r1 r2 F0 F1 F2 g0 g1 g2 τ) :=
 ⟨rfl,rfl,WAt.of (τ:=[.list [rV r0,rV r1,rV r2],.list [ob 2,ob 5,ob 8]]) rfl,WAt.of (τ:=.list [rV r0,rV r1,rV r2]::.list [ob 2,ob 5,ob 8]::W F0 g0 (hts [] F0)) rfl,WAt.of (τ:=.list [rV r0,rV r1,rV r2]::.list [ob 2,ob 5,ob 8]::(W F0 g0 (hts [] F0)++W F1 g1 (hts [] F1))) rfl⟩
theorem Jx.row{C:Cfg}(h:Jx r0 r1 r2 F0 F1 F2 g0 g1 g2 U)(i:Int)(h0:0<=i)(h1:i<3)(ha:(ev C.O a).v J U=al (.ref 0))(hb:(ev C.O b).v J U=al (vi i))(he:[rV r0,rV r1,rV r2][i.toNat]? = al v):(ev C.O (.aa a b)).v J U=al v:=Ad ha hb (K8 i h0 (IJ h1 rfl) h.rs he)
theorem Jx.wv{C:Cfg}(h:Jx r0 r1 r2 F0 F1 F2 g0 g1 g2 U)(i:Int)(h0:0<=i)(h1:i<3)(ha:(ev C.O a).v J U=al (.ref 1))(hb:(ev C.O b).v J U=al (vi i))(he:[ob 2,ob 5,ob 8][i.toNat]? = al v):(ev C.O (.aa a b)).v J U=al v:=Ad ha hb (K8 i h0 (IJ h1 rfl) h.ws he)
structure J3(cs r0 r1 r2 F0 F1 F2:List Ch)(g0 g1 g2:Gsg):Prop where
 H:AR cs
 gen:∀c∈cs,GenCh c
 len:cs.length<=60
 P0:Part cs r0
 P1:Part cs r1
 P2:Part cs r2
 h0:Wov r0 F0 g0
 h1:Wov r1 F1 g1
 h2:Wov r2 F2 g2
section
variable{cs r0 r1 r2 F0 F1 F2:List Ch}{g0 g1 g2:Gsg}{P:Fl->Ac->Prop}
theorem Xy(hC:9<=C.n)(X:J3 cs r0 r1 r2 F0 F1 F2 g0 g1 g2)
 (k:∀G gG A τb,Wov (uni r0 r1 cs) G gG->Al C P (S.from 7 Nj.body) [al (.ref 1),al (.ref 0),al (rV cs),al (rV (uni r0 r1 cs)),al (ob (J12 r0 r1 r2 F0 F1 F2 g0 g1 g2 A).length),al (rV (uni (uni r0 r1 cs) r2 cs)),az,az,az] (J12 r0 r1 r2 F0 F1 F2 g0 g1 g2 A++(W G gG (hts [] G)++τb))) :
 Al C P Nj.body [al (.ref 1),al (.ref 0),al (rV cs),az,az,az,az,az,az] (J12 r0 r1 r2 F0 F1 F2 g0 g1 g2 τ):=by
 have h8:8<=C.n:=DU hC rfl;have h3:3<=C.n:=DU hC rfl;have cl:=AB4 X.len;have uk:=λ{a b Fa Fb ga gb} (k1:Part cs a) (k2:Part cs b) (w1:Wov a Fa ga) (w2:Wov b Fb gb)=>NA X.H X.gen cl k1 k2 w1 w2;have J0:=Jx.of (r0:=r0) (r1:=r1) (r2:=r2) (F0:=F0) (F1:=F1) (F2:=F2) (g0:=g0) (g1:=g1) (g2:=g2) (τ:=τ);have ru:∀{J U},Jx r0 r1 r2 F0 F1 F2 g0 g1 g2 U->Ci J 1=al (.ref 0)->Ci J 2=al (rV cs)->SE (C.n+3) (.F 91 (.c (.aa (.N 1) (.i 0)) (.t (.aa (.N 1) (.i 1)) (.N 2)))) J U (rV (uni r0 r1 cs)) U:=λac e1 e2=>.F (C.sr (ER (ac.row 0 (by decide) (by decide) e1 rfl rfl) (ac.row 1 (by decide) (by decide) e1 rfl rfl) e2)) ((H6 X.h0.len X.h1.len cl).more h3);refine AU rfl (ru J0 rfl rfl) (Cy (HX (r:=.cons (.aa (.N 0) (.i 0)) (.o (.aa (.N 0) (.i 1)))) (J:=[al (.ref 1),al (.ref 0),al (rV cs),al (rV (uni r0 r1 cs)),az,az,az,az,az]) h8 X.h0 X.h1 (C.sr (Bg (J0.wv 0 (by decide) (by decide) rfl rfl rfl) (J0.wv 1 (by decide) (by decide) rfl rfl rfl))) J0.w0 J0.w1 (uk X.P0 X.P1 X.h0 X.h1)) λG gG τ1 hG hj=>?_);refine AU rfl hj ?_;have J1:=(J0.app (τ:=τ1)).app (τ:=W G gG (hts [] G));have wG:WAt G gG (J12 r0 r1 r2 F0 F1 F2 g0 g1 g2 τ++τ1).length (J12 r0 r1 r2 F0 F1 F2 g0 g1 g2 τ++τ1++W G gG (hts [] G)):=WAt.new;have hk:=Kl (τ:=[]) hG (Int.fdiv (((uni r0 r1 cs).map Ch.data).length:Int) 2);rw[AAV] at hk;refine BZ (Pl (.not (ST.plain (λhc=>Fo (.bi .isinstance (.t (.N 4) (.glx 0))) rfl hc) (.bi2 (.cons (C.sv rfl) (.cons .glx .nil)) iM) (CL rfl))) (Ll (.F (C.sr (ER rfl rfl (Ae (AZ (A8 rfl) CO) rfl (CC (by decide))))) ((wG.fn hk (af trivial (af trivial Ah))).more hC)))) ff_ λ_=>Ab ?_;generalize hb:(J12 r0 r1 r2 F0 F1 F2 g0 g1 g2 τ++τ1).length=b at wG ⊢;generalize hs:J12 r0 r1 r2 F0 F1 F2 g0 g1 g2 τ++τ1++W G gG (hts [] G)=U1 at J1 wG ⊢;let K:Option V->Am:=λz=>[al (.ref 1),al (.ref 0),al (rV cs),al (rV (uni r0 r1 cs)),al (ob b),z,az,az,az]
 refine oE (Fs (J:=K az) (x:=.N 3) (r:=.cons (.aa (.N 0) (.i 1)) (.o (.aa (.N 0) (.i 0)))) h8 X.h1 X.h0 (C.sr (Bg (J1.wv 1 (by decide) (by decide) rfl rfl rfl) (J1.wv 0 (by decide) (by decide) rfl rfl rfl))) J1.w1 J1.w0 (Tc▸uk X.P1 X.P0 X.h1 X.h0) (λ_=>rfl)) λτ2 s2=>?_;have J2:=J1.app (τ:=τ2);refine oE (Fs h8 X.h0 X.h0 (C.sr (Bg (J2.wv 0 (by decide) (by decide) rfl rfl rfl) (J2.wv 0 (by decide) (by decide) rfl rfl rfl))) J2.w0 J2.w0 (X.P0.twice▸uk X.P0 X.P0 X.h0 X.h0) (λ_=>J2.app.row 0 (by decide) (by decide) rfl rfl rfl)) λτ3 s3=>BZ (Pl s2 s3) ff_ λ_=>Ab ?_;have J3:=J2.app (τ:=τ3);refine AU rfl (.F (C.sr (ER rfl (J3.row 2 (by decide) (by decide) rfl rfl rfl) rfl)) ((H6 hG.len X.h2.len cl).more h3)) (oE (Fs (J:=K (al (rV (uni (uni r0 r1 cs) r2 cs)))) (x:=.N 5) (r:=.cons (.N 4) (.o (.aa (.N 0) (.i 2)))) h8 hG X.h2 (C.sr (Bg rfl (J3.wv 2 (by decide) (by decide) rfl rfl rfl))) wG.app.app J3.w2 (uk (X.P0.join X.H X.P1) X.P2 hG X.h2) (λ_=>rfl)) λτ4 s4=>?_);refine BZ s4 ff_ λ_=>Ab ?_;have J4:=J3.app (τ:=τ4);refine Cy (HX h8 X.h1 X.h2 (C.sr (Bg (J4.wv 1 (by decide) (by decide) rfl rfl rfl) (J4.wv 2 (by decide) (by decide) rfl rfl rfl))) J4.w1 J4.w2 (uk X.P1 X.P2 X.h1 X.h2)) λG2 g3 τ5 hG2 hj2=>oE (Fs h8 X.h0 hG2 (.cons (C.sv (J4.wv 0 (by decide) (by decide) rfl rfl rfl)) (.cons hj2 .nil)) ((J4.app).app).w0 WAt.new (RL▸uk X.P0 (X.P1.join X.H X.P2) X.h0 hG2) (λ_=>rfl)) λτ6 s6=>BZ s6 ff_ λ_=>Ab ?_;have hk2:=k G gG (τ++τ1) (τ2++(τ3++(τ4++(τ5++(W G2 g3 (hts [] G2)++τ6))))) hG;have e1:J12 r0 r1 r2 F0 F1 F2 g0 g1 g2 (τ++τ1)=J12 r0 r1 r2 F0 F1 F2 g0 g1 g2 τ++τ1:=rfl;rw[e1,<-ABQ,hs,hb] at hk2;simp only[ABQ];exact hk2
end
section
variable{cs F G:List Ch}{gs:Gsg}{a:List Nat}
theorem Ki(h:Wov cs F gs)(ha:a∈nms cs):∃F' gs' d,Wov (cs.filter λc=>CJ (Fg cs gs a) c.1) F' gs'/\∀τ,FN 5 39 [self,vs a] (W F gs (hts [] F)++τ) (.d d) (W F' gs' (hts [] F')++τ):=by have hcl:=J8 h ha;exact Og _ _ _ (h.left hcl) (λτ=>XG h ((h.perm.map (·.1)).mem_iff.mpr ha) (NQ h) λc hc=>hcl c (h.perm.mem_iff.mp hc))
theorem FN.nil(h:FN n f xs (U++[]) (.d d) (U'++[])):FN n f xs U (.d d) U':=by rw[AAV,AAV] at h;exact h
noncomputable abbrev chN(o:List Nat):Ch:=(o,[],[⟨Da,az,al []⟩])
theorem iA(h:Bq o=true):GenCh (chN o):=⟨h,ABF _,.nil,(dc rfl),λd hd=>by rw[AAJ.mp hd];exact⟨.inl ⟨rfl,[],rfl,by decide,Ah⟩,λe=>absurd e (by decide)⟩⟩
theorem fB{o:List Nat}(h:Wov cs F gs)(hl:cs.length<=60)(hn:Bq o=true)(ho:o∉nms cs):∃gs',Wov (cs++[chN o]) (F++[chN o]) gs'/\(∀τ,FN 5 36 [self,vc (chN o)] (W F gs (hts [] F)++τ) DW (W (F++[chN o]) gs' (hts [] (F++[chN o]))++τ))/\((cs++[chN o]).filter λc=>CJ (Fg (cs++[chN o]) gs' o) c.1)=cs:=by
 have H:AR (cs++[chN o]):=h.H.snoc ho Ah ⟨(λm q=>nomatch q),trivial⟩;have hp:(F++[chN o]).Perm (cs++[chN o]):=h.perm.append_right _;have hg:=λc hc=>(AA0.mp hc).elim (h.gen c) λq=>by rw[AAJ.mp q];exact iA hn
 have hl':(cs++[chN o]).length<=61:=by rw[AAF];exact ABS hl
 have ht:Dg (F++[chN o]):=λpre c post e l q=>by
  rcases List.eq_nil_or_concat post with rfl|⟨post',y,rfl⟩
  ·refine oA (ADX e rfl) λe1 e2=>?_;injection e2 with e2
   rw[<-e2] at q;exact nomatch q
  ·have e':F++[chN o]=(pre++c::post')++[y]:=by rw[e];simp
   exact h.w.topo _ _ _ (ADX e' rfl).1 l q
 refine oEA (PQ h.w (chN o) (Qa H hg hl' hp ht rfl)) λgs' w hf=>?_;have hw:Wov (cs++[chN o]) (F++[chN o]) gs':=⟨H,hg,hl',hp,w⟩
 have hin:o∈nms (cs++[chN o]):=AAZ (AAW cs (.head _));refine(Az gs' hw hf ?_);rw[ABN,List.filter_eq_self.mpr λc hc=>Ly.mpr λq=>?_,List.filter_cons_of_neg (a:=chN o) λq=>Ly.mp q ((FV hw hin).mpr ⟨hin,.inl rfl⟩)]
 ·exact AAV _
 ·rcases((FV hw hin).mp q).2 with q|q
  ·exact ho (q▸AAZ hc)
  ·exact ho (Blw.names h.H.topo ((Blw.snoc h.H.topo ho (AAZ hc)).mp q))
end
section
variable{cs r0 r1 r2 F0 F1 F2 G:List Ch}{g0 g1 g2 gG:Gsg}
theorem Xx(hC:9<=C.n)(X:J3 cs r0 r1 r2 F0 F1 F2 g0 g1 g2)(hG:Wov (uni r0 r1 cs) G gG):Al C (λfl U'=>Ff fl=vb true/\∃F g τ',Wov r0 F g/\U'=J12 r0 r1 r2 F F1 F2 g g1 g2 τ') (S.from 7 Nj.body) [al (.ref 1),al (.ref 0),al (rV cs),al (rV (uni r0 r1 cs)),al (ob (J12 r0 r1 r2 F0 F1 F2 g0 g1 g2 A).length),z5,az,az,az] (J12 r0 r1 r2 F0 F1 F2 g0 g1 g2 A++(W G gG (hts [] G)++τb)):=by
 have h8:8<=C.n:=DU hC rfl;have h7:7<=C.n:=DU hC rfl;have h5:5<=C.n:=DU hC rfl;have h3:3<=C.n:=DU hC rfl;have h2:2<=C.n:=DU hC rfl;let b:=(J12 r0 r1 r2 F0 F1 F2 g0 g1 g2 A).length;have ac:Jx r0 r1 r2 F0 F1 F2 g0 g1 g2 (J12 r0 r1 r2 F0 F1 F2 g0 g1 g2 A++(W G gG (hts [] G)++τb)):=Jx.of.app;have wG:WAt G gG b (J12 r0 r1 r2 F0 F1 F2 g0 g1 g2 A++(W G gG (hts [] G)++τb)):=WAt.of rfl;refine Cg rfl ?_;generalize hi:(J12 r0 r1 r2 F0 F1 F2 g0 g1 g2 A++(W G gG (hts [] G)++τb)).length=i;have f1:=Ri hG (hs:=[]) (hi▸ML) (ABF _) λn f d h=>wG n f [] d h Ah [.list []];rw[<-hi,Q1,hi,List.nil_append] at f1;refine Bl rfl (.F (C.sr (Bg rfl rfl)) (f1.more h7)) ?_;have f2:=Ri X.h0 (hs:=(KA (uni r0 r1 cs) gG).map kp) (hi▸ML) (dc rfl) λn f d h=>ac.w0 n f [] d h Ah _;rw[<-hi,Q1,hi,<-AAQ] at f2;refine Bl rfl (.F (C.sr (Bg (ac.app.wv 0 (by decide) (by decide) rfl rfl rfl) rfl)) (f2.more h7)) ?_;have shl:=λd hd=>(AA0.mp hd).elim (MY hG d) (MY X.h0 d);have hsl:(KA (uni r0 r1 cs) gG++KA r0 g0).length<=1000:=show 10<=1000 by decide
 generalize KA (uni r0 r1 cs) gG++KA r0 g0=HS at shl hsl ⊢;let T:Ac:=τb++[.list ((HS.map kp).map .d)];let St:List Ch->Gsg->List Ch->Gsg->Ac:=λF g G gG=>J12 r0 r1 r2 F F1 F2 g g1 g2 A++(W G gG (hts [] G)++T);rw[show J12 r0 r1 r2 F0 F1 F2 g0 g1 g2 A++(W G gG (hts [] G)++τb)++[.list ((HS.map kp).map .d)]=St F0 g0 G gG by rw[ABQ,ABQ]];let K:Option V->Am:=λz=>[al (.ref 1),al (.ref 0),al (rV cs),al (rV (uni r0 r1 cs)),al (ob b),z5,al (.ref i),z,az]
 have cl:=AB4 X.len;refine AS (Rh (U:=St F0 g0 G gG) (((uni r0 r1 cs).map Ch.data).length:Int) (nms cs) (x:=.d (dl (nms cs))) mm2 (λx hx=>by obtain⟨c,c1,rfl⟩:=AAP.mp hx;exact(X.gen c c1).name) (lmt (BV cl rfl))) λo o1 o2 o3=>?_
 have hcv:(ev C.O (.D (.aa (.N 8) (.i 0)) [8] (.N 2) .nil)).v (K az) (St F0 g0 G gG)=al (.d (dl (nms cs))):=by rw[CG Ch.data (λ_=>true) (λc=>.str (Tx c.1)) (Bv rfl rfl) (AY cl rfl) (λ_ _=>rfl) (λc _ _=>Ad rfl rfl (AM c)),BT];show al (V.d (.list _))=al (V.d (.list ((nms cs).map λt=>.str (Tx t))));rw[AAE];rfl
 refine AU rfl (.F (C.sr (Bg (AZ (A8 rfl) CO) hcv)) (o3.more h3)) ?_;have hr0:=by exact oEA X.P0 λp _ e=>e▸AAC (AAX _ _) X.len
 refine AS (fB X.h0 hr0 o1 λq=>by obtain⟨c,c1,c2⟩:=AAP.mp q;exact o2 (AAP.mpr (iEA c (X.P0.sub c1) c2))) λgN wN fN eN=>?_
 have Jt:∀{F g G gG},Jx r0 r1 r2 F F1 F2 g g1 g2 (St F g G gG):=Jx.of.app;have at2:∀{F F':List Ch} {g g':Gsg} {n f:Nat} {zs:List V} {d:PyData},(∀τ,FN n f (self::zs) (W F g (hts [] F)++τ) (.d d) (W F' g' (hts [] F')++τ))->(∀z,z∈zs->low 0 z)->FN n f (ob 2::zs) (St F g G gG) (.d d) (St F' g' G gG):=λh hz=>FN.wv2 (τ:=[.list [rV r0,rV r1,rV r2],.list [ob 2,ob 5,ob 8]]) (FN.nil (h [])) hz rfl;have wt:∀{F g G gG},WAt G gG b (St F g G gG):=WAt.of rfl;refine Bl rfl (.ac (CB rfl) (by unfold mtP;kernel_rfl) (C.sv (Jt.wv 0 (by decide) (by decide) rfl rfl rfl)) (C.sr (A8 (Cn (ER rfl rfl rfl) rfl))) (FN.more (at2 fN (af trivial Ah)) h5)) (BZ (Ll (.F (C.sr (Bg rfl rfl)) ((wt.fn (Gg hG) (af trivial Ah)).more h8))) ff_ λ_=>Ab ?_);refine Cy (Ki wN (AAZ (AAW r0 (.head _)))) λF' g' d w' f'=>?_;rw[eN] at w';refine Bl rfl (.ac (CB rfl) (by unfold mtP;kernel_rfl) (C.sv (Jt.wv 0 (by decide) (by decide) rfl rfl rfl)) (C.sr rfl) (FN.more (at2 f' (af trivial Ah)) h5)) (Ee vs (λ_ J U'=>∃M G gG z,Wov M G gG/\J=K z/\U'=St F' g' G gG) (SI.lst (.ac An (by unfold mtP;kernel_rfl) (C.sv rfl) .nil ((wt.fn (DC hG) Ah).more h2)) mm2) (EJ _ G gG _ hG rfl rfl) ?_ ?_)
 ·intro p n q J q_u4 e q_r1;refine Ec q_r1 λM G gG z w q_5 q_6=>?_;subst q_5;subst q_6;refine BZ (.C (C.sv rfl) (.ac An (by unfold mtP;kernel_rfl) (C.sv rfl) .nil ((wt.fn (DC w) Ah).more h2)) (Dv (Cr _ _))) (λt=>?_) λt=>Ab (Ab ⟨_,rfl,M,G,gG,_,w,rfl,rfl⟩);exact Cy (Ki w ((Af _).mem_iff.mp (AAG t))) λG' gG' d w2 f2=>Bl rfl (.ac An (by unfold mtP;kernel_rfl) (C.sv rfl) (C.sr rfl) (FN.more (FN.wv2 (FN.nil (f2 [])) (af trivial Ah) rfl) h5)) (Ab (Ab ⟨_,rfl,_,G',gG',_,w2,rfl,rfl⟩))
 ·intro J q_u1 q_r2;refine Ec q_r2 λM G' gG' z w q_5 q_6=>?_;subst q_5;subst q_6;refine Ct (.F (C.sr (A8 rfl)) ((XJ ?_ hsl shl).more h2)) ⟨rfl,F',g',A++(W G' gG' (hts [] G')++T),w',rfl⟩;have e1:St F' g' G' gG'=(J12 r0 r1 r2 F' F1 F2 g' g1 g2 A++(W G' gG' (hts [] G')++τb))++[.list ((HS.map kp).map .d)]:=by rw[ABQ,ABQ]
  have e2:i=(J12 r0 r1 r2 F' F1 F2 g' g1 g2 A++(W G' gG' (hts [] G')++τb)).length:=by rw[<-hi,AAF,AAF,AAF,AAF];rfl
  exact e1▸e2▸ML
theorem Vd(X:J3 cs r0 r1 r2 F0 F1 F2 g0 g1 g2):∃F g τ',Wov r0 F g/\FN 10 97 [.ref 1,.ref 0,rV cs] (J12 r0 r1 r2 F0 F1 F2 g0 g1 g2 τ) (vb true) (J12 r0 r1 r2 F F1 F2 g g1 g2 τ'):=by refine Bb (FN.ends (C:=C0 9) (f:=97) (zs:=[.ref 1,.ref 0,rV cs]) (U:=J12 r0 r1 r2 F0 F1 F2 g0 g1 g2 τ) (R:=λv U'=>v=vb true/\∃F g τ',Wov r0 F g/\U'=J12 r0 r1 r2 F F1 F2 g g1 g2 τ') (h:=Xy (AAL _) X λG gG A τb hG=>Xx (AAL _) X hG)) λv U' q_2 h=>?_;obtain⟨k1,F,g,τ',w,k2⟩:=q_2;rw[k1,k2] at h;exact Og F g τ' w h
end
theorem ZX(h1:ST n a J U t U)(h2:ST n b J U q U):ST n (.P .And (.t a b)) J U (t&&q) U:=by
 cases t with
 |false=>exact .P (.cons h1 (λ_=>⟨rfl,rfl⟩) λq=>absurd rfl q)
 |true =>
  refine .P (.cons h1 tt_ λ_=>.cons h2 (λ_=>⟨rfl,rfl⟩) λe=>?_);cases q with
  |false=>exact absurd rfl e
  |true=>exact .nil
noncomputable abbrev K12(ns:List Int)(cs:List Ch)(z4 z5 z6:Option V):Am:=[al (.d (scD ns)),al (rV cs),al (.ref 0),al (.ref 1),z4,z5,z6,az]
section
variable{cs r0 r1 r2 F0 F1 F2:List Ch}{g0 g1 g2:Gsg}{ns:List Int}{z4 z5 z6:Option V}
theorem QN(hC:8<=C.n)(h0:Wov r0 F0 g0)(h1:Wov r1 F1 g1)(h2:Wov r2 F2 g2):Al C (λfl _=>Ff fl=vb true) (S.from 6 EW.body) (K12 ns cs z4 z5 z6) (J12 r0 r1 r2 F0 F1 F2 g0 g1 g2 τ):=by
 have ac:=Jx.of (r0:=r0) (r1:=r1) (r2:=r2) (F0:=F0) (F1:=F1) (F2:=F2) (g0:=g0) (g1:=g1) (g2:=g2) (τ:=τ);let U:=J12 r0 r1 r2 F0 F1 F2 g0 g1 g2 τ;let elt:E:=.F 26 (.t (.aa (.N 3) (.N 4)) (.aa (.N 2) (.N 4)));have el:∀{r F g b} (i:Int),0<=i->i<3->Wov r F g->WAt F g b U->[ob 2,ob 5,ob 8][i.toNat]? = al (ob b)->[rV r0,rV r1,rV r2][i.toNat]? = al (rV r)->SE (C.n+3) elt (K12 ns cs (al (vi i)) z5 z6) U (vb true) U:=λi i0 i1 h w e1 e2=>.F (C.sr (Bg (ac.wv i i0 i1 rfl rfl e1) (ac.row i i0 i1 rfl rfl e2))) ((w.fn (Gg h) (af trivial Ah)).more hC);have one:∀{v vs ws},SE (C.n+3) elt (CA (Bm (K12 ns cs z4 z5 z6) [4]) [4] v) U (vb true) U->E9 (C.n+3) elt [4] .nil [] (K12 ns cs z4 z5 z6) U vs U ws->E9 (C.n+3) elt [4] .nil [] (K12 ns cs z4 z5 z6) U (v::vs) U (vb true::ws):=λh k=>⟨(λ_ _ m=>nomatch m),.inl rfl,true,U,.nil,tt_,λ_=>(EK _ _ U h rfl k)⟩
 have hc:E9 (C.n+3) elt [4] .nil [] (K12 ns cs z4 z5 z6) U [vi 0,vi 1,vi 2] U (([true,true,true].map PyData.bool).map .d):=one (el 0 (by decide) (by decide) h0 ac.w0 rfl rfl) (one (el 1 (by decide) (by decide) h1 ac.w1 rfl rfl) (one (el 2 (by decide) (by decide) h2 ac.w2 rfl rfl) ⟨(λ_ _ m=>nomatch m),rfl,rfl⟩));exact Ct (SE.bi1 (.cons (SE.frz (SL.D (SI.range (ACK 3 _) (C.sr rfl) (by decide) (by decide)) hc (dc rfl))) .nil) (YN (bs:=[true,true,true]) rfl) (ACK 3 _)) rfl
end
noncomputable def mU:S:=match S.from 5 EW.body with|.cons (.I _ a _) _=>a|_=>.nil
noncomputable def mT:S:=match S.from 5 EW.body with|.cons (.I _ _ b) _=>b|_=>.nil
noncomputable def mR:S:=match S.from 4 EW.body with|.cons (.L _ _ b) _=>b|_=>.nil
theorem NoC.perm(h1:F0.Perm r0)(h2:F1.Perm r1)(h:NoC F0 F1):NoC r0 r1:=λc1 a c2 b=>h c1 (h1.mem_iff.mpr a) c2 (h2.mem_iff.mpr b)
theorem NoC.comm(h:NoC r0 r1):NoC r1 r0:=λc1 a c2 b e=>(h c2 b c1 a e.symm).symm
theorem Ss{P:Fl->Ac->Prop}(hC:10<=C.n)(H:AR cs)(hg:∀c∈cs,GenCh c)(cl:cs.length<=61)(P0:Part cs r0)(P1:Part cs r1)(ha:Alt r1 r')(h0:Wov r0 F0 g0)(h1:Wov r' F1 g1)(hN:¬ NoC r0 r')(k:∀z5 z6 r'' F g τ',Wov r'' F g->P (.next (K12 ns cs z4 z5 z6)) (J12 r0 r'' r2 F0 F F2 g0 g g2 τ')) :
 Al C P mU (K12 ns cs z4 az az) (J12 r0 r' r2 F0 F1 F2 g0 g1 g2 τ):=by
 have h8:8<=C.n:=DU hC rfl;have h5:5<=C.n:=DU hC rfl;have h3:3<=C.n:=DU hC rfl;have hNF:¬ NoC F0 F1:=λh=>hN (h.perm h0.perm h1.perm);have ac:∀{r' F1 g1 τ},Jx r0 r' r2 F0 F1 F2 g0 g1 g2 (J12 r0 r' r2 F0 F1 F2 g0 g1 g2 τ):=Jx.of;obtain⟨τ1,f1⟩:=Kj h0 h1 (ac).w0 ac.w1 hNF;obtain⟨τ2,f2⟩:=Kj h1 h0 (ac).w1 ac.w0 λh=>hNF h.comm;refine BZ (Pl (Ll (.F (C.sr (Bg (ac.wv 0 (by decide) (by decide) rfl rfl rfl) (ac.wv 1 (by decide) (by decide) rfl rfl rfl))) (f1.more hC))) (Ll (.F (C.sr (Bg (Jx.app ac |>.wv 1 (by decide) (by decide) rfl rfl rfl) (Jx.app ac |>.wv 0 (by decide) (by decide) rfl rfl rfl))) (f2.more hC)))) ff_ λ_=>Ab ?_;show Al C _ _ (K12 ns cs z4 az az) (J12 r0 r' r2 F0 F1 F2 g0 g1 g2 (τ++τ1++τ2));generalize τ++τ1++τ2=τ;refine Fz (ha.new H.nd P0 P1 hN) λpre c post c' e1 e2 e3 e4=>?_;subst e3;have hlen:(pre++c'::post).length<=line:=AY h1.len rfl;refine Aw (Ad (x:=.d (.list [.str (Tx c'.1)])) ?_ rfl (Eg 0 (by decide) (by decide) rfl)) ?_
 ·rw[CG Ch.data (TX cs) (λx=>.str (Tx x.1)) (Bv (ac.row 1 (by decide) (by decide) rfl rfl rfl) rfl) hlen (λx _=>EZ (Aj rfl rfl (WV x cs))) (λx _ _=>Ad rfl rfl (AM x)),WW (λx hx=>P1.sub (e1▸hx)) e4];rfl
 have hin:c'.1∈nms (pre++c'::post):=AAZ (AAW pre (.head _));refine Br (L7 h1 C.n (DU hC rfl)) λC' gr en hgr ho=>?_;let q:=CJ (Fg (pre++c'::post) g1 c'.1);have hcomp:SE (C.n+3) (.D (.N 7) [7] (.aa (.N 2) (.i 1)) (.o (.C .NotIn (.N 5) (.F 28 (.t (.aa (.N 2) (.i 1)) (.lst (.o (.aa (.N 7) (.i 0))))))))) (K12 ns cs z4 (al (vs c'.1)) az) (J12 r0 (pre++c'::post) r2 F0 F1 F2 g0 g1 g2 τ) (rV ((pre++c'::post).filter λx=>q x.1)) (J12 r0 (pre++c'::post) r2 F0 F1 F2 g0 g1 g2 τ):=by rw[<-en];refine C'.sv (CG Ch.data (λx=>q x.1) Ch.data (Bv (ac.row 1 (by decide) (by decide) rfl rfl rfl) rfl) hlen (λx hx=>?_) (λx _ _=>rfl));have hxn:x.1∈nms (pre++c'::post):=AAZ hx;rw[EZ (Aj rfl (Gl (Bg (ac.row 1 (by decide) (by decide) rfl rfl rfl) (Ku (Ad rfl rfl (AM x)))) (ho ⟨x.1,hxn⟩ _)) (by rw[IH,Cr];rfl))];congr 1;refine Bool.eq_iff_iff.mpr ?_;rw[ACZ,decide_eq_false_iff_not,Ly,FV h1 hin,(hgr ⟨x.1,hxn⟩).2.2 c'.1];exact⟨λh h'=>h (h'.2.imp Eq.symm id),λh h'=>h ⟨hxn,h'.imp Eq.symm id⟩⟩
 refine Cs (λQ k=>.set hcomp (C.sv rfl) (C.sv rfl) (Pp rfl (by decide) (show(1:Int)<3 by decide)) k) (Cy (Ki h1 hin) λF g d w f=>?_);refine Bl rfl (.ac (CB rfl) (by unfold mtP;kernel_rfl) (C.sv (ac.wv 1 (by decide) (by decide) rfl rfl rfl)) (C.sr rfl) (FN.more (FN.wv2 (τ:=.list [rV r0,rV ((pre++c'::post).filter λx=>q x.1),rV r2]::.list [ob 2,ob 5,ob 8]::W F0 g0 (hts [] F0)) (FN.nil (f [])) (af trivial Ah) rfl) h5)) ?_;have P1':Part cs ((pre++c'::post).filter λx=>q x.1):=by
  refine oEA P1 λp k1 k2=>oA (VV (k2.symm.trans e1) e2 (by rw[<-e2];exact AB7.mpr λh=>Ly.mp h ((FV h1 hin).mpr ⟨hin,.inl rfl⟩)) k1 (J8 h1 hin)) λa1 a2=>?_
  exact⟨_,a2,a1⟩
 refine AU rfl (.F (C.sr (ER (ac.row 0 (by decide) (by decide) rfl rfl rfl) (ac.row 1 (by decide) (by decide) rfl rfl rfl) rfl)) ((H6 h0.len w.len cl).more h3)) ?_;obtain⟨τ3,s3⟩:=Fs (J:=K12 ns cs z4 (al (vs c'.1)) (al (rV (uni r0 ((pre++c'::post).filter λx=>q x.1) cs)))) (x:=.N 6) (r:=.cons (.aa (.N 3) (.i 0)) (.o (.aa (.N 3) (.i 1)))) h8 h0 w (C.sr (Bg (ac.wv 0 (by decide) (by decide) rfl rfl rfl) (ac.wv 1 (by decide) (by decide) rfl rfl rfl))) ac.w0 ac.w1 (NA H hg cl P0 P1' h0 w) (λ_=>rfl);exact BZ s3 ff_ λ_=>Ab (Ab (k _ _ _ F g _ w))
theorem Up{P:Fl->Ac->Prop}(hC:10<=C.n)(H:AR cs)(hg:∀c∈cs,GenCh c)(cl:cs.length<=60)(P0:Part cs r0)(P1:Part cs r1)(P2:Part cs r2)(ha:Alt r1 r')(h0:Wov r0 F0 g0)(h1:Wov r' F1 g1)(h2:Wov r2 F2 g2)(k:∀F g τ',Wov r0 F g->P (.next (K12 ns cs z4 az az)) (J12 r0 r' r2 F F1 F2 g g1 g2 τ')) :
 Al C P mT (K12 ns cs z4 az az) (J12 r0 r' r2 F0 F1 F2 g0 g1 g2 τ):=by
 have ac:=Jx.of (r0:=r0) (r1:=r') (r2:=r2) (F0:=F0) (F1:=F1) (F2:=F2) (g0:=g0) (g1:=g1) (g2:=g2) (τ:=τ);have r1':(ev C.O (.aa (.N 2) (.i 1))).v (K12 ns cs z4 az az) (J12 r0 r' r2 F0 F1 F2 g0 g1 g2 τ)=al (rV r'):=ac.row 1 (by decide) (by decide) rfl rfl rfl;refine oEA (Oo (U:=J12 r0 r' r2 F0 F1 F2 g0 g1 g2 τ) h1.len h2.len) λt _ t2=>oEA (dI (U:=J12 r0 r' r2 F0 F1 F2 g0 g1 g2 τ) r' (uni r' [] cs)) λq q1 q2=>BZ (ZX (N0 (.F (C.sr (Bg r1' (ac.row 2 (by decide) (by decide) rfl rfl rfl))) (t2.more (DU hC rfl)))) (.C (C.sv r1') (.F (C.sr (ER (y:=rV []) r1' rfl rfl)) ((H6 h1.len (ABF _) (AB4 cl)).more (DU hC rfl))) (Dv q1))) (λe=>?_) λ_=>Ab (Ab (k F0 g0 τ h0));have er:=P1.uni ha (q2.mp (AAH.mp e).2);subst er;exact Cy (Vd ⟨H,hg,cl,P0,P1,P2,h0,h1,h2⟩) λF g τ' w f=>BZ (Ll (.F (C.sr (ER rfl rfl rfl)) (f.more hC))) ff_ λ_=>Ab (Ab (Ab (k F g τ' w)))
theorem G0(hC:6<=C.n)(j:Int)(h0:0<=j)(hj:j<100)(ok:AR r/\(∀c∈r,GenCh c)/\r.length<=61)(hr:rows[j.toNat]? = al (rV r))(ho:obs.length<=100)(k:∀gs,Wov r r gs->P (.next (K12 ns cs (al (vi j)) az az)) (.list rows::.list (obs++[ob (R.length+2)])::(R++W r gs (hts [] r)))) :
 Al C P mR (K12 ns cs (al (vi j)) az az) (.list rows::.list obs::R):=by
 exact oEA (UV ok.1 ok.2.1 ok.2.2 (.refl _) ok.1.topo) λgs w hf=>Bl rfl (.lmeth (CB rfl) slot_list_append type_list_append (C.sv rfl) (.cons (.F (C.sr (A8 (Ad rfl rfl (K8 j h0 (by omega) rfl hr)))) (FA.newO (FA.more hf (ADF hC 3)) (af trivial Ah) GB)) .nil) rfl rfl (Hl (BV ho rfl))) (Ab (k gs ⟨ok.1,ok.2.1,ok.2.2,.refl _,w⟩))
theorem lY(e:[V.d d,vi k]=[.d d,vi l]):k=l:=by
 injection e with _ e
 injection e with e _
 injection e with e
 injection e
theorem WN{ks fs:List (List Nat)}(h:∀n,n∈ks↔∃o∈fs,n=o\/Blw cs o n):Part cs (cs.filter λc=>decide (c.1∈ks)):=⟨λn=>decide (n∈ks),λc hc hq l hl=>by
 refine oEA ((h c.1).mp (AAG hq)) λo o1 o2=>AAI ((h l).mpr (iEA o o1 (.inr ?_)));rcases o2 with e|b
 ·exact e▸.one hc hl
 ·exact b.trans (.one hc hl),rfl⟩
theorem Part.ok(H:AR cs)(hg:∀c∈cs,GenCh c)(cl:cs.length<=61)(h:Part cs r):AR r/\(∀c∈r,GenCh c)/\r.length<=61:=by refine oEA h λp k q_2=>?_;subst q_2;exact⟨H.filter k,λc hc=>hg c (AA4.mp hc).1,AAC (AAX _ _) cl⟩
theorem Oi{P:Fl->Ac->Prop}(hit:C.it it J U=al ([vi 0,vi 1,vi 2],[]))(h:Al C (λfl U1=>∃J1,fl=.next J1/\Al C (λfl U2=>∃J2,fl=.next J2/\Al C (λfl U3=>∃J3,fl=.next J3/\Al C P r J3 U3) body (J2.set x (al (vi 2))) U2) body (J1.set x (al (vi 1))) U1) body (J.set x (al (vi 0))) U):Al C P (.cons (.L [x] it body) r) J U:=by refine Bb h λfl U1 q e0=>oEA q λJ1 q1 h=>Bb h λfl U2 q e1=>oEA q λJ2 q2 h=>Bb h λfl U3 q e2=>oEA q λJ3 q3 k=>?_;subst q1 q2 q3;exact Cs (fl:=.next J3) (λQ q=>.L ((Ao C.ok it).it hit).1 ⟨(λ_ _ m=>nomatch m),.inl rfl,SSs.mono (λf s e=>by rw[e.1,e.2];exact⟨(λ_ _ m=>nomatch m),.inl rfl,SSs.mono (λf s e=>by rw[e.1,e.2];exact⟨(λ_ _ m=>nomatch m),.inl rfl,SSs.mono (λf s e=>by rw[e.1,e.2];exact⟨(λ_ _ m=>nomatch m),q⟩) e2⟩) e1⟩) e0⟩) k
noncomputable def mS:S:=match S.at 2 EW.body with|.L _ _ b=>b|_=>.nil
section
variable{cs:List Ch}{C:Cfg}{P:Fl->Ac->Prop}{ns:List Int}
theorem Jk{Rs:List V}(hC:3<=C.n)(hc:∀{U},(ev C.O (.F 9 (.t (.N 0) (.N 4)))).v (K12 ns cs (al (vi j)) az az) U=al (vi c))(H:AR cs)(hg:∀c∈cs,GenCh c)(cl:cs.length<=61)(hR:Rs.length<=100)(k:∀r,Part cs r->P (.next (K12 ns cs (al (vi j)) az az)) [.list (Rs++[rV r]),.list []]):Al C P mS (K12 ns cs (al (vi j)) az az) [.list Rs,.list []] :=
 oEA (XH cs cl c) λfs f1 f2=>oEA (SF H.nd H.topo cl (λc hc=>(hg c hc).few) (λn hn=>f1.subset hn) (AAC f1.length_le (lml (AY cl rfl)))) λgs g1 g2=>Bl rfl (.lmeth (CB rfl) slot_list_append type_list_append (C.sv rfl) (.cons (.F (.cons (C.sv rfl) (.cons (.F (.cons (C.sv rfl) (.cons (C.sv hc) .nil)) (FN.more (f2 _) hC)) .nil)) (FN.more (g2 _) hC)) .nil) rfl rfl (Hl (BV hR rfl))) (Ab (k _ (WN g1)))
variable{r0 r1 r2:List Ch}{z:Option V}
theorem Xm(hC:3<=C.n)(hc:∀(i:Int),0<=i->i<9->∀{J U},Ci J 0=al (.d (scD ns))->(ev C.O (.F 9 (.t (.N 0) (.i i)))).v J U=al (vi (ns.getD i.toNat 0)))(ok:AR r1/\(∀c∈r1,GenCh c)/\r1.length<=61)(k:∀r',Alt r1 r'->AR r'/\(∀c∈r',GenCh c)/\r'.length<=61->Al C P (S.from 4 EW.body) (K12 ns cs z az az) [.list [rV r0,rV r',rV r2],.list []]):Al C P (S.from 3 EW.body) (K12 ns cs z az az) [.list [rV r0,rV r1,rV r2],.list []]:=by
 have hr1:(ev C.O (.aa (.N 2) (.i 1))).v (K12 ns cs z az az) [.list [rV r0,rV r1,rV r2],.list []]=al (rV r1):=Ad rfl rfl (K8 1 (by decide) (by decide) rfl rfl);refine AC (BC (congrArg (λo=>Option.bind o (Fp [.list [rV r0,rV r1,rV r2],.list []])) hr1) λ_=>Aj (Ae (hc 3 (by decide) (by decide) rfl) rfl (AW (by decide))) rfl B8) (λq=>?_) λ_=>Ab (k r1 (.inl rfl) ok);obtain⟨pre,c,post,c',e1,e2,e3,e4,hf⟩:=PO ok.1 ok.2.1 ok.2.2 (λe=>by rw[e] at q;exact ff_ q) (ns.getD 4 0);refine Cs (λQ k=>.set (.F (C.sr (Bg hr1 (hc 4 (by decide) (by decide) rfl))) (FN.more hf hC)) (C.sv rfl) (C.sv rfl) (Pp rfl (by decide) (show(1:Int)<3 by decide)) k) (Ab (k (pre++c'::post) (.inr ⟨pre,c,post,c',e1,e2,rfl⟩) ⟨e4,λx hx=>?_,?_⟩))
 ·have G1:=ok.2.1;rw[e1] at G1;rcases AA0.mp hx with q|q
  ·exact G1 x (AAU _ q)
  ·rcases AAR.mp q with q|q
   ·exact q▸e3
   ·exact G1 x (AAW _ (.tail _ q))
 ·have L1:=ok.2.2;rw[e1,AAF] at L1;exact AAF▸L1
variable{r':List Ch}
theorem Uo(hC:10<=C.n)(H:AR cs)(hg:∀c∈cs,GenCh c)(cl0:cs.length<=60)(P0:Part cs r0)(P1:Part cs r1)(P2:Part cs r2)(ha:Alt r1 r')(ok:AR r'/\(∀c∈r',GenCh c)/\r'.length<=61):Al C (λfl _=>Ff fl=vb true) (S.from 4 EW.body) (K12 ns cs z az az) [.list [rV r0,rV r',rV r2],.list []]:=by
 have cl:=AB4 cl0;refine Oi (itr (m:=3) rfl (by decide) (by decide)) (G0 (DU hC rfl) 0 (by decide) (by decide) (P0.ok H hg cl) rfl (dc rfl) λg0 h0=>⟨_,rfl,G0 (DU hC rfl) 1 (by decide) (by decide) ok rfl (dc rfl) λg1 h1=>⟨_,rfl,G0 (DU hC rfl) 2 (by decide) (by decide) (P2.ok H hg cl) rfl (dc rfl) λg2 h2=>⟨_,rfl,?_⟩⟩⟩);show Al C _ (S.from 5 EW.body) (K12 ns cs (al (vi 2)) az az) (J12 r0 r' r2 r0 r' r2 g0 g1 g2 []);have ac:=Jx.of (r0:=r0) (r1:=r') (r2:=r2) (F0:=r0) (F1:=r') (F2:=r2) (g0:=g0) (g1:=g1) (g2:=g2) (τ:=[]);refine oEA (Oo (U:=J12 r0 r' r2 r0 r' r2 g0 g1 g2 []) h0.len h1.len) λt t1 t2=>BZ (ST.plain (λhc=>Fo (.F 96 _) rfl hc) (.F (C.sr (Bg (ac.row 0 (by decide) (by decide) rfl rfl rfl) (ac.row 1 (by decide) (by decide) rfl rfl rfl))) (FN.more t2 (DU hC rfl))) (CL rfl)) (λq=>?_) λq=>?_
 ·exact Ss hC H hg cl P0 P1 ha h0 h1 (t1.mp q) λ_ _ _ _ _ _ w=>QN (DU hC rfl) h0 w h2
 ·exact Up hC H hg cl0 P0 P1 P2 ha h0 h1 h2 λ_ _ _ w=>QN (DU hC rfl) w h1 h2
end
theorem run12(ns:List Int)(hns:ns.length<=63):∃U',SSs 23 EW.body (BN EW [.d (.list (ns.map .int))]) [] (RG (vb true) U'):=by
 refine oEA (XD (ns.drop 7) (ns.getD 6 0) (by rw[ADI];omega)) λns' w1 w2=>Mt (PN ns' 60 w1 (by decide) (by decide)) λcs c1 c2 H _ c4=>?_;have cl0:cs.length<=60:=Int.ofNat_le.mp c1;have cl:=AB4 cl0;let C:=(C0 20).knowF 9 (λk:{k:Int//0<=k/\k<1000}=>[.d (scD ns),vi k.1]) (λk=>vi (ns.getD k.1.toNat 0)) λk U=>(XM ns k.1 k.2.1 k.2.2).more (dc rfl);have o9:∀(k:Int),0<=k->k<9->∀U,C.O 9 [.d (scD ns),vi k] U=al (vi (ns.getD k.toNat 0)):=λk h1 h2 U=>JR (arg:=λk:{k:Int//0<=k/\k<1000}=>[.d (scD ns),vi k.1]) (λa b e=>by rw[lY e]) ⟨k,h1,Int.lt_trans h2 (by decide)⟩ U;have hslc:∀{J U},Ci J 0=al (.d (scD ns))->(ev C.O (.slc (.N 0) (.i 7) .nil)).v J U=al (.d (scD (ns.drop 7))):=λ{J U} h=>by show((Ci J 0).bind λx=>slice U x (al 7) az)=_;rw[h,bs,HT (by decide) (lml (AY hns rfl)),<-List.map_drop];rfl
 have hcell:∀{J U e} (k:Int),Ci J 0=al (.d (scD ns))->(ev C.O e).v J U=al (vi k)->0<=k->k<9->(ev C.O (.F 9 (.t (.N 0) e))).v J U=al (vi (ns.getD k.toNat 0)):=λk h he h1 h2=>Gl (Bg h he) (o9 k h1 h2 _);have hE:Al C (λfl _=>Ff fl=vb true) EW.body (BN EW [.d (.list (ns.map .int))]) []:=by refine AU rfl (.F (.cons (.F (.cons (C.sv (hslc rfl)) (.cons (C.sv (hcell 6 rfl rfl (by decide) (by decide))) (.cons (.cst _) .nil))) ((w2 _).more (dc rfl))) (.cons (.cst _) .nil)) ((c4 _).more (dc rfl))) (UO (v:=.tup [.inr 0,.inr 1]) (.tupR (.cons (SE.trk (.lst .nil (ABF _))) (.cons (SE.trk (.lst .nil (ABF _))) .nil)) (dc rfl)) rfl rfl ?_);show Al C _ (S.from 2 EW.body) (K12 ns cs az az az) [.list [],.list []];exact Oi (itr (m:=3) rfl (by decide) (by decide)) (Jk (dc rfl) (hcell 0 rfl rfl (by decide) (by decide)) H c2 cl (dc rfl) λr0 P0=>⟨_,rfl,Jk (dc rfl) (hcell 1 rfl rfl (by decide) (by decide)) H c2 cl (dc rfl) λr1 P1=>⟨_,rfl,Jk (dc rfl) (hcell 2 rfl rfl (by decide) (by decide)) H c2 cl (dc rfl) λr2 P2=>⟨_,rfl,Xm (dc rfl) (λi h1 h2 J U h=>hcell i h rfl h1 h2) (P1.ok H c2 cl) λr' ha ok=>Uo (dc rfl) H c2 cl0 P0 P1 P2 ha ok⟩⟩⟩)
 refine Bb hE λfl U' h1 h2=>⟨U',SSs.mono (λf s e=>?_) h2⟩
 rw[e.1,e.2];cases fl with
 |next _=>exact⟨h1.symm,rfl⟩
 |ret _=>exact⟨h1.symm,rfl⟩
end Mine.Internal
open PySem PySem.W PyProof.Rows
set_option tactic.hygienic true in
set_option backward.match.sparseCases true in
set_option genInjectivity true in
set_option maxRecDepth 100000 in
set_option maxHeartbeats 8000000 in
theorem PySem.Challenge.cw_uf010019_12_holds : PySem.Challenge.rw_uf010019_12.Holds := by
 refine holds_law Mine.Internal.said12 fun said=>?_
 refine W.holds_open (q:=Mine.Internal.view12) (loose:=[]) (Xt:=Mine.Internal.xt12) (XP:=Mine.Internal.XP12) (Yf:=Hook.obs Mine.Internal.hook12) (Ya:=Hook.val Mine.Internal.hook12) (YP:=Hook.says Mine.Internal.hook12) (N:=5300) Mine.Internal.left12 (Hook.of Mine.Internal.hook12) (Hook.keeps Mine.Internal.hook12) Mine.Internal.xt12_of Mine.Internal.XP12.keeps (by rfl) (by rfl) (by rfl) (fun s e=>recFacts_of (Bool.and_eq_true_iff.mp (Bool.and_eq_true_iff.mp e).1).2) (by rfl) said (by decide +kernel) ⟨rfl,rfl,rfl,rfl,rfl,by decide +kernel⟩ ?hw ?hc
 case hw=>w_witness2
 intro w s0 s1 mg mb G Y fa o pm cd doc dV kV ho hd hcd hD hmg hg args vals as hpre hlay hrd hwl hlo
 obtain ⟨K,KX,KC⟩:=Y
 have AP:=(Ground.X G).2
 refine Ground.open G ?_
 intro T B D TE TW
 clear hd hcd hD ho
 wrow_args hpre hlay hrd hwl hlo
 rename_i sc _ _ _ _ _ _ _ l vs _ hL _ _ _ hI _ hlen _
 refine Mine.Internal.law12 Mine.Internal.run12 (w:=w) T TE AP KX KC hmg hL hI (by omega) ?_
 intro s' hk hgens hos
 refine ⟨.inl ⟨.bool true,.bool true,[],rfl,?_,.bool true,?_,?_⟩,hk,hos,?_⟩
 ·intro cls; rfl
 ·wrow_post
 ·exact fun _=>⟨List.nodup_nil,fun a h=>by cases h⟩
 ·exact AllBare.of_eq (hgens.trans hg)