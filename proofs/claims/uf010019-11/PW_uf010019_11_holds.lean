import PyProof.Rows.All
import Wide.Line
import Wide.Tac
import Wide.Loose
import Open.Line
import OpenK.KWalk
import KE.KIsAll
import PyProof.TupleKey
import PyProof.DictFindH
import PyProof.Ns1
import PyProof.StrWalks
import PyProof.Rows.TopObj
import PyProof.Rows.PlainObj
import PyProof.Rows.PlainNoArg
import PyProof.Rows.PlainEq
import PyProof.ListStr
import PyProof.InstStoreFacts
import PyProof.DictWalks
import KE.KSortKey
import KE.KMinKey
import KE.KLam
import PyProof.ReprRoads
import PyProof.ReprLen
import PyProof.StrLawsRepr
import PyProof.RaisesMany
import PyProof.RulesAs
import PyProof.TupleIter
import PyProof.WalksMore
import PyProof.Rows.ListMulArg
import PyProof.Rows.StrMul
import PyProof.ObjNew
import PyProof.Rows.Range3
import PyProof.Conv_int_bool
import PyProof.IsInstance
import PySem.Challenge.RW_uf010019_11
set_option Elab.async false
set_option autoImplicit true
set_option genSizeOf false
set_option bootstrap.genMatcherCode false
set_option linter.all false
set_option tactic.hygienic false
set_option genInjectivity false
set_option genCtorIdx false
set_option backward.match.sparseCases false
open Option.some renaming inj → AAA
open List renaming length_map → AAB, map_map → AAE, length_append → AAF, mem_singleton → AAJ, getElem?_eq_some_iff → AAM, getElem?_eq_getElem → AAN, mem_map → AAP, map_append → AAQ, mem_cons → AAR, mem_append_left → AAU, append_nil → AAV, mem_append_right → AAW, length_filter_le → AAX, mem_map_of_mem → AAZ, mem_append → AA0, not_mem_nil → AA1, length_cons → AA2, mem_filter → AA4, mem_of_getElem? → AA5, getElem?_append_right → AA6, getElem?_append_left → ABE, mem_of_find?_eq_some → ABH, getElem?_map → ABI, filter_append → ABN, map_cons → ABP, append_assoc → ABQ, length_range → ABV, nodup_append → ABW, nodup_cons → ABX, nodup_nil → ABY, mem_range → ABZ, length_set → AB0, getElem?_set_self → AB1, filter_map → AB2, append_of_mem → AB7, filter_eq_append_iff → AB8, filter_eq_cons_iff → AB9, all_eq_true → ACH, mem_of_mem_take → ACJ, size_toArray → ACM, pairwise_cons → ACO, length_take → ACP, pairwise_map → ACQ, map_reverse → ACR, getElem?_take_of_lt → ACW, mem_of_mem_drop → ACX, take_sublist → AC0, reverse_perm → AC1, map_congr_left → AC4, find?_some → AC6, lookup_cons → AC8, filterMap_cons → ADD, length_drop → ADE, getElem?_set_ne → ADJ, filter_cons_of_pos → ADM, getElem?_zip_eq_some → ADO, any_eq_true → ADR, mem_reverse → ADS, append_inj' → ADT
open Nat renaming le_trans → AAC, le_refl → AAL, lt_of_le_of_lt → AAS, le_add_right → AA9, zero_le → ABF, succ_le_succ → ABS, lt_trans → ABT, lt_irrefl → ABU, le_succ_of_le → AB3, not_lt → AB4, lt_of_lt_of_le → ACA, le_of_lt_succ → ACB, le_of_ble_eq_true → ACD, le_of_lt → ACF, le_add_left → ACG, le_of_not_lt → ACI, min_eq_left → ACL, ne_of_lt → ACT, zero_add → ACY, succ_pos → ACZ, add_le_add_left → AC3, add_comm → AC5, add_le_add_right → ADB, mul_le_mul_left → ADC, sub_self → ADF, add_assoc → ADG, eq_of_beq_eq_true → ADH, le_antisymm → ADK, le_succ → ADL, lt_succ_self → ADN
open PySem renaming wpAny_bind → AAD, wpAny_mono → AAO, wpAny_pure → AAY, wpAny_standAt → AA7, wpAny_holding → AA8
open Bool renaming and_eq_true_iff → AAH, false_ne_true → ABB, or_eq_true_iff → ABC, and_eq_true → ACS, not_eq_true' → ACV, false_eq_true → AC7, and_false → AC9
open PySem.Heap renaming get?_push_of_some → AAK, get?_push_size → AA3, get?_update_other → ABD, get?_none_of_le → ABO, get?_update_self → ACK, lt_size → ACU, size_push → ADP
open Array renaming length_toList → ABA, getElem?_toList → ABJ, getElem?_eq_getElem → AB5
open Prod.mk renaming inj → ABK
open Option renaming map_eq_some_iff → ABL
open LawfulBEq renaming eq_of_beq → ABM
open PySem.Value.ref renaming inj → ABR
open Int renaming natCast_nonneg → AB6, lt_of_lt_of_le → ADQ, toNat_of_nonneg → ADU
open PySem.Str renaming ofString → ACC
open Classical renaming propDecidable → ACE, choose_spec → ADI
open PySem.Heap.SameBut renaming update → ACN
open PySem.Value renaming isStrOf_shape → AC2, isInt_shape → ADA
open Option renaming some → aj, none → au
namespace Mine.Internal
open PySem PySem.W PyProof.Rows
set_option maxRecDepth 100000
set_option tactic.hygienic true
noncomputable def view11:Program:={PySem.Challenge.pw_uf010019_11 with main:={PySem.Challenge.pw_uf010019_11.main with body:=PySem.Challenge.pw_uf010019_11.main.body.filter λst=>match st with|.Assign [.Name x _] _ _=>x != ACC "__name__" | _=>true}}
noncomputable def OK(o:Obj):Bool:=match o.data with|.fields vs=>!(vs.size==0)|_=>true
noncomputable def OZ(as:List Addr)(h:Heap):Frag:=as.filterMap λa=>(h.get? a).bind λo=>if OK o=true then aj (a,o) else au
theorem Sa(as:List Addr)(h:Heap):(OZ as h).In h:=by
 intro a o e;unfold OZ at e
 induction as with
 |nil=>cases e
 |cons b l ih =>
  rw[ADD] at e;cases hb:h.get? b with
  |none=>rw[hb] at e;exact ih e
  |some ob =>
   rw[hb] at e;simp only[Option.bind_some] at e;by_cases hn:OK ob=true
   ·simp only[if_pos hn,AC8] at e;split at e
    ·rename_i he
     have:a=b:=by simpa using he
     rw[this,hb];exact e
    ·exact ih e
   ·simp only[if_neg hn] at e;exact ih e
noncomputable def W11:Nat->Value
 |0=>.type "ValueError"
 |1=>.ref 24
 |2=>.ref 37
 |3=>.ref 49
 |4=>.ref 61
 |5=>.ref 73
 |6=>.ref 85
 |7=>.ref 97
 |8=>.ref 109
 |_=>.ref 121
noncomputable def Sp:List (Nat×Str):=[(2,ACC "BadChange"),(5,ACC "Missing"),(6,ACC "NoLine"),(9,ACC "NoNote"),(3,ACC "NotLeaned"),(7,ACC "Other"),(8,ACC "Ring"),(4,ACC "Twice"),(1,ACC "WeaveError")]
noncomputable def isSome(a b:Option Bool):Bool:=match a,b with|some x,aj y=>x==y|_,_=>false
theorem Es{a:Option Bool}{b:Bool}(h:isSome a (aj b)=true):a=aj b:=by
 cases a with
 |none=>cases h
 |some x=>rw[beq_iff_eq.mp (show(x==b)=true from h)]
noncomputable def Qv(a:Option (Option Value))(b:Option Value):Bool:=match a,b with|some (aj x),aj y=>x==y|some au,au=>true|_,_=>false
theorem Jw{a:Option (Option Value)}{b:Option Value}(h:Qv a b=true):a=aj b:=by
 cases a with
 |none=>cases b<;>cases h
 |some x=>cases x with
  |none=>cases b with
   |none=>rfl
   |some y=>cases h
  |some x=>cases b with
   |none=>cases h
   |some y=>rw[beq_iff_eq.mp (show(x==y)=true from h)]
noncomputable def Um(v:Value)(s:String):Bool:=match v with|.builtin x=>x==s|_=>false
theorem Qw{v:Value}{s:String}(h:Um v s=true):v=.builtin s:=by
 cases v with
 |builtin x=>rw[beq_iff_eq.mp (show(x==s)=true from h)]
 |_=>exact(ABB h).elim
noncomputable def Ul(o:Option Builtin.ObjectAttr.Found):Bool:=match o with|some f=>(match f with|.bind g a=>Um g "getset_descriptor.__get__"&&Um a "object.__class__" | _=>false)|none=>false
theorem RS{o:Option Builtin.ObjectAttr.Found}(h:Ul o=true):o=aj (.bind (.builtin "getset_descriptor.__get__") (.builtin "object.__class__")):=by
 cases o with
 |none=>exact(ABB h).elim
 |some f=>cases f with
  |bind g a =>
   have h:=(ACS _ _).mp (show(Um g "getset_descriptor.__get__"&&Um a "object.__class__")=true from h);rw[Qw h.1,Qw h.2]
  |_=>exact(ABB h).elim
noncomputable def UV(K:Frag)(D:Addr):Bool :=
 Qv (findIn K (.ref D) "__getattribute__") (aj (.builtin "BaseException.__getattribute__"))&&Qv (findIn K (.ref D) "__getattr__") au &&
 Ul (findObj K D au "__class__") &&
 isSome (mroIn K D (.type "object")) (aj true)&&isSome (mroIn K D (.type "BaseException")) (aj true)&&(clsIn K D).isSome
noncomputable def Kd(W:Nat->Value)(cn:List (Nat×Str))(cs:List Nat)(ps:List (Nat×Nat))(K:Frag):Bool :=
 K.all (λp=>OK p.2)&&cn.all (λe=>Qv (nsIn K mainGlobals e.2) (aj (W e.1))) &&
 cs.all (λc=>(match W c with|.ref D=>UV K D|_=>false)) &&
 ps.all λp=>isSome (kitOne K (W p.1) (W p.2)) (aj (p.1==p.2||p.2==1||p.2==0))&&(p.2==0||(isSome (kitCls K (W p.1) (W p.2)) (aj (p.1==p.2||p.2==1||p.2==0))&&isSome (kitCls K (W p.2) (.type "BaseException")) (aj true)))
noncomputable def RB:List (Nat×Nat):=[(5,0),(5,1),(5,2),(5,3),(5,4),(5,5),(5,6),(5,7),(5,8),(5,9)]
noncomputable def bL(as:List Addr)(chk:Frag->Bool):Hook :=
 ⟨Bool,λs=>chk (OZ as s.heap),λ_=>true,λ_ h=>∃K:Frag,K.In h/\chk K=true,λ_ s e=>⟨_,Sa as s.heap,e⟩,λ_ _ _ ⟨K,hK,e⟩ hk=>⟨K,λa o q=>hk a o (hK a o q),e⟩⟩
noncomputable def hook11:Hook:=bL (List.range 140) (Kd W11 Sp [5] RB)
noncomputable def Wi(vs:Array Value):Option Addr:=match vs[11]? with|some v=>(match v with|.ref P=>aj P|_=>au)|none=>au
noncomputable def Z3(o:Option Obj):Option Addr:=match o with|some oc=>(match oc.data with|.fields vs=>Wi vs|_=>au)|none=>au
noncomputable def dN(h:Heap)(cd:Value):Option Addr:=match cd with|.ref c=>Z3 (h.get? c)|_=>au
noncomputable def MK(h:Heap)(n:Str):Option Addr:=match h.fnAt mainGlobals n with|some x=>dN h x.2.2.code|none=>au
noncomputable def apB(n m l:Str)(s:Shared):Bool:=match MK s.heap n with|some p=>(match MK s.heap m with|some q=>(match MK s.heap l with|some r=>!(p==q)&&!(p==r)&&!(q==r)|none=>false)|none=>false)|none=>false
def Ip(mg:Str->Option Value)(h:Heap)(n:Str)(P:Addr):Prop:=∃a o fd c oc vs,mg n=aj (.ref a)/\h.get? a=aj o/\o.data=.func fd/\fd.code=.ref c/\h.get? c=aj oc/\oc.data=.fields vs/\vs[11]? = aj (.ref P)
def Ap(n m l:Str)(mg:Str->Option Value)(h:Heap):Prop:=∃P Q R,Ip mg h n P/\Ip mg h m Q/\Ip mg h l R/\P≠Q/\P≠R/\Q≠R
theorem Wh{vs:Array Value}{P:Addr}(e:Wi vs=aj P):vs[11]? = aj (.ref P):=by
 unfold Wi at e;cases h5:vs[11]? with
 |none=>rw[h5] at e;cases e
 |some v =>
  rw[h5] at e;cases v with
  |ref Q=>cases e;rfl
  |_=>cases e
theorem Wk{o:Option Obj}{P:Addr}(e:Z3 o=aj P):∃oc vs,o=aj oc/\oc.data=.fields vs/\vs[11]? = aj (.ref P):=by
 cases o with
 |none=>cases e
 |some oc =>
  have e:(match oc.data with|.fields vs=>Wi vs|_=>au)=aj P:=e;cases h4:oc.data with
  |fields vs=>rw[h4] at e;exact⟨oc,vs,rfl,h4,Wh e⟩
  |_=>rw[h4] at e;cases e
theorem Wj{h:Heap}{cd:Value}{P:Addr}(e:dN h cd=aj P):∃c,cd=.ref c/\Z3 (h.get? c)=aj P:=by
 cases cd with
 |ref c=>exact⟨c,rfl,e⟩
 |_=>cases e
theorem LA{h:Heap}{n:Str}{P:Addr}(e:MK h n=aj P):Ip (h.nsMap mainGlobals) h n P:=by
 unfold MK at e;cases h1:h.fnAt mainGlobals n with
 |none=>rw[h1] at e;cases e
 |some x =>
  obtain⟨a,o,fd⟩:=x;rw[h1] at e;obtain⟨e1,e2,e3⟩:=Heap.fnAt_spec h1;obtain⟨c,h2,e⟩:=Wj e;obtain⟨oc,vs,h3,h4,h5⟩:=Wk e;exact⟨a,o,fd,c,oc,vs,e1,e2,e3,h2,h3,h4,h5⟩
theorem Jj{P Q:Addr}(e:(!(P==Q))=true):P≠Q:=λq=>by subst q;rw[beq_self_eq_true] at e;cases e
theorem cK{n m l:Str}{s:Shared}(e:apB n m l s=true):Ap n m l (s.heap.nsMap mainGlobals) s.heap:=by
 unfold apB at e;cases h1:MK s.heap n with
 |none=>rw[h1] at e;cases e
 |some P =>
  rw[h1] at e;cases h2:MK s.heap m with
  |none=>rw[h2] at e;cases e
  |some Q =>
   rw[h2] at e;cases h3:MK s.heap l with
   |none=>rw[h3] at e;cases e
   |some R =>
    rw[h3] at e;have e:(!(P==Q)&&!(P==R)&&!(Q==R))=true:=e;have e:=AAH.mp e;have f:=AAH.mp e.1;exact⟨P,Q,R,LA h1,LA h2,LA h3,Jj f.1,Jj f.2,Jj e.2⟩
theorem Ip.keeps{mg:Str->Option Value}{h h':Heap}{n:Str}{P:Addr}(x:Ip mg h n P)(hk:∀b o,h.get? b=aj o->h'.get? b=aj o):Ip mg h' n P:=by obtain⟨a,o,fd,c,oc,vs,e1,e2,e3,e4,e5,r⟩:=x;exact⟨a,o,fd,c,oc,vs,e1,hk _ _ e2,e3,e4,hk _ _ e5,r⟩
noncomputable def nm1:Str:=ACC "ordered"
noncomputable def nm2:Str:=ACC "_law_model"
noncomputable def nm3:Str:=ACC "woven"
def XP11(mg:Str->Option Value)(h:Heap):Prop:=XL view11 [] mg h/\Ap nm1 nm2 nm3 mg h
theorem XP11.keeps(mg:Str->Option Value)(h h':Heap)(x:XP11 mg h)(hk:∀b o,h.get? b=aj o->h'.get? b=aj o):XP11 mg h':=by obtain⟨P,Q,R,a,b,d,c⟩:=x.2;exact⟨XL.keeps mg h h' x.1 hk,P,Q,R,a.keeps hk,b.keeps hk,d.keeps hk,c⟩
noncomputable def xt11(s:Shared):Bool:=(xlAt view11 [] s&&recOk (RowW.records (OpenRow.toRowW (PySem.Challenge.rw_uf010019_11.row))) s)&&apB nm1 nm2 nm3 s
theorem xt11_of(s:Shared)(e:xt11 s=true):XP11 (s.heap.nsMap mainGlobals) s.heap:=⟨xl_of s (AAH.mp (AAH.mp e).1).1,cK (AAH.mp e).2⟩
noncomputable def Z9(l:List String):List Str:=l.map ACC
noncomputable def WD:List Str:=Z9 ["is_name","is_line","check_leans","check_deed","check","adds_of","ordered","woven","part","_law_cell","_law_mixed","_law_name","_law_line","_law_leans","_law_marks","_law_deeds","_law_changes","_law_copy","_law_turned","_law_heights","_law_model","_law_mark_like","_law_row_like","_law_told_like","_law_texts_like","_law_one_stands","_law_stands","_law_woven","_law_ground","_law_closed","_law_some","_law_unsettled","_law_questions","_law_known","_law_known_first","_law_alone","_law_refused","_law_wide","_law_hold","_law_held","law"]
noncomputable def fC:List Str:=Z9 ["MOST_NAME","MOST_DEEDS","MOST_LINE","NAME_SIGNS"]
noncomputable def gN:List Str:=Z9 ["WeaveError","BadChange","NotLeaned","Twice","Missing","NoLine","Other","Ring","NoNote","Weave"]
theorem LR:(recsOf view11).map (·.name)=WD:=by kernel_rfl
theorem WL:looseW view11 []=[]:=by kernel_rfl
theorem X7:drecsOf view11=[]:=by kernel_rfl
theorem WU:(litsOf view11).map (·.1)=fC:=by kernel_rfl
theorem XD:(clssOf view11 (looseW view11 [])).map (·.name)=gN:=by kernel_rfl
section
variable{α β γ:Type}{o:Option α}{f:α->β}{b:β}{s:α}{x y:β}{x' y':γ}
theorem got(h:o.map f=aj b)(e:o=aj s):f s=b:=by subst e;exact AAA h
theorem fZ{F:α->γ}{c:γ}(h:o.map f=aj b)(k:∀s,o=aj s->F s=c):o.map F=aj c:=by
 cases o with
 |none=>cases h
 |some s=>exact congrArg aj (k s rfl)
theorem LK(h:x=y)(h':x'=y'):(x,x')=(y,y'):=by subst h;subst h';rfl
theorem TG{g:α->β}{l:List α}{n:Nat}(h1:(l.take n).map f=(l.take n).map g)(h2:(l.drop n).map f=(l.drop n).map g):l.map f=l.map g:=by rw[<-List.take_append_drop n l,AAQ,AAQ,h1,h2]
theorem VB{p:α->Bool}{l:List α}{n:Nat}(h1:(l.take n).all p=true)(h2:(l.drop n).all p=true):l.all p=true:=by rw[<-List.take_append_drop n l,List.all_append,h1,h2];rfl
end
theorem Wy{l:List DefRec}{O:List OwnSpec}{s:Shared}{n:Nat}(h1:(l.take n).map (λd=>s.heap.shapeAt mainGlobals d.name)=(l.take n).map λd=>aj d.shape)(h2:(l.drop n).map (λd=>s.heap.shapeAt mainGlobals d.name)=(l.drop n).map λd=>aj d.shape)(h3:O.all (λo=>s.heap.ownExcOk o.name o.chain o.bm o.newId&&s.heap.quietOk o.name)=true)(h4:s.heap.isNs mainGlobals=true)(h5:s.heap.isNs builtinsNs=true)(h6:(s.heap.noLimitOk&&s.heap.noDigitsOk)=true):seen (l.map (·.name)) O [] {s with gens:=#[]}=⟨l.map λd=>aj d.shape,true,[],true,true,true,0⟩:=by unfold seen;rw[AAE,<-TG h1 h2,h3,h4,h5,h6];rfl
theorem Wg{p:Program}{s:Shared}{nl:List Str}{n:Nat}(hn:(recsOf p).map (·.name)=nl)(h1:(nl.take n).all s.heap.tab0Ok=true)(h2:(nl.drop n).all s.heap.tab0Ok=true)(h3:(s.heap.bmainOk&&valsOk p s.heap&&(!importsNone p||s.heap.noSeerOk))=true):tabsOk p s=true:=by have h:=VB h1 h2;rw[<-hn,List.all_map] at h;unfold tabsOk;rw[show((recsOf p).all λd=>s.heap.tab0Ok d.name)=true from h,Bool.true_and];exact h3
theorem VZ:wdefsOf view11=[]:=by kernel_rfl
theorem VX:wlitsOf view11=[]:=by kernel_rfl
theorem X8:dclssOf view11 []=[]:=by kernel_rfl
theorem Wa:wclssOf view11 []=[]:=by kernel_rfl
theorem Zr(s:Shared):wideSeen view11 s=wideGood view11:=by unfold wideSeen wideGood;rw[VZ,VX];rfl
theorem gM(s:Shared):clsSeenW view11 [] s=clsGoodW view11 []:=by unfold clsSeenW clsGoodW;rw[Wa];rfl
theorem dY(s:Shared):plainSeenD view11 [] s=plainGoodD view11 []:=by unfold plainSeenD plainGoodD;rw[X8];rfl
theorem dZ(s:Shared):pinSeenD view11 (drecsOf view11) s=pinGoodD (drecsOf view11):=by rw[X7];rfl
noncomputable abbrev OH(w:World):Option Shared:=openEnds treeTable PySem.Challenge.rw_uf010019_11.row.toRowW.prog w 5300
theorem WQ:∀w,(OH w).map (λs=>((recsOf view11).take 24).map λd=>s.heap.shapeAt mainGlobals d.name)=aj (((recsOf view11).take 24).map λd=>aj d.shape):=by intro w;kernel_rfl
theorem Qm:∀w,(OH w).map (λs=>((recsOf view11).drop 24).map λd=>s.heap.shapeAt mainGlobals d.name)=aj (((recsOf view11).drop 24).map λd=>aj d.shape):=by intro w;kernel_rfl
theorem WP:∀w,(OH w).map (λs=>((WD.take 24).all s.heap.tab0Ok,s.heap.bltView))=aj ((true,bltViewBooted)):=by intro w;kernel_rfl
theorem WO:∀w,(OH w).map (λs=>(WD.drop 24).all s.heap.tab0Ok)=aj (true):=by intro w;kernel_rfl
theorem WN:∀w,(OH w).map (λs=>(s.heap.keysOk [] WD fC gN&&s.heap.accountedOkI (importedModules PySem.Challenge.rw_uf010019_11.row.toRowW.prog.main.body)&&s.heap.isNs mainGlobals&&s.heap.isNs builtinsNs&&tablesOk view11 s.heap&&xt11 s&&(s.gens.size==0),s.heap.isNs mainGlobals,s.heap.isNs builtinsNs,Hook.obs hook11 s))=aj ((true,true,true,Hook.val hook11 w)):=by intro w;kernel_rfl
theorem WM:∀w,(OH w).map (λs=>(plainSeenE view11 [] s,(ownsOf view11).all (λo=>s.heap.ownExcOk o.name o.chain o.bm o.newId&&s.heap.quietOk o.name)&&(s.heap.noLimitOk&&s.heap.noDigitsOk),s.heap.bmainOk&&valsOk view11 s.heap&&(!importsNone view11||s.heap.noSeerOk)))=aj ((plainGoodE view11 [],true,true)):=by intro w;kernel_rfl
theorem left11:LeftO PySem.Challenge.rw_uf010019_11.row.toRowW.prog view11 [] xt11 (Hook.obs hook11) (Hook.val hook11) 5300:=λw=>by
 have h:(OH w).map (λs=>((seen ((recsOf view11).map (·.name)) (ownsOf view11) [] {s with gens:=#[]},s.heap.bltView,s.heap.keysOk (looseW view11 []) ((recsOf view11).map (·.name)) ((litsOf view11).map (·.1)) ((clssOf view11 (looseW view11 [])).map (·.name))&&s.heap.accountedOkI (importedModules PySem.Challenge.rw_uf010019_11.row.toRowW.prog.main.body)&&s.heap.isNs mainGlobals&&s.heap.isNs builtinsNs&&tablesOk view11 s.heap&&xt11 s&&(s.gens.size==0),tabsOk view11 s,pinSeenD view11 (drecsOf view11) s,plainSeenE view11 (looseW view11 []) s,(plainSeenD view11 [] s,wideSeen view11 s,clsSeenW view11 [] s)),Hook.obs hook11 s))=aj ((expectedOf view11,bltViewBooted,true,true,pinGoodD (drecsOf view11),plainGoodE view11 (looseW view11 []),(plainGoodD view11 [],wideGood view11,clsGoodW view11 [])),Hook.val hook11 w):=fZ (Qm w) λs e=>by have a:=got (WQ w) e;have b:=got (Qm w) e;have c:=got (WP w) e;have c:=ABK c;have d:=got (WO w) e;have k:=got (WN w) e;have k:=ABK k;have k2:=ABK k.2;have k3:=ABK k2.2;have f:=got (WM w) e;have f:=ABK f;have f2:=ABK f.2;have o:=AAH.mp f2.1;rw[XD,WL,LR,WU];exact LK (LK (LR▸Wy a b o.1 k2.1 k3.1 o.2) (LK c.2 (LK k.1 (LK (Wg LR c.1 d f2.2) (LK (dZ s) (LK f.1 (LK (dY s) (LK (Zr s) (gM s))))))))) k3.2
 exact h
theorem said11:PySem.Challenge.rw_uf010019_11.wellSaid=true:=by kernel_rfl
end Mine.Internal
namespace Mine.Internal
set_option backward.match.sparseCases true
set_option tactic.hygienic true
set_option genInjectivity true
section
variable{a b c d x y k:Nat}
theorem Hx(h:a<=b)(e:Nat.ble b c=true):a<=c:=AAC h (ACD e)
theorem YU(h:a<=b)(e:Nat.ble (b+1) c=true):a<c:=AAS h (ACD e)
theorem YT(h:a<b)(e:Nat.ble b c=true):a<c:=ACA h (ACD e)
theorem Of(h:a<b)(e:Nat.ble b (c+1)=true):a<=c:=ACB (ACA h (ACD e))
theorem kX(h:a<=b)(h':b<=c)(e:Nat.ble c d=true):a<=d:=Hx (AAC h h') e
theorem YS(h:a<=b)(h':b<=c)(e:Nat.ble (c+1) d=true):a<d:=YU (AAC h h') e
theorem kW(h:a<=b)(h':b<c)(e:Nat.ble c (d+1)=true):a<=d:=Of (AAS h h') e
theorem Re(h:a=b)(h':b<=c)(e:Nat.ble c d=true):a<=d:=Hx (h▸h') e
theorem kU(h:a=b)(h':b<c):a<c:=h▸h'
theorem Lv(h:a<b)(h':c=b):a<c:=h'▸h
theorem FL(h:c=p+(q+1))(h':c<=b):p<b:=ACA (by rw[h,<-ADG];exact Nat.lt_succ_of_le (AA9 p q)) h'
theorem V2(h:c=p+(q+1))(h':c<=b)(e:Nat.ble b d=true):p<=d:=Hx (ACF (FL h h')) e
theorem jW(h:c=p+(q+1))(h':c<b):p<b:=ABT (FL h (AAL c)) h'
theorem Ls(h:c=p+(q+1))(h1:x<=p)(h':c<=b)(e:Nat.ble b d=true):x<=d:=Hx (AAC h1 (ACF (FL h h'))) e
theorem YL(h:c=p+(q+1))(h1:x<=p)(h':c<=b)(e:Nat.ble b d=true):x<d:=YT (AAS h1 (FL h h')) e
theorem jV(h:c=p+(q+1))(h1:x=p)(h':c<=b)(e:Nat.ble b d=true):x<=d:=Ls h (Nat.le_of_eq h1) h' e
theorem jU(h:p+(q+1)=c)(h':c<=b):p<b:=FL h.symm h'
theorem jT(h:b=p+(q+1)):p<=b:=ACF (FL h (AAL b))
theorem jS(h:a+x=c)(h':c<=b):a<=b:=AAC (by rw[<-h];exact AA9 a x) h'
theorem jR(h:a+1=b)(h':b=c+1):a=c:=Nat.succ.inj (h.trans h')
theorem jQ(h:a+x=0):a=0:=(Nat.add_eq_zero_iff.mp h).1
theorem jP(h:a+1+b=c+1):a+b=c:=by rw[Nat.add_right_comm] at h;exact Nat.succ.inj h
theorem Rf(h:a<=b)(h':c<=d)(e:Nat.ble (b+d) x=true):a+c<=x:=Hx (Nat.add_le_add h h') e
theorem YX(h:a<=b)(h':c<d)(e:Nat.ble (b+d) (x+1)=true):a+c<=x:=Of (Nat.add_lt_add_of_le_of_lt h h') e
theorem Im(h:a<=b)(e:Nat.ble (k*b) x=true):k*a<=x:=Hx (ADC k h) e
theorem YW(h:a<b)(e:Nat.ble (k*b) x=true):k*a<=x:=Im (ACF h) e
theorem V9(h:a<=b):c+a<=c+b:=AC3 h c
theorem lH(h:a<=b)(e:Nat.ble (b+k+1) x=true):a+k<x:=YU (ADB h k) e
theorem lG(h:a<=k*b)(h':b<=c)(e:Nat.ble (k*c) x=true):a<=x:=Hx (AAC h (ADC k h')) e
theorem lF(h:a<=k*b)(h':b<c)(e:Nat.ble (k*c) x=true):a<=x:=lG h (ACF h') e
theorem lE(h:a<=k*b):a<=k*(b+1):=AAC h (ADC k (ADL b))
theorem lD(h:a<=k*b)(h':c<=k):a+c<=k*(b+1):=Nat.add_le_add h h'
theorem lC(h:a<=k*b+c)(h':c<=k):a<=k*(b+1):=AAC h (AC3 h' _)
theorem YV(h:a<=k*b)(hb:b<c)(h1:d<=y)(h2:y<=x)(e:Nat.ble (k*c+x) n=true):a+d<=n:=Rf (AAC h (ADC k (ACF hb))) (AAC h1 h2) e
theorem lB(h:a<=k*b)(h1:d<=y)(h2:y<=k):a+d<=k*(b+1):=lD h (AAC h1 h2)
theorem lA(h:a<=k*b+c)(h1:b<=x)(h2:c<=y)(e:Nat.ble (k*x+y) n=true):a<=n:=Hx (AAC h (Nat.add_le_add (ADC k h1) h2)) e
theorem kZ(h:a<=b):k*a+c<=k*b+c:=ADB (ADC k h) c
theorem kY(h:x<=k*a+c)(h':a<=b):x<=k*b+c:=AAC h (kZ h')
theorem mJ:k+1+n=k+(1+n):=ADG ..
theorem mI:k+1+n=k+(n+1):=by rw[ADG,AC5 1]
theorem mH:n<1+n:=by rw[AC5];exact ADN n
theorem Zd(h:a<b)(e:a=b){P:Prop}:P:=absurd e (ACT h)
theorem kL(h:32<=c/\c<=126):c<128:=AAS h.2 (by decide)
theorem kK(h:a-b=k+1):b<a:=Nat.lt_of_sub_pos (by rw[h];exact ACZ k)
theorem V4(h:a-b=k+1):a-(b+1)=k:=by rw[Nat.sub_succ,h];rfl
theorem YM(h:a-b=0):a<=b:=Nat.le_of_sub_eq_zero h
theorem kJ(h:a-b=0)(h':a=c):c<=b:=h'▸YM h
theorem V3(h:a-b=k+1):b+1<=a:=kK h
theorem kI(h:a=b+(c+d)):min b a=b:=ACL (by rw[h];exact AA9 b _)
theorem kH(h:a=b+(c+d)):min c (a-b)=c:=ACL (by rw[h,Nat.add_sub_cancel_left];exact AA9 c d)
theorem kG(h:a<b):a+1=min (a+1) b:=(ACL h).symm
theorem kF(h:a<=b-1)(h':0<b):a+1<=b:=AAC (ABS h) (Nat.le_of_eq (Nat.sub_add_cancel h'))
theorem kD(h:a<=1)(h':b<=c):a+b<=c+1:=by rw[AC5];exact Nat.add_le_add h' h
theorem kC(h:a=0\/a=1\/a=2):a<3:=by rcases h with rfl|rfl|rfl<;>decide
theorem kB(h:¬ a<b)(h':b=c)(h2:d=c):min b d<=a:=AAC (Nat.min_le_left b d) (ACI h)
theorem jZ(h:¬ a<b):min b x<=a:=AAC (Nat.min_le_left b x) (ACI h)
theorem jY(h:a=b):min a x<=b:=h▸Nat.min_le_left a x
theorem jX(h:a=b)(h1:b=c)(h2:x=c):min a y<=x:=by rw[h,h1,<-h2];exact Nat.min_le_left ..
theorem VA(h:a<b)(h1:b=c)(h2:d=c):a<d:=h2▸h1▸h
theorem Og(h:a<b)(h1:b=c):a<c:=h1▸h
theorem lI(h:a=b)(h1:b=c):c<=a:=Nat.le_of_eq (h.trans h1).symm
end
section
variable{i j k l x y:Int}{n p q c:Nat}
theorem AAG:type_of% @of_decide_eq_true:=@of_decide_eq_true
theorem Oh(h:i<=j)(e:decide (j<=k)=true):i<=k:=Int.le_trans h (AAG e)
theorem Kk(h:i<j)(e:decide (j<=k)=true):i<k:=ADQ h (AAG e)
theorem Rg(h:i<j)(e:decide (j<=k+1)=true):i<=k:=Int.le_of_lt_add_one (ADQ h (AAG e))
theorem Lw(h:j<=i)(e:decide (k<=j)=true):k<=i:=Int.le_trans (AAG e) h
theorem Zc(h:j<=i)(e:decide (k<j)=true):k<i:=ADQ (AAG e) h
theorem Zb(h:j<i)(e:decide (k<=j)=true):k<i:=Int.lt_of_le_of_lt (AAG e) h
theorem Za(h:0<=i):¬ i<0:=Int.not_lt.mpr h
theorem lT(h:i<j):¬ i≥j:=Int.not_le.mpr h
theorem YZ(h:0<=i)(h1:i<j)(e:decide (j<=9223372036854775808)=true):-9223372036854775808<i/\i<9223372036854775808:=⟨Zc h (by decide),Kk h1 e⟩
theorem lS(h0:-1000000000000<i)(h1:i<1000000000000):-9223372036854775808<i/\i<9223372036854775808:=⟨Zb h0 (by decide),Kk h1 (by decide)⟩
theorem lR(h:x<j)(e:decide (k+j<=l+1)=true):k+x<=l:=Rg (Int.add_lt_add_left h k) e
theorem lQ(h:x<j)(e:decide (k+j<=l)=true):k+x<l:=Kk (Int.add_lt_add_left h k) e
theorem lP(h:j<=x)(e:decide (l<=k+j)=true):l<=k+x:=Lw (Int.add_le_add_left h k) e
theorem YY(h:j<=x)(e:decide (l<k+j)=true):l<k+x:=Zc (Int.add_le_add_left h k) e
theorem lO(h:0<=x)(e:decide (0<k)=true):k+x≠0:=λq=>by have:=YY (l:=0) (j:=0) (k:=k) h (by rw[Int.add_zero];exact e);rw[q] at this;exact absurd this (by decide)
theorem lN(h:x<j)(e:decide (l<=k-j+1)=true):l<=k-x:=by have:=AAG e;omega
theorem lM(h:j<=x)(e:decide (k-j<=l)=true):k-x<=l:=by have:=AAG e;omega
theorem lL(h:0<=x)(e:decide (0<=j)=true):0<=x+j:=Int.add_nonneg h (AAG e)
theorem lK(h:0<=x)(h1:0<=y)(e:decide (0<=k)=true):0<=k*x+y:=Int.add_nonneg (Int.mul_nonneg (AAG e) h) h1
theorem lJ(h:0<=x)(e:decide (0<=k)=true):0<=k*x:=Int.mul_nonneg (AAG e) h
theorem Kj(h0:0<=i)(h:i<(n:Int)):i.toNat<n:=by omega
theorem Ob(h:i<=j)(e:Nat.ble j.toNat n=true):i.toNat<=n:=AAC (Int.toNat_le_toNat h) (ACD e)
theorem YK(h:n<i.toNat):(n:Int)<i:=by omega
theorem YJ(h0:0<=i)(h:i.toNat<n):i<(n:Int):=by omega
theorem jO(h0:0<=i)(h:¬ i<(n:Int)):n<=i.toNat:=by omega
theorem jN(h0:0<=x)(h:x<l)(e:Nat.ble (k+l).toNat (n+1)=true):(k+x).toNat<=n:=by have:=ACD e;omega
theorem jM(h0:0<=x)(e:Nat.ble n k.toNat=true):n<=(k+x).toNat:=by have:=ACD e;omega
theorem Ra(h:i<(n:Int))(h':n<=c)(e:Nat.ble c 9000000=true):i<9223372036854775808:=by have:=ACD e;omega
theorem jL(h:i<(n:Int))(h':n<c)(e:Nat.ble c 9000000=true):i<9223372036854775808:=Ra h (ACF h') e
theorem jK(h0:0<=i)(h:i<=j)(h':n=i.toNat):(n:Int)<=j:=by omega
theorem jJ(h:n=i.toNat)(h0:0<=i)(h1:i<=j)(e:Nat.ble j.toNat c=true):n<=c:=h▸Ob h1 e
theorem YI(h:i.toNat=p+(q+1))(h1:i<=j)(e:Nat.ble j.toNat c=true):p<c:=FL h (Ob h1 e)
theorem jI(h:k*i<=x)(h1:n<i.toNat)(e:decide (0<=k)=true):k*((n:Int)+1)<=x:=Int.le_trans (Int.mul_le_mul_of_nonneg_left (by omega) (AAG e)) h
theorem Io(h:c<=n):¬ (n:Int)<(c:Int):=by omega
theorem Rh(h:0<n):(n:Int)≠0:=by omega
theorem Zm(h:0<n):(0:Int)<n:=by omega
theorem Zl:(n:Int)+1≠0:=by omega
theorem Zk:(0:Int)<(n:Int)+1:=by omega
theorem mG:(n:Int)<((n+1:Nat):Int):=by omega
theorem Zj(h:¬ (n:Int)>1):¬ 1<n:=by omega
theorem mF(h:¬ (n:Int)<1):1<=n:=by omega
theorem mE(h:¬ (n:Int)>12):n<=12:=by omega
theorem mC(h:n<=p)(h':p<=c)(e:Nat.ble c 1000000=true):(n:Int)<=1000000:=by have:=ACD e;omega
theorem Zi(h:¬ (n:Int)<4):(0:Int)<n:=by omega
theorem lZ(h:¬ (n:Int)<4):(n:Int)≠0:=by omega
theorem lY(h:i<((p+1:Nat):Int)+(q:Int)):i<(p:Int)+((q+1:Nat):Int):=by omega
theorem lX(h:i<(p:Int)+((q+1:Nat):Int)):i<((p+1:Nat):Int)+(q:Int):=by omega
theorem lW(h:i<((p+1:Nat):Int))(e:¬ i=(p:Int)):i<(p:Int):=by omega
theorem lV(h:(p:Int)<=i)(e:¬ i=(p:Int)):((p+1:Nat):Int)<=i:=by omega
theorem lU:(p:Int)<(p:Int)+((q+1:Nat):Int):=by omega
theorem Zh(h:i<j)(h':j<i){P:Prop}:P:=absurd h (Int.lt_asymm h')
theorem Zg(h:i<j)(h':j=i){P:Prop}:P:=absurd h' (Int.ne_of_gt h)
theorem Zf(h:i+1<=j):i<j:=h
theorem Ze(h:¬ i<j)(h':¬ j<i):i=j:=Int.le_antisymm (Int.not_lt.mp h') (Int.not_lt.mp h)
end
section
variable{a b c i j k l m n x:Nat}{P:Prop}
theorem Oe(h:i<j):j-1<j:=Nat.sub_lt (AAS (ABF i) h) Nat.one_pos
theorem V8(h:i+1<=j):j-1<j:=Oe h
theorem Rd(h:i<j)(h':j<k+1):j-1<k:=ACA (Oe h) (ACB h')
theorem Od(h:i<j):i<=j-1:=Nat.le_sub_one_of_lt h
theorem kT(h:i<j)(e:i=l):l<=j-1:=e▸Od h
theorem V7(h:x<n)(h':n<=s):x-1<s:=AAS (Nat.sub_le x 1) (ACA h h')
theorem kR(h:n>1)(h1:n<=m)(h2:m<=s):n-1<s:=ACA (Oe h) (AAC h1 h2)
theorem kQ(h:l<i)(h':i<j):i-1<j-1:=Nat.sub_lt_sub_right (AAS (ABF l) h) h'
theorem YR:x-(n+1)<=x-1:=Nat.sub_le_sub_left (ACG 1 n) x
theorem YQ(h:i<x-(n+1)):i<x-1:=ACA h YR
theorem V6(h:i<x+1-(n+1+1)):i<x-(n+1):=by rw[Nat.add_sub_add_right] at h;exact h
theorem kP(h:i<x+1-(n+1+1)):i<x-1:=YQ (V6 h)
theorem kO(h:x+1-(n+1+1)<=i):x-(n+1)<=i:=by rw[Nat.add_sub_add_right] at h;exact h
theorem kN(h:i<j)(h':j<x):i<x-(0+1):=ACA h (Od h')
theorem kM(h:x+1-(0+1)<=i)(h':i<x+1):i=x:=ADK (ACB h') h
theorem Oc(h:i<x):b<=b+x-1-i:=by omega
theorem Lu(h:b<=i)(h':i<x):b+x-1-i<x:=by omega
theorem V5(h:i<j)(h':j<x):b+x-1-j<b+x-1-i:=by omega
theorem YO(h:i<x):0+x-1-i<x:=Lu (ABF i) h
theorem YN(h:i<x)(h1:x<=m)(h2:m<=s):0+x-1-i<s:=ACA (YO h) (AAC h1 h2)
theorem Rb(h:b<=i)(h1:i<j)(h':j<x):b+x-1-i<x:=Lu h (ABT h1 h')
theorem V1(h:j<m)(h':j<0\/m<=j):P:=h'.elim (λq=>absurd q (Nat.not_lt_zero j)) λq=>absurd h (AB4.mpr q)
theorem YH(h:i<j)(h1:j<m)(h':i<0\/m<=i):P:=V1 (ABT h h1) h'
theorem YG(h:i<j)(h':j<1):P:=absurd (ACA h (ACB h')) (Nat.not_lt_zero i)
theorem QZ(h:m<=i)(h':i<m):P:=absurd h' (AB4.mpr h)
theorem Lr(h:k+1<=i)(h':i<=k):P:=absurd h (Nat.not_le.mpr (Nat.lt_succ_of_le h'))
theorem jH(h:l<=k)(h1:k+1<=i)(h':i=l):P:=Lr h1 (h'▸h)
theorem jG(h:i<j)(h1:i=l)(h2:j=l):P:=absurd (h1.trans h2.symm) (ACT h)
theorem jF(h:i<j)(h1:l<i)(h2:j=l):P:=absurd (ABT h1 h) (h2▸ABU j)
theorem jE(h:i<j)(h1:j<k+1)(h2:i=l)(h':j<l\/k<j):P:=h'.elim (λq=>absurd (h2▸h) (Nat.lt_asymm q)) λq=>Lr q (ACB h1)
theorem jD(h:i<j)(h1:j<k+1)(h2:l<i)(h':j<l\/k<j):P:=h'.elim (λq=>absurd (ABT h2 h) (Nat.lt_asymm q)) λq=>Lr q (ACB h1)
theorem YF(h:l<=k)(h1:j<k+1)(h':j<l\/k<j):j<k:=h'.elim (λq=>ACA q h) λq=>Lr q (ACB h1)
theorem jC(h:i<j)(h0:j<x)(h1:b<=i)(h':j<b\/x<=j):P:=h'.elim (λq=>absurd (AAS h1 h) (Nat.lt_asymm q)) λq=>QZ q h0
theorem V0(h:i<j)(h0:j<x)(h':i<b\/x<=i):i<b:=h'.elim id λq=>QZ q (ABT h h0)
theorem jB(h:¬ x=l)(h':¬ (l<x/\x<=k)):x<l\/k<x:=(Nat.lt_or_gt_of_ne h).imp id λq=>Nat.lt_of_not_le λq'=>h' ⟨q,q'⟩
theorem jA(h:¬ (b<=x/\x<m)):x<b\/m<=x:=(Nat.lt_or_ge x b).imp id λq=>ACI λq'=>h ⟨q,q'⟩
theorem iZ(h:i<j)(h1:j<k+1)(h2:i<l\/k<i)(h3:l<j):i<j-1:=h2.elim (λq=>ACA q (Od h3)) λq=>Lr (ABT q h) (ACB h1)
theorem iY(h:i<j)(h0:j<x)(h':i<b\/x<=i):i<b+x-1-j:=ACA (V0 h h0 h') (Oc h0)
theorem QY(h:i<n+1)(e:¬ i=n):i<n:=Nat.lt_of_le_of_ne (ACB h) e
theorem iX(h:j<x+1)(h':¬ j<x):j=x:=ADK (ACB h) (ACI h')
theorem QX(h:i<=j)(e:¬ i=j):i<j:=Nat.lt_of_le_of_ne h e
theorem Vz(h:a<=b)(h':b<=c):a<=c:=AAC h h'
theorem iW(h:a<b)(h':b<=c):a<c:=ACA h h'
theorem iV(h:a<b)(h':b<=c):a<=c:=ACF (ACA h h')
theorem YE(h:n+1<=m):1<=m:=AAC (ABS (ABF n)) h
theorem YD(h:1<=b)(h':b<=c):0<c:=AAC h h'
theorem YC(h:a<=b)(e:¬ a=b)(h':b<=c):a<c:=ACA (QX h e) h'
theorem YB(h:¬ n>0):n=0:=Nat.eq_zero_of_not_pos h
theorem iU(h:1<=n)(h':¬ n>1):n=1:=ADK (ACI h') h
theorem iT(h:a<=b)(h':a≥b):a=b:=ADK h h'
theorem iS(h:a<=b)(h':¬ a<b):a=b:=ADK h (ACI h')
theorem iR(h:l<=k):k-(k-l)=l:=Nat.sub_sub_self h
theorem iQ:min (max a n) n=n:=Nat.min_eq_right (Nat.le_max_right a n)
theorem iP(h:k<n):min k n=k:=ACL (ACF h)
theorem YA(h:k<n):min (k+1) n=k+1:=ACL h
theorem iO(h:1<=k)(h':k<=n):min (max k 1) n=k:=by rw[Nat.max_eq_left h];exact ACL h'
theorem Y9(h:a<=n):max a n=n:=Nat.max_eq_right h
theorem iN(h:2<=n):n=n-1+1:=(Nat.sub_add_cancel (ACF h)).symm
theorem iM(h:l<=r)(h':r-l<=k-max 0 k):l=r:=by rw[Nat.max_eq_right (ABF k),ADF] at h';exact ADK h (Nat.le_of_sub_eq_zero (Nat.le_zero.mp h'))
theorem hM(h:¬ l≥r):l<=(l+r) / 2:=by omega
theorem Y5(h:¬ l≥r):(l+r) / 2<r:=by omega
theorem gZ(h:¬ l≥r):(l+r) / 2+1<=r:=Y5 h
theorem Vy(h:¬ l≥r)(h':r<=k):(l+r) / 2<k:=ACA (Y5 h) h'
theorem gY(h:¬ l≥r)(h':r<=k):(l+r) / 2<=k:=ACF (Vy h h')
theorem gX(h:¬ l≥r)(h':r<=k)(h1:k<s):(l+r) / 2<s:=ABT (Vy h h') h1
theorem gW(h:a<=b)(h':c<=b):max a (max c 0)+1<=b+1:=ABS (Nat.max_le.mpr ⟨h,Nat.max_le.mpr ⟨h',ABF b⟩⟩)
theorem gV(h:a<=c)(h1:b<=a+3)(h2:c<=d):b<=d+3:=AAC h1 (ADB (AAC h h2) 3)
theorem gU(h:a+2*b<=c)(h':d<=l):d+a+2*(b+1)<=c+1*(l+2):=by omega
theorem gT(h:n<=12):min i n+1+(n-j)<=16777216/\min i n<=16777215:=by omega
theorem gS(h:a+1+b=m+1)(h':b=c+d):a+c+d=m:=by omega
theorem gR(h:m+1<=x)(h1:a+1+b=m+1)(h':b=c+d)(e:Nat.ble x y=true):a+c<=y:=by have:=ACD e;omega
end
section
variable{i j k l x f:Int}{n p q c:Nat}{P:Prop}
theorem iL(h:0<=i)(h1:i.toNat<n)(e:Nat.ble n 9223372036854775808=true):-9223372036854775808<=i/\i<9223372036854775808:=by have:=ACD e;omega
theorem Y8(h:0<=f/\f<j)(e:decide (k*(l+(j-1))<=x)=true)(e':decide (0<=k)=true):k*(l+f)<=x:=Int.le_trans (Int.mul_le_mul_of_nonneg_left (by omega) (AAG e')) (AAG e)
theorem iK(h:0<=f/\f<j)(e:decide (x<=k*l)=true)(e':decide (0<=k)=true):x<=k*(l+f):=Int.le_trans (AAG e) (Int.mul_le_mul_of_nonneg_left (by omega) (AAG e'))
theorem AAI:type_of% @decide_eq_true:=@decide_eq_true
theorem Y7(h:0<=f/\f<j)(e:Nat.ble (k*(l+(j-1))).toNat n=true)(e':decide (0<=k)=true):(k*(l+f)).toNat<=n:=AAC (Int.toNat_le_toNat (Y8 (x:=k*(l+(j-1))) h (AAI (Int.le_refl _)) e')) (ACD e)
theorem iJ(h:0<=f/\f<j)(h2:p<(k*(l+f)).toNat)(h3:p=m)(e:Nat.ble (k*(l+(j-1))).toNat n=true)(e':decide (0<=k)=true):p=m/\m<n:=⟨h3,h3▸ACA h2 (Y7 h e e')⟩
theorem iI(h:0<=k+(n:Int)):-(n:Int)<=k:=by omega
theorem iH(h:k*(i+1)<=j)(h1:x<k):k*i+x<j:=by rw[Int.mul_add,Int.mul_one] at h;exact ADQ (Int.add_lt_add_left h1 _) h
theorem iG(h:k*(i+1)<=j)(e:decide (0<k)=true):k*i<j:=by rw[Int.mul_add,Int.mul_one] at h;exact ADQ (Int.lt_add_of_pos_right _ (AAG e)) h
theorem iF(h:4*i<=(n:Int))(h1:n<=c)(e:Nat.ble c 1000000=true):i<=1000000:=by have:=ACD e;omega
theorem iE(h:n<c)(h':p<((n:Int)+1).toNat)(e:Nat.ble c q=true):p<q:=by have:=ACD e;omega
theorem iD(h:i<j)(h':j<k):i<k:=Int.lt_trans h h'
theorem iC:(-1:Int)+(n:Int)<(n:Int):=by omega
theorem iB(h:n-1<n):(0:Int) <= -1+(n:Int):=by omega
theorem iA(h:n-1<n):(-1+(n:Int)).toNat=n-1:=by omega
theorem hW(h:0<=i)(h':i<((0:Nat):Int)):P:=absurd h (Int.not_le.mpr h')
theorem Y6(h:1<=n/\n<=c/\P):(0:Int)<n:=Int.natCast_pos.mpr h.1
theorem hV(h:1<=n/\n<=c/\P):(n:Int)≠0:=Int.ne_of_gt (Y6 h)
theorem hU(h:i<=j)(h1:j<=k)(h':i.toNat=p+(q+1))(e:Nat.ble k.toNat c=true):p<c:=YI h' (Int.le_trans h h1) e
end
section
variable{R:Prop}{t0 t1 t2 t3 t4 t5 t6 t7 t8 t9 t10 t11:Type}{A0 B0 C0 D0 E0 F0:Prop}{A1 B1 C1 D1 E1 F1:t0->Prop}{A2 B2 C2 D2 E2 F2:t0->t1->Prop}{A3 B3 C3 D3 E3 F3:t0->t1->t2->Prop}{A4 B4 C4 D4 E4 F4:t0->t1->t2->t3->Prop}{A5 B5 C5 D5 E5:t0->t1->t2->t3->t4->Prop}{A6 B6:t0->t1->t2->t3->t4->t5->Prop}{A7 B7 C7 D7 E7:t0->t1->t2->t3->t4->t5->t6->Prop}{A12:t0->t1->t2->t3->t4->t5->t6->t7->t8->t9->t10->t11->Prop}
theorem oA(h:A0/\B0)(k:A0->B0->R):R:=k h.1 h.2
theorem oAA(h:A0/\B0/\C0)(k:A0->B0->C0->R):R:=k h.1 h.2.1 h.2.2
theorem K2(h:A0/\B0/\C0/\D0)(k:A0->B0->C0->D0->R):R:=k h.1 h.2.1 h.2.2.1 h.2.2.2
theorem ZL(h:A0/\B0/\C0/\∃a,A1 a/\B1 a)(k:A0->B0->C0->∀a,A1 a->B1 a->R):R:=h.2.2.2.elim λa u=>k h.1 h.2.1 h.2.2.1 a u.1 u.2
theorem WB(h:A0/\B0/\∃a b,A2 a b/\B2 a b/\C2 a b)(k:A0->B0->∀a b,A2 a b->B2 a b->C2 a b->R):R:=h.2.2.elim λa u=>u.elim λb u=>k h.1 h.2.1 a b u.1 u.2.1 u.2.2
theorem WA(h:A0/\∃a,A1 a/\B1 a)(k:A0->∀a,A1 a->B1 a->R):R:=h.2.elim λa u=>k h.1 a u.1 u.2
theorem T3(h:A0/\∃a,A1 a/\B1 a/\C1 a)(k:A0->∀a,A1 a->B1 a->C1 a->R):R:=h.2.elim λa u=>k h.1 a u.1 u.2.1 u.2.2
theorem oY(h:A0/\∃a b,A2 a b)(k:A0->∀a b,A2 a b->R):R:=h.2.elim λa u=>u.elim λb u=>k h.1 a b u
theorem EB(h:A0/\∃a b,A2 a b/\B2 a b/\C2 a b/\D2 a b)(k:A0->∀a b,A2 a b->B2 a b->C2 a b->D2 a b->R):R:=h.2.elim λa u=>u.elim λb u=>k h.1 a b u.1 u.2.1 u.2.2.1 u.2.2.2
theorem Qc(h:A0/\∃a b c d,A4 a b c d/\B4 a b c d)(k:A0->∀a b c d,A4 a b c d->B4 a b c d->R):R:=h.2.elim λa u=>u.elim λb u=>u.elim λc u=>u.elim λd u=>k h.1 a b c d u.1 u.2
theorem GY(h:A0/\∃a b c d,A4 a b c d/\B4 a b c d/\C4 a b c d)(k:A0->∀a b c d,A4 a b c d->B4 a b c d->C4 a b c d->R):R:=h.2.elim λa u=>u.elim λb u=>u.elim λc u=>u.elim λd u=>k h.1 a b c d u.1 u.2.1 u.2.2
theorem RE(h:A0/\∃a b c d,A4 a b c d/\B4 a b c d/\C4 a b c d/\D4 a b c d)(k:A0->∀a b c d,A4 a b c d->B4 a b c d->C4 a b c d->D4 a b c d->R):R:=h.2.elim λa u=>u.elim λb u=>u.elim λc u=>u.elim λd u=>k h.1 a b c d u.1 u.2.1 u.2.2.1 u.2.2.2
theorem oE(h:∃a,A1 a)(k:∀a,A1 a->R):R:=h.elim λa h=>k a h
theorem oEA(h:∃a,A1 a/\B1 a)(k:∀a,A1 a->B1 a->R):R:=h.elim λa h=>k a h.1 h.2
theorem AS(h:∃a,A1 a/\B1 a/\C1 a)(k:∀a,A1 a->B1 a->C1 a->R):R:=h.elim λa h=>k a h.1 h.2.1 h.2.2
theorem Nh(h:∃a,A1 a/\B1 a/\C1 a/\D1 a)(k:∀a,A1 a->B1 a->C1 a->D1 a->R):R:=h.elim λa h=>k a h.1 h.2.1 h.2.2.1 h.2.2.2
theorem LO(h:∃a,A1 a/\B1 a/\C1 a/\D1 a/\E1 a)(k:∀a,A1 a->B1 a->C1 a->D1 a->E1 a->R):R:=h.elim λa h=>k a h.1 h.2.1 h.2.2.1 h.2.2.2.1 h.2.2.2.2
theorem LN(h:∃a,A1 a/\B1 a/\C1 a/\D1 a/\E1 a/\F1 a)(k:∀a,A1 a->B1 a->C1 a->D1 a->E1 a->F1 a->R):R:=h.elim λa h=>k a h.1 h.2.1 h.2.2.1 h.2.2.2.1 h.2.2.2.2.1 h.2.2.2.2.2
theorem Jd(h:∃a,A1 a/\B1 a/\∃b,A2 a b)(k:∀a,A1 a->B1 a->∀b,A2 a b->R):R:=h.elim λa h=>h.2.2.elim λb u=>k a h.1 h.2.1 b u
theorem oX(h:∃a,A1 a/\∃b,A2 a b)(k:∀a,A1 a->∀b,A2 a b->R):R:=h.elim λa h=>h.2.elim λb u=>k a h.1 b u
theorem eV(h:∃a,A1 a/\∃b,A2 a b/\B2 a b)(k:∀a,A1 a->∀b,A2 a b->B2 a b->R):R:=h.elim λa h=>h.2.elim λb u=>k a h.1 b u.1 u.2
theorem K1(h:∃a,A1 a/\∃b c d e f g,A7 a b c d e f g/\B7 a b c d e f g/\C7 a b c d e f g/\D7 a b c d e f g/\E7 a b c d e f g)(k:∀a,A1 a->∀b c d e f g,A7 a b c d e f g->B7 a b c d e f g->C7 a b c d e f g->D7 a b c d e f g->E7 a b c d e f g->R):R:=h.elim λa h=>h.2.elim λb u=>u.elim λc u=>u.elim λd u=>u.elim λe u=>u.elim λf u=>u.elim λg u=>k a h.1 b c d e f g u.1 u.2.1 u.2.2.1 u.2.2.2.1 u.2.2.2.2
theorem oEE(h:∃a b,A2 a b)(k:∀a b,A2 a b->R):R:=h.elim λa h=>h.elim λb h=>k a b h
theorem AH(h:∃a b,A2 a b/\B2 a b)(k:∀a b,A2 a b->B2 a b->R):R:=h.elim λa h=>h.elim λb h=>k a b h.1 h.2
theorem Br(h:∃a b,A2 a b/\B2 a b/\C2 a b)(k:∀a b,A2 a b->B2 a b->C2 a b->R):R:=h.elim λa h=>h.elim λb h=>k a b h.1 h.2.1 h.2.2
theorem Fv(h:∃a b,A2 a b/\B2 a b/\C2 a b/\D2 a b)(k:∀a b,A2 a b->B2 a b->C2 a b->D2 a b->R):R:=h.elim λa h=>h.elim λb h=>k a b h.1 h.2.1 h.2.2.1 h.2.2.2
theorem LM(h:∃a b,A2 a b/\B2 a b/\C2 a b/\D2 a b/\E2 a b)(k:∀a b,A2 a b->B2 a b->C2 a b->D2 a b->E2 a b->R):R:=h.elim λa h=>h.elim λb h=>k a b h.1 h.2.1 h.2.2.1 h.2.2.2.1 h.2.2.2.2
theorem T2(h:∃a b,A2 a b/\B2 a b/\C2 a b/\D2 a b/\E2 a b/\F2 a b)(k:∀a b,A2 a b->B2 a b->C2 a b->D2 a b->E2 a b->F2 a b->R):R:=h.elim λa h=>h.elim λb h=>k a b h.1 h.2.1 h.2.2.1 h.2.2.2.1 h.2.2.2.2.1 h.2.2.2.2.2
theorem K0(h:∃a b,A2 a b/\B2 a b/\C2 a b/\∃c d,A4 a b c d/\B4 a b c d/\C4 a b c d/\D4 a b c d/\E4 a b c d/\F4 a b c d)(k:∀a b,A2 a b->B2 a b->C2 a b->∀c d,A4 a b c d->B4 a b c d->C4 a b c d->D4 a b c d->E4 a b c d->F4 a b c d->R):R:=h.elim λa h=>h.elim λb h=>h.2.2.2.elim λc u=>u.elim λd u=>k a b h.1 h.2.1 h.2.2.1 c d u.1 u.2.1 u.2.2.1 u.2.2.2.1 u.2.2.2.2.1 u.2.2.2.2.2
theorem RD(h:∃a b c,A3 a b c)(k:∀a b c,A3 a b c->R):R:=h.elim λa h=>h.elim λb h=>h.elim λc h=>k a b c h
theorem DC(h:∃a b c,A3 a b c/\B3 a b c)(k:∀a b c,A3 a b c->B3 a b c->R):R:=h.elim λa h=>h.elim λb h=>h.elim λc h=>k a b c h.1 h.2
theorem Cr(h:∃a b c,A3 a b c/\B3 a b c/\C3 a b c)(k:∀a b c,A3 a b c->B3 a b c->C3 a b c->R):R:=h.elim λa h=>h.elim λb h=>h.elim λc h=>k a b c h.1 h.2.1 h.2.2
theorem W9(h:∃a b c,A3 a b c/\B3 a b c/\C3 a b c/\D3 a b c)(k:∀a b c,A3 a b c->B3 a b c->C3 a b c->D3 a b c->R):R:=h.elim λa h=>h.elim λb h=>h.elim λc h=>k a b c h.1 h.2.1 h.2.2.1 h.2.2.2
theorem Ng(h:∃a b c,A3 a b c/\B3 a b c/\C3 a b c/\D3 a b c/\E3 a b c)(k:∀a b c,A3 a b c->B3 a b c->C3 a b c->D3 a b c->E3 a b c->R):R:=h.elim λa h=>h.elim λb h=>h.elim λc h=>k a b c h.1 h.2.1 h.2.2.1 h.2.2.2.1 h.2.2.2.2
theorem Em(h:∃a b c,A3 a b c/\B3 a b c/\C3 a b c/\D3 a b c/\E3 a b c/\F3 a b c)(k:∀a b c,A3 a b c->B3 a b c->C3 a b c->D3 a b c->E3 a b c->F3 a b c->R):R:=h.elim λa h=>h.elim λb h=>h.elim λc h=>k a b c h.1 h.2.1 h.2.2.1 h.2.2.2.1 h.2.2.2.2.1 h.2.2.2.2.2
theorem DW(h:∃a b c d,A4 a b c d/\B4 a b c d/\C4 a b c d)(k:∀a b c d,A4 a b c d->B4 a b c d->C4 a b c d->R):R:=h.elim λa h=>h.elim λb h=>h.elim λc h=>h.elim λd h=>k a b c d h.1 h.2.1 h.2.2
theorem GX(h:∃a b c d,A4 a b c d/\B4 a b c d/\C4 a b c d/\D4 a b c d)(k:∀a b c d,A4 a b c d->B4 a b c d->C4 a b c d->D4 a b c d->R):R:=h.elim λa h=>h.elim λb h=>h.elim λc h=>h.elim λd h=>k a b c d h.1 h.2.1 h.2.2.1 h.2.2.2
theorem KP(h:∃a b c d e,A5 a b c d e/\B5 a b c d e/\C5 a b c d e/\D5 a b c d e)(k:∀a b c d e,A5 a b c d e->B5 a b c d e->C5 a b c d e->D5 a b c d e->R):R:=h.elim λa h=>h.elim λb h=>h.elim λc h=>h.elim λd h=>h.elim λe h=>k a b c d e h.1 h.2.1 h.2.2.1 h.2.2.2
theorem OI(h:∃a b c d e,A5 a b c d e/\B5 a b c d e/\C5 a b c d e/\D5 a b c d e/\E5 a b c d e)(k:∀a b c d e,A5 a b c d e->B5 a b c d e->C5 a b c d e->D5 a b c d e->E5 a b c d e->R):R:=h.elim λa h=>h.elim λb h=>h.elim λc h=>h.elim λd h=>h.elim λe h=>k a b c d e h.1 h.2.1 h.2.2.1 h.2.2.2.1 h.2.2.2.2
theorem Nf(h:∃a b c d e f,A6 a b c d e f/\B6 a b c d e f)(k:∀a b c d e f,A6 a b c d e f->B6 a b c d e f->R):R:=h.elim λa h=>h.elim λb h=>h.elim λc h=>h.elim λd h=>h.elim λe h=>h.elim λf h=>k a b c d e f h.1 h.2
theorem Gs(h:∃a b c d e f g i j l m n,A12 a b c d e f g i j l m n)(k:∀a b c d e f g i j l m n,A12 a b c d e f g i j l m n->R):R:=h.elim λa h=>h.elim λb h=>h.elim λc h=>h.elim λd h=>h.elim λe h=>h.elim λf h=>h.elim λg h=>h.elim λi h=>h.elim λj h=>h.elim λl h=>h.elim λm h=>h.elim λn h=>k a b c d e f g i j l m n h
end
section
variable{t0 t1 t2 t3 t4 t5 t6:Type}{A0 B0:Prop}{A1 B1 C1 D1 E1:t0->Prop}{A2 B2 C2 D2 E2 F2:t0->t1->Prop}{A3 B3 C3:t0->t1->t2->Prop}{A4 B4 C4 D4:t0->t1->t2->t3->Prop}{A5:t0->t1->t2->t3->t4->Prop}{A7:t0->t1->t2->t3->t4->t5->t6->Prop}
theorem fQ(h0:A0)(h1:B0)(a:t0)(h2:A1 a):A0/\B0/\∃a,A1 a:=⟨h0,h1,a,h2⟩
theorem fP(h0:A0)(h1:B0)(a:t0)(h2:A1 a)(h3:B1 a):A0/\B0/\∃a,A1 a/\B1 a:=⟨h0,h1,a,h2,h3⟩
theorem iAE(h0:A0)(a:t0)(h1:A1 a):A0/\∃a,A1 a:=⟨h0,a,h1⟩
theorem fO(h0:A0)(a:t0)(h1:A1 a)(h2:B1 a):A0/\∃a,A1 a/\B1 a:=⟨h0,a,h1,h2⟩
theorem bK(h0:A0)(a:t0)(h1:A1 a)(h2:B1 a)(h3:C1 a)(h4:D1 a):A0/\∃a,A1 a/\B1 a/\C1 a/\D1 a:=⟨h0,a,h1,h2,h3,h4⟩
theorem U9(h0:A0)(a:t0)(b:t1)(h1:A2 a b)(h2:B2 a b)(h3:C2 a b):A0/\∃a b,A2 a b/\B2 a b/\C2 a b:=⟨h0,a,b,h1,h2,h3⟩
theorem IE(h0:A0)(a:t0)(b:t1)(h1:A2 a b)(h2:B2 a b)(h3:C2 a b)(h4:D2 a b):A0/\∃a b,A2 a b/\B2 a b/\C2 a b/\D2 a b:=⟨h0,a,b,h1,h2,h3,h4⟩
theorem HQ(h0:A0)(a:t0)(b:t1)(h1:A2 a b)(h2:B2 a b)(h3:C2 a b)(h4:D2 a b)(h5:E2 a b)(h6:F2 a b):A0/\∃a b,A2 a b/\B2 a b/\C2 a b/\D2 a b/\E2 a b/\F2 a b:=⟨h0,a,b,h1,h2,h3,h4,h5,h6⟩
theorem J2(h0:A0)(a:t0)(b:t1)(c:t2)(d:t3)(h1:A4 a b c d)(h2:B4 a b c d)(h3:C4 a b c d):A0/\∃a b c d,A4 a b c d/\B4 a b c d/\C4 a b c d:=⟨h0,a,b,c,d,h1,h2,h3⟩
theorem iEA(a:t0)(h0:A1 a)(h1:B1 a):∃a,A1 a/\B1 a:=⟨a,h0,h1⟩
theorem AB(a:t0)(h0:A1 a)(h1:B1 a)(h2:C1 a):∃a,A1 a/\B1 a/\C1 a:=⟨a,h0,h1,h2⟩
theorem Ii(a:t0)(h0:A1 a)(h1:B1 a)(h2:C1 a)(h3:D1 a):∃a,A1 a/\B1 a/\C1 a/\D1 a:=⟨a,h0,h1,h2,h3⟩
theorem OX(a:t0)(h0:A1 a)(h1:B1 a)(h2:C1 a)(h3:D1 a)(h4:E1 a):∃a,A1 a/\B1 a/\C1 a/\D1 a/\E1 a:=⟨a,h0,h1,h2,h3,h4⟩
theorem U8(a:t0)(h0:A1 a)(h1:B1 a)(b:t1)(h2:A2 a b):∃a,A1 a/\B1 a/\∃b,A2 a b:=⟨a,h0,h1,b,h2⟩
theorem BT(a:t0)(h0:A1 a)(b:t1)(h1:A2 a b)(h2:B2 a b)(h3:C2 a b):∃a,A1 a/\∃b,A2 a b/\B2 a b/\C2 a b:=⟨a,h0,b,h1,h2,h3⟩
theorem iEE(a:t0)(b:t1)(h0:A2 a b):∃a b,A2 a b:=⟨a,b,h0⟩
theorem Eu(a:t0)(b:t1)(h0:A2 a b)(h1:B2 a b):∃a b,A2 a b/\B2 a b:=⟨a,b,h0,h1⟩
theorem Hk(a:t0)(b:t1)(h0:A2 a b)(h1:B2 a b)(h2:C2 a b):∃a b,A2 a b/\B2 a b/\C2 a b:=⟨a,b,h0,h1,h2⟩
theorem Mf(a:t0)(b:t1)(h0:A2 a b)(h1:B2 a b)(h2:C2 a b)(h3:D2 a b):∃a b,A2 a b/\B2 a b/\C2 a b/\D2 a b:=⟨a,b,h0,h1,h2,h3⟩
theorem Fb(a:t0)(b:t1)(c:t2)(h0:A3 a b c):∃a b c,A3 a b c:=⟨a,b,c,h0⟩
theorem DJ(a:t0)(b:t1)(c:t2)(h0:A3 a b c)(h1:B3 a b c)(h2:C3 a b c):∃a b c,A3 a b c/\B3 a b c/\C3 a b c:=⟨a,b,c,h0,h1,h2⟩
theorem KT(a:t0)(b:t1)(c:t2)(d:t3)(h0:A4 a b c d):∃a b c d,A4 a b c d:=⟨a,b,c,d,h0⟩
theorem EG(a:t0)(b:t1)(c:t2)(d:t3)(h0:A4 a b c d)(h1:B4 a b c d)(h2:C4 a b c d):∃a b c d,A4 a b c d/\B4 a b c d/\C4 a b c d:=⟨a,b,c,d,h0,h1,h2⟩
theorem Jz(a:t0)(b:t1)(c:t2)(d:t3)(h0:A4 a b c d)(h1:B4 a b c d)(h2:C4 a b c d)(h3:D4 a b c d):∃a b c d,A4 a b c d/\B4 a b c d/\C4 a b c d/\D4 a b c d:=⟨a,b,c,d,h0,h1,h2,h3⟩
theorem Me(a:t0)(b:t1)(c:t2)(d:t3)(e:t4)(h0:A5 a b c d e):∃a b c d e,A5 a b c d e:=⟨a,b,c,d,e,h0⟩
theorem Hj(a:t0)(b:t1)(c:t2)(d:t3)(e:t4)(f:t5)(g:t6)(h0:A7 a b c d e f g):∃a b c d e f g,A7 a b c d e f g:=⟨a,b,c,d,e,f,g,h0⟩
end
theorem lml{α β:Type}{l:List α}{f:α->β}(h:l.length<=n):(l.map f).length<=n:=AAB (as:=l) f▸h
theorem lmt{α β:Type}{l:List α}{f:α->β}(h:l.length<n):(l.map f).length<n:=AAB (as:=l) f▸h
theorem mm2{α β γ:Type}{l:List α}{f:α->β}{g:β->γ}:aj ((l.map f).map g)=aj (l.map λx=>g (f x)):=congrArg aj AAE
theorem mm3{α β γ:Type}{l:List α}{f:α->β}{g:β->γ}:(l.map f).map g=l.map λx=>g (f x):=AAE
open PySem
theorem JV(h:Q false s):wpAny (model prog w) A (eqBool (.str a t) (.int b u)) Q E s:=by unfold eqBool;refine AA8 ?_;rw[if_neg (show ¬ ((Value.str a t==Value.int b u)=true) fromλq=>nomatch ABM q)];show wpAny _ _ (compareOp .Eq (.str a t) (.int b u)>>=λr=>truthOfDropped r) Q E s;exact AAD (EqMixed.eq_str_int (wpAny_truthy_bool h))
theorem JW(h:Q false s):wpAny (model prog w) A (eqBool (.int b u) (.str a t)) Q E s:=by unfold eqBool;refine AA8 ?_;rw[if_neg (show ¬ ((Value.int b u==Value.str a t)=true) fromλq=>nomatch ABM q)];show wpAny _ _ (compareOp .Eq (.int b u) (.str a t)>>=λr=>truthOfDropped r) Q E s;exact AAD (EqMixed.eq_int_str (wpAny_truthy_bool h))
noncomputable def Dt(prog:Program)(w:World):KeyKind prog w (Str⊕Int) where
 is:=λk v=>match k with|.inl x=>Value.isStrOf x v|.inr i=>Value.isInt i v
 hash:=λk=>match k with|.inl x=>hashStr w x|.inr i=>hashInt i
 inj:=λv a b ha hb=>by
  cases a with
  |inl x =>
   refine oE (AC2 ha) λt q_1=>?_;subst q_1;cases b with
   |inl y=>exact congrArg _ (Value.isStrOf_inj _ _ _ ha hb)
   |inr j=>refine oE (ADA hb) λt' e=>?_;cases e
  |inr i =>
   refine oE (ADA ha) λt q_1=>?_;subst q_1;cases b with
   |inl y=>refine oE (AC2 hb) λt' e=>?_;cases e
   |inr j=>exact congrArg _ (Value.isInt_inj _ _ _ ha hb)
 byValue:=λk v h=>by
  cases k with
  |inl x=>refine oE (AC2 h) λt q_1=>?_;subst q_1;rfl
  |inr i=>refine oE (ADA h) λt q_1=>?_;subst q_1;rfl
 pyHash:=λ{A E s k v Q} hv h=>by
  cases k with
  |inl x=>refine oE (AC2 hv) λt q_1=>?_;subst q_1;exact wpAny_pyHash_str h
  |inr i=>refine oE (ADA hv) λt q_1=>?_;subst q_1;exact wpAny_pyHash_int h
 eqBool:=λ{A E s a b u v Q} hu hv h=>by
  cases a with
  |inl x =>
   refine oE (AC2 hu) λt q_1=>?_;subst q_1;cases b with
   |inl y=>refine oE (AC2 hv) λt' q_1=>?_;subst q_1;exact wpAny_eqBool_str (by simpa using h)
   |inr j=>refine oE (ADA hv) λt' q_1=>?_;subst q_1;exact JV (by simpa using h)
  |inr i =>
   refine oE (ADA hu) λt q_1=>?_;subst q_1;cases b with
   |inl y=>refine oE (AC2 hv) λt' q_1=>?_;subst q_1;exact JW (by simpa using h)
   |inr j=>refine oE (ADA hv) λt' q_1=>?_;subst q_1;rw[show decide ((Sum.inr i:Str⊕Int)=Sum.inr j)=decide (i=j) by simp] at h;exact wpAny_eqBool_int h
 «strs»:=λk x t v h=>by
  cases k with
  |inl y=>exact(strKind prog w).«strs» y x t v h
  |inr i=>refine oE (ADA h) λt' e=>?_;cases e
set_option backward.match.sparseCases false
set_option tactic.hygienic false
set_option genInjectivity false
set_option genCtorIdx true in
inductive V where
 |d (x:PyData)
 |ref (k:Nat)
 |tup (ws:List (PyData⊕Nat))
 |ty (t:String)
 |obj (ks:List Nat)
 |pr (x y:V)
 |exc (k:Nat)
 |ecl (k:Nat)
set_option genCtorIdx true in
inductive O where
 |list (vs:List V)
 |dictS (kvs:List (Str×PyData))
 |dictP (kvs:List ((Str×Int)×PyData))
noncomputable abbrev Ac:=List O
noncomputable abbrev Al:=List (Option V)
noncomputable def line:Nat:=16777216
section
variable{α β:Type}{P:Prop}
theorem Aa(h:au=aj a):P:=nomatch h
theorem I9(h:aj a=au):P:=nomatch h
theorem ff_(h:false=true):P:=nomatch h
theorem tt_(h:true=false):P:=nomatch h
theorem XA(h:a::l=[]):P:=nomatch h
theorem Da(h:m=n)(e:Nat.beq m n=false):P:=by rw[h,Nat.beq_refl] at e;cases e
theorem Aj(h:o=au)(e:o=aj a):P:=Aa (h.symm.trans e)
theorem Ao(h:o=aj a)(e:o=aj b):a=b:=AAA (h.symm.trans e)
theorem ac(h:o.bind f=aj y):∃x,o=aj x/\f x=aj y:=by
 cases o with
 |none=>exact Aa h
 |some x=>exact⟨x,rfl,h⟩
theorem Bo{c:Prop}[Decidable c](h:(if c then aj a else au)=aj b):c/\a=b:=by
 by_cases hc:c
 ·rw[if_pos hc] at h;exact⟨hc,AAA h⟩
 ·rw[if_neg hc] at h;exact Aa h
end
structure Top where
 prog:Program
 w:World
 h0:Heap
 fn:Nat->Option Addr
 tabs:List (Addr×Str)
 gens:Array GenState
 os:OsState
 cls:Addr
 exc:Nat->Option Addr
structure G where
 fz:Addr->Option Obj
 hid:Addr->Option Obj
 mu:List Addr
def CO(fz:Addr->Option Obj)(cl:String)(x:Value)(P:List Value->Prop)(n:Nat):Prop :=
 ∀R_:Value->Prop,(∀(a:Addr) (o:Obj) (vs:Array Value) (m:Nat),fz a=aj o->o.cls=.type cl->o.data=.seq vs m->P vs.toList->n<=line->R_ (.ref a))->R_ x
mutual
noncomputable def AI(fz:Addr->Option Obj):PyData->Value->Prop
 |.none,x=>x=.none
 |.bool b,x=>x=.bool b
 |.int i,x=>∃t,x=.int i t
 |.str s,x=>∃t,x=.str s t/\s.length<=line
 |.list ds,x=>CO fz "list" x (λvs=>RepDs fz ds vs) ds.length
 |.tuple ds,x=>CO fz "tuple" x (λvs=>RepDs fz ds vs) ds.length
 |.dict _,_=>False
noncomputable def RepDs(fz:Addr->Option Obj):List PyData->List Value->Prop
 |[],[]=>True
 |d::ds,v::vs=>AI fz d v/\RepDs fz ds vs
 |_,_=>False
end
noncomputable def Ay{α β:Type}(R:α->β->Prop):List α->List β->Prop
 |[],[]=>True
 |a::as,b::bs=>R a b/\Ay R as bs
 |_,_=>False
section
variable{α β:Type}
theorem Ay.mono(h:∀a b,R a b->S a b):∀{as:List α} {bs:List β},Ay R as bs->Ay S as bs
 |[],[],_=>trivial
 |_::_,_::_,x=>⟨h _ _ x.1,Ay.mono h x.2⟩
 |[],_::_,x=>x
 |_::_,[],x=>x
theorem Ay.length:∀{as:List α} {bs:List β},Ay R as bs->as.length=bs.length
 |[],[],_=>rfl
 |_::_,_::_,x=>congrArg (· + 1) (Ay.length x.2)
 |[],_::_,x=>x.elim
 |_::_,[],x=>x.elim
theorem Ay.get:∀{as:List α} {bs:List β},Ay R as bs->∀{k:Nat} {a:α},as[k]? = aj a->∃b,bs[k]? = aj b/\R a b
 |_::_,b::_,x,0,_,e=>(iEA b rfl (AAA e▸x.1))
 |_::_,_::_,x,k+1,a,e=>Ay.get x.2 (k:=k) (a:=a) e
 |[],[],_,_,_,e=>Aa e
 |[],_::_,x,_,_,_=>x.elim
 |_::_,[],x,_,_,_=>x.elim
theorem Ay.append:∀{as as':List α} {bs bs':List β},Ay R as bs->Ay R as' bs'->Ay R (as++as') (bs++bs')
 |[],_,[],_,_,y=>y
 |_::_,_,_::_,_,x,y=>⟨x.1,Ay.append x.2 y⟩
 |[],_,_::_,_,x,_=>x.elim
 |_::_,_,[],_,x,_=>x.elim
theorem Ay.drop:∀(n:Nat) {as:List α} {bs:List β},Ay R as bs->Ay R (as.drop n) (bs.drop n)
 |0,_,_,h=>h
 |_+1,[],[],_=>trivial
 |n+1,_::_,_::_,h=>Ay.drop n h.2
 |_+1,[],_::_,h=>h.elim
 |_+1,_::_,[],h=>h.elim
theorem Ay.take:∀(n:Nat) {as:List α} {bs:List β},Ay R as bs->Ay R (as.take n) (bs.take n)
 |0,_,_,_=>trivial
 |_+1,[],[],_=>trivial
 |n+1,_::_,_::_,h=>⟨h.1,Ay.take n h.2⟩
 |_+1,[],_::_,h=>h.elim
 |_+1,_::_,[],h=>h.elim
theorem Ay.set:∀(j:Nat) {as:List α} {bs:List β} {a:α} {b:β},Ay R as bs->R a b->Ay R (as.set j a) (bs.set j b)
 |_,[],[],_,_,_,_=>trivial
 |0,_::_,_::_,_,_,h,r=>⟨r,h.2⟩
 |j+1,_::_,_::_,_,_,h,r=>⟨h.1,Ay.set j h.2 r⟩
 |_,[],_::_,_,_,h,_=>h.elim
 |_,_::_,[],_,_,h,_=>h.elim
theorem Ay.cons(h:Ay R (a::as) bs):∃b r,bs=b::r/\R a b/\Ay R as r:=by
 cases bs with
 |nil=>exact h.elim
 |cons b r=>exact Hk b r rfl h.1 h.2
theorem Ay.nil(h:Ay R [] bs):bs=[]:=by
 cases bs with
 |nil=>rfl
 |cons b r=>exact h.elim
theorem Ay.one(h:Ay R [a] bs):∃b,bs=[b]/\R a b:=by exact Br h.cons λb r e h1 h2=>iEA b (by rw[e,h2.nil]) h1
theorem Ay.two(h:Ay R [a,a'] bs):∃b b',bs=[b,b']/\R a b/\R a' b':=by exact Br h.cons λb r e h1 h2=>oEA h2.one λb' e' h3=>Hk b b' (by rw[e,e']) h1 h3
end
noncomputable def HZ(g:G):PyData⊕Nat->Value->Prop
 |.inl x,v=>AI g.fz x v
 |.inr k,v=>∃a,g.mu[k]? = aj a/\v=.ref a
noncomputable def Dq:List Str:=[ACC "held",ACC "grounds",ACC "heights"]
def XN(f:Addr->Option Obj)(a:Addr)(m:Str->Option Value):Prop:=∃o es ep,f a=aj o/\o.data=.dict es ep/\StrKeys es/\UniqKeys es/\∀name,nsFind es name=m name
def mV(T:Top)(g:G)(v:Value)(ks:List Nat):Prop :=
 ∀R_:Value->Prop,(∀(a d:Addr) (o:Obj) (mA:Str->Option Value),g.fz a=aj o->o.cls=.ref T.cls->(∀c,o.data≠.cls c)->o.dict=aj d->d≠a->XN g.fz d mA->(∀nm,nm∉Dq->mA nm=au)->Ay (λ(k:Nat) (nm:Str)=>∃a,g.mu[k]? = aj a/\mA nm=aj (.ref a)) ks Dq->R_ (.ref a))->R_ v
noncomputable def Top.ec(T:Top)(k:Nat):Option Addr:=bif Nat.beq k 0 then aj T.cls else T.exc k
def nX(T:Top)(fz:Addr->Option Obj)(v:Value)(k:Nat):Prop :=
 ∀R_:Value->Prop,(∀(e D:Addr) (o:Obj) (vs:Array Value),fz e=aj o->T.exc k=aj D->o.cls=.ref D->o.dict=au->o.data=.fields vs->R_ (.ref e))->R_ v
noncomputable def Au(T:Top)(g:G):V->Value->Prop
 |.d x,v=>AI g.fz x v
 |.ref k,v=>∃a,g.mu[k]? = aj a/\v=.ref a
 |.tup ws,v=>CO g.fz "tuple" v (λxs=>Ay (HZ g) ws xs) ws.length
 |.ty t,v=>v=.type t
 |.obj ks,v=>mV T g v ks
 |.pr x y,v=>CO g.fz "tuple" v (λxs=>∃a b,xs=[a,b]/\Au T g x a/\Au T g y b) 2
 |.exc k,v=>nX T g.fz v k
 |.ecl k,v=>∃a,T.ec k=aj a/\v=.ref a
def cP(o:Obj)(P:List Value->Prop)(n:Nat):Prop :=
 ∀R_:Obj->Prop,(∀(xs:Array Value) (m:Nat),P xs.toList->n<=line->R_ {cls:=.type "list",dict:=au,data:=.seq xs m,slots:=#[]})->R_ o
def pH(T:Top)(fz:Addr->Option Obj)(o:Obj)(kvs:List (Str×PyData)):Prop :=
 ∀R_:Prop,(∀(es:Array DictEntry) (ep:Nat) (ws:List (Str×Value)),o.ExactDict->o.data=.dict es ep->KeysOf (strKind T.prog T.w) es->Pairs (strKind T.prog T.w) es.toList ws->(ws.map (·.1)).Nodup->Ay (λ(d:Str×PyData) (v:Str×Value)=>d.1=v.1/\AI fz d.2 v.2) kvs ws->kvs.length<=line->R_)->R_
noncomputable def HP(k:Str×Int):List (Str⊕Int):=[.inl k.1,.inr k.2]
def pI(T:Top)(fz:Addr->Option Obj)(o:Obj)(kvs:List ((Str×Int)×PyData)):Prop :=
 ∀R_:Prop,(∀(es:Array DictEntry) (ep:Nat) (ws:List (List (Str⊕Int)×Addr×Value)),o.ExactDict->o.data=.dict es ep->es.toList=ws.map (entryOfKey (tupleKind (Dt T.prog T.w)))->(ws.map (·.1)).Nodup ->
  Ay (λ(d:(Str×Int)×PyData) (v:List (Str⊕Int)×Addr×Value)=>HP d.1=v.1/\AI fz (.tuple [.str d.1.1,.int d.1.2]) (.ref v.2.1)/\AI fz d.2 v.2.2) kvs ws->kvs.length<=line->R_)->R_
noncomputable def DP(T:Top)(g:G):O->Obj->Prop
 |.list vs,o=>cP o (λxs=>Ay (Au T g) vs xs) vs.length
 |.dictS kvs,o=>pH T g.fz o kvs
 |.dictP kvs,o=>pI T g.fz o kvs
def MA(f f':Addr->Option Obj):Prop:=∀a o,f a=aj o->f' a=aj o
structure G.up(g g':G):Prop where
 fz:MA g.fz g'.fz
 mu:∀(k:Nat) (a:Addr),g.mu[k]? = aj a->g'.mu[k]? = aj a
structure G.le(own:List Addr)(g g':G):Prop extends G.up g g' where
 hid:∀a,a∉own->g'.hid a=g.hid a
theorem G.up.refl(g:G):G.up g g:=⟨λ_ _ e=>e,λ_ _ e=>e⟩
theorem G.up.trans(x:G.up g g')(y:G.up g' g''):G.up g g'':=⟨λa o e=>y.fz a o (x.fz a o e),λk a e=>y.mu k a (x.mu k a e)⟩
theorem G.le.refl(own:List Addr)(g:G):G.le own g g:=⟨.refl g,λ_ _=>rfl⟩
theorem G.le.trans(x:G.le own g g')(y:G.le own g' g''):G.le own g g'':=⟨x.toup.trans y.toup,λa h=>(y.hid a h).trans (x.hid a h)⟩
theorem G.le.toO(x:G.le [] g g'):G.le own g g':=⟨x.toup,λa _=>x.hid a AA1⟩
theorem CO.mono(h:MA f f')(hp:∀vs,P vs->P' vs)(r:CO f cl x P n):CO f' cl x P' n :=
 λR_ k=>r R_ λa o vs m hf hc hd hr hl=>k a o vs m (h a o hf) hc hd (hp _ hr) hl
mutual
theorem AI.mono(h:MA f f'):∀(d:PyData) (v:Value),AI f d v->AI f' d v
 |.none,_,x=>x
 |.bool _,_,x=>x
 |.int _,_,x=>x
 |.str _,_,x=>x
 |.list ds,_,x=>CO.mono h (λvs=>RepDs.mono h ds vs) x
 |.tuple ds,_,x=>CO.mono h (λvs=>RepDs.mono h ds vs) x
 |.dict _,_,x=>x
theorem RepDs.mono(h:MA f f'):∀(ds:List PyData) (vs:List Value),RepDs f ds vs->RepDs f' ds vs
 |[],[],_=>trivial
 |d::ds,v::vs,x=>⟨AI.mono h d v x.1,RepDs.mono h ds vs x.2⟩
 |[],_::_,x=>x
 |_::_,[],x=>x
end
theorem RepDs.all:∀{ds:List PyData} {vs:List Value},RepDs f ds vs->Ay (AI f) ds vs
 |[],[],_=>trivial
 |_::_,_::_,x=>⟨x.1,RepDs.all x.2⟩
 |[],_::_,x=>x.elim
 |_::_,[],x=>x.elim
theorem RepDs.of:∀{ds:List PyData} {vs:List Value},Ay (AI f) ds vs->RepDs f ds vs
 |[],[],_=>trivial
 |_::_,_::_,x=>⟨x.1,RepDs.of x.2⟩
 |[],_::_,x=>x.elim
 |_::_,[],x=>x.elim
theorem XN.to(x:XN f a m)(h:MA f f'):XN f' a m:=x.imp λo x=>x.imp λ_ x=>x.imp λ_ x=>⟨h a o x.1,x.2⟩
theorem HZ.mono(h:G.up g g'):∀(w:PyData⊕Nat) (v:Value),HZ g w v->HZ g' w v
 |.inl x,v,r=>AI.mono h.fz x v r
 |.inr k,v,r=>by refine oEA r λa e q=>?_;exact⟨a,h.mu k a e,q⟩
theorem Au.mono(h:G.up g g'):∀(w:V) (v:Value),Au T g w v->Au T g' w v
 |.d x,v,r=>AI.mono h.fz x v r
 |.ref k,v,r=>by refine oEA r λa e q=>?_;exact⟨a,h.mu k a e,q⟩
 |.tup ws,v,r=>CO.mono h.fz (λvs=>Ay.mono (HZ.mono h)) r
 |.ty _,_,r=>r
 |.obj ks,v,r=>λR_ k=>r R_ λa d o mA h1 h2 h3 h4 h5 h6 h7 h8=>k a d o mA (h.fz _ _ h1) h2 h3 h4 h5 (h6.to h.fz) h7 (Ay.mono (λ_ _=>λ⟨a,e,q⟩=>⟨a,h.mu _ a e,q⟩) h8)
 |.pr x y,v,r=>CO.mono h.fz (λvs=>λ⟨a,b,e,h1,h2⟩=>⟨a,b,e,Au.mono h x a h1,Au.mono h y b h2⟩) r
 |.exc k,v,r=>λR_ kk=>r R_ λe D o vs h1 h2 h3 h4 h5=>kk e D o vs (h.fz _ _ h1) h2 h3 h4 h5
 |.ecl _,_,r=>r
noncomputable abbrev As(T:Top)(g:G):List V->List Value->Prop:=Ay (Au T g)
theorem As.mono(h:G.up g g')(r:As T g ws vs):As T g' ws vs:=Ay.mono (Au.mono h) r
theorem Au.eta(r:Au T g w v):Au T ⟨g.fz,hd,g.mu⟩ w v:=Au.mono (g:=g) (g':=⟨g.fz,hd,g.mu⟩) ⟨λ_ _ e=>e,λ_ _ e=>e⟩ w v r
theorem As.eta(r:As T g ws vs):As T ⟨g.fz,hd,g.mu⟩ ws vs:=Ay.mono (λ_ _=>Au.eta) r
theorem DP.mono(h:G.up g g'):∀(o:O) (x:Obj),DP T g o x->DP T g' o x
 |.list vs,_,r=>λR_ k=>r R_ λxs m hr hl=>k xs m (As.mono h hr) hl
 |.dictS kvs,_,r=>λR_ k=>r R_ λes ep ws ho hd hk hp hn hr hl=>k es ep ws ho hd hk hp hn (Ay.mono (λd v r=>⟨r.1,AI.mono h.fz _ _ r.2⟩) hr) hl
 |.dictP kvs,_,r=>λR_ k=>r R_ λes ep ws ho hd he hn hr hl=>k es ep ws ho hd he hn (Ay.mono (λd v r=>⟨r.1,AI.mono h.fz _ _ r.2.1,AI.mono h.fz _ _ r.2.2⟩) hr) hl
theorem As.ofD:∀{ds:List PyData} {vs:List Value},RepDs g.fz ds vs->As T g (ds.map .d) vs
 |[],[],_=>trivial
 |_::_,_::_,x=>⟨x.1,As.ofD x.2⟩
 |[],_::_,x=>x.elim
 |_::_,[],x=>x.elim
theorem As.toD:∀{ds:List PyData} {vs:List Value},As T g (ds.map .d) vs->RepDs g.fz ds vs
 |[],[],_=>trivial
 |_::_,_::_,x=>⟨x.1,As.toD x.2⟩
 |[],_::_,x=>x.elim
 |_::_,[],x=>x.elim
def VF(g:G)(h:Heap)(t:Addr)(q:Str):Prop :=
 ∀R_:Prop,(∀ps:Array Value,g.fz t=au->g.hid t=au->t∉g.mu->h.get? t=aj {cls:=.none,data:=.fields ps}->TriplesOk ps.toList ->
  (∀pos cv,codeAmong pos ps.toList=aj cv->∃c o vs u,cv=.ref c/\g.fz c=aj o/\o.data=.fields vs/\vs[1]? = aj (.str q u))->R_)->R_
noncomputable def frC:Value:=.type "#frame"
def Hd(h:Heap)(a:Addr)(o:Obj):Prop:=∃o',h.get? a=aj o'/\o'.data=o.data/\(o.cls≠frC->o'=o)
theorem Hd.of(e:h.get? a=aj o):Hd h a o:=⟨o,e,rfl,λ_=>rfl⟩
theorem Hd.keep(x:Hd h a o)(k:∀o,h.get? a=aj o->h'.get? a=aj o):Hd h' a o:=x.imp λ_ x=>⟨k _ x.1,x.2⟩
theorem Hd.ex(x:Hd h a o)(n:o.cls≠frC):h.get? a=aj o:=let ⟨_,e,_,q⟩:=x;q n▸e
noncomputable def frO(o:Obj):Obj:={o with cls:=frC}
theorem Hd.fr(e:h.get? a=aj o):Hd h a (frO o):=⟨o,e,rfl,λq=>absurd rfl q⟩
theorem Bn{o:Obj}(h:o.cls=.type t)(n:(t == "#frame")=false):o.cls≠frC:=λq=>ABB (n.symm.trans (beq_iff_eq.mpr (Value.type.inj (h.symm.trans q))))
structure Has(T:Top)(g:G)(U:Ac)(s:Shared):Prop where
 fz:∀a o,g.fz a=aj o->s.heap.get? a=aj o
 hd:∀a o,g.hid a=aj o->Hd s.heap a o
 len:g.mu.length=U.length
 nd:g.mu.Nodup
 ap:∀a,a∈g.mu->g.fz a=au
 ah:∀a o,g.hid a=aj o->g.fz a=au/\a∉g.mu
 ob:∀(k:Nat) (a:Addr) (o:O),g.mu[k]? = aj a->U[k]? = aj o->∀R_:Prop,(∀x,s.heap.get? a=aj x->DP T g o x->R_)->R_
 base:∀a o,T.h0.get? a=aj o->g.fz a=aj o
 tb:∀t q,(t,q)∈T.tabs->VF g s.heap t q
 gens:s.gens=T.gens
 os:s.os=T.os
def CI(T:Top)(own:List Addr)(g:G)(U':Ac)(R:G->Prop)(s':Shared):Prop:=∀R_:Prop,(∀g',G.le own g g'->Has T g' U' s'->R g'->R_)->R_
theorem CI.mk(g':G)(le:G.le own g g')(h:Has T g' U' s')(r:R g'):CI T own g U' R s':=λ_ k=>k g' le h r
theorem CI.after(le:G.le own g ai)(h:CI T own ai U' R s'):CI T own g U' R s':=λR_ k=>h R_ λg' l a r=>k g' (le.trans l) a r
theorem BA(h:Heap):h.get? h.objs.size=au:=ABO (AAL _)
theorem Bd:line=sizeLine:=by unfold sizeLine;rfl
structure Dw(T:Top)(g:G)(a:Addr):Prop where
 fz:g.fz a=au
 hid:g.hid a=au
 mu:a∉g.mu
 tab:∀q,(a,q)∉T.tabs
section
variable{T:Top}{own:List Addr}{g:G}{U:Ac}{s s':Shared}{a:Addr}{o:Obj}
theorem Has.muAlive(H:Has T g U s)(h:a∈g.mu):∃o,s.heap.get? a=aj o:=by obtain⟨k,hk,e⟩:=List.mem_iff_getElem.mp h;have hσ:=H.len▸hk;exact H.ob k a U[k] (by rw[AAN hk,e]) (AAN hσ) _ λx hx _=>⟨x,hx⟩
theorem EC{α:Type}{o:Option α}(h:∀a,o=aj a->False):o=au:=by
 cases o with
 |none=>rfl
 |some a=>exact(h a rfl).elim
theorem VF.at{h:Heap}{t:Addr}{q:Str}(x:VF g h t q):∃o,h.get? t=aj o:=x _ λ_ _ _ _ ho _ _=>⟨_,ho⟩
theorem Has.free(H:Has T g U s)(h:s.heap.get? a=au):Dw T g a :=
 ⟨EC λo e=>Aj h (H.fz a o e),EC λo e=>let ⟨_,q,_⟩:=H.hd a o e;Aj h q,λq=>by refine oE (H.muAlive q) λo e=>?_;exact Aj h e,λq m=>by refine oE ((H.tb _ _ m).at) λo e=>?_;exact Aj h e⟩
theorem Has.hidTab(H:Has T g U s)(e:g.hid a=aj o)(q:Str):(a,q)∉T.tabs:=λm=>H.tb _ _ m _ λ_ _ h2 _ _ _ _=>Aj h2 e
theorem Has.re(H:Has T g U s)(hd:Addr->Option Obj)(hh:∀a o,hd a=aj o->Hd s'.heap a o/\g.fz a=au/\a∉g.mu/\∀q,(a,q)∉T.tabs)
 (kf:∀b o,g.fz b=aj o->s.heap.get? b=aj o->s'.heap.get? b=aj o) (km:∀b o,b∈g.mu->s.heap.get? b=aj o->s'.heap.get? b=aj o) (kt:∀t q o,(t,q)∈T.tabs->s.heap.get? t=aj o->s'.heap.get? t=aj o)
 (hg:s'.gens=s.gens) (ho:s'.os=s.os):Has T ⟨g.fz,hd,g.mu⟩ U s':=by
 have up:G.up g ⟨g.fz,hd,g.mu⟩:=⟨λ_ _ e=>e,λ_ _ e=>e⟩
 refine⟨λa o e=>kf a o e (H.fz a o e),λa o e=>(hh a o e).1,H.len,H.nd,H.ap,λa o e=>⟨(hh a o e).2.1,(hh a o e).2.2.1⟩,λk a o e1 e2 R_ r=>H.ob k a o e1 e2 R_ λx h1 h2=>r x (km a x (AA5 e1) h1) (DP.mono up _ _ h2),H.base,
  λt q m R_ r=>H.tb t q m R_ λps h1 h2 h3 h4 h5 h6=>r ps h1 (EC λo e=>(hh _ o e).2.2.2 q m) h3 (kt t q _ m h4) h5 h6,hg.trans H.gens,ho.trans H.os⟩
theorem Has.keep(H:Has T g U s)(k:∀b o,s.heap.get? b=aj o->s'.heap.get? b=aj o)(hg:s'.gens=s.gens:=by rfl)(ho:s'.os=s.os:=by rfl):Has T g U s' :=
 H.re g.hid (λa o e=>⟨(H.hd a o e).keep (k _),(H.ah a o e).1,(H.ah a o e).2,H.hidTab e⟩) (λb o _ e=>k b o e) (λb o _ e=>k b o e) (λt q o _ e=>k _ o e) hg ho
theorem Has.tok(H:Has T g U s)(h:s'.heap=s.heap:=by rfl)(hg:s'.gens=s.gens:=by rfl)(ho:s'.os=s.os:=by rfl):Has T g U s':=H.keep (λb o e=>h▸e) hg ho
noncomputable def G.hide(g:G)(a:Addr)(o:Obj):G:=⟨g.fz,λb=>if b=a then aj o else g.hid b,g.mu⟩
theorem G.hide_self{g:G}:(g.hide a o).hid a=aj o:=if_pos rfl
theorem G.hide_ne{g:G}(h:b≠a):(g.hide a o).hid b=g.hid b:=if_neg h
theorem G.le.hide(h:a∈own):G.le own g (g.hide a o):=⟨⟨λ_ _ e=>e,λ_ _ e=>e⟩,λb hb=>G.hide_ne λq=>hb (q▸h)⟩
theorem Has.hideH(H:Has T g U s)(h1:g.fz a=au)(h2:a∉g.mu)(h3:∀q,(a,q)∉T.tabs)(k:∀b x,b≠a->s.heap.get? b=aj x->s'.heap.get? b=aj x)(h:Hd s'.heap a o)(hg:s'.gens=s.gens:=by rfl)(ho:s'.os=s.os:=by rfl):Has T (g.hide a o) U s':=by
 refine H.re _ (λb x e=>?_) (λb x e e'=>k b x (λq=>Aj h1 (q▸e)) e') (λb x e e'=>k b x (λq=>h2 (q▸e)) e') (λt q x m e=>k _ x (λe'=>h3 q (e'▸m)) e) hg ho;by_cases q:b=a
 ·rw[if_pos q] at e;rw[q,<-AAA e];exact⟨h,h1,h2,h3⟩
 ·rw[if_neg q] at e;exact⟨(H.hd b x e).keep λx=>k b x q,(H.ah b x e).1,(H.ah b x e).2,H.hidTab e⟩
theorem Has.hide(H:Has T g U s)(h1:g.fz a=au)(h2:a∉g.mu)(h3:∀q,(a,q)∉T.tabs)(k:∀b x,b≠a->s.heap.get? b=aj x->s'.heap.get? b=aj x)(h:s'.heap.get? a=aj o)(hg:s'.gens=s.gens:=by rfl)(ho:s'.os=s.os:=by rfl):Has T (g.hide a o) U s':=H.hideH h1 h2 h3 k (.of h) hg ho
theorem Dw.hide(F:Dw T g a)(H:Has T g U s)(h:s.heap.get? a=aj o):Has T (g.hide a o) U s:=H.hide F.fz F.mu F.tab (λ_ _ _ e=>e) h
theorem Has.rehideH(H:Has T g U s)(e:g.hid a=aj aP)(k:∀b x,b≠a->s.heap.get? b=aj x->s'.heap.get? b=aj x)(h:Hd s'.heap a o)(hg:s'.gens=s.gens:=by rfl)(ho:s'.os=s.os:=by rfl):Has T (g.hide a o) U s':=H.hideH (H.ah a _ e).1 (H.ah a _ e).2 (H.hidTab e) k h hg ho
theorem Has.rehide(H:Has T g U s)(e:g.hid a=aj aP)(k:∀b x,b≠a->s.heap.get? b=aj x->s'.heap.get? b=aj x)(h:s'.heap.get? a=aj o)(hg:s'.gens=s.gens:=by rfl)(ho:s'.os=s.os:=by rfl):Has T (g.hide a o) U s' :=
 H.hide (H.ah a _ e).1 (H.ah a _ e).2 (H.hidTab e) k h hg ho
theorem Has.back(H:Has T g' U s)(le:G.le (its++own) g g')(hn:∀c,c∈its->g.hid c=au)(k:∀c o,c∉its->s.heap.get? c=aj o->s'.heap.get? c=aj o)(hf:∀c,c∈its->g'.fz c=au/\c∉g'.mu/\∀q,(c,q)∉T.tabs)
 (hg:s'.gens=s.gens:=by rfl) (ho:s'.os=s.os:=by rfl):∃hd,Has T ⟨g'.fz,hd,g'.mu⟩ U s'/\G.le own g ⟨g'.fz,hd,g'.mu⟩/\∀c,c∉its->hd c=g'.hid c:=by
 refine(AB (λc=>@ite _ (c∈its) (ACE _) au (g'.hid c)) (H.re _ (λa o e=>?_) (λb o e e'=>k b o (λq=>Aj (hf b q).1 e) e') (λb o e e'=>k b o (λq=>(hf b q).2.1 e) e') (λt q o m e=>k _ o (λh=>(hf _ h).2.2 q m) e) hg ho) ⟨⟨le.fz,le.mu⟩,λc hc=>?_⟩ (λc hc=>if_neg hc))
 ·by_cases q:a∈its
  ·rw[if_pos q] at e;exact Aa e
  ·rw[if_neg q] at e;exact⟨(H.hd a o e).keep λo=>k a o q,(H.ah a o e).1,(H.ah a o e).2,H.hidTab e⟩
 ·show@ite _ (c∈its) (ACE _) au (g'.hid c)=_;by_cases q:c∈its
  ·rw[if_pos q,hn c q]
  ·exact(if_neg q)▸(le.hid c λh=>(AA0.mp h).elim q hc)
noncomputable def G.put(g:G)(a:Addr)(o:Obj):G:=⟨λb=>if b=a then aj o else g.fz b,g.hid,g.mu⟩
theorem G.put_self{g:G}:(g.put a o).fz a=aj o:=if_pos rfl
theorem G.le.put(h:g.fz a=au):G.le own g (g.put a o) :=
 ⟨⟨λb x e=>by show(if b=a then aj o else g.fz b)=aj x;rw[if_neg (λq=>by rw[q,h] at e;exact Aa e)];exact e,λ_ _ e=>e⟩,λ_ _=>rfl⟩
theorem Dw.put(F:Dw T g a)(H:Has T g U s)(h:s.heap.get? a=aj o):Has T (g.put a o) U s:=by
 have le:G.le [] g (g.put a o):=.put F.fz;have ne:∀{b:Addr},b≠a->(g.put a o).fz b=g.fz b:=λq=>if_neg q;refine⟨λb x e=>?_,H.hd,H.len,H.nd,λb hb=>(ne λq=>F.mu (q▸hb)).trans (H.ap b hb),λb x e=>⟨(ne λq=>Aj F.hid (q▸e)).trans (H.ah b x e).1,(H.ah b x e).2⟩,λk b x e1 e2 R_ r=>H.ob k b x e1 e2 R_ λy h1 h2=>r y h1 (DP.mono le.toup _ _ h2),λb x e=>le.fz b x (H.base b x e),λt q m R_ r=>H.tb t q m R_ λps h1 h2 h3 h4 h5 h6=>r ps ((ne λe=>F.tab q (e▸m)).trans h1) h2 h3 h4 h5 λpos cv e=>?_,H.gens,H.os⟩
 ·by_cases q:b=a
  ·rw[q] at e ⊢;rw[<-AAA (G.put_self.symm.trans e)];exact h
  ·rw[ne q] at e;exact H.fz b x e
 ·exact DW (h6 pos cv e) λc o vs t q1 q2 q3=>EG c o vs t q1 (le.fz _ _ q2) q3
noncomputable def G.add(g:G)(a:Addr):G:=⟨g.fz,g.hid,g.mu++[a]⟩
theorem G.le.add:G.le own g (g.add a) :=
 ⟨⟨λ_ _ e=>e,λk b e=>by show(g.mu++[a])[k]? = aj b;rw[ABE (AAM.mp e).1];exact e⟩,λ_ _=>rfl⟩
theorem Has.addAt(H:Has T g U s):(g.add a).mu[U.length]? = aj a:=by show(g.mu++[a])[U.length]? = aj a;rw[<-H.len,AA6 (AAL _),ADF];rfl
theorem Ha{α:Type}{l:List α}{a b:α}(h:b∈l++[a]):b∈l\/b=a:=(AA0.mp h).imp id AAJ.mp
theorem Dw.add{ob:O}(F:Dw T g a)(H:Has T g U s)(h:s.heap.get? a=aj o)(hr:DP T (g.add a) ob o):Has T (g.add a) (U++[ob]) s:=by
 refine⟨H.fz,H.hd,by show(g.mu++[a]).length=_;rw[AAF,AAF,H.len];rfl,?_,λb hb=>(Ha hb).elim (H.ap b) λq=>q▸F.fz,λb x e=>⟨(H.ah b x e).1,λhb=>(Ha hb).elim (H.ah b x e).2 λq=>Aj F.hid (q▸e)⟩,λk b y e1 e2 R_ r=>?_,H.base,λt q m R_ r=>H.tb t q m R_ λps h1 h2 h3 h4 h5 h6=>r ps h1 h2 (λh=>(Ha h).elim h3 λe=>F.tab q (e▸m)) h4 h5 h6,H.gens,H.os⟩
 ·exact ABW.mpr ⟨H.nd,ABX.mpr ⟨AA1,ABY⟩,λx hx y hy q=>F.mu (AAJ.mp hy▸q▸hx)⟩
 ·have e1':(g.mu++[a])[k]? = aj b:=e1;by_cases hkl:k<U.length
  ·rw[ABE (H.len.symm▸hkl)] at e1';rw[ABE hkl] at e2;exact H.ob k b y e1' e2 R_ λz h1 h2=>r z h1 (DP.mono (G.le.add (own:=[])).toup _ _ h2)
  ·have hk':=by have:=(AAM.mp e2).1;rw[AAF] at this;exact ADK (ACB this) (ACI hkl)
   rw[hk'] at e1 e2;have e3:(U++[ob])[U.length]? = aj ob:=List.getElem?_concat_length;rw[<-Ao H.addAt e1,<-Ao e3 e2] at r;exact r o h hr
theorem Has.turn{ob:O}(H:Has T g U s)(hk:g.mu[k]? = aj a)(hs:∀b x,b≠a->s.heap.get? b=aj x->s'.heap.get? b=aj x)(hx:s'.heap.get? a=aj o)(hr:DP T g ob o)(hg:s'.gens=s.gens:=by rfl)(ho:s'.os=s.os:=by rfl):Has T g (U.set k ob) s':=by
 have hm:=AA5 hk;refine⟨λb x e=>hs b x (λq=>Aj (H.ap a hm) (q▸e)) (H.fz b x e),λb x e=>(H.hd b x e).keep λy=>hs b y λq=>(H.ah b x e).2 (q▸hm),by rw[AB0];exact H.len,H.nd,H.ap,H.ah,λj b y e1 e2 R_ r=>?_,H.base,λt q m R_ r=>H.tb t q m R_ λps h1 h2 h3 h4 h5 h6=>r ps h1 h2 h3 (hs _ _ (λq=>h3 (q▸hm)) h4) h5 h6,hg.trans H.gens,ho.trans H.os⟩
 ·by_cases q:j=k
  ·rw[q] at e1 e2;have hkl:=H.len▸(AAM.mp hk).1;rw[<-Ao hk e1,<-Ao (AB1 hkl) e2] at r;exact r o hx hr
  ·rw[ADJ (λh=>q h.symm)] at e2;refine H.ob j b y e1 e2 R_ λz h1 h2=>r z (hs b z (λq'=>q ?_) h1) h2;obtain⟨l1,m1⟩:=AAM.mp e1;obtain⟨l2,m2⟩:=AAM.mp hk;exact(List.getElem_inj H.nd).mp (m1.trans (q'.trans m2.symm))
end
set_option genCtorIdx true in
inductive S0 where
 |append|join|index|insert|pop|extend|remove|clear|get
set_option genCtorIdx true in
inductive Bi where
 |len|sorted|min|isinstance|str|all|any|list|max|ord|int|repr
inductive E where
 |cst (x:PyData)
 |var (i:Nat)
 |ty (t:String)
 |glb (x:PyData)
 |bin (op:Operator) (a b:E)
 |neg (a:E)
 |not (a:E)
 |bop (op:BoolOp) (es:E)
 |cmp (op:CmpOp) (a b:E)
 |nil
 |cons (a r:E)
 |tup (es:E)
 |lst (es:E)
 |dct
 |sub (a i:E)
 |slc (a lo hi:E)
 |bi (b:Bi) (es:E)
 |maxd (a z:E)
 |sortr (a:E)
 |sortk (rev:Bool) (a:E) (i:Nat) (key:E)
 |fcall (f:Nat) (es:E)
 |meth (m:S0) (o es:E)
 |attr (nm:Str) (o:E)
 |mcall (nm:Str) (o es:E)
 |new
 |comp (elt:E) (ts:List Nat) (it ifs:E)
 |range (es:E)
 |zip (a b:E)
 |enum (a:E)
 |glx (k:Nat)
inductive S where
 |any
 |nil
 |cons (s r:S)
 |asg (x:Nat) (e:E)
 |unp (xs:List Nat) (e:E)
 |swp (xs:List Nat) (es:E)
 |set (o i v:E)
 |exp (e:E)
 |ite (c:E) (a b:S)
 |for_ (ts:List Nat) (it:E) (body:S)
 |while_ (c:E) (body:S)
 |ret (e:E)
 |setd (x:Nat) (nm:Str)
 |swl (i j l:Nat) (es:E)
 |rse (k:Nat) (es:E)
 |tryAs (b:S) (hs:List (Nat×Nat×E))
set_option genCtorIdx true in
inductive GV where
 |fn (f:Nat)
 |bi (b:Bi)
 |ty (t:String)
 |cst (x:PyData)
 |cls
 |exc (k:Nat)
structure Kx where
 vars:List Str
 names:List (Str×NameKind)
 wr:List Str
 gl:Str->Option GV
 lam:Option (Addr×Str)
noncomputable def Kx.kd(K:Kx)(n:Str)(k:NameKind):Bool:=decide (K.names.lookup n=aj k)
noncomputable def Kx.isVar(K:Kx)(n:Str):Bool:=(K.kd n .local||(K.kd n .cell||K.kd n .free))&&!(n==("__debug__" : Str))&&!(n==("__classdict__" : Str))
noncomputable def Kx.isGl(K:Kx)(n:Str):Bool:=K.kd n .globalImplicit&&!(n==("__debug__" : Str))
noncomputable def Kx.canWr(K:Kx)(i:Nat)(n:Str):Bool:=decide (K.vars[i]? = aj n)&&K.wr.contains n&&(K.kd n .local||K.kd n .cell)
theorem Kx.kd_eq{K:Kx}(h:K.kd n k=true):K.names.lookup n=aj k:=AAG h
noncomputable def Kx.isAt(K:Kx)(i:Nat)(n:Str):Bool:=match K.vars[i]? with|some m=>m==n|none=>false
noncomputable def toC(x:PyData):Const:=match x with|.bool b=>.bool b|.int i=>.int i|.str t=>.str t|_=>.none
noncomputable def cOk(x:PyData):Bool:=match x with|.none=>true|.bool _=>true|.int _=>true|.str t=>decide (t.cps.size<=16777216)|_=>false
noncomputable def Ka(x y:PyData):Bool :=
 match x with
 |.int a=>(match y with|.int b=>a==b|_=>false)
 |.str a=>(match y with|.str b=>a==b|_=>false)
 |_=>false
noncomputable def fR(v w:GV):Bool :=
 match v with
 |.fn f=>(match w with|.fn f'=>f==f'|_=>false)
 |.bi f=>(match w with|.bi f'=>Nat.beq f.ctorIdx f'.ctorIdx|_=>false)
 |.ty f=>(match w with|.ty f'=>f==f'|_=>false)
 |.cst x=>(match w with|.cst y=>Ka x y|_=>false)
 |.cls=>(match w with|.cls=>true|_=>false)
 |.exc f=>(match w with|.exc f'=>f==f'|_=>false)
noncomputable def G9(K:Kx)(v:GV)(n:Str):Bool:=K.isGl n&&(match K.gl n with|some w=>fR w v|none=>false)
noncomputable def Fw:S0->String
 |.append => "append" | .join => "join" | .index => "index" | .insert => "insert" | .pop => "pop" | .extend => "extend" | .remove => "remove" | .clear => "clear" | .get => "get"
noncomputable def BH(e:E):Bool:=match e with|.comp _ _ _ _=>true|_=>false
noncomputable def D9(env:List (Str×NameKind))(names:List (Str×NameKind)):List (Str×NameKind) :=
 names.map λ(n,k)=>if (k==.free&&env.lookup n==aj .cell) then(n,.cell) else(n,k)
noncomputable def OL(K:Kx)(ts:List Nat)(p:Str×NameKind):Bool :=
 (decide (p.2=.local)&&(p.1==(".0" : Str)||ts.any λi=>decide (K.vars[i]? = aj p.1)))||((decide (p.2=.free)&&(K.kd p.1 .cell||K.kd p.1 .free))||decide (p.2=.globalImplicit))
noncomputable def IA(K:Kx)(ts:List Nat)(sc:Scope):Bool :=
 decide (sc.kind=.function)&&sc.names.all (OL K ts) &&
 sc.names.all (λp=>decide (sc.names.lookup p.1=aj p.2)) &&
 !K.vars.contains (".0" : Str) &&
 ts.all (λi=>match K.vars[i]? with|some m=>decide (sc.names.lookup m=aj .local)|none=>false)
noncomputable def Kx.sub(K:Kx)(ts:List Nat)(sc:Scope):Kx:={K with names:=D9 K.names sc.names,wr:=ts.filterMap (λi=>K.vars[i]?),lam:=au}
noncomputable def Qj(K:Kx)(nm:Str)(p:Str×NameKind):Bool :=
 (decide (p.2=.local)&&p.1==nm)||((decide (p.2=.free)&&(K.kd p.1 .cell||K.kd p.1 .free))||decide (p.2=.globalImplicit))
noncomputable def Ua(K:Kx)(i:Nat)(nm:Str)(sc:Scope):Bool :=
 K.lam.isSome&&(K.isAt i nm&&(decide (sc.kind=.function)&&(!sc.isGenerator&&(!sc.isCoroutine&&(sc.names.all (Qj K nm)&&(sc.names.all (λp=>decide (sc.names.lookup p.1=aj p.2))&&decide (sc.names.lookup nm=aj .local)))))))
noncomputable def Kx.lsub(K:Kx)(nm:Str)(sc:Scope):Kx:={K with names:=sc.names,wr:=[nm],lam:=au}
noncomputable def Ga(nm:Str)(ap:Pos):Arguments:=⟨[],[⟨nm,au,ap⟩],au,[],[],au,[]⟩
noncomputable def gvE(k:Nat):GV:=bif Nat.beq k 0 then .cls else .exc k
noncomputable def cI(b:Bi):GV:=match b with|.str=>.ty "str" | .list=>.ty "list" | .int=>.ty "int" | b=>.bi b
def nO(x:PyData)(x_:Expr):Prop:=∀R_:Expr->Prop,(∀(k:Nat) (p:Pos),cOk x=true->R_ (.Constant (toC x) k p))->R_ x_
def XV(P:Str->Prop)(x_:Expr):Prop:=∀R_:Expr->Prop,(∀(n:Str) (p:Pos),P n->R_ (.Name n p))->R_ x_
def nR(op:Operator)(A B:Expr->Prop)(x_:Expr):Prop:=∀R_:Expr->Prop,(∀(l r:Expr) (p:Pos),A l->B r->R_ (.BinOp l op r p))->R_ x_
def mX(op:UnaryOp)(A:Expr->Prop)(x_:Expr):Prop:=∀R_:Expr->Prop,(∀(x:Expr) (p:Pos),A x->R_ (.UnaryOp op x p))->R_ x_
def nQ(op:BoolOp)(A:List Expr->Prop)(x_:Expr):Prop:=∀R_:Expr->Prop,(∀(vs:List Expr) (p:Pos),A vs->R_ (.BoolOp op vs p))->R_ x_
def nP(op:CmpOp)(A B:Expr->Prop)(x_:Expr):Prop:=∀R_:Expr->Prop,(∀(l r:Expr) (p:Pos),A l->B r->R_ (.Compare l [op] [r] p))->R_ x_
def mY(A:List Expr->Prop)(x_:Expr):Prop:=∀R_:Expr->Prop,(∀(vs:List Expr) (k:Nat) (p:Pos),A vs->R_ (.Tuple vs k p))->R_ x_
def nJ(A:List Expr->Prop)(x_:Expr):Prop:=∀R_:Expr->Prop,(∀(vs:List Expr) (p:Pos),A vs->R_ (.List vs p))->R_ x_
def nN(x_:Expr):Prop:=∀R_:Expr->Prop,(∀(p:Pos),R_ (.Dict [] [] p))->R_ x_
def nI(P:Str->Prop)(A Z:Expr->Prop)(x_:Expr):Prop:=∀R_:Expr->Prop,(∀(n:Str) (np:Pos) (x y:Expr) (kp p:Pos),P n->A x->Z y->R_ (.Call (.Name n np) [x] [⟨aj (ACC "default"),y,kp⟩] p))->R_ x_
def XT(P:Str->Prop)(A:Expr->Prop)(x_:Expr):Prop:=∀R_:Expr->Prop,(∀(n:Str) (np:Pos) (x:Expr) (k:Nat) (cp kp p:Pos),P n->A x->R_ (.Call (.Name n np) [x] [⟨aj (ACC "reverse"),.Constant (.bool true) k cp,kp⟩] p))->R_ x_
def cQ(P:Str->Prop)(A:Expr->Prop)(B:Str->Scope->Expr->Prop)(rev:Bool)(x_:Expr):Prop:=∀R_:Expr->Prop,(∀(n:Str) (np:Pos) (x:Expr) (nm:Str) (ap:Pos) (b:Expr) (sc:Scope) (lp kp:Pos) (k:Nat) (cp kp' p:Pos),P n->A x->B nm sc b->R_ (.Call (.Name n np) [x] (⟨aj (ACC "key"),.Lambda (Ga nm ap) b sc lp,kp⟩::bif rev then [⟨aj (ACC "reverse"),.Constant (.bool true) k cp,kp'⟩] else []) p))->R_ x_
def nB(A B:Expr->Prop)(x_:Expr):Prop:=∀R_:Expr->Prop,(∀(v x:Expr) (p:Pos),A v->B x->R_ (.Subscript v x p))->R_ x_
def nE(A:Expr->Prop)(B C:Option Expr->Prop)(x_:Expr):Prop:=∀R_:Expr->Prop,(∀(v:Expr) (l u:Option Expr) (q p:Pos),A v->B l->C u->R_ (.Subscript v (.Slice l u au q) p))->R_ x_
def GE(P:Str->Prop)(A:List Expr->Prop)(x_:Expr):Prop:=∀R_:Expr->Prop,(∀(n:Str) (np:Pos) (vs:List Expr) (p:Pos),P n->A vs->R_ (.Call (.Name n np) vs [] p))->R_ x_
def VI(m:Str)(A:Expr->Prop)(B:List Expr->Prop)(x_:Expr):Prop:=∀R_:Expr->Prop,(∀(x:Expr) (ap:Pos) (vs:List Expr) (p:Pos),A x->B vs->ap.endLine=p.line->vs.length<20->R_ (.Call (.Attribute x m ap) vs [] p))->R_ x_
def cU(m:Str)(A:Expr->Prop)(x_:Expr):Prop:=∀R_:Expr->Prop,(∀(x:Expr) (p:Pos),A x->R_ (.Attribute x m p))->R_ x_
def cT(A:Expr->Prop)(S:Scope->Prop)(P X:Scope->Expr->Prop)(F:Scope->List Expr->Prop)(x_:Expr):Prop:=∀R_:Expr->Prop,(∀(x t i:Expr) (cs:List Expr) (sc:Scope) (p:Pos),A i->S sc->P sc t->X sc x->F sc cs->R_ (.ListComp x [⟨t,i,cs,0⟩] sc p))->R_ x_
def Oq{α:Type}(x_:List α):Prop:=x_=[]
def M8(A:Expr->Prop)(B:List Expr->Prop)(x_:List Expr):Prop:=∀R_:List Expr->Prop,(∀(e:Expr) (l:List Expr),A e->B l->R_ (e::l))->R_ x_
def M7(x_:Option Expr):Prop:=x_=au
def M6(A:Expr->Prop)(x_:Option Expr):Prop:=∀R_:Option Expr->Prop,(∀(e:Expr),A e->R_ (aj e))->R_ x_
noncomputable def Op(K:Kx):List Nat->List Expr->Prop
 |[],l=>l=[]
 |i::r,l=>∀R_:List Expr->Prop,(∀(n:Str) (p:Pos) (t:List Expr),K.canWr i n=true->Op K r t->R_ (.Name n p::t))->R_ l
def IsT(K:Kx)(ts:List Nat)(x_:Expr):Prop:=∀R_:List Nat->Expr->Prop,(∀(i:Nat) (n:Str) (p:Pos),K.canWr i n=true->R_ [i] (.Name n p))->(∀(es:List Expr) (k:Nat) (p:Pos),ts.length≠1->Op K ts es->R_ ts (.Tuple es k p))->R_ ts x_
noncomputable def HW(K:Kx)(ts:List Expr):Bool:=ts.any λe=>match e with|.Name n _=>!K.kd n .local|_=>false
noncomputable abbrev Kx.to(K:Kx)(v:GV)(n:Str):Prop:=K.isGl n=true/\K.gl n=aj v
noncomputable def BP(it:E):Bool:=match it with|.zip _ _=>true|.enum _=>true|_=>false
noncomputable def Id(ts:List Nat)(it:E):Bool:=if BP it=true then decide (ts.length≠1) else true
noncomputable def BZ(e:E):Bool:=match e with|.nil=>true|_=>false
noncomputable def Is:E->Kx->(Expr->Prop)×(List Expr->Prop)
 |.cst x,_=>(nO x,λ_=>False)
 |.var i,K=>(XV λn=>K.isVar n=true/\K.vars[i]? = aj n,λ_=>False)
 |.ty t,K=>(XV (K.to (.ty t)),λ_=>False)
 |.glb x,K=>(XV (K.to (.cst x)),λ_=>False)
 |.bin op a b,K=>(nR op (Is a K).1 (Is b K).1,λ_=>False)
 |.neg a,K=>(mX .USub (Is a K).1,λ_=>False)
 |.not a,K=>(mX .Not (Is a K).1,λ_=>False)
 |.bop op es,K=>(nQ op (Is es K).2,λ_=>False)
 |.cmp op a b,K=>(nP op (Is a K).1 (Is b K).1,λ_=>False)
 |.nil,_=>(λ_=>False,Oq)
 |.cons a r,K=>(λ_=>False,M8 (Is a K).1 (Is r K).2)
 |.tup es,K=>(mY (Is es K).2,λ_=>False)
 |.lst es,K=>(nJ (Is es K).2,λ_=>False)
 |.dct,_=>(nN,λ_=>False)
 |.sub a i,K=>(nB (Is a K).1 (Is i K).1,λ_=>False)
 |.slc a lo hi,K=>(nE (Is a K).1 (if BZ lo then M7 else M6 (Is lo K).1) (if BZ hi then M7 else M6 (Is hi K).1),λ_=>False)
 |.bi b es,K=>(GE (K.to (cI b)) (Is es K).2,λ_=>False)
 |.maxd a z,K=>(nI (K.to (.bi .max)) (Is a K).1 (Is z K).1,λ_=>False)
 |.sortr a,K=>(XT (K.to (.bi .sorted)) (Is a K).1,λ_=>False)
 |.sortk rev a i key,K=>(cQ (K.to (.bi .sorted)) (Is a K).1 (λnm sc b=>Ua K i nm sc=true/\(Is key (K.lsub nm sc)).1 b) rev,λ_=>False)
 |.fcall f es,K=>(GE (K.to (.fn f)) (Is es K).2,λ_=>False)
 |.meth m o es,K=>(VI (ACC (Fw m)) (Is o K).1 (Is es K).2,λ_=>False)
 |.attr nm o,K=>(cU nm (Is o K).1,λ_=>False)
 |.mcall nm o es,K=>(VI nm (Is o K).1 (Is es K).2,λ_=>False)
 |.new,K=>(GE (K.to .cls) Oq,λ_=>False)
 |.comp elt ts it ifs,K=>(cT (Is it K).1 (λsc=>IA K ts sc=true/\Id ts it=true) (λsc=>IsT (K.sub ts sc) ts) (λsc=>(Is elt (K.sub ts sc)).1) (λsc=>(Is ifs (K.sub ts sc)).2),λ_=>False)
 |.range es,K=>(GE (K.to (.ty "range")) (Is es K).2,λ_=>False)
 |.zip a b,K=>(GE (K.to (.ty "zip")) (M8 (Is a K).1 (M8 (Is b K).1 Oq)),λ_=>False)
 |.enum a,K=>(GE (K.to (.ty "enumerate")) (M8 (Is a K).1 Oq),λ_=>False)
 |.glx k,K=>(XV (K.to (gvE k)),λ_=>False)
noncomputable abbrev IsE(e:E)(K:Kx):Expr->Prop:=(Is e K).1
noncomputable abbrev Gm(e:E)(K:Kx):List Expr->Prop:=(Is e K).2
noncomputable def S9(K:Kx)(n:Str)(p:Pos)(v:Expr):Bool :=
 match v with
 |.ListComp _ _ sc vp=>(decide (K.names.lookup n=aj .local)&&(decide (p.line=vp.line)&&!(sc.names.any λq=>q.1==n&&(q.2==.local||q.2==.cell))))||decide (K.names.lookup n=aj .cell)
 |_=>false
def nS(P:Str->Prop)(A:Expr->Prop)(W:Str->Pos->Expr->Bool)(x_:Stmt):Prop:=∀R_:Stmt->Prop,(∀(n:Str) (p:Pos) (v:Expr) (p':Pos),P n->A v->W n p v=true->R_ (.Assign [.Name n p] v p'))->R_ x_
def mW(P:List Expr->Prop)(A:Expr->Prop)(x_:Stmt):Prop:=∀R_:Stmt->Prop,(∀(ts:List Expr) (k:Nat) (p:Pos) (v:Expr) (p':Pos),P ts->A v->R_ (.Assign [.Tuple ts k p] v p'))->R_ x_
def mZ(P A:List Expr->Prop)(x_:Stmt):Prop:=∀R_:Stmt->Prop,(∀(ts:List Expr) (k:Nat) (p:Pos) (vs:List Expr) (k':Nat) (p' pos:Pos),P ts->A vs->R_ (.Assign [.Tuple ts k p] (.Tuple vs k' p') pos))->R_ x_
def nF(A B C:Expr->Prop)(x_:Stmt):Prop:=∀R_:Stmt->Prop,(∀(o i:Expr) (p:Pos) (v:Expr) (p':Pos),A v->B o->C i->R_ (.Assign [.Subscript o i p] v p'))->R_ x_
def nM(A:Expr->Prop)(x_:Stmt):Prop:=∀R_:Stmt->Prop,(∀(v:Expr) (p:Pos),A v->R_ (.Expr v p))->R_ x_
def nK(A:Expr->Prop)(B C:List Stmt->Prop)(x_:Stmt):Prop:=∀R_:Stmt->Prop,(∀(t:Expr) (x y:List Stmt) (p:Pos),A t->B x->C y->R_ (.If t x y p))->R_ x_
def nL(P A:Expr->Prop)(B:List Stmt->Prop)(x_:Stmt):Prop:=∀R_:Stmt->Prop,(∀(t i:Expr) (b:List Stmt) (p:Pos),P t->A i->B b->R_ (.For t i b [] p))->R_ x_
def XQ(A:Expr->Prop)(B:List Stmt->Prop)(x_:Stmt):Prop:=∀R_:Stmt->Prop,(∀(t:Expr) (b:List Stmt) (p:Pos),A t->B b->R_ (.While t b [] p))->R_ x_
def nH(A:Expr->Prop)(x_:Stmt):Prop:=∀R_:Stmt->Prop,(∀(v:Expr) (p:Pos),A v->R_ (.Return (aj v) p))->R_ x_
def cR(P:Str->Prop)(nm:Str)(x_:Stmt):Prop:=∀R_:Stmt->Prop,(∀(n:Str) (p1 p2 p3 p4:Pos),P n->R_ (.Assign [.Attribute (.Name n p1) nm p2] (.Dict [] [] p3) p4))->R_ x_
noncomputable def S8(K:Kx)(a b c:Str)(pa pb pc:Pos)(vs:List Expr):Bool :=
 K.kd a .local&&K.kd b .local&&K.kd c .local&&pb.line==pa.line&&pc.line==pa.line&&[a,b,c].eraseDups.length==3&&vs.length==3&&!vs.all (foldedForSure 8)&&!vs.all (constantsAlone 8)
def nA(P:Str->Str->Str->Pos->Pos->Pos->List Expr->Prop)(A:List Expr->Prop)(x_:Stmt):Prop:=∀R_:Stmt->Prop,(∀(a b c:Str) (pa pb pc:Pos) (k:Nat) (p:Pos) (vs:List Expr) (k':Nat) (p' pos:Pos),P a b c pa pb pc vs->A vs->R_ (.Assign [.Tuple [.Name a pa,.Name b pb,.Name c pc] k p] (.Tuple vs k' p') pos))->R_ x_
def nG(P:Str->Prop)(A:List Expr->Prop)(x_:Stmt):Prop:=∀R_:Stmt->Prop,(∀(n:Str) (np:Pos) (vs:List Expr) (cp p:Pos),P n->A vs->vs.length<20->R_ (.Raise (aj (.Call (.Name n np) vs [] cp)) au p))->R_ x_
noncomputable def cS(K:Kx):List (Nat×Nat×E)->List ExceptHandler->Prop
 |[],l=>l=[]
 |(k,i,e)::r,l=>∀R_:List ExceptHandler->Prop,(∀(n:Str) (np:Pos) (m:Str) (ex:Expr) (rp hp:Pos) (t:List ExceptHandler),K.to (.exc k) n->(K.canWr i m=true/\K.kd m .local=true)->IsE e K ex->cS K r t->R_ (.ExceptHandler (aj (.Name n np)) (aj m) [.Return (aj ex) rp] hp::t))->R_ l
def XR(A:List Stmt->Prop)(B:List ExceptHandler->Prop)(x_:Stmt):Prop:=∀R_:Stmt->Prop,(∀(b:List Stmt) (h:ExceptHandler) (hs:List ExceptHandler) (p:Pos),A b->B (h::hs)->R_ (.Try b (h::hs) [] [] p))->R_ x_
def XU(A:Stmt->Prop)(B:List Stmt->Prop)(x_:List Stmt):Prop:=∀R_:List Stmt->Prop,(∀(x:Stmt) (t:List Stmt),A x->B t->R_ (x::t))->R_ x_
noncomputable def Iss:S->Kx->(Stmt->Prop)×(List Stmt->Prop)
 |.any,_=>(λ_=>True,λ_=>True)
 |.nil,_=>(λ_=>False,Oq)
 |.cons s r,K=>(λ_=>False,XU (Iss s K).1 (Iss r K).2)
 |.asg x e,K=>(nS (λn=>K.canWr x n=true) (IsE e K) (λn p v=>bif BH e then S9 K n p v else true),λ_=>False)
 |.unp xs e,K=>(mW (Op K xs) (IsE e K),λ_=>False)
 |.swp xs es,K=>(mZ (λts=>Op K xs ts/\(HW K ts=true/\xs.length=3)) (Gm es K),λ_=>False)
 |.set o i v,K=>(nF (IsE v K) (IsE o K) (IsE i K),λ_=>False)
 |.exp e,K=>(nM (IsE e K),λ_=>False)
 |.ite c a b,K=>(nK (IsE c K) (Iss a K).2 (Iss b K).2,λ_=>False)
 |.for_ ts it body,K=>(nL (λt=>IsT K ts t/\Id ts it=true) (IsE it K) (Iss body K).2,λ_=>False)
 |.while_ c body,K=>(XQ (IsE c K) (Iss body K).2,λ_=>False)
 |.ret e,K=>(nH (IsE e K),λ_=>False)
 |.swl i j l es,K=>(nA (λa b c pa pb pc vs=>(K.canWr i a=true/\K.canWr j b=true/\K.canWr l c=true)/\S8 K a b c pa pb pc vs=true) (Gm es K),λ_=>False)
 |.rse k es,K=>(nG (K.to (.exc k)) (Gm es K),λ_=>False)
 |.tryAs b hs,K=>(XR (Iss b K).2 (cS K hs),λ_=>False)
 |.setd x nm,K=>(cR (λn=>K.kd n .local=true/\K.vars[x]? = aj n/\(n==("__debug__" : Str))=false) nm,λ_=>False)
noncomputable abbrev IsS(e:S)(K:Kx):Stmt->Prop:=(Iss e K).1
noncomputable abbrev XS(e:S)(K:Kx):List Stmt->Prop:=(Iss e K).2
structure Fn where
 np:Nat
 nv:Nat
 body:S
noncomputable abbrev E.i(k:Int):E:=.cst (.int k)
noncomputable abbrev E.s(k:String):E:=.cst (.str (ACC k))
noncomputable abbrev E.c(a b:E):E:=.cons a b
noncomputable abbrev E.o(a:E):E:=.cons a .nil
noncomputable abbrev E.t(a b:E):E:=.cons a (.cons b .nil)
noncomputable abbrev S.c(a b:S):S:=.cons a b
noncomputable abbrev S.o(a:S):S:=.cons a .nil
noncomputable abbrev S.F:S:=.cons (.ret (.cst (.bool false))) .nil
noncomputable abbrev sN(l:List String):List Str:=l.map ACC
noncomputable abbrev B0(r:S):S:=.c (.for_ [5] (.bin .Add (.mcall (ACC "ground") (.var 0) (.o (.var 4))) (.lst (.o (.var 4)))) (.c (.set (.var 2) (.var 5) (.mcall (ACC "change") (.var 0) (.o (.var 5)))) (.o (.set (.var 3) (.var 5) (.mcall (ACC "height") (.var 0) (.o (.var 5))))))) r
noncomputable abbrev B1(r:S):S:=.c (.for_ [13] (.var 11) (.o (.ite (.cmp .In (.var 13) (.mcall (ACC "names") (.var 9) .nil)) (.o (.exp (.mcall (ACC "take") (.var 9) (.o (.var 13))))) .nil))) r
noncomputable abbrev B2(r:S):S:=.c (.exp (.mcall (ACC "add") (.var 9) (.o (.tup (.c (.s "a") (.t (.lst .nil) (.lst (.o (.tup (.c (.s "add") (.t (.cst .none) (.s "")))))))))))) r
noncomputable abbrev B3(r:S):S:=.c (.ite (.bop .Or (.t (.not (.fcall 24 (.t (.mcall (ACC "text") (.var 9) .nil) (.lst (.o (.s "")))))) (.not (.fcall 26 (.t (.var 2) (.var 1)))))) .F .nil) r
noncomputable abbrev B4(r:S):S:=.c (.ite (.bop .Or (.t (.cmp .NotEq (.mcall (ACC "row") (.var 9) .nil) (.comp (.var 15) [15] (.var 3) (.o (.cmp .In (.sub (.var 15) (.i 0)) (.var 11))))) (.not (.fcall 74 (.c (.var 2) (.c (.var 7) (.t (.var 6) (.var 12)))))))) .F .nil) r
noncomputable abbrev B5(r:S):S:=.c (.ite (.not (.fcall 62 (.c (.var 9) (.t (.var 10) (.var 6))))) .F .nil) r
noncomputable abbrev B6(r:S):S:=.c (.exp (.fcall 64 (.t (.var 9) (.var 4)))) r
noncomputable abbrev B7(r:S):S:=.c (.asg 9 (.fcall 77 (.t (.var 2) (.var 7)))) (.c (.ite (.var 10) (.o (.exp (.mcall (ACC "take") (.var 2) (.o (.sub (.sub (.var 10) (.i 0)) (.i 0)))))) .nil) (.c (.ret (.bop .And (.t (.fcall 65 (.o (.var 4))) (.fcall 26 (.t (.var 9) (.var 10)))))) r))
noncomputable abbrev B8(r:S):S:=.c (.asg 6 (.fcall 9 (.t (.var 0) (.bin .Add (.i 1) (.var 5))))) (.c (.asg 7 (.fcall 79 (.t (.var 1) (.var 6)))) (.c (.ite (.bop .And (.t (.var 7) (.cmp .Eq (.bin .Mod (.var 6) (.i 4)) (.i 1)))) (.o (.asg 7 (.bin .Add (.var 7) (.lst (.o (.sub (.var 7) (.i 0))))))) .nil) (.c (.asg 8 (.bi .list (.o (.var 7)))) r)))
noncomputable abbrev B9(r:S):S:=.c (.asg 9 (.fcall 77 (.t (.var 2) (.var 8)))) (.c (.asg 10 (.fcall 78 (.t (.var 1) (.var 7)))) (.c (.asg 11 (.comp (.sub (.var 14) (.i 0)) [14] (.var 10) .nil)) (.c (.ite (.bop .Or (.c (.cmp .NotEq (.var 8) (.var 7)) (.t (.not (.bi .isinstance (.t (.var 9) (.glx 0)))) (.not (.fcall 26 (.t (.var 9) (.var 10))))))) .F .nil) (.c (.exp (.meth .clear (.var 8) .nil)) r))))
noncomputable abbrev B10(r:S):S:=.c (.asg 12 (.fcall 11 (.t (.bin .FloorDiv (.var 6) (.i 3)) (.comp (.sub (.var 14) (.i 0)) [14] (.var 1) .nil)))) r
noncomputable def VS:Fn:=⟨1,2,(.c (.ite (.bop .Or (.t (.cmp .Lt (.bi .len (.o (.var 0))) (.i 1)) (.cmp .Gt (.bi .len (.o (.var 0))) (.glb (.int 12))))) .F .nil) (.c (.for_ [1] (.var 0) (.o (.ite (.cmp .NotIn (.var 1) (.glb (.str (ACC "abcdefghijklmnopqrstuvwxyz0123456789")))) .F .nil))) (.o (.ret (.cst (.bool true))))))⟩
noncomputable def VT:Fn:=⟨1,2,(.c (.ite (.cmp .Gt (.bi .len (.o (.var 0))) (.glb (.int 200))) .F .nil) (.c (.for_ [1] (.var 0) (.o (.ite (.bop .Or (.t (.cmp .Lt (.bi .ord (.o (.var 1))) (.i 32)) (.cmp .Gt (.bi .ord (.o (.var 1))) (.i 126)))) .F .nil))) (.o (.ret (.cst (.bool true))))))⟩
noncomputable def ME:Fn:=⟨2,5,(.c (.ite (.not (.fcall 2 (.o (.var 0)))) .any .nil) (.c (.for_ [2] (.var 1) (.o (.ite (.not (.fcall 2 (.o (.var 2)))) .any .nil))) (.c (.for_ [3,4] (.zip (.var 1) (.slc (.var 1) (.i 1) .nil)) (.o (.ite (.cmp .GtE (.var 3) (.var 4)) .any .nil))) (.o (.ite (.cmp .In (.var 0) (.var 1)) .any .nil)))))⟩
noncomputable def Ou:Fn:=⟨1,1,(.c (.ite (.bop .And (.c (.cmp .NotEq (.sub (.var 0) (.i 0)) (.s "add")) (.t (.cmp .NotEq (.sub (.var 0) (.i 0)) (.s "cut")) (.cmp .NotEq (.sub (.var 0) (.i 0)) (.s "set"))))) .any .nil) (.c (.ite (.bop .And (.t (.cmp .NotEq (.sub (.var 0) (.i 0)) (.s "add")) (.cmp .Is (.sub (.var 0) (.i 1)) (.cst .none)))) .any .nil) (.o (.ite (.bop .And (.t (.cmp .NotEq (.sub (.var 0) (.i 0)) (.s "cut")) (.not (.fcall 3 (.o (.sub (.var 0) (.i 2))))))) .any .nil))))⟩
noncomputable def dB:Fn:=⟨1,5,(.c (.swl 1 2 3 (.c (.sub (.var 0) (.i 0)) (.t (.sub (.var 0) (.i 1)) (.sub (.var 0) (.i 2))))) (.c (.exp (.fcall 4 (.t (.var 1) (.var 2)))) (.c (.ite (.cmp .Gt (.bi .len (.o (.var 3))) (.glb (.int 20))) .any .nil) (.c (.for_ [4] (.var 3) (.o (.exp (.fcall 5 (.o (.var 4)))))) (.o (.for_ [4] (.var 3) (.o (.ite (.bop .And (.c (.cmp .IsNot (.sub (.var 4) (.i 1)) (.cst .none)) (.t (.cmp .NotEq (.sub (.sub (.var 4) (.i 1)) (.i 0)) (.var 1)) (.cmp .NotIn (.sub (.sub (.var 4) (.i 1)) (.i 0)) (.var 2))))) .any .nil))))))))⟩
noncomputable def Ov:Fn:=⟨1,2,(.o (.ret (.comp (.var 1) [1] (.sub (.var 0) (.i 2)) (.o (.cmp .Eq (.sub (.var 1) (.i 0)) (.s "add"))))))⟩
noncomputable def VL:Fn:=⟨2,4,(.c (.asg 2 (.sortr (.var 0))) (.o (.ret (.sortk false (.var 2) 3 (.sub (.var 1) (.var 3))))))⟩
noncomputable def Oz:Fn:=⟨1,1,(.c (.setd 0 (ACC "held")) (.c (.setd 0 (ACC "grounds")) (.o (.setd 0 (ACC "heights")))))⟩
noncomputable def GH:Fn:=⟨2,6,(.c (.exp (.fcall 6 (.o (.var 1)))) (.c (.asg 2 (.sub (.var 1) (.i 0))) (.c (.ite (.cmp .In (.var 2) (.attr (ACC "held") (.var 0))) .any .nil) (.c (.for_ [3] (.sub (.var 1) (.i 1)) (.o (.ite (.cmp .NotIn (.var 3) (.attr (ACC "held") (.var 0))) .any .nil))) (.c (.exp (.mcall (ACC "check_marks") (.var 0) (.o (.var 1)))) (.c (.set (.attr (ACC "held") (.var 0)) (.var 2) (.tup (.c (.var 2) (.t (.bi .list (.o (.sub (.var 1) (.i 1)))) (.bi .list (.o (.sub (.var 1) (.i 2)))))))) (.c (.asg 4 (.dct)) (.c (.for_ [3] (.sub (.var 1) (.i 1)) (.c (.set (.var 4) (.var 3) (.cst (.bool true))) (.o (.for_ [5] (.sub (.attr (ACC "grounds") (.var 0)) (.var 3)) (.o (.set (.var 4) (.var 5) (.cst (.bool true)))))))) (.c (.set (.attr (ACC "grounds") (.var 0)) (.var 2) (.bi .sorted (.o (.bi .list (.o (.var 4)))))) (.o (.set (.attr (ACC "heights") (.var 0)) (.var 2) (.bin .Add (.i 1) (.maxd (.comp (.sub (.attr (ACC "heights") (.var 0)) (.var 3)) [3] (.sub (.var 1) (.i 1)) .nil) (.neg (.i 1)))))))))))))))⟩
noncomputable def GG:Fn:=⟨2,6,(.c (.asg 2 (.i 0)) (.o (.for_ [3] (.sub (.var 1) (.i 2)) (.c (.asg 4 (.sub (.var 3) (.i 1))) (.c (.ite (.cmp .IsNot (.var 4) (.cst .none)) (.c (.asg 5 (.var 2)) (.c (.ite (.cmp .NotEq (.sub (.var 4) (.i 0)) (.sub (.var 1) (.i 0))) (.o (.asg 5 (.bi .len (.o (.fcall 7 (.o (.sub (.attr (ACC "held") (.var 0)) (.sub (.var 4) (.i 0))))))))) .nil) (.o (.ite (.bop .Or (.t (.cmp .Lt (.sub (.var 4) (.i 1)) (.i 0)) (.cmp .GtE (.sub (.var 4) (.i 1)) (.var 5)))) .any .nil)))) .nil) (.o (.ite (.cmp .Eq (.sub (.var 3) (.i 0)) (.s "add")) (.o (.asg 2 (.bin .Add (.var 2) (.i 1)))) .nil)))))))⟩
noncomputable def Ir:Fn:=⟨2,2,(.o (.ite (.cmp .NotIn (.var 1) (.attr (ACC "held") (.var 0))) (.o (.rse 5 (.o (.s "no change has this name")))) .nil))⟩
noncomputable def Oy:Fn:=⟨2,4,(.c (.exp (.mcall (ACC "need") (.var 0) (.o (.var 1)))) (.c (.asg 2 (.bi .sorted (.o (.bin .Add (.mcall (ACC "leaning") (.var 0) (.o (.var 1))) (.lst (.o (.var 1))))))) (.c (.for_ [3] (.var 2) (.c (.exp (.meth .pop (.attr (ACC "held") (.var 0)) (.o (.var 3)))) (.c (.exp (.meth .pop (.attr (ACC "grounds") (.var 0)) (.o (.var 3)))) (.o (.exp (.meth .pop (.attr (ACC "heights") (.var 0)) (.o (.var 3)))))))) (.o (.ret (.var 2))))))⟩
noncomputable def MF:Fn:=⟨1,1,(.o (.ret (.bi .sorted (.o (.bi .list (.o (.attr (ACC "held") (.var 0))))))))⟩
noncomputable def KB:Fn:=⟨2,3,(.c (.exp (.mcall (ACC "need") (.var 0) (.o (.var 1)))) (.c (.asg 2 (.sub (.attr (ACC "held") (.var 0)) (.var 1))) (.o (.ret (.tup (.c (.var 1) (.t (.bi .list (.o (.sub (.var 2) (.i 1)))) (.bi .list (.o (.sub (.var 2) (.i 2)))))))))))⟩
noncomputable def KA:Fn:=⟨2,2,(.c (.exp (.mcall (ACC "need") (.var 0) (.o (.var 1)))) (.o (.ret (.sub (.attr (ACC "heights") (.var 0)) (.var 1)))))⟩
noncomputable def Gw:Fn:=⟨2,2,(.c (.exp (.mcall (ACC "need") (.var 0) (.o (.var 1)))) (.o (.ret (.bi .list (.o (.sub (.attr (ACC "grounds") (.var 0)) (.var 1)))))))⟩
noncomputable def Kq:Fn:=⟨2,3,(.c (.exp (.mcall (ACC "need") (.var 0) (.o (.var 1)))) (.o (.ret (.comp (.var 2) [2] (.mcall (ACC "names") (.var 0) .nil) (.o (.cmp .In (.var 1) (.sub (.attr (ACC "grounds") (.var 0)) (.var 2))))))))⟩
noncomputable def H8:Fn:=⟨1,9,(.c (.asg 1 (.lst .nil)) (.c (.asg 2 (.dct)) (.c (.asg 3 (.dct)) (.c (.for_ [4] (.fcall 8 (.t (.bi .list (.o (.attr (ACC "held") (.var 0)))) (.attr (ACC "heights") (.var 0)))) (.c (.asg 5 (.i 0)) (.o (.for_ [6] (.sub (.sub (.attr (ACC "held") (.var 0)) (.var 4)) (.i 2)) (.o (.ite (.cmp .Eq (.sub (.var 6) (.i 0)) (.s "add")) (.c (.asg 7 (.tup (.t (.var 4) (.var 5)))) (.c (.asg 5 (.bin .Add (.var 5) (.i 1))) (.c (.asg 8 (.i 0)) (.c (.ite (.cmp .IsNot (.sub (.var 6) (.i 1)) (.cst .none)) (.o (.asg 8 (.bin .Add (.meth .index (.var 1) (.o (.sub (.var 6) (.i 1)))) (.i 1)))) .nil) (.c (.exp (.meth .insert (.var 1) (.t (.var 8) (.var 7)))) (.o (.set (.var 2) (.var 7) (.sub (.var 6) (.i 2))))))))) (.o (.ite (.cmp .Eq (.sub (.var 6) (.i 0)) (.s "set")) (.o (.set (.var 2) (.sub (.var 6) (.i 1)) (.sub (.var 6) (.i 2)))) (.o (.set (.var 3) (.sub (.var 6) (.i 1)) (.cst (.bool true)))))))))))) (.o (.ret (.tup (.c (.var 1) (.t (.var 2) (.var 3))))))))))⟩
noncomputable def P9:Fn:=⟨1,1,(.o (.ret (.sub (.mcall (ACC "grown") (.var 0) .nil) (.i 0))))⟩
noncomputable def Ow:Fn:=⟨1,5,(.c (.unp [1,2,3] (.mcall (ACC "grown") (.var 0) .nil)) (.o (.ret (.comp (.tup (.t (.var 4) (.sub (.var 2) (.var 4)))) [4] (.var 1) (.o (.cmp .NotIn (.var 4) (.var 3)))))))⟩
noncomputable def Ox:Fn:=⟨1,2,(.o (.ret (.comp (.sub (.var 1) (.i 1)) [1] (.mcall (ACC "told") (.var 0) .nil) .nil)))⟩
noncomputable def Kp:Fn:=⟨1,4,(.c (.asg 1 (.dct)) (.c (.for_ [2] (.mcall (ACC "names") (.var 0) .nil) (.o (.for_ [3] (.sub (.sub (.attr (ACC "held") (.var 0)) (.var 2)) (.i 2)) (.o (.ite (.bop .And (.t (.cmp .Eq (.sub (.var 3) (.i 0)) (.s "set")) (.cmp .NotIn (.var 2) (.meth .get (.var 1) (.t (.sub (.var 3) (.i 1)) (.lst .nil)))))) (.o (.set (.var 1) (.sub (.var 3) (.i 1)) (.bin .Add (.meth .get (.var 1) (.t (.sub (.var 3) (.i 1)) (.lst .nil))) (.lst (.o (.var 2)))))) .nil))))) (.o (.ret (.var 1)))))⟩
noncomputable def Ib:Fn:=⟨2,5,(.c (.asg 2 (.lst .nil)) (.c (.for_ [3] (.var 1) (.o (.ite (.not (.bi .any (.o (.comp (.cmp .In (.var 3) (.sub (.attr (ACC "grounds") (.var 0)) (.var 4))) [4] (.var 1) .nil)))) (.o (.exp (.meth .append (.var 2) (.o (.var 3))))) .nil))) (.o (.ret (.var 2)))))⟩
noncomputable def Ia:Fn:=⟨1,5,(.c (.asg 1 (.lst .nil)) (.c (.asg 2 (.mcall (ACC "setters") (.var 0) .nil)) (.c (.for_ [3] (.mcall (ACC "told") (.var 0) .nil) (.c (.asg 4 (.mcall (ACC "open_ones") (.var 0) (.o (.meth .get (.var 2) (.t (.sub (.var 3) (.i 0)) (.lst .nil)))))) (.o (.ite (.cmp .Gt (.bi .len (.o (.var 4))) (.i 1)) (.o (.exp (.meth .append (.var 1) (.o (.tup (.t (.sub (.var 3) (.i 0)) (.var 4))))))) .nil)))) (.o (.ret (.var 1))))))⟩
noncomputable def Yc:Fn:=⟨2,4,(.c (.asg 2 (.new)) (.c (.for_ [3] (.sortk false (.bi .sorted (.o (.bi .list (.o (.var 0))))) 3 (.sub (.var 1) (.var 3))) (.o (.exp (.mcall (ACC "add") (.var 2) (.o (.sub (.var 0) (.var 3))))))) (.o (.ret (.var 2)))))⟩
noncomputable def dD:Fn:=⟨2,6,(.c (.asg 2 (.dct)) (.c (.asg 3 (.dct)) (.c (.for_ [4] (.var 1) (B0 .nil)) (.o (.ret (.fcall 76 (.t (.var 2) (.var 3))))))))⟩
noncomputable def nW:Fn:=⟨2,2,(.c (.ite (.cmp .Lt (.var 1) (.bi .len (.o (.var 0)))) (.o (.ret (.sub (.var 0) (.var 1)))) .nil) (.o (.ret (.i 0))))⟩
noncomputable def VP:Fn:=⟨2,2,(.o (.ret (.bin .Mod (.bin .Mult (.bin .Add (.var 0) (.bin .Mult (.i 7919) (.var 1))) (.i 48271)) (.i 2147483647))))⟩
noncomputable def VN:Fn:=⟨2,7,(.c (.asg 2 (.s "abcdefghijklmnopqrstuvwxyz0123456789")) (.c (.asg 3 (.fcall 10 (.t (.var 0) (.i 5)))) (.c (.asg 4 (.meth .join (.s "") (.o (.comp (.sub (.var 2) (.bin .Mod (.fcall 10 (.t (.var 0) (.var 5))) (.i 36))) [5] (.range (.o (.bin .Add (.i 1) (.bin .Mod (.var 3) (.i 12))))) .nil)))) (.c (.ite (.cmp .Eq (.bin .Mod (.var 0) (.i 8)) (.i 1)) (.o (.asg 4 (.bi .str (.o (.bin .Mod (.var 3) (.i 130)))))) .nil) (.c (.ite (.bop .And (.t (.cmp .Eq (.bin .Mod (.var 0) (.i 8)) (.i 2)) (.var 1))) (.o (.asg 4 (.bin .Add (.slc (.sub (.var 1) (.neg (.i 1))) .nil (.i 11)) (.sub (.var 2) (.bin .Mod (.var 3) (.i 36)))))) .nil) (.c (.ite (.bop .And (.t (.cmp .Gt (.bin .Mod (.var 0) (.i 8)) (.i 4)) (.var 1))) (.c (.asg 4 (.sub (.var 1) (.bin .Mod (.var 3) (.bi .len (.o (.var 1)))))) (.c (.asg 6 (.bin .Mod (.bin .FloorDiv (.var 3) (.i 60)) (.bi .len (.o (.var 4))))) (.o (.asg 4 (.bin .Add (.bin .Add (.slc (.var 4) .nil (.var 6)) (.sub (.var 2) (.bin .Mod (.bin .FloorDiv (.var 3) (.i 720)) (.i 36)))) (.slc (.var 4) (.bin .Add (.var 6) (.i 1)) .nil)))))) .nil) (.c (.ite (.cmp .NotIn (.var 4) (.var 1)) (.o (.ret (.var 4))) .nil) (.o (.ret (.sub (.comp (.bi .str (.o (.var 5))) [5] (.range (.o (.bin .Add (.bi .len (.o (.var 1))) (.i 1)))) (.o (.cmp .NotIn (.bi .str (.o (.var 5))) (.var 1)))) (.i 0)))))))))))⟩
noncomputable def VR:Fn:=⟨1,5,(.c (.asg 1 (.cst (.str (ACC " !\"#$&'()*+,-./0123456789:;<=>?\x40ABCDEFGHIJKLMNOPQRSTUVWXYZ[\\]^_`")))) (.c (.asg 1 (.bin .Add (.var 1) (.s "abcdefghijklmnopqrstuvwxyz{|}~"))) (.c (.asg 2 (.bin .Mod (.var 0) (.i 4))) (.c (.ite (.cmp .Eq (.bin .Mod (.bin .FloorDiv (.var 0) (.i 4)) (.i 9)) (.i 1)) (.o (.asg 2 (.bin .Mod (.bin .FloorDiv (.var 0) (.i 36)) (.i 201)))) .nil) (.c (.asg 3 (.meth .join (.s "") (.o (.comp (.sub (.var 1) (.bin .Mod (.bin .Add (.bin .FloorDiv (.var 0) (.i 7)) (.bin .Mult (.var 4) (.bin .Add (.i 1) (.bin .Mod (.var 0) (.i 5))))) (.i 94))) [4] (.range (.o (.var 2))) .nil)))) (.c (.ite (.bop .And (.t (.cmp .Eq (.bin .Mod (.bin .FloorDiv (.var 0) (.i 3)) (.i 8)) (.i 1)) (.cmp .Lt (.var 2) (.i 199)))) (.o (.ret (.bin .Add (.bin .Add (.slc (.var 3) .nil (.i 1)) (.s ": ")) (.slc (.var 3) (.i 1) .nil)))) .nil) (.o (.ret (.var 3)))))))))⟩
noncomputable def P7:Fn:=⟨2,7,(.c (.asg 2 (.fcall 10 (.t (.var 0) (.i 1)))) (.c (.asg 3 (.lst .nil)) (.c (.for_ [4,5] (.enum (.var 1)) (.c (.asg 6 (.bop .And (.t (.cmp .Eq (.var 4) (.bin .Sub (.bi .len (.o (.var 1))) (.i 1))) (.cmp .Eq (.bin .Mod (.var 0) (.i 7)) (.i 3))))) (.c (.ite (.bop .Or (.t (.var 6) (.bop .And (.t (.cmp .Eq (.bin .Mod (.var 2) (.bin .Add (.i 2) (.bin .Mod (.var 0) (.i 3)))) (.i 0)) (.bop .Or (.t (.cmp .Lt (.bi .len (.o (.var 1))) (.i 20)) (.cmp .Eq (.bin .Mod (.var 4) (.i 7)) (.bin .Mod (.bin .FloorDiv (.var 2) (.i 4)) (.i 7))))))))) (.o (.exp (.meth .append (.var 3) (.o (.sub (.var 5) (.i 0)))))) .nil) (.c (.asg 2 (.bin .FloorDiv (.var 2) (.i 3))) (.o (.ite (.cmp .Lt (.var 2) (.i 100)) (.o (.asg 2 (.fcall 10 (.t (.var 0) (.bin .Add (.var 4) (.i 2)))))) .nil)))))) (.o (.ret (.bi .sorted (.o (.var 3))))))))⟩
noncomputable def VQ:Fn:=⟨1,4,(.c (.asg 1 (.bi .len (.o (.comp (.var 2) [2] (.sub (.var 0) (.i 2)) (.o (.cmp .Eq (.sub (.var 2) (.i 0)) (.s "add"))))))) (.o (.ret (.comp (.tup (.t (.sub (.var 0) (.i 0)) (.var 3))) [3] (.range (.o (.var 1))) .nil))))⟩
noncomputable def P8:Fn:=⟨4,13,(.c (.asg 4 (.lst .nil)) (.c (.asg 5 (.i 0)) (.c (.for_ [6] (.range (.o (.var 2))) (.c (.asg 7 (.bin .Add (.var 3) (.comp (.tup (.t (.var 0) (.var 12))) [12] (.range (.o (.var 5))) .nil))) (.c (.asg 8 (.fcall 10 (.t (.var 1) (.var 6)))) (.c (.asg 9 (.bin .Mod (.bin .FloorDiv (.var 8) (.i 5)) (.bin .Add (.bi .len (.o (.var 7))) (.i 1)))) (.c (.asg 10 (.fcall 12 (.o (.bin .FloorDiv (.var 8) (.i 365))))) (.o (.ite (.bop .Or (.t (.cmp .Lt (.bin .Mod (.var 8) (.i 5)) (.i 3)) (.not (.var 7)))) (.c (.asg 11 (.cst .none)) (.c (.ite (.cmp .Gt (.var 9) (.i 0)) (.o (.asg 11 (.sub (.var 7) (.bin .Sub (.var 9) (.i 1))))) .nil) (.c (.exp (.meth .append (.var 4) (.o (.tup (.c (.s "add") (.t (.var 11) (.var 10))))))) (.o (.asg 5 (.bin .Add (.var 5) (.i 1))))))) (.o (.ite (.cmp .Eq (.bin .Mod (.var 8) (.i 5)) (.i 3)) (.o (.exp (.meth .append (.var 4) (.o (.tup (.t (.s "cut") (.sub (.var 7) (.bin .Mod (.var 9) (.bi .len (.o (.var 7))))))))))) (.o (.exp (.meth .append (.var 4) (.o (.tup (.c (.s "set") (.t (.sub (.var 7) (.bin .Mod (.var 9) (.bi .len (.o (.var 7))))) (.var 10))))))))))))))))) (.o (.ret (.var 4))))))⟩
noncomputable def H6:Fn:=⟨2,10,(.c (.asg 2 (.lst .nil)) (.c (.asg 3 (.lst (.o (.s "0")))) (.c (.for_ [4] (.range (.o (.bi .min (.t (.bin .FloorDiv (.bi .len (.o (.var 0))) (.i 4)) (.var 1))))) (.c (.asg 5 (.fcall 11 (.t (.sub (.var 0) (.bin .Mult (.i 4) (.var 4))) (.var 3)))) (.c (.exp (.meth .append (.var 3) (.o (.var 5)))) (.c (.asg 6 (.fcall 13 (.t (.sub (.var 0) (.bin .Add (.bin .Mult (.i 4) (.var 4)) (.i 1))) (.var 2)))) (.c (.asg 7 (.lst .nil)) (.c (.for_ [8] (.var 2) (.o (.ite (.cmp .In (.sub (.var 8) (.i 0)) (.var 6)) (.o (.asg 7 (.bin .Add (.var 7) (.fcall 14 (.o (.var 8)))))) .nil))) (.c (.asg 9 (.bin .Mod (.sub (.var 0) (.bin .Add (.bin .Mult (.i 4) (.var 4)) (.i 3))) (.i 5))) (.c (.ite (.cmp .Eq (.bin .Mod (.bin .FloorDiv (.sub (.var 0) (.bin .Add (.bin .Mult (.i 4) (.var 4)) (.i 3))) (.i 5)) (.i 16)) (.i 1)) (.o (.asg 9 (.bin .Sub (.i 20) (.bin .Mod (.bin .FloorDiv (.sub (.var 0) (.bin .Add (.bin .Mult (.i 4) (.var 4)) (.i 3))) (.i 80)) (.i 16))))) .nil) (.o (.exp (.meth .append (.var 2) (.o (.tup (.c (.var 5) (.t (.var 6) (.fcall 15 (.c (.var 5) (.c (.sub (.var 0) (.bin .Add (.bin .Mult (.i 4) (.var 4)) (.i 2))) (.t (.var 9) (.var 7)))))))))))))))))))) (.o (.ret (.var 2))))))⟩
noncomputable def Zo:Fn:=⟨1,1,(.o (.ret (.tup (.c (.sub (.var 0) (.i 0)) (.t (.bi .list (.o (.sub (.var 0) (.i 1)))) (.bi .list (.o (.sub (.var 0) (.i 2)))))))))⟩
noncomputable def MB:Fn:=⟨2,8,(.c (.asg 2 (.bi .list (.o (.var 0)))) (.c (.asg 3 (.lst .nil)) (.c (.asg 4 (.lst .nil)) (.c (.while_ (.var 2) (.c (.asg 5 (.comp (.var 6) [6] (.var 2) (.o (.bi .all (.o (.comp (.cmp .In (.var 7) (.var 3)) [7] (.sub (.var 6) (.i 1)) .nil)))))) (.c (.asg 6 (.sub (.var 5) (.bin .Mod (.fcall 10 (.t (.var 1) (.bi .len (.o (.var 2))))) (.bi .len (.o (.var 5)))))) (.c (.exp (.meth .remove (.var 2) (.o (.var 6)))) (.c (.exp (.meth .append (.var 3) (.o (.sub (.var 6) (.i 0))))) (.o (.exp (.meth .append (.var 4) (.o (.var 6)))))))))) (.o (.ret (.var 4)))))))⟩
noncomputable def VU:Fn:=⟨1,4,(.c (.asg 1 (.dct)) (.c (.for_ [2] (.var 0) (.o (.set (.var 1) (.sub (.var 2) (.i 0)) (.maxd (.comp (.bin .Add (.sub (.var 1) (.var 3)) (.i 1)) [3] (.sub (.var 2) (.i 1)) .nil) (.i 0))))) (.o (.ret (.var 1)))))⟩
noncomputable def VO:Fn:=⟨1,12,(.c (.asg 1 (.fcall 19 (.o (.var 0)))) (.c (.asg 2 (.sortk true (.var 0) 3 (.sub (.var 3) (.i 0)))) (.c (.swp [4,5,6] (.c (.lst .nil) (.t (.dct) (.dct)))) (.c (.for_ [3] (.sortk false (.var 2) 9 (.sub (.var 1) (.sub (.var 9) (.i 0)))) (.c (.asg 7 (.i 0)) (.o (.for_ [8] (.sub (.var 3) (.i 2)) (.o (.ite (.cmp .Eq (.sub (.var 8) (.i 0)) (.s "add")) (.c (.asg 10 (.i 0)) (.c (.ite (.cmp .IsNot (.sub (.var 8) (.i 1)) (.cst .none)) (.o (.asg 10 (.bin .Add (.meth .index (.var 4) (.o (.sub (.var 8) (.i 1)))) (.i 1)))) .nil) (.c (.exp (.meth .insert (.var 4) (.t (.var 10) (.tup (.t (.sub (.var 3) (.i 0)) (.var 7)))))) (.c (.set (.var 5) (.tup (.t (.sub (.var 3) (.i 0)) (.var 7))) (.sub (.var 8) (.i 2))) (.o (.asg 7 (.bin .Add (.var 7) (.i 1)))))))) (.o (.ite (.cmp .Eq (.sub (.var 8) (.i 0)) (.s "set")) (.o (.set (.var 5) (.sub (.var 8) (.i 1)) (.sub (.var 8) (.i 2)))) (.o (.set (.var 6) (.sub (.var 8) (.i 1)) (.cst (.bool true)))))))))))) (.o (.ret (.tup (.t (.var 4) (.comp (.tup (.t (.var 11) (.sub (.var 5) (.var 11)))) [11] (.var 4) (.o (.cmp .NotIn (.var 11) (.var 6))))))))))))⟩
noncomputable def P6:Fn:=⟨2,2,(.c (.ite (.bop .Or (.c (.not (.bi .isinstance (.t (.var 0) (.ty "tuple")))) (.t (.cmp .NotEq (.bi .len (.o (.var 0))) (.i 2)) (.not (.bi .isinstance (.t (.sub (.var 0) (.i 0)) (.ty "str"))))))) .F .nil) (.c (.ite (.bop .Or (.t (.not (.bi .isinstance (.t (.sub (.var 0) (.i 1)) (.ty "int")))) (.bi .isinstance (.t (.sub (.var 0) (.i 1)) (.ty "bool"))))) .F .nil) (.o (.ret (.cmp .Eq (.var 0) (.var 1))))))⟩
noncomputable def S1:Fn:=⟨2,4,(.c (.ite (.bop .Or (.t (.not (.bi .isinstance (.t (.var 0) (.ty "list")))) (.cmp .NotEq (.bi .len (.o (.var 0))) (.bi .len (.o (.var 1)))))) .F .nil) (.o (.ret (.bi .all (.o (.comp (.fcall 21 (.t (.var 2) (.var 3))) [2,3] (.zip (.var 0) (.var 1)) .nil))))))⟩
noncomputable def P4:Fn:=⟨2,4,(.c (.ite (.bop .Or (.t (.not (.bi .isinstance (.t (.var 0) (.ty "list")))) (.cmp .NotEq (.bi .len (.o (.var 0))) (.bi .len (.o (.var 1)))))) .F .nil) (.c (.for_ [2,3] (.zip (.var 0) (.var 1)) (.c (.ite (.bop .Or (.c (.not (.bi .isinstance (.t (.var 2) (.ty "tuple")))) (.t (.cmp .NotEq (.bi .len (.o (.var 2))) (.i 2)) (.not (.bi .isinstance (.t (.sub (.var 2) (.i 1)) (.ty "str"))))))) .F .nil) (.o (.ite (.bop .Or (.t (.not (.fcall 21 (.t (.sub (.var 2) (.i 0)) (.sub (.var 3) (.i 0))))) (.cmp .NotEq (.sub (.var 2) (.i 1)) (.sub (.var 3) (.i 1))))) .F .nil)))) (.o (.ret (.cst (.bool true))))))⟩
noncomputable def Os:Fn:=⟨2,3,(.c (.ite (.bop .Or (.t (.not (.bi .isinstance (.t (.var 0) (.ty "list")))) (.cmp .NotEq (.bi .len (.o (.var 0))) (.bi .len (.o (.var 1)))))) .F .nil) (.o (.ret (.bop .And (.t (.bi .all (.o (.comp (.bi .isinstance (.t (.var 2) (.ty "str"))) [2] (.var 0) .nil))) (.cmp .Eq (.var 0) (.var 1)))))))⟩
noncomputable def Ot:Fn:=⟨5,8,(.c (.ite (.cmp .Eq (.var 4) (.i 0)) (.c (.asg 5 (.mcall (ACC "row") (.var 0) .nil)) (.o (.asg 6 (.fcall 22 (.t (.var 5) (.var 1)))))) (.o (.ite (.cmp .Eq (.var 4) (.i 1)) (.c (.asg 5 (.mcall (ACC "told") (.var 0) .nil)) (.o (.asg 6 (.fcall 23 (.t (.var 5) (.var 2)))))) (.o (.ite (.cmp .Eq (.var 4) (.i 2)) (.c (.asg 5 (.mcall (ACC "names") (.var 0) .nil)) (.o (.asg 6 (.fcall 24 (.t (.var 5) (.var 3)))))) (.c (.asg 5 (.mcall (ACC "text") (.var 0) .nil)) (.o (.asg 6 (.fcall 24 (.t (.var 5) (.comp (.sub (.var 7) (.i 1)) [7] (.var 2) .nil))))))))))) (.c (.ite (.var 6) (.o (.exp (.meth .clear (.var 5) .nil))) .nil) (.o (.ret (.var 6)))))⟩
noncomputable def XX:Fn:=⟨2,8,(.c (.unp [2,3] (.fcall 20 (.o (.var 1)))) (.c (.asg 4 (.bi .sorted (.o (.comp (.sub (.var 5) (.i 0)) [5] (.var 1) .nil)))) (.c (.for_ [6] (.range (.o (.i 5))) (.c (.asg 7 (.bin .Mod (.bin .Add (.bin .Mult (.var 6) (.bin .Add (.i 1) (.bin .Mult (.bin .Mod (.bi .len (.o (.var 2))) (.i 2)) (.i 2)))) (.bi .len (.o (.var 3)))) (.i 4))) (.o (.ite (.not (.fcall 25 (.c (.var 0) (.c (.var 2) (.c (.var 3) (.t (.var 4) (.var 7))))))) .F .nil)))) (.o (.ret (.cst (.bool true)))))))⟩
noncomputable def cX:Fn:=⟨1,3,(.c (.asg 1 (.new)) (.c (.for_ [2] (.var 0) (.o (.exp (.mcall (ACC "add") (.var 1) (.o (.fcall 17 (.o (.var 2)))))))) (.o (.ret (.var 1)))))⟩
noncomputable def XZ:Fn:=⟨2,7,(.c (.asg 2 (.dct)) (.c (.for_ [3] (.var 0) (.o (.set (.var 2) (.sub (.var 3) (.i 0)) (.sub (.var 3) (.i 1))))) (.c (.asg 4 (.lst .nil)) (.c (.asg 5 (.bi .list (.o (.var 1)))) (.c (.while_ (.var 5) (.c (.asg 6 (.meth .pop (.var 5) .nil)) (.o (.ite (.cmp .NotIn (.var 6) (.var 4)) (.c (.exp (.meth .append (.var 4) (.o (.var 6)))) (.o (.exp (.meth .extend (.var 5) (.o (.sub (.var 2) (.var 6))))))) .nil)))) (.o (.ret (.var 4))))))))⟩
noncomputable def Yb:Fn:=⟨2,4,(.c (.asg 2 (.fcall 28 (.t (.var 0) (.var 1)))) (.o (.ret (.comp (.var 3) [3] (.var 0) (.o (.cmp .In (.sub (.var 3) (.i 0)) (.var 2)))))))⟩
noncomputable def nT:Fn:=⟨2,6,(.c (.asg 2 (.fcall 10 (.t (.var 1) (.i 3)))) (.c (.asg 3 (.lst .nil)) (.c (.for_ [4,5] (.enum (.var 0)) (.c (.ite (.cmp .Eq (.bin .Mod (.var 2) (.i 3)) (.i 0)) (.o (.exp (.meth .append (.var 3) (.o (.sub (.var 5) (.i 0)))))) .nil) (.c (.asg 2 (.bin .FloorDiv (.var 2) (.i 3))) (.o (.ite (.cmp .Lt (.var 2) (.i 3)) (.o (.asg 2 (.fcall 10 (.t (.var 1) (.bin .Add (.var 4) (.i 4)))))) .nil))))) (.o (.ret (.var 3))))))⟩
noncomputable def P3:Fn:=⟨2,8,(.c (.asg 2 (.lst .nil)) (.c (.for_ [3] (.var 0) (.o (.ite (.cmp .Gt (.bi .len (.o (.comp (.var 4) [4] (.sub (.var 3) (.i 2)) (.o (.bop .And (.t (.cmp .Eq (.sub (.var 4) (.i 0)) (.s "set")) (.cmp .Eq (.sub (.var 4) (.i 1)) (.var 1)))))))) (.i 0)) (.o (.exp (.meth .append (.var 2) (.o (.sub (.var 3) (.i 0)))))) .nil))) (.c (.asg 5 (.lst .nil)) (.c (.for_ [6] (.var 2) (.o (.ite (.not (.bi .any (.o (.comp (.cmp .In (.var 6) (.fcall 28 (.t (.var 0) (.lst (.o (.var 7)))))) [7] (.var 2) (.o (.cmp .NotEq (.var 7) (.var 6))))))) (.o (.exp (.meth .append (.var 5) (.o (.var 6))))) .nil))) (.o (.ret (.bi .sorted (.o (.var 5)))))))))⟩
noncomputable def P5:Fn:=⟨1,5,(.c (.asg 1 (.lst .nil)) (.c (.for_ [2,3] (.sub (.fcall 20 (.o (.var 0))) (.i 1)) (.c (.asg 4 (.fcall 31 (.t (.var 0) (.var 2)))) (.o (.ite (.cmp .Gt (.bi .len (.o (.var 4))) (.i 1)) (.o (.exp (.meth .append (.var 1) (.o (.tup (.t (.var 2) (.var 4))))))) .nil)))) (.o (.ret (.var 1)))))⟩
noncomputable def dA:Fn:=⟨3,10,(.c (.ite (.bop .And (.t (.cmp .Eq (.bin .Mod (.var 2) (.i 2)) (.i 1)) (.cmp .NotEq (.mcall (ACC "questions") (.var 0) .nil) (.fcall 60 (.o (.var 1)))))) .F .nil) (.c (.asg 3 (.fcall 19 (.o (.var 1)))) (.c (.for_ [4] (.range (.o (.bi .min (.t (.i 4) (.bi .len (.o (.var 1))))))) (.c (.asg 5 (.sub (.var 1) (.bin .Mod (.bin .Add (.var 2) (.var 4)) (.bi .len (.o (.var 1)))))) (.c (.asg 6 (.sub (.var 5) (.i 0))) (.c (.asg 7 (.bi .sorted (.o (.fcall 28 (.t (.var 1) (.lst (.o (.var 6)))))))) (.c (.asg 8 (.comp (.sub (.var 9) (.i 0)) [9] (.var 1) (.o (.cmp .In (.var 6) (.fcall 28 (.t (.var 1) (.lst (.o (.sub (.var 9) (.i 0)))))))))) (.c (.ite (.bop .And (.t (.cmp .Eq (.bin .Mod (.bin .FloorDiv (.var 2) (.i 2)) (.i 2)) (.i 1)) (.cmp .NotEq (.bi .sorted (.o (.bin .Add (.mcall (ACC "leaning") (.var 0) (.o (.var 6))) (.lst (.o (.var 6)))))) (.bi .sorted (.o (.var 8)))))) .F .nil) (.c (.ite (.bop .Or (.t (.cmp .NotEq (.mcall (ACC "height") (.var 0) (.o (.var 6))) (.sub (.var 3) (.var 6))) (.cmp .NotEq (.mcall (ACC "change") (.var 0) (.o (.var 6))) (.var 5)))) .F .nil) (.c (.ite (.cmp .NotEq (.bi .sorted (.o (.bin .Add (.mcall (ACC "ground") (.var 0) (.o (.var 6))) (.lst (.o (.var 6)))))) (.var 7)) .F .nil) (.o (.ite (.cmp .NotEq (.bi .sorted (.o (.bin .Add (.mcall (ACC "leaning") (.var 0) (.o (.var 6))) (.lst (.o (.var 6)))))) (.bi .sorted (.o (.var 8)))) .F .nil)))))))))) (.o (.ret (.cmp .Eq (.mcall (ACC "questions") (.var 0) .nil) (.fcall 60 (.o (.var 1)))))))))⟩
noncomputable def MD:Fn:=⟨3,3,(.c (.ite (.bop .And (.t (.cmp .Eq (.bin .Mod (.bin .FloorDiv (.var 2) (.i 4)) (.i 2)) (.i 1)) (.not (.fcall 61 (.c (.var 0) (.t (.var 1) (.var 2))))))) .F .nil) (.o (.ret (.bop .And (.t (.fcall 26 (.t (.var 0) (.var 1))) (.fcall 61 (.c (.var 0) (.t (.var 1) (.var 2)))))))))⟩
noncomputable def dC:Fn:=⟨1,3,(.c (.asg 1 (.lst (.c (.bi .isinstance (.t (.var 0) (.glx 2))) (.c (.bi .isinstance (.t (.var 0) (.glx 3))) (.t (.bi .isinstance (.t (.var 0) (.glx 4))) (.bi .isinstance (.t (.var 0) (.glx 5)))))))) (.c (.asg 1 (.bin .Add (.var 1) (.lst (.c (.bi .isinstance (.t (.var 0) (.glx 6))) (.c (.bi .isinstance (.t (.var 0) (.glx 7))) (.t (.bi .isinstance (.t (.var 0) (.glx 8))) (.bi .isinstance (.t (.var 0) (.glx 9))))))))) (.o (.ret (.bop .And (.c (.cmp .Eq (.bi .len (.o (.comp (.var 2) [2] (.var 1) (.o (.var 2))))) (.i 1)) (.t (.bi .isinstance (.t (.var 0) (.glx 1))) (.bi .isinstance (.t (.var 0) (.ty "ValueError"))))))))))⟩
noncomputable def VK:Fn:=⟨4,6,(.c (.asg 4 (.bin .Mod (.var 2) (.bin .Add (.bi .len (.o (.var 1))) (.i 1)))) (.c (.tryAs (.o (.exp (.fcall 77 (.t (.var 0) (.bin .Add (.bin .Add (.slc (.var 1) .nil (.var 4)) (.lst (.o (.var 3)))) (.slc (.var 1) (.var 4) .nil)))))) [(5,5,.fcall 73 (.cons (.var 5) .nil))]) .F))⟩
noncomputable def VJ:Fn:=⟨3,5,(.c (.ite (.bop .Or (.t (.cmp .Lt (.bi .len (.o (.var 0))) (.i 4)) (.cmp .NotEq (.bin .Mod (.var 1) (.i 12)) (.i 5)))) (.o (.ret (.var 0))) .nil) (.c (.asg 3 (.lst .nil)) (.c (.for_ [4] (.range (.o (.bin .Mult (.i 4) (.bin .Add (.var 2) (.bin .Mod (.bin .FloorDiv (.var 1) (.i 12)) (.bin .Sub (.i 61) (.var 2))))))) (.c (.exp (.meth .append (.var 3) (.o (.fcall 10 (.t (.sub (.var 0) (.bin .Mod (.var 4) (.bi .len (.o (.var 0))))) (.var 4)))))) (.o (.ite (.bop .And (.t (.cmp .Eq (.bin .Mod (.var 4) (.i 4)) (.i 1)) (.cmp .Eq (.bin .Mod (.bin .FloorDiv (.var 1) (.i 12)) (.i 2)) (.i 1)))) (.o (.set (.var 3) (.var 4) (.bin .Add (.bin .Mult (.bin .FloorDiv (.sub (.var 3) (.var 4)) (.i 7)) (.i 7)) (.i 3)))) .nil)))) (.o (.ret (.var 3))))))⟩
noncomputable def nU:Fn:=⟨2,3,(.o (.for_ [2] (.lst (.c (.mcall (ACC "row") (.var 0) .nil) (.c (.mcall (ACC "told") (.var 0) .nil) (.c (.mcall (ACC "names") (.var 0) .nil) (.t (.mcall (ACC "text") (.var 0) .nil) (.mcall (ACC "questions") (.var 0) .nil)))))) (.o (.exp (.meth .append (.var 1) (.o (.tup (.t (.var 2) (.bi .repr (.o (.var 2)))))))))))⟩
noncomputable def nV:Fn:=⟨1,3,(.o (.ret (.bi .all (.o (.comp (.cmp .Eq (.bi .repr (.o (.var 1))) (.var 2)) [1,2] (.var 0) .nil)))))⟩
noncomputable def MC:Fn:=⟨1,16,(.c (.asg 1 (.fcall 16 (.t (.fcall 33 (.c (.slc (.var 0) (.i 4) .nil) (.t (.fcall 9 (.t (.var 0) (.i 3))) (.i 10)))) (.i 60)))) (.c (.asg 2 (.fcall 27 (.o (.fcall 18 (.t (.var 1) (.fcall 9 (.t (.var 0) (.i 0)))))))) (.c (.asg 3 (.mcall (ACC "row") (.var 2) .nil)) (.c (.ite (.not (.fcall 22 (.t (.var 3) (.sub (.fcall 20 (.o (.var 1))) (.i 0))))) .F .nil) (.c (.asg 4 (.lst .nil)) (.c (.exp (.fcall 64 (.t (.var 2) (.var 4)))) (.c (.for_ [5] (.range (.o (.i 2))) (B8 (B9 (B6 (B5 (B10 (B4 (B1 (B2 (B3 .nil)))))))))) (B7 .nil))))))))⟩
noncomputable def EK:List (Nat×Str×Fn×List Str):=[ (2,ACC "is_name",VS,sN ["thing","sign"]),(3,ACC "is_line",VT,sN ["thing","sign"]),(4,ACC "check_leans",ME,sN ["name","leans","lean","one","other"]),(5,ACC "check_deed",Ou,sN ["deed"]),(6,ACC "check",dB,sN ["change","name","leans","deeds","deed"]),(7,ACC "adds_of",Ov,sN ["change","deed"]),(8,ACC "ordered",VL,sN ["names","heights","falling","name"]),(76,ACC "woven",Yc,sN ["changes","heights","made","name"]),(77,ACC "part",dD,sN ["weave","names","changes","heights","name","one"]),(9,ACC "_law_cell",nW,sN ["_law_script","_law_k"]),(10,ACC "_law_mixed",VP,sN ["_law_cell_here","_law_k"]),(11,ACC "_law_name",VN,sN ["_law_cell_here","_law_taken","_law_signs","_law_left","_law_found","_law_j","_law_at"]),(12,ACC "_law_line",VR,sN ["_law_cell_here","_law_some_here","_law_size","_law_found","_law_j"]),(13,ACC "_law_leans",P7,sN ["_law_cell_here","_law_ahead","_law_left","_law_found","_law_k","_law_change","_law_last"]),(14,ACC "_law_marks",VQ,sN ["_law_change","_law_many","_law_deed","_law_j"]),(15,ACC "_law_deeds",P8,sN ["_law_name_here","_law_cell_here","_law_many","_law_marks_here","_law_deeds_here","_law_own","_law_k","_law_known_here","_law_left","_law_at","_law_line_here","_law_mark","_law_j"]),(16,ACC "_law_changes",H6,sN ["_law_cells","_law_most","_law_found","_law_taken","_law_k","_law_name_here","_law_leans_here","_law_marks_here","_law_change","_law_many"]),(17,ACC "_law_copy",Zo,sN ["_law_change"]),(18,ACC "_law_turned",MB,sN ["_law_changes_here","_law_cell_here","_law_left","_law_there","_law_found","_law_ready","_law_change","_law_lean"]),(19,ACC "_law_heights",VU,sN ["_law_changes_here","_law_found","_law_change","_law_lean"]),(20,ACC "_law_model",VO,sN ["_law_changes_here","_law_height","_law_order","_law_change","_law_row","_law_words","_law_gone","_law_own","_law_deed","_law_one","_law_at","_law_mark"]),(21,ACC "_law_mark_like",P6,sN ["_law_found","_law_due"]),(22,ACC "_law_row_like",S1,sN ["_law_found","_law_due","_law_one","_law_other"]),(23,ACC "_law_told_like",P4,sN ["_law_found","_law_due","_law_one","_law_other"]),(24,ACC "_law_texts_like",Os,sN ["_law_found","_law_due","_law_one"]),(25,ACC "_law_one_stands",Ot,sN ["_law_weave","_law_row","_law_told","_law_names","_law_at","_law_found","_law_good","_law_pair"]),(26,ACC "_law_stands",XX,sN ["_law_weave","_law_changes_here","_law_row","_law_told","_law_names","_law_change","_law_turn","_law_at"]),(27,ACC "_law_woven",cX,sN ["_law_changes_here","_law_weave","_law_change"]),(28,ACC "_law_ground",XZ,sN ["_law_changes_here","_law_names","_law_leans_here","_law_change","_law_found","_law_waiting","_law_name_here"]),(78,ACC "_law_closed",Yb,sN ["_law_changes_here","_law_names","_law_there","_law_change"]),(79,ACC "_law_some",nT,sN ["_law_changes_here","_law_cell_here","_law_left","_law_found","_law_k","_law_change"]),(31,ACC "_law_unsettled",P3,sN ["_law_changes_here","_law_mark","_law_names","_law_change","_law_deed","_law_found","_law_name_here","_law_one"]),(60,ACC "_law_questions",P5,sN ["_law_changes_here","_law_found","_law_mark","_law_words","_law_names"]),(61,ACC "_law_known",dA,sN ["_law_weave","_law_changes_here","_law_cell_here","_law_height","_law_k","_law_change","_law_name_here","_law_ground_here","_law_leaning","_law_one"]),(62,ACC "_law_known_first",MD,sN ["_law_weave","_law_changes_here","_law_cell_here"]),(73,ACC "_law_alone",dC,sN ["_law_e","_law_some_here","_law_one"]),(74,ACC "_law_refused",VK,sN ["_law_weave","_law_names","_law_cell_here","_law_other","_law_at","_law_e"]),(33,ACC "_law_wide",VJ,sN ["_law_cells","_law_flag","_law_most","_law_found","_law_j"]),(64,ACC "_law_hold",nU,sN ["_law_weave","_law_held_here","_law_some_here"]),(65,ACC "_law_held",nV,sN ["_law_held_here","_law_one","_law_other"]),(34,ACC "law",MC,sN ["_law_script","_law_changes_here","_law_weave","_law_row","_law_held_here","_law_turn","_law_cell_here","_law_names","_law_handed","_law_some_here","_law_closed_here","_law_there","_law_other","_law_name_here","_law_change","_law_mark"])]
noncomputable def Eo:List (Nat×Str×Fn×List Str):=[ (35,ACC "__init__",Oz,sN ["self"]),(36,ACC "add",GH,sN ["self","change","name","lean","ground","other"]),(37,ACC "check_marks",GG,sN ["self","change","own","deed","mark","many"]),(38,ACC "need",Ir,sN ["self","name"]),(39,ACC "take",Oy,sN ["self","name","out","one"]),(40,ACC "names",MF,sN ["self"]),(41,ACC "change",KB,sN ["self","name","held"]),(42,ACC "height",KA,sN ["self","name"]),(43,ACC "ground",Gw,sN ["self","name"]),(44,ACC "leaning",Kq,sN ["self","name","one"]),(45,ACC "grown",H8,sN ["self","row","words","gone","name","number","deed","mark","at"]),(46,ACC "row",P9,sN ["self"]),(47,ACC "told",Ow,sN ["self","row","words","gone","mark"]),(48,ACC "text",Ox,sN ["self","pair"]),(49,ACC "setters",Kp,sN ["self","found","name","deed"]),(50,ACC "open_ones",Ib,sN ["self","names","found","name","other"]),(51,ACC "questions",Ia,sN ["self","found","setters","pair","names"])]
noncomputable def bQ:List (Str×GV):=[ (ACC "is_name",.fn 2),(ACC "is_line",.fn 3),(ACC "check_leans",.fn 4),(ACC "check_deed",.fn 5),(ACC "check",.fn 6),(ACC "adds_of",.fn 7),(ACC "ordered",.fn 8),(ACC "woven",.fn 76),(ACC "part",.fn 77),(ACC "_law_cell",.fn 9),(ACC "_law_mixed",.fn 10),(ACC "_law_name",.fn 11),(ACC "_law_line",.fn 12),(ACC "_law_leans",.fn 13),(ACC "_law_marks",.fn 14),(ACC "_law_deeds",.fn 15),(ACC "_law_changes",.fn 16),(ACC "_law_copy",.fn 17),(ACC "_law_turned",.fn 18),(ACC "_law_heights",.fn 19),(ACC "_law_model",.fn 20),(ACC "_law_mark_like",.fn 21),(ACC "_law_row_like",.fn 22),(ACC "_law_told_like",.fn 23),(ACC "_law_texts_like",.fn 24),(ACC "_law_one_stands",.fn 25),(ACC "_law_stands",.fn 26),(ACC "_law_woven",.fn 27),(ACC "_law_ground",.fn 28),(ACC "_law_closed",.fn 78),(ACC "_law_some",.fn 79),(ACC "_law_unsettled",.fn 31),(ACC "_law_questions",.fn 60),(ACC "_law_known",.fn 61),(ACC "_law_known_first",.fn 62),(ACC "_law_alone",.fn 73),(ACC "_law_refused",.fn 74),(ACC "_law_wide",.fn 33),(ACC "_law_hold",.fn 64),(ACC "_law_held",.fn 65),(ACC "BadChange",.exc 2),(ACC "MOST_DEEDS",.cst (.int 20)),(ACC "MOST_LINE",.cst (.int 200)),(ACC "MOST_NAME",.cst (.int 12)),(ACC "Missing",.exc 5),(ACC "NAME_SIGNS",.cst (.str (ACC "abcdefghijklmnopqrstuvwxyz0123456789"))),(ACC "NoLine",.exc 6),(ACC "NoNote",.exc 9),(ACC "NotLeaned",.exc 3),(ACC "Other",.exc 7),(ACC "Ring",.exc 8),(ACC "Twice",.exc 4),(ACC "ValueError",.ty "ValueError"),(ACC "Weave",.cls),(ACC "WeaveError",.exc 1),(ACC "all",.bi .all),(ACC "any",.bi .any),(ACC "bool",.ty "bool"),(ACC "enumerate",.ty "enumerate"),(ACC "int",.ty "int"),(ACC "isinstance",.bi .isinstance),(ACC "len",.bi .len),(ACC "list",.ty "list"),(ACC "max",.bi .max),(ACC "min",.bi .min),(ACC "ord",.bi .ord),(ACC "range",.ty "range"),(ACC "repr",.bi .repr),(ACC "sorted",.bi .sorted),(ACC "str",.ty "str"),(ACC "tuple",.ty "tuple"),(ACC "zip",.ty "zip")]
noncomputable def NG:List (Nat×Str):=[(2,ACC "BadChange"),(5,ACC "Missing"),(6,ACC "NoLine"),(9,ACC "NoNote"),(3,ACC "NotLeaned"),(7,ACC "Other"),(8,ACC "Ring"),(4,ACC "Twice"),(1,ACC "WeaveError")]
noncomputable def Hu:List Nat:=[5]
@[irreducible] noncomputable def Pg (f:Nat):Option Fn:=((EK++Eo).find? λx=>Nat.beq x.1 f).map (·.2.2.1)
@[irreducible]
noncomputable def glP(n:Str):Option GV:=bQ.lookup n
@[irreducible]
noncomputable def mtP(n:Str):Option Nat:=(Eo.find? λx=>x.2.1==n).map (·.1)
open PySem.Calls
structure mP(T:Top):Prop where
 nolimit:T.h0.NoLimit
 seer:T.h0.NoSeer
 tree:T.prog.given.tree=au
 mods:∃o,T.h0.get? sysModules=aj o
 tf:∀t q q',(t,q)∈T.tabs->(t,q')∈T.tabs->q=q'
noncomputable def AZ:Bi->Value
 |.len=>.builtin "len"
 |.sorted=>.builtin "sorted"
 |.min=>.builtin "min"
 |.isinstance=>.builtin "isinstance"
 |.str=>.type "str"
 |.all=>.builtin "all"
 |.any=>.builtin "any"
 |.max=>.builtin "max"
 |.list=>.type "list"
 |.ord=>.builtin "ord"
 |.int=>.type "int"
 |.repr=>.builtin "repr"
noncomputable def cW(T:Top):GV->Value->Prop
 |.fn f,x=>∃a,T.fn f=aj a/\x=.ref a
 |.bi b,x=>x=AZ b
 |.ty t,x=>x=.type t
 |.cst d,x=>AI T.h0.get? d x
 |.cls,x=>x=.ref T.cls
 |.exc k,x=>∃a,T.exc k=aj a/\x=.ref a
structure Ready(T:Top)(gl:Str->Option GV):Prop where
 ok:mP T
 fnob:∀f a,T.fn f=aj a->∃o fd,T.h0.get? a=aj o/\o.data=.func fd
 ns:∃mg mb,T.h0.Ns mainGlobals mg/\T.h0.Ns builtinsNs mb/\(∀n v,gl n=aj v->∃x,cW T v x/\(mg n=aj x\/(mg n=au/\mb n=aj x))) ∧
  ∃bm ob,mg "__builtins__" = aj (.ref bm)/\bm≠builtinsNs/\T.h0.get? bm=aj ob/\ob.cls=.type "module"/\ob.dict=aj builtinsNs/\ob.data=.plain
structure cZ(T:Top)(gl:Str->Option GV)(fn:Fn)(a:Addr)(fd:FuncData)(body:List Stmt)(o:Obj)(vars:List Str)(lam:Option (Addr×Str)):Prop where
 ob:T.h0.get? a=aj o
 data:o.data=.func fd
 code:T.h0.CodeRec fd.code fd.qualname
 bd:fd.body=.stmts body
 clo:fd.closure=[]
 glob:fd.globals=mainGlobals
 blt:fd.builtins=builtinsNs
 kind:fd.scope.kind=.function
 gen:fd.scope.isGenerator=false
 cor:fd.scope.isCoroutine=false
 nd:vars.Nodup
 bind:∀vals:List Value,vals.length=fn.np->bindArgs fd ⟨vals,[]⟩=pure ((vars.take fn.np).zip vals)
 par:∀n,n∈vars.take fn.np->fd.scope.names.lookup n=aj .local\/fd.scope.names.lookup n=aj .cell
 nof:∀p,p∈fd.scope.names->p.2≠.free
 is:XS fn.body ⟨vars,fd.scope.names,vars,gl,lam⟩ body
 lam:∀t q,lam=aj (t,q)->(t,q)∈T.tabs/\(fd.qualname++(".<locals>." : Str))++("<lambda>" : Str)=q/\∃c,fd.code=.ref c/\W.CodeHd T.h0 c t
def cY(T:Top)(gl:Str->Option GV)(fn:Fn)(a:Addr):Prop:=∀R_:Prop,(∀fd body o vars lam,cZ T gl fn a fd body o vars lam->R_)->R_
structure Rm(T:Top)(mN:Str->Option Value):Prop where
 ga:mN "__getattribute__" = au
 ge:mN "__getattr__" = au
 se:mN "__setattr__" = au
 att:∀nm,nm∈Dq->mN nm=au
 mt:∀nm f,mtP nm=aj f->nm∉Dq/\∃a o,T.fn f=aj a/\mN nm=aj (.ref a)/\T.h0.get? a=aj o/\o.cls=.type "function"
def nY(T:Top)(C:Addr):Prop:=∃(x:Str) (bm:List Value) (newId B initId:String) (mg:Str->Option Value),PyProof.Rows.OwnCls x C bm newId mg T.h0/\ExcBaseFacts B newId initId bm
def XcV(T:Top)(k:Nat)(w:Value):Prop:=bif Nat.beq k 0 then w=.type "ValueError" else∃a,T.exc k=aj a/\w=.ref a
noncomputable def Cq(c k:Nat):Bool:=Nat.beq c k||(Nat.beq k 1||Nat.beq k 0)
def Rl(T:Top):Prop:=∀(c k:Nat) (D:Addr) (w:Value),c∈Hu->k<10->T.exc c=aj D->XcV T k w->∀(A:Around) (Q:Value->Shared->Prop) (E:Value->Shared->Prop) (s:Shared) (e:Addr) (o:Obj) (vs:Array Value),(∀b o,T.h0.get? b=aj o->s.heap.get? b=aj o)->s.heap.get? e=aj o->o.cls=.ref D->o.dict=au->o.data=.fields vs->(∀tk,Q (.bool (Cq c k)) {s with toks:=tk})->wpAny (model T.prog T.w) A (call (.builtin "isinstance") [.ref e,w]) Q E s
def Rn(T:Top):Prop:=∀(c k:Nat) (D w:Addr),c∈Hu->k∈Hu->T.exc c=aj D->T.exc k=aj w->∀(A:Around) (Q:Bool->Shared->Prop) (E:Value->Shared->Prop) (s:Shared) (e:Addr) (o:Obj) (vs:Array Value),(∀b o,T.h0.get? b=aj o->s.heap.get? b=aj o)->s.heap.get? e=aj o->o.cls=.ref D->o.dict=au->o.data=.fields vs->Q (Cq c k) s->wpAny (model T.prog T.w) A (excMatches (.ref e) (.ref w)) Q E s
structure Km(T:Top):Prop extends Ready T glP where
 fns:∀f fn a,Pg f=aj fn->T.fn f=aj a->cY T glP fn a
 cls:∃N mN,PyProof.Rows.ClsAt T.h0 T.cls N mN/\Rm T mN
 excs:∀k C,T.exc k=aj C->nY T C
 isi:Rl T
 cat:Rn T
structure Ar where
 T:Top
 fe:List Env
 A:Around
noncomputable abbrev Ar.wp{α:Type}(r:Ar)(m:Sem α)(Q:α->Shared->Prop)(s:Shared):Prop:=wpAny (model r.T.prog r.T.w) r.A m Q (λ_ _=>False) s
structure Rj(e:Env):Prop where
 kind:e.scope.kind≠.module
 gen:e.scope.isGenerator=false
 cor:e.scope.isCoroutine=false
 blt:e.builtins=builtinsNs
 glob:e.globals=mainGlobals
inductive XW(g:G)(hd:Option Value):Prop
 |mk (b:Addr) (o:Obj) (vs:Array Value) (h1:hd=aj (.ref b)) (h2:g.fz b=aj o) (h3:o.data=.fields vs/\vs[2]? = aj .none):XW g hd
def HOk(n:Nat)(g:G)(A:Around):Prop:=(A.handled=au\/(n<3/\XW g A.handled))/\A.guards=aj []
theorem HOk.none(h:HOk n g A)(hn:3<=n):A.handled=au:=h.1.elim id λq=>absurd q.1 (AB4.mpr hn)
theorem HOk.less(h:HOk n g A)(hm:m<=n):HOk m g A:=⟨h.1.imp id λq=>⟨AAS hm q.1,q.2⟩,h.2⟩
def Co(g:G)(fe:List Env):Prop:=∀e,e∈fe->Rj e/\∃L o es ep,e.frame=aj L/\g.hid L=aj o/\o.cls=frC/\o.data=.dict es ep
theorem Co.mono(x:Co g fe)(h:∀a,g'.hid a=g.hid a):Co g' fe:=λe he=>⟨(x e he).1,by refine DW ((x e he).2) λL o es ep h1 h2 h3=>?_;exact(EG L o es ep h1 ((h L).trans h2) h3)⟩
theorem Co.hideF(x:Co g fe)(h:o.cls=frC)(d:o.data=.dict es ep):Co (g.hide a o) fe:=λe he=>⟨(x e he).1,by
 refine DW ((x e he).2) λL o' es' ep' h1 h2 h3=>?_;by_cases q:L=a
 ·exact Jz L o es ep h1 (if_pos q) h d
 ·exact(EG L o' es' ep' h1 ((if_neg q).trans h2) h3)⟩
structure At(n:Nat)(r:Ar)(g:G)(U:Ac)(s:Shared):Prop where
 ok:Km r.T
 frames:r.A.frames=aj r.fe
 top:∃e l,r.fe=e::l/\Rj e
 depth:r.A.depth+n<=600
 units:r.A.units+100*n<=9000
 hh:HOk n g r.A
 frs:Co g r.fe
 has:Has r.T g U s
theorem HOk.mono(h:HOk n g A)(le:G.up g g'):HOk n g' A:=⟨h.1.imp id λq=>⟨q.1,by obtain⟨b,o,vs,h1,h2,h3⟩:=q.2;exact⟨b,o,vs,h1,le.fz _ _ h2,h3⟩⟩,h.2⟩
theorem At.step(x:At n r g U s)(le:G.le [] g g')(h:Has r.T g' U' s'):At n r g' U' s':=⟨x.ok,x.frames,x.top,x.depth,x.units,x.hh.mono le.toup,x.frs.mono λa=>le.hid a AA1,h⟩
theorem At.stepF(x:At n r g U s)(le:G.up g g')(f:Co g' r.fe)(h:Has r.T g' U' s'):At n r g' U' s':=⟨x.ok,x.frames,x.top,x.depth,x.units,x.hh.mono le,f,h⟩
theorem At.less(x:At n r g U s)(h:m<=n):At m r g U s:=⟨x.ok,x.frames,x.top,AAC (AC3 h _) x.depth,AAC (AC3 (ADC _ h) _) x.units,x.hh.less h,x.frs,x.has⟩
theorem At.nolimit(x:At n r g U s):s.heap.NoLimit:=x.ok.ok.nolimit.keeps λb o e=>x.has.fz b o (x.has.base b o e)
theorem At.pylong(x:At n r g U s):PylongRoom (model r.T.prog r.T.w) r.A s:=by exact AH x.top λe l hf t=>PylongRoom.of x.nolimit (AAS (ADB (AAC (AA9 _ _) x.depth) 100) (by decide)) (SeerAt.of (x.ok.ok.seer.keeps λb o e=>x.has.fz b o (x.has.base b o e)) x.ok.ok.tree (hf▸x.frames) t.gen t.cor t.blt t.glob)
theorem At.room(x:At n r g U s):r.A.units+41<cLine:=AAS (ADB (AAC (AA9 _ _) x.units) 41) (by decide)
noncomputable abbrev Ans(r:Ar)(g:G)(v:V)(U':Ac)(x:Value)(s':Shared):Prop:=CI r.T [] g U' (λg'=>Au r.T g' v x) s'
def Pr1(m:Value->Sem Value)(x:V)(U:Ac)(v:V)(U':Ac)(k:Nat:=0):Prop :=
 ∀(r:Ar) (g:G) (s:Shared) (X:Value),At k r g U s->Au r.T g x X->r.wp (m X) (Ans r g v U') s
def Pr2(m:Value->Value->Sem Value)(x y:V)(U:Ac)(v:V)(U':Ac)(k:Nat:=0):Prop :=
 ∀(r:Ar) (g:G) (s:Shared) (X Y:Value),At k r g U s->Au r.T g x X->Au r.T g y Y->r.wp (m X Y) (Ans r g v U') s
def PrL(m:List Value->Sem Value)(xs:List V)(U:Ac)(v:V)(U':Ac)(k:Nat:=0):Prop :=
 ∀(r:Ar) (g:G) (s:Shared) (Xs:List Value),At k r g U s->As r.T g xs Xs->r.wp (m Xs) (Ans r g v U') s
theorem Pr1.up(h:Pr1 m x U v U'):Pr1 m x U v U' k:=λr g s X A=>h r g s X (A.less (ABF _))
theorem Pr2.up(h:Pr2 m x y U v U'):Pr2 m x y U v U' k:=λr g s X Y A=>h r g s X Y (A.less (ABF _))
def FA(n f:Nat)(xs:List V)(U:Ac)(v:V)(U':Ac):Prop :=
 ∀(r:Ar) (g:G) (s:Shared) (a:Addr) (Xs:List Value),r.T.fn f=aj a->At n r g U s->As r.T g xs Xs->r.wp (call (.ref a) Xs) (Ans r g v U') s
noncomputable abbrev FN(n f:Nat)(xs:List V)(U:Ac)(v:V)(U':Ac):Prop:=FA (n+3) f xs U v U'
def NsF(f:Addr->Option Obj)(a:Addr)(m:Str->Option Value):Prop:=∃o es ep,f a=aj o/\o.data=.dict es ep/\StrKeys es/\∀name,nsFind es name=m name
def Gy(f:Addr->Option Obj)(c:Addr)(v:Option Value):Prop:=∃o,f c=aj o/\o.data=.cell v
structure Cx extends Ar where
 K:Kx
 env:Env
 own:List Addr
structure I0(n:Nat)(c:Cx):Prop where
 rd:Ready c.T c.K.gl
 names:c.env.scope.names=c.K.names
 kind:c.env.scope.kind=.function
 glob:c.env.globals=mainGlobals
 blt:c.env.builtins=builtinsNs
 hfr:∃e l,c.fe=e::l/\c.env.frame=e.frame
 cinj:∀m m' a,c.env.cells.lookup m=aj a->c.env.cells.lookup m'=aj a->m=m'
 nd:c.K.vars.Nodup
 oloc:c.env.locals∈c.own
 ocell:∀m,m∈c.K.wr->∀a,c.env.kindOf m=aj .cell->c.env.cells.lookup m=aj a->a∈c.own
 lamc:∀t q,c.K.lam=aj (t,q)->1<=n/\(t,q)∈c.T.tabs/\c.env.qual++("<lambda>" : Str)=q/\∃a,c.env.code=.ref a/\W.CodeHd c.T.h0 a t
structure Loc(c:Cx)(J:Al)(g:G):Prop where
 ns:∀R_:Prop,(∀m,NsF g.hid c.env.locals m->(∀(i:Nat) (nm:Str) (v:V),c.K.vars[i]? = aj nm->J[i]? = aj (aj v)->c.env.kindOf nm=aj .local->∃x,m nm=aj x/\Au c.T g v x)->R_)->R_
 ce:∀nm,c.env.kindOf nm=aj .cell\/c.env.kindOf nm=aj .free->∀R_:Prop,(∀a u,c.env.cells.lookup nm=aj a->Gy g.hid a u->(∀(i:Nat) (v:V),c.K.vars[i]? = aj nm->J[i]? = aj (aj v)->∃x,u=aj x/\Au c.T g v x)->R_)->R_
 ow:∀a,a∈c.own->g.hid a≠au
structure Inv(n:Nat)(c:Cx)(J:Al)(g:G)(U:Ac)(s:Shared):Prop extends At n c.toAr g U s where
 cx:I0 n c
 loc:Loc c J g
def SE(n:Nat)(e:E)(J:Al)(U:Ac)(v:V)(U':Ac):Prop :=
 ∀(c:Cx) (g:G) (s:Shared) (ex:Expr),IsE e c.K ex->Inv n c J g U s->c.wp (eval ex c.env) (Ans c.toAr g v U') s
def ST(n:Nat)(e:E)(J:Al)(U:Ac)(b:Bool)(U':Ac):Prop :=
 ∀(c:Cx) (g:G) (s:Shared) (ex:Expr),IsE e c.K ex->Inv n c J g U s->c.wp (isTrue ex c.env (eval ex c.env)) (λx s'=>CI c.T [] g U' (λ_=>x=b) s') s
def SEs(n:Nat)(e:E)(J:Al)(U:Ac)(vs:List V)(U':Ac):Prop :=
 ∀(c:Cx) (g:G) (s:Shared) (xs:List Expr) (pos:Pos),Gm e c.K xs->Inv n c J g U s->c.wp (spliced (backTo pos (starEach xs c.env))) (λxs s'=>CI c.T [] g U' (λg'=>As c.T g' vs xs) s') s
set_option genCtorIdx true in
inductive Fl where
 |next (J:Al)
 |ret (v:V)
def BI(n:Nat)(c:Cx)(g:G)(Q:Fl->Ac->Prop)(f:Flow)(s':Shared):Prop :=
 ∀R_:Flow->Prop,(∀(J:Al) (U':Ac) (g':G),Q (.next J) U'->G.le c.own g g'->Inv n c J g' U' s'->R_ .next) ->
  (∀(v:V) (x:Value) (U':Ac) (g':G),Q (.ret v) U'->G.le c.own g g'->Has c.T g' U' s'->(∀a,a∈c.own->g'.hid a≠au)->Au c.T g' v x->R_ (.ret x))->R_ f
def SS(n:Nat)(st:S)(J:Al)(U:Ac)(Q:Fl->Ac->Prop):Prop :=
 ∀(c:Cx) (g:G) (s:Shared) (x:Stmt),IsS st c.K x->Inv n c J g U s->c.wp (exec x c.env) (BI n c g Q) s
def SSs(n:Nat)(st:S)(J:Al)(U:Ac)(Q:Fl->Ac->Prop):Prop :=
 ∀(c:Cx) (g:G) (s:Shared) (xs:List Stmt),XS st c.K xs->Inv n c J g U s->c.wp (execs xs c.env) (BI n c g Q) s
theorem NsF.to(x:NsF f a m)(h:∀o,f a=aj o->f' a=aj o):NsF f' a m:=x.imp λo x=>x.imp λ_ x=>x.imp λ_ x=>⟨h o x.1,x.2⟩
theorem Gy.to(x:Gy f a u)(h:∀o,f a=aj o->f' a=aj o):Gy f' a u:=x.imp λo x=>⟨h o x.1,x.2⟩
theorem Has.ns(H:Has T g U s)(h:NsF g.hid a m):NsF s.heap.get? a m:=by exact Cr h λo es ep e d k=>AS (H.hd a o e) λo' e' d' _=>⟨o',es,ep,e',d'.trans d,k⟩
theorem Has.cell(H:Has T g U s)(h:Gy g.hid a u):Gy s.heap.get? a u:=by exact oEA h λo e d=>AS (H.hd a o e) λo' e' d' _=>⟨o',e',d'.trans d⟩
theorem Co.hideC(x:Co g fe)(h:Gy g.hid a u):Co (g.hide a o) fe:=λe he=>⟨(x e he).1,by
 refine GX ((x e he).2) λL o' es' ep' h1 h2 h3 h4=>oEA h λbb bj bc=>(Jz L o' es' ep' h1 ((if_neg λq=>?_).trans h2) h3 h4)
 rw[q,bj] at h2;rw[AAA h2,h4] at bc;cases bc⟩
theorem C9(up:G.up g g')(h:∃x,o=aj x/\Au T g v x):∃x,o=aj x/\Au T g' v x:=h.imp λ_ h=>⟨h.1,Au.mono up _ _ h.2⟩
theorem Loc.step(x:Loc c J g)(up:G.up g g')(hd:∀a,g'.hid a=g.hid a):Loc c J g' :=
 ⟨λR_ k=>x.ns R_ λm h1 h2=>k m (h1.to λo e=>(hd _).trans e) λi nm v e1 e2 e3=>C9 up (h2 i nm v e1 e2 e3),
  λnm hk R_ k=>x.ce nm hk R_ λa u h1 h2 h3=>k a u h1 (h2.to λo e=>(hd _).trans e) λi v e1 e2=>C9 up (h3 i v e1 e2),λa h=>hd a▸x.ow a h⟩
theorem Inv.step(x:Inv n c J g U s)(le:G.le [] g g')(h:Has c.T g' U' s'):Inv n c J g' U' s':=⟨x.toAt.step le h,x.cx,x.loc.step le.toup λa=>le.hid a AA1⟩
theorem Inv.at0(x:Inv n c J g U s):At 0 c.toAr g U s:=x.toAt.less (ABF _)
theorem CI.refl(h:Has T g U s)(r:R g):CI T own g U R s:=.mk g (.refl _ _) h r
theorem BV{α β:Type}{r:Ar}{R:α->G->Prop}{m:Sem α}{k:α->Sem β}{Q:β->Shared->Prop}(h:r.wp m (λx s'=>CI r.T [] g af (R x) s') s)
 (hk:∀x ai ag,G.le [] g ai->Has r.T ai af ag->R x ai->r.wp (k x) Q ag):r.wp (m>>=k) Q s :=
 AAD (AAO h (λx s' p=>p _ λg' le hs hr=>hk x g' s' le hs hr) λ_ _ h=>h)
theorem BQ{α:Type}{r:Ar}{R:α->G->Prop}{m:Sem α}(le:G.le [] g ai)(h:r.wp m (λx s'=>CI r.T [] ai U' (R x) s') s):r.wp m (λx s'=>CI r.T [] g U' (R x) s') s :=
 AAO h (λ_ _ p=>p.after le) λ_ _ h=>h
theorem Ri{r:Ar}(a:Has r.T g U s)(h:∀Q:Value->Shared->Prop,(∀x k,Au r.T g v x->Q x {s with toks:=k})->wpAny (model r.T.prog r.T.w) r.A m Q (λ_ _=>False) s):r.wp m (Ans r g v U) s :=
 h _ λx k rx=>.refl a.tok rx
noncomputable abbrev vi(i:Int):V:=.d (.int i)
noncomputable abbrev vb(b:Bool):V:=.d (.bool b)
def Tr(U:Ac)(v:V)(b:Bool):Prop:=∀(r:Ar) (g:G) (s:Shared) (X:Value),At 0 r g U s->Au r.T g v X->r.wp (truthy X) (λx s'=>CI r.T [] g U (λ_=>x=b) s') s
section
variable{n:Nat}{c:Cx}{J:Al}{g:G}{U af U2:Ac}{s s':Shared}{e a b:E}{x y v:V}
theorem AL{env:Env}{K:Kx}(h:env.scope.names=K.names)(nm:Str):env.kindOf nm=K.names.lookup nm:=by unfold Env.kindOf;rw[h]
theorem OS{env:Env}{K:Kx}(h:env.scope.names=K.names)(hv:K.isVar nm=true) :
 (env.kindOf nm=aj .local\/env.kindOf nm=aj .cell\/env.kindOf nm=aj .free)/\(nm==("__debug__" : Str))=false/\(nm==("__classdict__" : Str))=false:=by
 rw[AL h];unfold Kx.isVar at hv;simp only[ACS,ACV,Bool.or_eq_true] at hv;exact⟨hv.1.1.imp Kx.kd_eq (Or.imp Kx.kd_eq Kx.kd_eq),hv.1.2,hv.2⟩
theorem RQ{env:Env}{K:Kx}(h:env.scope.names=K.names)(hv:K.isGl nm=true):env.kindOf nm=aj .globalImplicit/\(nm==("__debug__" : Str))=false:=by rw[AL h];unfold Kx.isGl at hv;simp only[ACS,ACV] at hv;exact⟨Kx.kd_eq hv.1,hv.2⟩
theorem Inv.base(I:Inv n c J g U s):∀b o,c.T.h0.get? b=aj o->s.heap.get? b=aj o:=λb o e=>I.has.fz b o (I.has.base b o e)
theorem Cu{A':Around}{p:Pos}{v:GV}{Q:Value->Shared->Prop}{E:Value->Shared->Prop}(I:Inv n c J g U s)(hv:c.K.to v nm)(h:∀x,cW c.T v x->Q x s):wpAny (model c.T.prog c.T.w) A' (eval (.Name nm p) c.env) Q E s:=by
 refine Fv I.cx.rd.ns λmg mb hg hb ht _=>oA (RQ I.cx.names hv.1) λhk hd=>?_;have hg':s.heap.Ns c.env.globals mg:=by rw[I.cx.glob];exact hg.keeps I.base
 refine oEA (ht nm v hv.2) λx hx h1=>Name_function_global I.cx.kind hk ?_ hd;rcases h1 with h1|⟨h1,h2⟩
 ·exact loadGlobal_global hg' h1 (h x hx)
 ·exact loadGlobal_builtin hg' h1 (I.cx.blt▸hb.keeps I.base) h2 (h x hx)
theorem cE{x:PyData}{r:Ar}{p:Pos}{env:Env}(a:Has r.T g U s)(hc:cOk x=true):r.wp (eval (.Constant (toC x) m p) env) (Ans r g (.d x) U) s:=by
 refine Ri a λQ h=>?_;cases x with
 |none=>exact wpAny_Constant_none (h _ s.toks rfl)
 |bool b=>exact wpAny_Constant_bool (h _ s.toks rfl)
 |int b=>exact wpAny_Constant_int (h _ _ ⟨s.toks,rfl⟩)
 |str b=>exact wpAny_Constant_str (h _ _ ⟨s.toks,rfl,AAG hc⟩)
 |_=>exact ff_ hc
theorem SE.cst(x:PyData):SE n (.cst x) J U (.d x) U:=λc g s ex hc I=>hc (λex=>c.wp (eval ex c.env) (Ans c.toAr g (.d x) U) s) λm p hc=>cE I.has hc
theorem SE.var(hv:J[i]? = aj (aj v)):SE n (.var i) J U v U:=by
 refineλc g s ex hc I=>hc (λex=>c.wp (eval ex c.env) (Ans c.toAr g v U) s) λnm p h=>?_;have hq:=OS I.cx.names h.1;refine wpAny_Name ?_ hq.2.1;rcases hq.1 with hk|hk
 ·exact I.loc.ns _ λm hm hs=>oEA (hs i nm v h.2 hv hk) λx e r=>wpAny_loadName_local I.cx.kind hk (I.has.ns hm) e (.refl I.has r)
 ·refine I.loc.ce nm hk _ λa u e hu hs=>oEA (hs i v h.2 hv) λx q_1 r=>?_;subst q_1;rcases hk with hk|hk
  ·exact wpAny_loadName_cell I.cx.kind hk e (I.has.cell hu) (.refl I.has r)
  ·exact wpAny_loadName_free I.cx.kind hk e (I.has.cell hu) (.refl I.has r) hq.2.2
theorem SE.ty:SE n (.ty t) J U (.ty t) U:=λc g s ex hc I=>hc (λex=>c.wp (eval ex c.env) (Ans c.toAr g (.ty t) U) s) λnm p hc=>Cu I hc λx r=>.refl I.has r
theorem SE.glb{x:PyData}:SE n (.glb x) J U (.d x) U:=λc g s ex hc I=>hc (λex=>c.wp (eval ex c.env) (Ans c.toAr g (.d x) U) s) λnm p hc=>Cu I hc λx r=>.refl I.has (AI.mono I.has.base _ _ r)
theorem Bq{α:Type}{r:Ar}{m m':Sem α}{Q:α->Shared->Prop}(e:m=m')(h:r.wp m' Q s):r.wp m Q s:=e▸h
theorem BF{α:Type}{ex:Expr}{Q:α->Shared->Prop}{k:Value->Sem α}(ha:SE n a J U x af)(h1:IsE a c.K ex)(I:Inv n c J g U s)(hk:∀X ai ag,G.le [] g ai->Inv n c J ai af ag->Au c.T ai x X->c.wp (k X) Q ag):c.wp (eval ex c.env>>=k) Q s :=
 BV (ha c g s ex h1 I) λX ai ag le a r=>hk X ai ag le (I.step le a) r
theorem Ff{α:Type}{l r:Expr}{Q:α->Shared->Prop}{k:Value->Value->Sem α}(ha:SE n a J U x af)(hb:SE n b J af y U2)(h1:IsE a c.K l)(h2:IsE b c.K r)(I:Inv n c J g U s)
 (hk:∀X Y ai ag,G.le [] g ai->Inv n c J ai U2 ag->Au c.T ai x X->Au c.T ai y Y->c.wp (k X Y) Q ag):c.wp (eval l c.env>>=λX=>holding [X] (eval r c.env)>>=λY=>k X Y) Q s :=
 BF ha h1 I λX ai ag aq I1 al=>BV (AA8 (hb c ai ag r h2 I1)) λY am ak le2 av ar=>hk X Y am ak (aq.trans le2) (I1.step le2 av) (Au.mono le2.toup _ _ al) ar
theorem SE.bin(ha:SE n a J U x af)(hb:SE n b J af y U2)(h:Pr2 (binaryOp op) x y U2 v U3):SE n (.bin op a b) J U v U3:=by exactλc g s ex hc I=>hc (λex=>c.wp (eval ex c.env) (Ans c.toAr g v U3) s) λl r p h1 h2=>Bq (arm_eval_BinOp ..) (Ff ha hb h1 h2 I λX Y am ak le I2 al ar=>AAD (AA7 (wpAny_operating (BQ le (h c.toAr am ak X Y I2.at0 al ar)))))
theorem SE.neg{i:Int}(ha:SE n a J U (vi i) af):SE n (.neg a) J U (vi (-i)) af:=by refineλc g s ex hc I=>hc (λex=>c.wp (eval ex c.env) (Ans c.toAr g (vi (-i)) af) s) λz p hc=>Bq (arm_eval_UnaryOp ..) (BF ha hc I λX ai ag le I1 al=>AAD (AA7 (AA8 ?_)));refine oE al λt q_1=>?_;subst q_1;exact BQ le (Ri I1.has λQ h=>P.neg_int (h _ _ ⟨_,rfl⟩))
theorem ZN{X:Value}:unaryOp .Not X=holding [X] (truthy X>>=λb=>pure (Value.bool (!b))):=by unfold unaryOp;rfl
theorem SE.not{t:Bool}(ha:SE n a J U x af)(ht:Tr af x t):SE n (.not a) J U (vb !t) af:=by exactλc g s ex hc I=>hc (λex=>c.wp (eval ex c.env) (Ans c.toAr g (vb !t) af) s) λz p hc=>Bq (arm_eval_UnaryOp ..) (BF ha hc I λX ai ag aq I1 al=>AAD (AA7 (AA8 (Bq ZN (AA8 (BV (ht c.toAr ai ag X I1.at0 al) λb am ak le2 av ar=>AAY (.mk am (aq.trans le2) av (congrArg (λb=>Value.bool (!b)) ar))))))))
theorem ST.not{t:Bool}(ha:ST n a J U t af):ST n (.not a) J U (!t) af:=by
 exactλc g s ex hc I=>hc (λex=>c.wp (isTrue ex c.env (eval ex c.env)) (λx s'=>CI c.T [] g af (λ_=>x = !t) s') s) λz p hc =>
  Bq (arm_isTrue_UnaryOp ..) (BV (ha c g s z hc I) λb ai ag aq ao al=>AAY (.mk ai aq ao (congrArg Bool.not al)))
structure Lz(x:Expr):Prop where
 star:∀env r,starEach (x::r) env=(false,eval x env)::starEach r env
 marks:∀op t,markedBehindIn op x t=t
 fold:∀env y,foldedSetIterable x env y=pure y
theorem BR(e:E)(h:IsE e K ex):Lz ex:=by
 cases e with
 |nil=>exact h.elim
 |cons _ _=>exact h.elim
 |_=>exact h Lz (by intros;exact⟨λ_ _=>rfl,λ_ _=>rfl,λ_ _=>rfl⟩)
theorem Fj(e:E)(hp:BH e=false)(h:IsE e K ex)(t:Option Expr)(l:Nat)(env:Env):swapsWith ex t l env=pure false:=by
 cases e with
 |nil=>exact h.elim
 |cons _ _=>exact h.elim
 |comp _ _ _ _=>exact tt_ hp
 |_=>exact h (λex=>swapsWith ex t l env=pure false) (by intros;rfl)
theorem PI:Tr U (vb t) t:=λr g s X A h=>by obtain rfl:X=.bool t:=h;exact wpAny_truthy_bool (.refl A.has rfl)
theorem XC(h:Lz r):eval (.Compare l [op] [r] p) env=(eval l env>>=λX=>holding [X] (eval r env)>>=λY=>standAt p>>=λ_=>operate [X,Y] (compareOp op X Y)):=by rw[arm_eval_Compare];show(eval l env>>=λX=>holding [X] (markedBehindIn op r (eval r env))>>=_)=_;rw[h.marks]
theorem Vm(h:Lz r):isTrue (.Compare l [op] [r] p) env w=(eval l env>>=λX=>holding [X] (eval r env)>>=λY=>standAt p>>=λ_=>operate [X,Y] (compareOp op X Y)>>=λz=>holding [z] (truthy z)):=by rw[arm_isTrue_Compare];show(eval l env>>=λX=>holding [X] (markedBehindIn op r (eval r env))>>=_)=_;rw[h.marks]
theorem SE.cmp(ha:SE n a J U x af)(hb:SE n b J af y U2)(h:Pr2 (compareOp op) x y U2 v U3):SE n (.cmp op a b) J U v U3:=by exactλc g s ex hc I=>hc (λex=>c.wp (eval ex c.env) (Ans c.toAr g v U3) s) λl r p h1 h2=>Bq (XC (BR b h2)) (Ff ha hb h1 h2 I λX Y am ak le I2 al ar=>AAD (AA7 (wpAny_operating (BQ le (h c.toAr am ak X Y I2.at0 al ar)))))
theorem ST.cmp(ha:SE n a J U x af)(hb:SE n b J af y U2)(h:Pr2 (compareOp op) x y U2 (vb t) U3):ST n (.cmp op a b) J U t U3:=by
 exactλc g s ex hc I=>hc (λex=>c.wp (isTrue ex c.env (eval ex c.env)) (λx s'=>CI c.T [] g U3 (λ_=>x=t) s') s) λl r p h1 h2=>Bq (Vm (BR b h2)) (Ff ha hb h1 h2 I λX Y am ak le2 I2 al ar=>AAD (AA7 (BV (wpAny_operating (h c.toAr am ak X Y I2.at0 al ar)) λz aB az ay aR r3=>AA8
  (BQ (le2.trans ay) (PI c.toAr aB az z (I2.step ay aR).at0 r3)))))
theorem ST.plain{t:Bool}(hp:∀{K:Kx} {ex:Expr},IsE e K ex->∀env w,isTrue ex env w=(w>>=λv=>standAt ex.pos>>=λ_=>holding [v] (truthy v)))(h:SE n e J U x af)(ht:Tr af x t):ST n e J U t af:=by intro c g s ex hc I;exact Bq (hp hc c.env _) (BF h hc I λX ai ag le I1 al=>AAD (AA7 (AA8 (BQ le (ht c.toAr ai ag X I1.at0 al)))))
theorem SEs.nil:SEs n .nil J U [] U:=by intro c g s xs pos hc I;obtain rfl:xs=[]:=hc;exact spliced_nil (.refl I.has trivial)
theorem SEs.cons(h1:SE n a J U x af)(h2:SEs n b J af xs U2):SEs n (.cons a b) J U (x::xs) U2:=by refineλc g s l pos hc I=>hc (λl=>c.wp (spliced (backTo pos (starEach l c.env))) (λXs s'=>CI c.T [] g U2 (λg'=>As c.T g' (x::xs) Xs) s') s) λz l c1 c3=>?_;rw[(BR a c1).star];refine spliced_cons (AAO (h1 c g s z c1 I) (λX ag p=>p _ λai aq ao al=>?_) λ_ _ h=>h);exact AAO (h2 c ai ag l pos c3 (I.step aq ao)) (λXs ak p=>p _ λam le2 av ar=>.mk am (aq.trans le2) av ⟨Au.mono le2.toup _ _ al,ar⟩) λ_ _ h=>h
def SB(n:Nat)(op:BoolOp)(e:E)(J:Al)(U:Ac)(v:V)(U':Ac):Prop :=
 ∀(c:Cx) (g:G) (s:Shared) (xs:List Expr) (pos:Pos),Gm e c.K xs->Inv n c J g U s->c.wp (boolOp pos op (evalEach xs c.env)) (Ans c.toAr g v U') s
def SBt(n:Nat)(op:BoolOp)(e:E)(J:Al)(U:Ac)(b:Bool)(U':Ac):Prop :=
 ∀(c:Cx) (g:G) (s:Shared) (xs:List Expr),Gm e c.K xs->Inv n c J g U s->c.wp (allTrue op xs c.env) (λx s'=>CI c.T [] g U' (λ_=>x=b) s') s
noncomputable def Do(op:BoolOp):Bool:=match op with|.And=>false|.Or=>true
variable{op:BoolOp}{r:E}
theorem SB.one(h:SE n a J U x af):SB n op (.cons a .nil) J U x af :=
 λc g s xs pos hc I=>hc (λxs=>c.wp (boolOp pos op (evalEach xs c.env)) (Ans c.toAr g x af) s) λz l c1 c3=>by obtain rfl:l=[]:=c3;exact h c g s z c1 I
set_option backward.match.sparseCases true in
theorem NW(pos:Pos)(op:BoolOp)(x y:Sem Value)(r:List (Sem Value)):boolOp pos op (x::y::r)=(x>>=λv=>standAt pos>>=λ_=>holding [v] (truthy v)>>=λt=>if t=Do op then pure v else boolOp pos op (y::r)):=by
 rw[boolOp]
 ·congr 1;funext v;congr 1;funext _;congr 1;funext t;cases op<;>cases t<;>rfl
 ·intro q;exact XA q
theorem Tf(r:E)(hn:BZ r=false)(h:Gm r K l):∃y l',l=y::l':=by
 cases r with
 |nil=>exact tt_ hn
 |cons a b=>exact h (λl=>∃y l',l=y::l') λy l _ _=>(iEE y l rfl)
 |_=>exact h.elim
theorem SB.more{t:Bool}(hr:BZ r=false)(h:SE n a J U x af)(ht:Tr af x t)(hs:t=Do op->v=x/\U2=af)(hg:t≠Do op->SB n op r J af v U2):SB n op (.cons a r) J U v U2:=by
 refineλc g s xs pos hc I=>hc (λxs=>c.wp (boolOp pos op (evalEach xs c.env)) (Ans c.toAr g v U2) s) λz l c1 hl=>?_;have k:c.wp (eval z c.env>>=λv=>standAt pos>>=λ_=>holding [v] (truthy v)>>=λt=>if t=Do op then pure v else boolOp pos op (evalEach l c.env)) (Ans c.toAr g v U2) s:=by
  refine BF h c1 I λX ai ag aq I1 al=>AAD (AA7 (BV (AA8 (ht c.toAr ai ag X I1.at0 al)) λb' am ak le2 av ar=>?_));obtain rfl:b'=t:=ar;by_cases q:b'=Do op
  ·exact Bq (if_pos q) (AAY (.mk am (aq.trans le2) ((hs q).2▸av) ((hs q).1▸Au.mono le2.toup _ _ al)))
  ·exact Bq (if_neg q) (BQ (aq.trans le2) (hg q c am ak _ pos hl (I1.step le2 av)))
 refine oEE (Tf r hr hl) λy l' q_2=>?_;subst q_2;exact Bq (NW ..) k
theorem SE.bop(h:SB n op e J U v af):SE n (.bop op e) J U v af:=λc g s ex hc I=>hc (λex=>c.wp (eval ex c.env) (Ans c.toAr g v af) s) λvs p h1=>Bq (arm_eval_BoolOp ..) (h c g s vs p h1 I)
theorem Ok:allTrue op (z::l) env=(isTrue z env (eval z env)>>=λt=>if t=Do op then pure t else allTrue op l env):=by rw[arm_allTrue_cons];congr 1;funext t;cases op<;>cases t<;>rfl
theorem SBt.nil:SBt n op .nil J U (!Do op) U:=by intro c g s xs hc I;obtain rfl:xs=[]:=hc;exact Bq (by cases op<;>rfl) (AAY (.refl I.has rfl))
theorem SBt.cons{t q:Bool}(h:ST n a J U t af)(hs:t=Do op->q=t/\U2=af)(hg:t≠Do op->SBt n op r J af q U2):SBt n op (.cons a r) J U q U2:=by
 refineλc g s xs hc I=>hc (λxs=>c.wp (allTrue op xs c.env) (λx s'=>CI c.T [] g U2 (λ_=>x=q) s') s) λz l c1 hl=>Bq Ok (BV (h c g s z c1 I) λb' ai ag aq ao al=>?_);obtain rfl:b'=t:=al;by_cases e:b'=Do op
 ·exact Bq (if_pos e) (AAY (.mk ai aq ((hs e).2▸ao) (hs e).1.symm))
 ·exact Bq (if_neg e) (BQ aq (hg e c ai ag l hl (I.step aq ao)))
theorem ST.bop{t:Bool}(h:SBt n op e J U t af):ST n (.bop op e) J U t af :=
 λc g s ex hc I=>hc (λex=>c.wp (isTrue ex c.env (eval ex c.env)) (λx s'=>CI c.T [] g af (λ_=>x=t) s') s) λvs p h1=>Bq (arm_isTrue_BoolOp ..) (h c g s vs h1 I)
end
open PySem.SeqAt
theorem F5(h:n<=line):n<9223372036854775808:=AAS h (by decide)
noncomputable def JU(a b:PyData):Option Bool :=
 match a with
 |.none=>(match b with|.none=>aj true|.str _=>aj false|.tuple _=>aj false|_=>au)
 |.bool x=>(match b with|.bool y=>aj (x==y)|_=>au)
 |.int x=>(match b with|.int y=>aj (x==y)|_=>au)
 |.str x=>(match b with|.str y=>aj (x==y)|.none=>aj false|_=>au)
 |.tuple _=>(match b with|.none=>aj false|_=>au)
 |_=>au
noncomputable def DX(f:PyData->PyData->Option Bool):List PyData->List PyData->Option Bool
 |[],ys=>(match ys with|[]=>aj true|_::_=>aj false)
 |x::xs,ys=>(match ys with
  |[]=>aj false
  |y::ys=>(f x y).bind λa=>(DX f xs ys).bind λb=>aj (a&&b))
noncomputable def gJ(f:PyData->PyData->Option Bool)(a b:PyData):Option Bool :=
 match a with
 |.list xs=>(match b with|.list ys=>if xs.length=ys.length then DX f xs ys else aj false|_=>au)
 |.tuple xs=>(match b with|.tuple ys=>DX f xs ys|_=>JU a b)
 |_=>JU a b
noncomputable def eqN:Nat->PyData->PyData->Option Bool
 |0,a,b=>JU a b
 |n+1,a,b=>gJ (eqN n) a b
noncomputable def AK:Nat:=40
noncomputable def Z2:PyData->Nat
 |.none=>0|.bool _=>1|.int _=>2|.str _=>3|.list _=>4|.tuple _=>5|.dict _=>6
noncomputable def O4(f:Addr->Option Obj):Value->Nat
 |.none=>0|.bool _=>1|.int _ _=>2|.str _ _=>3
 |.ref a=>(match f a with|some o=>if o.cls==.type "list" then 4 else 5|none=>7)
 |_=>7
theorem Fi(h:AI f d x):O4 f x=Z2 d:=by
 cases d with
 |none=>exact congrArg (O4 f) h
 |bool b=>exact congrArg (O4 f) h
 |int i=>exact h.elim λt h=>congrArg (O4 f) h
 |str s=>exact h.elim λt h=>congrArg (O4 f) h.1
 |list xs=>exact h (λx=>O4 f x=4) λa o vs m hf hc _ _ _=>by show(match f a with|some o=>_|none=>_)=_;rw[hf];exact if_pos (by rw[hc];rfl)
 |tuple xs=>exact h (λx=>O4 f x=5) λa o vs m hf hc _ _ _=>by show(match f a with|some o=>_|none=>_)=_;rw[hf];exact if_neg (by rw[hc];decide)
 |dict es=>exact h.elim
theorem KI{α:Prop}(k:∀vs,P vs->Q vs->α)(h:CO f cl x P n)(h':CO f cl x Q m):α:=by refine h (λx=>CO f cl x Q m->α) (λa o vs n e2 _ e4 e5 _ h'=>?_) h';refine h' (λy=>y=.ref a->α) (λa' o' vs' n' e2' _ e4' e5' _ e=>?_) rfl;obtain rfl:=Ao e2 ((PySem.Value.ref.inj e)▸e2');rw[e4] at e4';cases e4';exact k _ e5 e5'
mutual
theorem AI.inj:∀(d d':PyData) (x:Value),Z2 d'=Z2 d->AI f d x->AI f d' x->d=d'
 |.none,d',x,t,h,h'=>by cases d'<;>first|rfl|exact Da t rfl
 |.bool a,d',x,t,h,h'=>by cases d'<;>first|exact Da t rfl|(cases(Eq.trans (Eq.symm h) h');rfl)
 |.int a,d',x,t,h,h'=>by cases d'<;>first|exact Da t rfl|(refine oE h λ_ h=>?_;refine oE h' λ_ h'=>?_;cases h.symm.trans h';rfl)
 |.str a,d',x,t,h,h'=>by cases d'<;>first|exact Da t rfl|(refine oEA h λ_ h _=>?_;refine oEA h' λ_ h' _=>?_;cases h.symm.trans h';rfl)
 |.list xs,d',x,t,h,h'=>by cases d'<;>first|exact Da t rfl|exact congrArg _ (KI (RepDs.inj xs _) h h')
 |.tuple xs,d',x,t,h,h'=>by cases d'<;>first|exact Da t rfl|exact congrArg _ (KI (RepDs.inj xs _) h h')
 |.dict _,_,_,_,h,_=>h.elim
theorem RepDs.inj:∀(ds ds':List PyData) (xs:List Value),RepDs f ds xs->RepDs f ds' xs->ds=ds'
 |[],[],_,_,_=>rfl
 |d::ds,d'::ds',x::xs,h,h'=>by rw[AI.inj d d' x ((Fi h'.1).symm.trans (Fi h.1)) h.1 h'.1,RepDs.inj ds ds' xs h.2 h'.2]
 |[],_::_,[],_,h=>h.elim
 |[],_::_,_::_,h,_=>h.elim
 |_::_,[],[],h,_=>h.elim
 |_::_,[],_::_,_,h=>h.elim
 |_::_,_::_,[],h,_=>h.elim
end
theorem JT(hf:∀d b,f d d=aj b->b=true)(l:List PyData):∀(b:Bool),DX f l l=aj b->b=true:=by
 induction l with
 |nil=>exactλb h=>(AAA h).symm
 |cons x xs ih =>
  intro b h;refine oEA (ac h) λc e h=>oEA (ac h) λc' e' h=>?_;rw[<-AAA h,hf x c e,ih c' e'];rfl
theorem Ik(d:PyData)(b:Bool)(h:JU d d=aj b):b=true:=by
 cases d with
 |none=>exact(AAA h).symm
 |bool x=>rw[<-AAA h];exact beq_self_eq_true x
 |int x=>rw[<-AAA h];exact beq_self_eq_true x
 |str x=>rw[<-AAA h];exact beq_self_eq_true x
 |_=>exact Aa h
theorem Vb(n:Nat):∀(d:PyData) (b:Bool),eqN n d d=aj b->b=true:=by
 induction n with
 |zero=>exact Ik
 |succ n ih =>
  intro d b h;have hl:=Ik d b;cases d with
  |list xs =>
   have h:(if xs.length=xs.length then DX (eqN n) xs xs else aj false)=aj b:=h;rw[if_pos rfl] at h;exact JT ih xs b h
  |tuple xs=>exact JT ih xs b h
  |_=>exact hl h
section
variable{A:Around}
structure Ic(A:Around)(s:Shared)(x y:Value)(b:Bool):Prop where
 eq:EqAt A s x y b
 rc:RcAt A s x y b
 ne:RcNeAt A s x y (!b)
theorem Pm(ih:∀(d d':PyData) (x x':Value) (b:Bool),AI s.heap.get? d x->AI s.heap.get? d' x'->eqN n d d'=aj b->Ic A s x x' b)(ds:List PyData) :
 ∀(ds':List PyData) (xs xs':List Value) (b:Bool),Ay (AI s.heap.get?) ds xs->Ay (AI s.heap.get?) ds' xs'->DX (eqN n) ds ds'=aj b ->
  ∃e:Nat->Bool,(∀j x x',xs[j]? = aj x->xs'[j]? = aj x'->EqAt A s x x' (e j))/\b=((List.range (min xs.length xs'.length)).all e&&xs.length==xs'.length):=by
 induction ds with
 |nil =>
  intro ds' xs xs' b r r' h;rw[r.nil];refine(iEA (λ_=>true) (λj x x' h=>Aa h) ?_);rw[<-r'.length];cases ds'<;>exact(AAA h).symm
 |cons d ds ihl =>
  intro ds' xs xs' b r r' h;refine Br r.cons λx xs q_2 r1 r2=>?_;subst q_2;cases ds' with
  |nil =>
   exact r'.nil▸iEA (λ_=>true) (λj x x' _ h=>Aa h) ((AAA h).symm)
  |cons d' ds' =>
   refine Br r'.cons λx' xs' q_2 r1' r2'=>?_;subst q_2;refine oEA (ac h) λc e h=>oEA (ac h) λc' e' h=>oEA (ihl ds' xs xs' c' r2 r2' e') λf h1 h2=>(iEA (λj=>if j=0 then c else f (j-1)) (λj y y' hy hy'=>?_) ?_)
   ·cases j with
    |zero=>rw[<-AAA hy,<-AAA hy'];exact(ih d d' x x' c r1 r1' e).eq
    |succ j=>exact h1 j y y' hy hy'
   ·rw[<-AAA h,h2,AA2,AA2,Nat.add_min_add_right,List.range_succ_eq_map,List.all_cons,List.all_map];simp[Function.comp_def,Bool.and_assoc]
theorem HU(hu:A.units<cLine)(r:AI s.heap.get? d x)(r':AI s.heap.get? d' x')(h:JU d d'=aj b):Ic A s x x' b:=by
 have tn:∀ds x,AI s.heap.get? (.tuple ds) x->Ic A s .none x false/\Ic A s x .none false:=λds x r=>r (λx=>Ic A s .none x false/\Ic A s x .none false) λa o vs k q1 q2 q3 q4 _ =>
  ⟨⟨EqAt.none_tuple ⟨_,q1,q2,_,q3⟩ hu,RcAt.none_tuple ⟨_,q1,q2,_,q3⟩ hu,RcNeAt.none_tuple ⟨_,q1,q2,_,q3⟩ hu⟩,EqAt.tuple_none ⟨_,q1,q2,_,q3⟩ hu,RcAt.tuple_none ⟨_,q1,q2,_,q3⟩ hu,RcNeAt.tuple_none ⟨_,q1,q2,_,q3⟩ hu⟩
 cases d with
 |none =>
  obtain rfl:x=.none:=r;cases d' with
  |none=>obtain rfl:x'=.none:=r';rw[<-AAA h];exact⟨EqAt.same _,RcAt.none_none,RcNeAt.none_none⟩
  |str _=>refine oEA r' λt q_1 _=>?_;subst q_1;rw[<-AAA h];exact⟨EqAt.none_str _ _,RcAt.none_str _ _,RcNeAt.none_str _ _⟩
  |tuple _=>rw[<-AAA h];exact(tn _ _ r').1
  |_=>exact Aa h
 |bool a=>cases d' with
  |bool c=>obtain rfl:x=.bool a:=r;obtain rfl:x'=.bool c:=r';rw[<-AAA h];exact⟨EqAt.bool_bool _ _,RcAt.bool_bool _ _,RcNeAt.bool_bool _ _⟩
  |_=>exact Aa h
 |int a=>cases d' with
  |int c=>refine oE r λt q_1=>?_;subst q_1;refine oE r' λt' q_1=>?_;subst q_1;rw[<-AAA h];exact⟨EqAt.int_int _ _ _ _,RcAt.int_int _ _ _ _,RcNeAt.int_int _ _ _ _⟩
  |_=>exact Aa h
 |str a=>refine oEA r λt q_1 _=>?_;subst q_1;cases d' with
  |none=>obtain rfl:x'=.none:=r';rw[<-AAA h];exact⟨EqAt.str_none _ _,RcAt.str_none _ _,RcNeAt.str_none _ _⟩
  |str c=>refine oEA r' λt' q_1 _=>?_;subst q_1;rw[<-AAA h];exact⟨EqAt.str_str _ _ _ _,RcAt.str_str _ _ _ _,RcNeAt.str_str _ _ _ _⟩
  |_=>exact Aa h
 |tuple _=>cases d' with
  |none=>obtain rfl:x'=.none:=r';rw[<-AAA h];exact(tn _ _ r).2
  |_=>exact Aa h
 |_=>exact Aa h
theorem QJ(rr:AI s.heap.get? d (.ref a))(rr':AI s.heap.get? d' (.ref a'))(h:eqN n d d'=aj b)(rc:RcAt A s (.ref a) (.ref a') b/\RcNeAt A s (.ref a) (.ref a') (!b)):Ic A s (.ref a) (.ref a') b:=by
 refine⟨?_,rc.1,rc.2⟩;by_cases ha:a=a'
 ·subst ha;rw[<-AI.inj _ _ _ ((Fi rr').symm.trans (Fi rr)) rr rr'] at h;exact(Vb n d b h)▸EqAt.same _
 ·exact EqAt.of_refs ha rc.1
theorem Vc(n:Nat):∀(A:Around),A.units+n<cLine->∀(d d':PyData) (x x':Value) (b:Bool),AI s.heap.get? d x->AI s.heap.get? d' x'->eqN n d d'=aj b->Ic A s x x' b:=by
 induction n with
 |zero=>exactλA hu d d' x x' b r r' h=>HU hu r r' h
 |succ n ih =>
  intro A hu d d' x x' b r r' h;have hu':=AAS (AA9 _ _) hu;have hu1:=by show A.units+1+n<cLine;rw[ADG,AC5 1];exact hu
  have it:=Pm (ih A.in1 hu1);have hL:=h;cases d with
  |list ds=>cases d' with
   |list ds' =>
    refine r (λx=>AI s.heap.get? (.list ds) x->Ic A s x x' b) (λa o vs k q1 q2 q3 q4 _ rr=>r' (λx'=>AI s.heap.get? (.list ds') x'->Ic A s (.ref a) x' b) (λa' o' vs' k' p1 p2 p3 p4 _ rr'=>QJ rr rr' h ?_) r') r;have hl:s.heap.IsList a vs:=⟨_,q1,q2,_,q3⟩
    have hl':s.heap.IsList a' vs':=⟨_,p1,p2,_,p3⟩
    have l1:=q4.all.length;have l2:=p4.all.length;have hL:(if ds.length=ds'.length then DX (eqN n) ds ds' else aj false)=aj b:=hL;by_cases hsz:ds.length=ds'.length
    ·rw[if_pos hsz] at hL;refine oEA (it ds ds' vs.toList vs'.toList b q4.all p4.all hL) λe h1 h2=>?_;have hsz':vs.size=vs'.size:=l1.symm.trans (hsz.trans l2);have hb:b=(List.range vs.size).all e:=by rw[h2];simp[hsz']
     exact hb▸(⟨RcAt.lists hl hl' hsz' hu' λj j1 j2=>h1 j _ _ (by simp[j1]) (by simp[j2]),RcNeAt.lists hl hl' hsz' hu' λj j1 j2=>h1 j _ _ (by simp[j1]) (by simp[j2])⟩)
    ·rw[if_neg hsz] at hL;rw[<-AAA hL];have hsz':=bne_iff_ne.mpr λq=>hsz (l1.trans (q.trans l2.symm));exact⟨RcAt.lists_lengths hl hl' hsz' hu',RcNeAt.lists_lengths hl hl' hsz' hu'⟩
   |_=>exact Aa hL
  |tuple ds=>cases d' with
   |tuple ds' =>
    refine r (λx=>AI s.heap.get? (.tuple ds) x->Ic A s x x' b) (λa o vs k q1 q2 q3 q4 _ rr=>r' (λx'=>AI s.heap.get? (.tuple ds') x'->Ic A s (.ref a) x' b) (λa' o' vs' k' p1 p2 p3 p4 _ rr'=>QJ rr rr' h ?_) r') r;have hl:s.heap.IsTuple a vs:=⟨_,q1,q2,_,q3⟩
    have hl':s.heap.IsTuple a' vs':=⟨_,p1,p2,_,p3⟩
    exact oEA (it ds ds' vs.toList vs'.toList b q4.all p4.all hL) λe h1 h2=>h2▸(⟨RcAt.tuples hl hl' hu' λj j1 j2=>h1 j _ _ (by simp[j1]) (by simp[j2]),RcNeAt.tuples hl hl' hu' λj j1 j2=>h1 j _ _ (by simp[j1]) (by simp[j2])⟩)
   |_=>exact HU hu' r r' hL
  |_=>exact HU hu' r r' hL
end
noncomputable def wv:PyData⊕Nat->V:=Sum.elim .d .ref
noncomputable def DE(o:Option O):Option (List V):=match o with|some o=>(match o with|.list vs=>aj vs|_=>au)|none=>au
noncomputable def A8(U:Ac)(v:V):Option (List V) :=
 match v with
 |.d x=>(match x with|.list xs=>aj (xs.map .d)|_=>au)
 |.ref k=>DE U[k]?
 |_=>au
noncomputable def C6(v:V):Option (List V) :=
 match v with
 |.d x=>(match x with|.tuple xs=>aj (xs.map .d)|_=>au)
 |.tup ws=>aj (ws.map wv)
 |.pr x y=>aj [x,y]
 |_=>au
noncomputable def fK(v:V):Option PyData:=match v with|.d x=>aj x|_=>au
noncomputable def FM:List V->Option (List PyData)
 |[]=>aj []
 |v::r=>(fK v).bind λx=>(FM r).bind λxs=>aj (x::xs)
noncomputable def TP(o:Option (List V)):Option PyData:=o.bind λvs=>(FM vs).bind λxs=>aj (.list xs)
noncomputable def SH(U:Ac):List (PyData⊕Nat)->Option (List PyData)
 |[]=>aj []
 |w::r=>(match w with|.inl x=>aj x|.inr k=>TP (DE U[k]?)).bind λx=>(SH U r).bind λxs=>aj (x::xs)
noncomputable def snap(U:Ac)(v:V):Option PyData :=
 match v with
 |.d x=>aj x
 |.ref k=>TP (DE U[k]?)
 |.tup ws=>(SH U ws).bind λxs=>aj (.tuple xs)
 |_=>au
theorem Hz:∀{xs:List PyData},FM vs=aj xs->vs=xs.map .d:=by
 induction vs with
 |nil=>exactλh=>by rw[<-AAA h];rfl
 |cons v vs ih =>
  intro xs h;refine oEA (ac h) λx e h'=>oEA (ac h') λys e' h''=>?_;cases v with
  |d y=>rw[<-AAA h'',ih e',AAA e];rfl
  |_=>exact Aa e
theorem Dc(h:DE o=aj vs):o=aj (.list vs):=by
 cases o with
 |none=>exact Aa h
 |some o=>cases o with
  |list ws=>rw[AAA h]
  |_=>exact Aa h
section
variable{s:Shared}{ws:List V}
theorem AX(H:Has T g U s)(rx:Au T g v X)(e:A8 U v=aj ws){R_:Value->Prop}(k:∀a xs,s.heap.IsList a xs->As T g ws xs.toList->ws.length=xs.size->xs.size<=line->R_ (.ref a)):R_ X:=by
 cases v with
 |d y=>cases y with
  |list ds =>
   obtain rfl:ds.map .d=ws:=AAA e;exact rx R_ λa o vs n h1 h2 h3 h4 h5=>k a vs ⟨o,H.fz _ _ h1,h2,n,h3⟩ (.ofD h4) (As.ofD (T:=T) h4).length (ABA▸h4.all.length▸h5)
  |_=>exact Aa e
 |ref j =>
  refine oEA rx λa e1 q_2=>?_;subst q_2;exact H.ob j a _ e1 (Dc e) _ λo ho ro=>ro (λo=>s.heap.get? a=aj o->R_ (.ref a)) (λxs m hr hl ho=>k a xs ⟨_,ho,rfl,m,rfl⟩ hr hr.length (ABA▸hr.length▸hl)) ho
 |_=>exact Aa e
theorem HZ.wv{ws:List (PyData⊕Nat)}(h:Ay (HZ g) ws xs):As T g (ws.map wv) xs:=by
 induction ws generalizing xs with
 |nil=>rw[h.nil];exact trivial
 |cons w ws ih =>
  refine Br h.cons λx xs q_2 h1 h2=>?_;subst q_2;exact⟨by cases w<;>exact h1,ih h2⟩
theorem CZ(H:Has T g U s)(rx:Au T g v X)(e:C6 v=aj ws){R_:Value->Prop}(k:∀a xs,s.heap.IsTuple a xs->As T g ws xs.toList->ws.length=xs.size->xs.size<=line->R_ (.ref a)):R_ X:=by
 cases v with
 |d y=>cases y with
  |tuple ds =>
   obtain rfl:ds.map .d=ws:=AAA e;exact rx R_ λa o vs n h1 h2 h3 h4 h5=>k a vs ⟨o,H.fz _ _ h1,h2,n,h3⟩ (.ofD h4) (As.ofD (T:=T) h4).length (ABA▸h4.all.length▸h5)
  |_=>exact Aa e
 |tup us =>
  obtain rfl:us.map wv=ws:=AAA e;exact rx R_ λa o vs n h1 h2 h3 h4 h5=>k a vs ⟨o,H.fz _ _ h1,h2,n,h3⟩ (HZ.wv h4) (HZ.wv (T:=T) h4).length (ABA▸h4.length▸h5)
 |pr x y =>
  obtain rfl:[x,y]=ws:=AAA e;exact rx R_ λa o vs n h1 h2 h3 h4 h5=>by exact Br h4 λa' b' e4 r1 r2=>k a vs ⟨o,H.fz _ _ h1,h2,n,h3⟩ (e4▸⟨r1,r2,trivial⟩) (ABA▸e4▸rfl) (ABA▸e4▸h5)
 |_=>exact Aa e
theorem Np(H:Has T g U s)(rx:Au T g (.ref k) X)(e:TP (DE U[k]?)=aj d):AI s.heap.get? d X:=by refine oEA (ac e) λws e1 e=>oEA (ac e) λxs e2 e=>?_;rw[<-AAA e];rw[Hz e2] at e1;exact AX H rx e1 λa vs hL hr hl hs=>Jd hL λo ho hc n hd=>λR_ kk=>kk a o vs n ho hc hd (RepDs.mono H.fz _ _ (As.toD hr)) (by rw[<-AAB,hl];exact hs)
theorem Fm(H:Has T g U s)(rx:Au T g v X)(e:snap U v=aj d):AI s.heap.get? d X:=by
 cases v with
 |d y=>rw[<-AAA e];exact AI.mono H.fz _ _ rx
 |ref k=>exact Np H rx e
 |tup ws =>
  refine oEA (ac e) λxs e e'=>?_;rw[<-AAA e'];have key:∀{ws:List (PyData⊕Nat)} {xs:List PyData} {vs:List Value},Ay (HZ g) ws vs->SH U ws=aj xs->Ay (AI s.heap.get?) xs vs:=by
   intro ws
   induction ws with
   |nil=>intro xs vs h e;rw[h.nil,<-AAA e];exact trivial
   |cons w ws ih =>
    intro xs vs h e;refine Br h.cons λv vs q_2 h1 h2=>?_;subst q_2;refine oEA (ac e) λx e1 e=>oEA (ac e) λys e2 e=>?_;rw[<-AAA e];refine⟨?_,ih h2 e2⟩;cases w with
    |inl y=>rw[<-AAA e1];exact AI.mono H.fz _ _ h1
    |inr k=>exact Np H h1 e1
  exact rx _ λa o vs n h1 h2 h3 h4 h5 R_ kk=>kk a o vs n (H.fz _ _ h1) h2 h3 (.of (key h4 e)) (((key h4 e).length)▸h4.length▸h5)
 |_=>exact Aa e
end
section
variable{U:Ac}{i j:Int}
theorem Wf:Tr U (.d .none) false:=λr g s X A h=>by obtain rfl:X=.none:=h;exact PyProof.Rows.truthy_none (.refl A.has rfl)
theorem Zz:Tr U (vi i) (i != 0):=λr g s X A h=>by refine oE h λt q_1=>?_;subst q_1;exact P.truthy_int (.refl A.has rfl)
theorem Zy:Tr U (.d (.str t)) (t.cps.size != 0):=λr g s X A h=>by refine oEA h λk q_1 hl=>?_;subst q_1;refine P.truthy_str (Int.not_le.mpr (Int.ofNat_lt.mpr (F5 hl))) (.refl A.has.tok ?_);show((t.cps.size:Int) != 0)=(t.cps.size != 0);cases t.cps.size<;>rfl
theorem Lp{α:Type}{ws:List V}{xs:Array α}(h:ws.length=xs.size):(!xs.isEmpty) = !ws.isEmpty:=by
 cases ws with
 |nil=>rw[Array.size_eq_zero_iff.mp h.symm];rfl
 |cons w ws =>
  have:xs≠#[]:=λq=>by rw[q] at h;exact Da h rfl
  exact(show xs.isEmpty=false by simpa using this)▸rfl
theorem PH(e:A8 U v=aj ws):Tr U v (!ws.isEmpty):=λr g s X A h =>
 AX A.has h e (R_:=λX=>r.wp (truthy X) (λx s'=>CI r.T [] g U (λ_=>x = !ws.isEmpty) s') s) λa xs hL hr hl hs=>wpAny_truthy_list hL (Int.ofNat_lt.mpr (F5 hs)) (.refl A.has.tok (Lp hl))
theorem Zx(e:C6 v=aj ws):Tr U v (!ws.isEmpty):=λr g s X A h =>
 CZ A.has h e (R_:=λX=>r.wp (truthy X) (λx s'=>CI r.T [] g U (λ_=>x = !ws.isEmpty) s') s) λa xs hL hr hl hs=>PyProof.Rows.truthy_tuple hL (Int.ofNat_lt.mpr (F5 hs)) (.refl A.has.tok (Lp hl))
noncomputable def small(i:Int):Bool:=decide (-9223372036854775808<i)&&decide (i<9223372036854775808)
theorem Fg{m:Value->Value->Sem Value}{f:Int->Int->Int}(h:∀(r:Ar) (g:G) (s:Shared) (t u:Tok),At 0 r g U s->∀Q:Value->Shared->Prop,(∀t k,Q (.int (f i j) t) {s with toks:=k})->wpAny (model r.T.prog r.T.w) r.A (m (.int i t) (.int j u)) Q (λ_ _=>False) s):Pr2 m (vi i) (vi j) U (vi (f i j)) U:=λr g s X Y A hx hy=>by refine oE hx λt q_1=>?_;subst q_1;refine oE hy λu q_1=>?_;subst q_1;exact h r g s t u A _ λt k=>.refl A.has.tok ⟨t,rfl⟩
theorem eQ:Pr2 (binaryOp .Add) (vi i) (vi j) U (vi (i+j)) U:=Fg λr g s t u A Q h=>P.add_int (h _ _)
theorem eA:Pr2 (binaryOp .Sub) (vi i) (vi j) U (vi (i-j)) U:=Fg λr g s t u A Q h=>P.sub_int (h _ _)
theorem eO(hj:j≠0):Pr2 (binaryOp .FloorDiv) (vi i) (vi j) U (vi (i.fdiv j)) U:=Fg λr g s t u A Q h=>PyProof.Rows.floordiv_int hj (h _ _) (Or.inr A.pylong)
theorem eG(hj:j≠0):Pr2 (binaryOp .Mod) (vi i) (vi j) U (vi (i.fmod j)) U:=Fg λr g s t u A Q h=>PyProof.Rows.mod_int' hj (h _ _)
theorem IT(h:small i=true):Builtin.Int.intBits i<=64:=by have h:=AAH.mp h;exact intBits_le_64 (by have:=AAG h.1;exact Zb this rfl) (by have:=AAG h.2;exact Kk this rfl)
theorem eB(hs:(small i||small j)=true):Pr2 (binaryOp .Mult) (vi i) (vi j) U (vi (i*j)) U:=Fg λr g s t u A Q h=>P.mul_int (h _ _) ((ABC.mp hs).elim (λh=>IntMulOk.of_left (IT h)) λh=>IntMulOk.of_right (IT h))
theorem eP(hl:a.length+b.length<=line):Pr2 (binaryOp .Add) (.d (.str a)) (.d (.str b)) U (.d (.str (a++b))) U:=λr g s X Y A hx hy=>by refine oEA hx λt q_1 _=>?_;subst q_1;refine oEA hy λu q_1 _=>?_;subst q_1;exact SB.add (λt' k=>.refl A.has.tok ⟨_,rfl,by rw[Str.length_append];exact hl⟩) (Bd▸hl)
theorem GU(h:∀(r:Ar) (g:G) (s:Shared) (X Y:Value),At 0 r g U s->Au r.T g x X->Au r.T g y Y->∀Q:Value->Shared->Prop,Q (.bool b) s->wpAny (model r.T.prog r.T.w) r.A (m X Y) Q (λ_ _=>False) s):Pr2 m x y U (vb b) U :=
 λr g s X Y A hx hy=>h r g s X Y A hx hy _ (.refl A.has rfl)
theorem Yy(A:At 0 r g U s)(hx:Au r.T g x X)(hy:Au r.T g y Y)(h1:snap U x=aj d)(h2:snap U y=aj d')(h:eqN AK d d'=aj b):Ic r.A s X Y b :=
 Vc AK r.A (Nat.lt_of_succ_lt A.room) d d' X Y b (Fm A.has hx h1) (Fm A.has hy h2) h
theorem oV(h1:snap U x=aj d)(h2:snap U y=aj d')(h:eqN AK d d'=aj b):Pr2 (compareOp .Eq) x y U (vb b) U:=GU λr g s X Y A hx hy Q q=>(Yy A hx hy h1 h2 h).rc _ _ _ Q q
theorem oK(h1:snap U x=aj d)(h2:snap U y=aj d')(h:eqN AK d d'=aj b):Pr2 (compareOp .NotEq) x y U (vb !b) U:=GU λr g s X Y A hx hy Q q=>(Yy A hx hy h1 h2 h).ne _ _ _ Q q
noncomputable def FF(h:Heap)(d:PyData)(v:Value):Bool:=@decide (∃d',AI h.get? d' v/\eqN AK d' d=aj true) (ACE _)
theorem AAT:type_of% @decide_eq_false:=@decide_eq_false
theorem QK(r:AI h.get? d' v)(e:eqN AK d' d=aj b):FF h d v=b:=by
 unfold FF;cases b with
 |true=>exact@AAI _ (ACE _) (iEA d' r e)
 |false =>
  refine@AAT _ (ACE _) ?_;intro q;refine oEA q λd'' r' e'=>?_;rw[AI.inj _ _ _ ((Fi r).symm.trans (Fi r')) r' r,e] at e';exact ff_ (AAA e')
noncomputable def inD(x:PyData):List PyData->Option Bool
 |[]=>aj false
 |y::r=>(eqN AK y x).bind λa=>(inD x r).bind λb=>aj (a||b)
theorem OW(hu:A.units+AK<cLine)(r:AI s.heap.get? d Y):∀{ds:List PyData} {xs:List Value} {b:Bool},Ay (AI s.heap.get?) ds xs->inD d ds=aj b ->
 (∀x,x∈xs->EqAt A s x Y (FF s.heap d x))/\b=xs.any (FF s.heap d):=by
 intro ds
 induction ds with
 |nil=>intro xs b h e;rw[h.nil];exact⟨λx h=>(nomatch h),(AAA e).symm⟩
 |cons z ds ih =>
  intro xs b h e;refine Br h.cons λx xs q_2 h1 h2=>?_;subst q_2;refine oEA (ac e) λc e1 e=>oEA (ac e) λc' e2 e=>oA (ih h2 e2) λh3 h4=>?_;have h5:=QK h1 e1;refine⟨λw hw=>(AAR.mp hw).elim (λq=>?_) (h3 w),by rw[List.any_cons,h5,<-h4,AAA e]⟩;exact q▸h5▸(Vc AK A hu z d x Y c h1 r e1).eq
theorem Us(h1:snap U x=aj d)(h2:snap U y=aj (.list ds)\/snap U y=aj (.tuple ds))(h:inD d ds=aj b):Pr2 (compareOp .In) x y U (vb b) U/\Pr2 (compareOp .NotIn) x y U (vb !b) U:=by
 have key:∀{op:CmpOp} {c:Bool},(∀(r:Ar) (s:Shared) (X:Value) (a:Addr) (vs:Array Value),(s.heap.IsList a vs\/s.heap.IsTuple a vs)->(∀z,z∈vs->EqAt r.A.in1 s z X (FF s.heap d z))->b=vs.any (FF s.heap d)->∀Q:Value->Shared->Prop,Q (.bool c) s->wpAny (model r.T.prog r.T.w) r.A (compareOp op X (.ref a)) Q (λ_ _=>False) s)->Pr2 (compareOp op) x y U (vb c) U:=λk =>
  GU λr g s X Y A hx hy Q q=>by
   have hX:=Fm A.has hx h1;have hu:r.A.in1.units+AK<cLine:=A.room;rcases h2 with h2|h2
   ·exact Fm A.has hy h2 (λY=>wpAny _ r.A (compareOp _ X Y) Q _ s) λa o vs n p1 p2 p3 p4 _=>by exact oA (OW hu hX p4.all h) λq1 q2=>k r s X a vs (.inl ⟨o,p1,p2,n,p3⟩) (λz hz=>q1 z (Array.mem_toList_iff.mpr hz)) (q2.trans (by simp)) Q q
   ·exact Fm A.has hy h2 (λY=>wpAny _ r.A (compareOp _ X Y) Q _ s) λa o vs n p1 p2 p3 p4 _=>by exact oA (OW hu hX p4.all h) λq1 q2=>k r s X a vs (.inr ⟨o,p1,p2,n,p3⟩) (λz hz=>q1 z (Array.mem_toList_iff.mpr hz)) (q2.trans (by simp)) Q q
 exact⟨key λr s X a vs hL hz e Q q=>hL.elim (λhL=>in_listAt (FF s.heap d) hL hz (e▸q)) λhL=>in_tupleAt (FF s.heap d) hL hz (e▸q),
  key λr s X a vs hL hz e Q q=>hL.elim (λhL=>notIn_listAt (FF s.heap d) hL hz (e▸q)) λhL=>notIn_tupleAt (FF s.heap d) hL hz (e▸q)⟩
end
def Cg(r:Ar)(g:G)(U':Ac)(ws:List V)(x:Value)(s':Shared):Prop :=
 ∀R_:Value->Prop,(∀(g':G) (a:Addr) (xs:Array Value) (m:Nat),G.le [] g g'->Has r.T g' U' s'->Dw r.T g' a->s'.heap.get? a=aj {cls:=.type "list",dict:=au,data:=.seq xs m,slots:=#[]}->As r.T g' ws xs.toList->ws.length<=line->R_ (.ref a))->R_ x
def SL(n:Nat)(e:E)(J:Al)(U:Ac)(ws:List V)(U':Ac):Prop :=
 ∀(c:Cx) (g:G) (s:Shared) (ex:Expr),IsE e c.K ex->Inv n c J g U s->c.wp (eval ex c.env) (Cg c.toAr g U' ws) s
def M5(m:Value->Sem Value)(x:V)(U:Ac)(ws:List V)(k:Nat:=0):Prop :=
 ∀(r:Ar) (g:G) (s:Shared) (X:Value),At k r g U s->Au r.T g x X->r.wp (m X) (Cg r g U ws) s
theorem M5.up(h:M5 m x U ws):M5 m x U ws k:=λr g s X A=>h r g s X (A.less (ABF _))
def cN(m:Value->Value->Sem Value)(x y:V)(U:Ac)(ws:List V):Prop :=
 ∀(r:Ar) (g:G) (s:Shared) (X Y:Value),At 0 r g U s->Au r.T g x X->Au r.T g y Y->r.wp (m X Y) (Cg r g U ws) s
section
variable{r:Ar}{g:G}{ds:List PyData}
theorem Cg.frz(h:Cg r g U' (ds.map .d) X s'):Ans r g (.d (.list ds)) U' X s' :=
 h (λX=>Ans r g (.d (.list ds)) U' X s') λg' a xs m le H F ho hr hl=>.mk (g'.put a _) (le.trans (.put F.fz)) (F.put H ho) λR_ k=>k a _ xs m G.put_self rfl rfl (RepDs.mono (G.le.put (own:=[]) F.fz).fz _ _ (As.toD hr)) ((AAB (f:=V.d))▸hl)
theorem Cg.trk(h:Cg r g U' ws X s'):Ans r g (.ref U'.length) (U'++[.list ws]) X s' :=
 h (λX=>Ans r g (.ref U'.length) (U'++[.list ws]) X s') λg' a xs m le H F ho hr hl=>.mk (g'.add a) (le.trans .add) (F.add (ob:=.list ws) H ho λR_ k=>k xs m (As.mono (G.le.add (own:=[])).toup hr) hl) ⟨a,H.addAt,rfl⟩
theorem Cg.after(le:G.le [] g ai)(h:Cg r ai U' ws X s'):Cg r g U' ws X s':=λR_ k=>h R_ λg' a xs m l=>k g' a xs m (le.trans l)
theorem SE.frz(h:SL n e J U (ds.map .d) U'):SE n e J U (.d (.list ds)) U':=λc g s ex hc I=>AAO (h c g s ex hc I) (λ_ _ p=>p.frz) λ_ _ h=>h
theorem SE.trk(h:SL n e J U ws U'):SE n e J U (.ref U'.length) (U'++[.list ws]):=λc g s ex hc I=>AAO (h c g s ex hc I) (λ_ _ p=>p.trk) λ_ _ h=>h
theorem Cg.made(H:Has r.T g U s)(k:∀b o,s.heap.get? b=aj o->s'.heap.get? b=aj o)(hn:s.heap.get? l=au)(ho:s'.heap.get? l=aj {cls:=.type "list",dict:=au,data:=.seq xs m,slots:=#[]})(hr:As r.T g ws xs.toList)(hl:ws.length<=line)
 (hg:s'.gens=s.gens:=by rfl) (hos:s'.os=s.os:=by rfl):Cg r g U ws (.ref l) s' :=
 λR_ kk=>kk g l xs m (.refl _ _) (H.keep k hg hos) (H.free hn) ho hr hl
theorem Cg.push(H:Has r.T g U s)(hr:As r.T g ws xs.toList)(hl:ws.length<=line):Cg r g U ws (.ref s.heap.objs.size) {s with heap:=s.heap.push {cls:=.type "list",dict:=au,data:=.seq xs m,slots:=#[]}} :=
 .made H (λb o e=>AAK _ e) (BA _) (AA3 _ rfl) hr hl
theorem SL.lst(h:SEs n a J U ws af)(hl:ws.length<=line):SL n (.lst a) J U ws af:=λc g s ex hc I=>hc (λex=>c.wp (eval ex c.env) (Cg c.toAr g af ws) s) λvs p hc=>Bq (arm_eval_List ..) (AAD (AA7
 (BV (h c g s vs p hc I) λxs ai ag le ao al=>wpAny_newList ((Cg.push (r:=c.toAr) ao (List.toList_toArray▸al) hl).after le) (al.length▸Bd▸hl))))
theorem SL.bin(ha:SE n a J U x af)(hb:SE n b J af y U2)(h:cN (binaryOp op) x y U2 ws):SL n (.bin op a b) J U ws U2:=by exactλc g s ex hc I=>hc (λex=>c.wp (eval ex c.env) (Cg c.toAr g U2 ws) s) λl r p h1 h2=>Bq (arm_eval_BinOp ..) (Ff ha hb h1 h2 I λX Y am ak le I2 al ar=>AAD (AA7 (wpAny_operating (AAO (h c.toAr am ak X Y I2.at0 al ar) (λ_ _ p=>p.after le) λ_ _ h=>h))))
theorem Jp{h:Heap}(x:h.IsList a xs):∃n dd sl,h.get? a=aj {cls:=.type "list",dict:=dd,data:=.seq xs n,slots:=sl}:=by refine Jd x λq_0 ho hc n hd=>?_;obtain⟨c,dd,data,sl⟩:=q_0;simp only at hc hd;subst hc hd;exact Fb n dd sl ho
theorem Ts(h1:A8 U x=aj ws)(h2:A8 U y=aj us)(hl:ws.length+us.length<=line):cN (binaryOp .Add) x y U (ws++us):=λr g s X Y A hx hy =>
 AX A.has hx h1 (R_:=λX=>r.wp (binaryOp .Add X Y) (Cg r g U (ws++us)) s) λla ia ha1 ha2 ha3 _=>AX A.has hy h2 (R_:=λY=>r.wp (binaryOp .Add (.ref la) Y) (Cg r g U (ws++us)) s) λlb ib hb1 hb2 hb3 _=>by refine RD (Jp ha1) λn1 d1 s1 o1=>RD (Jp hb1) λn2 d2 s2 o2=>concat_meets ⟨_,o1,rfl⟩ ⟨_,o2,rfl⟩ noFill_list_add seq_list_add PySem.F.slot_list_add PySem.F.entry_list_add (PySem.F.args_list_add_2 _ _) (PyProof.Rows.list_addW la lb ia ib n1 n2 d1 d2 s1 s2 (ha3▸hb3▸Bd▸hl)) ⟨o1,o2,?_⟩;exact .push A.has (by rw[Array.toList_append];exact ha2.append hb2) (AAF▸hl)
theorem Wd(H:Has r.T g U s)(F:Dw r.T g l)(ho:s.heap.get? l=aj o)(hc:o.cls=.type "tuple")(hd:o.data=.seq xs m)(hr:Ay (AI g.fz) ds xs.toList)(hl:ds.length<=line):Ans r g (.d (.tuple ds)) U (.ref l) s :=
 .mk (g.put l o) (.put F.fz) (F.put H ho) λR_ k=>k l o xs m G.put_self hc hd (.of (hr.mono λ_ _=>AI.mono (G.le.put (own:=[]) F.fz).fz _ _)) hl
theorem dL(h:As r.T g (ds.map .d) xs):Ay (AI g.fz) ds xs:=(As.toD h).all
theorem SE.tup(h:SEs n a J U (ds.map .d) af)(hl:ds.length<=line):SE n (.tup a) J U (.d (.tuple ds)) af:=λc g s ex hc I=>hc (λex=>c.wp (eval ex c.env) (Ans c.toAr g (.d (.tuple ds)) af) s) λvs k p hc=>Bq (arm_eval_Tuple ..) (AAD (AA7
 (BV (h c g s vs p hc I) λxs ai ag le ao al=>wpAny_newTuple (CI.after le (Wd (r:=c.toAr) (ao.keep λb o e=>AAK _ e) (ao.free (BA _)) (AA3 _ rfl) rfl rfl (List.toList_toArray▸dL (r:=c.toAr) al) hl)) (by rw[<-al.length,<-Bd,AAB];exact hl))))
end
def PrG(x y:V)(U:Ac)(v:V):Prop :=
 ∀(r:Ar) (g:G) (s:Shared) (X Y:Value),At 0 r g U s->Au r.T g x X->Au r.T g y Y->∀R_:Prop,(∀Ty id,s.TypeIs X Ty->typeLookup (.type Ty) "__getitem__" = pure (aj (.builtin id))->r.wp (getItem X Y) (Ans r g v U) s->R_)->R_
noncomputable def NS(c:Nat):Str:=⟨#[c]⟩
noncomputable def CX{α:Type}(lo hi:Option Int)(xs:List α):List α :=
 (xs.drop (lo.elim 0 (clipAt xs.length))).take (hi.elim xs.length (clipAt xs.length)-lo.elim 0 (clipAt xs.length))
noncomputable def K9(lo hi:Option Int)(x:Str):Str:=⟨(CX lo hi x.cps.toList).toArray⟩
section
variable{r:Ar}{s:Shared}{ws:List V}
theorem SK(slice:Expr)(x i:Value):∃ws,subscripted slice false x i=operate ws (getItem x i):=by
 cases slice with
 |Slice _ _ c _=>cases c<;>exact⟨_,rfl⟩
 |_=>exact⟨_,rfl⟩
theorem ML{value slice:Expr}{Ty id:String}{Q:Value->Shared->Prop}(hT:s.TypeIs x Ty)(hl:typeLookup (.type Ty) "__getitem__" = pure (aj (.builtin id)))
 (h:r.wp (getItem x i) Q s):r.wp (getitemInPython x>>=λp=>subscripted slice p x i>>=λv=>letTemporaryGo value x v>>=λ_=>pure v) Q s:=by
 rw[getitemInPython_of_ne hT.not_modules];refine AAD (AAD (wpAny_specialOf hT hl (AAY (AAD ?_))));exact oE (SK slice x i) λws hs=>Bq hs (wpAny_operating (AAO h (λv az aM=>AAD (wpAny_letTemporaryGo (AAY aM))) λ_ _ y=>y))
theorem SE.sub(ha:SE n a J U x af)(hb:SE n b J af y U2)(h:PrG x y U2 v):SE n (.sub a b) J U v U2:=by exactλc g s ex hc I=>hc (λex=>c.wp (eval ex c.env) (Ans c.toAr g v U2) s) λl r p h1 h2=>Bq (arm_eval_Subscript ..) (Ff ha hb h1 h2 I λX Y am ak le I2 al ar=>AAD (AA7 (h c.toAr am ak X Y I2.at0 al ar _ λTy id hT hl w=>ML hT hl (BQ le w))))
theorem Fo(h:small i=true):-(2 ^ 63)<=i/\i<2 ^ 63:=by have h:=AAH.mp h;exact⟨Int.le_of_lt (AAG h.1),AAG h.2⟩
theorem Iw(h:seqIndex? k n=aj j)(h0:0<=k):k.toNat=j:=by unfold seqIndex? at h;rw[if_neg (Int.not_lt.mpr h0)] at h;exact(Bo h).2
theorem GP(h:seqIndex? k n=aj j)(h0:k<0):(k+n).toNat=j/\-(n:Int)<=k:=by unfold seqIndex? at h;rw[if_pos h0] at h;have h:=Bo h;exact⟨h.2,by exact iI (AAG (AAH.mp h.1).1)⟩
theorem bS(h:A8 U x=aj ws)(hk:small k=true)(hj:seqIndex? k ws.length=aj j)(hv:ws[j]? = aj v):PrG x (vi k) U v:=λr g s X Y A hx hy=>by
 refine oE hy λt q_1=>?_;subst q_1;refine AX A.has hx h (R_:=λX=>∀R_:Prop,(∀Ty id,s.TypeIs X Ty->typeLookup (.type Ty) "__getitem__" = pure (aj (.builtin id))->r.wp (getItem X (.int k t)) (Ans r g v U) s->R_)->R_) λl xs hL hr hl _ R_ kk=>oEA (hr.get hv) λw hw rw'=>?_;have hw:=ABJ.symm.trans hw;refine AS (id hL) λo ho hc _=>kk "list" _ ⟨o,ho,hc⟩ slot_list_getitem.lookup ?_;by_cases h0:0<=k
 ·exact wpAny_getItem_list hL h0 (Fo hk).2 ((Iw hj h0)▸hw) (.refl A.has rw')
 ·exact oA (GP hj (Int.not_le.mp h0)) λq1 q2=>wpAny_getItem_list_neg hL (Int.not_le.mp h0) (hl▸q2) (Fo hk).1 (hl▸q1▸hw) (.refl A.has rw')
theorem fV(h:C6 x=aj ws)(hk:small k=true)(hj:seqIndex? k ws.length=aj j)(hv:ws[j]? = aj v):PrG x (vi k) U v:=λr g s X Y A hx hy=>by refine oE hy λt q_1=>?_;subst q_1;refine CZ A.has hx h (R_:=λX=>∀R_:Prop,(∀Ty id,s.TypeIs X Ty->typeLookup (.type Ty) "__getitem__" = pure (aj (.builtin id))->r.wp (getItem X (.int k t)) (Ans r g v U) s->R_)->R_) λl xs hL hr hl _ R_ kk=>oEA (hr.get hv) λw hw rw'=>?_;have hw:=ABJ.symm.trans hw;exact AS (id hL) λo ho hc _=>kk "tuple" _ ⟨o,ho,hc⟩ F.slot_tuple_getitem.lookup (PyProof.Rows.getItem_tuple hL (Fo hk).1 (Fo hk).2 (hl▸hj) hw (.refl A.has rw'))
theorem NR(c:Nat):(NS c).length<=line:=by show 1<=line;exact ACZ _
theorem fW(hk:small k=true)(hc:Txt.charAt z k=aj ch):PrG (.d (.str z)) (vi k) U (.d (.str (NS ch))):=λr g s X Y A hx hy R_ kk=>by
 refine oEA hx λt q_1 _=>?_;subst q_1;refine oE hy λu q_1=>?_;subst q_1;refine kk "str" _ (typeIs_str _ _ _) F.slot_str_getitem.lookup (SB.getItem ?_ (hc▸rfl) (.refl A.has.tok ⟨s.toks,?_,NR ch⟩))
 ·unfold fitsSsize;simp;have:=Fo hk;lia
 ·unfold Txt.item;rw[hc];rfl
def SO(n:Nat)(e:E)(J:Al)(U:Ac)(l:Option Int)(U':Ac):Prop :=
 ∀(c:Cx) (g:G) (s:Shared) (x:Option Expr),(if BZ e then M7 else M6 (IsE e c.K)) x->Inv n c J g U s->c.wp (valueOrNone (evalOpt x c.env)) (λX s'=>CI c.T [] g U' (λ_=>∃p:Option (Int×Tok),X=partValue p/\p.map (·.1)=l) s') s
theorem SO.none:SO n .nil J U au U:=λc g s x hc I=>by obtain rfl:x=Option.none:=hc;exact AAY (.refl I.has (iEA Option.none rfl rfl))
theorem SO.some(h0:BZ e=false)(h:SE n e J U (vi i) U'):SO n e J U (aj i) U':=λc g s x hc I=>by rw[h0] at hc;exact hc (λx=>c.wp (valueOrNone (evalOpt x c.env)) (λX s'=>CI c.T [] g U' (λ_=>∃p:Option (Int×Tok),X=partValue p/\p.map (·.1)=Option.some i) s') s) λex hc=>AAO (h c g s ex hc I) (λX s' p=>p _ λg' le H r=>.mk g' le H (r.elim λt r=>(iEA (Option.some (i,t)) r rfl))) λ_ _ h=>h
def PrC(x:V)(U:Ac)(lo hi:Option Int)(Q:Ar->G->Value->Shared->Prop):Prop :=
 ∀(r:Ar) (g:G) (s:Shared) (X:Value) (sl:Addr) (q1 q2:Option (Int×Tok)),At 0 r g U s->Au r.T g x X->s.heap.IsSliceOf sl (partValue q1) (partValue q2) .none->q1.map (·.1)=lo->q2.map (·.1)=hi ->
  ∀R_:Prop,(∀Ty id,s.TypeIs X Ty->typeLookup (.type Ty) "__getitem__" = pure (aj (.builtin id))->r.wp (getItem X (.ref sl)) (Q r g) s->R_)->R_
theorem MR(up:∀{r:Ar} {g ai:G} {X:Value} {s':Shared},G.le [] g ai->Q r ai X s'->Q r g X s')(ha:SE n a J U x af)(hl:SO n lo J af l U2)(hh:SO n hi J U2 h U3)(hx:PrC x U3 l h Q)(hc:IsE (.slc a lo hi) c.K ex)(I:Inv n c J g U s):c.wp (eval ex c.env) (Q c.toAr g) s:=by refine hc (λex=>c.wp (eval ex c.env) (Q c.toAr g) s) λv l u p p' h1 h2 h3=>?_;rw[arm_eval_Subscript,arm_eval_Slice];refine BF ha h1 I λX ai ag aq I1 al=>AAD (AA8 (BV (hl c ai ag l h2 I1) λlv am ak le2 av ar=>?_));have I2:=I1.step le2 av;refine BV (AA8 (hh c am ak u h3 I2)) λuv aB az ay aR r3=>AAD (AA8 (AAY (wpAny_newObj_type (AAD (AA7 ?_)))));refine oEA ar λq1 q_1 e1=>?_;subst q_1;refine oEA r3 λq2 q_1 e2=>?_;subst q_1;have I4:=(I2.step ay aR).step (.refl _ _) (aR.keep (s':={az with heap:=az.heap.push {cls:=.type "slice",data:=.fields #[partValue q1,partValue q2,.none]}}) λb o e=>AAK _ e);refine hx c.toAr aB _ X _ q1 q2 I4.at0 (Au.mono (le2.trans ay).toup _ _ al) (Heap.IsSliceOf.new az.heap _ _ .none) e1 e2 _ λTy id hT hk w=>ML hT hk (AAO w (λ_ _ p=>up (aq.trans (le2.trans ay)) p) λ_ _ h=>h)
theorem SL.slc(ha:SE n a J U x af)(hl:SO n lo J af l U2)(hh:SO n hi J U2 h U3)(hx:PrC x U3 l h λr g=>Cg r g U3 ws):SL n (.slc a lo hi) J U ws U3:=λc g s ex hc I=>MR (λle p=>p.after le) ha hl hh hx hc I
theorem SE.slc(ha:SE n a J U x af)(hl:SO n lo J af l U2)(hh:SO n hi J U2 h U3)(hx:PrC x U3 l h λr g=>Ans r g v U3):SE n (.slc a lo hi) J U v U3:=λc g s ex hc I=>MR (Q:=λr g=>Ans r g v U3) (λle p=>CI.after le p) ha hl hh hx hc I
theorem PZ(h:q.map (·.1)=l):IsPart (partValue q) l:=by
 cases q with
 |none=>exact h▸.none
 |some p=>exact h▸.int _ _
theorem cH(h:A8 U x=aj ws):PrC x U lo hi λr g=>Cg r g U (CX lo hi ws):=λr g s X sl q1 q2 A hx hs e1 e2 =>
 AX A.has hx h (R_:=λX=>∀R_:Prop,(∀Ty id,s.TypeIs X Ty->typeLookup (.type Ty) "__getitem__" = pure (aj (.builtin id))->r.wp (getItem X (.ref sl)) (Cg r g U (CX lo hi ws)) s->R_)->R_) λl xs hL hr hl hsz R_ kk=>by
  refine AS (id hL) λo ho hc _=>kk "list" _ ⟨o,ho,hc⟩ slot_list_getitem.lookup (wpAny_getItem_list_slice hL hs (PZ e1) (PZ e2) .none (by simp) (.push A.has ?_ ?_) (Bd▸hsz))
  ·rw[slicePick_plain];unfold CX;exact hl▸(hr.drop _).take _
  ·exact AAC ((AC0 _ _).trans (List.drop_sublist _ _)).length_le (hl▸hsz)
end
section
variable{r:Ar}{c:Cx}{s:Shared}{a:E}{ws:List V}
theorem Sq(n:Nat)(i:Int):clipAt n i<=n:=Int.toNat_le.mpr (Int.max_le.mpr ⟨AB6 n,Int.min_le_right _ _⟩)
theorem MO(lo hi:Option Int)(x:Str):Txt.slice x lo hi=K9 lo hi x:=by
 have e:Builtin.Str.strSliceIndices lo hi 1 x.length=sliceRange (sliceBounds lo hi au x.length).1 (sliceBounds lo hi au x.length).2.1 1:=by unfold Builtin.Str.strSliceIndices;cases lo<;>cases hi<;>simp[sliceBounds]
 have e2:(Builtin.Str.strSliceIndices lo hi 1 x.length).filterMap (x.cps[·]?)=CX lo hi x.cps.toList:=by rw[e,sliceBounds_plain];simp only[sliceRange_one,pick_run];unfold CX;simp[Str.length]
 unfold Txt.slice K9;split
 ·rename_i q
  have q2:=ABM (AAH.mp q).2;have l1:(CX lo hi x.cps.toList).length=x.length:=by
   have hb:hi.elim x.length (clipAt x.length)<=x.length:=by
    cases hi with
    |none=>exact AAL _
    |some i=>exact Sq _ _
   rw[e,sliceBounds_plain] at q2;simp only[sliceRange_one,AAB,ABV] at q2;unfold CX;have hx:x.cps.toList.length=x.length:=ABA;rw[hx,ACP,ADE,hx,q2];exact ACL (AAC (Nat.le_of_eq q2.symm) (Nat.sub_le_sub_right hb _))
  have l2:CX lo hi x.cps.toList=x.cps.toList:=((AC0 _ _).trans (List.drop_sublist _ _)).eq_of_length (l1.trans ABA.symm);rw[l2]
 ·rw[e2]
theorem NL(lo hi:Option Int)(x:Str):(K9 lo hi x).length<=x.length:=by show((CX lo hi x.cps.toList).toArray).size<=x.cps.size;exact ACM▸ABA▸((AC0 _ _).trans (List.drop_sublist _ _)).length_le
theorem gP:PrC (.d (.str z)) U lo hi λr g=>Ans r g (.d (.str (K9 lo hi z))) U:=λr g s X sl q1 q2 A hx hs e1 e2 R_ kk=>by refine oEA hx λt q_1 hl=>?_;subst q_1;refine kk "str" _ (typeIs_str _ _ _) F.slot_str_getitem.lookup (wpAny_getItem_str_slice (l:=q1) (u:=q2) (st:=au) hs rfl ?_);have e:(if (((au:Option (Int×Tok)).map (·.1)).getD 1==1&&(slicePicked z q1 q2 au).length==z.length)=true then z else⟨((slicePicked z q1 q2 au).filterMap (z.cps[·]?)).toArray⟩)=K9 (q1.map (·.1)) (q2.map (·.1)) z:=MO _ _ _;unfold sliceMade;exact post_val_or_str (e▸e1▸e2▸⟨AAC (NL _ _ _) (Bd▸hl),λt' k=>.refl A.has.tok ⟨t',rfl,AAC (NL _ _ _) hl⟩⟩)
theorem CH(pos:Pos)(env:Env)(h:Gm es K xs):(backTo pos (starEach xs env)).any (·.1)=false:=by
 induction es generalizing xs with
 |nil=>rw[show xs=[] from h];rfl
 |cons e es _ ih=>exact h (λxs=>(backTo pos (starEach xs env)).any (·.1)=false) λx l h1 h3=>by rw[(BR e h1).star];exact ih h3
 |_=>exact h.elim
theorem CL{xs:List Expr}{pos:Pos}{env:Env}{Q:Args->Shared->Prop}(hc:Gm es K xs)(h:r.wp (spliced (backTo pos (starEach xs env))) (λvs s'=>Q ⟨vs,[]⟩ s') s):r.wp (evalArgs f true (backTo pos (starEach xs env)) []) Q s:=by
 cases es with
 |nil =>
  obtain rfl:xs=[]:=hc;have e2:evalArgs f true (backTo pos (starEach [] env)) []=pure ⟨[],[]⟩:=by first|rfl|(unfold evalArgs;rfl)
  exact Bq e2 λΓ p hΓ=>h Γ p hΓ
 |cons e es=>exact hc (λxs=>r.wp (spliced (backTo pos (starEach xs env))) (λvs s'=>Q ⟨vs,[]⟩ s') s->r.wp (evalArgs f true (backTo pos (starEach xs env)) []) Q s) (λx l h1 h3 h=>by rw[(BR e h1).star] at h ⊢;exact evalArgs_plain h) h
 |_=>exact hc.elim
theorem NY(b:Bi){P:Value->Prop}(h1:∀id,P (.builtin id))(h2:∀t,P (.type t)):P (AZ b):=by cases b<;>first|exact h1 _|exact h2 _
theorem Vt(h:cW T (cI b) x):x=AZ b:=by cases b<;>exact h
theorem QT{b:Bi}{Q:Ar->G->Value->Shared->Prop}(up:∀{r:Ar} {g ai:G} {X:Value} {s':Shared},G.le [] g ai->Q r ai X s'->Q r g X s')(h:SEs n a J U ws af)(hx:∀(r:Ar) (g:G) (s:Shared) (Xs:List Value),At n r g af s->As r.T g ws Xs->r.wp (call (AZ b) Xs) (Q r g) s){ex:Expr}(hc:IsE (.bi b a) c.K ex)(I:Inv n c J g U s):c.wp (eval ex c.env) (Q c.toAr g) s:=by
 refine hc (λex=>c.wp (eval ex c.env) (Q c.toAr g) s) λnm np vs p h1 h2=>PyProof.Rows.Call_Name rfl (Cu I h1 λx hv=>?_);obtain rfl:=Vt hv;have k:c.wp (evalArgs (AZ b) true (backTo p (starEach vs c.env)) []) (λa ag=>wpAny (model c.T.prog c.T.w) c.A (call (AZ b) a.pos a.kw) (Q c.toAr g) (λ_ _=>False) ag) s :=
  CL (r:=c.toAr) h2 (AAO (h c g s vs p h2 I) (λXs ag p=>p _ λai le ao al=>AAO (hx c.toAr ai ag Xs (I.step le ao).toAt al) (λ_ _ p=>up le p) λ_ _ h=>h) λ_ _ h=>h)
 exact NY b (P:=λf=>c.wp (evalArgs f true (backTo p (starEach vs c.env)) []) (λa ag=>wpAny (model c.T.prog c.T.w) c.A (call f a.pos a.kw) (Q c.toAr g) (λ_ _=>False) ag) s->c.wp (callWith p f [] (backTo p (starEach vs c.env)) []) (Q c.toAr g) s)
  (λid k=>callWith_builtin (CH _ _ h2) k) (λt k=>PyProof.Rows.callWith_type (CH _ _ h2) k) k
theorem SE.bi(h:SEs n a J U ws af)(hx:PrL (λXs=>call (AZ b) Xs) ws af v U2 n):SE n (.bi b a) J U v U2:=λc g s ex hc I=>QT (Q:=λr g=>Ans r g v U2) (λle p=>CI.after le p) h hx hc I
theorem SL.bi(h:SEs n a J U ws af)(hx:∀(r:Ar) (g:G) (s:Shared) (Xs:List Value),At n r g af s->As r.T g ws Xs->r.wp (call (AZ b) Xs) (Cg r g af us) s):SL n (.bi b a) J U us af:=λc g s ex hc I=>QT (Q:=λr g=>Cg r g af us) (λle p=>p.after le) h hx hc I
theorem SE.bi1(h:SEs n a J U [x] af)(hx:Pr1 (λX=>call (AZ b) [X]) x af v U2 k)(hk:k<=n:=by exact ABF _):SE n (.bi b a) J U v U2:=SE.bi h λr g s Xs A R=>by refine oEA R.one λX q_1 rx=>?_;subst q_1;exact hx r g s X (A.less hk) rx
theorem SE.bi2(h:SEs n a J U [x,y] U2)(hx:Pr2 (λX Y=>call (AZ f) [X,Y]) x y U2 v U3 k)(hk:k<=n:=by exact ABF _):SE n (.bi f a) J U v U3:=SE.bi h λr g s Xs A R=>by refine Br R.two λX Y q_2 rx ry=>?_;subst q_2;exact hx r g s X Y (A.less hk) rx ry
theorem SL.bi1(h:SEs n a J U [x] af)(hx:M5 (λX=>call (AZ b) [X]) x af ws k)(hk:k<=n:=by exact ABF _):SL n (.bi b a) J U ws af:=SL.bi h λr g s Xs A R=>by refine oEA R.one λX q_1 rx=>?_;subst q_1;exact hx r g s X (A.less hk) rx
end
noncomputable def PL(n:Int):Str:=ACC (toString n)
noncomputable def By(a b:Str):Bool:=decide (a.cps.toList<b.cps.toList)
theorem No(h:By a b=true)(h':By b c=true):By a c=true:=AAI (List.lt_trans (AAG h) (AAG h'))
theorem ABG:type_of% @of_decide_eq_false:=@of_decide_eq_false
theorem Ig(h:By a b=false)(h':By b a=false):a=b:=by have:a.cps.toList=b.cps.toList:=List.le_antisymm (List.not_lt.mp (ABG h')) (List.not_lt.mp (ABG h));cases a;cases b;exact congrArg _ (Array.toList_inj.mp this)
theorem Nv(h:By b a=false)(h':By c b=false):By c a=false:=by
 cases e:By c a with
 |false=>rfl
 |true=>cases e':By a b with
  |true=>exact tt_ ((No e e').symm.trans h')
  |false=>rw[Ig e' h] at e;exact tt_ (e.symm.trans h')
def Eg(l:List Str):Prop:=l.Pairwise λa b=>By b a=false
theorem Gq:∀{l':List Str},Eg l->Eg l'->l.Perm l'->l=l':=by
 induction l with
 |nil=>exactλ_ _ p=>(List.nil_perm.mp p).symm
 |cons x r ih =>
  intro l' h h' p;cases l' with
  |nil=>exact absurd (List.perm_nil.mp p) (List.cons_ne_nil _ _)
  |cons y r' =>
   refine oA (ACO.mp h) λh1 h2=>oA (ACO.mp h') λh1' h2'=>?_;have e:=(AAR.mp (p.mem_iff.mpr (List.mem_cons_self ..))).elim (λq=>q.symm) λq=>(AAR.mp (p.mem_iff.mp (List.mem_cons_self ..))).elim id λq'=>Ig (h1' x q') (h1 y q);subst e;rw[ih h2 h2' (List.Perm.cons_inv p)]
theorem GQ(l:List Str):∀(p:Str),PyProof.Rows.risingS p l=true->Eg (p::l):=by
 induction l with
 |nil=>exactλp _=>List.pairwise_singleton ..
 |cons x r ih =>
  intro p h;have h:=AAH.mp h;have h0:=by have:=h.1;rw[ACV,PyProof.Rows.ltCps_eq] at this;exact this
  have h2:=ih x h.2;exact ACO.mpr ⟨λz hz=>(AAR.mp hz).elim (λq=>q▸h0) λhz=>Nv h0 ((ACO.mp h2).1 z hz),h2⟩
theorem DV(h:PyProof.Rows.sortedS l=true):Eg l:=by
 cases l with
 |nil=>exact List.Pairwise.nil
 |cons x r=>exact GQ r x h
section
variable{i:Int}
noncomputable abbrev vss(ss:List Str):List V:=ss.map λy=>.d (.str y)
theorem IR:∀{xs:List Value},As T g (vss ss) xs->PyProof.Rows.StrsAre xs ss/\∀y∈ss,y.length<=line:=by
 induction ss with
 |nil=>intro xs h;rw[h.nil];exact⟨.nil,λ_ h=>(nomatch h)⟩
 |cons s ss ih =>
  intro xs h;refine Br h.cons λx xs q_2 q_3 h2=>?_;subst q_2;obtain⟨t,rfl,hl⟩:=q_3;exact⟨.cons s t (ih h2).1,λz hz=>(AAR.mp hz).elim (λq=>q▸hl) ((ih h2).2 z)⟩
theorem MY(h:PyProof.Rows.StrsAre xs ss)(hl:∀y∈ss,y.length<=line):As T g (vss ss) xs:=by
 induction h with
 |nil=>exact trivial
 |cons y t h ih=>exact⟨⟨t,rfl,hl y (List.mem_cons_self ..)⟩,ih λz hz=>hl z (List.mem_cons_of_mem _ hz)⟩
theorem UR(h:A8 U x=aj (vss ss))(hl:ss.length<64)(hp:ss'.Perm ss)(hs:Eg ss'):M5 (λX=>call (AZ .sorted) [X]) x U (vss ss'):=λr g s X A hx =>
 AX A.has hx h (R_:=λX=>r.wp (call (.builtin "sorted") [X]) (Cg r g U (vss ss')) s) λa ys hL hr hn _=>by
  refine oA (IR hr) λh1 h2=>?_;have hlen:ys.toList.length<64:=by rw[<-hr.length,AAB];exact hl
  refine PyProof.Rows.sorted_strs hL h1 hlen λout out' a1 a2 a3=>?_;obtain rfl:out'=ss':=Gq (DV a3) hs (a2.trans hp.symm);exact oE (PyProof.Rows.sortedAll_at s.heap ys.toList out) λk hk=>.made A.has (λb o e=>PyProof.Rows.sortedAll_old e) (ABO (ADL _)) hk (MY a1 λz hz=>h2 z (a2.mem_iff.mp hz)) (by rw[AAB,hp.length_eq];exact AAC (ACF hl) (by decide))
theorem gE(h:A8 U x=aj ws):Pr1 (λX=>call (AZ .len) [X]) x U (vi ws.length) U:=λr g s X A hx =>
 AX A.has hx h (R_:=λX=>r.wp (call (.builtin "len") [X]) (Ans r g (vi ws.length) U) s) λa ys hL hr hn hs=>PyProof.Rows.len_list hL (Int.ofNat_lt.mpr (F5 hs)) (.refl A.has.tok ⟨_,by rw[hn]⟩)
theorem bV(h:C6 x=aj ws):Pr1 (λX=>call (AZ .len) [X]) x U (vi ws.length) U:=λr g s X A hx =>
 CZ A.has hx h (R_:=λX=>r.wp (call (.builtin "len") [X]) (Ans r g (vi ws.length) U) s) λa ys hL hr hn hs=>PyProof.Rows.len_tuple hL (Int.ofNat_lt.mpr (F5 hs)) (.refl A.has.tok ⟨_,by rw[hn]⟩)
theorem bW:Pr1 (λX=>call (AZ .len) [X]) (.d (.str z)) U (vi z.cps.size) U:=λr g s X A hx=>by refine oEA hx λt q_1 hl=>?_;subst q_1;exact P.len_str (Int.not_le.mpr (Int.ofNat_lt.mpr (F5 hl))) (.refl A.has.tok ⟨_,rfl⟩)
theorem gB(hi:i.natAbs<1000000000000):Pr1 (λX=>call (AZ .str) [X]) (vi i) U (.d (.str (PL i))) U:=λr g s X A hx=>by
 refine oE hx λt q_1=>?_;subst q_1;refine P.str_of_int ?_ (.refl A.has.tok ⟨_,rfl,?_⟩)
 ·by_cases h0:i.natAbs=0
  ·rw[h0];decide
  ·exact ABT ((Nat.log2_lt (k:=40) h0).mpr (ABT hi (by decide))) (by decide)
 ·show(ACC (toString i)).length<=line;rw[ofString_length];exact AAC (int_text_length_le10 (k:=12) (by decide) hi) (by decide)
theorem gD:Pr2 (λX Y=>call (AZ .min) [X,Y]) (vi i) (vi j) U (vi (if j<i then j else i)) U 3:=λr g s X Y A hx hy=>by
 refine oE hx λt q_1=>?_;subst q_1;refine oE hy λu q_1=>?_;subst q_1;refine min_two_ints (A.hh.none (AAL _)) λh' tk hk=>.refl (A.has.keep hk) ?_;by_cases q:j<i
 ·exact(if_pos q)▸(if_pos q)▸⟨u,rfl⟩
 ·exact(if_neg q)▸(if_neg q)▸⟨t,rfl⟩
theorem US(h:A8 U x=aj ws):M5 (λX=>call (AZ .list) [X]) x U ws:=λr g s X A hx =>
 AX A.has hx h (R_:=λX=>r.wp (call (.type "list") [X]) (Cg r g U ws) s) λa ys hL hr hn hs=>by exact Jd hL λo ho hc m hd=>PySem.call_list_seq a (.inl rfl) ho hc hd λh' c' hk hD=>.made A.has hk (BA _) hD hr (hn▸hs)
theorem gC:Pr1 (λX=>call (AZ .ord) [X]) (.d (.str (NS ch))) U (vi ch) U:=λr g s X A hx=>by refine oEA hx λt q_1 _=>?_;subst q_1;exact P.ord_of_char (.refl A.has.tok ⟨_,rfl⟩)
noncomputable abbrev vbs(bs:List Bool):List V:=bs.map λb=>.d (.bool b)
theorem Sr:∀{xs:List Value},As T g (vbs bs) xs->xs=bs.map Value.bool:=by
 induction bs with
 |nil=>exactλh=>h.nil
 |cons b bs ih =>
  intro xs h;refine Br h.cons λx xs q_2 h1 h2=>?_;subst q_2;exact(ih h2)▸(show x=.bool b from h1)▸rfl
theorem Na(bs:List Bool):(List.range bs.length).map (λi=>bs[i]?.getD false)=bs:=by
 induction bs with
 |nil=>rfl
 |cons b bs ih=>rw[AA2,List.range_succ_eq_map,ABP,AAE];exact congrArg (b::·) ih
theorem Kf{r:Ar}{s:Shared}{bs:List Bool}{Q:Value->Shared->Prop}{f:List Nat->(Nat->Bool)->Bool}{q:Bool}(A:At 3 r g U s)(h:A8 U x=aj (vbs bs))(hx:Au r.T g x X)(hq:f (List.range bs.length) (λi=>bs[i]?.getD false)=q)(k:∀s',Has r.T g U s'->Q (.bool q) s') :
 wpAny (model r.T.prog r.T.w) r.A.in1 (pyIter X) (λit ak=>∃I fp wr n P St tr,it=.ref I/\Walks r.T.prog r.T.w r.A.in1 I fp wr n P St/\St 0 ak.heap/\TruthOf r.T.prog r.T.w r.A.in1 P tr ∧
  ∀h' tk,(∀b o,b∉wr->ak.heap.get? b=aj o->h'.get? b=aj o)->Q (.bool (f (List.range n) tr)) {ak with heap:=h',toks:=tk}) (λ_ _=>False) s:=by
 refine(AX A.has hx h (R_:=λX=>wpAny (model r.T.prog r.T.w) r.A.in1 (pyIter X) _ (λ_ _=>False) s) λa ys hL hr hn hs=>wpAny_pyIter_list hL ?_);have hb:=Sr hr;have hsz:ys.size=bs.length:=by rw[<-hn,AAB]
 refine Jd (id hL) λol hol hcl nl hdl=>⟨_,_,_,_,_,_,λi=>bs[i]?.getD false,rfl,Walks.list (A:=r.A.in1) (A.hh.none (AAL _)) s.heap.objs.size a (ACT (ACU hol)) ys,⟨⟨_,AA3 _ rfl,rfl,rfl⟩,⟨ol,AAK _ hol,hcl,nl,hdl⟩⟩,?_,λh' tk hk=>?_⟩
 ·intro i w s' Q E hw hq;have hw:=ABJ.trans hw;have hq:Q (bs[i]?.getD false) s':=hq;rw[hb,ABI] at hw;cases ebi:bs[i]? with
  |none=>rw[ebi] at hw;exact Aa hw
  |some c =>
   rw[ebi] at hw hq;exact(AAA hw)▸wpAny_truthy_bool hq
 ·exact hsz▸hq▸k _ (A.has.keep λb o e=>hk b o (λq=>by rw[AAJ.mp q,BA] at e;exact Aa e) (AAK _ e))
theorem gI(h:A8 U x=aj (vbs bs)):Pr1 (λX=>call (AZ .all) [X]) x U (vb (bs.all id)) U 3:=λr g s X A hx =>
 call_all_walk (Kf A h hx (List.all_map.symm.trans (congrArg (List.all · id) (Na bs))) λs' H=>.refl H rfl)
theorem gH(h:A8 U x=aj (vbs bs)):Pr1 (λX=>call (AZ .any) [X]) x U (vb (bs.any id)) U 3:=λr g s X A hx =>
 call_any_walk (Kf A h hx (List.any_map.symm.trans (congrArg (List.any · id) (Na bs))) λs' H=>.refl H rfl)
end
section
variable{i j:Int}
theorem Mv{m:Value->Value->Sem Value}{q:Bool}(h:∀(r:Ar) (s:Shared) (t u:Tok) (Q:Value->Shared->Prop),Q (.bool q) s->wpAny (model r.T.prog r.T.w) r.A (m (.int i t) (.int j u)) Q (λ_ _=>False) s):Pr2 m (vi i) (vi j) U (vb q) U:=GU λr g s X Y A hx hy Q k=>by refine oE hx λt q_1=>?_;subst q_1;refine oE hy λu q_1=>?_;subst q_1;exact h r s t u Q k
theorem oM:Pr2 (compareOp .Lt) (vi i) (vi j) U (vb (decide (i<j))) U:=Mv λr s t u Q h=>P.lt_int h
theorem oO:Pr2 (compareOp .LtE) (vi i) (vi j) U (vb (decide (i<=j))) U:=Mv λr s t u Q h=>P.le_int h
theorem oQ:Pr2 (compareOp .Gt) (vi i) (vi j) U (vb (decide (i>j))) U:=Mv λr s t u Q h=>P.gt_int h
theorem oU:Pr2 (compareOp .GtE) (vi i) (vi j) U (vb (decide (i≥j))) U:=Mv λr s t u Q h=>P.ge_int h
theorem eN:Pr2 (compareOp .GtE) (.d (.str a)) (.d (.str b)) U (vb (!By a b)) U:=GU λr g s X Y A hx hy Q k=>by refine oEA hx λt q_1 _=>?_;subst q_1;refine oEA hy λu q_1 _=>?_;subst q_1;exact P.ge_str k
theorem oP:Pr2 (compareOp .Is) (.d .none) (.d .none) U (vb true) U/\Pr2 (compareOp .IsNot) (.d .none) (.d .none) U (vb false) U:=by
 constructor<;>exact GU λr g s X Y A hx hy Q k=>by
  obtain rfl:X=.none:=hx;obtain rfl:Y=.none:=hy
  first|exact wpAny_is_self rfl k|exact wpAny_isNot_self rfl k
noncomputable def GZ(v:V):Bool:=match v with|.d x=>(match x with|.none=>false|.dict _=>false|_=>true)|.ty _=>false|_=>true
theorem LQ(h:GZ v=true)(r:Au T g v X):plainIs X .none=true/\X≠.none:=by
 have rf:∀a,plainIs (.ref a) .none=true/\Value.ref a≠.none:=λa=>⟨rfl,λq=>nomatch q⟩
 cases v with
 |d x=>cases x with
  |none=>exact ff_ h
  |bool b=>rw[show X=.bool b from r];exact⟨rfl,λq=>nomatch q⟩
  |int i=>refine oE r λt q_1=>?_;subst q_1;exact⟨rfl,λq=>nomatch q⟩
  |str z=>refine oEA r λt q_1 _=>?_;subst q_1;exact⟨rfl,λq=>nomatch q⟩
  |list _=>exact r (λX=>plainIs X .none=true/\X≠.none) λa _ _ _ _ _ _ _ _=>rf a
  |tuple _=>exact r (λX=>plainIs X .none=true/\X≠.none) λa _ _ _ _ _ _ _ _=>rf a
  |dict _=>exact ff_ h
 |ref k=>refine oEA r λa _ q_2=>?_;subst q_2;exact rf a
 |tup _=>exact r (λX=>plainIs X .none=true/\X≠.none) λa _ _ _ _ _ _ _ _=>rf a
 |ty _=>exact ff_ h
 |obj _=>exact r (λX=>plainIs X .none=true/\X≠.none) λa _ _ _ _ _ _ _ _ _ _ _=>rf a
 |pr _ _=>exact r (λX=>plainIs X .none=true/\X≠.none) λa _ _ _ _ _ _ _ _=>rf a
 |exc _=>exact r (λX=>plainIs X .none=true/\X≠.none) λa _ _ _ _ _ _ _ _=>rf a
 |ecl _=>refine oEA r λa _ q_2=>?_;subst q_2;exact rf a
theorem eI(h:GZ v=true):Pr2 (compareOp .Is) v (.d .none) U (vb false) U/\Pr2 (compareOp .IsNot) v (.d .none) U (vb true) U:=by
 constructor<;>exact GU λr g s X Y A hx hy Q k=>by
  obtain rfl:Y=.none:=hy;have f:=LQ h hx
  first|exact wpAny_is_other f.1 f.2 k|exact wpAny_isNot_other f.1 f.2 k
noncomputable def Rq(U:Ac)(v:V):Option String :=
 match v with
 |.d x=>(match x with|.tuple _=>aj "tuple" | .list _=>aj "list" | .str _=>aj "str" | .int _=>aj "int" | .bool _=>aj "bool" | _=>au)
 |.tup _=>aj "tuple"
 |.ref k=>(DE U[k]?).bind λ_=>aj "list"
 |_=>au
theorem Wc(H:Has T g U s)(r:Au T g v X)(h:Rq U v=aj t):s.TypeIs X t:=by
 have sq:∀{cl:String} {P:List Value->Prop} {n:Nat},CO g.fz cl X P n->s.TypeIs X cl:=λr=>r (λX=>s.TypeIs X _) λa o vs m hf hc _ _ _=>⟨o,H.fz _ _ hf,hc⟩
 cases v with
 |d x=>cases x with
  |bool b=>rw[show X=.bool b from r,<-AAA h];exact typeIs_bool _ _
  |int i=>refine oE r λu q_1=>?_;subst q_1;rw[<-AAA h];exact typeIs_int _ _ _
  |str z=>refine oEA r λu q_1 _=>?_;subst q_1;rw[<-AAA h];exact typeIs_str _ _ _
  |list _=>rw[<-AAA h];exact sq r
  |tuple _=>rw[<-AAA h];exact sq r
  |_=>exact Aa h
 |tup _=>rw[<-AAA h];exact sq r
 |ref k =>
  exact oEA (ac h) λws e h=>(AAA h)▸AX H r e (R_:=λX=>s.TypeIs X "list") λa xs hL _ _ _=>hL.elim λo h=>⟨o,h.1,h.2.1⟩
 |_=>exact Aa h
theorem QG(h:Rq U v=aj t)(ht:typeOf (.type t)=pure (.type "type"))(hs:isSubtype (.type t) (.type t)=pure true):Pr2 (λX Y=>call (AZ .isinstance) [X,Y]) v (.ty t) U (vb true) U:=λr g s X Y A hx hy=>by obtain rfl:Y=.type t:=hy;exact call_isinstance (isinstance_true ht hs) ⟨Wc A.has hx h,.refl A.has.tok rfl⟩
theorem bY:Pr2 (λX Y=>call (AZ .isinstance) [X,Y]) (vi i) (.ty "bool") U (vb false) U:=λr g s X Y A hx hy=>by obtain rfl:Y=.type "bool" := hy;refine oE hx λt q_1=>?_;subst q_1;exact call_isinstance (isinstance_false_int (by decide) (by kernel_rfl) (by rw[isSubtype_type];kernel_rfl)) (.refl A.has.tok rfl)
end
section
variable{κ:Type}[DecidableEq κ]
noncomputable def Aq{β:Type}(kvs:List (κ×β))(k:κ):Option β:=(kvs.find? λp=>p.1=k).map (·.2)
noncomputable def Ci{β:Type}(kvs:List (κ×β))(k:κ)(d:β):List (κ×β) :=
 if kvs.any (λp=>p.1=k) then kvs.map (λp=>if p.1=k then(p.1,d) else p) else kvs++[(k,d)]
theorem FU{β:Type}(kvs:List (κ×β))(k:κ)(d:β):(Ci kvs k d).length<=kvs.length+1:=by
 unfold Ci;by_cases e:(kvs.any λp=>p.1=k)=true
 ·rw[if_pos e,AAB];exact ADL _
 ·exact(if_neg e)▸AAF▸AAL _
theorem Oj{α:Type}(p:α->Bool)(l:List α):l.any p=(l.find? p).isSome:=by
 induction l with
 |nil=>rfl
 |cons a l ih=>rw[List.any_cons,List.find?_cons,ih];cases p a<;>rfl
theorem JP{β ω κ':Type}[DecidableEq κ']{R:κ×β->ω->Prop}{key:ω->κ'}{f:κ->κ'}(hf:∀a b,f a=f b->a=b)(hR:∀p w,R p w->f p.1=key w)(k:κ){kvs:List (κ×β)}:∀{ws:List ω},Ay R kvs ws ->
 (kvs.find? (λp=>p.1=k)=au/\ws.find? (λw=>key w=f k)=au)\/∃p w,kvs.find? (λp=>p.1=k)=aj p/\ws.find? (λw=>key w=f k)=aj w/\R p w:=by
 induction kvs with
 |nil=>intro ws h;rw[h.nil];exact .inl ⟨rfl,rfl⟩
 |cons p kvs ih =>
  intro ws h;refine Br h.cons λw ws q_2 h1 h2=>?_;subst q_2;rw[List.find?_cons,List.find?_cons,<-hR p w h1];by_cases e:p.1=k
  ·rw[AAI e,AAI (congrArg f e)];exact .inr (Hk p w rfl rfl h1)
  ·rw[AAT e,AAT λq=>e (hf _ _ q)];exact ih h2
theorem PY{β ω κ':Type}[DecidableEq κ']{R:κ×β->ω->Prop}{key:ω->κ'}{f:κ->κ'}(hf:∀a b,f a=f b->a=b)(hR:∀p w,R p w->f p.1=key w){k:κ}{d:β}{w₀:ω}{up:ω->ω}(h0:R (k,d) w₀)(hu:∀p w,R p w->p.1=k->R (p.1,d) (up w)){kvs:List (κ×β)}{ws:List ω}(h:Ay R kvs ws) :
 Ay R (Ci kvs k d) (if (ws.find? (λw=>key w=f k)).isSome then ws.map (λw=>if key w=f k then up w else w) else ws++[w₀]):=by
 have hm:∀{kvs:List (κ×β)} {ws:List ω},Ay R kvs ws->Ay R (kvs.map λp=>if p.1=k then(p.1,d) else p) (ws.map λw=>if key w=f k then up w else w):=by
  intro kvs
  induction kvs with
  |nil=>intro ws h;rw[h.nil];exact trivial
  |cons p kvs ih =>
   intro ws h;refine Br h.cons λw ws q_2 h1 h2=>?_;subst q_2;refine⟨?_,ih h2⟩;dsimp only;rw[<-hR p w h1];by_cases e:p.1=k
   ·exact(if_pos e)▸(if_pos (congrArg f e))▸hu p w h1 e
   ·exact(if_neg e)▸(if_neg λq=>e (hf _ _ q))▸h1
 unfold Ci;rw[Oj];rcases JP hf hR k h with⟨e1,e2⟩|⟨p,w,e1,e2,_⟩
 ·exact e1▸e2▸h.append ⟨h0,trivial⟩
 ·exact e1▸e2▸hm h
end
section
variable{g:G}{s:Shared}{k:Nat}{a:Addr}{kvs:List (Str×PyData)}{kvp:List ((Str×Int)×PyData)}{q:Str×Int}
theorem At.notMods(A:At 0 r g U s)(hk:g.mu[k]? = aj a):(a==sysModules)=false:=by exact oE A.ok.ok.mods λo ho=>beq_eq_false_iff_ne.mpr λe=>Aj (A.has.ap a (AA5 hk)) (e▸A.has.base _ _ ho)
noncomputable abbrev mS(fz:Addr->Option Obj)(d:Str×PyData)(v:Str×Value):Prop:=d.1=v.1/\AI fz d.2 v.2
noncomputable abbrev cO(fz:Addr->Option Obj)(d:(Str×Int)×PyData)(v:List (Str⊕Int)×Addr×Value):Prop:=HP d.1=v.1/\AI fz (.tuple [.str d.1.1,.int d.1.2]) (.ref v.2.1)/\AI fz d.2 v.2.2
theorem N0(k k':Str×Int)(h:HP k=HP k'):k=k':=by have h1:=List.cons.inj h;exact Prod.ext (Sum.inl.inj h1.1) (Sum.inr.inj (List.cons.inj h1.2).1)
theorem Has.dictS{T:Top}(H:Has T g U s)(hk:g.mu[k]? = aj a)(hσ:U[k]? = aj (.dictS kvs)){R_:Prop}(kk:∀ws,s.heap.DictOf (strKind T.prog T.w) a ws->Ay (mS g.fz) kvs ws->R_):R_ :=
 H.ob k a _ hk hσ R_ λx hx r=>r R_ λes ep ws ho hd hk' hp hn hr hl=>kk ws ⟨x,es,ep,hx,ho,hd,hk',hp,hn⟩ hr
theorem Fr(H:Has T g U s)(r:AI g.fz (.tuple [.str q.1,.int q.2]) (.ref b)):IsTupleKey (Dt T.prog T.w) s.heap (HP q) b:=by refine r (λx=>x=.ref b->IsTupleKey (Dt T.prog T.w) s.heap (HP q) b) (λa o vs m hf hc hd hr _ e=>?_) rfl;obtain rfl:a=b:=ABR e;refine⟨o,vs,m,H.fz _ _ hf,hc,hd,?_⟩;refine Br hr.all.two λx y e q_3 q_4=>?_;obtain⟨t,rfl,_⟩:=q_3;obtain⟨t',rfl⟩:=q_4;exact e▸.cons (strKind_is T.prog T.w q.1 t) (.cons (show Value.isInt q.2 (.int q.2 t')=true by simp[Value.isInt]) .nil)
theorem Has.dictP{T:Top}(H:Has T g U s)(hk:g.mu[k]? = aj a)(hσ:U[k]? = aj (.dictP kvp)){R_:Prop}(kk:∀ws,s.heap.DictOfH (tupleKind (Dt T.prog T.w)) a ws->Ay (cO g.fz) kvp ws->R_):R_ :=
 H.ob k a _ hk hσ R_ λx hx r=>r R_ λes ep ws ho hd he hn hr hl=>kk ws ⟨x,es,ep,hx,ho,hd,he,(by
  have key:∀{kvp:List ((Str×Int)×PyData)} {ws:List (List (Str⊕Int)×Addr×Value)},Ay (cO g.fz) kvp ws->∀x∈ws,IsTupleKey (Dt T.prog T.w) s.heap x.1 x.2.1:=by
   intro kvp
   induction kvp with
   |nil=>intro ws h x hx;rw[h.nil] at hx;exact nomatch hx
   |cons p kvp ih =>
    intro ws h x hx;refine Br h.cons λw ws q_2 h1 h2=>?_;subst q_2;exact(AAR.mp hx).elim (λe=>by rw[e,<-h1.1];exact Fr H h1.2.1) (ih h2 x)
  exact key hr),hn⟩ hr
theorem JF(h:Ay (mS fz) kvs ws)(z:Str):(Aq kvs z=au/\valueAt ws z=au)\/∃d v,Aq kvs z=aj d/\valueAt ws z=aj v/\AI fz d v:=by
 rcases JP (λ_ _ h=>h) (λ_ _ h=>h.1) z h with⟨e1,e2⟩|⟨p,w,e1,e2,r⟩
 ·exact .inl ⟨congrArg (Option.map _) e1,congrArg (Option.map _) e2⟩
 ·exact .inr (Hk p.2 w.2 (congrArg (Option.map _) e1) (congrArg (Option.map _) e2) r.2)
theorem JG(h:Ay (cO fz) kvp ws)(q:Str×Int):(Aq kvp q=au/\atKey ws (HP q)=au)\/∃d v,Aq kvp q=aj d/\atKey ws (HP q)=aj v/\AI fz d v.2:=by
 rcases JP N0 (λ_ _ h=>h.1) q h with⟨e1,e2⟩|⟨p,w,e1,e2,r⟩
 ·exact .inl ⟨congrArg (Option.map _) e1,congrArg (Option.map _) e2⟩
 ·exact .inr (Hk p.2 w.2 (congrArg (Option.map _) e1) (congrArg (Option.map _) e2) r.2.2)
theorem eK(hσ:U[k]? = aj (.dictS kvs)):Pr2 (compareOp .In) (.d (.str z)) (.ref k) U (vb (Aq kvs z).isSome) U/\Pr2 (compareOp .NotIn) (.d (.str z)) (.ref k) U (vb !(Aq kvs z).isSome) U:=by
 have key:∀{op:CmpOp} {f:Bool->Bool},(∀(r:Ar) (s:Shared) (a:Addr) (t:Tok) (ws:List (Str×Value)) (Q:Value->Shared->Prop),(a==sysModules)=false->s.heap.DictOf (strKind r.T.prog r.T.w) a ws->(∀tk,Q (.bool (f (valueAt ws z).isSome)) {s with toks:=tk})->wpAny (model r.T.prog r.T.w) r.A (compareOp op (.str z t) (.ref a)) Q (λ_ _=>False) s)->Pr2 (compareOp op) (.d (.str z)) (.ref k) U (vb (f (Aq kvs z).isSome)) U:=λh r g s X Y A hx hy=>by refine oEA hx λt q_1 _=>?_;subst q_1;refine oEA hy λa hk q_2=>?_;subst q_2;refine A.has.dictS hk hσ λws hD hr=>h r s a t ws _ (A.notMods hk) hD λtk=>.refl A.has.tok ?_;rcases JF hr z with⟨e1,e2⟩|⟨d,v,e1,e2,_⟩<;>rw[e1,e2]<;>rfl
 exact⟨key (f:=id) λr s a t ws Q hm hD h=>wpAny_in_of (strKind_is _ _ z t) hm hD.mapOf (h _),key λr s a t ws Q hm hD h=>wpAny_notIn_of (strKind_is _ _ z t) hm hD.mapOf (h _)⟩
noncomputable abbrev vp(q:Str×Int):V:=.d (.tuple [.str q.1,.int q.2])
theorem IC(h:Au T g (vp q) X){R_:Value->Prop}(k:∀b,AI g.fz (.tuple [.str q.1,.int q.2]) (.ref b)->R_ (.ref b)):R_ X :=
 h (λX=>Au T g (vp q) X->R_ X) (λa _ _ _ _ _ _ _ _ h=>k a h) h
theorem eM(hσ:U[k]? = aj (.dictP kvp)):Pr2 (compareOp .In) (vp q) (.ref k) U (vb (Aq kvp q).isSome) U/\Pr2 (compareOp .NotIn) (vp q) (.ref k) U (vb !(Aq kvp q).isSome) U:=by
 have key:∀{op:CmpOp} {f:Bool->Bool},(∀(r:Ar) (s:Shared) (a b:Addr) (ws:List (List (Str⊕Int)×Addr×Value)) (Q:Value->Shared->Prop),r.A.in1.units<cLine->(a==sysModules)=false->s.heap.DictOfH (tupleKind (Dt r.T.prog r.T.w)) a ws->IsTupleKey (Dt r.T.prog r.T.w) s.heap (HP q) b->(∀tk,Q (.bool (f (atKey ws (HP q)).isSome)) {s with toks:=tk})->wpAny (model r.T.prog r.T.w) r.A (compareOp op (.ref b) (.ref a)) Q (λ_ _=>False) s)->Pr2 (compareOp op) (vp q) (.ref k) U (vb (f (Aq kvp q).isSome)) U:=λh r g s X Y A hx hy=>by refine oEA hy λa hk q_2=>?_;subst q_2;refine IC hx (R_:=λX=>r.wp (compareOp _ X (.ref a)) (Ans r g _ U) s) λb hb=>A.has.dictP hk hσ λws hD hr=>h r s a b ws _ (AAS (AA9 _ 40) A.room) (A.notMods hk) hD (Fr A.has hb) λtk=>.refl A.has.tok ?_;rcases JG hr q with⟨e1,e2⟩|⟨d,v,e1,e2,_⟩<;>rw[e1,e2]<;>rfl
 exact⟨key (f:=id) λr s a b ws Q hu hm hD hb h=>wpAny_in_heap hu hb hm hD (h _),key λr s a b ws Q hu hm hD hb h=>PyProof.Rows.wpAny_notIn_heap hu hb hm hD (h _)⟩
theorem Gi(A:At 0 r g U s)(hk:g.mu[k]? = aj a)(hσ:U[k]? = aj ob)(h:∀vs,ob≠.list vs):s.TypeIs (.ref a) "dict" :=
 A.has.ob k a _ hk hσ _ λx hx rx=>by
  cases ob with
  |list vs=>exact absurd rfl (h vs)
  |dictS _=>exact rx _ λ_ _ _ ho _ _ _ _ _ _=>⟨x,hx,ho.1⟩
  |dictP _=>exact rx _ λ_ _ _ ho _ _ _ _ _=>⟨x,hx,ho.1⟩
theorem Xn(hσ:U[k]? = aj (.dictS kvs))(hd:Aq kvs z=aj d):PrG (.ref k) (.d (.str z)) U (.d d):=λr g s X Y A hx hy R_ kk=>by
 refine oEA hx λa hk q_2=>?_;subst q_2;refine oEA hy λt q_1 _=>?_;subst q_1;refine kk "dict" _ (Gi A hk hσ λ_ q=>nomatch q) slot_dict_getitem.lookup (A.has.dictS hk hσ λws hD hr=>?_);rcases JF hr z with⟨e1,_⟩|⟨d',v,e1,e2,rv⟩
 ·exact Aj e1 hd
 ·exact(Ao hd e1)▸wpAny_getItem_of (strKind_is _ _ z t) hD.mapOf e2 (.refl A.has.tok rv)
theorem Xo(hσ:U[k]? = aj (.dictP kvp))(hd:Aq kvp q=aj d):PrG (.ref k) (vp q) U (.d d):=λr g s X Y A hx hy R_ kk=>by
 refine oEA hx λa hk q_2=>?_;subst q_2;refine kk "dict" _ (Gi A hk hσ λ_ q=>nomatch q) slot_dict_getitem.lookup (IC hy (R_:=λY=>r.wp (getItem (.ref a) Y) (Ans r g (.d d) U) s) λb hb=>A.has.dictP hk hσ λws hD hr=>?_);rcases JG hr q with⟨e1,_⟩|⟨d',v,e1,e2,rv⟩
 ·exact Aj e1 hd
 ·exact(Ao hd e1)▸wpAny_getItem_heap (AAS (AA9 _ 40) A.room) (Fr A.has hb) hD e2 (.refl A.has.tok rv)
end
noncomputable abbrev WS(xs:Array Value)(m:Nat):Obj:={cls:=.type "list",dict:=au,data:=.seq xs m,slots:=#[]}
noncomputable abbrev Cv:V:=.d .none
section
variable{T:Top}{r:Ar}{g:G}{U:Ac}{s:Shared}{a:E}{v:V}{ws:List V}{ds:List PyData}{k:Nat}{l:Addr}
theorem Has.lst(H:Has T g U s)(hk:g.mu[k]? = aj l)(hσ:U[k]? = aj (.list ws)){R_:Prop}(kk:∀xs m,s.heap.get? l=aj (WS xs m)->As T g ws xs.toList->ws.length=xs.size->ws.length<=line->R_):R_ :=
 H.ob k l _ hk hσ R_ λo ho ro=>ro (λo=>s.heap.get? l=aj o->R_) (λxs m hr hl ho=>kk xs m ho hr hr.length hl) ho
theorem Has.relst(H:Has T g U s)(hk:g.mu[k]? = aj l)(hs:∀b x,b≠l->s.heap.get? b=aj x->s'.heap.get? b=aj x)(ho:s'.heap.get? l=aj (WS xs m))(hr:As T g us xs.toList)(hl:us.length<=line)(hg:s'.gens=s.gens:=by rfl)(hos:s'.os=s.os:=by rfl):Has T g (U.set k (.list us)) s' :=
 H.turn (ob:=.list us) hk hs ho (λR_ kk=>kk xs m hr hl) hg hos
theorem Zu{h:Heap}:∀b x,b≠l->h.get? b=aj x->(h.update l f).get? b=aj x:=λb x hb e=>(ABD _ _ (Ne.symm hb)).trans e
theorem Has.upd{xs:Array Value}{m:Nat}{f:Array Value->Array Value}{tk:Nat}(H:Has T g U s)(hk:g.mu[k]? = aj l)(ho:s.heap.get? l=aj (WS xs m))(hr:As T g us (f xs).toList)(hl:us.length<=line):Has T g (U.set k (.list us)) {s with heap:=s.heap.update l (Obj.mapSeq f),toks:=tk} :=
 H.relst hk Zu (ACK _ ho rfl) hr hl
def PrM(id:String)(k:Nat)(ws us:List V)(U:Ac)(v:V)(U':Ac):Prop :=
 ∀(r:Ar) (g:G) (s:Shared) (l:Addr) (xs:Array Value) (m:Nat) (Ys:List Value),At 0 r g U s->g.mu[k]? = aj l->s.heap.get? l=aj (WS xs m)->As r.T g ws xs.toList->ws.length=xs.size->ws.length<=line->As r.T g us Ys->r.wp (call (.builtin id) (.ref l::Ys)) (Ans r g v U') s
theorem Nn(hl:ws.length<line):PrM "list.append" k ws [x] U Cv (U.set k (.list (ws++[x]))):=λr g s l xs m Ys A hk ho hr hn _ hy=>by refine oEA hy.one λY q_1 ry=>?_;subst q_1;refine wpAny_list_append_plain ⟨m,ho⟩ (λh' hp hs=>?_) (hn▸Bd▸ACF hl);exact oE hp λm' ho'=>.refl (A.has.relst hk (λb x hb e=>(hs.2 b hb).trans e) ho' (by rw[Array.toList_push];exact hr.append ⟨ry,trivial⟩) (AAF▸Nat.succ_le_of_lt hl)) rfl
theorem WK:PrM "list.clear" k ws [] U Cv (U.set k (.list [])):=λr g s l xs m Ys A hk ho hr hn hl hy=>by exact hy.nil▸call_meets F.slot_list_clear ⟨_,ho,rfl⟩ F.entry_list_clear (F.args_list_clear_1 _) (AutoSeq1.list_clear_list_0 l xs m (hn▸Bd▸hl)) ⟨ho,.refl (A.has.upd (us:=[]) hk ho trivial (ABF _)) rfl⟩
theorem WE{i:Int}(h0:0<=i)(h:i.toNat<=line):Builtin.List.listFitsIndex i=true:=by simp[Builtin.List.listFitsIndex];exact iL h0 (F5 h) rfl
theorem TL(h0:0<=i)(hi:i.toNat<=ws.length)(hl:ws.length<line):PrM "list.insert" k ws [vi i,x] U Cv (U.set k (.list (ws.take i.toNat++x::ws.drop i.toNat))):=λr g s l xs m Ys A hk ho hr hn _ hy=>by
 refine Br hy.two λZ Y q_2 q_3 ry=>?_;subst q_2;obtain⟨t,rfl⟩:=q_3;refine call_meets F.slot_list_insert ⟨_,ho,rfl⟩ F.entry_list_insert (F.args_list_insert_3 _ _ _) (AutoSeq1.list_insert_list_int_val_1 l xs m i t Y (by rw[WE h0 (AAC hi (ACF hl))];decide) (hn▸Bd▸ACF hl)) ⟨ho,.refl (A.has.upd hk ho ?_ ?_) rfl⟩
 ·have e:(if i<0 then(i+(xs.size:Int)).toNat else min i.toNat xs.size)=i.toNat:=by exact(if_neg (Int.not_lt.mpr h0))▸ACL (hn▸hi)
  show As r.T g _ ((xs.extract 0 (if i<0 then(i+(xs.size:Int)).toNat else min i.toNat xs.size)).push Y++xs.extract (if i<0 then(i+(xs.size:Int)).toNat else min i.toNat xs.size)).toList;rw[e];have e2:((xs.extract 0 i.toNat).push Y++xs.extract i.toNat).toList=xs.toList.take i.toNat++Y::xs.toList.drop i.toNat:=by simp;exact List.take_of_length_le (by simp)
  exact e2▸(hr.take _).append ⟨ry,hr.drop _⟩
 ·rw[AAF,AA2,ACP,ADE,ACL hi,<-ADG,Nat.add_sub_cancel' hi];exact Nat.succ_le_of_lt hl
theorem Ay.erase{α β:Type}{R:α->β->Prop}{as:List α}{bs:List β}(h:Ay R as bs)(j:Nat):Ay R (as.eraseIdx j) (bs.eraseIdx j):=by rw[List.eraseIdx_eq_take_drop_succ,List.eraseIdx_eq_take_drop_succ];exact(h.take j).append (h.drop (j+1))
theorem eZ(hv:ws[ws.length-1]? = aj v):PrM "list.pop" k ws [] U v (U.set k (.list (ws.eraseIdx (ws.length-1)))):=λr g s l xs m Ys A hk ho hr hn hl hy=>by
 rw[hy.nil];refine oEA (hr.get hv) λY hY ry=>call_meets F.slot_list_pop ⟨_,ho,rfl⟩ F.entry_list_pop (F.args_list_pop_1 _) (MeetsSeq.list_pop_last l xs m Y (hn▸ABJ.symm.trans hY) (hn▸Bd▸hl)) ⟨ho,.refl (A.has.upd hk ho ?_ ?_) ry⟩
 ·rw[hn,show(xs.eraseIdxIfInBounds (xs.size-1)).toList=xs.toList.eraseIdx (xs.size-1) by simp];exact hr.erase _
 ·exact AAC (List.length_eraseIdx_le _ _) hl
noncomputable def Jy(x:PyData):List PyData->Option Nat
 |[]=>au
 |y::r=>(eqN AK y x).bind λb=>bif b then aj 0 else(Jy x r).bind λj=>aj (j+1)
theorem bJ:∀{xs:List Value} {j:Nat},Ay (AI h.get?) ds xs->Jy d ds=aj j->∃(hj:j<xs.length),FF h d xs[j]=true/\∀(m:Nat) (hm:m<xs.length),m<j->FF h d xs[m]=false:=by
 induction ds with
 |nil=>exactλ_ h=>Aa h
 |cons z ds ih =>
  intro xs j hr e0;refine Br hr.cons λx xs q_2 h1 h2=>?_;subst q_2;refine oEA (ac e0) λb e e0=>?_;have h0:=QK h1 e;cases b with
  |true =>
   obtain rfl:0=j:=AAA e0;exact⟨ACZ _,h0,λm _ hm=>absurd hm (Nat.not_lt_zero m)⟩
  |false =>
   refine oEA (ac e0) λj' e2 e3=>?_;obtain rfl:j'+1=j:=AAA e3;obtain⟨q1,q2,q3⟩:=ih h2 e2;refine⟨Nat.succ_lt_succ q1,q2,λm hm hj=>?_⟩;cases m with
   |zero=>exact h0
   |succ m=>exact q3 m (Nat.lt_of_succ_lt_succ hm) (Nat.lt_of_succ_lt_succ hj)
theorem Uz{xs:Array Value}(A:At 0 r g U s)(hr:As r.T g (ds.map .d) xs.toList)(hy:AI g.fz d Y)(h1:inD d ds=aj q)(h2:Jy d ds=aj j){R_:Prop}
 (kk:∀(hj:j<xs.size),(∀z,z∈xs->EqAt r.A.in1 s z Y (FF s.heap d z))->FF s.heap d xs[j]=true->(∀m (hm:m<xs.size),m<j->FF s.heap d xs[m]=false)->R_):R_:=by
 have hd:=(dL hr).mono λ_ _=>AI.mono A.has.fz _ _;refine oA (OW (A:=r.A.in1) A.room (AI.mono A.has.fz _ _ hy) hd h1) λh4 _=>?_;obtain⟨q1,q2,q3⟩:=bJ hd h2;exact kk q1 (λz hz=>h4 z (Array.mem_toList_iff.mpr hz)) q2 λm hm hj=>q3 m hm hj
theorem WJ(h1:inD d ds=aj q)(h2:Jy d ds=aj j):PrM "list.index" k (ds.map .d) [.d d] U (vi j) U:=λr g s l xs m Ys A hk ho hr hn hl hy=>by refine oEA hy.one λY q_1 ry=>?_;subst q_1;refine Uz A hr ry h1 h2 λhj hz q1 q2=>?_;have hj':(j:Int)<2 ^ 63-1:=ADQ (Int.ofNat_lt.mpr (ACA hj (hn▸hl))) (by decide);exact call_meets F.slot_list_index ⟨_,ho,rfl⟩ F.entry_list_index (F.args_list_index_2 _ _) (list_indexAt l xs m au #[] Y (FF s.heap d) j hj hj' q1 q2) ⟨ho,hz,.refl A.has.tok ⟨_,rfl⟩⟩
end
theorem Pj(l:Addr)(items:Array Value)(n:Nat)(b:Addr)(items2:Array Value)(n2:Nat)(dd:Option Addr)(sl:Array (Option Value))(hs0:¬(!items.isEmpty&&Builtin.List.listTooLong (items.size+items2.size))=true)(hs1:items.size<=sizeLine)(hs2:(items++items2).size<=sizeLine+1) :
 Meets (Builtin.«list.extend» ⟨[.ref l,.ref b],[]⟩) (λ_ R s=>s.heap.get? l=aj {cls:=.type "list",dict:=au,data:=.seq items n,slots:=#[]}/\s.heap.get? b=aj {cls:=.type "list",dict:=dd,data:=.seq items2 n2,slots:=sl}/\R (.ok (.ret Value.none)) {s with heap:=s.heap.update l (Obj.mapSeq λx=>x++items2),toks:=s.toks}) :=
 .of_wp λprog w A R s h=>by
  obtain⟨hp,g,d,tk,os⟩:=s;refine oAA h λhl hb h=>?_;have f1:=AutoSeq1.sub_list_list
  wp_walk using (wpAny_updateSeq hl rfl (_hz':=hs2)),AutoSeq1.wpAny_loadPart' hl,AutoSeq1.wpAny_loadPart' hb
  exact iEA _ rfl h
open MeetsSeq in
theorem Ky(l:Addr)(items:Array Value)(n:Nat)(x:Value)(e:Value->Bool)(j:Nat)(hj:j<items.size)(hit:e items[j]=true)(hs1:items.size<=sizeLine)(k:Nat) :
 ∀i:Nat,j-i=k->i<=j->(∀m (hm:m<items.size),i<=m->m<j->e items[m]=false)->Meets (Builtin.«list.remove.loop» ⟨[.ref l,x,rawInt i],[]⟩)
  (λA R s=>s.heap.get? l=aj {cls:=.type "list",dict:=au,data:=.seq items n,slots:=#[]}/\(∀y,y∈items->EqAt A.in1 s y x (e y))/\R (.ok (.ret .none)) {s with heap:=s.heap.update l (Obj.mapSeq λxs=>xs.eraseIdxIfInBounds j)}):=by
 induction k with
 |zero =>
  intro i hk hij hno prog w A R s h;obtain⟨hp,g,d,tk,os⟩:=s;refine oAA h λhl he h=>?_;have hij':=ADK hij (Nat.le_of_sub_eq_zero hk);subst hij'
  wp_walk using AutoSeq1.wpAny_loadPart' hl
  have hi:items[((i:Nat):Int).toNat]? = aj items[i]:=by simp[hj]
  rw[hi];refine AAD (he _ (Array.getElem_mem hj) prog w _ _ ?_);rw[hit];have hz':(items.eraseIdxIfInBounds i).size<=sizeLine+1:=AAC (size_erased items _) (AB3 hs1)
  wp_walk using (wpAny_updateSeq hl rfl (_hz':=hz')),AutoSeq1.wpAny_loadPart' hl
  exact h
 |succ k ih =>
  intro i hk hij hno prog w A R s h;obtain⟨hp,g,d,tk,os⟩:=s;refine oAA h λhl he h=>?_;have hlt:=by exact AAS ‹_› ‹_›
  wp_walk using AutoSeq1.wpAny_loadPart' hl
  have hi:items[((i:Nat):Int).toNat]? = aj items[i]:=by simp[hlt]
  have hc:((i:Int)+1)=((i+1:Nat):Int):=by push_cast;rfl
  rw[hi];refine AAD (he _ (Array.getElem_mem hlt) prog w _ _ ?_);rw[hno i hlt (AAL _) (V3 hk)]
  wp_walk
  rw[hc];exact⟨plainId_quiet plain_remove_loop _,codeAny_builtin entry_remove_loop (by rw[Around.under_plainId plain_remove_loop _];exact ih (i+1) (V4 hk) (V3 hk) (λm hm h1 h2=>hno m hm (ACF ‹_›) h2) prog w A R _ ⟨hl,he,h⟩)⟩
open MeetsSeq in
theorem K6(l:Addr)(items:Array Value)(n:Nat)(x:Value)(e:Value->Bool)(j:Nat)(hj:j<items.size)(hit:e items[j]=true)(hno:∀m (hm:m<items.size),m<j->e items[m]=false)(hs1:items.size<=sizeLine) :
 Meets (Builtin.«list.remove» ⟨[.ref l,x],[]⟩)
  (λA R s=>s.heap.get? l=aj {cls:=.type "list",dict:=au,data:=.seq items n,slots:=#[]}/\(∀y,y∈items->EqAt A.in1 s y x (e y))/\R (.ok (.ret .none)) {s with heap:=s.heap.update l (Obj.mapSeq λxs=>xs.eraseIdxIfInBounds j)}):=by
 intro prog w A R s h;obtain⟨hp,g,d,tk,os⟩:=s;refine oAA h λhl he h=>?_
 wp_walk using AutoSeq1.wpAny_loadPart' hl
 exact⟨plainId_quiet plain_remove_loop _,codeAny_builtin entry_remove_loop (by rw[Around.under_plainId plain_remove_loop _];exact Ky l items n x e j hj hit hs1 _ 0 rfl (ABF _) (λm hm _ h2=>hno m hm h2) prog w A R _ ⟨hl,he,h⟩)⟩
section
variable{r:Ar}{c:Cx}{s:Shared}{ws us:List V}
theorem TK(h1:inD d ds=aj q)(h2:Jy d ds=aj j):PrM "list.remove" k (ds.map .d) [.d d] U Cv (U.set k (.list ((ds.map .d).eraseIdx j))):=λr g s l xs m Ys A hk ho hr hn hl hy=>by
 refine oEA hy.one λY q_1 ry=>?_;subst q_1;refine Uz A hr ry h1 h2 λhj hz q1 q2=>call_meets F.slot_list_remove ⟨_,ho,rfl⟩ F.entry_list_remove (F.args_list_remove_2 _ _) (K6 l xs m Y (FF s.heap d) j hj q1 q2 (hn▸Bd▸hl)) ⟨ho,hz,.refl (A.has.upd hk ho ?_ ?_) rfl⟩
 ·exact(show(xs.eraseIdxIfInBounds j).toList=xs.toList.eraseIdx j by simp)▸hr.erase _
 ·exact AAC (List.length_eraseIdx_le _ _) hl
theorem TM(h:A8 U x=aj us)(hl:ws.length+us.length<=line):PrM "list.extend" k ws [x] U Cv (U.set k (.list (ws++us))):=λr g s l xs m Ys A hk ho hr hn hlw hy=>by
 refine oEA hy.one λY q_1 ry=>?_;subst q_1;refine AX A.has ry h (R_:=λY=>r.wp (call (.builtin "list.extend") [.ref l,Y]) (Ans r g Cv (U.set k (.list (ws++us)))) s) λb zs hL hz hzn _=>RD (Jp hL) λn2 d2 s2 ho2=>?_;have hz2:xs.size+zs.size<=sizeLine:=by rw[<-hn,<-hzn,<-Bd];exact hl
 refine call_meets F.slot_list_extend ⟨_,ho,rfl⟩ F.entry_list_extend (F.args_list_extend_2 _ _) (Pj l xs m b zs n2 d2 s2 ?_ (AAC (AA9 _ _) hz2) (Array.size_append▸AB3 hz2)) ⟨ho,ho2,.refl (A.has.upd hk ho ?_ ?_) rfl⟩
 ·rw[show Builtin.List.listTooLong (xs.size+zs.size)=false from AAT (AB4.mpr hz2),AC9];exact ABB
 ·rw[Array.toList_append];exact hr.append hz
 ·exact AAF▸hl
def EZ(e:E):Prop:=∀{K:Kx} {ex:Expr},IsE e K ex->∀nm env w,attributeBase ex nm env w=w
theorem Ai:EZ (.var i):=λh nm env w=>h (λex=>attributeBase ex nm env w=w) λ_ _ _=>rfl
theorem Sy:EZ (.cst d):=λh nm env w=>h (λex=>attributeBase ex nm env w=w) λ_ _ _=>rfl
theorem Sx:EZ (.sub a b):=λh nm env w=>h (λex=>attributeBase ex nm env w=w) λ_ _ _ _ _=>rfl
theorem Kh:EZ (.attr z a):=λh nm env w=>h (λex=>attributeBase ex nm env w=w) λ_ _ _=>rfl
theorem SE.meth{m:S0}{Ty id:String}(hb0:EZ a)(pa:PlainAttrs Ty)(slot:Slot Ty (ACC (Fw m)) id)(ty:typeOf (.builtin id)=pure (.type "method_descriptor"))(ha:SE n a J U x af)(hb:SEs n b J af ws U2)
 (hT:∀(r:Ar) (g:G) (s:Shared) (X:Value),At 0 r g af s->Au r.T g x X->s.TypeIs X Ty/\∀l,X=.ref l->∃o,s.heap.get? l=aj o/\o.dict=au)
 (h:∀(r:Ar) (g:G) (s:Shared) (X:Value) (Ys:List Value),At 0 r g U2 s->Au r.T g x X->As r.T g ws Ys->r.wp (call (.builtin id) (X::Ys)) (Ans r g v U3) s):SE n (.meth m a b) J U v U3:=by
 refineλc g s ex hc I=>hc (λex=>c.wp (eval ex c.env) (Ans c.toAr g v U3) s) λz ap vs p h1 h2 h3 h4=>wpAny_Call_method_lateS (hb0 h1 _ _ _) ?_ (AAI h3) (AAO (ha c g s z h1 I) (λX ag aH=>aH _ λai aq ao al=>?_) λ_ _ h=>h)
 ·have e:=CH p c.env h2;rw[List.any_eq_false] at e;exact(ACS _ _).mpr ⟨(ACS _ _).mpr ⟨ACH.mpr λx hx=>by simpa using e x hx,rfl⟩,AAI (ABT h4 (by decide))⟩
 ·have I1:=I.step aq ao;have t:=hT c.toAr ai ag X I1.at0 al;exact⟨Ty,id,pa,slot,ty,t.1,t.2,callWith_builtin (CH _ _ h2) (CL h2 (AAO (hb c ai ag vs p h2 I1) (λYs ak aI=>aI _ λam le2 av ar=>BQ (aq.trans le2) (h c.toAr am ak X Ys (I1.step le2 av).at0 (Au.mono le2.toup _ _ al) ar)) λ_ _ h=>h))⟩
theorem SE.lmeth{m:S0}{id:String}(hb0:EZ a)(slot:Slot "list" (ACC (Fw m)) id)(ty:typeOf (.builtin id)=pure (.type "method_descriptor"))(ha:SE n a J U (.ref k) af)(hb:SEs n b J af us U2)(h0:af[k]? = aj (.list ws))(h1:U2[k]? = aj (.list ws))(h:PrM id k ws us U2 v U3):SE n (.meth m a b) J U v U3:=by
 refine SE.meth hb0 F.plainAttrs_list slot ty ha hb (λr g s X A hx=>?_) λr g s X Ys A hx hy=>?_
 ·refine oEA hx λl hk q_2=>?_;subst q_2;exact A.has.lst hk h0 λxs m ho _ _ _=>⟨⟨_,ho,rfl⟩,λl' q=>ABR q▸(iEA _ ho rfl)⟩
 ·refine oEA hx λl hk q_2=>?_;subst q_2;exact A.has.lst hk h1 λxs m ho hr hn hl=>h r g s l xs m Ys A hk ho hr hn hl hy
theorem O7(h:PyProof.Rows.StrsAre zs ss):∃l':List (Str×Tok),strValues l'=zs/\l'.map (·.1)=ss:=by
 induction h with
 |nil=>exact iEA [] rfl rfl
 |cons y t _ ih=>refine oEA ih λl q1 q2=>?_;exact iEA ((y,t)::l) (q1▸rfl) (q2▸rfl)
theorem SE.join(hb0:EZ a)(hs:A8 U2 y=aj (vss ss))(hj:JoinOk z ss=true)(ha:SE n a J U (.d (.str z)) af)(hb:SEs n b J af [y] U2):SE n (.meth .join a b) J U (.d (.str (Txt.join z ss))) U2:=by
 refine SE.meth hb0 F.plainAttrs_str F.slot_str_join F.type_str_join ha hb (λr g s X A hx=>?_) λr g s X Ys A hx hy=>?_
 ·refine oEA hx λt q_1 _=>?_;subst q_1;exact⟨typeIs_str _ _ _,λ_ q=>nomatch q⟩
 ·refine oEA hx λt q_1 _=>?_;subst q_1;refine oEA hy.one λY q_1 ry=>?_;subst q_1;exact AX A.has ry hs (R_:=λY=>r.wp (call (.builtin "str.join") [.str z t,Y]) (Ans r g (.d (.str (Txt.join z ss))) U2) s) λl xs hL hr _ _=>oEA (O7 (IR hr).1) λl' hl1 hl2=>SC.join (by rw[hl1];simpa using hL) hl2 hj λt' k=>.refl A.has.tok ⟨t',rfl,by rw[Bd];exact joinOk_length hj⟩
end
end Mine.Internal
namespace Mine.Internal
open PySem PySem.Calls
noncomputable def Fp:Al->List Nat->List V->Al
 |J,i::is,v::vs=>Fp (J.set i (aj v)) is vs
 |J,_,_=>J
section
variable{n:Nat}{c:Cx}{J:Al}{g:G}{s:Shared}{i:Nat}{Er:Value->Shared->Prop}{e a b:E}{Q:Fl->Ac->Prop}
theorem Vq{env:Env}{K:Kx}(h:env.scope.names=K.names)(hc:K.canWr i nm=true):K.vars[i]? = aj nm/\nm∈K.wr/\(env.kindOf nm=aj .local\/env.kindOf nm=aj .cell):=by have h1:=AAH.mp hc;have h2:=AAH.mp h1.1;rw[AL h];exact⟨AAG h2.1,List.contains_iff_mem.mp h2.2,(ABC.mp h1.2).imp Kx.kd_eq Kx.kd_eq⟩
theorem IM(h:(J.set i (aj w))[j]? = aj (aj v)):(j=i/\w=v)\/(j≠i/\J[j]? = aj (aj v)):=by
 by_cases q:i=j
 ·subst q;by_cases hl:i<J.length
  ·rw[AB1 hl] at h;exact .inl ⟨rfl,AAA (AAA h)⟩
  ·rw[List.getElem?_eq_none (by rw[AB0];exact ACI hl)] at h;exact Aa h
 ·rw[ADJ q] at h;exact .inr ⟨λe=>q e.symm,h⟩
theorem HI{vars:List Str}(hn:vars.Nodup){i j:Nat}{n:Str}(h1:vars[i]? = aj n)(h2:vars[j]? = aj n):i=j:=by obtain⟨a,ha⟩:=AAM.mp h1;obtain⟨b,hb⟩:=AAM.mp h2;exact(List.getElem_inj hn).mp (ha.trans hb.symm)
theorem Jf{f:Addr->Option Obj}{a b:Addr}{m:Str->Option Value}{u:Option Value}(hn:NsF f a m)(hc:Gy f b u):b≠a:=by refine Cr hn λo es ep ho hd _=>oEA hc λo' ho' hd'=>?_;intro q;rw[q,ho] at ho';rw[<-AAA ho',hd] at hd';exact nomatch hd'
theorem Gc{a b:Addr}{o:Obj}(h:g.hid a≠au):(g.hide b o).hid a≠au:=by
 show(if a=b then aj o else g.hid a)≠au;by_cases q:a=b
 ·rw[if_pos q];exactλq=>nomatch q
 ·exact(if_neg q)▸h
theorem Inv.store{A':Around}{Q:Unit->Shared->Prop}(I:Inv n c J g U s)(hc:c.K.canWr i nm=true)(r:Au c.T g v X)(h:∀g' s',G.le c.own g g'->G.up g g'->Inv n c (J.set i (aj v)) g' U s'->Q () s'):wpAny (model c.T.prog c.T.w) A' (storeName c.env nm X) Q Er s:=by
 refine oAA (Vq I.cx.names hc) λh1 h2 h3=>I.loc.ns _ λm hm hs=>?_;have oth:∀{j nm' w},c.K.vars[j]? = aj nm'->(J.set i (aj v))[j]? = aj (aj w)->(nm'=nm/\v=w)\/(nm'≠nm/\J[j]? = aj (aj w)):=λ{j nm' w} e1 e2=>(IM e2).imp (λq=>⟨Ao e1 (q.1▸h1),q.2⟩) λq=>⟨λq'=>q.1 (HI I.cx.nd e1 (q'▸h1)),q.2⟩
 rcases h3 with hk|hk
 ·refine wpAny_storeName_local hk (I.has.ns hm) (λh' hn hb=>?_) (I.cx.kind▸rfl);refine DC (id hm) λaP _ _ e0 _=>DC hn λo es ep ho hd=>?_;have up:G.up g (g.hide c.env.locals (frO o)):=⟨λ_ _ e=>e,λ_ _ e=>e⟩
  refine h (g.hide c.env.locals (frO o)) _ (.hide I.cx.oloc) up ⟨I.toAt.stepF up (I.frs.hideF rfl hd.1) (I.has.rehideH e0 (λb x q e=>(hb.2 b q).trans e) (.fr ho)),I.cx,λR_ k=>k (λx=>if x=nm then aj X else m x) ⟨frO o,es,ep,G.hide_self,hd⟩ λj nm' w e1 e2 e3=>?_,λnm' hk' R_ k=>I.loc.ce nm' hk' R_ λa u q1 q2 q3=>k a u q1 (q2.to λo' e=>(G.hide_ne (Jf hm q2)).trans e) λj w e1 e2=>?_,λa ha=>Gc (I.loc.ow a ha)⟩
  ·rcases oth e1 e2 with⟨q,q'⟩|⟨q,q'⟩
   ·exact(if_pos q)▸q'▸iEA X rfl (Au.mono up _ _ r)
   ·exact(if_neg q)▸C9 up (hs j nm' w e1 q' e3)
  ·rcases oth e1 e2 with⟨q,q'⟩|⟨q,q'⟩
   ·rw[q,hk] at hk';exact hk'.elim (λq=>nomatch q) λq=>nomatch q
   ·exact C9 up (q3 j w e1 q')
 ·refine I.loc.ce nm (.inl hk) _ λa u q1 q2 q3=>wpAny_storeName_cell I.cx.kind hk q1 (I.has.cell q2) λh' hn hb=>oEA (id q2) λaP e0 _=>oEA hn λo ho hd=>?_;have up:G.up g (g.hide a o):=⟨λ_ _ e=>e,λ_ _ e=>e⟩
  refine h (g.hide a o) _ (.hide (I.cx.ocell nm h2 a hk q1)) up ⟨I.toAt.stepF up (I.frs.hideC q2) (I.has.rehide e0 (λb x q e=>(hb.2 b q).trans e) ho),I.cx,λR_ k=>k m (hm.to λo' e=>(G.hide_ne (Jf hm q2).symm).trans e) λj nm' w e1 e2 e3=>?_,λnm' hk' R_ k=>?_,λa ha=>Gc (I.loc.ow a ha)⟩
  ·rcases oth e1 e2 with⟨q,q'⟩|⟨q,q'⟩
   ·rw[q,hk] at e3;exact nomatch e3
   ·exact C9 up (hs j nm' w e1 q' e3)
  ·by_cases q:nm'=nm
   ·refine k a (aj X) (q▸q1) ⟨o,G.hide_self,hd⟩ λj w e1 e2=>(oth e1 e2).elim (λp=>p.2▸(iEA X rfl (Au.mono up _ _ r))) λp=>absurd q p.1
   ·refine I.loc.ce nm' hk' R_ λa' u' p1 p2 p3=>k a' u' p1 (p2.to λo' e=>(G.hide_ne λ(q':a'=a)=>q (I.cx.cinj nm' nm a (q'▸p1) q1)).trans e) λj w e1 e2=>(oth e1 e2).elim (λp=>absurd p.1 q) λp=>C9 up (p3 j w e1 p.2)
theorem Inv.asgn{A':Around}{p:Pos}{Q:Unit->Shared->Prop}(I:Inv n c J g U s)(hc:c.K.canWr i nm=true)(r:Au c.T g v X)(h:∀g' s',G.le c.own g g'->G.up g g'->Inv n c (J.set i (aj v)) g' U s'->Q () s'):wpAny (model c.T.prog c.T.w) A' (assign (.Name nm p) c.env X) Q Er s:=by rw[arm_assign_Name];exact AAD (AA7 (wpAny_bindName (I.store hc r h)))
theorem Mx:∀{es:List Expr},Op c.K ts es->∀{vs:List V} {Xs:List Value} {J:Al} {g:G} {s:Shared} {Q:Unit->Shared->Prop},Inv n c J g U s->As c.T g vs Xs->vs.length=ts.length ->
 (∀g' s',G.le c.own g g'->Inv n c (Fp J ts vs) g' U s'->Q () s')->wpAny (model c.T.prog c.T.w) c.A (assignInOrder ((assignEach es c.env).map (·.2)) Xs) Q Er s:=by
 induction ts with
 |nil =>
  intro es hc vs Xs J g s Q I r hl h;obtain rfl:es=[]:=hc;obtain rfl:vs=[]:=List.length_eq_zero_iff.mp hl;exact r.nil▸AAY (h g s (.refl _ _) I)
 |cons t ts ih =>
  intro es hc vs Xs J g s Q I r hl h;cases vs with
  |nil=>exact Da hl rfl
  |cons v vs =>
   refine Br r.cons λX Xs q_2 r1 r2=>?_;subst q_2;exact hc (λes=>wpAny (model c.T.prog c.T.w) c.A (assignInOrder ((assignEach es c.env).map (·.2)) (X::Xs)) Q Er s) λnm p l h1 h2=>AAD (AA8 (I.asgn h1 r1 λai ag aq up I1=>ih h2 I1 (As.mono up r2) (Nat.succ.inj hl) λg' s' le' I'=>h g' s' (aq.trans le') I'))
theorem ZM{ts:List Nat}:∀{es:List Expr},Op c.K ts es->(assignEach es c.env).length=ts.length/\(assignEach es c.env).findIdx? (·.1)=au:=by
 induction ts with
 |nil=>intro es hc;rw[show es=[] from hc];exact⟨rfl,rfl⟩
 |cons t ts ih =>
  intro es hc;refine hc (λes=>(assignEach es c.env).length=ts.length+1/\(assignEach es c.env).findIdx? (·.1)=au) λnm p l h1 h2=>⟨congrArg (· + 1) (ih h2).1,?_⟩
  show((false,assign (.Name nm p) c.env)::assignEach l c.env).findIdx? (·.1)=au;rw[List.findIdx?_cons,(ih h2).2];rfl
theorem Inv.unpack{ts:List Nat}{es:List Expr}{p:Pos}{vs:List V}{Xs:Array Value}{Q:Unit->Shared->Prop}(I:Inv n c J g U s)(hc:Op c.K ts es)(ht:s.heap.IsTuple t Xs)(r:As c.T g vs Xs.toList)(hl:vs.length=ts.length)(hn:3<=n)
 (h:∀g' s',G.le c.own g g'->Inv n c (Fp J ts vs) g' U s'->Q () s'):wpAny (model c.T.prog c.T.w) c.A (assign (.Tuple es k p) c.env (.ref t)) Q Er s:=by
 exact oA (ZM hc) λl1 l2=>wpAny_assign_Tuple (I.hh.none hn) ht (l1▸hl▸r.length▸rfl) l2 λh' he=>Mx hc (I.step (.refl _ _) (I.has.keep λb o e=>he b o (λq=>by rw[q,BA] at e;exact Aa e) e)) r hl h
theorem SS.ret(h:SE n e J U v U')(hq:Q (.ret v) U'):SS n (.ret e) J U Q:=λc g s x hc I=>hc (λx=>c.wp (exec x c.env) (BI n c g Q) s) λex p hc=>Bq (arm_exec_Return ..) (AAD (AA7
 (BV (h c g s ex hc I) λX ai ag le ao al=>AAY λR_ _ k2=>k2 v X U' ai hq le.toO ao (I.step le ao).loc.ow al)))
theorem Ve{prog:Program}{w:World}{A:Around}{Q:Flow->Shared->Prop}{E:Value->Shared->Prop}{e:Expr}{p:Pos}(h:Q .next s):wpAny (model prog w) A (dropValue e p v) Q E s:=by
 have key:∀a,wpAny (model prog w) A (dropValue (.List [] default) p (.ref a)) Q E s:=λa=>by refine AAD (AA7 (AAD (wpAny_runValue (codeAny_builtin entry_let_go ?_))));unfold Builtin.«proto.let_go»;exact AAY (AAY h)
 have key2:wpAny (model prog w) A (dropValue (.List [] default) p v) Q E s:=by cases v<;>first|exact AAY h|exact key _
 have to:∀t,t=dropValue (.List [] default) p v->wpAny (model prog w) A t Q E s:=λt e=>e▸key2;cases e<;>first|exact AAY h|exact to _ (by kernel_rfl)
theorem SS.exp(hp:BH e=false)(h:SE n e J U v U')(hq:Q (.next J) U'):SS n (.exp e) J U Q:=λc g s x hc I=>hc (λx=>c.wp (exec x c.env) (BI n c g Q) s) λex p hc=>by
 have hi:interactive c.env=false:=by unfold interactive;rw[I.cx.kind];rfl
 rw[arm_exec_Expr];refine AAD (AA7 ?_);rw[hi];rw[Fj e hp hc,pure_bind,if_neg ABB];exact BF h hc I λX ai ag le I1 al=>Ve λR_ k1 _=>k1 J U' ai hq le.toO I1
theorem SS.asg(hp:BH e=false)(h:SE n e J U v U')(hq:Q (.next (J.set i (aj v))) U'):SS n (.asg i e) J U Q:=λc g s x hc I=>hc (λx=>c.wp (exec x c.env) (BI n c g Q) s) λnm p ex p' h1 hc _=>by rw[arm_exec_Assign];refine AAD (AA7 ?_);show c.wp (swapsWith ex (aj (.Name nm p)) p'.line c.env>>=_) _ _;rw[Fj e hp hc,pure_bind,if_neg ABB];refine BF h hc I λX ai ag le I1 al=>?_;rw[show swappedStores [.Name nm p] ex c.env=pure au by unfold swappedStores;rfl,pure_bind];unfold assignStores;show c.wp (assignAll X [assign (.Name nm p) c.env]>>=λ_=>pure Flow.next) _ _;exact(show assignAll X [assign (.Name nm p) c.env]=assign (.Name nm p) c.env X by first|rfl|(unfold assignAll;rfl))▸AAD (I1.asgn h1 al λam ak le2 _ I2=>AAY λR_ k1 _=>k1 _ U' am hq (le.toO.trans le2) I2)
end
theorem BI.after(le:G.le c.own g ai)(h:BI n c ai Q f s'):BI n c g Q f s':=λR_ k1 k2=>h R_ (λJ U g' q l I=>k1 J U g' q (le.trans l) I) λv x U g' q l H w r=>k2 v x U g' q (le.trans l) H w r
theorem BI.elim{P:Prop}(h:BI n c g Q f s')(k1:∀J U' g',f=.next->Q (.next J) U'->G.le c.own g g'->Inv n c J g' U' s'->P)(k2:∀v x U' g',f=.ret x->Q (.ret v) U'->G.le c.own g g'->Has c.T g' U' s'->(∀a,a∈c.own->g'.hid a≠au)->Au c.T g' v x->P):P :=
 h (λf'=>f=f'->P) (λJ U g' q l I e=>k1 J U g' e q l I) (λv x U g' q l H w r e=>k2 v x U g' e q l H w r) rfl
theorem BI.mono(hm:∀fl U,M fl U->Q fl U)(h:BI n c g M f s'):BI n c g Q f s':=λR_ k1 k2=>h R_ (λJ U g' q l I=>k1 J U g' (hm _ _ q) l I) λv x U g' q l H w r=>k2 v x U g' (hm _ _ q) l H w r
theorem SS.mono(hm:∀fl U,M fl U->Q fl U)(h:SS n st J U M):SS n st J U Q:=λc g s x hc I=>AAO (h c g s x hc I) (λ_ _ p=>p.mono hm) λ_ _ h=>h
theorem SSs.mono(hm:∀fl U,M fl U->Q fl U)(h:SSs n st J U M):SSs n st J U Q:=λc g s x hc I=>AAO (h c g s x hc I) (λ_ _ p=>p.mono hm) λ_ _ h=>h
def andThen(n:Nat)(r:S)(Q:Fl->Ac->Prop)(fl:Fl)(U:Ac):Prop:=match fl with|.next J=>SSs n r J U Q|.ret v=>Q (.ret v) U
theorem SSs.nil(h:Q (.next J) U):SSs n .nil J U Q:=λc g s xs hc I=>by obtain rfl:xs=[]:=hc;exact wpAny_execs_nil λR_ k1 _=>k1 J U g h (.refl _ _) I
theorem SSs.cons(h:SS n st J U (andThen n r Q)):SSs n (.cons st r) J U Q:=λc g s xs hc I=>hc (λxs=>c.wp (execs xs c.env) (BI n c g Q) s) λx l h1 h2=>by
 rw[execs_cons];refine AAD (AAO (h c g s x h1 I) (λf ag p=>p.elim (λaN af ai e q le I1=>?_) λv x af ai e q le H w r=>?_) λ_ _ h=>h)
 ·subst e;exact AAO (q c ai ag l h2 I1) (λ_ _ p=>p.after le) λ_ _ h=>h
 ·subst e;exact AAY λR_ _ k2=>k2 v x af ai q le H w r
theorem SS.ite(h:ST n e J U t af)(h1:t=true->SSs n p J af Q)(h2:t=false->SSs n q J af Q):SS n (.ite e p q) J U Q:=λc g s x hc I=>hc (λx=>c.wp (exec x c.env) (BI n c g Q) s) λex xs ys pos c1 c2 c3=>by
 refine wpAny_If (AAO (h c g s ex c1 I) (λb ag p=>p _ λai le ao aS=>?_) λ_ _ h=>h);subst aS;cases b with
 |true=>exact AAO (h1 rfl c ai ag xs c2 (I.step le ao)) (λ_ _ p=>p.after le.toO) λ_ _ h=>h
 |false=>exact AAO (h2 rfl c ai ag ys c3 (I.step le ao)) (λ_ _ p=>p.after le.toO) λ_ _ h=>h
noncomputable def WhQ(n:Nat)(e:E)(b:S)(Q:Fl->Ac->Prop):Nat->Al->Ac->Prop
 |0,_,_=>False
 |k+1,J,U=>∃t af,ST n e J U t af/\(t=false->Q (.next J) af)/\(t=true->SSs n b J af λfl U'=>match fl with|.next J'=>WhQ n e b Q k J' U'|.ret v=>Q (.ret v) U')
theorem SS.while_(h:WhQ n e r Q k J U):SS n (.while_ e r) J U Q:=λc g s x hc I=>hc (λx=>c.wp (exec x c.env) (BI n c g Q) s) λt bd p h1 h4=>by
 refine wpAny_While (codeAny_whileLoop (I:=λk s'=>∀R_:Prop,(∀J U g',WhQ n e r Q k J U->G.le c.own g g'->Inv n c J g' U s'->R_)->R_) (λk az hz=>hz _ λJ3 U3 aB w ay I3=>?_) k λR_ kk=>kk J U g h (.refl _ _) I);cases k with
 |zero=>exact w.elim
 |succ k =>
  refine Br w λq U4 w1 w2 w3=>AAO (w1 c aB az t h1 I3) (λb aJ p=>p _ λaQ le4 aV bk=>?_) λ_ _ h=>h.elim;subst bk;have I4:=I3.step le4 aV;have le:=ay.trans (le4.toO (own:=c.own));cases b with
  |false=>exact wpAny_execs_nil λR_ k1 _=>k1 J3 U4 aQ (w2 rfl) le I4
  |true =>
   refine AAO (w3 rfl c aQ aJ bd h4 I4) (λf s5 p=>p.elim (λJ5 U5 g5 aW q l5 I5=>?_) λv x U5 g5 aW q l5 H w r5=>?_) λ_ _ h=>h.elim
   ·subst aW;exact iEA k (ADN k) (λR_ kk=>kk J5 U5 g5 q (le.trans l5) I5)
   ·subst aW;exactλR_ _ k2=>k2 v x U5 g5 q (le.trans l5) H w r5
def PrS(x y z:V)(U U':Ac):Prop :=
 ∀(r:Ar) (g:G) (s:Shared) (X Y Z:Value),At 0 r g U s->Au r.T g x X->Au r.T g y Y->Au r.T g z Z->r.wp (setItem X Y Z) (λ_ s'=>Has r.T g U' s') s
theorem Wx(h:∀t l,swapsWith ve t l env=pure false):exec (.Assign [.Subscript oe ie p] ve p') env=(standAt p'>>=λ_=>eval ve env>>=λZ=>assign (.Subscript oe ie p) env Z>>=λ_=>pure Flow.next):=by rw[arm_exec_Assign];show(standAt p'>>=λ_=>swapsWith ve (aj (.Subscript oe ie p)) p'.line env>>=_)=_;rw[h];rfl
theorem SS.set(hp:BH d=false)(hz:SE n d J U z af)(hx:SE n a J af x U2)(hy:SE n b J U2 y U3)(h:PrS x y z U3 U')(hq:Q (.next J) U'):SS n (.set a b d) J U Q:=λc g s st hc I=>hc (λst=>c.wp (exec st c.env) (BI n c g Q) s) λoe ie p ve p' h1 h2 h3=>by refine Bq (Wx λt l=>Fj d hp h1 t l c.env) (AAD (AA7 (BF hz h1 I λZ ai ag aq I1 al=>?_)));rw[arm_assign_Subscript];refine AAD (AAD (AA8 (AAO (hx c ai ag oe h2 I1) (λX ak p=>p _ λam le2 av ar=>?_) λ_ _ h=>h)));have I2:=I1.step le2 av;refine AAD (AA8 (AAO (hy c am ak ie h3 I2) (λY az p=>p _ λaB ay aR r3=>?_) λ_ _ h=>h));have I3:=I2.step ay aR;refine AAD (AA7 (AAD (AA8 (AAO (h c.toAr aB az X Y Z I3.at0 (Au.mono ay.toup _ _ ar) r3 (Au.mono (le2.trans ay).toup _ _ al)) (λ_ aJ aV=>wpAny_release (AAY ?_)) λ_ _ h=>h))));exactλR_ k1 _=>k1 J U' aB hq (aq.trans (le2.trans ay)).toO (I3.step (.refl _ _) aV)
section
variable{T:Top}{s:Shared}
theorem Kw{items:Array Value}{k:Int}(ho:s.heap.get? l=aj {cls:=.type "list",dict:=au,data:=.seq items m,slots:=#[]})(h0:0<=k)(hfit:k<2 ^ 63)(hn:k<items.size)
 (hQ:∀h' m',h'.get? l=aj {cls:=.type "list",dict:=au,data:=.seq (items.setIfInBounds k.toNat v) m',slots:=#[]}->Heap.SameBut l s.heap h'->Q () {s with heap:=h'}):wpAny (model T.prog T.w) A (setItem (.ref l) (.int k t) v) Q Er s:=by
 have hT:s.TypeIs (.ref l) "list" := ⟨_,ho,rfl⟩
 unfold setItem;refine AA8 (AAD (wpAny_sequenceKey hT (by decide) (AAD (wpAny_callSpecial?_slot (name:=ACC "__setitem__") hT slot_list_setitem (wpAny_call_entry slot_list_setitem hT entry_list_setitem ?_ (args_list_setitem _ _ _))))));show wpAny _ _ (Builtin.List.listSubscript? (.int k t)>>=_) _ _ s;refine AAD (wpAny_listSubscript_int (fitsIndex_of h0 hfit) ?_);clear hfit;refine oE (Int.eq_ofNat_of_zero_le h0) λj q_1=>?_;subst q_1;have hj:j<items.size:=Int.ofNat_lt.mp hn;show wpAny _ _ ((seqItemAt l j>>=λr=>pure (r.map (j,·)))>>=_) _ _ s;refine AAD (AAD (wpAny_seqItemAt ho rfl (AAY ?_)));rw[AB5 hj];show wpAny _ _ (setSeqItemAt l j v>>=_) _ _ s;refine AAD (wpAny_setSeqItemAt ho rfl ?_);have e:=ACK (Obj.mapSeq (·.setIfInBounds j v)) ho rfl;exact AAD (AAY (AAY ⟨.none,rfl,AAY (hQ _ _ e (ACN ..))⟩))
end
section
variable{g:G}{U:Ac}{s s':Shared}{x:V}{e b d:E}{ws:List V}{k:Nat}{kvs:List (Str×PyData)}{kvp:List ((Str×Int)×PyData)}{w:Str}{q:Str×Int}{dd:PyData}
theorem ZB{i:Int}(hσ:U[k]? = aj (.list ws))(h0:0<=i)(hi:i<ws.length):PrS (.ref k) (vi i) z U (U.set k (.list (ws.set i.toNat z))):=λr g s X Y Z A hx hy hz=>by refine oEA hx λl hk q_2=>?_;subst q_2;refine oE hy λt q_1=>?_;subst q_1;exact A.has.lst hk hσ λxs m ho hr hn hl=>Kw ho h0 (Int.lt_trans hi (Int.ofNat_lt.mpr (F5 hl))) (hn▸hi) λh' m' ho' hs=>A.has.relst hk (λb x hb e=>(hs.2 b hb).trans e) ho' (by rw[Array.toList_setIfInBounds];exact hr.set _ hz) (by rw[AB0];exact hl)
theorem OP{α β:Type}{R:α->β->Prop}{as:List α}{bs:List β}(h:Ay R as bs)(hl:as.length<line):bs.length<=sizeLine:=by rw[<-h.length,<-Bd];exact ACF hl
theorem PS(hσ:U[k]? = aj (.dictS kvs))(hl:kvs.length<line):PrS (.ref k) (.d (.str w)) (.d dd) U (U.set k (.dictS (Ci kvs w dd))):=λr g s X Y Z A hx hy hz=>by refine oEA hx λl hk q_2=>?_;subst q_2;refine oEA hy λt q_1 _=>?_;subst q_1;refine A.has.dictS hk hσ λws hD hr=>wpAny_setItem_pairs (k:=w) (strKind_is _ _ w t) hD (λh' hD' hs=>?_) (OP hr hl);refine Em hD' λx es ep hx ho hd hk' hp hn=>A.has.turn (ob:=.dictS (Ci kvs w dd)) hk (λb x hb e=>(hs.2 b hb).trans e) hx λR_ kk=>kk es ep _ ho hd hk' hp hn ?_ (AAC (FU _ _ _) hl);have h:=PY (f:=id) (key:=λw:Str×Value=>w.1) (d:=dd) (w₀:=(w,Z)) (up:=λp=>(p.1,Z)) (λ_ _ h=>h) (λ_ _ h=>h.1) (k:=w) ⟨rfl,hz⟩ (λp w h e=>⟨h.1,hz⟩) hr;rw[<-Oj] at h;exact h
theorem W1(hσ:U[k]? = aj (.dictP kvp))(hl:kvp.length<line):PrS (.ref k) (vp q) (.d dd) U (U.set k (.dictP (Ci kvp q dd))):=λr g s X Y Z A hx hy hz=>by refine oEA hx λl hk q_2=>?_;subst q_2;refine IC hy (R_:=λY=>r.wp (setItem (.ref l) Y Z) (λ_ s'=>Has r.T g (U.set k (.dictP (Ci kvp q dd))) s') s) λb hb=>A.has.dictP hk hσ λws hD hr=>wpAny_setItem_heap (knd:=tupleKind (Dt r.T.prog r.T.w)) (AAS (AA9 _ 40) A.room) (Fr A.has hb) hD (λh' hD' hs=>?_) (OP hr hl);refine Em hD' λx es ep hx ho hd he _ hn=>A.has.turn (ob:=.dictP (Ci kvp q dd)) hk (λb x hb e=>(hs.2 b hb).trans e) hx λR_ kk=>kk es ep _ ho hd he hn ?_ (AAC (FU _ _ _) hl);unfold storedH atKey;rw[Option.isSome_map];exact(PY (f:=HP) (key:=λw:List (Str⊕Int)×Addr×Value=>w.1) (d:=dd) (w₀:=(HP q,b,Z)) (up:=λp=>(p.1,p.2.1,Z)) N0 (λ_ _ h=>h.1) (k:=q) ⟨rfl,hb,hz⟩ (λp w h e=>⟨h.1,h.2.1,hz⟩) hr)
end
section
variable{Q M:Fl->Ac->Prop}{ws vs:List V}{xs:List Nat}
theorem Vi(h:∀(T:Top) (g:G),DP T g ob {cls:=.type "dict",data:=.dict #[]}):SE n .dct J U (.ref U.length) (U++[ob]):=λc g s ex hc I=>hc (λex=>c.wp (eval ex c.env) (Ans c.toAr g (.ref U.length) (U++[ob])) s) λp=>wpAny_Dict_empty
 (.mk (g.add s.heap.objs.size) .add ((I.has.free (BA _)).add (ob:=ob) (I.has.keep λb o e=>AAK _ e) (AA3 _ rfl) (h _ _)) ⟨_,I.has.addAt,rfl⟩)
theorem SE.dctS:SE n .dct J U (.ref U.length) (U++[.dictS []]):=Vi λT g R_ k=>by refine Em (Heap.DictOf.new (knd:=strKind T.prog T.w) {}) λo es ep h1 h2 h3 h4 h5 h6=>?_;rw[AA3 _ rfl] at h1;rw[<-AAA h1] at h2 h3;exact k es ep [] h2 h3 h4 h5 h6 trivial (ABF _)
theorem SE.dctP:SE n .dct J U (.ref U.length) (U++[.dictP []]):=Vi λT g R_ k=>k #[] _ [] ⟨rfl,rfl,rfl⟩ rfl rfl ABY trivial (ABF _)
theorem Zq:∀{Xs:List Value},As T g (us.map wv) Xs->Ay (HZ g) us Xs:=by
 induction us with
 |nil=>intro Xs h;rw[h.nil];exact trivial
 |cons u us ih =>
  intro Xs h;refine Br h.cons λX Xs q_2 h1 h2=>?_;subst q_2;exact⟨by cases u<;>exact h1,ih h2⟩
theorem SE.tupR(h:SEs n a J U (us.map wv) af)(hl:us.length<=line):SE n (.tup a) J U (.tup us) af:=λc g s ex hc I=>hc (λex=>c.wp (eval ex c.env) (Ans c.toAr g (.tup us) af) s) λvs k p hc=>Bq (arm_eval_Tuple ..) (AAD (AA7
 (BV (h c g s vs p hc I) λxs ai ag le ao al=>wpAny_newTuple (by have F:=ao.free (BA _);exact .mk (ai.put ag.heap.objs.size _) (le.trans (.put F.fz)) (F.put (ao.keep λb o e=>AAK _ e) (AA3 _ rfl)) λR_ k=>k _ _ xs.toArray _ G.put_self rfl rfl (List.toList_toArray▸(Zq al).mono (HZ.mono ((G.le.put (own:=[]) (o:={cls:=.type "tuple",data:=.seq xs.toArray}) F.fz).toup))) hl) (by rw[<-al.length,<-Bd,AAB];exact hl))))
theorem SE.fcall(h:SEs n a J U vs af)(hf:FA n f vs af v U2):SE n (.fcall f a) J U v U2:=λc g s ex hc I=>hc (λex=>c.wp (eval ex c.env) (Ans c.toAr g v U2) s) λnm np es p h1 h2=>by refine PyProof.Rows.Call_Name rfl (Cu I h1 λx hv=>?_);refine oEA hv λl hl q_2=>?_;subst q_2;refine AH (I.cx.rd.fnob f l hl) λo fd ho hd=>callWith_function (o:=o) (fd:=fd) (CL (r:=c.toAr) h2 (AAO (h c g s es p h2 I) (λXs ag p=>p _ λai le ao al=>?_) λ_ _ h=>h));have I1:=I.step le ao;exact⟨⟨I1.base _ _ ho,hd⟩,BQ (r:=c.toAr) le (hf c.toAr ai ag l Xs hl I1.toAt al)⟩
theorem PE(h:∀t l,swapsWith ve t l env=pure false)(h':swappedStores [.Tuple ts k p] ve env=pure au):exec (.Assign [.Tuple ts k p] ve p') env=(standAt p'>>=λ_=>eval ve env>>=λZ=>assign (.Tuple ts k p) env Z>>=λ_=>pure Flow.next):=by rw[arm_exec_Assign];show(standAt p'>>=λ_=>swapsWith ve (aj (.Tuple ts k p)) p'.line env>>=_)=_;rw[h];show(standAt p'>>=λ_=>eval ve env>>=λZ=>swappedStores [.Tuple ts k p] ve env>>=_)=_;exact h'▸rfl
theorem SS.unp(hn:3<=n)(hp:BH e=false)(hs:∀{K:Kx} {ex:Expr},IsE e K ex->∀ts k p env,swappedStores [.Tuple ts k p] ex env=pure au)(h:SE n e J U v af)(hv:C6 v=aj vs)(hl:vs.length=xs.length)(hq:Q (.next (Fp J xs vs)) af):SS n (.unp xs e) J U Q:=λc g s x hc I=>hc (λx=>c.wp (exec x c.env) (BI n c g Q) s) λts k p ve p' h1 h2=>by refine Bq (PE (λt l=>Fj e hp h2 t l c.env) (hs h2 _ _ _ _)) (AAD (AA7 (BF h h2 I λX ai ag le I1 al=>?_)));exact CZ I1.has al hv (R_:=λX=>c.wp (assign (.Tuple ts k p) c.env X>>=λ_=>pure Flow.next) (BI n c g Q) ag) λt Xs hT hr _ _=>AAD (I1.unpack h1 hT hr hl hn λam ak le2 I2=>AAY λR_ k1 _=>k1 _ af am hq (le.toO.trans le2) I2)
end
def Cs(U:Ac)(kps:List (Nat×List V)):Prop:=∀k ws,(k,ws)∈kps->U[k]? = aj (.list ws)
noncomputable def ItS(m:Nat)(T:Top)(b:Bool)(kps:List (Nat×List V))(its:List Addr)(a:Addr):List V->G->Prop
 |[],an=>(∀c,c∈its->an.hid c≠au)/\∀(r:Ar) (g:G) (U:Ac) (s:Shared),r.T=T->At m r g U s->G.up an g->(∀c,c∈its->g.hid c=an.hid c)->Cs U kps->∀Q:Option Value->Shared->Prop,
  (∀h',(∀c o,c∉its->s.heap.get? c=aj o->h'.get? c=aj o)->Q au {s with heap:=h'})->r.wp (pyNext (.ref a)) Q s
 |v::vs,an=>(∀c,c∈its->an.hid c≠au)/\∀(r:Ar) (g:G) (U:Ac) (s:Shared),r.T=T->At m r g U s->G.up an g->(∀c,c∈its->g.hid c=an.hid c)->Cs U kps->∀(t:Expr) (Q:Option Value->Shared->Prop),(b=true->∃es k p,t=.Tuple es k p) ->
  (∀X ag,(∀Q':Unit->Shared->Prop,(∀g' s',G.le its g g'->Has r.T g' U s'->Au r.T g' v X->ItS m T b kps its a vs g'->Q' () s')->r.wp (letOwnedTupleGo t (.ref a) X) Q' ag)->Q (aj X) ag)->r.wp (pyNext (.ref a)) Q s
def Kn(T:Top)(kps:List (Nat×List V))(l:Addr)(ws:List V)(an:G):Prop:=∀(g:G) (U:Ac) (s:Shared),Has T g U s->G.up an g->Cs U kps->∀R_:Prop,(∀xs,s.heap.IsList l xs->As T g ws xs.toList->R_)->R_
section
variable{g:G}{s:Shared}{vs:List V}{q:Bool}{prog:Program}{w:World}{A:Around}{E:Value->Shared->Prop}
theorem ItS.mono(up:G.up g g')(hd:∀c,c∈its->g'.hid c=g.hid c)(h:ItS m T q kps its it vs g):ItS m T q kps its it vs g':=by
 cases vs with
 |nil=>exact⟨λc hc=>(hd c hc).symm▸h.1 c hc,λr am U s hT A up' hd'=>h.2 r am U s hT A (up.trans up') λc hc=>(hd' c hc).trans (hd c hc)⟩
 |cons v vs=>exact⟨λc hc=>(hd c hc).symm▸h.1 c hc,λr am U s hT A up' hd'=>h.2 r am U s hT A (up.trans up') λc hc=>(hd' c hc).trans (hd c hc)⟩
theorem ItS.at(h:ItS m T q kps its it vs g):∀c,c∈its->g.hid c≠au:=by cases vs with|nil=>exact h.1|cons v vs=>exact h.1
theorem AR(h:g.hid a=aj o):g.hid a≠au:=λq=>Aj q h
theorem AQ{P:Addr->Prop}(h:P it):∀c,c∈[it]->P c:=λc hc=>AAJ.mp hc▸h
theorem Kn.frozen(hf:g.fz l=aj o)(hc:o.cls=.type "list")(hd:o.data=.seq xs m)(hr:As T g ws xs.toList):Kn T [] l ws g:=λg' U s H up _ R_ k=>k xs ⟨o,H.fz _ _ (up.fz _ _ hf),hc,m,hd⟩ (As.mono up hr)
theorem Kn.tracked(hk:g.mu[k]? = aj l):Kn T [(k,ws)] l ws g:=λg' U s H up hq R_ kk=>H.lst (up.mu _ _ hk) (hq k ws (AAJ.mpr rfl)) λxs m ho hr _ _=>kk xs ⟨_,ho,rfl,m,rfl⟩ hr
theorem WC{b c:Bool}{x y:Sem Unit}{Q:Unit->Shared->Prop}(hb:b=false)(h:wpAny (model prog w) A y Q E s):wpAny (model prog w) A (if (b&&c)=true then x else y) Q E s:=by rw[hb,Bool.false_and,if_neg ABB];exact h
theorem Js(ho:s.heap.get? a=aj o)(hc:o.cls=.type n)
 (hn:["enumerate","zip","dict_itemiterator","dict_reverseitemiterator","odict_iterator","itertools.zip_longest","itertools.pairwise"].contains n=false) (h:Q () s) :
 wpAny (model prog w) A (letOwnedTupleGo target (.ref a) v) Q E s:=by
 have key:∀v:Addr,wpAny (model prog w) A (letOwnedTupleGo (.List [] default) (.ref a) (.ref v)) Q E s:=λv=>by
  refine AAD (wpAny_load ho ?_);rw[hc];cases o.data<;>first
   |exact AAY h
   |exact WC hn (AAY h)
 have key2:wpAny (model prog w) A (letOwnedTupleGo (.List [] default) (.ref a) v) Q E s:=by cases v<;>first|exact AAY h|exact key _
 cases target<;>first|exact AAY h|exact key2
theorem LW(A:At m r g U s)(e:g.hid it=aj o)(hs:Heap.SameBut it s.heap s'.heap)(ho:s'.heap.get? it=aj o')(hc:o'.cls=.type nm)
 (hn:["enumerate","zip","dict_itemiterator","dict_reverseitemiterator","odict_iterator","itertools.zip_longest","itertools.pairwise"].contains nm=false) (hg:s'.gens=s.gens) (hos:s'.os=s.os)
 (k:∀g' s',G.le [it] g g'->G.up g g'->g'.hid it=aj o'->Has r.T g' U s'->Q' () s'):r.wp (letOwnedTupleGo t (.ref it) X) Q' s' :=
 Js ho hc hn (k (g.hide it o') s' (.hide (.head _)) ⟨λ_ _ e=>e,λ_ _ e=>e⟩ G.hide_self (A.has.rehide e (λb x q e=>(hs.2 b q).trans e) ho hg hos))
theorem DK{α:Type}{xs:List α}{x:α}{r:List α}(h:xs.drop i=x::r):xs[i]? = aj x/\xs.drop (i+1)=r:=by have h1:=congrArg List.head? h;have h2:=congrArg List.tail h;rw[List.head?_drop] at h1;rw[List.tail_drop] at h2;exact⟨h1,h2⟩
theorem K7:entryFor table "proto.unchain" = aj Builtin.«proto.unchain»:=entryFor_of_fast (by kernel_rfl)
theorem Kz:plainId "proto.unchain" = true:=by decide +kernel
theorem LJ{α:Type}{o:Obj}{vs:Array Value}{Q:α->Shared->Prop}(hH:A.handled=au\/XW g A.handled)(fz:∀a o,g.fz a=aj o->s.heap.get? a=aj o)
 (ho:s.heap.get? a=aj o) (hd:o.data=.fields vs) (hs:2<vs.size) (hn:g.fz a=au)
 (h:∀h' o',Heap.SameBut a s.heap h'->h'.get? a=aj o'->o'.cls=o.cls->E (.ref a) {s with heap:=h'}) :
 wpAny (model prog w) A (raiseNew (.ref a):Sem α) Q E s:=by
 unfold raiseNew;refine AAD (wpAny_handled ?_);rcases hH with hh|⟨b,ob,bs,hh,hb,hbd,hb2⟩
 ·exact hh▸AAD (AAY (wpAny_throw (h s.heap o (Heap.SameBut.refl ..) ho rfl)))
 ·rw[hh];have hne:b≠a:=λq=>by rw[q,hn] at hb;cases hb
  have hne':((Value.ref b) != (Value.ref a))=true:=by simp[hne]
  show wpAny _ _ (if (Value.ref b != Value.ref a)=true then _ else _) _ _ _;rw[if_pos hne'];refine AAD (AA8 (wpAny_runValue (codeAny_builtin K7 ?_)));rw[Around.under_plainId Kz];unfold Builtin.«proto.unchain»;refine AAD (wpAny_field (fz _ _ hb) hbd hb2 ?_);refine AAY (AAD ?_);exact wpAny_setField ho hd hs (wpAny_throw (h _ _ (ACN ..) (ACK _ ho (Obj.isFreed_of_fields (Obj.data_mapFields hd _))) (Obj.cls_mapFields ..)))
theorem K4(hH:A.handled=au\/XW g A.handled)(fz:∀a o,g.fz a=aj o->s.heap.get? a=aj o)(hn:g.fz it=au)
 (hit:s.heap.IsListIter it l i) (hl:s.heap.IsList l items) (hx:items[i]? = au)
 (hQ:∀h',Heap.ExtBut it s.heap h'->Q au {s with heap:=h'}):wpAny (model prog w) A (pyNext (.ref it)) Q E s:=by
 refine AS (id hit) λo ho hc hd=>Jd hl λol hol _ nl hdl=>?_;unfold pyNext;refine AAD (wpAny_attempt (wpAny_callSpecial?_slot hit.typeIs slot_listiter_next
  (wpAny_call_entry slot_listiter_next hit.typeIs entry_listiter_next ?_ (args_listiter_next _))))
 show wpAny _ _ (field (.ref it) 0>>=_) _ _ s;refine AAD (wpAny_field ho hd (x:=.ref l) rfl ?_);rw[if_neg (show ¬ ((Value.ref l==Value.none)=true) from ABB)];refine AAD (wpAny_field ho hd rfl ?_);refine AAD (wpAny_seqItems hol hdl ?_);simp only[Int.toNat_natCast,hx];refine AAD (wpAny_rule (AAD (wpAny_setField ho hd (by simp) ?_)));refine AAD ?_;simp only[newExc,newTuple];refine AAD (wpAny_newObj_type ?_ (by size_fits));refine AAD (wpAny_of_eq (by first|rfl|(simp only[firstArgMember];rfl)) ?_);refine wpAny_newObj_type ?_ (by size_fits);have hsz:∀(h:Heap) (o:Obj),Heap.SameBut it s.heap h->g.fz (h.push o).objs.size=au:=λh o hs=>by
  cases e:g.fz (h.push o).objs.size with
  |none=>rfl
  |some ob =>
   have:=ACU (fz _ _ e);rw[ADP,hs.1] at this;exact absurd this (AB4.mpr (ADL _))
 refine LJ hH (λb ob e=>AAK _ (AAK _ ?_)) (AA3 _ rfl) rfl (by simp[ownMembersOf]) (hsz _ _ ?_) λh' o' hs' ho' hc'=>?_
 ·exact(ACN ..).extBut b ob (λq=>by rw[q,hn] at e;cases e) (fz _ _ e)
 ·exact ACN ..
 ·refine AAD (wpAny_isInstance ⟨o',ho',hc'⟩ isSubtype_stop ?_);refine AAY (hQ _ λb ob hb e=>?_);have:=ACU e;refine(hs'.2 b ?_).trans (Heap.ExtBut.push (Heap.ExtBut.push (ACN ..).extBut _) _ b ob hb e);simp only[ADP,(ACN ..).1];exact ACT (Nat.lt_succ_of_lt this)
theorem WZ(hL:Kn T kps l ws g):∀{i:Nat} {an:G} {o:Obj},ws.drop i=vs->G.up g an->an.hid it=aj o->o.cls=.type "list_iterator"->o.data=.fields #[.ref l,.int i 0]->ItS m T false kps [it] it vs an:=by
 induction vs with
 |nil =>
  intro i an o hv up0 e hc hd;refine⟨AQ (AR e),λr g' U s hT A up hh hk Q hQ=>?_⟩;subst hT;have hit:s.heap.IsListIter it l i:=⟨o,(A.has.hd _ _ ((hh it (.head _)).trans e)).ex (Bn hc (by decide)),hc,hd⟩
  refine hL g' U s A.has (up0.trans up) hk _ λxs hl hr=>K4 (A.hh.1.imp id (·.2)) A.has.fz (A.has.ah _ _ ((hh it (.head _)).trans e)).1 hit hl ?_ λh' he=>hQ h' λc o hc e=>he c o (λq=>hc (q▸.head _)) e;exact Array.getElem?_eq_none (ABA▸hr.length▸List.drop_eq_nil_iff.mp hv)
 |cons v vs ih =>
  intro i an o hv up0 e hc hd;refine⟨AQ (AR e),λr g' U s hT A up hh hk t Q ht hQ=>?_⟩;subst hT;have e':=(hh it (.head _)).trans e;have hit:s.heap.IsListIter it l i:=⟨o,(A.has.hd _ _ e').ex (Bn hc (by decide)),hc,hd⟩
  refine oA (DK hv) λq1 q2=>hL g' U s A.has (up0.trans up) hk _ λxs hl hr=>oEA (hr.get q1) λX hX rX=>wpAny_pyNext_list_item hit hl (ABJ.symm.trans hX) λh' it' hs=>hQ X _ λQ' k=>?_;refine AS it' λo' ho' hc' hd'=>?_;exact LW A e' hs ho' hc' (by decide) rfl rfl λam ak le up2 e2 H=>k am ak le H (Au.mono up2 _ _ rX) (ih q2 (up0.trans (up.trans up2)) e2 hc' hd')
end
noncomputable def upV(lo:Int):Nat->List V
 |0=>[]
 |n+1=>.d (.int lo)::upV (lo+1) n
noncomputable def Hq(k:Nat):List PyData->List V
 |[]=>[]
 |x::xs=>.d (.tuple [.int k,x])::Hq (k+1) xs
noncomputable def zp(x y:V):V:=match x with|.d a=>(match y with|.d b=>.d (.tuple [a,b])|y=>.pr (.d a) y)|x=>.pr x y
noncomputable def It:List V->List V->List V
 |x::xs,y::ys=>zp x y::It xs ys
 |_,_=>[]
noncomputable def G2:List Nat->List V
 |[]=>[]
 |c::r=>.d (.str (NS c))::G2 r
section
variable{aE:Nat}{T:Top}{g:G}{s:Shared}{v:V}{e a b d:E}{ws:List V}{kps:List (Nat×List V)}{its:List Addr}{it l:Addr}{q:Bool}
theorem Has.away(H:Has T g U s)(hi:∀c,c∈its->g.hid c≠au)(c:Addr)(hc:c∈its):g.fz c=au/\c∉g.mu/\∀q,(c,q)∉T.tabs:=by
 cases e:g.hid c with
 |none=>exact absurd e (hi c hc)
 |some o=>exact⟨(H.ah c o e).1,(H.ah c o e).2,H.hidTab e⟩
theorem Has.rehL(H:Has T g U s)(hi:∀c,c∈its->g.hid c≠au)(k:∀c o,c∉its->s.heap.get? c=aj o->s'.heap.get? c=aj o)(hg:s'.gens=s.gens:=by rfl)(ho:s'.os=s.os:=by rfl):Has T ⟨g.fz,λc=>if c∈its then s'.heap.get? c else g.hid c,g.mu⟩ U s':=by
 have it:=H.away hi;refine H.re _ (λa o e=>?_) (λb o e e'=>k b o (λq=>Aj (it b q).1 e) e') (λb o e e'=>k b o (λq=>(it b q).2.1 e) e') (λt q o m e=>k t o (λh=>(it t h).2.2 q m) e) hg ho;by_cases q:a∈its
 ·rw[if_pos q] at e;exact⟨.of e,it a q⟩
 ·rw[if_neg q] at e;exact⟨(H.hd a o e).keep λo=>k a o q,(H.ah a o e).1,(H.ah a o e).2,H.hidTab e⟩
theorem Zp(hx:Au T g v x)(hy:Au T g w y)(h:CO g.fz "tuple" X (λxs=>xs=[x,y]) 2):Au T g (zp v w) X:=by
 have k:Au T g (.pr v w) X:=CO.mono (λ_ _ e=>e) (λvs e=>(Hk x y e hx hy)) h;cases v with
 |d a=>cases w with
  |d b=>exact CO.mono (λ_ _ e=>e) (λvs (e:vs=[x,y])=>by rw[e];exact⟨hx,hy,trivial⟩) h
  |_=>exact k
 |_=>exact k
theorem KN(H:Has T g U s)(hi:∀c,c∈its->g.hid c≠au)(k:∀c o,c∉its->s.heap.get? c=aj o->s'.heap.get? c=aj o)
 (pr:s'.heap.get? s.heap.objs.size=aj {cls:=.type "tuple",data:=.seq #[x,y]}) (hx:Au T g v x) (hy:Au T g w y) (hg:s'.gens=s.gens) (ho:s'.os=s.os) {R_:Prop}
 (kk:∀g',G.le its g g'->G.up g g'->Has T g' U s'->Au T g' (zp v w) (.ref s.heap.objs.size)->(∀c,c∈its->g'.hid c=s'.heap.get? c)->R_):R_:=by
 have F:=H.free (BA s.heap);have F1:Dw T ⟨g.fz,λc=>if c∈its then s'.heap.get? c else g.hid c,g.mu⟩ s.heap.objs.size:=⟨F.fz,(if_neg (λq=>hi _ q F.hid)).trans F.hid,F.mu,F.tab⟩
 have up:=(G.le.put (own:=[]) (o:={cls:=.type "tuple",data:=.seq #[x,y]}) F1.fz).toup;have up':G.up g (G.put ⟨g.fz,λc=>if c∈its then s'.heap.get? c else g.hid c,g.mu⟩ s.heap.objs.size {cls:=.type "tuple",data:=.seq #[x,y]}):=⟨up.fz,up.mu⟩
 exact kk _ ⟨up',λc hc=>if_neg hc⟩ up' (F1.put (H.rehL hi k hg ho) pr) (Zp (Au.mono up' _ _ hx) (Au.mono up' _ _ hy) λR_ k=>k _ _ #[x,y] _ G.put_self rfl rfl rfl (by decide)) λc hc=>if_pos hc
theorem Uf(h3:3<=aE):∀{m:Nat} {lo left:Int} {an:G},left.toNat=m->an.hid it=aj {cls:=.type "range_iterator",dict:=au,data:=.fields #[rawInt lo,rawInt left,rawInt 1],slots:=#[]}->ItS aE T false kps [it] it (upV lo m) an:=by
 intro m
 induction m with
 |zero =>
  intro lo left an hm e;refine⟨AQ (AR e),λr g' U s hT A up hh hk Q hQ=>?_⟩;exact wpAny_pyNext_range_end (A.hh.none h3) ((A.has.hd _ _ ((hh it (.head _)).trans e)).ex (Bn rfl (by decide))) (Int.toNat_eq_zero.mp hm) λh' he=>hQ h' λc o hc e=>he c o (λq=>hc (q▸.head _)) e
 |succ m ih =>
  intro lo left an hm e;refine⟨AQ (AR e),λr g' U s hT A up hh hk t Q ht hQ=>?_⟩;have e':=(hh it (.head _)).trans e;exact wpAny_pyNext_range_item ((A.has.hd _ _ e').ex (Bn rfl (by decide))) (Int.pos_iff_toNat_pos.mpr (hm▸ACZ m)) λh' it' hs=>hQ _ _ λQ' k=>LW A e' hs it' rfl (by decide) rfl rfl λam ak le up2 e2 H=>k am ak le H ⟨_,rfl⟩ (ih (by rw[Int.pred_toNat,hm];rfl) e2)
theorem bF(h3:3<=aE)(ha:z.cps.all (· < 128)=true):∀{i:Nat} {an:G} {o:Obj},z.cps.toList.drop i=ch->an.hid it=aj o->o.cls=.type "str_ascii_iterator"->o.data=.fields #[.str z bw,.int i 0]->ItS aE T false kps [it] it (G2 ch) an:=by
 induction ch with
 |nil =>
  intro i an o hv e hc hd;refine⟨AQ (AR e),λr g' U s hT A up hh hk Q hQ=>?_⟩;refine wpAny_pyNext_ascii_end (A.hh.none h3) ⟨o,(A.has.hd _ _ ((hh it (.head _)).trans e)).ex (Bn hc (by decide)),hc,hd⟩ ?_ λh' he=>hQ h' λc o hc e=>he c o (λq=>hc (q▸.head _)) e;exact Array.getElem?_eq_none (ABA▸List.drop_eq_nil_iff.mp hv)
 |cons k ch ih =>
  intro i an o hv e hc hd;refine⟨AQ (AR e),λr g' U s hT A up hh hk t Q ht hQ=>?_⟩;have e':=(hh it (.head _)).trans e;refine oA (DK hv) λq1 q2=>wpAny_pyNext_ascii_item ⟨o,(A.has.hd _ _ e').ex (Bn hc (by decide)),hc,hd⟩ (ABJ.symm.trans q1) λh' it' hs=>hQ _ _ λQ' kk=>?_;refine AS it' λo' ho' hc' hd'=>?_;exact LW A e' hs ho' hc' (by decide) rfl rfl λam ak le up2 e2 H=>kk am ak le H ⟨_,rfl,NR k⟩ (ih q2 e2 hc' hd')
theorem nhd{α:Type}{a c:α}{l:List α}(h:c∉a::l):c≠a:=λq=>h (q▸.head _)
theorem ntl{α:Type}{a c:α}{l:List α}(h:c∉a::l):c∉l:=λq=>h (.tail _ q)
theorem AC{α:Type}{P:α->Prop}:∀c,c∈([]:List α)->P c:=λ_ h=>nomatch h
theorem ae{α:Type}{P:α->Prop}{a:α}{l:List α}(h:P a)(t:∀c,c∈l->P c):∀c,c∈a::l->P c:=λc q=>(AAR.mp q).elim (λe=>e▸h) (t c)
noncomputable abbrev Jn(l:Addr)(i:Nat)(o:Obj):Prop:=o.cls=.type "list_iterator"/\o.data=.fields #[.ref l,.int i 0]
theorem cB{xs:Array Value}{ds:List PyData}(hr:As T g (ds.map .d) xs.toList)(h:ds.drop i=[]):xs[i]? = au:=Array.getElem?_eq_none (by rw[<-ABA,<-hr.length,AAB];exact List.drop_eq_nil_iff.mp h)
theorem WY{xs:Array Value}{ds rest:List PyData}{d:PyData}(hr:As T g (ds.map .d) xs.toList)(h:ds.drop i=d::rest):∃X,xs[i]? = aj X/\AI g.fz d X:=by refine oEA (hr.get (by rw[ABI,(DK h).1];rfl)) λX hX rX=>?_;exact iEA X (ABJ.symm.trans hX) rX
theorem QL{xs:Array Value}{ds:List V}(hr:As T g ds xs.toList)(h:ds.drop i=[]):xs[i]? = au:=Array.getElem?_eq_none (ABA▸hr.length▸List.drop_eq_nil_iff.mp h)
theorem N1{xs:Array Value}{ds rest:List V}{d:V}{i:Nat}(hr:As T g ds xs.toList)(h:ds.drop i=d::rest):∃X,xs[i]? = aj X/\Au T g d X:=by exact oEA (hr.get (DK h).1) λX hX rX=>iEA X (ABJ.symm.trans hX) rX
theorem Xa{ds rest:List PyData}{ea:Addr}(h3:3<=aE)(hL:Kn T kps l (ds.map .d) g):∀{i:Nat} {an:G} {o:Obj} {old:Value},ds.drop i=rest->G.up g an->ea≠it->an.hid ea=aj {cls:=.type "enumerate",dict:=au,data:=.fields #[.none,.bool false,.ref it,rawInt i,.none,old],slots:=#[]}->an.hid it=aj o->Jn l i o->ItS aE T true kps [ea,it] ea (Hq i rest) an:=by
 induction rest with
 |nil =>
  intro i an o old hv up0 ne e1 e2 ho;refine⟨ae (AR e1) (ae (AR e2) AC),λr g' U s hT A up hh hk Q hQ=>?_⟩;subst hT;exact hL g' U s A.has (up0.trans up) hk _ λxs hl hr=>wpAny_pyNext_enum_end (A.hh.none h3) ((A.has.hd _ _ ((hh ea (.head _)).trans e1)).ex (Bn rfl (by decide))) ⟨o,((A.has.hd _ _ ((hh it (.tail _ (.head _))).trans e2)).ex (Bn ho.1 (by decide))),ho⟩ hl (cB hr hv) λh' he=>hQ h' λc o hc e=>he c o (nhd (ntl hc)) e
 |cons d rest ih =>
  intro i an o old hv up0 ne e1 e2 ho;refine⟨ae (AR e1) (ae (AR e2) AC),λr g' U s hT A up hh hk t Q ht hQ=>?_⟩;subst hT;have k1:=(hh ea (.head _)).trans e1;have k2:=(hh it (.tail _ (.head _))).trans e2;have f1:=(A.has.hd _ _ k1).ex (Bn rfl (by decide));refine hL g' U s A.has (up0.trans up) hk _ λxs hl hr=>oEA (WY hr hv) λX hX rX=>wpAny_pyNext_enum_item f1 ⟨o,((A.has.hd _ _ k2).ex (Bn ho.1 (by decide))),ho⟩ hl hX ne λh' heo hit' pr hsz hkp=>hQ _ _ λQ' k=>RD (ht rfl) λes cc p q_3=>?_;subst q_3;refine wpAny_letOwnedTupleGo_enum heo λh'' he'' hs''=>?_;have nz:s.heap.objs.size≠ea:=λq=>by have:=ACU f1;rw[q] at this;exact ABU _ this
  exact oEA hit' λo' ho' hd'=>KN (s':={s with heap:=h'',toks:=s.toks+1}) (v:=.d (.int i)) (w:=.d d) A.has (ae (AR k1) (ae (AR k2) AC)) (λc o hc e=>(hs''.2 c (nhd hc)).trans (hkp c o (nhd hc) (nhd (ntl hc)) e)) ((hs''.2 _ nz).trans pr) ⟨_,rfl⟩ rX rfl rfl λam le up2 H R hd=>k am _ le H R (ih (DK hv).2 (up0.trans (up.trans up2)) ne ((hd ea (.head _)).trans he'') ((hd it (.tail _ (.head _))).trans ((hs''.2 _ (Ne.symm ne)).trans ho')) hd')
theorem bE{kps':List (Nat×List V)}{ds ds' rest:List V}{za TI TO i1 i2 l1 l2:Addr}(h3:3<=aE)(hL1:Kn T kps l1 ds g)(hL2:Kn T kps' l2 ds' g)(D:ZipApart za TI TO i1 i2 l1 l2):∀{rest':List V} {j1 j2:Nat} {an:G} {o1 o2:Obj} {a b:Value},ds.drop j1=rest->ds'.drop j2=rest'->G.up g an ->
 an.hid za=aj {cls:=.type "zip",dict:=au,data:=.fields #[.none,.bool false,.bool false,.ref TI,.ref TO],slots:=#[]}->an.hid TI=aj {cls:=.type "tuple",data:=.seq #[.ref i1,.ref i2]}->an.hid TO=aj {cls:=.type "tuple",data:=.seq #[a,b]}->an.hid i1=aj o1->Jn l1 j1 o1->an.hid i2=aj o2->Jn l2 j2 o2 ->
 ItS aE T true (kps++kps') [za,TO,i1,i2,TI] za (It rest rest') an:=by
 have fin:∀{rest rest':List V} {j1 j2:Nat} {an:G} {o1 o2:Obj} {a b:Value},ds.drop j1=rest->ds'.drop j2=rest'->(rest=[]\/rest'=[])->G.up g an ->
  an.hid za=aj {cls:=.type "zip",dict:=au,data:=.fields #[.none,.bool false,.bool false,.ref TI,.ref TO],slots:=#[]}->an.hid TI=aj {cls:=.type "tuple",data:=.seq #[.ref i1,.ref i2]}->an.hid TO=aj {cls:=.type "tuple",data:=.seq #[a,b]}->an.hid i1=aj o1->Jn l1 j1 o1->an.hid i2=aj o2->Jn l2 j2 o2 ->
  ItS aE T true (kps++kps') [za,TO,i1,i2,TI] za [] an:=by
  intro rest rest' j1 j2 an o1 o2 a b v1 v2 hend up0 e1 e2 e3 e4 q4 e5 q5;refine⟨ae (AR e1) (ae (AR e3) (ae (AR e4) (ae (AR e5) (ae (AR e2) AC)))),λr g' U s hT A up hh hk Q hQ=>?_⟩;subst hT;have H:=λc hc o (e:an.hid c=aj o)=>A.has.hd c o ((hh c hc).trans e);refine hL1 g' U s A.has (up0.trans up) (λk ws m=>hk k ws (AAU _ m)) _ λxs hl1 hr1=>hL2 g' U s A.has (up0.trans up) (λk ws m=>hk k ws (AAW _ m)) _ λys hl2 hr2=>wpAny_pyNext_zip_end (A.hh.none h3) D ((H za (.head _) _ e1).ex (Bn rfl (by decide))) ((H TI (.tail _ (.tail _ (.tail _ (.tail _ (.head _))))) _ e2).ex (Bn rfl (by decide))) ((H TO (.tail _ (.head _)) _ e3).ex (Bn rfl (by decide))) ⟨o1,(H i1 (.tail _ (.tail _ (.head _))) _ e4).ex (Bn q4.1 (by decide)),q4⟩ ⟨o2,(H i2 (.tail _ (.tail _ (.tail _ (.head _)))) _ e5).ex (Bn q5.1 (by decide)),q5⟩ hl1 hl2 (hend.imp (λq=>QL hr1 (v1.trans q)) λq=>QL hr2 (v2.trans q)) λh' hkp=>hQ h' λc o hc e=>hkp c o (nhd hc) (nhd (ntl hc)) (nhd (ntl (ntl hc))) (nhd (ntl (ntl (ntl hc)))) e
 induction rest with
 |nil=>intro rest' j1 j2 an o1 o2 a b v1 v2;exact fin v1 v2 (.inl rfl)
 |cons d rest ih =>
  intro rest' j1 j2 an o1 o2 a b v1 v2 up0 e1 e2 e3 e4 q4 e5 q5;cases rest' with
  |nil=>exact fin v1 v2 (.inr rfl) up0 e1 e2 e3 e4 q4 e5 q5
  |cons d' rest' =>
  refine⟨ae (AR e1) (ae (AR e3) (ae (AR e4) (ae (AR e5) (ae (AR e2) AC)))),λr g' U s hT A up hh hk t Q ht hQ=>?_⟩;subst hT;have K:=λc hc o (e:an.hid c=aj o)=>(hh c hc).trans e;have m1:=K za (.head _) _ e1;have m2:=K TO (.tail _ (.head _)) _ e3;have m3:=K i1 (.tail _ (.tail _ (.head _))) _ e4;have m4:=K i2 (.tail _ (.tail _ (.tail _ (.head _)))) _ e5;have m5:=K TI (.tail _ (.tail _ (.tail _ (.tail _ (.head _))))) _ e2;refine hL1 g' U s A.has (up0.trans up) (λk ws m=>hk k ws (AAU _ m)) _ λxs hl1 hr1=>hL2 g' U s A.has (up0.trans up) (λk ws m=>hk k ws (AAW _ m)) _ λys hl2 hr2=>oEA (N1 hr1 v1) λX hX rX=>oEA (N1 hr2 v2) λY hY rY=>wpAny_pyNext_zip_item D ((A.has.hd _ _ m1).ex (Bn rfl (by decide))) ((A.has.hd _ _ m5).ex (Bn rfl (by decide))) ((A.has.hd _ _ m2).ex (Bn rfl (by decide))) ⟨o1,(A.has.hd _ _ m3).ex (Bn q4.1 (by decide)),q4⟩ ⟨o2,(A.has.hd _ _ m4).ex (Bn q5.1 (by decide)),q5⟩ hl1 hl2 hX hY λh' z' TO' t1' t2' pr hsz hkp=>hQ _ _ λQ' k=>RD (ht rfl) λes cc p q_3=>?_;subst q_3;refine wpAny_letOwnedTupleGo_zip z' λh'' z'' hs''=>?_;have nz:s.heap.objs.size≠za:=λq=>by have:=ACU ((A.has.hd _ _ m1).ex (Bn rfl (by decide)));rw[q] at this;exact ABU _ this
  have kp:=λc o q1 q2 q3 q4 e=>(hs''.2 c q1).trans (hkp c o q1 q2 q3 q4 e);exact oEA t1' λp1 w1 w2=>oEA t2' λp2 w3 w4=>KN (s':={s with heap:=h''}) A.has (ae (AR m1) (ae (AR m2) (ae (AR m3) (ae (AR m4) (ae (AR m5) AC))))) (λc o hc e=>kp c o (nhd hc) (nhd (ntl hc)) (nhd (ntl (ntl hc))) (nhd (ntl (ntl (ntl hc)))) e) ((hs''.2 _ nz).trans pr) rX rY rfl rfl λam le up2 H R hd=>k am _ le H R (ih (DK v1).2 (DK v2).2 (up0.trans (up.trans up2)) ((hd za (.head _)).trans z'') ((hd TI (.tail _ (.tail _ (.tail _ (.tail _ (.head _)))))).trans (kp TI _ D.TIz D.TITO D.TIi1 D.TIi2 ((A.has.hd _ _ m5).ex (Bn rfl (by decide))))) ((hd TO (.tail _ (.head _))).trans ((hs''.2 _ D.TOz).trans TO')) ((hd i1 (.tail _ (.tail _ (.head _)))).trans ((hs''.2 _ D.i1z).trans w1)) w2 ((hd i2 (.tail _ (.tail _ (.tail _ (.head _))))).trans ((hs''.2 _ D.i2z).trans w3)) w4)
end
def mR(its:List Addr)(a:Addr)(an:G):Prop:=∀(r:Ar) (g:G) (U:Ac) (s:Shared),Has r.T g U s->(∀c,c∈its->g.hid c=an.hid c)->∀Q:Value->Shared->Prop,Q (.ref a) s->r.wp (pyIter (.ref a)) Q s
def Oo(m:Nat)(T:Top)(b:Bool)(kps:List (Nat×List V))(vs:List V)(g:G)(U':Ac)(x:Value)(s':Shared):Prop :=
 ∀R_:Value->Prop,(∀its a g',G.le its g g'->Has T g' U' s'->(∀c,c∈its->g.hid c=au)->ItS m T b kps its a vs g'->mR its a g'->R_ (.ref a))->R_ x
def SI(n:Nat)(e:E)(J:Al)(U:Ac)(vs:List V)(kps:List (Nat×List V))(U':Ac):Prop :=
 ∀(c:Cx) (g:G) (s:Shared) (ex:Expr),IsE e c.K ex->Inv n c J g U s->c.wp (eval ex c.env) (λx ag=>c.wp (pyIter x) (Oo n c.T (BP e) kps vs g U') ag) s
noncomputable def CV(v:V)(ws:List V):List (Nat×List V):=match v with|.ref k=>[(k,ws)]|_=>[]
section
variable{r:Ar}{g:G}{s s':Shared}{ws vs:List V}{its:List Addr}{q:Bool}
theorem Has.newL(H:Has T g U s)(hn:∀c,c∈its->s.heap.get? c=au)(k:∀c o,s.heap.get? c=aj o->s'.heap.get? c=aj o)(hg:s'.gens=s.gens:=by rfl)(ho:s'.os=s.os:=by rfl):Has T ⟨g.fz,λc=>if c∈its then s'.heap.get? c else g.hid c,g.mu⟩ U s':=by
 refine H.re _ (λa o e=>?_) (λb o _ e'=>k b o e') (λb o _ e'=>k b o e') (λt q o _ e=>k t o e) hg ho;by_cases q:a∈its
 ·have F:=H.free (hn a q);rw[if_pos q] at e;exact⟨.of e,F.fz,F.mu,F.tab⟩
 ·rw[if_neg q] at e;exact⟨(H.hd a o e).keep (k a),(H.ah a o e).1,(H.ah a o e).2,H.hidTab e⟩
theorem Oo.new(le:G.le [] g ai)(H:Has T ai U s)(hn:∀c,c∈its->s.heap.get? c=au)(k:∀c o,s.heap.get? c=aj o->s'.heap.get? c=aj o)(hg:s'.gens=s.gens)(ho:s'.os=s.os)(h:∀g',G.up ai g'->(∀c,c∈its->g'.hid c=s'.heap.get? c)->ItS aE T q kps its it vs g'/\mR its it g'):Oo aE T q kps vs g U (.ref it) s':=λR_ kk=>by
 have up:G.up ai ⟨ai.fz,λc=>if c∈its then s'.heap.get? c else ai.hid c,ai.mu⟩:=⟨λ_ _ e=>e,λ_ _ e=>e⟩
 have h:=h _ up λc hc=>if_pos hc;exact kk its it _ ⟨le.toup.trans up,λc hc=>(if_neg hc).trans (le.hid c AA1)⟩ (H.newL hn k hg ho) (λc hc=>(le.hid c AA1)▸(H.free (hn c hc)).hid) h.1 h.2
theorem Hc(H:Has T g U s)(rx:Au T g v X)(e:A8 U v=aj ws){R_:Value->Prop}(k:∀l xs,s.heap.IsList l xs->Kn T (CV v ws) l ws g->R_ (.ref l)):R_ X:=by
 cases v with
 |d y=>cases y with
  |list ds =>
   obtain rfl:=AAA e;exact rx R_ λa o vs m hf hc hd hr hl=>k a vs ⟨o,H.fz _ _ hf,hc,m,hd⟩ (.frozen hf hc hd (As.ofD hr))
  |_=>exact Aa e
 |ref j =>
  refine oEA rx λl hk q_2=>?_;subst q_2;exact AX (v:=.ref j) H ⟨l,hk,rfl⟩ e (R_:=λX=>X=.ref l->R_ X) (λa xs hL hr _ _ q=>k a xs hL (ABR q▸(Kn.tracked (T:=T) (ws:=ws) hk))) rfl
 |_=>exact Aa e
theorem RN(le:G.le [] g ai)(H:Has r.T ai U s)(hL:s.heap.IsList l xs)(L:Kn r.T kps l ws ai):r.wp (pyIter (.ref l)) (Oo aE r.T false kps ws g U) s :=
 wpAny_pyIter_list hL (.new le H (AQ (BA _)) (λc o e=>AAK _ e) rfl rfl λg' up hd =>
  have e:=(hd _ (.head _)).trans (AA3 _ rfl)
  ⟨WZ L rfl up e rfl rfl,λr' am U' ak aA hh Q hQ=>wpAny_pyIter_listiter ⟨_,(aA.hd _ _ ((hh _ (.head _)).trans e)).ex (Bn rfl (by decide)),rfl,rfl⟩ hQ⟩)
theorem SI.lst(h:SE n e J U v af)(hv:A8 af v=aj ws)(hz:BP e=false:=by rfl):SI n e J U ws (CV v ws) af:=λc g s ex hc I=>by exact hz▸AAO (h c g s ex hc I) (λX ag p=>p _ λai le ao al=>Hc ao al hv (R_:=λX=>c.wp (pyIter X) (Oo n c.T false (CV v ws) ws g af) ag) λl xs hL L=>RN le ao hL L) λ_ _ h=>h
theorem SI.str(hn:3<=n)(h:SE n e J U (.d (.str z)) af)(ha:z.cps.all (· < 128)=true)(hz:BP e=false:=by rfl):SI n e J U (G2 z.cps.toList) [] af:=λc g s ex hc I=>by
 rw[hz];refine AAO (h c g s ex hc I) (λX ag p=>p _ λai le ao al=>?_) λ_ _ h=>h;refine oEA al λt q_1 _=>?_;subst q_1;exact wpAny_pyIter_ascii ha (.new le ao (AQ (BA _)) (λc o e=>AAK _ e) rfl rfl λg' up hd =>
  have e:=(hd _ (.head _)).trans (AA3 _ rfl)
  ⟨bF hn ha rfl e rfl rfl,λr' am U' ak aA hh Q hQ=>wpAny_pyIter_striter_ascii ⟨_,(aA.hd _ _ ((hh _ (.head _)).trans e)).ex (Bn rfl (by decide)),rfl,rfl⟩ hQ⟩)
theorem Kb(h:SEs n a J U ws af)(hc:GE (c.K.to (.ty t)) (Gm a c.K) ex)(I:Inv n c J g U s)(hx:∀ai ag Xs,G.le [] g ai->Inv n c J ai af ag->As c.T ai ws Xs->c.wp (call (.type t) Xs) Q ag):c.wp (eval ex c.env) Q s:=by refine hc (λex=>c.wp (eval ex c.env) Q s) λnm np vs p h1 h2=>PyProof.Rows.Call_Name rfl (Cu I h1 λx hv=>?_);obtain rfl:x=.type t:=hv;exact PyProof.Rows.callWith_type (CH _ _ h2) (CL h2 (AAO (h c g s vs p h2 I) (λXs ag p=>p _ λai le ao al=>hx ai ag Xs le (I.step le ao) al) λ_ _ h=>h))
theorem OD(h1:n<=1000000)(h2:-1000000<=n):Builtin.Range.small 0 n 1=true/\(Builtin.Range.rangeSize 0 n 1).toNat=n.toNat:=by
 refine⟨small_one (by decide) (by decide) (Int.le_trans (by decide) h2) (Int.lt_of_le_of_lt h1 (by decide)),?_⟩;rw[rangeSize_one];by_cases q:(0:Int)<n
 ·rw[if_pos q,Int.sub_zero]
 ·exact(if_neg q)▸(Int.toNat_eq_zero.mpr (Int.not_lt.mp q))▸rfl
theorem SI.range(hn:3<=n)(h:SEs n a J U [.d (.int k)] af)(h1:k<=1000000)(h2:-1000000<=k):SI n (.range a) J U (upV 0 k.toNat) [] af:=λc g s ex hc I=>by refine Kb h hc I λai ag Xs le I1 R=>oX R.one λX q_1 t q_3=>?_;subst q_1;subst q_3;refine oA (OD h1 h2) λe1 e2=>call_range_1 (wpAny_pyIter_range (AA3 _ rfl) e1 (.new le (I1.has.keep λb o e=>AAK _ e) (AQ (BA _)) (λc o e=>AAK _ e) rfl rfl λg' up hd=>?_));have e:=(hd _ (.head _)).trans (AA3 _ rfl);exact⟨Uf hn e2 e,λr' am U' ak aA hh Q hQ=>wpAny_pyIter_rangeiter ((aA.hd _ _ ((hh _ (.head _)).trans e)).ex (Bn rfl (by decide))) hQ⟩
theorem SI.enum(hn:3<=n)(h:SE n a J U v af)(hv:A8 af v=aj (ds.map .d)):SI n (.enum a) J U (Hq 0 ds) (CV v (ds.map .d)) af:=λc g s ex hc I=>by refine Kb (.cons h .nil) hc I λai ag Xs le I1 R=>oEA R.one λX q_1 al=>?_;subst q_1;refine Hc I1.has al hv (R_:=λX=>c.wp (call (.type "enumerate") [X]) (λx ag=>c.wp (pyIter x) (Oo n c.T true (CV v (ds.map .d)) (Hq 0 ds) g af) ag) ag) λl xs hL L=>call_enumerate_list hL λh' he hi hz hk=>wpAny_pyIter_enum he (.new le I1.has (ae (ABO (AA9 _ 1)) (AQ (BA _))) hk rfl rfl λg' up hd=>?_);refine oEA hi λo ho hl=>?_;have e:=(hd _ (.head _)).trans he;exact⟨Xa hn L rfl up (Nat.succ_ne_self _) e ((hd _ (.tail _ (.head _))).trans ho) hl,λr' am U' ak aA hh Q hQ=>wpAny_pyIter_enum ((aA.hd _ _ ((hh _ (.head _)).trans e)).ex (Bn rfl (by decide))) hQ⟩
theorem Py{m i j:Nat}(h:i≠j):m+i≠m+j:=λq=>h (Nat.add_left_cancel q)
theorem LS{h:Heap}(hL:h.IsList l xs)(j:Nat):l≠h.objs.size+j:=λq=>by refine oEA hL λo ho _=>?_;rw[q,ABO (AA9 _ j)] at ho;exact Aa ho
theorem SI.zip(hn:3<=n)(h:SE n a J U x af)(h':SE n b J af y U2)(hx:A8 U2 x=aj ds)(hy:A8 U2 y=aj ds'):SI n (.zip a b) J U (It ds ds') (CV x ds++CV y ds') U2:=λc g s ex hc I=>by
 refine Kb (.cons h (.cons h' .nil)) hc I λai ag Xs le I1 R=>Br R.two λX Y q_2 al ar=>?_;subst q_2;refine Hc I1.has al hx (R_:=λX=>c.wp (call (.type "zip") [X,Y]) (λx ag=>c.wp (pyIter x) (Oo n c.T true _ (It ds ds') g U2) ag) ag) λl xs hL L=>Hc I1.has ar hy (R_:=λY=>c.wp (call (.type "zip") [.ref l,Y]) (λx ag=>c.wp (pyIter x) (Oo n c.T true _ (It ds ds') g U2) ag) ag) λl' ys hL' L'=>call_zip_2 hL hL' λh' hz hTI hTO t1 t2 hsz hk=>?_;have gone:∀j,ag.heap.get? (ag.heap.objs.size+j)=au:=λj=>ABO (AA9 _ _);refine wpAny_pyIter_zip hz (.new le I1.has (ae (gone 4) (ae (gone 3) (ae (gone 0) (ae (gone 1) (AQ (gone 2)))))) hk rfl rfl λg' up hd=>?_);have D:ZipApart (ag.heap.objs.size+4) (ag.heap.objs.size+2) (ag.heap.objs.size+3) (ag.heap.objs.size) (ag.heap.objs.size+1) l l':=by
  constructor<;>first
   |exact LS hL _|exact LS hL 0|exact LS hL' _|exact LS hL' 0|exact Py (by decide)|exact Py (j:=0) (by decide)|exact Py (i:=0) (by decide)
 refine oEA t1 λo1 ho1 hl1=>oEA t2 λo2 ho2 hl2=>?_;have e:=(hd _ (.head _)).trans hz;exact⟨bE hn L L' D (j1:=0) (j2:=0) rfl rfl up e ((hd _ (.tail _ (.tail _ (.tail _ (.tail _ (.head _)))))).trans hTI) ((hd _ (.tail _ (.head _))).trans hTO) ((hd _ (.tail _ (.tail _ (.head _)))).trans ho1) hl1 ((hd _ (.tail _ (.tail _ (.tail _ (.head _))))).trans ho2) hl2,λr' am U' ak aA hh Q hQ=>wpAny_pyIter_zip ((aA.hd _ _ ((hh _ (.head _)).trans e)).ex (Bn rfl (by decide))) hQ⟩
end
noncomputable def Cw(J:Al)(ts:List Nat)(v:V):Al:=match ts with|[i]=>J.set i (aj v)|ts=>Fp J ts ((C6 v).getD [])
def FH(ts:List Nat)(v:V):Prop:=ts.length=1\/∃vs,C6 v=aj vs/\vs.length=ts.length
def Lm(n:Nat)(ts:List Nat)(v:V):Prop:=ts.length=1\/(3<=n/\∃vs,C6 v=aj vs/\vs.length=ts.length)
theorem FH.at(h:FH ts v)(hn:3<=n):Lm n ts v:=h.imp id λq=>⟨hn,q⟩
noncomputable def VM(n:Nat)(ts:List Nat)(b:S)(kps:List (Nat×List V))(Q:Fl->Ac->Prop):List V->Al->Ac->Prop
 |[],J,U=>Cs U kps/\Q (.next J) U
 |v::vs,J,U=>Cs U kps/\Lm n ts v/\SSs n b (Cw J ts v) U λfl U'=>match fl with|.next J'=>VM n ts b kps Q vs J' U'|.ret v=>Q (.ret v) U'
section
variable{c:Cx}{ws vs:List V}{kps:List (Nat×List V)}{its:List Addr}{ts:List Nat}{Q:Fl->Ac->Prop}
theorem Loc.far(x0:Loc c J0 an)(hn:∀a,a∈its->an.hid a=au)(x:Loc c J g)(le:G.le its g g'):Loc c J g':=by
 have h:∀{a o},an.hid a=aj o->g'.hid a=g.hid a:=λe=>le.hid _ λq=>Aj (hn _ q) e;refine⟨λR_ k=>x0.ns R_ λaE h0 _=>x.ns R_ λm h1 h2=>?_,λnm hk R_ k=>x0.ce nm hk R_ λa₀ u0 q0 q1 _=>x.ce nm hk R_ λa u h1 h2 h3=>?_,λa ha q=>?_⟩
 ·exact DC h0 λo _ _ e _=>k m (h1.to λ_ e'=>(h e).trans e') λi nm v e1 e2 e3=>C9 le.toup (h2 i nm v e1 e2 e3)
 ·refine oEA q1 λo e _=>?_;obtain rfl:=Ao q0 h1;exact k a₀ u h1 (h2.to λ_ e'=>(h e).trans e') λi v e1 e2=>C9 le.toup (h3 i v e1 e2)
 ·cases e:an.hid a with
  |none=>exact x0.ow a ha e
  |some o=>exact x.ow a ha ((h e).symm.trans q)
theorem Co.far(aK:Co an fe)(hn:∀a,a∈its->an.hid a=au)(x:Co g fe)(le:G.le its g g'):Co g' fe:=λe he=>by refine GY (aK e he) λ_ aX aP _ _ h1 h2 _=>GY (x e he) λh0 L o es ep h3 h4 h5=>?_;obtain rfl:=Ao h1 h3;exact J2 h0 aX o es ep h3 ((le.hid aX λq=>Aj (hn aX q) h2).trans h4) h5
theorem Co.hideN(x:Co g fe)(h:g.hid a=au):Co (g.hide a o) fe:=λe he=>by exact GY (x e he) λh0 L o' es ep h1 h2 h3=>J2 h0 L o' es ep h1 ((G.hide_ne λq=>Aj h (q▸h2)).trans h2) h3
theorem Inv.far(aK:Co an c.fe)(x0:Loc c J0 an)(hn:∀a,a∈its->an.hid a=au)(x:Inv n c J g U s)(le:G.le its g g')(H:Has c.T g' U' s'):Inv n c J g' U' s':=⟨x.toAt.stepF le.toup (aK.far hn x.frs le) H,x.cx,x0.far hn x.loc le⟩
theorem Inv.bind{t:Expr}{Q:Unit->Shared->Prop}{Er:Value->Shared->Prop}(I:Inv n c J g U s)(hc:IsT c.K ts t)(hb:Lm n ts v)(r:Au c.T g v X)(h:∀g' s',G.le c.own g g'->Inv n c (Cw J ts v) g' U s'->Q () s'):wpAny (model c.T.prog c.T.w) c.A (assign t c.env X) Q Er s:=by
 refine hc (λts t=>Lm n ts v->(∀g' s',G.le c.own g g'->Inv n c (Cw J ts v) g' U s'->Q () s')->wpAny (model c.T.prog c.T.w) c.A (assign t c.env X) Q Er s) (λi nm p h1 _ h=>I.asgn h1 r λg' s' le _ I'=>h g' s' le I') (λes k p h1 h2 hb h=>?_) hb h;refine WA (hb.resolve_left h1) λhn vs e hl=>?_;have eb:Cw J ts v=Fp J ts vs:=by
  match ts,h1 with
  |[],_=>rfl
  |[_],q=>exact absurd rfl q
  |i::j::l,_=>show Fp J (i::j::l) ((C6 v).getD [])=_;rw[e];rfl
 rw[eb] at h;exact CZ I.has r e (R_:=λX=>wpAny (model c.T.prog c.T.w) c.A (assign (.Tuple es k p) c.env X) Q Er s) λt Xs hT hr _ _=>I.unpack h2 hT hr hl hn h
theorem OR(hc:IsT c.K ts t)(hz:Id ts it=true)(h:BP it=true):∃es k p,t=.Tuple es k p :=
 hc (λts t=>Id ts it=true->∃es k p,t=.Tuple es k p) (λi nm p _ hz=>by unfold Id at hz;rw[if_pos h] at hz;exact absurd hz ABB) (λes k p _ _ _=>(Fb es k p rfl)) hz
theorem SS.for_(hi:SI n it J U vs kps af)(h:VM n ts st kps Q vs J af):SS n (.for_ ts it st) J U Q:=λc g s x hc I=>hc (λx=>c.wp (exec x c.env) (BI n c g Q) s) λt i bd p h1 h2 h3=>by
 refine wpAny_For (AAO (hi c g s i h2 I) (λX ag h₁=>AAO h₁ (λitv ak p=>?_) λ_ _ h=>h) λ_ _ h=>h) ((BR it h2).fold c.env);refine p (λitv=>codeAny (model c.T.prog c.T.w) c.A (.forLoop t itv bd [] c.env) _ ak) λits a am le2 aA new it2 _=>?_;have ni:∀a,a∈its->a∉c.own:=λa q q'=>I.loc.ow a q' (new a q);have toI:∀{g g'},G.le its g g'->G.le (its++c.own) g g':=λle=>⟨le.toup,λa q=>le.hid a λh=>q (AAU _ h)⟩
 have toO:∀{g g'},G.le c.own g g'->G.le (its++c.own) g g':=λle=>⟨le.toup,λa q=>le.hid a λh=>q (AAW _ h)⟩
 have mono:∀{vs g g'},G.le c.own g g'->ItS n c.T (BP it) kps its a vs g->ItS n c.T (BP it) kps its a vs g':=λle h=>h.mono le.toup λc hc=>le.hid c (ni c hc);refine codeAny_forLoop_any (I:=λk s'=>∀R_:Prop,(∀vs J U g',k=vs.length->VM n ts st kps Q vs J U->G.le (its++c.own) g g'->Inv n c J g' U s'->ItS n c.T (BP it) kps its a vs g'->R_)->R_) (λk az hz=>hz _ λvs J3 U3 aB hk w ay I3 it3=>?_) vs.length
  λR_ kk=>kk vs J af am rfl h (toI le2) (I.far I.frs I.loc new le2 aA) it2
 subst hk;cases vs with
 |nil =>
  refine AAO (it3.2 c.toAr aB U3 az rfl I3.toAt (.refl _) (λ_ _=>rfl) w.1 (λr ag=>r=au/\BI n c g Q .next ag) λh' hk=>⟨rfl,?_⟩) (λr ag h=>by rw[h.1];exact wpAny_execs_nil h.2) λ_ _ h=>h.elim;exact AS (I3.has.back (s':={az with heap:=h'}) ay new hk (I3.has.away it3.1)) λhd H le e=>λR_ k1 _=>k1 J3 U3 _ w.2 le (I3.far I.frs I.loc new ⟨⟨λ_ _ e=>e,λ_ _ e=>e⟩,e⟩ H)
 |cons v vs =>
  refine AAO (it3.2 c.toAr aB U3 az rfl I3.toAt (.refl _) (λ_ _=>rfl) w.1 t (λr ag=>∃X,r=aj X/\∀Q':Unit->Shared->Prop,(∀g' s',G.le its aB g'->Has c.T g' U3 s'->Au c.T g' v X->ItS n c.T (BP it) kps its a vs g'->Q' () s')->c.wp (letOwnedTupleGo t (.ref a) X) Q' ag) (OR h1.1 h1.2) λX ag k=>(iEA X rfl k)) (λr ag h=>?_) λ_ _ h=>h.elim;obtain⟨X,rfl,h⟩:=h;refine AAO (h _ λaQ aJ le4 aC r4 it4=>?_) (λ_ _ h=>h) λ_ _ h=>h.elim;refine(I3.far I.frs I.loc new le4 aC).bind h1.1 w.2.1 r4 λg5 s5 le5 I5=>?_;have le':=ay.trans ((toI le4).trans (toO le5));refine AAO (w.2.2 c g5 s5 bd h3 I5) (λf s6 p=>p.elim (λJ6 U6 g6 aO q l6 I6=>?_) λv x U6 g6 aO q l6 H w r6=>?_) λ_ _ h=>h.elim
  ·subst aO;exact iEA vs.length (ADN _) (λR_ kk=>kk vs J6 U6 g6 rfl q (le'.trans (toO l6)) I6 (mono (le5.trans l6) it4))
  ·subst aO;exact AS (H.back (s':=s6) (le'.trans (toO l6)) new (λ_ _ _ e=>e) (H.away (mono (le5.trans l6) it4).at)) λhd H' le e=>λR_ _ k2=>k2 v x U6 _ q le H' (λa ha q=>w a ha ((e a λq=>ni a q ha).symm.trans q)) (Au.eta r6)
end
noncomputable def Ex(env:Env):List (Str×NameKind)->List (Str×Addr)->List (Str×Addr)
 |[],acc=>acc
 |p::r,acc=>Ex env r (if (p.2==.free)=true then(p.1,(env.cells.lookup p.1).getD 0)::acc else acc)
noncomputable def Bp:Al->List Nat->Al
 |J,[]=>J
 |J,i::ts=>Bp (J.set i au) ts
section
variable{α β:Type}[BEq α][LawfulBEq α]
theorem Bj{l:List (α×β)}(h:l.lookup a=aj b):(a,b)∈l:=by
 induction l with
 |nil=>exact Aa h
 |cons p r ih =>
  obtain⟨x,y⟩:=p;rw[AC8] at h;cases q:a==x with
  |true=>rw[q] at h;rw[ABM q,<-AAA h];exact .head _
  |false=>rw[q] at h;exact .tail _ (ih h)
theorem Fz{l:List (α×β)}(h:(a,b)∈l):∃b',l.lookup a=aj b':=by
 induction l with
 |nil=>exact nomatch h
 |cons p r ih =>
  obtain⟨x,y⟩:=p;rw[AC8];cases q:a==x with
  |true=>exact⟨y,rfl⟩
  |false=>exact(AAR.mp h).elim (λe=>by rw[ABK e |>.1,beq_self_eq_true] at q;exact tt_ q) ih
end
theorem OT{k:NameKind}(h:(k==.free)=true):k=.free:=ABM h
theorem Ht:∀{names:List (Str×NameKind)} {acc:List (Str×Addr)},(n,c)∈Ex env names acc->(n,c)∈acc\/((n,NameKind.free)∈names/\c=(env.cells.lookup n).getD 0)
 |[],acc,h=>.inl h
 |(m,k)::r,acc,h=>by
  rcases Ht (names:=r) h with h|h
  ·by_cases hk:(k==NameKind.free)=true
   ·rw[if_pos hk] at h;exact(AAR.mp h).elim (λh=>.inr ⟨by rw[OT hk,(ABK h).1];exact .head _,by rw[(ABK h).1];exact(ABK h).2⟩) .inl
   ·rw[if_neg hk] at h;exact .inl h
  ·exact .inr ⟨.tail _ h.1,h.2⟩
theorem NQ:∀{names:List (Str×NameKind)} {acc:List (Str×Addr)},p∈acc->p∈Ex env names acc
 |[],_,h=>h
 |(m,k)::r,acc,h=>NQ (names:=r) (by
  by_cases hk:(k==NameKind.free)=true
  ·exact(if_pos hk)▸.tail _ h
  ·rw[if_neg hk];exact h)
theorem NP:∀{names:List (Str×NameKind)} {acc:List (Str×Addr)},(n,NameKind.free)∈names->(n,(env.cells.lookup n).getD 0)∈Ex env names acc
 |[],_,h=>nomatch h
 |(m,k)::r,acc,h=>(AAR.mp h).elim (λh=>NQ (names:=r) (((ABK h).2)▸((ABK h).1)▸.head _)) (NP (names:=r))
theorem QQ(h:(n,NameKind.free)∈names)(e:env.cells.lookup n=aj c):(Ex env names []).lookup n=aj c:=by
 refine oE (Fz (NP (env:=env) (acc:=[]) h)) λc' h'=>?_;rcases Ht (Bj h') with q|q
 ·exact nomatch q
 ·rw[h',q.2,e];rfl
theorem Gv(scope:Scope)(h:∀n,(n,NameKind.free)∈scope.names->∃c,env.cells.lookup n=aj c):closureFor scope env=pure (Ex env scope.names []):=by
 have gen:∀(names:List (Str×NameKind)) (acc:List (Str×Addr)),(∀n,(n,NameKind.free)∈names->∃c,env.cells.lookup n=aj c) ->
  (forIn names acc (λx r=>if (x.2==NameKind.free)=true then(cellOf env x.1>>=λc=>pure (ForInStep.yield ((x.1,c)::r))) else pure (ForInStep.yield r)):Sem (List (Str×Addr)))=pure (Ex env names acc):=by
  intro names
  induction names with
  |nil=>intro acc _;rfl
  |cons p r ih =>
   intro acc hh;rw[List.forIn_cons];by_cases hk:(p.2==NameKind.free)=true
   ·refine oE (hh p.1 (OT hk▸.head _)) λc hc=>?_;have e:cellOf env p.1=pure c:=by unfold cellOf;rw[hc]
    rw[if_pos hk,e,pure_bind,pure_bind];refine(ih _ λn hn=>hh n (.tail _ hn)).trans ?_;show _=pure (Ex env r (if (p.2==NameKind.free)=true then _ else _));exact(if_pos hk)▸hc▸rfl
   ·rw[if_neg hk,pure_bind];refine(ih _ λn hn=>hh n (.tail _ hn)).trans ?_;show _=pure (Ex env r (if (p.2==NameKind.free)=true then _ else _));rw[if_neg hk]
 unfold closureFor;rw[bind_pure];exact(gen scope.names [] h)
theorem Ea:∀{ts:List Nat} {J:Al} {i:Nat} {v:V},(Bp J ts)[i]? = aj (aj v)->i∉ts/\J[i]? = aj (aj v)
 |[],J,i,v,h=>⟨AA1,h⟩
 |j::ts,J,i,v,h=>by
  refine oA (Ea (ts:=ts) h) λh1 h2=>?_;by_cases q:j=i
  ·rw[q] at h2;by_cases hl:i<J.length
   ·rw[AB1 hl] at h2;exact Aa (AAA h2)
   ·rw[List.getElem?_eq_none (by rw[AB0];exact ACI hl)] at h2;exact Aa h2
  ·rw[ADJ q] at h2;exact⟨λm=>(AAR.mp m).elim (λe=>q e.symm) h1,h2⟩
theorem HD:∀{ts:List Nat} {vs:List V} {J:Al} {i:Nat},i∉ts->(Fp J ts vs)[i]? = J[i]?
 |[],vs,J,i,h=>by cases vs<;>rfl
 |j::ts,[],J,i,h=>rfl
 |j::ts,w::vs,J,i,h=>(HD (ts:=ts) λq=>h (.tail _ q)).trans (ADJ λ(q:j=i)=>h (q▸.head _))
theorem Ss{ts:List Nat}{v u:V}{i:Nat}(h:(Bp J ts)[i]? = aj (aj u)):(Cw (Bp J ts) ts v)[i]? = aj (aj u):=by
 have q:=(Ea h).1;refine Eq.trans ?_ h
 match ts,q with
 |[],_=>exact HD AA1
 |[j],q=>exact ADJ λ(e:j=i)=>q (e▸.head _)
 |j::k::l,q=>exact HD q
structure Iy(K:Kx)(ts:List Nat)(sc:Scope):Prop where
 kind:sc.kind=.function
 nm:∀p,p∈sc.names->OL K ts p=true
 uni:∀p,p∈sc.names->sc.names.lookup p.1=aj p.2
 dot:(".0" : Str)∉K.vars
 tgt:∀i,i∈ts->∃m,K.vars[i]? = aj m/\sc.names.lookup m=aj .local
section
variable{K:Kx}{sc:Scope}
theorem OB(h:IA K ts sc=true):Iy K ts sc:=by
 have h1:=AAH.mp h;have h2:=AAH.mp h1.1;have h3:=AAH.mp h2.1;have h4:=AAH.mp h3.1;refine⟨AAG h4.1,ACH.mp h4.2,λp hp=>AAG (ACH.mp h3.2 p hp),λq=>?_,λi hi=>?_⟩
 ·have:=h2.2;rw[List.contains_iff_mem.mpr q] at this;exact ff_ this
 ·have:=ACH.mp h1.2 i hi;cases e:K.vars[i]? with
  |none=>rw[e] at this;exact ff_ this
  |some m=>rw[e] at this;exact iEA m rfl (AAG this)
theorem HK{R_:Prop}(h:OL K ts p=true)(k1:p.2=.local->(p.1=(".0" : Str)\/∃i,i∈ts/\K.vars[i]? = aj p.1)->R_)(k2:p.2=.free->(K.names.lookup p.1=aj .cell\/K.names.lookup p.1=aj .free)->R_)(k3:p.2=.globalImplicit->R_):R_:=by
 rcases ABC.mp h with h|h
 ·have h1:=AAH.mp h;refine k1 (AAG h1.1) ((ABC.mp h1.2).imp ABM λq=>?_);exact oEA (ADR.mp q) λi hi e=>iEA i hi (AAG e)
 ·rcases ABC.mp h with h|h
  ·have h1:=AAH.mp h;exact k2 (AAG h1.1) ((ABC.mp h1.2).imp Kx.kd_eq Kx.kd_eq)
  ·exact k3 (AAG h)
theorem BG{R_:Prop}{a b:NameKind}(h:a=b)(e:decide (a=b)=false):R_:=by rw[AAI h] at e;exact tt_ e
theorem Iy.noc(S:Iy K ts sc):∀p,p∈sc.names->p.2≠.cell:=λp hp q=>HK (S.nm p hp) (λe _=>BG (q.symm.trans e) rfl) (λe _=>BG (q.symm.trans e) rfl) λe=>BG (q.symm.trans e) rfl
theorem Iy.fre(S:Iy K ts sc)(h:(x,NameKind.free)∈sc.names):K.names.lookup x=aj .cell\/K.names.lookup x=aj .free:=HK (S.nm _ h) (λe _=>BG e rfl) (λ_ q=>q) λe=>BG e rfl
theorem HE{E:List (Str×NameKind)}(h:(D9 E names).lookup x=aj k):(x,k)∈names\/((x,NameKind.free)∈names/\k=.cell):=by
 refine oEA (AAP.mp (Bj h)) λq_0 hp e=>?_;obtain⟨m,k'⟩:=q_0;have e:(if (k'==.free&&E.lookup m==aj .cell)=true then(m,NameKind.cell) else(m,k'))=(x,k):=e;by_cases q:(k'==.free&&E.lookup m==aj .cell)=true
 ·rw[if_pos q] at e;rw[(OT (AAH.mp q).1),(ABK e).1] at hp;exact .inr ⟨hp,(ABK e).2.symm⟩
 ·rw[if_neg q] at e;rw[e] at hp;exact .inl hp
theorem Iy.loc(S:Iy K ts sc)(h:(D9 K.names sc.names).lookup x=aj .local):x=(".0" : Str)\/∃i,i∈ts/\K.vars[i]? = aj x:=by
 rcases HE h with h|h
 ·exact HK (S.nm _ h) (λ_ q=>q) (λe _=>BG e rfl) λe=>BG e rfl
 ·exact BG h.2 rfl
theorem Iy.out(S:Iy K ts sc)(h:(D9 K.names sc.names).lookup x=aj .cell\/(D9 K.names sc.names).lookup x=aj .free):(x,NameKind.free)∈sc.names:=by
 rcases h with h|h
 ·rcases HE h with h|h
  ·exact absurd rfl (S.noc _ h)
  ·exact h.1
 ·rcases HE h with h|h
  ·exact h
  ·exact h.1
theorem Gr{env:Env}(hk:env.scope.kind=.function)(hn:env.scope.names=K.names):(relabel sc env).names=D9 K.names sc.names:=AC4 λp _=>by obtain⟨m,k⟩:=p;show(if (k==.free&&env.scope.kind==.function&&env.kindOf m==aj .cell)=true then(m,NameKind.cell) else(m,k))=(if (k==.free&&K.names.lookup m==aj .cell)=true then(m,NameKind.cell) else(m,k));rw[hk,AL hn,show(ScopeKind.function==ScopeKind.function)=true from rfl,Bool.and_true]
end
noncomputable abbrev MM(c:Cx)(ts:List Nat)(sc:Scope)(C:Addr):Cx:=⟨c.toAr,c.K.sub ts sc,compEnvC sc (Ex c.env sc.names []) C c.env,[C]⟩
theorem IP(X:I0 n c):(MM c ts sc C).env.kindOf x=(D9 c.K.names sc.names).lookup x:=AL (K:=c.K.sub ts sc) (Gr X.kind X.names) x
theorem IQ(S:Iy c.K ts sc)(X:I0 n c)(L:Loc c J g)(h:(x,NameKind.free)∈sc.names){R_:Prop}(k:∀a u,c.env.cells.lookup x=aj a->(MM c ts sc C).env.cells.lookup x=aj a->Gy g.hid a u->(∀(i:Nat) (v:V),c.K.vars[i]? = aj x->J[i]? = aj (aj v)->∃x,u=aj x/\Au c.T g v x)->R_):R_ :=
 L.ce x (by rw[AL X.names];exact S.fre h) R_ λa u h1 h2 h3=>k a u h1 (QQ h h1) h2 h3
theorem Z5(S:Iy c.K ts sc)(X:I0 n c)(L:Loc c J g):I0 n (MM c ts sc C):=by
 have look:∀m a,(MM c ts sc C).env.cells.lookup m=aj a->c.env.cells.lookup m=aj a:=λm a h=>by
  rcases Ht (Bj h) with q|q
  ·exact nomatch q
  ·exact IQ (C:=C) S X L q.1 λa' u h1 h2 _ _=>h1.trans (h2.symm.trans h)
 refine⟨X.rd,Gr X.kind X.names,S.kind,X.glob,X.blt,X.hfr,λm m' a h h'=>X.cinj m m' a (look m a h) (look m' a h'),X.nd,.head _,λm hm a hk _=>?_,λt q h=>Aa h⟩;refine oEA (List.mem_filterMap.mp (show m∈ts.filterMap λi=>c.K.vars[i]? from hm)) λi hi e=>?_;refine oEA (S.tgt i hi) λm' e' hl=>?_;rw[Ao e' e] at hl;rw[IP X] at hk;exact BG (Ao (S.uni _ (S.out (.inl hk))) hl) rfl
theorem Wo(S:Iy c.K ts sc)(X:I0 n c)(L:Loc c J g)(hC:g.hid C=au)(hn:NsF (g.hide C o).hid C λ_=>au):Loc (MM c ts sc C) (Bp J ts) (g.hide C o):=by
 have up:G.up g (g.hide C o):=⟨λ_ _ e=>e,λ_ _ e=>e⟩
 refine⟨λR_ k=>k _ hn λi nm v e1 e2 e3=>?_,λnm hk R_ k=>?_,AQ (AR G.hide_self)⟩
 ·rw[IP X] at e3;rcases S.loc e3 with q|⟨j,hj,q⟩
  ·exact absurd (q▸AA5 e1) S.dot
  ·exact absurd (HI X.nd q e1▸hj) (Ea e2).1
 ·rw[IP X] at hk;refine IQ (C:=C) S X L (S.out hk) λa u h1 h2 h3 h4=>k a u h2 (h3.to λo' e=>(G.hide_ne λq=>Aj hC (q▸e)).trans e) λi v e1 e2=>C9 up (h4 i v e1 (Ea e2).2)
noncomputable abbrev E8(ifs:List Expr)(env:Env)(b:Bool):Sem Bool :=
 forIn ifs b λc r=>if r=true then(isTrue c env (eval c env)>>=λok=>pure (ForInStep.yield ok)) else pure (ForInStep.yield r)
def mO(c:Cx)(target elt:Expr)(ifs:List Expr)(it acc:Value)(Dn:Shared->Prop)(v:Value)(s:Shared):Prop :=
 c.wp (letOwnedTupleGo target it v) (λ_ ag=>c.wp (assign target c.env v) (λ_ ak=>c.wp (E8 ifs c.env true) (λok az=>(ok=false->Dn az)/\(ok=true->c.wp (eval elt c.env) (λx aJ=>c.wp (call (.builtin "list.append") [acc,x]) (λ_ s5=>Dn s5) aJ) az)) ak) ag) s
theorem Mu(I:Nat->Shared->Prop)
 (turn:∀n s,I n s->∀Q:Option Value->Shared->Prop,(∀ag,R (.ok .next) ag->Q au ag)->(∀v ag,mO c target elt ifs it acc (λs'=>∃m,m<n/\I m s') v ag->Q (aj v) ag)->c.wp (pyNext it) Q s)
 (n:Nat) (h:I n s):codeAny (model c.T.prog c.T.w) c.A (.compLoop (.ListComp elt [⟨target,iter,ifs,0⟩] scope pos) 0 it acc c.env) R s:=by
 refine codeAny_loop rfl I (λn s hI=>?_) n h;refine wpAny_noted ?_;rw[compTurn_list];refine AAD (AA7 (AAD (AAO (turn n s hI _ ?_ ?_) (λr ag h=>h) λ_ _ h'=>h'.elim)))
 ·exactλag h=>AAY h
 intro v ag h;refine AAD (AAO h (λ_ s1' bn=>?_) λ_ _ h'=>h'.elim);refine AAD (AAO bn (λ_ ak aY=>AAD (AAO aY (λok az aM=>?_) λ_ _ h'=>h'.elim)) λ_ _ h'=>h'.elim);cases ok with
 |false=>exact AAY ⟨rfl,aM.1 rfl⟩
 |true=>exact AAD (AAD (AAO (aM.2 rfl) (λx aJ aT=>AAD (AAO aT (λ_ s5 be=>AAY (AAY ⟨rfl,be⟩)) λ_ _ h'=>h'.elim)) λ_ _ h'=>h'.elim))
def SIf(n:Nat)(e:E)(J:Al)(U:Ac)(b:Bool)(U':Ac):Prop :=
 ∀(c:Cx) (g:G) (s:Shared) (xs:List Expr),Gm e c.K xs->Inv n c J g U s->c.wp (E8 xs c.env true) (λx s'=>CI c.T [] g U' (λ_=>x=b) s') s
noncomputable def Gx(n:Nat)(elt:E)(ts:List Nat)(ifs:E)(kps:List (Nat×List V))(J:Al)(U':Ac):List V->Ac->List V->Prop
 |[],U,ws=>Cs U kps/\ws=[]/\U'=U
 |v::vs,U,ws=>Cs U kps/\Lm n ts v/\∃t af,SIf n ifs (Cw (Bp J ts) ts v) U t af/\(t=false->Gx n elt ts ifs kps J U' vs af ws)/\(t=true->∃u us U2,SE n elt (Cw (Bp J ts) ts v) af u U2/\ws=u::us/\Gx n elt ts ifs kps J U' vs U2 us)
noncomputable abbrev Ed(xs:Array Value)(m:Nat):Obj:={cls:=.type "list",dict:=au,data:=.seq xs m,slots:=#[]}
theorem Gp(env:Env):∀ifs:List Expr,E8 ifs env false=pure false
 |[]=>rfl
 |c::r=>by show(forIn (c::r) false _:Sem Bool)=_;rw[List.forIn_cons,if_neg ABB,pure_bind];exact Gp env r
theorem SIf.nil:SIf n .nil J U true U:=λc g s xs hc I=>by obtain rfl:xs=[]:=hc;exact AAY (.refl I.has rfl)
theorem Uy:E8 (x::l) env true=(isTrue x env (eval x env)>>=λok=>E8 l env ok):=by show(forIn (x::l) true _:Sem Bool)=_;rw[List.forIn_cons,if_pos rfl,bind_assoc];exact bind_congr λok=>pure_bind _ _
theorem SIf.cons(h:ST n a J U true af)(h':SIf n r J af q U2):SIf n (.cons a r) J U q U2:=λc g s xs hc I=>hc (λxs=>c.wp (E8 xs c.env true) (λx s'=>CI c.T [] g U2 (λ_=>x=q) s') s) λx l h1 h2=>Bq Uy
 (BV (h c g s x h1 I) λok ai ag le ao e=>by subst e;exact BQ le (h' c ai ag l h2 (I.step le ao)))
theorem SIf.no(h:ST n a J U false af):SIf n (.cons a r) J U false af:=λc g s xs hc I=>hc (λxs=>c.wp (E8 xs c.env true) (λx s'=>CI c.T [] g af (λ_=>x=false) s') s) λx l h1 h2=>Bq Uy
 (BV (h c g s x h1 I) λok ai ag le ao e=>by subst e;exact Bq (Gp _ _) (AAY (.mk ai le ao rfl)))
theorem Loc.less(L:Loc c J g)(h:∀(i:Nat) (v:V),J'[i]? = aj (aj v)->J[i]? = aj (aj v)):Loc c J' g:=⟨λR_ k=>L.ns R_ λm h1 h2=>k m h1 λi nm v e1 e2 e3=>h2 i nm v e1 (h i v e2) e3,λnm hk R_ k=>L.ce nm hk R_ λa u h1 h2 h3=>k a u h1 h2 λi v e1 e2=>h3 i v e1 (h i v e2),L.ow⟩
theorem Po(aK:Co an c.fe)(x0:Loc c (Bp J ts) an)(hn:∀b,b∈D::its->an.hid b=au)(hD:D∉its)(h4:IsT c.K ts t)(h5:IsE elt c.K x)(h6:Gm ifs c.K cs)(ht:q=true->∃es k p,t=.Tuple es k p)(hl:ws.length<=line)
 (fin:∀g' s' xs m h',G.le ((D::its)++c.own) g g'->Inv n c (Bp J ts) g' U' s'->ItS n c.T q kps its it [] g'->g'.hid D=aj (Ed xs m)->As c.T g' ws xs.toList->(∀b o,b∉its->s'.heap.get? b=aj o->h'.get? b=aj o)->R (.ok .next) {s' with heap:=h'})
 (hr:Gx n elt ts ifs kps J U' vs U ws) (I:Inv n c (Bp J ts) g U s) (hi:ItS n c.T q kps its it vs g) (hDo:g.hid D=aj (Ed #[] aE)):codeAny (model c.T.prog c.T.w) c.A (.compLoop (.ListComp x [⟨t,i,cs,0⟩] sc pos) 0 (.ref it) (.ref D) c.env) R s:=by
 have no:=λb h h'=>x0.ow b h' (hn b h);have toO:∀{g g'},G.le c.own g g'->G.le ((D::its)++c.own) g g':=λle=>⟨le.toup,λa q=>le.hid a λh=>q (AAW _ h)⟩
 have toA:∀{g g'},G.le (D::its) g g'->G.le ((D::its)++c.own) g g':=λle=>⟨le.toup,λa q=>le.hid a λh=>q (AAU _ h)⟩
 have toI:∀{g g'},G.le its g g'->G.le (D::its) g g':=λle=>⟨le.toup,λa q=>le.hid a λh=>q (.tail _ h)⟩
 refine Mu (I:=λk s=>∀R_:Prop,(∀vs U g' ys zs xs m,k=vs.length->Gx n elt ts ifs kps J U' vs U zs->ws=ys++zs->G.le ((D::its)++c.own) g g'->Inv n c (Bp J ts) g' U s->ItS n c.T q kps its it vs g'->g'.hid D=aj (Ed xs m)->As c.T g' ys xs.toList->R_)->R_) (λk az hz=>hz _ λvs U3 aB ys zs xs m hk w hw ay I3 aZ bg r3 Q kn ks=>?_) vs.length
  λR_ kk=>kk vs U g [] ws #[] aE rfl hr rfl (.refl _ _) I hi hDo trivial
 subst hk;cases vs with
 |nil =>
  refine oAA w λw1 q_1 q_2=>?_;subst q_1;subst q_2;rw[AAV] at hw;exact aZ.2 c.toAr aB _ az rfl I3.toAt (.refl _) (λ_ _=>rfl) w1 Q λh' hk=>kn _ (fin aB az xs m h' ay I3 aZ bg (hw▸r3) hk)
 |cons v vs =>
  refine WB w λw1 w2 bx U6 w3 w4 w5=>aZ.2 c.toAr aB U3 az rfl I3.toAt (.refl _) (λ_ _=>rfl) w1 t Q ht λX ag k=>ks X ag (k _ λaQ aJ le4 aC r4 bp=>?_);refine(I3.far aK x0 hn (toI le4) aC).bind h4 w2 r4 λg5 s5 le5 I5=>AAO (w3 c g5 s5 cs h6 I5) (λok s6 p=>p _ λg6 le6 bq aO=>?_) λ_ _ h=>h;have I6:=I5.step le6 bq;have l56:=le5.trans le6.toO;have d6:=(l56.hid D (no D (.head _))).trans ((le4.hid D hD).trans bg);have i6:=bp.mono l56.toup λb hb=>l56.hid b (no b (.tail _ hb));have L6:=ay.trans ((toA (toI le4)).trans (toO l56));have r6:=As.mono (le4.toup.trans l56.toup) r3;have less:∀(i:Nat) (u:V),(Bp J ts)[i]? = aj (aj u)->(Cw (Bp J ts) ts v)[i]? = aj (aj u):=λi u=>Ss;subst aO;refine⟨λq=>(iEA vs.length (ADN _) (λR_ kk=>kk vs U6 g6 ys zs xs m rfl (w4 q) hw L6 ⟨I6.toAt,I6.cx,I6.loc.less less⟩ i6 d6 r6)),λq=>?_⟩;refine Cr (w5 q) λu us U7 w6 q_4 w7=>?_;subst q_4;refine AAO (w6 c g6 s6 x h5 I6) (λY s7 p=>p _ λg7 le7 a9 r7=>?_) λ_ _ h=>h;have d7:=(le7.hid D AA1).trans d6;have r8:=As.mono le7.toup r6;have hz:xs.size<=sizeLine:=by rw[<-Bd,<-ABA,<-r8.length];rw[hw,AAF] at hl;exact AAC (AA9 _ _) hl
  refine wpAny_list_append_plain ⟨m,(a9.hd _ _ d7).ex (Bn rfl (by decide))⟩ (λh' hp hs=>?_) hz;refine oE hp λm' hp=>?_;have le8:G.le (D::its) g7 (g7.hide D (Ed (xs.push Y) m')):=.hide (.head _);have I8:=(I6.step le7 a9).far aK x0 hn le8 (a9.rehide (s':={s7 with heap:=h'}) d7 (λb x q e=>(hs.2 b q).trans e) hp);refine(iEA vs.length (ADN _) (λR_ kk=>kk vs U7 _ (ys++[u]) us (xs.push Y) m' rfl w7 (by rw[ABQ];exact hw) (L6.trans (le7.toO.trans (toA le8))) ⟨I8.toAt,I8.cx,I8.loc.less less⟩ ((i6.mono le7.toup λb _=>le7.hid b AA1).mono le8.toup λb hb=>G.hide_ne λq=>hD (q▸hb)) G.hide_self ?_));rw[Array.toList_push];exact(As.mono le8.toup r8).append ⟨Au.mono le8.toup _ _ r7,trivial⟩
section
variable{c:Cx}{q:Bool}
theorem NsF.heap(H:Has T g U s)(h:NsF g.hid C m):s.heap.Ns C m:=H.ns h
theorem NM(hI:SI n it J U vs kps af)(hr:Gx n elt ts ifs kps J U' vs af ws)(hl:ws.length<=line)
 (h1:IsE it c.K i) (hs:IA c.K ts sc=true) (hz:Id ts it=true) (h4:IsT (c.K.sub ts sc) ts t) (h5:IsE elt (c.K.sub ts sc) x) (h6:Gm ifs (c.K.sub ts sc) cs) (I:Inv n c J g U s)
 (fin:∀am ak D C m,G.le [C] g am->g.hid C=au->NsF am.hid C m->Cg c.toAr am U' ws (.ref D) ak->compPost (model c.T.prog c.T.w) c.A (λ_ _=>False) use Q (.ref D) C (.ok .next) ak) :
 c.wp (comprehension (.ListComp x [⟨t,i,cs,0⟩] sc pos) sc c.env P (newList []) false (eval i c.env) use) Q s:=by
 have S:=OB hs;refine wpAny_comprehension_free rfl ((BR it h1).fold c.env) (Gv sc λm hm=>IQ (C:=0) S I.cx I.loc hm λa _ e _ _ _=>⟨a,e⟩) S.kind (λp hp hl=>by rw[S.uni p hp,hl]) (AAO (hI c g s i h1 I) (λX ag h₁=>AAO h₁ (λitv ak p=>?_) λ_ _ h=>h) λ_ _ h=>h);refine p (λitv=>c.wp (newList []) (λacc az=>c.wp (newFunctionEnv sc c.env.globals (Ex c.env sc.names []) [] c.env.qual au .none (aj c.env)) (λcenv aJ=>codeAny (model c.T.prog c.T.w) c.A (.compStart (.ListComp x [⟨t,i,cs,0⟩] sc pos) 0 itv acc {cenv with scope:=relabel sc c.env}) (compPost (model c.T.prog c.T.w) c.A (λ_ _=>False) use Q acc cenv.locals) aJ) az) ak) λits a am le2 aA new bh self=>wpAny_newList ?_ (ABF _);refine wpAny_newFunctionEnv S.noc (λy hy=>nomatch hy) (λh₁ hns hsb=>?_) S.kind;have hC:ak.heap.objs.size≠(ak.heap.push (Ed #[] 0)).objs.size:=λq=>by rw[ADP] at q;exact Nat.succ_ne_self _ q.symm
 have hC0:ak.heap.get? (ak.heap.push (Ed #[] 0)).objs.size=au:=ABO (by rw[ADP];exact ADL _);have hD0:ak.heap.get? ak.heap.objs.size=au:=BA _;have hD1:=(hsb.2 _ hC).trans (AAK _ (AA3 _ rfl));have old:∀b o,ak.heap.get? b=aj o->h₁.get? b=aj o:=λb o e=>(hsb.2 b λq=>by rw[q] at e;exact Aj hC0 e).trans (AAK _ (AAK _ e));have ne:∀{b},b∈its->∀{d},ak.heap.get? d=au->b≠d:=λ{b} hb {d} hd q=>by
  cases e:am.hid b with
  |none=>exact bh.at b hb e
  |some o=>refine oEA (aA.hd b o e) λ_ e' _=>?_;exact Aj (q▸hd) e'
 generalize(ak.heap.push (Ed #[] 0)).objs.size=C at *;generalize ak.heap.objs.size=D at *;refine DC hns λoC es ep hCo hCn=>?_;have FC:=aA.free hC0;have FD:=aA.free hD0;have nD:∀{b},b∈its->b≠D:=λhb=>ne hb hD0;have nC:∀{b},b∈its->b≠C:=λhb=>ne hb hC0;have hD:=λq=>nD q rfl;have hgC:=(le2.hid C λq=>nC q rfl).symm.trans FC.hid;have hgD:=(le2.hid D hD).symm.trans FD.hid;have aC:=(FC.hide (aA.keep (s':={ak with heap:=h₁,toks:=ak.toks+([]:List (Str×Value)).length}) old) hCo).hide FD.fz FD.mu FD.tab (λ_ _ _ e=>e) hD1;have x0:=Wo S I.cx I.loc hgC ⟨oC,es,ep,G.hide_self,hCn⟩;have hn:∀b,b∈D::its->(g.hide C oC).hid b=au:=ae ((G.hide_ne hC).trans hgD) λb hb=>(G.hide_ne (nC hb)).trans (new b hb);have l0:G.le (D::its) (g.hide C oC) ((am.hide C oC).hide D (Ed #[] 0)):=⟨⟨le2.fz,le2.mu⟩,λb hb=>(G.hide_ne (nhd hb)).trans (congrArg (λz=>if b=C then aj oC else z) (le2.hid b (ntl hb)))⟩
 have lg:G.le ((D::its)++[C]) g ((am.hide C oC).hide D (Ed #[] 0)):=⟨⟨le2.fz,le2.mu⟩,λb hb=>(G.hide_ne λ(q:b=D)=>hb (AAU _ (q▸.head _))).trans ((G.hide_ne λ(q:b=C)=>hb (AAW _ (q▸.head _))).trans (le2.hid b λq=>hb (AAU _ (.tail _ q))))⟩
 have aK:Co (g.hide C oC) c.fe:=I.frs.hideN hgC;have I4:Inv n (MM c ts sc C) (Bp J ts) _ af _:=⟨I.toAt.stepF lg.toup (aK.far hn aK l0) aC,Z5 S I.cx I.loc,x0.far hn x0 l0⟩
 have hd:∀b,b∈its->((am.hide C oC).hide D (Ed #[] 0)).hid b=am.hid b:=λb hb=>(G.hide_ne (nD hb)).trans (G.hide_ne (nC hb));have loop:codeAny (model c.T.prog c.T.w) c.A (.compLoop (.ListComp x [⟨t,i,cs,0⟩] sc pos) 0 (.ref a) (.ref D) (MM c ts sc C).env) (compPost (model c.T.prog c.T.w) c.A (λ_ _=>False) use Q (.ref D) C) {ak with heap:=h₁,toks:=ak.toks+([]:List (Str×Value)).length}:=by
  refine Po aK x0 hn hD h4 h5 h6 (OR (c:=MM c ts sc C) h4 hz) hl (λg' s' xs m h' le I5 i5 d5 r5 hk=>?_) hr I4 (ItS.mono (g:=am) ⟨λ_ _ e=>e,λ_ _ e=>e⟩ hd bh) G.hide_self;have aw:=I5.has.away (ae (AR d5) i5.at);refine AS (I5.has.back (s':={s' with heap:=h'}) (lg.trans le) (ae hgD new) (λb o hb e=>hk b o (ntl hb) e) aw) λhd' H' le' e'=>?_;have F:Dw c.T ⟨g'.fz,hd',g'.mu⟩ D:=⟨(aw D (.head _)).1,(le'.hid D λq=>hC (AAJ.mp q)).trans hgD,(aw D (.head _)).2.1,(aw D (.head _)).2.2⟩
  exact I5.loc.ns _ λm' h1 _=>fin ⟨g'.fz,hd',g'.mu⟩ _ D C m' le' hgC (h1.to λo e=>(e' C λq=>(AAR.mp q).elim (λq=>hC q.symm) λq=>nC q rfl).trans e) λR_ kk=>kk _ D xs m (.refl _ _) H' F (hk D _ hD ((I5.has.hd _ _ d5).ex (Bn rfl (by decide)))) (As.eta r5) hl
 exact codeAny_compStart_list loop (AAO (self c.toAr _ _ _ aC hd _ loop) (λ_ _ h=>h) λ_ _ h=>h.elim)
theorem SL.comp(hI:SI n it J U vs kps af)(hr:Gx n elt ts ifs kps J U' vs af ws)(hl:ws.length<=line):SL n (.comp elt ts it ifs) J U ws U':=λc g s ex hc I=>hc (λex=>c.wp (eval ex c.env) (Cg c.toAr g U' ws) s) λx t i cs sc p h1 h2 h4 h5 h6=>Bq (eval_ListComp ..)
 (NM hI hr hl h1 h2.1 h2.2 h4 h5 h6 I λam ak D C m le hC hns hN=>hN (λX=>compPost (model c.T.prog c.T.w) c.A (λ_ _=>False) au (Cg c.toAr g U' ws) X C (.ok .next) ak) λaB a xs m' ay aL F ho hr hl=>by have hn:=hns.to λo e=>(ay.hid C AA1).trans e;refine⟨m,hn.heap aL,λh' hs R_ k=>?_⟩;refine DC hn λo _ _ e _=>AS (aL.back (s':={ak with heap:=h'}) (le.trans ay.toO) (AQ hC) (λb o hb e=>(hs.2 b (nhd hb)).trans e) (aL.away (AQ (AR e)))) λhd H' le' e'=>?_;have ne:a≠C:=λq=>Aj F.hid (q▸e);exact k _ a xs m' le' H' ⟨F.fz,(e' a λq=>ne (AAJ.mp q)).trans F.hid,F.mu,F.tab⟩ ((hs.2 a ne).trans ho) (As.eta hr) hl)
theorem Pp{p vp:Pos}{sc:Scope}(X:I0 n c)(h:(decide (c.K.names.lookup nm=aj .local)&&(decide (p.line=vp.line)&&!(sc.names.any λq=>q.1==nm&&(q.2==.local||q.2==.cell))))=true):swapsWith (.ListComp x [⟨t,i,cs,0⟩] sc vp) (aj (.Name nm p)) l c.env=pure true:=by have h1:=AAH.mp h;have h2:=AAH.mp h1.2;show(pure (c.env.blockKind==.function&&c.env.kindOf nm==aj .local&&p.line==vp.line&&!(sc.names.any λq=>q.1==nm&&(q.2==.local||q.2==.cell))):Sem Bool)=_;rw[show(c.env.blockKind==.function)=true by unfold Env.blockKind;rw[X.kind];rfl,AL X.names,AAG h1.1,AAG h2.1,h2.2,beq_self_eq_true,beq_self_eq_true];rfl
theorem So{nm:Str}{p vp:Pos}{x t i:Expr}{cs:List Expr}{sc:Scope}{l:Nat}(X:I0 n c)(h:c.K.names.lookup nm=aj .cell):swapsWith (.ListComp x [⟨t,i,cs,0⟩] sc vp) (aj (.Name nm p)) l c.env=pure false:=by show(pure (c.env.blockKind==.function&&c.env.kindOf nm==aj .local&&p.line==vp.line&&!(sc.names.any λq=>q.1==nm&&(q.2==.local||q.2==.cell))):Sem Bool)=_;rw[AL X.names,h,show(aj NameKind.cell==aj NameKind.local)=false from rfl,AC9];rfl
theorem Vl{p vp p':Pos}{x t i:Expr}{cs:List Expr}{sc:Scope}{env:Env}(h:∀l,swapsWith (.ListComp x [⟨t,i,cs,0⟩] sc vp) (aj (.Name nm p)) l env=pure true):exec (.Assign [.Name nm p] (.ListComp x [⟨t,i,cs,0⟩] sc vp) p') env =
 (standAt p'>>=λ_=>(comprehension (.ListComp x [⟨t,i,cs,0⟩] sc vp) sc env (firstIterPos [⟨t,i,cs,0⟩] vp) (newList []) false (eval i env) (aj λv=>assign (.Name nm p) env v)>>=λ_=>pure ())>>=λ_=>pure Flow.next):=by
 rw[arm_exec_Assign];show(standAt p'>>=λ_=>swapsWith (.ListComp x [⟨t,i,cs,0⟩] sc vp) (aj (.Name nm p)) p'.line env>>=_)=_;rw[h];have hall:∀v,assignAll v [assign (.Name nm p) env]=assign (.Name nm p) env v:=λv=>by first|rfl|(unfold assignAll;rfl)
 exact(funext hall)▸rfl
theorem SS.asgC(hI:SI n it J U vs kps af)(hr:Gx n elt ts ifs kps J U' vs af ws)(hl:ws.length<=line)(hv:∀{r:Ar} {g X s},Cg r g U' ws X s->Ans r g v U2 X s)(hq:Q (.next (J.set k (aj v))) U2):SS n (.asg k (.comp elt ts it ifs)) J U Q:=λc g s st hc I=>hc (λst=>c.wp (exec st c.env) (BI n c g Q) s) λnm p ex p' h1 h2 h3=>by
 refine h2 (λex=>S9 c.K nm p ex=true->c.wp (exec (.Assign [.Name nm p] ex p') c.env) (BI n c g Q) s) (λx t i cs sc vp k1 k2 k4 k5 k6 h3=>?_) h3;rcases ABC.mp (show(_||_)=true from h3) with h3|h3
 rotate_left
 ·rw[arm_exec_Assign];refine AAD (AA7 ?_);show c.wp (swapsWith (.ListComp x [⟨t,i,cs,0⟩] sc vp) (aj (.Name nm p)) p'.line c.env>>=_) _ _;rw[So I.cx (AAG h3),pure_bind,if_neg ABB];have hc2:IsE (.comp elt ts it ifs) c.K (.ListComp x [⟨t,i,cs,0⟩] sc vp):=λR_ kk=>kk x t i cs sc vp k1 k2 k4 k5 k6;have hE:SE n (.comp elt ts it ifs) J U v U2:=λc g s ex hc I=>AAO (SL.comp hI hr hl c g s ex hc I) (λ_ _ p=>hv p) λ_ _ h=>h;refine BF hE hc2 I λX ai ag le I1 al=>?_;rw[show swappedStores [.Name nm p] (.ListComp x [⟨t,i,cs,0⟩] sc vp) c.env=pure au by unfold swappedStores;rfl,pure_bind];unfold assignStores;show c.wp (assignAll X [assign (.Name nm p) c.env]>>=λ_=>pure Flow.next) _ _;exact(show assignAll X [assign (.Name nm p) c.env]=assign (.Name nm p) c.env X by first|rfl|(unfold assignAll;rfl))▸AAD (I1.asgn h1 al λam ak le2 _ I2=>AAY λR_ k1 _=>k1 _ U2 am hq (le.toO.trans le2) I2)
 refine Bq (Vl λl=>Pp I.cx h3) (AAD (AA7 (AAD (AAD (NM hI hr hl k1 k2.1 k2.2 k4 k5 k6 I λam ak D C m le hC hns hN=>?_)))));refine hv hN _ λaB ay aL r3=>?_;have ba:=le.trans ay.toO;refine(I.far I.frs I.loc (AQ hC) ba aL).asgn h1 r3 λaQ aJ le4 _ I4=>?_;have hn:=hns.to λo e=>(le4.hid C (λq=>I.loc.ow C q hC)).trans ((ay.hid C AA1).trans e);refine(iEA m (hn.heap I4.has) (λh' hs=>AAY (AAY λR_ k1 _=>?_)));exact DC hn λo _ _ e _=>AS (I4.has.back (s':={aJ with heap:=h'}) ⟨ba.toup.trans le4.toup,λb hb=>(le4.hid b λq=>hb (.tail _ q)).trans (ba.hid b λq=>hb (AAJ.mp q▸.head _))⟩ (AQ hC) (λb o hb e=>(hs.2 b (nhd hb)).trans e) (I4.has.away (AQ (AR e)))) λhd H' le' e'=>k1 _ U2 _ hq le' (I4.far I.frs I.loc (AQ hC) ⟨⟨λ_ _ e=>e,λ_ _ e=>e⟩,e'⟩ H')
end
theorem Ee:∀{names:List (Str×NameKind)} {k:Nat} {acc:List (Str×Addr)},(∃c,(n,c)∈acc)->∃c,(n,c)∈cellsFrom k names acc
 |[],_,_,h=>h
 |(m,kd)::r,k,acc,h=>by
  show∃c,(n,c)∈(if (kd==.cell)=true then cellsFrom (k+1) r ((m,k)::acc) else cellsFrom k r acc);by_cases q:(kd==.cell)=true
  ·exact(if_pos q)▸Ee (names:=r) (h.imp λc h=>.tail _ h)
  ·exact(if_neg q)▸Ee h
theorem Cm:∀{names:List (Str×NameKind)} {k:Nat} {acc:List (Str×Addr)},(n,NameKind.cell)∈names->∃c,(n,c)∈cellsFrom k names acc
 |[],_,_,h=>nomatch h
 |(m,kd)::r,k,acc,h=>by
  show∃c,(n,c)∈(if (kd==.cell)=true then cellsFrom (k+1) r ((m,k)::acc) else cellsFrom k r acc);rcases AAR.mp h with h|h
  ·exact((ABK h).1)▸((ABK h).2)▸Ee (names:=r) ⟨k,.head _⟩
  ·by_cases q:(kd==.cell)=true
   ·exact(if_pos q)▸Cm h
   ·exact(if_neg q)▸Cm h
section
variable{kf:Str->Option NameKind}
theorem NX:∀{bs:List (Str×Value)} {m:Str->Option Value},(∀p,p∈bs->p.1≠n)->bindL kf bs m n=m n/\bindC kf bs m n=m n
 |[],m,_=>⟨rfl,rfl⟩
 |(k,v)::r,m,h=>by
  have ne:n≠k:=λq=>h (k,v) (.head _) q.symm;have ih:=λm=>NX (m:=m) λp hp=>h p (.tail _ hp);show bindL kf r (if kf k=aj .local thenλy=>if y=k then aj v else m y else m) n=m n/\bindC kf r (if kf k=aj .local then m elseλy=>if y=k then aj v else m y) n=m n;rw[(ih _).1,(ih _).2];by_cases q:kf k=aj .local
  ·exact(if_pos q)▸(if_pos q)▸⟨if_neg ne,rfl⟩
  ·exact(if_neg q)▸(if_neg q)▸⟨rfl,if_neg ne⟩
theorem Hw:∀{ns:List Str} {vs:List Value} {m:Str->Option Value} {i:Nat},ns.Nodup->ns[i]? = aj n->vs[i]? = aj v ->
 (kf n=aj .local->bindL kf (ns.zip vs) m n=aj v)/\(kf n≠aj .local->bindC kf (ns.zip vs) m n=aj v)
 |[],_,_,_,_,h1,_=>Aa h1
 |_::_,[],_,_,_,_,h2=>Aa h2
 |k::ns,w::vs,m,0,hn,h1,h2=>by
  obtain rfl:=AAA h1;obtain rfl:=AAA h2;have out:=λm=>NX (kf:=kf) (n:=k) (m:=m) (bs:=ns.zip vs) λp hp q=>(ABX.mp hn).1 (q▸(List.of_mem_zip hp).1);refine⟨λhk=>(out _).1.trans ?_,λhk=>(out _).2.trans ?_⟩
  ·exact(if_pos hk)▸if_pos rfl
  ·exact(if_neg hk)▸if_pos rfl
 |k::ns,w::vs,m,i+1,hn,h1,h2=>⟨(Hw (ABX.mp hn).2 h1 h2).1,(Hw (ABX.mp hn).2 h1 h2).2⟩
end
def Rk(v:V)(U':Ac)(fl:Fl)(U:Ac):Prop:=(match fl with|.next _=>v=.d .none|.ret u=>v=u)/\U'=U
noncomputable def BD(fn:Fn)(xs:List V):Al:=xs.map aj++List.replicate (fn.nv-fn.np) au
theorem Su{fn:Fn}{xs:List V}{i:Nat}{v:V}(h:(BD fn xs)[i]? = aj (aj v)):xs[i]? = aj v:=by
 unfold BD at h;by_cases hi:i<xs.length
 ·rw[ABE (by rw[AAB];exact hi),ABI,AAN hi] at h;exact(AAN hi)▸AAA h
 ·rw[AA6 (lml (ACI hi)),List.getElem?_replicate] at h;exact Aa (Bo h).2
section
variable{fn:Fn}{xs:List V}{r:Ar}{s:Shared}{Xs:List Value}{fd:FuncData}{body:List Stmt}{o:Obj}{vars:List Str}{lam:Option (Addr×Str)}
noncomputable abbrev DB(env:Env):List Addr:=env.locals::env.scope.names.filterMap λp=>env.cells.lookup p.1
noncomputable abbrev Y4(r:Ar)(env:Env)(vars:List Str)(lam:Option (Addr×Str)):Cx:=⟨⟨r.T,env::r.fe,r.A.deeper env⟩,⟨vars,env.scope.names,vars,glP,lam⟩,env,DB env⟩
theorem NT(F:cZ r.T glP fn a fd body o vars lam)(hn:1<=n)(hl:xs.length=fn.np)(aok:Km r.T)(afr:r.A.frames=aj r.fe)(adp:r.A.depth+(n+1)<=600)(aun:r.A.units+100*(n+1)<=9000)(ahh:HOk n g r.A)(afs:Co g r.fe)(H:Has r.T g U s)(R:As r.T g xs Xs)(hE:env=callEnvC fd s.heap.objs.size a)
 (ic:InCallC s env.locals (bindL env.kindOf ((vars.take fn.np).zip Xs) λ_=>au) env.cells (bindC env.kindOf ((vars.take fn.np).zip Xs) λ_=>au) ag):∃ai,Inv n (Y4 r env vars lam) (BD fn xs) ai U ag/\G.le (DB env) g ai/\∀c,c∈DB env->g.hid c=au:=by
 have esc:env.scope=fd.scope:=by rw[hE];rfl
 have eloc:env.locals=s.heap.objs.size:=by rw[hE];rfl
 have new:∀c,c∈DB env->s.heap.get? c=au:=ae (eloc▸BA _) λc hc=>by exact oEA (List.mem_filterMap.mp hc) λp _ hp=>ABO (ACF (eloc▸ic.above p.1 c (Bj hp)))
 refine oEE ic.toInCall.same λh₁ tk hs=>DC (id ic.toInCall.ns) λoL esL epL hL hLd=>?_;have le:G.le (DB env) g (G.hide ⟨g.fz,λc=>if c∈DB env then ag.heap.get? c else g.hid c,g.mu⟩ env.locals (frO oL)):=⟨⟨λ_ _ e=>e,λ_ _ e=>e⟩,λc hc=>(G.hide_ne λ(q:c=env.locals)=>hc (q▸.head _)).trans (if_neg hc)⟩
 have hd:∀{c},c∈DB env->c≠env.locals->∀o,ag.heap.get? c=aj o->(G.hide ⟨g.fz,λc=>if c∈DB env then ag.heap.get? c else g.hid c,g.mu⟩ env.locals (frO oL)).hid c=aj o:=λhc hn o e=>(G.hide_ne hn).trans ((if_pos hc).trans e);have tf:Rj env:=⟨(by rw[esc,F.kind];exactλq=>nomatch q),esc▸F.gen,esc▸F.cor,by rw[hE];exact F.blt,by rw[hE];exact F.glob⟩
 have frs:Co (G.hide ⟨g.fz,λc=>if c∈DB env then ag.heap.get? c else g.hid c,g.mu⟩ env.locals (frO oL)) (env::r.fe):=λe he=>by
  rcases AAR.mp he with q|q
  ·rw[q];exact⟨tf,env.locals,frO oL,esL,epL,(hE▸rfl),G.hide_self,rfl,hLd.1⟩
  ·exact GY (afs e q) λh0 L o' es ep h1 h2 h3=>J2 h0 L o' es ep h1 ((le.hid L λq=>by refine oEA (H.hd L o' h2) λ_ e' _=>?_;exact Aj (new L q) e').trans h2) h3
 have kd:∀x,env.kindOf x=fd.scope.names.lookup x:=λx=>by unfold Env.kindOf;rw[esc]
 have mem:∀{x c k},fd.scope.names.lookup x=aj k->env.cells.lookup x=aj c->c∈DB env:=λ{x c k} h e=>.tail _ (List.mem_filterMap.mpr (iEA (x,k) (esc▸Bj h) e));have par:∀{i x v},vars[i]? = aj x->(BD fn xs)[i]? = aj (aj v)->∃X,((env.kindOf x=aj .local->bindL env.kindOf ((vars.take fn.np).zip Xs) (λ_=>au) x=aj X)/\(env.kindOf x≠aj .local->bindC env.kindOf ((vars.take fn.np).zip Xs) (λ_=>au) x=aj X))/\Au r.T g v X:=λ{i x v} e1 e2=>by have e3:=Su e2;refine oEA (R.get e3) λX e4 rX=>?_;have hi:=hl▸(AAM.mp e3).1;exact iEA X (Hw (List.Nodup.sublist (AC0 fn.np vars) F.nd) (by rw[ACW hi];exact e1) e4) rX
 refine(AB _ ⟨⟨aok,?_,(Eu env r.fe rfl tf),?_,?_,by exact ahh.mono ⟨λ_ _ e=>e,λ_ _ e=>e⟩,frs,((H.newL new ic.toInCall.keep (by rw[hs]) (by rw[hs])).rehideH ((if_pos (.head _)).trans hL) (λ_ _ _ e=>e) (.fr hL))⟩,⟨aok.toReady,rfl,esc▸F.kind,by rw[hE];exact F.glob,by rw[hE];exact F.blt,(Eu env r.fe rfl rfl),λm m' c h h'=>name_of_addr ic.apart (Bj h) (Bj h'),F.nd,.head _,λm _ c hk hc=>mem ((kd m).symm.trans hk) hc,λt q h=>?_⟩,⟨λR_ k=>k (bindL env.kindOf ((vars.take fn.np).zip Xs) λ_=>au) ?_ λi nm u e1 e2 e3=>?_,λnm hk R_ k=>?_,λc hc=>?_⟩⟩ le (λc hc=>(H.free (new c hc)).hid))
 ·show r.A.frames.map _=_;exact afr▸rfl
 ·show r.A.depth+1+n<=600;rw[ADG,AC5 1 n];exact adp
 ·show r.A.units+3+100*n<=9000;have:=aun;rw[Nat.mul_add] at this;exact AAC (by rw[ADG,AC5 3];exact AC3 (AC3 (by decide) _) _) this
 ·exact oAA (F.lam t q h) λh1 h2 h3=>⟨hn,h1,by rw[hE];exact h2,by rw[hE];exact h3⟩
 ·exact⟨frO oL,esL,epL,G.hide_self,hLd⟩
 ·exact oEA (par e1 e2) λX h rX=>iEA X (h.1 e3) (Au.mono le.toup _ _ rX)
 ·have hc:=by rw[kd] at hk;exact hk.elim id λq=>absurd rfl (F.nof _ (Bj q))
  obtain⟨c,h⟩:=Cm (Bj hc);refine oE (Fz h) λc h=>?_;have h:env.cells.lookup nm=aj c:=by rw[hE];exact h
  exact k c _ h (Gy.to (ic.cell nm c h) (hd (mem hc h) ((λ{x c} e=>Nat.ne_of_gt (ic.above x c (Bj e))) h))) λi u e1 e2=>oEA (par e1 e2) λX q rX=>iEA X (q.2 (by rw[kd,hc];exactλq=>nomatch q)) (Au.mono le.toup _ _ rX)
 ·rw[show(Y4 r env vars lam).own=DB env from rfl] at hc;refine Gc ?_;show(if c∈DB env then ag.heap.get? c else g.hid c)≠au;rw[if_pos hc];rcases AAR.mp hc with q|q
  ·refine DC ic.toInCall.ns λo _ _ e _=>?_;rw[q,e];exactλq=>nomatch q
  ·refine oEA (List.mem_filterMap.mp q) λp _ hp=>oEA (ic.cell p.1 c hp) λo e _=>?_;rw[e];exactλq=>nomatch q
theorem FA.run(hP:Pg f=aj fn)(hl:xs.length=fn.np)(hb:SSs n fn.body (BD fn xs) U (Rk v U'))(hn:1<=n)(hf:r.T.fn f=aj a)(aok:Km r.T)(afr:r.A.frames=aj r.fe)(adp:r.A.depth+(n+1)<=600)(aun:r.A.units+100*(n+1)<=9000)(ahh:HOk n g r.A)(afs:Co g r.fe)(H:Has r.T g U s)(R:As r.T g xs Xs):r.wp (call (.ref a) Xs) (Ans r g v U') s:=aok.fns f fn a hP hf _ λfd body o vars lam F=>by
 have hz:=λb o e=>H.fz b o (H.base b o e);refine wpAny_call (codeAny_call_cells (AAS (AAC (AA9 _ _) adp) (by decide)) (hz _ _ F.ob) F.data (aok.ok.nolimit.keeps hz) (F.code.keeps hz) F.bd (F.bind Xs (R.length.symm.trans hl)) F.clo (λp hp=>?_) (λag ic=>?_) F.cor F.gen F.kind)
 ·refine(F.par p.1 (List.of_mem_zip hp).1).imp id λh=>⟨h,?_⟩
  obtain⟨c,q⟩:=Cm (Bj h);exact oE (Fz q) λc q=>q▸rfl
 ·refine AS (NT F hn hl aok afr adp aun ahh afs H R rfl ic) λai I le new=>?_;have done:∀{am ak x},G.le (DB (callEnvC fd s.heap.objs.size a)) ai am->Has r.T am U' ak->(∀c,c∈DB (callEnvC fd s.heap.objs.size a)->am.hid c≠au)->Au r.T am v x->Ans r g v U' x ak:=λ{am ak x} l aA w rx=>by exact AS (aA.back (own:=[]) (AAV _▸le.trans l) new (λ_ _ _ e=>e) (aA.away w)) λhd H' le' _=>.mk _ le' H' (Au.eta rx)
  refine AAO (hb _ ai ag body F.is I) (λfl ak p=>p.elim (λJ U2 am e q l I2=>?_) λu x U2 am e q l H w rx=>?_) λ_ _ h=>h.elim
  ·refine oA q λq1 q_1=>?_;subst q_1;subst e;exact done l I2.has I2.loc.ow (q1▸rfl)
  ·refine oA q λq1 q_1=>?_;subst q_1;subst e;exact done l H w (q1▸rx)
theorem FA.of(hP:Pg f=aj fn)(hl:xs.length=fn.np)(hb:SSs n fn.body (BD fn xs) U (Rk v U'))(hn:1<=n):FA (n+1) f xs U v U':=λr g s a Xs hf A R=>FA.run hP hl hb hn hf A.ok A.frames A.depth A.units (A.hh.less (ADL _)) A.frs A.has R
end
noncomputable def low(m:Nat):V->Prop
 |.ref k=>k<m
 |.tup ws=>∀k,.inr k∈ws->k<m
 |.obj ks=>∀k,k∈ks->k<m
 |.pr x y=>low m x/\low m y
 |_=>True
noncomputable def Gj(m:Nat):O->Prop
 |.list vs=>∀v,v∈vs->low m v
 |_=>True
noncomputable def G.seal(g:G)(m:Nat)(h:Heap):G:=⟨λa=>if a∈g.mu.drop m then h.get? a else g.fz a,g.hid,g.mu.take m⟩
def SnR(U:Ac)(m k:Nat)(d:PyData):Prop:=∃ds,d=.list ds/\m<=k/\U[k]? = aj (.list (ds.map .d))
noncomputable def SnW(U:Ac)(m:Nat):PyData⊕Nat->PyData->Prop
 |.inl x,d=>d=x
 |.inr k,d=>SnR U m k d
noncomputable def Sn(U:Ac)(m:Nat):V->PyData->Prop
 |.d x,d=>d=x
 |.ref k,d=>SnR U m k d
 |.tup ws,d=>∃ds,d=.tuple ds/\Ay (SnW U m) ws ds
 |_,_=>False
section
variable{T:Top}{g:G}{v:V}{X:Value}{m n:Nat}{h:Heap}{d:PyData}
theorem Ay.mem{α β:Type}{R:α->β->Prop}{as:List α}{bs:List β}{a:α}(h:Ay R as bs)(ha:a∈as):∃b,R a b:=by refine oE (List.mem_iff_getElem?.mp ha) λk hk=>?_;refine oEA (h.get hk) λb _ r=>?_;exact⟨b,r⟩
theorem Nl{k:Nat}{a:Addr}(e:g.mu[k]? = aj a):k<g.mu.length:=(AAM.mp e).1
theorem W5:∀{v:V} {X:Value},Au T g v X->low g.mu.length v:=by
 intro v
 induction v with
 |ref k=>intro X rx;refine oEA rx λa e _=>?_;exact Nl e
 |tup ws=>intro X rx;exact rx (λ_=>_) λa o vs n h1 h2 h3 h4 h5 k hk=>by refine AH (h4.mem hk) λb a e _=>?_;exact Nl e
 |obj ks=>intro X rx;exact rx (λ_=>_) λa d o mA _ _ _ _ _ _ _ h k hk=>by refine AH (h.mem hk) λb a e _=>?_;exact Nl e
 |pr x y ix iy=>intro X rx;exact rx (λ_=>_) λa o vs n _ _ _ h4 _=>by refine Br h4 λa' b' _ r1 r2=>?_;exact⟨ix r1,iy r2⟩
 |_=>intro X rx;trivial
theorem Tj(rx:DP T g o x):Gj g.mu.length o:=by
 cases o with
 |list vs=>exact rx (λ_=>_) λxs m hr _ v hv=>by refine oE (hr.mem hv) λb e=>?_;exact W5 e
 |_=>trivial
theorem DT(H:Has T g U s):MA g.fz (g.seal m h).fz:=λa o e=>(if_neg λ(q:a∈g.mu.drop m)=>Aj (H.ap a (ACX q)) e).trans e
theorem PR(hk:k<m)(e:g.mu[k]? = aj a):(g.seal m h).mu[k]? = aj a:=(ACW hk).trans e
theorem Ay.imp{α β:Type}{R S:α->β->Prop}:∀{as:List α} {bs:List β},(∀a b,a∈as->R a b->S a b)->Ay R as bs->Ay S as bs
 |[],[],_,_=>trivial
 |_::_,_::_,h,x=>⟨h _ _ (.head _) x.1,Ay.imp (λa b ha=>h a b (.tail _ ha)) x.2⟩
 |[],_::_,_,x=>x.elim
 |_::_,[],_,x=>x.elim
structure G.upTo(m:Nat)(g g':G):Prop where
 fz:MA g.fz g'.fz
 mu:∀(k:Nat) (a:Addr),k<m->g.mu[k]? = aj a->g'.mu[k]? = aj a
theorem LG(up:G.upTo m g g')(hl:low m v)(rx:Au T g v X):Au T g' v X:=by
 induction v generalizing X with
 |d y=>exact AI.mono up.fz _ _ rx
 |ref k=>refine oEA rx λa e q=>?_;exact⟨a,up.mu k a hl e,q⟩
 |tup ws=>exact CO.mono up.fz (λvs=>Ay.imp λw v hw r=>by
  cases w with
  |inl y=>exact AI.mono up.fz _ _ r
  |inr k=>refine oEA r λa e q=>?_;exact⟨a,up.mu k a (hl k hw) e,q⟩) rx
 |ty t=>exact rx
 |obj ks=>exactλR_ k=>rx R_ λa d o mA h1 h2 h3 h4 h5 h6 h7 h8=>k a d o mA (up.fz _ _ h1) h2 h3 h4 h5 (h6.to up.fz) h7 (Ay.imp (λk _ hk=>λ⟨a,e,q⟩=>⟨a,up.mu k a (hl k hk) e,q⟩) h8)
 |pr x y ix iy=>exact CO.mono up.fz (λvs=>λ⟨a,b,e,h1,h2⟩=>⟨a,b,e,ix hl.1 h1,iy hl.2 h2⟩) rx
 |exc k=>exactλR_ kk=>rx R_ λe D o vs h1 h2 h3 h4 h5=>kk e D o vs (up.fz _ _ h1) h2 h3 h4 h5
 |ecl k=>exact rx
theorem GS(up:G.upTo m g g')(hl:Gj m o)(rx:DP T g o x):DP T g' o x:=by
 cases o with
 |list vs=>exactλR_ k=>rx R_ λxs m hr hz=>k xs m (Ay.imp (λv x hv r=>LG up (hl v hv) r) hr) hz
 |dictS kvs=>exactλR_ k=>rx R_ λes ep ws ho hd hk hp hn hr hl=>k es ep ws ho hd hk hp hn (Ay.mono (λd v r=>⟨r.1,AI.mono up.fz _ _ r.2⟩) hr) hl
 |dictP kvs=>exactλR_ k=>rx R_ λes ep ws ho hd he hn hr hl=>k es ep ws ho hd he hn (Ay.mono (λd v r=>⟨r.1,AI.mono up.fz _ _ r.2.1,AI.mono up.fz _ _ r.2.2⟩) hr) hl
theorem Wz(H:Has T g U s):G.upTo m g (g.seal m h):=⟨DT H,λ_ _ hk e=>PR hk e⟩
theorem R9(H:Has T g U s)(hl:Gj m o)(rx:DP T g o x):DP T (g.seal m h) o x:=GS (Wz H) hl rx
theorem GM{a:Addr}(hn:g.mu.Nodup)(h1:a∈g.mu.take m)(h2:a∈g.mu.drop m):False:=by exact(ABW.mp ((List.take_append_drop m g.mu).symm▸hn)).2.2 a h1 a h2 rfl
theorem Has.seal(H:Has T g (U++τ) s)(hl:∀(k:Nat) o,U[k]? = aj o->Gj U.length o):Has T (g.seal U.length s.heap) U s:=by
 have out:∀{a},a∉g.mu->(g.seal U.length s.heap).fz a=g.fz a:=λh=>if_neg λq=>h (ACX q);refine⟨λa o e=>?_,H.hd,?_,List.Nodup.sublist (AC0 _ _) H.nd,λa ha=>(if_neg λq=>GM H.nd ha q).trans (H.ap a (ACJ ha)),λa o e=>⟨(out (H.ah a o e).2).trans (H.ah a o e).1,λq=>(H.ah a o e).2 (ACJ q)⟩,λk a o e1 e2 R_ kk=>?_,λa o e=>DT H a o (H.base a o e),λt q ht R_ kk=>H.tb t q ht R_ λps h1 h2 h3 h4 h5 h6=>kk ps ((out h3).trans h1) h2 (λq=>h3 (ACJ q)) h4 h5 λpos cv e=>?_,H.gens,H.os⟩
 ·have e:(if a∈g.mu.drop U.length then s.heap.get? a else g.fz a)=aj o:=e;by_cases q:a∈g.mu.drop U.length
  ·rw[if_pos q] at e;exact e
  ·rw[if_neg q] at e;exact H.fz a o e
 ·show(g.mu.take U.length).length=_;exact ACP▸H.len▸AAF▸ACL (AA9 _ _)
 ·have hk:k<U.length:=(AAM.mp e2).1;have e1:(g.mu.take U.length)[k]? = aj a:=e1;rw[ACW hk] at e1;exact H.ob k a o e1 ((ABE hk).trans e2) R_ λx h1 h2=>kk x h1 (R9 H (hl k o e2) h2)
 ·exact DW (h6 pos cv e) λc o vs u q1 q2 q3=>EG c o vs u q1 (DT H _ _ q2) q3
theorem PM(H:Has T g U s)(h:SnR U m k d)(rx:∃a,g.mu[k]? = aj a/\X=.ref a):AI (g.seal m s.heap).fz d X:=by refine oEA rx λa e q_2=>?_;subst q_2;refine AS h λds q_1 hm hs=>?_;subst q_1;have ha:a∈g.mu.drop m:=AA5 (i:=k-m) (by rw[List.getElem?_drop,Nat.add_sub_cancel' hm];exact e);exact H.lst e hs λxs n ho hr hn hz=>λR_ kk=>kk a _ xs n ((if_pos ha).trans ho) rfl rfl (RepDs.mono (DT H) _ _ (As.toD hr)) ((AAB (f:=V.d))▸hz)
theorem Z7(H:Has T g U s)(h:Sn U m v d)(rx:Au T g v X):AI (g.seal m s.heap).fz d X:=by
 cases v with
 |d y=>obtain rfl:d=y:=h;exact AI.mono (DT H) _ _ rx
 |ref k=>exact PM H h rx
 |tup ws =>
  obtain⟨ds,rfl,h⟩:=h;have key:∀{ws:List (PyData⊕Nat)} {ds:List PyData} {vs:List Value},Ay (HZ g) ws vs->Ay (SnW U m) ws ds->Ay (AI (g.seal m s.heap).fz) ds vs:=by
   intro ws
   induction ws with
   |nil=>intro ds vs h1 h2;rw[h1.nil,h2.nil];exact trivial
   |cons w ws ih =>
    intro ds vs h1 h2;obtain⟨v,vs,rfl,r1,r2⟩:=h1.cons;obtain⟨d,ds,rfl,q1,q2⟩:=h2.cons;refine⟨?_,ih r2 q2⟩;cases w with
    |inl y=>obtain rfl:d=y:=q1;exact AI.mono (DT H) _ _ r1
    |inr k=>exact PM H q1 r1
  exact rx _ λa o vs n h1 h2 h3 h4 h5 R_ kk=>kk a o vs n (DT H _ _ h1) h2 h3 (.of (key h4 h)) (((key h4 h).length)▸h4.length▸h5)
 |ty _=>exact h.elim
 |obj _=>exact h.elim
 |pr _ _=>exact h.elim
 |exc _=>exact h.elim
 |ecl _=>exact h.elim
theorem FA.seal'(hf:FA n f xs U v (U'++τ))(hl:U'.length=U.length)(hw:∀(k:Nat) o,U'[k]? = aj o->Gj U'.length o)(hd:Sn (U'++τ) U'.length v d):FA n f xs U (.d d) U':=λr g s a Xs h A R=>AAO (hf r g s a Xs h A R) (λX s' p=>p _ λg' le H rX =>
 .mk (g'.seal U'.length s'.heap) ⟨⟨λa o e=>DT H a o (le.fz a o e),λk a e=>PR (hl▸A.has.len▸Nl e) (le.mu k a e)⟩,le.hid⟩ (H.seal hw) (Z7 H hd rX)) λ_ _ h=>h
theorem Xg(H:Has T g U s)(k:Nat)(o:O)(e:U[k]? = aj o):Gj U.length o:=H.len▸H.ob k (g.mu[k]'(H.len▸(AAM.mp e).1)) o (AAN _) e _ λx _ hx=>Tj hx
theorem FA.seal(hf:FA n f xs U v (U++τ))(hd:Sn (U++τ) U.length v d):FA n f xs U (.d d) U:=λr g s a Xs h A R=>FA.seal' hf rfl (Xg A.has) hd r g s a Xs h A R
end
theorem Sj{α1 α2 α3 α4 α5 α6 α7 α8 α9 α10 α11 α12:Type}{p:α1->α2->α3->α4->α5->α6->α7->α8->α9->α10->α11->α12->Prop}{R:Prop}(h:∃(x1:α1) (x2:α2) (x3:α3) (x4:α4) (x5:α5) (x6:α6) (x7:α7) (x8:α8) (x9:α9) (x10:α10) (x11:α11) (x12:α12),p x1 x2 x3 x4 x5 x6 x7 x8 x9 x10 x11 x12)(k:∀(x1:α1) (x2:α2) (x3:α3) (x4:α4) (x5:α5) (x6:α6) (x7:α7) (x8:α8) (x9:α9) (x10:α10) (x11:α11) (x12:α12),p x1 x2 x3 x4 x5 x6 x7 x8 x9 x10 x11 x12->R):R:=by exact Gs h λx1 x2 x3 x4 x5 x6 x7 x8 x9 x10 x11 x12 h=>k _ _ _ _ _ _ _ _ _ _ _ _ h
theorem bZ{α1 α2 α3 α4 α5 α6 α7 α8 α9 α10 α11 α12 α13 α14 α15 α16 α17:Type}{p:α1->α2->α3->α4->α5->α6->α7->α8->α9->α10->α11->α12->α13->α14->α15->α16->α17->Prop}{R:Prop}(h:∃(x1:α1) (x2:α2) (x3:α3) (x4:α4) (x5:α5) (x6:α6) (x7:α7) (x8:α8) (x9:α9) (x10:α10) (x11:α11) (x12:α12) (x13:α13) (x14:α14) (x15:α15) (x16:α16) (x17:α17),p x1 x2 x3 x4 x5 x6 x7 x8 x9 x10 x11 x12 x13 x14 x15 x16 x17)(k:∀(x1:α1) (x2:α2) (x3:α3) (x4:α4) (x5:α5) (x6:α6) (x7:α7) (x8:α8) (x9:α9) (x10:α10) (x11:α11) (x12:α12) (x13:α13) (x14:α14) (x15:α15) (x16:α16) (x17:α17),p x1 x2 x3 x4 x5 x6 x7 x8 x9 x10 x11 x12 x13 x14 x15 x16 x17->R):R:=by obtain⟨x1,x2,x3,x4,x5,x6,x7,x8,x9,x10,x11,x12,x13,x14,x15,x16,x17,h⟩:=h;exact k _ _ _ _ _ _ _ _ _ _ _ _ _ _ _ _ _ h
section
variable{n:Nat}{T:Top}{r:Ar}{c:Cx}{g:G}{s:Shared}{e a b:E}{ws us:List V}{X:Value}{ks:List Nat}{k i f:Nat}{nm:Str}
theorem LL(H:Has T g U s)(rx:Au T g (.obj ks) X){R_:Value->Prop}(k:∀a mA,s.heap.Inst a T.cls mA->(∀nm,nm∉Dq->mA nm=au)->Ay (λ(k:Nat) (nm:Str)=>∃a,g.mu[k]? = aj a/\mA nm=aj (.ref a)) ks Dq->R_ (.ref a)):R_ X :=
 rx R_ λa d o mA h1 h2 h3 h4 h5 h6 h7 h8=>k a mA ⟨o,H.fz _ _ h1,h2,h3,.inr (AB d h4 h5 (h6.to H.fz))⟩ h7 h8
theorem NZ(h:nm∈Dq):typeLookup (.type "object") nm=pure au:=by
 rcases AAR.mp h with rfl|h
 ·rw[typeLookup_type,builtinLookup_eq_fast];kernel_rfl
 ·rcases AAR.mp h with rfl|h
  ·rw[typeLookup_type,builtinLookup_eq_fast];kernel_rfl
  ·rw[AAJ.mp h,typeLookup_type,builtinLookup_eq_fast];kernel_rfl
theorem Vx{n:Str}{p q:Pos}{nm:Str}{env:Env}:eval (.Attribute (.Name n p) nm q) env=(eval (.Name n p) env>>=λo=>standAt q.atName>>=λ_=>holding [o] (getAttr o nm true)>>=λr=>pure r):=rfl
theorem SE.attr(h:SE n (.var i) J U (.obj ks) af)(hi:Dq[f]? = aj nm)(hk:ks[f]? = aj k):SE n (.attr nm (.var i)) J U (.ref k) af:=λc g s ex hc I=>hc (λex=>c.wp (eval ex c.env) (Ans c.toAr g (.ref k) af) s) λz q h1=>by refine h1 (λz=>IsE (.var i) c.K z->c.wp (eval (.Attribute z nm q) c.env) (Ans c.toAr g (.ref k) af) s) (λm p _ h1=>?_) h1;refine Bq Vx (BF h h1 I λX ai ag le I1 al=>AAD (AA7 (AAD (AA8 ?_))));refine AH I1.ok.cls λN mN C F=>?_;have hz:=λb o e=>I1.has.fz b o (I1.has.base b o e);refine Sj (C.keeps hz).obj λx1 x2 x3 x4 x5 x6 x7 x8 x9 xa xb xc hC=>?_;have hm:=AA5 hi;refine LL I1.has al (R_:=λX=>c.wp (getAttr X nm true) (λr s=>wpAny (model c.T.prog c.T.w) c.A (pure r) (Ans c.toAr g (.ref k) af) (λ_ _=>False) s) ag) λa mA aa hn h8=>eV (h8.get hk) λnm' e a' e1 e2=>?_;obtain rfl:=Ao hi e;exact load_attr hC (C.keeps hz).ns F.ga (F.att _ hm) (NZ hm) aa e2 rfl (AAY (.mk ai le (I1.has.tok (s':=⟨ag.heap,ag.gens,ag.drawn,ag.toks+1,ag.os⟩)) ⟨a',e1,rfl⟩))
theorem Jl{o:Expr}{ap p:Pos}{vs:List Expr}{env:Env}{Q E:Value->Shared->Prop}(hb:attributeBase o nm env (eval o env)=eval o env)(hf:methodCallForm (vs.length+([]:List Keyword).length) (backTo p (starEach vs env)) (backToKw p (keywordEach [] env))=true)(hl:(ap.endLine==p.line)=true)
 (h:wpAny (model r.T.prog r.T.w) r.A (eval o env) (λX ag=>∀pl,wpAny (model r.T.prog r.T.w) r.A (getMethod X nm pl) (λm ak=>wpAny (model r.T.prog r.T.w) r.A (callWith p m.1 m.2 (backTo p (starEach vs env)) []) Q E ak) E ag) E s):wpAny (model r.T.prog r.T.w) r.A (eval (.Call (.Attribute o nm ap) vs [] p) env) Q E s:=by
 rw[arm_eval_Call,hb];refine AAD (AAO h (λX ag h₁=>AAD (AA7 ?_)) λ_ _ e=>e);have hpos:methodCallPos true o env ap p=pure p:=by unfold methodCallPos;rw[hl];rfl
 unfold methodCall;rw[hf];refine AAD (AA8 (AAO (h₁ _) (λm ak aY=>AAD (wpAny_of_eq hpos aY)) λ_ _ e=>e))
theorem RK(hb:attributeBase o nm env (eval o env)=eval o env)(hf:methodCallForm (vs.length+([]:List Keyword).length) (backTo p (starEach vs env)) (backToKw p (keywordEach [] env))=true)(hl:(ap.endLine==p.line)=true)
 (h:r.wp (eval o env) (λX ag=>∀pl,r.wp (getMethod X nm pl) (λm ak=>r.wp (callWith p m.1 m.2 (backTo p (starEach vs env)) []) Q ak) ag) s):r.wp (eval (.Call (.Attribute o nm ap) vs [] p) env) Q s:=Jl hb hf hl h
theorem few{vs:List Expr}(h:Gm b c.K vs)(hl:vs.length<20):methodCallForm (vs.length+([]:List Keyword).length) (backTo p (starEach vs env)) (backToKw p (keywordEach [] env))=true:=by have e:=CH p env h;rw[List.any_eq_false] at e;exact(ACS _ _).mpr ⟨(ACS _ _).mpr ⟨ACH.mpr λx hx=>by simpa using e x hx,rfl⟩,AAI (ABT hl (by decide))⟩
theorem SE.mcall(hb:EZ a)(hm:mtP nm=aj f)(ha:SE n a J U (.obj ks) af)(hs:SEs n b J af ws U2)(hf:FA n f (.obj ks::ws) U2 v U3):SE n (.mcall nm a b) J U v U3:=λc g s ex hc I=>hc (λex=>c.wp (eval ex c.env) (Ans c.toAr g v U3) s) λz ap vs p h1 h2 h3 h4=>by refine RK (hb h1 _ _ _) (few h2 h4) (AAI h3) (AAO (ha c g s z h1 I) (λX ag aH=>aH _ λai aq ao al pl=>?_) λ_ _ h=>h);have I1:=I.step aq ao;refine AH I1.ok.cls λN mN C F=>?_;have hz:=λb o e=>I1.has.fz b o (I1.has.base b o e);refine Sj (C.keeps hz).obj λx1 x2 x3 x4 x5 x6 x7 x8 x9 xa xb xc hC=>EB (F.mt nm f hm) λna fa fo e1 e2 e3 e4=>AH (I.cx.rd.fnob f fa e1) λo fd ho hd=>LL I1.has al (R_:=λX=>Au c.T ai (.obj ks) X->c.wp (getMethod X nm pl) (λm ak=>c.wp (callWith p m.1 m.2 (backTo p (starEach vs c.env)) []) (Ans c.toAr g v U3) ak) ag) (λx mA aa hn h8 al=>?_) al;exact method_of hC (C.keeps hz).ns F.ga F.ge e2 (hz _ _ e3) e4 (typeLookup_type ..) aa (hn nm na) (callWith_function (o:=o) (fd:=fd) (CL (r:=c.toAr) h2 (AAO (hs c ai ag vs p h2 I1) (λYs ak aI=>aI _ λam le2 av ar=>⟨⟨(I1.step le2 av).base _ _ ho,hd⟩,BQ (r:=c.toAr) (aq.trans le2) (hf c.toAr am ak fa (.ref x::Ys) e1 (I1.step le2 av).toAt ⟨Au.mono le2.toup _ _ al,ar⟩)⟩) λ_ _ h=>h)))
end
noncomputable abbrev cC:Obj:={cls:=.type "dict",data:=.dict #[]}
theorem SR:exec (.Assign [.Attribute (.Name n p1) nm p2] (.Dict [] [] p3) p4) env=(standAt p4>>=λ_=>eval (.Dict [] [] p3) env>>=λv=>assign (.Attribute (.Name n p1) nm p2) env v>>=λ_=>pure Flow.next):=by rw[arm_exec_Assign];rfl
structure FR(T:Top)(aD:Shared)(x dx L:Addr)(m mA:Str->Option Value)(ns:List Str)(Ds:List Addr)(s:Shared):Prop where
 nl:s.heap.Ns L m
 inst:s.heap.Inst x T.cls mA
 dict:∀o,s.heap.get? x=aj o->o.dict=aj dx
 keep:∀b o,aD.heap.get? b=aj o->s.heap.get? b=aj o
 newX:aD.heap.get? x=au
 newD:aD.heap.get? dx=au
 lx:L≠x
 ld:L≠dx
 ds:∀D,D∈Ds->s.heap.get? D=aj cC/\aD.heap.get? D=au/\D≠x/\D≠dx
 nd:Ds.Nodup
 wi:Within mA ns
 gens:s.gens=aD.gens
 os:s.os=aD.os
theorem R0(hk:env.scope.kind=.function)(hl:env.kindOf v=aj .local)(hb:(v==("__debug__" : Str))=false)(hm:m v=aj (.ref x))
 (C:PyProof.Rows.ClsAt aD.heap T.cls N mN) (F:Rm T mN) (hnm:nm∈Dq) (hz:ns.length<=sizeLine) (M:FR T aD x dx env.locals m mA ns Ds s)
 (hq:∀s' D,FR T aD x dx env.locals m (λy=>if y=nm then aj (.ref D) else mA y) (nm::ns) (D::Ds) s'->Q .next s'):wpAny (model T.prog T.w) A (exec (.Assign [.Attribute (.Name v p1) nm p2] (.Dict [] [] p3) p4) env) Q (λ_ _=>False) s:=by
 rw[SR];have old:∀b o,s.heap.get? b=aj o->(s.heap.push cC).get? b=aj o:=λb o e=>AAK _ e;refine AAD (AA7 (AAD (wpAny_Dict_empty ?_)));rw[arm_assign_Attribute];refine AAD (AAD (AA8 (wpAny_Name (wpAny_loadName_local hk hl (M.nl.keeps old) hm ?_) hb)));have C':=C.keeps λb o e=>old b o (M.keep b o e);refine Sj C'.obj λx1 x2 x3 x4 x5 x6 x7 x8 x9 xa xb xc hC=>?_;obtain⟨oC,eC⟩:∃o,aD.heap.get? T.cls=aj o:=by exact Sj C.obj λy1 y2 y3 y4 y5 y6 y7 y8 y9 ya yb yc hC=>⟨_,hC⟩
 have xC:x≠T.cls:=λq=>Aj M.newX (q▸eC);refine oEA (id M.inst) λox hx _=>?_;have hD:=M.dict ox hx;refine AAD (AA7 (AAD (AA8 (store_attr PySem.F.store_object hC C'.ns F.se (F.att _ hnm) (NZ hnm) xC (M.inst.keeps old) (λh' tk' aa kp hs=>wpAny_release (AAY (hq _ s.heap.objs.size ?_))) M.wi hz))));have ne:∀{b},b≠x->b≠dx->∀o,s.heap.get? b=aj o->h'.get? b=aj o:=λ{b} q1 q2 o e=>kp b o q1 (λaP d e1 e2 q=>q2 (q▸AAA (e2.symm.trans ((Ao (old _ _ hx) e1)▸hD)))) (old b o e);have dead:∀{b o},s.heap.get? b=aj o->s.heap.objs.size≠b:=λe q=>by rw[<-q,BA] at e;exact Aa e
 have ax:=dead hx;obtain⟨oD,eD⟩:∃o,s.heap.get? dx=aj o:=by
  obtain⟨o,h1,_,_,h4|⟨d,h4,_,o',_,_,h5,_⟩⟩:=id M.inst
  ·exact Aj h4.1 (M.dict o h1)
  ·exact⟨o',Ao h4 (M.dict o h1)▸h5⟩
 have ad:=dead eD;refine⟨NsF.to (f:=s.heap.get?) M.nl (ne M.lx M.ld),aa,λo e=>?_,λb o e=>ne (λq=>Aj M.newX (q▸e)) (λq=>Aj M.newD (q▸e)) o (M.keep b o e),M.newX,M.newD,M.lx,M.ld,ae ⟨kp _ _ ax (λaP d e1 e2 q=>ad (q▸Ao e2 ((Ao (old _ _ hx) e1)▸hD))) (AA3 _ rfl),EC λo e=>dead (M.keep _ _ e) rfl,ax,ad⟩ λD h=>?_,ABX.mpr ⟨λq=>dead (M.ds _ q).1 rfl,M.nd⟩,M.wi.cons nm _,M.gens,M.os⟩
 ·exact LO (hs ox (old _ _ hx)) λbz aS _ _ _ hd=>Ao aS e▸hd dx hD
 ·exact K2 (M.ds D h) λq1 q2 q3 q4=>⟨ne q3 q4 _ q1,q2,q3,q4⟩
noncomputable def Ur:S:=.cons (.setd 0 (ACC "held")) (.cons (.setd 0 (ACC "grounds")) (.cons (.setd 0 (ACC "heights")) .nil))
theorem Dw.puts(F:Dw T g b)(ne:b≠a):Dw T (g.put a o) b:=⟨(if_neg ne).trans F.fz,F.hid,F.mu,F.tab⟩
theorem Dw.adds(F:Dw T g b)(ne:b≠a):Dw T (g.add a) b:=⟨F.fz,F.hid,λq=>(Ha q).elim F.mu ne,F.tab⟩
theorem IX:DP T g (.dictS []) cC:=λR_ k=>by refine Em (Heap.DictOf.new (knd:=strKind T.prog T.w) {}) λo es ep h1 h2 h3 h4 h5 h6=>?_;rw[AA3 _ rfl] at h1;rw[<-AAA h1] at h2 h3;exact k es ep [] h2 h3 h4 h5 h6 trivial (ABF _)
theorem TJ(H:Has r.T g U s)
 (M:FR r.T s x dx L m (λy=>if y=ACC "heights" then aj (.ref D3) else if y=ACC "grounds" then aj (.ref D2) else if y=ACC "held" then aj (.ref D1) else au) ns [D3,D2,D1] s') :
 Ans r g (.obj [U.length,U.length+1,U.length+2]) (U++[.dictS [],.dictS [],.dictS []]) (.ref x) s':=by
 obtain⟨ox,hx,hc,hnc,h4|⟨d,hd,hne,o',es,ep,h5,h6⟩⟩:=id M.inst
 ·exact Aj h4.1 (M.dict ox hx)
 have e:=Ao hd (M.dict ox hx);rw[e] at hd hne h5;have nd1:=ABX.mp M.nd;refine K2 (M.ds D3 (.head _)) λa3 f3 x3 d3=>K2 (M.ds D2 (.tail _ (.head _))) λa2 f2 x2 d2=>K2 (M.ds D1 (.tail _ (.tail _ (.head _)))) λa1 f1 x1 d1=>?_;have Fx:=H.free M.newX;have Fd:=(H.free M.newD).puts (o:=ox) hne;have H2:=Fd.put (Fx.put (H.keep M.keep M.gens M.os) hx) h5;have H3:=(((H.free f1).puts (o:=ox) x1).puts (o:=o') d1).add H2 a1 IX;have H4:=((((H.free f2).puts (o:=ox) x2).puts (o:=o') d2).adds λq=>(ABX.mp nd1.2).1 (q▸.head _)).add H3 a2 IX;have H5:=(((((H.free f3).puts (o:=ox) x3).puts (o:=o') d3).adds λq=>nd1.1 (q▸.tail _ (.head _))).adds λq=>nd1.1 (q▸.head _)).add H4 a3 IX;have l2:G.le [] ((g.put x ox).put dx o') (((((g.put x ox).put dx o').add D1).add D2).add D3):=G.le.add.trans (G.le.add.trans .add);have m2:=(G.le.add (own:=[]) (a:=D3)).mu _ _ (H3.addAt (a:=D2));have m3:=H4.addAt (a:=D3);rw[AAF] at m2 m3;rw[AAF] at m3;rw[ABQ,ABQ] at H5;refine .mk _ ((G.le.put Fx.fz).trans ((G.le.put Fd.fz).trans l2)) H5 λR_ k=>k x dx ox _ (l2.fz _ _ ((G.le.put (own:=[]) Fd.fz).fz _ _ G.put_self)) hc hnc hd hne ⟨o',es,ep,l2.fz _ _ G.put_self,h6⟩ (λnm hn=>?_) ⟨⟨D1,((G.le.trans (own:=[]) (G.le.add (a:=D2)) (G.le.add (a:=D3))).mu _ _ (H2.addAt (a:=D1))),rfl⟩,⟨D2,m2,rfl⟩,⟨D3,m3,rfl⟩,trivial⟩;rw[if_neg λq=>hn (by rw[q];exact .tail _ (.tail _ (.head _))),if_neg λq=>hn (by rw[q];exact .tail _ (.head _)),if_neg λq=>hn (by rw[q];exact .head _)]
theorem HC(hk:env.scope.kind=.function)(hv:∀v,K.vars[0]? = aj v->K.kd v .local=true->env.kindOf v=aj .local/\m v=aj (.ref x))
 (C:PyProof.Rows.ClsAt aD.heap T.cls N mN) (F:Rm T mN) (is:IsS (.setd 0 nm) K st) (hnm:nm∈Dq) (hz:ns.length<=sizeLine) (M:FR T aD x dx env.locals m mA ns Ds s)
 (hq:∀s' D,FR T aD x dx env.locals m (λy=>if y=nm then aj (.ref D) else mA y) (nm::ns) (D::Ds) s'->wpAny (model T.prog T.w) A (execs l env) Q (λ_ _=>False) s'):wpAny (model T.prog T.w) A (execs (st::l) env) Q (λ_ _=>False) s :=
 is (λst=>wpAny (model T.prog T.w) A (execs (st::l) env) Q (λ_ _=>False) s) λv p1 p2 p3 p4 h=>by rw[execs_cons];exact AAD (R0 hk (hv v h.2.1 h.1).1 h.2.2 (hv v h.2.1 h.1).2 C F hnm hz M hq)
theorem Uq(hk:env.scope.kind=.function)(hv:∀v,K.vars[0]? = aj v->K.kd v .local=true->env.kindOf v=aj .local/\m v=aj (.ref x))
 (C:PyProof.Rows.ClsAt aD.heap T.cls N mN) (F:Rm T mN) (is:XS Ur K body) (M:FR T aD x dx env.locals m (λ_=>au) [] [] s)
 (hq:∀s' D1 D2 D3 ns,FR T aD x dx env.locals m (λy=>if y=ACC "heights" then aj (.ref D3) else if y=ACC "grounds" then aj (.ref D2) else if y=ACC "held" then aj (.ref D1) else au) ns [D3,D2,D1] s'->Q .next s'):wpAny (model T.prog T.w) A (execs body env) Q (λ_ _=>False) s :=
 is (λbody=>wpAny (model T.prog T.w) A (execs body env) Q (λ_ _=>False) s) λst1 l1 q1 q2=>HC hk hv C F q1 (.head _) (ABF _) M λs1 D1 M1=>q2 (λl1=>wpAny (model T.prog T.w) A (execs l1 env) Q (λ_ _=>False) s1) λst2 l2 q3 q4=>HC hk hv C F q3 (.tail _ (.head _)) (by rw[<-Bd];decide) M1 λs2 D2 M2=>q4 (λl2=>wpAny (model T.prog T.w) A (execs l2 env) Q (λ_ _=>False) s2) λst3 l3 q5 q6=>by obtain rfl:l3=[]:=q6;exact HC hk hv C F q5 (.tail _ (.tail _ (.head _))) (by rw[<-Bd];decide) M2 λs3 D3 M3=>wpAny_execs_nil (hq s3 D1 D2 D3 _ M3)
theorem Rs(c:Addr):Code.weight (.builtin "type.__call__" ⟨[.ref c],[]⟩)<=2:=by
 first
  |exact AAC (Nat.le_of_eq (show Code.weight (.builtin "type.__call__" ⟨[.ref c],[]⟩)=1 by rfl)) (by decide)
  |exact AAC (Nat.le_of_eq (show Code.weight (.builtin "type.__call__" ⟨[.ref c],[]⟩)=0 by rfl)) (by decide)
  |exact Nat.le_of_eq (show Code.weight (.builtin "type.__call__" ⟨[.ref c],[]⟩)=2 by rfl)
theorem ZO(hm:mtP (ACC "__init__")=aj f)(hP:Pg f=aj ⟨1,nv,Ur⟩)(A:At n r g U s):r.wp (call (.ref r.T.cls) []) (Ans r g (.obj [U.length,U.length+1,U.length+2]) (U++[.dictS [],.dictS [],.dictS []])) s:=by
 refine AH A.ok.cls λN mN C F=>?_;have hz:=λb o e=>A.has.fz b o (A.has.base b o e);refine Sj (C.keeps hz).obj λx1 x2 x3 x4 x5 x6 x7 x8 x9 xa xb xc hC=>EB (F.mt _ f hm) λ_ fa fo e1 e2 e3 e4=>wpAny_call_obj_init PySem.F.objNew hC (C.keeps hz).ns e2 (hz _ _ e3) e4 λh' x dx Mk=>A.ok.fns f _ fa hP e1 _ λfd body o vars lam I=>?_;have hz':=λb o e=>Mk.keeps b o (hz b o e);refine wpAny_call (codeAny_call_cells ?_ (hz' _ _ I.ob) I.data (A.nolimit.keeps Mk.keeps) (I.code.keeps hz') I.bd (I.bind [.ref x] rfl) I.clo (λp hp=>?_) (λag ic=>?_) I.cor I.gen I.kind)
 ·exact AAS (Nat.add_le_add (AAC (AA9 _ _) A.depth) (Rs _)) (by decide)
 ·refine(I.par p.1 (List.of_mem_zip hp).1).imp id λh=>⟨h,?_⟩
  obtain⟨c,q⟩:=Cm (Bj h);exact oE (Fz q) λc q=>q▸rfl
 ·refine oEE ic.toInCall.same λhh tk hs=>?_;obtain⟨ox,hx,hc,hnc,h4|⟨d,hd,hne,h5⟩⟩:=id Mk.inst
  ·exact Aj h4.1 (Mk.dict ox hx)
  have e:=Ao hd (Mk.dict ox hx);rw[e] at hd hne h5;refine DC h5 λod _ _ h6 _=>?_;have lt:∀{b o},h'.get? b=aj o->h'.objs.size≠b:=λe q=>by rw[<-q,BA] at e;exact Aa e
  have M0:FR r.T s x dx (callEnvC fd h'.objs.size fa).locals _ (λ_=>au) [] [] ag:=⟨ic.toInCall.ns,Mk.inst.keeps ic.toInCall.keep,λo e=>Ao (ic.toInCall.keep _ _ hx) e▸hd,λb o e=>ic.toInCall.keep _ _ (Mk.keeps b o e),Mk.newX,Mk.newD,lt hx,lt h6,(λ_ h=>nomatch h),ABY,.nil,by rw[hs],by rw[hs]⟩
  have hv:∀{v},vars[0]? = aj v->Kx.kd ⟨vars,fd.scope.names,vars,glP,lam⟩ v .local=true->(callEnvC fd h'.objs.size fa).kindOf v=aj .local/\bindL (callEnvC fd h'.objs.size fa).kindOf ((vars.take 1).zip [.ref x]) (λ_=>au) v=aj (.ref x):=λ{v} h1 h2=>by have h3:=Kx.kd_eq h2;exact⟨h3,(Hw (List.Nodup.sublist (AC0 1 vars) I.nd) ((ACW Nat.zero_lt_one)▸h1) rfl).1 h3⟩
  exact AAO (Uq I.kind (λv h1 h2=>hv h1 h2) (C.keeps hz) F I.is M0 λs' D1 D2 D3 ns M=>⟨rfl,TJ A.has M⟩) (λ_ _ h=>h) λ_ _ h=>h.elim
theorem SE.new(hm:mtP (ACC "__init__")=aj f)(hP:Pg f=aj ⟨1,nv,Ur⟩):SE n .new J U (.obj [U.length,U.length+1,U.length+2]) (U++[.dictS [],.dictS [],.dictS []]):=λc g s ex hc I=>hc (λex=>c.wp (eval ex c.env) (Ans c.toAr g _ _) s) λnm np es p h1 h2=>by obtain rfl:es=[]:=h2;refine PyProof.Rows.Call_Name rfl (Cu I h1 λx hv=>?_);obtain rfl:x=.ref c.T.cls:=hv;exact AH I.ok.cls λN mN C F=>PyProof.Rows.callWith_cls0 C (λb o e=>I.has.fz b o (I.has.base b o e)) (ZO hm hP I.toAt)
section
variable{l:Nat}
theorem MT{α β:Type}{f:α->Option β}:∀{l:List α},(∃e,e∈l/\f e=au)->(l.filterMap f).length<l.length
 |[],h=>by refine oEA h λ_ h _=>?_;exact nomatch h
 |a::r,h=>by
  refine oEA h λe h he=>?_;rw[ADD];rcases AAR.mp h with q|h
  ·exact q▸he▸Nat.lt_succ_of_le (List.length_filterMap_le _ _)
  ·have ih:=MT (f:=f) (l:=r) (iEA e h he);cases f a with
   |none=>exact Nat.lt_succ_of_lt ih
   |some b=>exact Nat.succ_lt_succ ih
theorem Wn(hn:env.scope.names=K.names)(h:HW K ts=true):swappedStores [.Tuple ts k p] (.Tuple vs k' p') env=pure au:=by
 unfold swappedStores;dsimp only;split
 ·rfl
 ·split
  ·rfl
  ·refine if_pos ?_;rw[Bool.or_eq_true];refine .inl (bne_iff_ne.mpr (ACT ?_));refine oEA (ADR.mp h) λe he h0=>MT (iEA e he ?_);cases e with
   |Name nm p =>
    have h1:(!K.kd nm .local)=true:=h0;have h2:(env.kindOf nm==aj .local)=false:=by rw[AL hn,beq_eq_false_iff_ne];exact ABG (ACV _▸h1)
    show(if (env.kindOf nm==aj .local&&_)=true then aj nm else au)=au;exact h2▸rfl
   |_=>exact ff_ h0
theorem SS.swp(hn:3<=n)(h:SE n (.tup es) J U v af)(hv:C6 v=aj ws)(hl:ws.length=xs.length)(hq:Q (.next (Fp J xs ws)) af):SS n (.swp xs es) J U Q:=λc g s x hc I=>hc (λx=>c.wp (exec x c.env) (BI n c g Q) s) λts k p vs k' p' pos h1 h2=>by have h2:IsE (.tup es) c.K (.Tuple vs k' p'):=λR_ kk=>kk vs k' p' h2;refine Bq (PE (λt l=>rfl) (Wn I.cx.names h1.2.1)) (AAD (AA7 (BF h h2 I λX ai ag le I1 al=>?_)));exact CZ I1.has al hv (R_:=λX=>c.wp (assign (.Tuple ts k p) c.env X>>=λ_=>pure Flow.next) (BI n c g Q) ag) λt Xs hT hr _ _=>AAD (I1.unpack h1.1 hT hr hl hn λam ak le2 I2=>AAY λR_ k1 _=>k1 _ af am hq (le.toO.trans le2) I2)
theorem RI:∀{vs:List Expr},Gm es K vs->x∈vs->Lz x:=by
 induction es with
 |nil=>intro vs h hx;rw[show vs=[] from h] at hx;exact nomatch hx
 |cons e es _ ih=>exactλ{vs} h hx=>h (λvs=>x∈vs->Lz x) (λy l h1 h2 hx=>(AAR.mp hx).elim (λq=>q▸BR e h1) (ih h2)) hx
 |_=>exactλh=>h.elim
theorem S7(X:I0 n c)(hp:Gm es c.K vs)(h:S8 c.K a b d pa pb pd vs=true):swappedStores [.Tuple [.Name a pa,.Name b pb,.Name d pd] k p] (.Tuple vs k' p') c.env=pure (aj [a,b,d]):=by
 have h0:=AAH.mp h;have h1:=AAH.mp h0.1;have h3:=AAH.mp h1.1;have h4:=AAH.mp h3.1;have h5:=AAH.mp h4.1;have h6:=AAH.mp h5.1;have h7:=AAH.mp h6.1;have h8:=AAH.mp h7.1;have kd:∀{x},c.K.kd x .local=true->(c.env.kindOf x==aj .local)=true:=λh=>by rw[AL X.names,Kx.kd_eq h];rfl
 have hb:c.env.blockKind=.function:=by unfold Env.blockKind;rw[X.kind];rfl
 have e1:(if (c.env.kindOf a==aj .local&&pa.line==pa.line)=true then aj a else au)=aj a:=if_pos (by rw[kd h8.1,beq_self_eq_true];rfl);have e2:(if (c.env.kindOf b==aj .local&&pb.line==pa.line)=true then aj b else au)=aj b:=if_pos (by rw[kd h8.2,h6.2];rfl);have e3:(if (c.env.kindOf d==aj .local&&pd.line==pa.line)=true then aj d else au)=aj d:=if_pos (by rw[kd h7.2,h5.2];rfl);have q1:(!(([Expr.Name a pa,.Name b pb,.Name d pd].length==2||[Expr.Name a pa,.Name b pb,.Name d pd].length==3))||vs.length != 3||c.env.blockKind != .function)=false:=by rw[hb,ABM h3.2];rfl
 refine(if_neg (by rw[show([Expr.Name a pa,.Name b pb,.Name d pd].length)=3 from rfl] at q1 ⊢;rw[q1];exact ABB)).trans ((if_neg λq=>?_).trans ?_)
 ·refine oEA (ADR.mp q) λx hx e=>?_;cases x with
  |Starred z pz=>exact tt_ (congrArg Prod.fst (List.cons.inj ((RI hp hx).star c.env [])).1)
  |_=>exact ff_ e
 ·have key:∀N:List Str,N=[a,b,d]->(if (N.length != 3||N.eraseDups.length != N.length)=true then(pure au:Sem (Option (List Str))) else if vs.all (foldedForSure 8)=true then pure au else
   if vs.all (constantsAlone 8)=true then unsupported "assign.tuple-of-constant-expressions:order-of-the-stores" else pure (aj N))=pure (aj [a,b,d]):=λN hN=>by
   subst hN;have q3:([a,b,d].length != 3||[a,b,d].eraseDups.length != [a,b,d].length)=false:=by rw[ABM h4.2];rfl
   have q4:vs.all (foldedForSure 8)=false:=by simpa using h1.2
   have q5:vs.all (constantsAlone 8)=false:=by simpa using h0.2
   rw[q3,q4,q5];rfl
  refine key _ ?_;have fm:∀{f:Expr->Option Str} {x:Expr} {l:List Expr} {y:Str} {l':List Str},f x=aj y->l.filterMap f=l'->(x::l).filterMap f=y::l':=λh h'=>(List.filterMap_cons_some h).trans (congrArg _ h');refine fm ?_ (fm ?_ (fm ?_ rfl))
  ·exact e1
  ·exact e2
  ·exact e3
theorem Wm(h:swappedStores [.Tuple [.Name a pa,.Name b pb,.Name d pd] k p] (.Tuple vs k' p') env=pure (aj [a,b,d])):exec (.Assign [.Tuple [.Name a pa,.Name b pb,.Name d pd] k p] (.Tuple vs k' p') pos) env =
 (standAt pos>>=λ_=>eval (.Tuple vs k' p') env>>=λZ=>rule "assign.swapped-stores" >>= λ_=>unpackItems Z 3 au>>=λitems=>assignInOrder [bindName env d,bindName env b,bindName env a] items.reverse>>=λ_=>pure Flow.next):=by
 rw[arm_exec_Assign];show(standAt pos>>=λ_=>eval (.Tuple vs k' p') env>>=λZ=>swappedStores [.Tuple [.Name a pa,.Name b pb,.Name d pd] k p] (.Tuple vs k' p') env>>=_)=_;exact h▸rfl
theorem SS.swl(h3':3<=n)(h:SE n (.tup es) J U v af)(hv:C6 v=aj [u,w,z])(hq:Q (.next (((J.set l (aj z)).set j (aj w)).set i (aj u))) af):SS n (.swl i j l es) J U Q:=λc g s x hc I=>hc (λx=>c.wp (exec x c.env) (BI n c g Q) s) λa b d pa pb pd k p vs k' p' pos h1 h2=>by have h3:IsE (.tup es) c.K (.Tuple vs k' p'):=λR_ kk=>kk vs k' p' h2;refine Bq (Wm (S7 I.cx h2 h1.2)) (AAD (AA7 (BF h h3 I λX ai ag le I1 al=>?_)));refine CZ I1.has al hv (R_:=λX=>c.wp (rule "assign.swapped-stores" >>= λ_=>unpackItems X 3 au>>=λitems=>assignInOrder [bindName c.env d,bindName c.env b,bindName c.env a] items.reverse>>=λ_=>pure Flow.next) (BI n c g Q) ag) λt Xs hT hr hn _=>AAD (wpAny_rule (AAD ?_));refine Br hr.cons λx1 Ys e1 q1 hr=>Br hr.two λx2 x3 e2 q2 q3=>?_;rw[e2] at e1;have hz:3=Xs.size:=hn;rw[hz];refine wpAny_unpackItems_tuple (I1.hh.none h3') hT λh' he=>?_;rw[e1];have I2:Inv n c J ai af {ag with heap:=h'}:=I1.step (.refl _ _) (I1.has.keep λb o e=>he b o (λq=>by rw[q,BA] at e;exact Aa e) e);refine AAD (AAD (AA8 (wpAny_bindName (I2.store h1.1.2.2 q3 λaB az ay up3 I3=>?_))));refine AAD (AA8 (wpAny_bindName (I3.store h1.1.2.1 (Au.mono up3 _ _ q2) λaQ aJ le4 up4 I4=>?_)));refine AAD (AA8 (wpAny_bindName (I4.store h1.1.1 (Au.mono (up3.trans up4) _ _ q1) λg5 s5 le5 _ I5=>?_)));exact AAY (AAY λR_ k1 _=>k1 _ af g5 hq (le.toO.trans (ay.trans (le4.trans le5))) I5)
end
noncomputable def ET(z:Int)(is:List Int):Int:=match is with|[]=>z|b::r=>r.foldl (λa b=>if a<b then b else a) b
noncomputable def Nm(b:Int)(is:List Int):Int:=is.foldl (λa b=>if a<b then b else a) b
theorem WI(a v:Value):argsOk "max" ⟨[a],[(ACC "default",v)]⟩:=by unfold argsOk;kernel_rfl
section
variable{prog:Program}{w:World}{A:Around}{R:Result->Shared->Prop}{l I S:Addr}{xs:Array Value}{is:List Int}
structure Iq(l I S:Addr)(xs:Array Value)(i:Nat)(bs:Array Value)(h:Heap):Prop where
 it:h.IsListIter I l i
 ls:h.IsList l xs
 bo:∃c,h.get? S=aj {cls:=.type "list",dict:=au,data:=.seq bs c,slots:=#[]}
theorem Iq.turned{i:Nat}{bs:Array Value}{h h':Heap}(x:Iq l I S xs i bs h)(hlI:l≠I)(hSI:S≠I)(it:h'.IsListIter I l (i+1))(hs:Heap.SameBut I h h'):Iq l I S xs (i+1) bs h':=by exact oEA x.ls λo ho r=>oE x.bo λc hc=>⟨it,⟨o,(hs.2 l hlI).trans ho,r⟩,c,(hs.2 S hSI).trans hc⟩
theorem Iq.put{i:Nat}{bs bs':Array Value}{h:Heap}(x:Iq l I S xs i bs h)(hlS:l≠S)(hSI:S≠I):Iq l I S xs i bs' (h.update S (Obj.mapSeq λ_=>bs')):=by refine oEA x.ls λo ho r=>oE x.bo λc hc=>⟨x.it.at λo e=>(ABD _ _ hSI).trans e,⟨o,(ABD _ _ (Ne.symm hlS)).trans ho,r⟩,_,ACK _ hc rfl⟩
theorem TD(hh:A.handled=au)(hlI:l≠I)(hSI:S≠I)(hlS:l≠S):∀(k i:Nat) (s:Shared) (b:Int) (t:Tok),xs.size-i=k->Iq l I S xs i #[.int b t,.int b t] s.heap->(∀(j:Nat) (x:Value),xs[j]? = aj x->∃t,x=Value.int (is.getD j 0) t)->xs.size=is.length ->
 (∀h' tk t',(∀a o,a≠I->a≠S->s.heap.get? a=aj o->h'.get? a=aj o)->R (.ok (.ret (.int (Nm b (is.drop i)) t'))) {s with heap:=h',toks:=tk}) ->
 codeAny (model prog w) A (.builtin "max.loop" ⟨[.ref I,.none,.ref S],[(ACC "default",d)]⟩) R s:=by
 have hname:(toString "max"++toString ".loop" : String) = "max.loop" := by decide
 intro k
 induction k with
 |zero =>
  intro i s b t hk x hx hl hR;refine oE x.bo λc hc=>codeAny_builtin F.entry_max_loop ?_;rw[Around.under_plainId F.plain_max_loop _];refine AAD (wpAny_seqItems hc rfl ?_);refine AAD (wpAny_tryCatch (wpAny_pyNext_list_end hh x.it x.ls (by rw[Array.getElem?_eq_none_iff];exact YM hk) λh' hx'=>?_));refine AAD (wpAny_updateSeq (hx' S _ hSI hc) rfl (AAD (wpAny_letGo (AAY ?_))));rw[(List.drop_eq_nil_of_le (kJ hk hl))] at hR;exact hR _ _ t λa o h1 h2 ho=>(ABD _ _ (Ne.symm h2)).trans (hx' a o h1 ho)
 |succ k ih =>
  intro i s b t hk x hx hl hR;have hi:=by exact V3 hk
  refine oE (hx i xs[i] (AB5 hi)) λu hu=>?_;refine oE x.bo λc hc=>?_;have ed:is.drop i=is.getD i 0::is.drop (i+1):=by rw[List.drop_eq_getElem_cons (Og hi hl)];simp[AAN (show i<is.length by exact Og hi hl)]
  refine codeAny_builtin F.entry_max_loop ?_;rw[Around.under_plainId F.plain_max_loop _];show wpAny _ A.in1 (seqItems? (.ref S)>>=_) _ _ s;refine AAD (wpAny_seqItems hc rfl ?_);show wpAny _ A.in1 (tryCatch (pyNext (.ref I)) _>>=_) _ _ s;refine AAD (wpAny_tryCatch (wpAny_pyNext_list_item x.it x.ls (AB5 hi) λh' it' hs=>?_));have x':=x.turned hlI hSI it' hs;refine oE x'.bo λc' hc'=>?_;rw[hu];show wpAny _ A.in1 (tryCatch (holding [.int (is.getD i 0) u,.int (is.getD i 0) u] (richCompare .Gt (.int (is.getD i 0) u) (.int b t)>>=_)) _>>=_) _ _ _;refine AAD (wpAny_tryCatch (AA8 (AAD (P.gt_int ?_))));refine AAD (AA8 (wpAny_truthy_bool ?_));refine AAD (wpAny_letGo (AAY ?_));by_cases hb:is.getD i 0>b
  ·rw[AAI hb];dsimp only;rw[if_pos rfl];refine AAD (wpAny_updateSeq hc' rfl (AAD (wpAny_letGo ?_)));rw[hname];refine AAY ⟨plainId_quiet F.plain_max_loop _,ih (i+1) _ (is.getD i 0) u (V4 hk) (x'.put hlS hSI) hx hl λh'' tk t' hk'=>?_⟩;have e2:Nm b (is.drop i)=Nm (is.getD i 0) (is.drop (i+1)):=by rw[ed];show(is.drop (i+1)).foldl _ (if b<is.getD i 0 then is.getD i 0 else b)=_;rw[if_pos hb];rfl
   exact e2▸(hR h'' tk t' λa o h1 h2 ho=>hk' a o h1 h2 ((ABD _ _ (Ne.symm h2)).trans ((hs.2 a h1).trans ho)))
  ·rw[AAT hb];dsimp only;rw[if_neg ABB];refine AAD (wpAny_letGo ?_);rw[hname];refine AAY ⟨plainId_quiet F.plain_max_loop _,ih (i+1) _ b t (V4 hk) x' hx hl λh'' tk t' hk'=>?_⟩;have e2:Nm b (is.drop i)=Nm b (is.drop (i+1)):=by rw[ed];show(is.drop (i+1)).foldl _ (if b<is.getD i 0 then is.getD i 0 else b)=_;rw[if_neg (by(with_reducible assumption))];rfl
   exact e2▸(hR h'' tk t' λa o h1 h2 ho=>hk' a o h1 h2 ((hs.2 a h1).trans ho))
theorem RL(hh:A.handled=au)(hlI:l≠I)(hSI:S≠I)(hlS:l≠S)(x:Iq l I S xs 0 #[] s.heap)(hx:∀(j:Nat) (x:Value),xs[j]? = aj x->∃t,x=Value.int (is.getD j 0) t)(hl:xs.size=is.length)
 (hR:∀h' tk t',(∀a o,a≠I->a≠S->s.heap.get? a=aj o->h'.get? a=aj o)->R (.ok (.ret (.int (ET z is) t'))) {s with heap:=h',toks:=tk}) :
 codeAny (model prog w) A (.builtin "max.loop" ⟨[.ref I,.none,.ref S],[(ACC "default",.int z tz)]⟩) R s:=by
 have hname:(toString "max"++toString ".loop" : String) = "max.loop" := by decide
 refine oE x.bo λc hc=>codeAny_builtin F.entry_max_loop ?_;rw[Around.under_plainId F.plain_max_loop _];refine AAD (wpAny_seqItems hc rfl ?_);cases is with
 |nil =>
  refine AAD (wpAny_tryCatch (wpAny_pyNext_list_end hh x.it x.ls (by rw[Array.getElem?_eq_none_iff,hl];exact AAL _) λh' hx'=>?_));refine AAD (wpAny_rule (AAY ?_));exact hR _ _ tz λa o h1 _ ho=>hx' a o h1 ho
 |cons b is =>
  have hi:0<xs.size:=by rw[hl];exact ACZ _
  refine oE (hx 0 xs[0] (AB5 hi)) λu hu=>?_;refine AAD (wpAny_tryCatch (wpAny_pyNext_list_item x.it x.ls (AB5 hi) λh' it' hs=>?_));have x':=x.turned hlI hSI it' hs;refine oE x'.bo λc' hc'=>?_;rw[hu];show wpAny _ A.in1 (updateSeq S (λ_=>#[.int b u,.int b u])>>=_) _ _ _;refine AAD (wpAny_updateSeq hc' rfl ?_);rw[hname];refine AAY ⟨plainId_quiet F.plain_max_loop _,TD hh hlI hSI hlS _ 1 _ b u rfl (x'.put hlS hSI) hx hl λh'' tk t' hk'=>?_⟩;exact hR h'' tk t' λa o h1 h2 ho=>hk' a o h1 h2 ((ABD _ _ (Ne.symm h2)).trans ((hs.2 a h1).trans ho))
end
section
variable{k:Int}{is:List Int}
theorem eJ:Pr2 (compareOp .In) (.d (.str u)) (.d (.str w)) U (vb (Txt.contains w u)) U/\Pr2 (compareOp .NotIn) (.d (.str u)) (.d (.str w)) U (vb !(Txt.contains w u)) U :=
 ⟨GU λr g s X Y A hx hy Q q=>by
  refine oEA hx λt q_1 _=>?_;subst q_1;refine oEA hy λt' q_1 _=>?_;subst q_1;exact SB.contains q,
  GU λr g s X Y A hx hy Q q=>by refine oEA hx λt q_1 _=>?_;subst q_1;refine oEA hy λt' q_1 _=>?_;subst q_1;exact SB.notContains q⟩
theorem PD:∀{is:List Int} {xs:List Value},As T g (is.map vi) xs->xs.length=is.length/\∀(j:Nat) (x:Value),xs[j]? = aj x->∃t,x=Value.int (is.getD j 0) t
 |[],xs,h=>by rw[h.nil];exact⟨rfl,λj x h=>Aa h⟩
 |i::is,xs,h=>by
  refine Br h.cons λx xs q_2 q_3 h2=>?_;subst q_2;obtain⟨t,h1⟩:=q_3;have ih:=PD h2;refine⟨congrArg (· + 1) ih.1,λj y hy=>?_⟩;cases j with
  |zero=>exact⟨t,(AAA hy).symm.trans h1⟩
  |succ j=>exact ih.2 j y hy
theorem ZR(A:At 3 r g U s)(h:A8 U x=aj (is.map vi))(hx:Au r.T g x X)(hz:Au r.T g (vi k) Z):r.wp (call (.builtin "max") [X] [(ACC "default",Z)]) (Ans r g (vi (ET k is)) U) s:=by
 refine oE hz λtz q_1=>?_;subst q_1;refine AX A.has hx h (R_:=λX=>r.wp (call (.builtin "max") [X] [(ACC "default",.int k tz)]) (Ans r g (vi (ET k is)) U) s) λa ys hL hr hn _=>oA (PD hr) λh1 h2=>PyProof.Rows.kmk_tree F.kind_max F.plain_max F.entry_max (WI _ _) (AAD (wpAny_of_eq rfl ?_));refine AAD (AAY (AAD (wpAny_pyIter_list hL (AAD (wpAny_newObj_type ?_)))));refine Jd (id hL) λo ho hc m hd=>?_;have hlt:=ACU ho;have hname:(toString "max"++toString ".loop" : String) = "max.loop" := by decide
 rw[hname];have e3:(s.heap.push {cls:=.type "list_iterator",data:=.fields #[.ref a,.int 0 0]}).objs.size=s.heap.objs.size+1:=ADP ..;have eS:(s.heap.push {cls:=.type "list_iterator",data:=.fields #[.ref a,.int 0 0]}).objs.size≠s.heap.objs.size:=by rw[e3];exact Nat.succ_ne_self _
 have eL:a≠(s.heap.push {cls:=.type "list_iterator",data:=.fields #[.ref a,.int 0 0]}).objs.size:=by rw[e3];exact ACT (Nat.lt_succ_of_lt hlt)
 refine AAY ⟨plainId_quiet F.plain_max_loop _,RL (A.hh.none (AAL _)) (ACT hlt) eS eL ?_ (λj x hj=>h2 j x ((ABJ)▸hj)) h1 λh' tk t' hk=>?_⟩
 ·exact⟨⟨_,AAK _ (AA3 _ rfl),rfl,rfl⟩,⟨o,AAK _ (AAK _ ho),hc,m,hd⟩,0,AA3 _ rfl⟩
 ·exact .refl (A.has.keep λb o e=>hk b o (λq=>by rw[q,BA] at e;exact Aa e) (λq=>by rw[q,e3,ABO (ADL _)] at e;exact Aa e) (AAK _ (AAK _ e))) ⟨t',rfl⟩
theorem SE.maxd(hn:3<=n)(ha:SE n a J U x af)(hz:SE n b J af (vi k) U2)(h:A8 U2 x=aj (is.map vi)):SE n (.maxd a b) J U (vi (ET k is)) U2:=λc g s ex hc I=>hc (λex=>c.wp (eval ex c.env) (Ans c.toAr g (vi (ET k is)) U2) s) λnm np z y kp p h1 h2 h3=>by refine AAD (Cu I h1 λf hf=>?_);obtain rfl:f=.builtin "max" := hf;have st:=(BR a h2).star c.env [];refine PyProof.Rows.callWith_kw ?_ (by rw[st];rfl) (st▸rfl);rw[st];refine spliced_cons (AAO (ha c g s z h2 I) (λX ag aH=>aH _ λai aq ao al=>spliced_nil ?_) λ_ _ h=>h);have I1:=I.step aq ao;refine PyProof.Rows.kws_cons (AAO (hz c ai ag y h3 I1) (λZ ak aI=>aI _ λam le2 av ar=>PyProof.Rows.kws_nil ?_) λ_ _ h=>h);exact BQ (aq.trans le2) (ZR ((I1.step le2 av).toAt.less hn) h (Au.mono le2.toup _ _ al) ar)
end
set_option maxRecDepth 100000
section
variable{prog:Program}{w:World}{A:Around}{E:Value->Shared->Prop}{s:Shared}{d S:Addr}{kvs:List (Str×Value)}{ep:Nat}
noncomputable abbrev VH(prog:Program)(w:World)(kvs:List (Str×Value))(i:Nat)(v:Value):Prop:=∃k x,kvs[i]? = aj (k,x)/\(strKind prog w).is k v=true
theorem NF{R:Result->Shared->Prop}(hh:A.handled=au)(hm:s.heap.DictAt (strKind prog w) d kvs ep)(hd:(d==sysModules)=false)(res:Value)(c0:Nat)(hS:s.heap.get? S=aj {cls:=.type "list",data:=.seq #[] c0})(hdS:d≠S)
 (hR:∀h' tk acc' c',(∀b o,b≠S->s.heap.get? b=aj o->h'.get? b=aj o)->h'.get? S=aj {cls:=.type "list",dict:=au,data:=.seq acc' c',slots:=#[]} ->
  ItemsOf (VH prog w kvs) acc' kvs.length->R (.ok (.ret res)) {s with heap:=h',toks:=tk}) (hn:kvs.length<=sizeLine) :
 wpAny (model prog w) A.in1 (Builtin.List.listExtendWith (.ref S) (.ref d) res)
  (λfin s'=>match fin with|.done f=>R (.ok f) s'|.again c'=>c'.quiet=true/\codeAny (model prog w) A c' R s') (λe s'=>R (.error e) s') s:=by
 have hSI:=ACT (ACU hS);have hT:=hm.dictOf.typeIs;refine oEA (id hT) λod hod hcd=>?_;unfold Builtin.List.listExtendWith;refine AAD (wpAny_typeOf hT ?_);have h1:Builtin.List.listSameRef (.ref S) (.ref d)=false:=by simp[Builtin.List.listSameRef,Ne.symm hdS]
 have h2:(Value.type "dict"==Value.type "list")=false:=by decide
 have h3:(Value.type "dict"==Value.type "tuple")=false:=by decide
 simp only[h1,h2,h3,Bool.or_false,AC7,↓reduceIte];refine AAD (wpAny_pyIter_dict hd hm ?_);refine AAD (AA8 ?_);have hT':({s with heap:=s.heap.push {cls:=.type "dict_keyiterator",data:=.fields #[.ref d,.int 0 0,.int kvs.length 0,.int ep 0]}}:Shared).TypeIs (.ref d) "dict" := ⟨od,AAK _ hod,hcd⟩
 unfold Builtin.List.listLengthHint;refine AAD (wpAny_specialOf hT' F.slot_dict_len.lookup ?_)
 wp_delta
 refine AAD (wpAny_isInstance (b:=true) hT' (by rw[isSubtype_type];kernel_rfl) ?_);refine AAD (wpAny_typeOf hT' (AAY ?_));rw[if_pos (by decide)];have hS1:=AAK {cls:=.type "dict_keyiterator",data:=.fields #[.ref d,.int 0 0,.int kvs.length 0,.int ep 0]} hS;refine AAD (wpAny_rule (AAD ?_));refine AAD (wpAny_updateSeq hS1 rfl ?_);have hS2:=ACK (Obj.mapSeq (·.push Value.none)) hS1 rfl;refine wpAny_updateSeq hS2 rfl ?_;have hS3:=ACK (Obj.mapSeq (·.pop)) hS2 rfl;have oth:∀b o,b≠S->(s.heap.push {cls:=.type "dict_keyiterator",data:=.fields #[.ref d,.int 0 0,.int kvs.length 0,.int ep 0]}).get? b=aj o->(((s.heap.push {cls:=.type "dict_keyiterator",data:=.fields #[.ref d,.int 0 0,.int kvs.length 0,.int ep 0]}).update S (Obj.mapSeq (·.push Value.none))).update S (Obj.mapSeq (·.pop))).get? b=aj o:=λb o hb e=>(ABD _ _ (Ne.symm hb)).trans ((ABD _ _ (Ne.symm hb)).trans e);refine AAY ⟨plainId_quiet F.plain_extend_loop _,codeAny_extend_loopS ((Walks.dictKeys (A:=A.in1) (knd:=strKind prog w) hh s.heap.objs.size d (ACT (ACU hod)) kvs ep).toS) hn _ (λq=>(AAR.mp q).elim hSI λq=>hdS (AAJ.mp q).symm) _ kvs.length 0 _ _ _ rfl (ABF _) ?_ hS3 (ItemsOf.nil _) λs' acc' c' hm hS' hacc=>?_⟩
 ·exact AH hm λo es ho hr=>⟨⟨_,oth _ _ (Ne.symm hSI) (AA3 _ rfl),rfl,rfl⟩,o,es,oth _ _ hdS (AAK _ ho),hr⟩
 rw[Moved.eq_with hm];refine hR s'.heap s'.toks acc' c' (λb ob hb e=>hm.heap b ob (λhmem=>?_) (oth b ob hb (AAK _ e))) hS' hacc;exact(AAR.mp hmem).elim hb λhmem=>absurd (ACU e) ((AAJ.mp hmem)▸ABU _)
theorem RW(hh:A.handled=au)(hm:s.heap.DictAt (strKind prog w) d kvs ep)(hd:(d==sysModules)=false)(hS:s.heap.get? S=aj {cls:=.type "list",data:=.seq #[]})(hdS:d≠S)
 (hR:∀h' tk acc' c',(∀b o,b≠S->s.heap.get? b=aj o->h'.get? b=aj o)->h'.get? S=aj {cls:=.type "list",dict:=au,data:=.seq acc' c',slots:=#[]} ->
  ItemsOf (VH prog w kvs) acc' kvs.length->R (.ok (.ret .none)) {s with heap:=h',toks:=tk}) (hn:kvs.length<=sizeLine) :
 wpAny (model prog w) A.in1 (Builtin.«list.__init__» ⟨[.ref S,.ref d],[]⟩)
  (λfin s'=>match fin with|.done f=>R (.ok f) s'|.again c'=>c'.quiet=true/\codeAny (model prog w) A c' R s') (λe s'=>R (.error e) s') s:=by
 refine AAD ?_;unfold Builtin.List.listItems;refine AAD (wpAny_seqItems hS rfl (AAY ?_));refine AAD (wpAny_updateSeq hS rfl ?_);have hS2:=ACK (Obj.mapSeq (λ_=>(#[]:Array Value))) hS rfl;have oth:∀b o,b≠S->s.heap.get? b=aj o->(s.heap.update S (Obj.mapSeq (λ_=>(#[]:Array Value)))).get? b=aj o :=
  λb o hb e=>(ABD _ _ (Ne.symm hb)).trans e
 refine AAD (wpAny_letGo ?_);exact AH hm λo es ho hr=>NF hh ⟨o,es,oth d o hdS ho,hr⟩ hd .none _ hS2 hdS (λh' tk acc' c' hk hS' hacc=>hR h' tk acc' c' (λb o hb e=>hk b o hb (oth b o hb e)) hS' hacc) hn
theorem Ke{Q:Value->Shared->Prop}(hh:A.handled=au)(hm:s.heap.DictAt (strKind prog w) d kvs ep)(hd:(d==sysModules)=false)(hn:kvs.length<=sizeLine)
 (hQ:∀h' tk acc' c',(∀b o,s.heap.get? b=aj o->h'.get? b=aj o) ->
  h'.get? s.heap.objs.size=aj {cls:=.type "list",dict:=au,data:=.seq acc' c',slots:=#[]}->ItemsOf (VH prog w kvs) acc' kvs.length->Q (.ref s.heap.objs.size) {s with heap:=h',toks:=tk}) :
 wpAny (model prog w) A (call (.type "list") [.ref d]) Q E s:=by
 refine callType_codes (Q₁:=λobj ag=>obj=.ref s.heap.objs.size/\ag = {s with heap:=s.heap.push {cls:=.type "list",data:=.seq #[]}}) F.called_list (F.typeCall_list_1 _) F.entry_list_init
  (code_list_new _ ⟨rfl,rfl⟩) λobj ag h₁=>?_
 refine oA h₁ λq_0 q_1=>?_;subst q_0;subst q_1;have hS:(s.heap.push {cls:=.type "list",data:=.seq #[]}).get? s.heap.objs.size=aj {cls:=.type "list",data:=.seq #[]}:=AA3 _ rfl;refine AH hm λo es ho hr=>⟨⟨_,hS,rfl⟩,F.args_list_init_2 _ _,RW hh ⟨o,es,AAK _ ho,hr⟩ hd hS (ACT (ACU ho)) (λh' tk acc' c' hk hS' hacc=>?_) hn⟩
 exact⟨rfl,hQ h' tk acc' c' (λb o e=>hk b o (ACT (ACU e)) (AAK _ e)) hS' hacc⟩
end
theorem Ay.ofGet{α β:Type}{R:α->β->Prop}:∀{as:List α} {bs:List β},as.length=bs.length->(∀(i:Nat) a b,as[i]? = aj a->bs[i]? = aj b->R a b)->Ay R as bs
 |[],[],_,_=>trivial
 |a::as,b::bs,h,k=>⟨k 0 a b rfl rfl,Ay.ofGet (Nat.succ.inj h) λi a b e1 e2=>k (i+1) a b e1 e2⟩
 |[],_::_,h,_=>Da h.symm rfl
 |_::_,[],h,_=>Da h rfl
section
variable{kvs:List (Str×PyData)}
theorem X3(h:U[k]? = aj (.dictS kvs))(hl:∀p,p∈kvs->p.1.length<=line):M5 (λX=>call (AZ .list) [X]) (.ref k) U (vss (kvs.map (·.1))) 3:=λr g s X A hx=>by
 refine oEA hx λa hk q_2=>?_;subst q_2;refine A.has.ob k a _ hk h _ λx hx' rx=>rx _ λes ep ws ho hd hk' hp hn hr hz=>?_;have e:=hr.length.symm;refine Ke (A.hh.none (AAL _)) ⟨x,es,hx',ho,hd,hk',hp,hn⟩ ((A.less (ABF _)).notMods hk) (Bd▸e▸hz) λh' tk acc c' hkp ha hI=>.made A.has hkp (BA _) ha (Ay.ofGet ?_ λi v y e1 e2=>?_) ?_
 ·rw[AAB,AAB,ABA (xs:=acc),hI.1,e]
 ·refine AH (hI.2 i y (ABJ.symm.trans e2)) λkey z q1 q2=>?_;rw[ABI,ABI] at e1;cases e3:kvs[i]? with
  |none=>rw[e3] at e1;exact Aa e1
  |some p =>
   rw[e3] at e1;refine oEA (hr.get e3) λb e4 e5=>oE (AC2 q2) λt q_1=>?_;subst q_1;exact(AAA e1)▸(⟨t,by show Value.str key t=Value.str p.1 t;rw[(e5.1.trans (congrArg Prod.fst (Ao q1 e4)).symm)],hl p (AA5 e3)⟩)
 ·exact lml (lml hz)
end
theorem Nq:∀{ns:List Str} {vals:List Value},vals.length=ns.length->∀{n:Str},n∈ns->((ns.zip vals).lookup n).isNone=false
 |[],_,_,_,h=>nomatch h
 |_::_,[],h,_,_=>Da h.symm rfl
 |a::ns,v::vals,h,n,hn=>by
  rw[List.zip_cons_cons,AC8];cases e:n==a with
  |true=>rfl
  |false=>exact Nq (ns:=ns) (Nat.succ.inj h) ((AAR.mp hn).resolve_left λq=>by rw[q,beq_self_eq_true] at e;exact tt_ e)
theorem MH:∀{ns:List Str} {vals:List Value},vals.length=ns.length->ns.Nodup->ns.filterMap (λn=>((ns.zip vals).lookup n).map (n,·))=ns.zip vals
 |[],[],_,_=>rfl
 |[],_::_,h,_=>Da h rfl
 |_::_,[],h,_=>Da h.symm rfl
 |a::ns,v::vals,h,hn=>by
  have hn:=ABX.mp hn;have h0:(((a::ns).zip (v::vals)).lookup a).map (a,·)=aj (a,v):=by rw[List.zip_cons_cons,AC8,beq_self_eq_true];rfl
  refine(List.filterMap_cons_some (f:=λn=>(((a::ns).zip (v::vals)).lookup n).map (n,·)) h0).trans ?_;show(a,v)::_=(a,v)::ns.zip vals;refine congrArg _ (Eq.trans ?_ (MH (ns:=ns) (vals:=vals) (Nat.succ.inj h) hn.2));have e:∀l:List Str,(∀x,x∈l->x∈ns)->l.filterMap (λn=>(List.lookup n ((a,v)::ns.zip vals)).map (n,·))=l.filterMap (λn=>(List.lookup n (ns.zip vals)).map (n,·)):=by
   intro l hl
   induction l with
   |nil=>rfl
   |cons b l ih =>
    have q:List.lookup b ((a,v)::ns.zip vals)=List.lookup b (ns.zip vals):=by rw[AC8,beq_false_of_ne λ(q:b=a)=>hn.1 (q▸hl b (.head _))]
    rw[ADD,ADD,q,ih λx hx=>hl x (.tail _ hx)]
  exact e ns λ_ h=>h
theorem Kg(hp:fd.params=⟨[],as,au,[],kd,au,df⟩)(hd:fd.defaults=.none)(hk:fd.kwdefaults=.none)(h:vals.length=as.length)(hn:(as.map (·.arg)).Nodup) :
 bindArgs fd ⟨vals,[]⟩=pure ((as.map (·.arg)).zip vals):=by
 have hl:vals.length=(as.map (·.arg)).length:=by rw[AAB];exact h
 have h1:(List.filter (λn=>(List.lookup n ((as.map (·.arg)).zip vals)).isNone) (as.map (·.arg)))=[]:=List.filter_eq_nil_iff.mpr λn hn=>by rw[Nq hl hn];exact ABB
 have h4:decide (vals.length>(as.map (·.arg)).length)=false:=AAT (hl▸ABU _);have h5:notAStandIn .none=pure ():=rfl;cases fd;dsimp only at hp hd hk;subst hp hd hk;unfold bindArgs seqItems?;dsimp only[List.map_nil,List.nil_append,List.forIn_nil,AAV,Option.isNone_none,List.length_nil,Option.getD_none];simp only[↓List.forIn_nil,↓pure_bind,Bool.and_true,h4,h5,Option.getD_none,AC7,↓reduceIte,List.length_nil,List.drop_nil,List.zip_nil_right,Nat.sub_zero,List.take_length,h1,List.isEmpty_nil,Bool.not_true,(MH hl hn),AAV,List.map_nil,List.nil_append]
structure Gl(K:Kx)(i:Nat)(nm:Str)(sc:Scope):Prop where
 at_:K.isAt i nm=true
 kind:sc.kind=.function
 gen:sc.isGenerator=false
 co:sc.isCoroutine=false
 nms:∀p,p∈sc.names->Qj K nm p=true
 uni:∀p,p∈sc.names->sc.names.lookup p.1=aj p.2
 par:sc.names.lookup nm=aj .local
theorem Jh(h:(!b)=true):b=false:=by cases b with|true=>exact ff_ h|false=>rfl
theorem Nz(h:Ua K i nm sc=true):K.lam.isSome=true/\Gl K i nm sc:=by have h1:=AAH.mp h;have h2:=AAH.mp h1.2;have h3:=AAH.mp h2.2;have h4:=AAH.mp h3.2;have h5:=AAH.mp h4.2;have h6:=AAH.mp h5.2;have h7:=AAH.mp h6.2;exact⟨h1.1,h2.1,AAG h3.1,Jh h4.1,Jh h5.1,ACH.mp h6.1,λp hp=>AAG (ACH.mp h7.1 p hp),AAG h7.2⟩
theorem Pt(l:List Value)(h:TriplesOk l)(e:codeAmong pos (l++[rawInt a,rawInt b,c])=aj cv):codeAmong pos l=aj cv\/cv=c:=by
 fun_induction TriplesOk l with
 |case1 =>
  have e:(if (a==(pos.line:Int)&&b==(pos.col:Int))=true then aj c else codeAmong pos [])=aj cv:=e;split at e
  ·exact .inr (AAA e).symm
  ·exact Aa e
 |case2 a' t b' u x rest ih =>
  have e:(if (a'==(pos.line:Int)&&b'==(pos.col:Int))=true then aj x else codeAmong pos (rest++[rawInt a,rawInt b,c]))=aj cv:=e;show(if (a'==(pos.line:Int)&&b'==(pos.col:Int))=true then aj x else codeAmong pos rest)=aj cv\/_;split at e
  ·rename_i q;rw[if_pos q];exact .inl e
  ·rename_i q;rw[if_neg q];exact ih h e
 |case3=>exact h.elim
theorem Has.code(H:Has T g U s)(tf:∀t q q',(t,q)∈T.tabs->(t,q')∈T.tabs->q=q')(hm:(t,q)∈T.tabs)(hx:Heap.ExtBut t s.heap s'.heap)(hn:s.heap.get? c'=au)(hc:s'.heap.get? c'=aj oc)(ht:s'.heap.get? t=aj {cls:=.none,data:=.fields ps})(tri:TriplesOk ps.toList)
 (hcc:∀pos cv,codeAmong pos ps.toList=aj cv->∃c o vs u,cv=.ref c/\(g.put c' oc).fz c=aj o/\o.data=.fields vs/\vs[1]? = aj (.str q u)) (hg:s'.gens=s.gens) (hos:s'.os=s.os):Has T (g.put c' oc) U s':=by
 refine H.tb t q hm _ λps0 t1 t2 t3 t4 _ _=>?_;have F:=H.free hn;have le:G.le [] g (g.put c' oc):=.put F.fz;have ne:∀{b:Addr},b≠c'->(g.put c' oc).fz b=g.fz b:=λq=>if_neg q;have tc:t≠c':=λe=>Aj hn (e▸t4);refine⟨λb x e=>?_,λb x e=>(H.hd b x e).keep λy=>hx b y λe'=>Aj t2 (e'▸e),H.len,H.nd,λb hb=>(ne λe=>F.mu (e▸hb)).trans (H.ap b hb),λb x e=>⟨(ne λe'=>Aj F.hid (e'▸e)).trans (H.ah b x e).1,(H.ah b x e).2⟩,λk b x e1 e2 R_ r=>H.ob k b x e1 e2 R_ λy h1 h2=>r y (hx b y (λe=>t3 (e▸AA5 e1)) h1) (DP.mono le.toup _ _ h2),λb x e=>le.fz b x (H.base b x e),λt' q' m R_ r=>?_,hg.trans H.gens,hos.trans H.os⟩
 ·by_cases e':b=c'
  ·rw[e'] at e ⊢;rw[<-AAA (G.put_self.symm.trans e)];exact hc
  ·rw[ne e'] at e;exact hx b x (λe''=>Aj t1 (e''▸e)) (H.fz b x e)
 ·by_cases e':t'=t
  ·subst e';rw[tf t' q' q m hm] at r;exact r ps ((ne tc).trans t1) t2 t3 ht tri hcc
  ·exact H.tb t' q' m R_ λps h1 h2 h3 h4 h5 h6=>r ps ((ne λe=>F.tab q' (e▸m)).trans h1) h2 h3 (hx t' _ e' h4) h5 λpos cv e=>DW (h6 pos cv e) λc o vs u q1 q2 q3=>EG c o vs u q1 (le.fz _ _ q2) q3
def Ko(g:G)(env:Env)(q nm:Str)(ap:Pos)(b:Expr)(sc:Scope)(f:Addr):Prop:=∀R_:Prop,(∀(pm ctv:Value) (c':Addr) (o fo:Obj) (vs:Array Value) (t:Tok),g.fz f=aj fo->fo.data=.func (W.kla_fn "<lambda>" q (Ga nm ap) b sc (Ex env sc.names []) pm (.ref c') ctv)->g.fz c'=aj o->o.data=.fields vs->vs[1]? = aj (.str q t)->R_)->R_
theorem Ko.mono(up:G.up g g')(h:Ko g env q nm ap b sc f):Ko g' env q nm ap b sc f:=λR_ k=>h R_ λpm ctv c' o fo vs t h1 h2 h3 h4 h5=>k pm ctv c' o fo vs t (up.fz _ _ h1) h2 (up.fz _ _ h3) h4 h5
theorem Gl.fre(L:Gl K i nm sc)(h:(m,NameKind.free)∈sc.names):K.names.lookup m=aj .cell\/K.names.lookup m=aj .free:=by
 rcases ABC.mp (L.nms _ h) with h|h
 ·exact BG (AAG (AAH.mp h).1) rfl
 ·rcases ABC.mp h with h|h
  ·exact(ABC.mp (AAH.mp h).2).imp Kx.kd_eq Kx.kd_eq
  ·exact BG (AAG h) rfl
theorem Ny(L:Gl c.K i nm sc)(I:Inv n c J g U s):closureFor sc c.env=pure (Ex c.env sc.names []) :=
 Gv sc λm hm=>I.loc.ce m (by rw[AL I.cx.names];exact L.fre hm) _ λa _ e _ _=>⟨a,e⟩
theorem Nw(L:Gl c.K i nm sc)(hl:c.K.lam=aj (t,q))(I:Inv n c J g U s):c.wp (eval (.Lambda (Ga nm ap) b sc lp) c.env) (λX s'=>CI c.T [] g U (λg'=>∃f,X=.ref f/\Ko g' c.env q nm ap b sc f) s') s:=by
 refine ZL (I.cx.lamc t q hl) λ_ ht hq a hcode hd=>K0 I.cx.rd.ns λmg mb hg hb _ bm ob b1 b2 b3 b4 b5 b6=>I.has.tb t q ht _ λps t1 t2 t3 hP tri hcc=>?_;have kp:=λb o e=>I.has.fz b o (I.has.base b o e);have hg':s.heap.Ns mainGlobals mg:=hg.keeps kp;have hC:W.CodeHd s.heap a t:=hd.keeps kp;have hgP:mainGlobals≠t:=λe=>by refine Cr hg' λo es ep e' hd _=>?_;rw[e,hP] at e';rw[<-AAA e'] at hd;exact nomatch hd
 have hbP:bm≠t:=λe=>Aj t1 (e▸I.has.base _ _ b3);have hbG:bm≠mainGlobals:=λe=>by refine Cr hg λo es ep e' hd _=>?_;rw[e,e'] at b3;rw[<-AAA b3,hd] at b6;exact nomatch b6
 have hB:s.heap.BuiltinsAt mg t:=⟨bm,ob,b1,b2,hbG,hbP,kp _ _ b3,b4,b5,b6⟩
 refine W.kla_eval rfl ?_;rw[hq];cases hit:codeAmong lp ps.toList with
 |none =>
  refine W.kla_makeFunction (Ny L I) I.cx.glob hg' hcode hC hP tri hit hgP hB λc' ctv h' tk hx hge hlt hrec htb=>GX hrec λbA oc vs u e2 hoc hdc hv=>?_;obtain rfl:=ABR e2;have hn:s.heap.get? c'=au:=ABO hge;have le1:G.le [] g (g.put c' oc):=.put (I.has.free hn).fz;have H1:=I.has.code (s':={s with heap:=h',toks:=tk}) I.ok.ok.tf ht hx hn hoc htb (Array.toList_append▸TriplesOk_snoc _ _ _ _ tri) (λpos cv e=>by
   rw[Array.toList_append] at e;rcases Pt _ tri e with e|e
   ·exact DW (hcc pos cv e) λc3 o3 vs3 t3 q1 q2 q3=>EG c3 o3 vs3 t3 q1 (le1.fz _ _ q2) q3
   ·exact(Jz c' oc vs u e G.put_self hdc hv)) rfl rfl
  have F:=H1.free (BA _);exact .mk _ (le1.trans (.put F.fz)) (F.put (H1.keep λb o e=>AAK _ e) (AA3 _ rfl)) (iEA _ rfl (λR_ k=>k _ ctv c' oc _ vs u G.put_self rfl ((G.le.put (own:=[]) F.fz).fz _ _ G.put_self) hdc hv))
 |some cv =>
  refine GX (hcc lp cv hit) λc' o3 vs3 u q1 q2 q3 q4=>?_;subst q1;refine W.kla_makeFunctionHit (Ny L I) I.cx.glob hg' hcode hC hP tri hit hB λctv h' tk hk hsz=>?_;have H1:=I.has.keep (s':={s with heap:=h',toks:=tk}) hk;have F:=H1.free (BA _);exact .mk _ (.put F.fz) (F.put (H1.keep λb o e=>AAK _ e) (AA3 _ rfl)) (iEA _ rfl (λR_ k=>k _ ctv c' o3 _ vs3 u G.put_self rfl ((G.le.put (own:=[]) F.fz).fz _ _ q2) q3 q4))
noncomputable abbrev pB(c:Cx)(nm q:Str)(sc:Scope)(C f:Addr)(cd:Value):Cx:=⟨⟨c.T,W.envX q sc C f cd (Ex c.env sc.names [])::c.fe,c.A.in1.in1.deeper (W.envX q sc C f cd (Ex c.env sc.names []))⟩,c.K.lsub nm sc,W.envX q sc C f cd (Ex c.env sc.names []),[C]⟩
theorem Gl.noc(L:Gl K i nm sc):∀p,p∈sc.names->p.2≠.cell:=λp hp e=>by
 rcases ABC.mp (L.nms _ hp) with h|h
 ·exact BG (e.symm.trans (AAG (AAH.mp h).1)) rfl
 ·rcases ABC.mp h with h|h
  ·exact BG (e.symm.trans (AAG (AAH.mp h).1)) rfl
  ·exact BG (e.symm.trans (AAG h)) rfl
theorem Gl.loc(L:Gl K i nm sc)(h:(m,NameKind.local)∈sc.names):m=nm:=by
 rcases ABC.mp (L.nms _ h) with h|h
 ·exact ABM (AAH.mp h).2
 ·rcases ABC.mp h with h|h
  ·exact BG (AAG (AAH.mp h).1) rfl
  ·exact BG (AAG h) rfl
theorem Gl.at(L:Gl K i nm sc):K.vars[i]? = aj nm:=by
 have h:(match K.vars[i]? with|some m=>m==nm|none=>false)=true:=L.at_;cases e:K.vars[i]? with
 |none=>rw[e] at h;exact ff_ h
 |some m=>rw[e] at h;rw[ABM h]
theorem Nx(L:Gl c.K i nm sc)(I:Inv n c J g U s)(h:(Ex c.env sc.names []).lookup m=aj a):c.env.cells.lookup m=aj a:=by
 rcases Ht (Bj h) with e|e
 ·exact nomatch e
 ·exact I.loc.ce m (by rw[AL I.cx.names];exact L.fre e.1) _ λa' _ h1 _ _=>by rw[h1,e.2,h1];rfl
theorem WR(L:Gl c.K i nm sc)(I:Inv (n+1) c J g U s)(r:Au c.T g v X)(H:Has c.T (g.hide C o) U s')(hC:g.hid C=au)(ho:o.cls=frC)(hn:NsF (g.hide C o).hid C λy=>[(nm,X)].reverse.lookup y):Inv n (pB c nm q sc C f cd) (J.set i (aj v)) (g.hide C o) U s':=by
 have up:G.up g (g.hide C o):=⟨λ_ _ e=>e,λ_ _ e=>e⟩
 have tf:Rj (W.envX q sc C f cd (Ex c.env sc.names [])):=⟨(by show sc.kind≠_;rw[L.kind];exactλq=>nomatch q),L.gen,L.co,rfl,rfl⟩
 have frs:Co (g.hide C o) (W.envX q sc C f cd (Ex c.env sc.names [])::c.fe):=λe he=>by
  rcases AAR.mp he with q|q
  ·exact Cr hn λo' es ep e1 e2 _=>q▸⟨tf,C,o',es,ep,rfl,e1,Ao G.hide_self e1▸ho,e2⟩
  ·exact I.frs.hideN hC e q
 refine⟨⟨I.ok,?_,(Eu _ c.fe rfl tf),?_,?_,by exact(I.hh.less (ADL _)).mono up,frs,H⟩,⟨I.cx.rd,rfl,L.kind,rfl,rfl,(Eu _ c.fe rfl rfl),λm m' a h h'=>I.cx.cinj m m' a (Nx L I h) (Nx L I h'),I.cx.nd,.head _,λm _ a hk _=>absurd rfl (L.noc _ (Bj (show sc.names.lookup m=aj .cell from hk))),λt q h=>Aa h⟩,λR_ k=>k _ hn λj y u e1 e2 e3=>?_,λy hk R_ k=>?_,AQ (AR G.hide_self)⟩
 ·show c.A.frames.map _=_;exact I.frames▸rfl
 ·show c.A.depth+1+n<=600;rw[ADG,AC5 1 n];exact I.depth
 ·show c.A.units+1+1+3+100*n<=9000;have h:c.A.units+100*(n+1)<=9000:=I.units;lia
 ·have hy:y=nm:=L.loc (Bj (show sc.names.lookup y=aj .local from e3));rcases IM e2 with⟨h1,h2⟩|⟨h1,h2⟩
  ·rw[hy,<-h2];exact iEA X (by show List.lookup nm [(nm,X)]=aj X;rw[AC8,beq_self_eq_true]) (Au.mono up _ _ r)
  ·exact absurd (HI I.cx.nd (hy▸e1) L.at) h1
 ·have hf:(y,NameKind.free)∈sc.names:=hk.elim (λh=>absurd rfl (L.noc _ (Bj (show sc.names.lookup y=aj .cell from h)))) λh=>Bj (show sc.names.lookup y=aj .free from h);refine I.loc.ce y (by rw[AL I.cx.names];exact L.fre hf) R_ λa u h1 h2 h3=>k a u (QQ hf h1) (h2.to λo' e=>(G.hide_ne λq=>Aj hC (q▸e)).trans e) λj u' e1 e2=>?_;rcases IM e2 with⟨p1,p2⟩|⟨p1,p2⟩
  ·have e3:y=nm:=Ao (p1▸e1) L.at;exact BG (Ao (L.uni _ hf) (e3▸L.par)) rfl
  ·exact C9 up (h3 j u' e1 p2)
theorem TZ:bindArgs (W.kla_fn "<lambda>" q (Ga nm ap) b sc cl pm cd ct) ⟨[x],[]⟩=pure [(nm,x)] :=
 Kg (fd:=W.kla_fn "<lambda>" q (Ga nm ap) b sc cl pm cd ct) (as:=[⟨nm,au,ap⟩]) rfl rfl rfl rfl (ABX.mpr ⟨AA1,ABY⟩)
theorem TY(hs:SE n key (J.set i (aj v)) U w U')(L:Gl c.K i nm sc)(hb:IsE key (c.K.lsub nm sc) b)(I:Inv (n+1) c J g U s)(lm:Ko g c.env q nm ap b sc f)(r:Au c.T g v X):wpAny (model c.T.prog c.T.w) c.A.in1.in1 (call (.ref f) [X]) (Ans c.toAr g w U') (λ_ _=>False) s:=lm _ λpm ctv c' o fo vs t h1 h2 h3 h4 h5=>by refine wpAny_call (W.kla_callFunE (AAS (AAC (AA9 _ _) I.depth) (by decide)) (I.has.fz _ _ h1) h2 L.co L.gen rfl ⟨c',o,vs,t,rfl,I.has.fz _ _ h3,h4,h5⟩ ?_);rw[TZ];refine AAY (wpAny_newFunctionEnv L.noc (λy hy=>by rw[AAJ.mp hy];exact L.par) (λh₁ hns hsb=>?_) L.kind);have hk:∀b o,s.heap.get? b=aj o->h₁.get? b=aj o:=λb o e=>hsb.extBut b o (ACT (ACU e)) (AAK _ e);refine⟨I.nolimit.keeps hk,?_⟩;refine DC hns λoL es ep hoL hL=>?_;have F:=I.has.free (BA _);show codeAny _ _ (.expr b (W.envX q sc s.heap.objs.size f (.ref c') (Ex c.env sc.names []))) _ _;refine W.kla_codeExpr (AAO (hs _ _ _ b hb (WR (q:=q) (f:=f) (cd:=.ref c') L I r ((I.has.keep (s':={s with heap:=h₁,toks:=s.toks+[(nm,X)].length}) hk).hideH (s':={s with heap:=h₁,toks:=s.toks+[(nm,X)].length}) F.fz F.mu F.tab (λ_ _ _ e=>e) (.fr hoL)) F.hid rfl ⟨frO oL,es,ep,G.hide_self,hL⟩)) (λy s' p=>p _ λam le aA rv=>?_) λ_ _ h=>h.elim);exact AS (aA.back (its:=[s.heap.objs.size]) (own:=[]) (s':=s') (G.le.trans (g':=g.hide s.heap.objs.size (frO oL)) (.hide (.head _)) le.toO) (AQ F.hid) (λ_ _ _ e=>e) (aA.away (AQ (AR ((le.hid s.heap.objs.size AA1).trans G.hide_self))))) λhd H' le' _=>.mk _ le' H' (Au.eta rv)
end Mine.Internal
namespace Mine.Internal
set_option backward.match.sparseCases true
set_option tactic.hygienic true
set_option genInjectivity true
noncomputable def CW{κ α:Type}(lt:κ->κ->Bool)(p:κ×α):List (κ×α)->List (κ×α)
 |[]=>[p]
 |q::r=>if lt q.1 p.1 then q::CW lt p r else p::q::r
noncomputable def AJ{κ α:Type}(lt:κ->κ->Bool):List (κ×α)->List (κ×α)
 |[]=>[]
 |p::r=>CW lt p (AJ lt r)
noncomputable def Dg{κ α:Type}(rev:Bool)(lt:κ->κ->Bool)(l:List (κ×α)):List α :=
 match rev with
 |true=>(AJ lt l.reverse).reverse.map (·.2)
 |false=>(AJ lt l).map (·.2)
structure VG{κ:Type}(lt:κ->κ->Bool):Prop where
 irr:∀a,lt a a=false
 trans:∀a b c,lt a b=true->lt b c=true->lt a c=true
 total:∀a b,lt a b=false->lt b a=false->a=b
section
variable{κ α:Type}
def Ks(lt:κ->κ->Bool)(R:κ×α->κ×α->Prop)(a b:κ×α):Prop:=lt a.1 b.1=true\/(a.1=b.1/\R a b)
theorem Jx(p:κ×α)(l:List (κ×α)):(CW lt p l).Perm (p::l):=by
 induction l with
 |nil=>exact .refl _
 |cons q r ih =>
  unfold CW;split
  ·exact(ih.cons q).trans (.swap ..)
  ·exact .refl _
theorem Bg(l:List (κ×α)):(AJ lt l).Perm l:=by
 induction l with
 |nil=>exact .refl _
 |cons p r ih=>exact(Jx p _).trans (ih.cons p)
theorem OV(H:VG lt)(p:κ×α)(l:List (κ×α))(hl:l.Pairwise (Ks lt R))(hp:∀q∈l,R p q):(CW lt p l).Pairwise (Ks lt R):=by
 induction l with
 |nil=>exact List.pairwise_singleton ..
 |cons q r ih =>
  have h1:=ACO.mp hl;unfold CW;split
  ·rename_i hq
   refine ACO.mpr ⟨λx hx=>?_,ih h1.2 λy hy=>hp y (.tail _ hy)⟩;rcases AAR.mp ((Jx p r).mem_iff.mp hx) with rfl|hx
   ·exact .inl hq
   ·exact h1.1 x hx
  ·rename_i hq
   have hq:lt q.1 p.1=false:=by simpa using hq
   have first:Ks lt R p q:=by
    cases h3:lt p.1 q.1 with
    |true=>exact .inl h3
    |false=>exact .inr ⟨H.total _ _ h3 hq,hp q (.head _)⟩
   refine ACO.mpr ⟨λx hx=>?_,hl⟩;rcases AAR.mp hx with rfl|hx'
   ·exact first
   ·rcases h1.1 x hx' with h4|h4
    ·rcases first with h5|h5
     ·exact .inl (H.trans _ _ _ h5 h4)
     ·exact .inl (h5.1▸h4)
    ·rcases first with h5|h5
     ·exact .inl (h4.1▸h5)
     ·exact .inr ⟨h5.1.trans h4.1,hp x hx⟩
theorem DR(H:VG lt)(l:List (κ×α))(hl:l.Pairwise R):(AJ lt l).Pairwise (Ks lt R):=by
 induction l with
 |nil=>exact .nil
 |cons p r ih =>
  have h1:=ACO.mp hl;exact OV H p _ (ih h1.2) λq hq=>h1.1 q ((Bg r).mem_iff.mp hq)
end
theorem CJ{α:Type}{P:α->α->Prop}(asym:∀a b,P a b->P b a->False):∀{l l':List α},l.Pairwise P->l'.Pairwise P->l.Perm l'->l=l'
 |[],l',_,_,hp=>(List.nil_perm.mp hp).symm
 |a::l,l',h1,h2,hp=>by
  cases l' with
  |nil=>exact absurd hp.length_eq (by simp)
  |cons b l' =>
   have c1:=ACO.mp h1;have c2:=ACO.mp h2;have ab:a=b:=by
    rcases AAR.mp (hp.mem_iff.mp (.head _)) with e|e
    ·exact e
    ·rcases AAR.mp (hp.mem_iff.mpr (.head l')) with e'|e'
     ·exact e'.symm
     ·exact(asym _ _ (c1.1 b e') (c2.1 a e)).elim
   subst ab;rw[CJ asym c1.2 c2.2 (List.Perm.cons_inv hp)]
open PySem PyProof.Rows
noncomputable def RR(J:Keyed->Nat)(xs:Array Keyed)(i:Nat):Nat:=match xs[i]? with|some p=>J p|none=>0
theorem CU(h:xs[i]? = ys[j]?):RR J xs i=RR J ys j:=by unfold RR;rw[h]
def Bef(κ:KeyKind)(J:Keyed->Nat)(xs:Array Keyed)(i j:Nat):Prop:=κ.klt (KK κ xs i) (KK κ xs j)\/(KK κ xs i=KK κ xs j/\RR J xs i<RR J xs j)
def BB(κ:KeyKind)(J:Keyed->Nat)(xs:Array Keyed)(n:Nat):Prop:=∀i j,i<j->j<n->Bef κ J xs i j
theorem Bef.congr(h:Bef κ J ys i' j')(hi:xs[i]? = ys[i']?)(hj:xs[j]? = ys[j']?):Bef κ J xs i j:=by unfold Bef;rw[KK_congr hi,KK_congr hj,CU hi,CU hj];exact h
theorem Bef.kle(h:Bef κ J xs i j):κ.kle (KK κ xs i) (KK κ xs j):=h.elim (λh=>KeyOrd.kle_of_klt h) λh=>by rw[h.1];exact KeyOrd.kle_refl _
theorem Vu(h:κ.kle (KK κ xs i) (KK κ xs j))(hr:RR J xs i<RR J xs j):Bef κ J xs i j:=by
 cases hb:κ.blt (KK κ xs i) (KK κ xs j) with
 |true=>exact .inl hb
 |false=>exact .inr ⟨(κ.total _ _ h hb).symm,hr⟩
theorem BB.sorted(h:BB κ J xs n):SortedToK κ xs n:=λi j hij hj=>by
 by_cases e:i=j
 ·subst e;exact KeyOrd.kle_refl _
 ·exact(h i j (QX hij e) hj).kle
structure SOk(κ:KeyKind)(J:Keyed->Nat)(a₀:Array Keyed)(st:SortSt)(n:Nat):Prop where
 base:SBase a₀ st
 rest:∀i,n<=i->i<a₀.size->RR J (arrOf st) i=i
 low:∀i,i<n->RR J (arrOf st) i<n
section
variable{prog:Program}{w:World}{A:Around}{E:Value->Shared->Prop}{a₀:Array Keyed}{κ:KeyKind}{J:Keyed->Nat}
theorem SOk.more{st:SortSt}(h:SOk κ J a₀ st n)(hn:n<a₀.size):SOk κ J a₀ st (n+1) :=
 ⟨h.base,λi h1 h2=>h.rest i (by(exact ACF ‹_›)) h2,λi hi=>by
  by_cases e:i=n
  ·subst e;rw[h.rest i (AAL _) hn];(with_reducible assumption)
  ·have:=h.low i (QY hi e);(exact AB3 ‹_›)⟩
theorem Dd(hk:k<xs.size)(hl:l<=k)(x:Nat) :
 (x=l/\(bubble xs k (k-l))[x]? = xs[k]?)\/(l<x/\x<=k/\(bubble xs k (k-l))[x]? = xs[x-1]?)\/((x<l\/k<x)/\(bubble xs k (k-l))[x]? = xs[x]?):=by
 have e:=getElem?_bubble hk (k-l) (by(exact Nat.sub_le _ _)) x;rw[show k-(k-l)=l by exact iR hl] at e;by_cases h1:x=l
 ·rw[if_pos h1] at e;exact .inl ⟨h1,e⟩
 ·rw[if_neg h1] at e;by_cases h2:l<x/\x<=k
  ·rw[if_pos h2] at e;exact .inr (.inl ⟨h2.1,h2.2,e⟩)
  ·rw[if_neg h2] at e;exact .inr (.inr ⟨by exact jB h1 h2,e⟩)
theorem MP(hk:k<xs.size)(hl:l<=k)(hs:BB κ J xs k)(hlo:∀i,i<l->Bef κ J xs i k)(hhi:∀i,l<=i->i<k->κ.klt (KK κ xs k) (KK κ xs i)) :
 BB κ J (bubble xs k (k-l)) (k+1):=by
 intro i j hij hj;rcases Dd hk hl i with⟨h1,e1⟩|⟨h1,h2,e1⟩|⟨h1,e1⟩
 ·rcases Dd hk hl j with⟨g1,e2⟩|⟨g1,g2,e2⟩|⟨g1,e2⟩
  ·exact jG hij h1 g1
  ·exact Bef.congr (.inl (hhi (j-1) (kT hij h1) (Rd g1 hj))) e1 e2
  ·exact jE hij hj h1 g1
 ·rcases Dd hk hl j with⟨g1,e2⟩|⟨g1,g2,e2⟩|⟨g1,e2⟩
  ·exact jF hij h1 g1
  ·exact Bef.congr (hs (i-1) (j-1) (kQ h1 hij) (Rd g1 hj)) e1 e2
  ·exact jD hij hj h1 g1
 ·rcases Dd hk hl j with⟨g1,e2⟩|⟨g1,g2,e2⟩|⟨g1,e2⟩
  ·exact Bef.congr (hlo i (Og hij g1)) e1 e2
  ·exact Bef.congr (hs i (j-1) (iZ hij hj h1 g1) (Rd g1 hj)) e1 e2
  ·exact Bef.congr (hs i j hij (YF hl hj g1)) e1 e2
theorem SOk.bubble{st:SortSt}(h:SOk κ J a₀ st k)(hk:k<a₀.size)(hl:l<=k):SOk κ J a₀ (setArr st (bubble (arrOf st) k (k-l))) (k+1):=by
 have hks:k<(arrOf st).size:=by rw[h.base.size];exact hk
 refine⟨h.base.setArr (bubble_perm _ _ _),λi h1 h2=>?_,λi hi=>?_⟩
 ·rcases Dd hks hl i with⟨g1,e⟩|⟨g1,g2,e⟩|⟨g1,e⟩
  ·exact jH hl h1 g1
  ·exact Lr h1 g2
  ·exact(CU e)▸h.rest i (by(exact ACF ‹_›)) h2
 ·rcases Dd hks hl i with⟨g1,e⟩|⟨g1,g2,e⟩|⟨g1,e⟩
  ·rw[CU e,h.rest k (AAL _) hk];(exact Nat.lt_add_one _)
  ·rw[CU e];have:=h.low (i-1) (Rd g1 hi);(exact AB3 ‹_›)
  ·rw[CU e];have:=h.low i (YF hl hi g1);(exact AB3 ‹_›)
theorem Iu{st:SortSt}{Q:Bool->SortSt->Prop}(hO:κ.OneLt)(h0:KeysOf κ a₀)(hn:n<=a₀.size)(hok:ok<=n)(ho1:1<=ok)(hB:SOk κ J a₀ st ok)(hs:BB κ J (arrOf st) ok)
 (h:∀st',SOk κ J a₀ st' n->BB κ J (arrOf st') n->Q true st'):wpS (model prog w) A E s (binarySort' 0 n ok) Q st:=by
 rw[binarySort'_eq];simp only[ACY];refine wpS_bind (wpS_mono (wpS_forRange (I:=λk c st'=>c=(au,())/\SOk κ J a₀ st' (min k n)/\BB κ J (arrOf st') (min k n))
  (Q:=λc st'=>c=(au,())/\SOk κ J a₀ st' n/\BB κ J (arrOf st') n) ?step ?fin ?init) ?post)
 case post =>
  rintro c st' ⟨rfl,hB',hs'⟩;exact wpS_pure (h st' hB' hs')
 case init =>
  rw[show min (max ok 1) n=ok by exact iO ho1 hok];exact⟨rfl,hB,hs⟩
 case fin =>
  rintro c st' ⟨hc,hB',hs'⟩;rw[show min (max (max ok 1) n) n=n by exact iQ] at hB' hs';exact⟨hc,hB',hs'⟩
 case step =>
  rintro k c st' hak hkn ⟨rfl,hB',hs'⟩;rw[show min k n=k by exact iP hkn] at hB' hs';have hk:=by(exact AAC ‹_› ‹_›)
  have hss:=hs'.sorted;refine wpS_bind (wpS_mono (wpS_forRange (I:=λx c st''=>st''=st'/\∃l r,c=(au,l,r)/\l<=r/\r<=k/\r-l<=k-x ∧
   (∀i,i<l->κ.kle (KK κ (arrOf st') i) (KK κ (arrOf st') k))/\(∀i,r<=i->i<k->κ.klt (KK κ (arrOf st') k) (KK κ (arrOf st') i)))
   (Q:=λc st''=>st''=st'/\∃l r,c=(au,l,r)/\l<=k ∧
    (∀i,i<l->κ.kle (KK κ (arrOf st') i) (KK κ (arrOf st') k))/\(∀i,l<=i->i<k->κ.klt (KK κ (arrOf st') k) (KK κ (arrOf st') i))) ?istep ?ifin ?iinit) ?ipost)
  case iinit=>exact HQ rfl 0 k rfl (by(exact ABF _)) (by lia) (by(exact Nat.sub_le _ _)) (λi hi=>by lia) (λi h1 h2=>by exact QZ h1 h2)
  case ifin =>
   rintro c st'' ⟨rfl,l,r,rfl,hlr,hrk,hm,hlo,hhi⟩;have:l=r:=by exact iM hlr hm
   subst this;exact IE rfl l l rfl hrk hlo hhi
  case istep =>
   rintro x c st'' _ hxk ⟨rfl,l,r,rfl,hlr,hrk,hm,hlo,hhi⟩;dsimp only;by_cases hge:l≥r
   ·rw[if_pos hge];have:l=r:=by exact iT hlr hge
    subst this;exact wpS_pure (IE rfl l l rfl hrk hlo hhi)
   ·rw[if_neg hge];refine wpS_bind (wpS_ltKK hO hB'.base h0 hk (gX hge hrk hk) ?_);cases hless:κ.blt (KK κ (arrOf st'') k) (KK κ (arrOf st'') ((l+r) / 2))
    case true =>
     dsimp only;rw[if_pos rfl];refine wpS_pure (HQ rfl l ((l+r) / 2) rfl (hM hge) (gY hge hrk) (by omega) hlo (λi h1 h2=>?_));exact KeyOrd.klt_of_klt_of_kle hless (hss _ _ h1 h2)
    case false =>
     dsimp only;rw[if_neg ABB];refine wpS_pure (HQ rfl ((l+r) / 2+1) r rfl (gZ hge) (by(with_reducible assumption)) (by omega) (λi h1=>?_) hhi);exact KeyOrd.kle_trans (hss i ((l+r) / 2) (by(exact ACB ‹_›)) (Vy hge hrk)) hless
  case ipost =>
   rintro c st'' ⟨rfl,l,r,rfl,hlk,hlo,hhi⟩;rw[moveDown'_eq];refine wpS_bind (wpS_modify (wpS_pure ⟨rfl,?_,?_⟩))
   ·rw[show min (k+1) n=k+1 by exact YA hkn];exact hB'.bubble hk hlk
   ·rw[show min (k+1) n=k+1 by exact YA hkn];exact MP (hB'.base.size▸hk) hlk hs' (λi hi=>Vu (hlo i hi) (by rw[hB'.rest k (AAL _) hk];exact hB'.low i (by(exact AAC ‹_› ‹_›)))) hhi
theorem GK{st:SortSt}{Q:AscSt->SortSt->Prop}(hO:κ.OneLt)(h0:KeysOf κ a₀)(hn:nrem<=a₀.size)(ha:1<=a)(han:a<=nrem)(hB:SOk κ J a₀ st a)
 (hs:BB κ J (arrOf st) a)
 (h:∀n,a<=n->n<=nrem->SOk κ J a₀ st n->BB κ J (arrOf st) n->(n=nrem\/κ.klt (KK κ (arrOf st) n) (KK κ (arrOf st) (n-1)))->Q (au,n) st) :
 wpS (model prog w) A E s (ascLoop a nrem) Q st:=by
 unfold ascLoop;refine wpS_forRange (I:=λx c st'=>st'=st/\c=(au,x)/\SOk κ J a₀ st x/\BB κ J (arrOf st) x) ?step ?fin ⟨rfl,rfl,hB,hs⟩
 case fin =>
  rintro c st' ⟨rfl,rfl,hB',hs'⟩;rw[show max a nrem=nrem by exact Y9 han] at hB' hs' ⊢;exact h nrem han (AAL _) hB' hs' (.inl rfl)
 case step =>
  rintro x c st' hax hxn ⟨rfl,rfl,hB',hs'⟩;dsimp only;refine wpS_bind (wpS_ltKK hO hB'.base h0 (by(exact AAC ‹_› ‹_›)) (V7 hxn hn) ?_);cases hless:κ.blt (KK κ (arrOf st') x) (KK κ (arrOf st') (x-1))
  case true =>
   dsimp only;rw[if_pos rfl];exact wpS_pure (h x hax (by(exact ACF ‹_›)) hB' hs' (.inr hless))
  case false =>
   dsimp only;rw[if_neg ABB];refine wpS_pure ⟨rfl,rfl,hB'.more (by(exact AAC ‹_› ‹_›)),λi j hij hj=>?_⟩;by_cases hjx:j<x
   ·exact hs' i j hij hjx
   ·have hj':=by exact iX hj hjx
    subst hj';refine Vu (KeyOrd.kle_trans (hs'.sorted i (j-1) (Od hij) (Oe hij)) hless) ?_;rw[hB'.rest j (AAL _) (iW hxn hn)];exact hB'.low i hij
end
theorem BX(hm:m<=xs.size)(x:Nat) :
 (b<=x/\x<m/\(mirror xs b m ((m-b) / 2))[x]? = xs[b+m-1-x]?)\/((x<b\/m<=x)/\(mirror xs b m ((m-b) / 2))[x]? = xs[x]?):=by
 have e:=getElem?_mirror_all (i:=b) hm x;by_cases h1:b<=x/\x<m
 ·rw[if_pos h1] at e;exact .inl ⟨h1.1,h1.2,e⟩
 ·rw[if_neg h1] at e;exact .inr ⟨by exact jA h1,e⟩
theorem SOk.mirror{st:SortSt}(h:SOk κ J a₀ st m)(hm:m<=a₀.size):SOk κ J a₀ (setArr st (mirror (arrOf st) b m ((m-b) / 2))) m:=by
 have hms:m<=(arrOf st).size:=by rw[h.base.size];exact hm
 refine⟨h.base.setArr (mirror_perm _ _ _ _),λi h1 h2=>?_,λi hi=>?_⟩
 ·show RR J (PyProof.Rows.mirror (arrOf st) b m ((m-b) / 2)) i=i;rcases BX (b:=b) hms i with⟨g1,g2,e⟩|⟨g1,e⟩
  ·exact QZ h1 g2
  ·exact(CU e)▸h.rest i h1 h2
 ·show RR J (PyProof.Rows.mirror (arrOf st) b m ((m-b) / 2)) i<m;rcases BX (b:=b) hms i with⟨g1,g2,e⟩|⟨g1,e⟩
  ·exact(CU e)▸h.low _ (Lu g1 g2)
  ·exact(CU e)▸h.low _ hi
def On(κ:KeyKind)(J:Keyed->Nat)(xs:Array Keyed)(n:Nat):Prop:=∀i j,i<j->j<n->Bef κ J xs j i
theorem Th(hm:m<=xs.size)(h:On κ J xs m):BB κ J (mirror xs 0 m ((m-0) / 2)) m:=by
 intro i j hij hj;rcases BX (b:=0) hm i with⟨g1,g2,e1⟩|⟨g1,e1⟩
 ·rcases BX (b:=0) hm j with⟨k1,k2,e2⟩|⟨k1,e2⟩
  ·exact Bef.congr (h (0+m-1-j) (0+m-1-i) (V5 hij k2) (Rb g1 hij k2)) e1 e2
  ·exact V1 hj k1
 ·exact YH hij hj g1
structure Dsc(κ:KeyKind)(J:Keyed->Nat)(a₀:Array Keyed)(st:SortSt)(x neq:Nat):Prop where
 ok:SOk κ J a₀ st x
 le:neq+1<=x
 rev:∀i j,i<j->j<x->i<x-(neq+1)->Bef κ J (arrOf st) j i
 eq:∀i,x-(neq+1)<=i->i<x->KK κ (arrOf st) i=KK κ (arrOf st) (x-1)/\RR J (arrOf st) i=i
theorem Dsc.kle{st:SortSt}(h:Dsc κ J a₀ st x neq)(hi:i<x):κ.kle (KK κ (arrOf st) (x-1)) (KK κ (arrOf st) i):=by
 by_cases h1:i<x-(neq+1)
 ·exact(h.rev i (x-1) (YQ h1) (Oe hi) h1).kle
 ·exact((h.eq i (by(exact ACI ‹_›)) hi).1)▸KeyOrd.kle_refl _
theorem Dsc.turn{st:SortSt}(h:Dsc κ J a₀ st x neq)(hx:x<=a₀.size) :
 SOk κ J a₀ (setArr st (mirror (arrOf st) (x-(neq+1)) x ((x-(x-(neq+1))) / 2))) x/\On κ J (mirror (arrOf st) (x-(neq+1)) x ((x-(x-(neq+1))) / 2)) x ∧
 ∀k,KK κ (mirror (arrOf st) (x-(neq+1)) x ((x-(x-(neq+1))) / 2)) k=KK κ (arrOf st) k:=by
 have hxs:x<=(arrOf st).size:=by rw[h.ok.base.size];exact hx
 have hle:=h.le;refine⟨h.ok.mirror hx,λi j hij hj=>?_,KK_mirror_equal hxs λk h1 h2=>(h.eq k h1 h2).1⟩;rcases BX (b:=x-(neq+1)) hxs i with⟨g1,g2,e1⟩|⟨g1,e1⟩
 ·rcases BX (b:=x-(neq+1)) hxs j with⟨k1,k2,e2⟩|⟨k1,e2⟩
  ·refine Bef.congr (.inr ⟨?_,?_⟩) e2 e1
   ·exact((h.eq _ (Oc k2) (Lu k1 k2)).1)▸(h.eq _ (Oc g2) (Rb g1 hij k2)).1.symm
   ·rw[(h.eq _ (Oc k2) (Lu k1 k2)).2,(h.eq _ (Oc g2) (Rb g1 hij k2)).2];exact V5 hij k2
  ·exact jC hij hj g1 k1
 ·rcases BX (b:=x-(neq+1)) hxs j with⟨k1,k2,e2⟩|⟨k1,e2⟩
  ·exact Bef.congr (h.rev i _ (iY hij k2 g1) (Lu k1 k2) (V0 hij k2 g1)) e2 e1
  ·exact Bef.congr (h.rev i j hij hj (V0 hij hj g1)) e2 e1
theorem Dsc.whole{st:SortSt}(h:Dsc κ J a₀ st x 0):On κ J (arrOf st) x:=λi j hij hj=>h.rev i j hij hj (kN hij hj)
theorem Hs{st:SortSt}(ok:SOk κ J a₀ st x)(hx:x<a₀.size)(h1:1<=x)(rv:On κ J (arrOf st) x)(hl:κ.klt (KK κ (arrOf st) x) (KK κ (arrOf st) (x-1)))
 (hk:∀i,i<x->κ.kle (KK κ (arrOf st) (x-1)) (KK κ (arrOf st) i)):Dsc κ J a₀ st (x+1) 0:=by
 refine⟨ok.more hx,by(exact ACZ _),λi j hij hj hi=>?_,λi h2 h3=>?_⟩
 ·by_cases e:j=x
  ·subst e;exact .inl (KeyOrd.klt_of_klt_of_kle hl (hk i (by(with_reducible assumption))))
  ·exact rv i j hij (QY hj e)
 ·have:i=x:=by exact kM h2 h3
  subst this;exact⟨rfl,ok.rest i (AAL _) hx⟩
theorem Dsc.more{st:SortSt}(h:Dsc κ J a₀ st x neq)(hx:x<a₀.size)(he:KK κ (arrOf st) x=KK κ (arrOf st) (x-1)):Dsc κ J a₀ st (x+1) (neq+1):=by
 have hle:=h.le;refine⟨h.ok.more hx,by(exact Nat.lt_succ_of_le ‹_›),λi j hij hj hi=>?_,λi h2 h3=>?_⟩
 ·by_cases e:j=x
  ·subst e;rcases h.rev i (j-1) (kP hi) (V8 hle) (V6 hi) with q|⟨_,q⟩
   ·exact .inl (he▸q)
   ·rw[(h.eq (j-1) (YR) (V8 hle)).2] at q;have:=h.ok.low i (by(with_reducible assumption));lia
  ·exact h.rev i j hij (QY hj e) (V6 hi)
 ·show KK κ (arrOf st) i=KK κ (arrOf st) x/\_;by_cases e:i=x
  ·subst e;exact⟨rfl,h.ok.rest i (AAL _) hx⟩
  ·exact he▸h.eq i (kO h2) (QY h3 e)
section
variable{prog:Program}{w:World}{A:Around}{E:Value->Shared->Prop}{a₀:Array Keyed}{κ:KeyKind}{J:Keyed->Nat}
theorem IL{st:SortSt}{Q:Option Nat->SortSt->Prop}(hO:κ.OneLt)(h0:KeysOf κ a₀)(hn:nrem<=a₀.size)(h1:1<=n)(hnn:n<=nrem)(hB:SOk κ J a₀ st n)
 (hs:On κ J (arrOf st) n) (h:∀m st',SOk κ J a₀ st' m->1<=m->m<=nrem->BB κ J (arrOf st') m->Q (aj m) st') :
 wpS (model prog w) A E s (tail3 n nrem) Q st:=by
 unfold tail3;have hsz:n<=(arrOf st).size:=by rw[hB.base.size];(exact AAC ‹_› ‹_›)
 refine wpS_bind (wpS_reverse ?_);have hB':SOk κ J a₀ (setArr st (mirror (arrOf st) 0 n ((n-0) / 2))) n:=hB.mirror (Vz hnn hn);exact wpS_bind (GK hO h0 hn h1 hnn hB' (Th hsz hs) λm hm1 hm2 hBm hsm _=>wpS_pure (h m _ hBm (by(exact AAC ‹_› ‹_›)) hm2 hsm))
theorem Ku{st:SortSt}{Q:DescSt->SortSt->Prop}(hO:κ.OneLt)(h0:KeysOf κ a₀)(hn:nrem<=a₀.size)(h1:1<=n)(hnn:n<=nrem)(hD:Dsc κ J a₀ st n 0)
 (h:∀m neq st',n<=m->m<=nrem->Dsc κ J a₀ st' m neq->Q (au,m,neq) st') :
 wpS (model prog w) A E s (descLoop n nrem) Q st:=by
 unfold descLoop;refine wpS_forRange (I:=λx c st'=>∃neq,c=(au,x,neq)/\Dsc κ J a₀ st' x neq) ?step ?fin (iEA 0 rfl hD)
 case fin =>
  rintro c st' ⟨neq,rfl,hD'⟩;rw[show max n nrem=nrem by exact Y9 hnn] at hD' ⊢;exact h nrem neq st' hnn (AAL _) hD'
 case step =>
  rintro x c st' hax hxn ⟨neq,rfl,hD'⟩;dsimp only;refine wpS_bind (wpS_ltKK hO hD'.ok.base h0 (by(exact AAC ‹_› ‹_›)) (V7 hxn hn) ?_);cases hless:κ.blt (KK κ (arrOf st') x) (KK κ (arrOf st') (x-1))
  case true =>
   dsimp only;rw[if_pos rfl];by_cases hneq:neq>0
   ·rw[if_pos hneq];refine oAA (hD'.turn (iV hxn hn)) λt1 t2 t3=>wpS_bind (wpS_reverse (wpS_pure (iEA 0 rfl (Hs t1 (by(exact AAC ‹_› ‹_›)) (YD h1 hax) t2 ?_ ?_))))
    ·rw[t3,t3];exact hless
    ·intro i hi;rw[t3,t3];exact hD'.kle hi
   ·rw[if_neg hneq];have:neq=0:=by exact YB hneq
    subst this;exact wpS_pure (iEA 0 rfl (Hs hD'.ok (by(exact AAC ‹_› ‹_›)) (by(exact AAC ‹_› ‹_›)) hD'.whole hless λi hi=>hD'.kle hi))
  case false =>
   dsimp only;rw[if_neg ABB];refine wpS_bind (wpS_ltKK hO hD'.ok.base h0 (V7 hxn hn) (by(exact AAC ‹_› ‹_›)) ?_);cases hlarger:κ.blt (KK κ (arrOf st') (x-1)) (KK κ (arrOf st') x)
   case true =>
    dsimp only;rw[if_pos rfl];exact wpS_pure (h x neq st' hax (by(exact ACF ‹_›)) hD')
   case false =>
    dsimp only;rw[if_neg ABB];exact wpS_pure (iEA (neq+1) rfl (hD'.more (by(exact AAC ‹_› ‹_›)) (KeyOrd.kle_antisymm hlarger hless)))
theorem Gn{st:SortSt}{Q:Option Nat->SortSt->Prop}(hO:κ.OneLt)(h0:KeysOf κ a₀)(hn:nrem<=a₀.size)(hnn:n+1<=nrem)(hD:Dsc κ J a₀ st (n+1) 0)
 (h:∀m st',SOk κ J a₀ st' m->1<=m->m<=nrem->BB κ J (arrOf st') m->Q (aj m) st') :
 wpS (model prog w) A E s (descPart n nrem) Q st:=by
 unfold descPart;refine wpS_bind (wpS_lift (wpAny_rule ⟨rfl,?_⟩));refine wpS_bind (Ku hO h0 hn (by(exact ACZ _)) hnn hD λm neq st' hm1 hm2 hD'=>?_);dsimp only;by_cases hneq:neq>0
 ·exact(if_pos hneq)▸oAA (hD'.turn (by(exact AAC ‹_› ‹_›))) λt1 t2 _=>wpS_bind (wpS_reverse (IL hO h0 hn (YE hm1) hm2 t1 t2 h))
 ·rw[if_neg hneq];have:neq=0:=by exact YB hneq
  subst this;exact IL hO h0 hn (YE hm1) hm2 hD'.ok hD'.whole h
theorem Kv{st:SortSt}{Q:Option Nat->SortSt->Prop}(hO:κ.OneLt)(h0:KeysOf κ a₀)(hn:nrem<=a₀.size)(h1:1<=nrem)(hB:SBase a₀ st)
 (hr:∀i,i<a₀.size->RR J (arrOf st) i=i)
 (h:∀m st',SOk κ J a₀ st' m->1<=m->m<=nrem->BB κ J (arrOf st') m->Q (aj m) st') :
 wpS (model prog w) A E s (countRun' 0 nrem) Q st:=by
 have ok:∀n,n<=a₀.size->SOk κ J a₀ st n:=λn hn=>⟨hB,λi _ h2=>hr i h2,λi hi=>by rw[hr i (by(exact AAC ‹_› ‹_›))];exact hi⟩
 rw[countRun0_eq];refine wpS_bind (GK hO h0 hn (AAL 1) h1 (ok 1 (by(exact AAC ‹_› ‹_›))) (λi j hij hj=>by exact YG hij hj) λn hn1 hn2 _ hsn hor=>?_);dsimp only;by_cases hnn:n=nrem
 ·rw[if_pos (by simpa using hnn)];exact wpS_pure (h n st (ok n (by(exact AAC ‹_› ‹_›))) hn1 hn2 hsn)
 ·rw[if_neg (by simpa using hnn)];have hlt:=hor.resolve_left hnn;by_cases hgt:n>1
  ·rw[if_pos hgt];refine wpS_bind (wpS_ltKK hO hB h0 (YD h1 hn) (kR hgt hn2 hn) ?_);cases hrose:κ.blt (KK κ (arrOf st) 0) (KK κ (arrOf st) (n-1))
   case true =>
    dsimp only;rw[if_pos rfl];exact wpS_pure (h n st (ok n (by(exact AAC ‹_› ‹_›))) hn1 hn2 hsn)
   case false =>
    dsimp only;rw[if_neg ABB];have hsz:n<=(arrOf st).size:=by rw[hB.size];(exact AAC ‹_› ‹_›)
    have hss:=hsn.sorted;have hall:∀k,0<=k->k<n->KK κ (arrOf st) k=KK κ (arrOf st) (n-1):=by intro k _ hk;exact KeyOrd.kle_antisymm (hss k (n-1) (Od hk) (V8 hn1)) (KeyOrd.kle_trans hrose (hss 0 k (by(with_reducible assumption)) hk))
    have keq:=KK_mirror_equal hsz hall;refine wpS_bind (wpS_reverse (Gn hO h0 hn (QX hn2 hnn) (Hs ((ok n (Vz hn2 hn)).mirror (Vz hn2 hn)) (YC hn2 hnn hn) hn1 ?_ ?_ ?_) h))
    ·intro i j hij hj;rcases BX hsz i with⟨g1,g2,e1⟩|⟨g1,e1⟩
     ·rcases BX hsz j with⟨k1,k2,e2⟩|⟨k1,e2⟩
      ·refine Bef.congr (.inr ⟨?_,?_⟩) e2 e1
       ·exact(hall _ (by(exact ABF _)) (YO k2))▸(hall _ (by(exact ABF _)) (Rb g1 hij k2)).symm
       ·rw[hr _ (YN k2 hn2 hn),hr _ (YN g2 hn2 hn)];exact V5 hij k2
      ·exact V1 hj k1
     ·exact YH hij hj g1
    ·rw[keq,keq];exact hlt
    ·intro i hi;rw[keq,keq,hall i (by(exact ABF _)) hi];exact KeyOrd.kle_refl _
  ·rw[if_neg hgt];have hn1':=by exact iU hn1 hgt
   subst hn1';refine Gn hO h0 hn (QX hn2 hnn) (Hs (ok 1 (by(exact AAC ‹_› ‹_›))) (YC hn2 hnn hn) (AAL 1) (λi j hij hj=>by exact YG hij hj) hlt λi hi=>?_) h;have:i=0:=by lia
   subst this;exact KeyOrd.kle_refl _
theorem Kt{st:SortSt}{Q:Unit->SortSt->Prop}(hO:κ.OneLt)(h0:KeysOf κ a₀)(hB:SBase a₀ st)(hr:∀i,i<a₀.size->RR J (arrOf st) i=i)(h2:2<=a₀.size)(h64:a₀.size<64)
 (h:∀st',(arrOf st').Perm a₀->failedOf st'=au->BB κ J (arrOf st') a₀.size->Q () st'):wpS (model prog w) A E s sortRuns' Q st:=by
 rw[sortRuns'_eq];refine wpS_bind (wpS_get ?_);dsimp only;have hmr:minRun' a₀.size a₀.size 0=a₀.size:=by
  obtain⟨f,hf⟩:∃f,a₀.size=f+1:=⟨a₀.size-1,by exact iN h2⟩
  have:minRun' (f+1) a₀.size 0=a₀.size:=by rw[minRun'_succ,if_pos h64];rfl
  rwa [<-hf] at this
 rw[hB.size,hmr];have fin:∀{st':SortSt},SOk κ J a₀ st' a₀.size->BB κ J (arrOf st') a₀.size->(arrOf (setPending st' ((pendingOf st').push (0,a₀.size,0)))).Perm a₀/\failedOf (setPending st' ((pendingOf st').push (0,a₀.size,0)))=au ∧
  pendingOf (setPending st' ((pendingOf st').push (0,a₀.size,0)))=#[(0,a₀.size,0)]/\BB κ J (arrOf (setPending st' ((pendingOf st').push (0,a₀.size,0)))) a₀.size :=
  λok hs=>⟨ok.base.perm,ok.base.failed,by show(pendingOf _).push _=_;rw[ok.base.pend];rfl,hs⟩
 refine wpS_bind (wpS_mono (wpS_forRange
  (I:=λx c st'=>(x=0/\c=(au,0)/\st'=st)\/(1<=x/\c=(au,a₀.size)/\(arrOf st').Perm a₀/\failedOf st'=au/\pendingOf st'=#[(0,a₀.size,0)]/\BB κ J (arrOf st') a₀.size))
  (Q:=λc st'=>c=(au,a₀.size)/\(arrOf st').Perm a₀/\failedOf st'=au/\pendingOf st'=#[(0,a₀.size,0)]/\BB κ J (arrOf st') a₀.size) ?step ?fin (.inl ⟨rfl,rfl,rfl⟩)) ?post)
 case fin =>
  rintro c st' (⟨hx,_,_⟩|⟨_,hc,hD⟩)
  ·lia
  ·exact⟨hc,hD⟩
 case step =>
  rintro x c st' _ hx (⟨rfl,rfl,rfl⟩|⟨hx1,rfl,hD⟩)
  ·dsimp only;rw[if_neg (by(exact Nat.not_le_of_lt ‹_›))];rw[Nat.sub_zero,Nat.min_self];refine wpS_bind (Kv hO h0 (AAL _) (by(exact ACF ‹_›)) hB hr λm st2 hB2 hm1 hm2 hs2=>?_);dsimp only;by_cases hlt:m<a₀.size
   ·rw[if_pos hlt];refine wpS_bind (wpS_lift (wpAny_rule ⟨rfl,?_⟩));refine wpS_bind (Iu hO h0 (AAL _) hm2 hm1 hB2 hs2 λst3 hB3 hs3=>?_);rw[if_neg (show ¬(!true)=true from ABB)];refine wpS_bind (wpS_get ?_);have hb:(pendingOf st3).back? = au:=by rw[hB3.base.pend];rfl
    rw[hb];dsimp only;exact wpS_bind (wpS_modify (wpS_pure (.inr ⟨by(exact ACZ _),by rw[ACY],fin hB3 hs3⟩)))
   ·rw[if_neg hlt];have hm:=by exact iS hm2 hlt
    subst hm;refine wpS_bind (wpS_get ?_);have hb:(pendingOf st2).back? = au:=by rw[hB2.base.pend];rfl
    rw[hb];dsimp only;exact wpS_bind (wpS_modify (wpS_pure (.inr ⟨by(exact ACZ _),by rw[ACY],fin hB2 hs2⟩)))
  ·dsimp only;exact(if_pos (AAL _))▸wpS_pure ⟨rfl,hD⟩
 case post =>
  rintro c st' ⟨rfl,hD⟩;dsimp only;refine wpS_bind (wpS_mono (wpS_forRange (I:=λ_ c st''=>st''=st'/\c=(au,())) ?_ (λ_ _ hh=>hh) ⟨rfl,rfl⟩) ?_)
  ·rintro x c st'' _ _ ⟨rfl,rfl⟩;refine wpS_bind (wpS_get ?_);rw[if_pos (hD.2.2.1▸AAL 1)];exact wpS_pure ⟨rfl,rfl⟩
  ·rintro c st'' ⟨rfl,rfl⟩;exact wpS_pure (h _ hD.1 hD.2.1 hD.2.2.2)
end
set_option backward.match.sparseCases false
set_option genInjectivity false
theorem G1{κ κ' α α':Type}{lt:κ->κ->Bool}{lt':κ'->κ'->Bool}(f:κ×α->κ'×α')(h:∀p q,lt' (f p).1 (f q).1=lt p.1 q.1)(l:List (κ×α)):AJ lt' (l.map f)=(AJ lt l).map f:=by
 have ins:∀(p:κ×α) (l:List (κ×α)),CW lt' (f p) (l.map f)=(CW lt p l).map f:=by
  intro p l
  induction l with
  |nil=>rfl
  |cons q r ih =>
   show(if lt' (f q).1 (f p).1 then f q::CW lt' (f p) (r.map f) else f p::f q::r.map f)=(if lt q.1 p.1 then q::CW lt p r else p::q::r).map f;rw[h,ih];split<;>rfl
 induction l with
 |nil=>rfl
 |cons p r ih =>
  show CW lt' (f p) (AJ lt' (r.map f))=(CW lt p (AJ lt r)).map f;rw[ih,ins]
theorem ZT(κ:KeyKind):VG κ.blt:=⟨κ.irrefl,κ.trans,κ.total⟩
noncomputable abbrev Ma:KeyKind where
 α:=Int
 blt a b:=decide (a<b)
 irrefl a:=AAT (Int.lt_irrefl a)
 trans a b c h1 h2:=AAI (Int.lt_trans (AAG h1) (AAG h2))
 negTrans a b c h:=by
  have:=AAG h;by_cases hab:a<b
  ·exact .inl (AAI hab)
  ·exact .inr (AAI (by lia))
 total a b h1 h2:=by have:=ABG h1;have:=ABG h2;exact Ze ‹_› this
 keyOf v:=match v with|.int x _=>aj x|_=>au
 dflt:=0
theorem LZ:Ma.OneLt:=by intro prog w A E s x y a b Q ha hb h;cases x<;>simp only[Ma,reduceCtorEq,Option.some.injEq] at ha;cases y<;>simp only[Ma,reduceCtorEq,Option.some.injEq] at hb;cases ha;cases hb;exact oneLt_int h
section
variable{κ:KeyKind}{γ:Type}
structure Ly(κ:KeyKind)(Z:List (κ.α×(Keyed×γ))):Prop where
 key:∀z∈Z,κ.keyOf z.2.1.1=aj z.1
 nd:(Z.map (·.2.1.2)).Nodup
noncomputable def Bs(Z:List (κ.α×(Keyed×γ)))(p:Keyed):Nat:=(Z.map (·.2.1.2)).findIdx (·==p.2)
theorem IZ(h:Ly κ Z)(e:Z[i]? = aj z):Bs Z z.2.1=i:=by
 unfold Bs;obtain⟨hi,he⟩:=AAM.mp e;have hl:i<(Z.map (·.2.1.2)).length:=by rw[AAB];exact hi
 refine(List.findIdx_eq hl).mpr ⟨by rw[List.getElem_map,he];exact beq_self_eq_true _,λj hj=>?_⟩;refine beq_eq_false_iff_ne.mpr λq=>?_;have:j=i:=(List.getElem_inj (h₀:=ABT hj hl) (h₁:=hl) h.nd).mp (by rw[q,List.getElem_map,he]);exact Zd hj this
theorem dW{Z:List (κ.α×(Keyed×γ))}(h:Ly κ Z)(i:Nat)(hi:i<Z.length):RR (Bs Z) (Z.map (·.2.1)).toArray i=i:=by unfold RR;exact(List.getElem?_toArray)▸(ABI)▸(AAN hi)▸IZ h (AAN hi)
theorem Yr{xs:Array Keyed}(hi:i<xs.size)(e:κ.keyOf xs[i].1=aj a):KK κ xs i=a:=by unfold KK;rw[AB5 hi];show(κ.keyOf xs[i].1).getD κ.dflt=a;rw[e];rfl
theorem Wq{Z:List (κ.α×(Keyed×γ))}(h:Ly κ Z){xs:Array Keyed}(hp:xs.Perm (Z.map (·.2.1)).toArray)(hs:BB κ (Bs Z) xs xs.size):xs.toList=(AJ κ.blt Z).map (·.2.1):=by
 have hl:xs.toList.Perm (Z.map (·.2.1)):=by have:=Array.perm_iff_toList_perm.mp hp;simpa using this
 let f:Keyed->κ.α×Keyed:=λp=>((κ.keyOf p.1).getD κ.dflt,p)
 have key:∀p∈xs.toList,κ.keyOf p.1=aj (f p).1:=λp hp'=>by refine oEA (AAP.mp (hl.mem_iff.mp hp')) λz hz q_2=>?_;subst q_2;show _=aj ((κ.keyOf z.2.1.1).getD κ.dflt);exact(h.key z hz)▸rfl
 have e1:(Z.map λz=>(z.1,z.2.1))=(Z.map (·.2.1)).map f:=by rw[AAE];refine AC4 λz hz=>?_;show(z.1,z.2.1)=((κ.keyOf z.2.1.1).getD κ.dflt,z.2.1);exact(h.key z hz)▸rfl
 let R:κ.α×Keyed->κ.α×Keyed->Prop:=λa b=>Bs Z a.2<Bs Z b.2;have hR:(Z.map λz=>(z.1,z.2.1)).Pairwise R:=by rw[ACQ,List.pairwise_iff_getElem];intro i j hi hj hij;show Bs Z Z[i].2.1<Bs Z Z[j].2.1;rw[IZ h (AAN hi),IZ h (AAN hj)];exact hij
 have h2:(xs.toList.map f).Pairwise (Ks κ.blt R):=by
  rw[ACQ,List.pairwise_iff_getElem];intro i j hi hj hij;have hi':i<xs.size:=by simpa using hi
  have hj':j<xs.size:=by simpa using hj
  have b:=hs i j hij hj';unfold Bef at b;rw[Yr hi' (a:=(f xs[i]).1) (key _ (by simp)),Yr hj' (a:=(f xs[j]).1) (key _ (by simp))] at b;have r1:RR (Bs Z) xs i=Bs Z xs[i]:=by unfold RR;rw[AB5 hi']
  have r2:RR (Bs Z) xs j=Bs Z xs[j]:=by unfold RR;rw[AB5 hj']
  rw[r1,r2] at b;rw[Array.getElem_toList,Array.getElem_toList];exact b
 have h3:(xs.toList.map f).Perm (AJ κ.blt (Z.map λz=>(z.1,z.2.1))):=by exact(hl.map f).trans (e1▸(Bg _).symm)
 have asym:∀a b,Ks κ.blt R a b->Ks κ.blt R b a->False:=λa b q q'=>by
  rcases q with q|q<;>rcases q' with q'|q'
  ·have:=κ.trans _ _ _ q q';rw[κ.irrefl] at this;cases this
  ·rw[q'.1,κ.irrefl] at q;cases q
  ·rw[q.1,κ.irrefl] at q';cases q'
  ·have x1:Bs Z a.2<Bs Z b.2:=q.2;have x2:Bs Z b.2<Bs Z a.2:=q'.2;lia
 have h4:=CJ asym h2 (DR (ZT κ) _ hR) h3;rw[(G1 (lt:=κ.blt) (lt':=κ.blt) (λz:κ.α×(Keyed×γ)=>(z.1,z.2.1)) (λ_ _=>rfl) Z)] at h4;have h6:=congrArg (List.map Prod.snd) h4;rw[AAE,AAE] at h6;have:(Prod.snd∘f)=id:=rfl;rw[this,List.map_id] at h6;exact h6
end
set_option maxRecDepth 100000
set_option maxHeartbeats 4000000
section
variable{prog:Program}{w:World}{A:Around}{E:Value->Shared->Prop}{s:Shared}{b:Bool}{vs:List Value}{keys:Array Value}{P:PySem.Fin->Shared->Prop}
theorem MJ{h:Heap}(ho:h.get? a=aj (seqObj "list" xs n))(out:Array Value):∃c,(h.update a (Obj.mapSeq λ_=>out)).get? a=aj (seqObj "list" out c):=⟨_,get?_update_seq ho λ_=>out⟩
theorem RA{h:Heap}{xs:Array Value}(ho:h.get? a=aj (seqObj "list" xs n))(v:Value):∃c,(h.update a (Obj.mapSeq (·.push v))).get? a=aj (seqObj "list" (xs.push v) c):=⟨_,get?_update_seq ho (·.push v)⟩
def dE(a b:Addr)(h h':Heap):Prop:=∀x o,x≠a->x≠b->h.get? x=aj o->h'.get? x=aj o
theorem Ru{st:SortSt}(hS:s.heap.get? kS=aj (seqObj "list" keys e))(hA:s.heap.get? a=aj (seqObj "list" #[] e1))(hka:kS≠a)(hsz:keys.size<=sizeLine)(hout:(arrOf st).size<=sizeLine)(hfl:failedOf st=au)
 (h:∀h' c,dE a kS s.heap h'->h'.get? a=aj (seqObj "list" (if b=true then((arrOf st).map (·.2)).reverse else(arrOf st).map (·.2)) c)->P (.done (.ret .none)) {s with heap:=h'}) :
 wpAny (model prog w) A (ksk_tail a b e1 (.ref kS) st) P E s:=by
 have s1:=ACN s.heap kS (Obj.mapSeq λ_=>(#[]:Array Value));have na1:(s.heap.update kS (Obj.mapSeq λ_=>(#[]:Array Value))).get? a=aj (seqObj "list" #[] e1):=(s1.2 a hka.symm).trans hA;have s2:=ACN (s.heap.update kS (Obj.mapSeq λ_=>(#[]:Array Value))) a (Obj.mapSeq λ_=>if b=true then((arrOf st).map (·.2)).reverse else(arrOf st).map (·.2));refine oE (MJ na1 (if b=true then((arrOf st).map (·.2)).reverse else(arrOf st).map (·.2))) λc2 hc2=>?_;have ho:(if b=true then((arrOf st).map (·.2)).reverse else(arrOf st).map (·.2)).size<=sizeLine:=by
  cases b with
  |false=>rw[if_neg ABB,Array.size_map];exact hout
  |true=>rw[if_pos rfl,Array.size_reverse,Array.size_map];exact hout
 unfold ksk_tail;dsimp only;refine AAD (listUpdate_at hS rfl ?_ hsz (ABF _));refine AAD (wpAny_letGo ?_);refine AAD (seqEpoch_at na1 rfl ?_);refine AAD (listUpdate_at na1 rfl ?_ (ABF _) (AB3 ho));rw[hfl];simp only[bne_self_eq_false,AC7,if_false];exact AAY (h _ c2 (λx o h1 h2 ho=>(s2.2 x h1).trans ((s1.2 x h2).trans ho)) hc2)
noncomputable def Tu{κ:KeyKind}{γ:Type}(b:Bool)(Z:List (κ.α×(Keyed×γ))):List (κ.α×(Keyed×γ)):=match b with|true=>(AJ κ.blt Z.reverse).reverse|false=>AJ κ.blt Z
theorem Tt{κ:KeyKind}{γ:Type}(b:Bool)(Z:List (κ.α×(Keyed×γ))):(Tu b Z).Perm Z:=by
 cases b with
 |true=>exact(AC1 _).trans ((Bg _).trans (AC1 _))
 |false=>exact Bg _
theorem SG{κ:KeyKind}{γ:Type}(hO:κ.OneLt){Z:List (κ.α×(Keyed×γ))}(hz:Ly κ Z)(hk:keys.zip vs.toArray=(Z.map (·.2.1)).toArray)(hlen:keys.size=vs.length)(hkk:2<=keys.size->keyKind' keys=pure oneType')(h64:vs.length<64)
 (hS:s.heap.get? kS=aj (seqObj "list" keys e)) (hA:s.heap.get? a=aj (seqObj "list" #[] e1)) (hka:kS≠a)
 (h:∀h' c,dE a kS s.heap h'->h'.get? a=aj (seqObj "list" ((Tu b Z).map (·.2.1.2)).toArray c)->P (.done (.ret .none)) {s with heap:=h'}) :
 wpAny (model prog w) A (ksk_end a b vs.toArray e1 (.ref kS) keys) P E s:=by
 have hzl:(keys.zip vs.toArray).size=vs.length:=by rw[Array.size_zip,hlen,ACM,Nat.min_self]
 have hZ:Z.length=vs.length:=by rw[<-hzl,hk,ACM,AAB]
 have step:∀t:Sem PySem.Fin,wpAny (model prog w) A t P E s->wpAny (model prog w) A (if b=true then(do let _ <-rule "list.sort.reverse";t) else t) P E s:=by
  intro t ht;split
  ·exact AAD (wpAny_rule ht)
  ·exact ht
 obtain⟨Y,hY⟩:∃Y,Y=(if b=true then Z.reverse else Z):=⟨_,rfl⟩
 have hYl:Y.length=vs.length:=by rw[hY];split<;>simp[hZ]
 have hYz:Ly κ Y:=by
  rw[hY];split
  ·exact⟨λz hz'=>hz.key z (ADS.mp hz'),by rw[ACR];exact(AC1 _).nodup_iff.mpr hz.nd⟩
  ·exact hz
 have hstart:(if b=true then(keys.zip vs.toArray).reverse else keys.zip vs.toArray)=(Y.map (·.2.1)).toArray:=by
  rw[hk,hY];cases b with
  |false=>rfl
  |true=>rw[if_pos rfl,if_pos rfl,ACR];simp
 have fin:∀st:SortSt,(arrOf st).Perm (Y.map (·.2.1)).toArray->BB κ (Bs Y) (arrOf st) (arrOf st).size->failedOf st=au->wpAny (model prog w) A (ksk_tail a b e1 (.ref kS) st) P E s:=by
  intro st hp hs hf;have hsz:(arrOf st).size=vs.length:=by rw[hp.size_eq,ACM,AAB,hYl]
  refine Ru hS hA hka (hlen▸sizeLine_eq▸Of h64 rfl) (hsz▸sizeLine_eq▸Of h64 rfl) hf λh' c hb ha=>h h' c hb ?_;rw[ha];have e3:=Wq hYz hp hs;congr 2;apply Array.toList_inj.mp;rw[hY] at e3;cases b with
  |false =>
   rw[if_neg ABB,Array.toList_map,e3,if_neg ABB,AAE];rfl
  |true =>
   rw[if_pos rfl,Array.toList_reverse,Array.toList_map,e3,if_pos rfl,AAE];show _=((AJ κ.blt Z.reverse).reverse.map _);exact ACR▸rfl
 unfold ksk_end;dsimp only;refine step _ ?_;rw[hstart];by_cases h2:vs.toArray.size<2
 ·rw[if_pos h2,if_pos h2];refine AAD (AAY ?_);rw[StateT.run_pure];refine AAD (AAY ?_);dsimp only;refine fin (SortSt.mk' general' (Y.map (·.2.1)).toArray #[] 7 au) (Array.Perm.refl _) (λi j hij hj=>?_) rfl;have hj2:j<(Y.map (·.2.1)).toArray.size:=hj;rw[ACM,AAB,hYl] at hj2;rw[ACM] at h2;lia
 ·rw[if_neg h2,if_neg h2];rw[ACM] at h2;have hY2:(Y.map (·.2.1)).toArray.size=vs.length:=by rw[ACM,AAB,hYl]
  rw[hkk (by lia)];refine AAD (AAY ?_);have hkeys:PyProof.Rows.KeysOf κ (Y.map (·.2.1)).toArray:=λp hp=>by refine oEA (AAP.mp (show p∈Y.map (·.2.1) from by simpa using hp)) λz hz' q_2=>?_;subst q_2;exact⟨z.1,hYz.key z hz'⟩
  have hrr:∀i,i<(Y.map (·.2.1)).toArray.size->RR (Bs Y) (Y.map (·.2.1)).toArray i=i:=λi hi=>dW hYz i (by rw[hY2,<-hYl] at hi;exact hi);generalize(Y.map (·.2.1)).toArray=a₀ at hkeys hrr hY2 fin ⊢;have run:wpS (model prog w) A E s sortRuns' (λ_ st'=>(arrOf st').Perm a₀/\failedOf st'=au/\BB κ (Bs Y) (arrOf st') a₀.size) (SortSt.mk' oneType' a₀ #[] 7 au) :=
   Kt (κ:=κ) (J:=Bs Y) hO hkeys ⟨Array.Perm.refl _,rfl,rfl,rfl⟩ hrr (hY2▸ACI ‹_›) (hY2▸h64) λst' a1 a2 a3=>⟨a1,a2,a3⟩
  refine AAD (AAO run ?_ λ_ _ e=>e);rintro⟨⟨⟩,st'⟩ s' ⟨rfl,hp,hf,hs⟩;dsimp only;exact fin st' hp (hp.size_eq▸hs) hf
end
theorem RepDs.length(r:RepDs fz ds vs):ds.length=vs.length:=r.all.length
theorem PU{δ:Type}{fz:Addr->Option Obj}{d:δ->PyData}{v:δ->Value}:∀{l:List δ},(∀z∈l,AI fz (d z) (v z))->RepDs fz (l.map d) (l.map v)
 |[],_=>trivial
 |z::l,h=>⟨h z (.head _),PU λy hy=>h y (.tail _ hy)⟩
theorem RepDs.at_:∀{ds:List PyData} {vs:List Value} {j:Nat} {d:PyData} {v:Value},RepDs fz ds vs->ds[j]? = aj d->vs[j]? = aj v->AI fz d v
 |_::_,_::_,0,_,_,r,e1,e2=>by obtain rfl:=AAA e1;obtain rfl:=AAA e2;exact r.1
 |_::_,_::_,j+1,_,_,r,e1,e2=>RepDs.at_ (j:=j) r.2 e1 e2
 |[],_,_,_,_,_,e1,_=>by simp at e1
 |_::_,[],_,_,_,r,_,_=>r.elim
theorem O1(r:RepDs fz ds vs)(h:ds.Nodup):vs.Nodup:=by rw[List.Nodup,List.pairwise_iff_getElem];intro i j hi hj hij q;have hl:=r.length;have h1:=r.at_ (AAN (show i<ds.length by exact Lv hi hl)) (AAN hi);have h2:=r.at_ (AAN (show j<ds.length by exact Lv hj hl)) (AAN hj);rw[q] at h1;have:=(List.getElem_inj (h₀:=by exact Lv hi hl) (h₁:=by exact Lv hj hl) h).mp (AI.inj _ _ _ ((Fi h2).symm.trans (Fi h1)) h1 h2);exact Zd hij this
theorem O9{κ:KeyKind}{β:Type}(emb:β->κ.α)(lt:β->β->Bool)(hlt:∀x y,κ.blt (emb x) (emb y)=lt x y){bs:List β}{kA:Array Value}{vs:List Value}{xs:List PyData}(hkey:∀(j:Nat) (x:Value) (y:β),kA.toList[j]? = aj x->bs[j]? = aj y->κ.keyOf x=aj (emb y))(hk:kA.size=bs.length)(hb:bs.length=vs.length)
 (r:RepDs fz xs vs) (nd:xs.Nodup):∃Z:List (κ.α×(Keyed×PyData)),Ly κ Z/\kA.zip vs.toArray=(Z.map (·.2.1)).toArray/\∀rev,RepDs fz (Dg rev lt (bs.zip xs)) ((Tu rev Z).map (·.2.1.2)):=by
 have hx:=r.length;have hkl:kA.toList.length=bs.length:=by simpa using hk
 obtain⟨Y,hY⟩:∃Y:List (β×(Keyed×PyData)),Y=bs.zip ((kA.toList.zip vs).zip xs):=⟨_,rfl⟩
 have mem:∀y∈Y,∃j:Nat,bs[j]? = aj y.1/\kA.toList[j]? = aj y.2.1.1/\vs[j]? = aj y.2.1.2/\xs[j]? = aj y.2.2:=λy hy=>by refine oE (List.mem_iff_getElem?.mp hy) λj hj=>?_;rw[hY] at hj;refine oA (ADO.mp hj) λh1 h2=>?_;refine oA (ADO.mp h2) λh3 h4=>?_;refine oA (ADO.mp h3) λh5 h6=>?_;exact Ii j h1 h5 h6 h4
 have e1:Y.map (λy=>y.2.1)=kA.toList.zip vs:=by
  have:Y.map (λy=>y.2.1)=(Y.map (·.2)).map (·.1):=by rw[AAE];rfl
  rw[this,hY,List.map_snd_zip (by simp;exact jY hkl),List.map_fst_zip (by simp;exact jX hkl hb hx)]
 have e2:Y.map (λy=>(y.1,y.2.2))=bs.zip xs:=by
  refine List.ext_getElem? λj=>?_;rw[ABI,hY];by_cases hj:j<bs.length
  ·have a1:bs[j]? = aj bs[j]:=AAN hj;have a2:kA.toList[j]? = aj (kA.toList[j]'(Lv hj hkl)):=AAN _;have a3:vs[j]? = aj (vs[j]'(Og hj hb)):=AAN _;have a4:xs[j]? = aj (xs[j]'(VA hj hb hx)):=AAN _;have b1:(bs.zip ((kA.toList.zip vs).zip xs))[j]? = aj (bs[j],((kA.toList[j]'(Lv hj hkl),vs[j]'(Og hj hb)),xs[j]'(VA hj hb hx))) :=
    ADO.mpr ⟨a1,ADO.mpr ⟨ADO.mpr ⟨a2,a3⟩,a4⟩⟩
   have b2:(bs.zip xs)[j]? = aj (bs[j],xs[j]'(VA hj hb hx)):=ADO.mpr ⟨a1,a4⟩;exact b1▸b2▸rfl
  ·rw[List.getElem?_eq_none (by simp;exact jZ hj),List.getElem?_eq_none (by simp;exact kB hj hb hx)];rfl
 refine(AB (Y.map λy=>(emb y.1,y.2)) ⟨λz hz=>?_,?_⟩ ?_ (λrev=>?_))
 ·refine oEA (AAP.mp hz) λy hy q_2=>?_;subst q_2;exact AS (mem y hy) λj h1 h2 _=>hkey j _ _ h2 h1
 ·rw[AAE];have:Y.map ((λz:κ.α×(Keyed×PyData)=>z.2.1.2)∘λy=>(emb y.1,y.2))=(Y.map λy=>y.2.1).map (·.2):=by rw[AAE];rfl
  rw[this,e1,List.map_snd_zip (lI hkl hb)];exact O1 r nd
 ·rw[AAE];show _=(Y.map λy=>y.2.1).toArray;rw[e1];apply Array.toList_inj.mp;simp
 ·have m1:∀L:List (β×(Keyed×PyData)),AJ κ.blt (L.map λy=>(emb y.1,y.2))=(AJ lt L).map λy=>(emb y.1,y.2):=λL=>G1 _ (λp q=>hlt _ _) L;have m2:∀L:List (β×(Keyed×PyData)),AJ lt (L.map λy=>(y.1,y.2.2))=(AJ lt L).map λy=>(y.1,y.2.2):=λL=>G1 (lt:=lt) (lt':=lt) (λy:β×(Keyed×PyData)=>(y.1,y.2.2)) (λp q=>rfl) L;have good:∀L:List (β×(Keyed×PyData)),(∀y∈L,y∈Y)->RepDs fz (L.map λy=>y.2.2) (L.map λy=>y.2.1.2):=λL hL=>PU λy hy=>by exact Nh (mem y (hL y hy)) λj _ _ h3 h4=>r.at_ h4 h3
  cases rev with
  |false =>
   show RepDs fz ((AJ lt (bs.zip xs)).map (·.2)) ((AJ κ.blt (Y.map λy=>(emb y.1,y.2))).map (·.2.1.2));rw[<-e2,m1,m2,AAE,AAE];exact good _ λy hy=>(Bg _).mem_iff.mp hy
  |true =>
   show RepDs fz ((AJ lt (bs.zip xs).reverse).reverse.map (·.2)) ((AJ κ.blt (Y.map λy=>(emb y.1,y.2)).reverse).reverse.map (·.2.1.2));rw[<-e2,<-ACR,<-ACR,m1,m2,<-ACR,<-ACR,AAE,AAE];exact good _ λy hy=>ADS.mp ((Bg _).mem_iff.mp (ADS.mp hy))
open PySem.Calls
set_option tactic.hygienic false
structure XO where
 β:Type
 κ:KeyKind
 one:κ.OneLt
 emb:β->κ.α
 lt:β->β->Bool
 hlt:∀x y,κ.blt (emb x) (emb y)=lt x y
 kv:β->V
 key:∀{T:Top} {g:G} {y:β} {X:Value},Au T g (kv y) X->κ.keyOf X=aj (emb y)
 kind:∀{T:Top} {g:G} {bs:List β} {kA:Array Value},As T g (bs.map kv) kA.toList->2<=kA.size->keyKind' kA=pure oneType'
section
variable{c:Cx}{g an:G}{s:Shared}{K:XO}
theorem Rw{h':Heap}{ys:List Value}{ws:List V}(hn:∀b,b∈[D,kS]->an.hid b=au)(le:G.le [D,kS] an g)(H:Has c.T g U s)(hD:g.hid D≠au)(hK:g.hid kS≠au)(hb:dE D kS s.heap h')(ho:h'.get? D=aj (seqObj "list" ys.toArray m))(hr:As c.T g ws ys)(hl:ws.length<=line):Cg c.toAr an U ws (.ref D) {s with heap:=h'}:=by have hi:∀c,c∈[D,kS]->g.hid c≠au:=ae hD (AQ hK);refine AS (H.back (its:=[D,kS]) (own:=[]) (s':={s with heap:=h'}) (AAV _▸le) hn (λb o hb' e=>hb b o (λq=>hb' (q▸.head _)) (λq=>hb' (q▸.tail _ (.head _))) e) (H.away hi)) λhd H' le' _=>?_;have F:=H.away hi D (.head _);exactλR_ k=>k _ D ys.toArray m le' H' ⟨F.1,(le'.hid D AA1).trans (hn D (.head _)),F.2.1,F.2.2⟩ ho (List.toList_toArray▸As.eta hr) hl
theorem Rx(hk:Ay (λw b=>SE n key (J.set i (aj w)) U (K.kv b) U) (xs.map .d) bs)(nd:xs.Nodup)(h64:xs.length<64)(L:Gl c.K i nm sc)(hb:IsE key (c.K.lsub nm sc) b)(aK:Co an c.fe)(x0:Loc c J an)(hn:∀b,b∈[D,kS]->an.hid b=au)(le:G.le [D,kS] an g)(I:Inv (n+1) c J g U s)(lm:Ko g c.env q nm ap b sc f)(r:As c.T g (xs.map .d) vs)(hD:g.hid D=aj (seqObj "list" #[] e1))(hS:g.hid kS=aj (seqObj "list" #[] 0))(hDk:kS≠D)
 (h:∀s',Cg c.toAr an U ((Dg rev K.lt (bs.zip xs)).map .d) (.ref D) s'->P (.done (.ret .none)) s') :
 wpAny (model c.T.prog c.T.w) c.A.in1.in1 (ksk_rest D (.ref f) rev vs.toArray e1 (.ref kS)) P Er s:=by
 have hlb:xs.length=bs.length:=(AAB _).symm.trans hk.length;have hlv:xs.length=vs.length:=(AAB _).symm.trans r.length;have mD:D∈[D,kS]:=.head _;have mK:kS∈[D,kS]:=.tail _ (.head _);unfold ksk_rest;refine AAD (wpAny_rule ?_);rw[List.forIn_toArray];refine AAD (ksk_fold (λj s'=>∀R_:Prop,(∀g' kA e,G.le [D,kS] g g'->Inv (n+1) c J g' U s'->g'.hid D=aj (seqObj "list" #[] e1)->g'.hid kS=aj (seqObj "list" kA e)->As c.T g' ((bs.take j).map K.kv) kA.toList->R_)->R_) vs 0 s (λR_ k=>k g #[] 0 (.refl _ _) I hD hS trivial) ?step ?done)
 case step =>
  intro j x s' hx hz;rw[ACY] at hz ⊢;refine hz _ λg' kA e le' I' hD' hS' rk=>?_;have hj:j<bs.length:=hlb▸hlv▸(AAM.mp hx).1;have hw:(xs.map V.d)[j]? = aj (.d (xs[j]'(hlb▸hj))):=by rw[ABI,AAN];rfl
  refine oEA (hk.get hw) λy hy hse=>oEA (r.get hw) λx' hx' rx=>?_;obtain rfl:=Ao hx hx';refine AAD (wpAny_attempt (AAO (TY hse L hb I' (lm.mono le'.toup) (Au.mono le'.toup _ _ rx)) (λk s'' p=>p _ λg'' le'' H'' rk'=>?_) λ_ _ hf=>hf.elim));dsimp only;have hS'':=(le''.hid kS AA1).trans hS';have nk:=(H''.hd _ _ hS'').ex (Bn rfl (by decide));refine oE (RA nk k) λc2 hc2=>?_;have hsz:kA.size=j:=by rw[<-ABA,<-rk.length,AAB,ACP];exact ACL (ACF hj)
  have hjl:j+1<=sizeLine:=by rw[<-Bd];exact AAC (ACF (AAS hj (hlb▸h64))) (by decide)
  refine AAD (listUpdate_at nk rfl ?_ (hsz▸Nat.le_of_succ_le hjl) (AAC (Nat.le_of_eq (Array.size_push ..)) (hsz▸AB3 hjl)));have le3:G.le [D,kS] g'' (g''.hide kS (seqObj "list" (kA.push k) c2)):=.hide mK;refine AAY ⟨rfl,λR_ kk=>kk _ (kA.push k) c2 (le'.trans (le''.toO.trans le3)) ((I'.step le'' H'').far aK x0 hn le3 (H''.rehide (s':={s'' with heap:=s''.heap.update kS (Obj.mapSeq (·.push k))}) hS'' (λb x q e=>((ACN s''.heap kS (Obj.mapSeq (·.push k))).2 b q).trans e) hc2)) ((G.hide_ne hDk.symm).trans ((le''.hid D AA1).trans hD')) G.hide_self ?_⟩;exact Array.toList_push▸List.take_add_one▸hy▸AAQ▸(As.mono (le''.toup.trans le3.toup) rk).append ⟨Au.mono le3.toup _ _ rk',trivial⟩
 case done =>
  intro s' hz;rw[ACY,<-hlv,hlb,List.take_length] at hz;refine hz _ λg' kA e le' I' hD' hS' rk=>?_;have hsz:kA.size=bs.length:=by rw[<-ABA,<-rk.length,AAB]
  have rx:RepDs g'.fz xs vs:=As.toD (As.mono le'.toup r);refine AS (O9 K.emb K.lt K.hlt (bs:=bs) (kA:=kA) (λj x y hx hy=>by obtain⟨x',hx',rx⟩:=rk.get (k:=j) (a:=K.kv y) ((ABI)▸hy▸rfl);obtain rfl:=Ao hx hx';exact K.key rx) hsz (hlb.symm.trans hlv) rx nd) λZ hz hzk hout=>?_
  refine AAD (listItems_at ((I'.has.hd _ _ hS').ex (Bn rfl (by decide))) rfl ?_);refine SG K.one hz hzk (hsz.trans (hlb.symm.trans hlv)) (K.kind rk) (hlv▸h64) ((I'.has.hd _ _ hS').ex (Bn rfl (by decide))) ((I'.has.hd _ _ hD').ex (Bn rfl (by decide))) hDk λh' m hb2 ho2=>h _ (Rw hn (le.trans le') I'.has (AR hD') (AR hS') hb2 ho2 (As.ofD (hout rev)) ?_);rw[AAB,((hout rev).length),AAB,(Tt rev Z).length_eq,<-AAB (f:=(·.2.1)),<-ACM,<-hzk,Array.size_zip,hsz,ACM,<-hlv,hlb,Nat.min_self];exact AAC (ACF (hlb▸h64)) (by decide)
end
section
variable{c:Cx}{J:Al}{g:G}{s:Shared}{K:XO}{bs:List K.β}{xs:List PyData}{vs:List Value}
theorem KF(hk:Ay (λw b=>SE n key (J.set i (aj w)) U (K.kv b) U) (xs.map .d) bs)(nd:xs.Nodup)(h64:xs.length<64)(L:Gl c.K i nm sc)(hb:IsE key (c.K.lsub nm sc) b)(I:Inv (n+1) c J g U s)(lm:Ko g c.env q nm ap b sc f)(hx:A8 U x=aj (xs.map .d))(r:Au c.T g x X)
 (ha1:∀l,argsOk "sorted" ⟨[.ref l],kw⟩) (ha2:∀x,argsOk "list.sort" ⟨[.ref x],kw⟩) (ht:∀x,Builtin.«list.sort» ⟨[.ref x],kw⟩=ksk_tree x (.ref f) rev):c.wp (call (.builtin "sorted") [X] kw) (Cg c.toAr g U ((Dg rev K.lt (bs.zip xs)).map .d)) s:=by
 refine AX I.has r hx (R_:=λX=>c.wp (call (.builtin "sorted") [X] kw) (Cg c.toAr g U ((Dg rev K.lt (bs.zip xs)).map .d)) s) λl ys hL rws _ hyl=>?_;have hL':s.heap.IsList l ys.toList.toArray:=by rw[Array.toArray_toList];exact hL
 have hvl:ys.toList.length<=sizeLine:=by rw[ABA,<-Bd];exact hyl
 generalize ys.toList=vs at rws hL' hvl;refine call_function_entry_kw kind_sorted plain_sorted entry_sorted (ha1 _) ?_;unfold Builtin.«sorted»;refine AAD (m:=checkCount "sorted" 1 1 _) (AAY ?_);refine AAD (collect_list hL' ?_ hvl);refine AAD (wpAny_newList ?_ hvl);obtain⟨h1,hh1⟩:∃h1,h1=(s.heap.push (seqObj "list" #[] 0)).update s.heap.objs.size (Obj.mapSeq (·++vs.toArray)):=⟨_,rfl⟩
 have z1:h1.objs.size=s.heap.objs.size+1:=by rw[hh1,Heap.size_update];exact ADP ..
 have k1:∀b o,s.heap.get? b=aj o->h1.get? b=aj o:=λb o e=>by rw[hh1,Heap.get?_update_ne _ _ _ _ (ACT (ACU e))];exact AAK _ e
 show wpAny _ _ _ _ _ {s with heap:=((s.heap.push (seqObj "list" #[] 0)).update s.heap.objs.size (Obj.mapSeq (·++vs.toArray))).push (seqObj "list" vs.toArray 0)};rw[<-hh1];have hoD:(h1.push (seqObj "list" vs.toArray 0)).get? h1.objs.size=aj (seqObj "list" vs.toArray 0):=AA3 _ rfl;have z2:(h1.push (seqObj "list" vs.toArray 0)).objs.size=s.heap.objs.size+2:=by rw[ADP,z1]
 refine AAD (AA8 (wpAny_call_entry_kw (s:={s with heap:=h1.push (seqObj "list" vs.toArray 0)}) slot_list_sort ⟨_,hoD,rfl⟩ entry_list_sort ?body (ha2 _)));show wpAny (model c.T.prog c.T.w) c.A.in1.in1 (Builtin.«list.sort» ⟨[.ref h1.objs.size],kw⟩) _ _ _;rw[ht h1.objs.size];generalize hDe:h1.objs.size=D at hoD z1 ⊢;generalize hh2:h1.push (seqObj "list" vs.toArray 0)=h2 at hoD z2 ⊢;have k2:∀b o,s.heap.get? b=aj o->h2.get? b=aj o:=λb o e=>by rw[<-hh2];exact AAK _ (k1 b o e)
 have hD0:s.heap.get? D=au:=ABO (z1▸ADL _);have s3:=ACN h2 D (Obj.mapSeq λ_=>(#[]:Array Value));refine oE (MJ hoD #[]) λe1 ho3=>?_;unfold ksk_tree;refine AAD (listItems_at hoD rfl ?_);refine AAD (listUpdate_at hoD rfl ?_ (ACM▸hvl) (ABF _));refine AAD (seqEpoch_at ho3 rfl ?_);refine AAD (wpAny_newTuple ?_ hvl);refine AAD (wpAny_newList ?_ (ABF _));refine AA8 ?_;obtain⟨h3,hh3⟩:∃h3,h3=h2.update D (Obj.mapSeq λ_=>(#[]:Array Value)):=⟨_,rfl⟩
 have z3:h3.objs.size=s.heap.objs.size+2:=by rw[hh3,Heap.size_update,z2]
 rw[<-hh3] at ho3 s3;have k3:∀b o,s.heap.get? b=aj o->h3.get? b=aj o:=λb o e=>(s3.2 b λq=>Aj hD0 (q▸e)).trans (k2 b o e);show wpAny _ _ (ksk_rest D (.ref f) rev vs.toArray e1 (.ref ((h2.update D (Obj.mapSeq λ_=>(#[]:Array Value))).push (seqObj "tuple" vs.toArray 0)).objs.size)) _ _ {s with heap:=((h2.update D (Obj.mapSeq λ_=>(#[]:Array Value))).push (seqObj "tuple" vs.toArray 0)).push (seqObj "list" #[] 0)};rw[<-hh3];have z4:(h3.push (seqObj "tuple" vs.toArray 0)).objs.size=s.heap.objs.size+3:=by rw[ADP,z3]
 generalize hh4:h3.push (seqObj "tuple" vs.toArray 0)=h4 at z4 ⊢;have k4:∀b o,h3.get? b=aj o->(h4.push (seqObj "list" #[] 0)).get? b=aj o:=λb o e=>by rw[<-hh4];exact AAK _ (AAK _ e)
 have hk0:s.heap.get? h4.objs.size=au:=ABO (z4▸AA9 _ _);have hDk:h4.objs.size≠D:=by rw[z4,z1];exact Nat.ne_of_gt (Nat.add_lt_add_left (by decide) _)
 have hoS:(h4.push (seqObj "list" #[] 0)).get? h4.objs.size=aj (seqObj "list" #[] 0):=AA3 _ rfl;generalize h4.objs.size=kS at hk0 hDk hoS ⊢;have FD:=I.has.free hD0;have FK:=I.has.free hk0;have hn:∀b,b∈[D,kS]->g.hid b=au:=ae FD.hid (AQ FK.hid);have le:G.le [D,kS] g ((g.hide D (seqObj "list" #[] e1)).hide kS (seqObj "list" #[] 0)):=G.le.trans (g':=g.hide D (seqObj "list" #[] e1)) (.hide (.head _)) (.hide (.tail _ (.head _)));exact Rx hk nd h64 L hb I.frs I.loc hn le (I.far I.frs I.loc hn le (Dw.hide (g:=g.hide D (seqObj "list" #[] e1)) ⟨FK.fz,(G.hide_ne hDk).trans FK.hid,FK.mu,FK.tab⟩ (FD.hide (I.has.keep (s':={s with heap:=h4.push (seqObj "list" #[] 0)}) λb o e=>k4 b o (k3 b o e)) (k4 D _ ho3)) hoS)) (lm.mono le.toup) (As.mono le.toup rws) ((G.hide_ne hDk.symm).trans G.hide_self) G.hide_self hDk λs' h=>(iEA _ rfl (AAY (iEA _ rfl h)))
theorem TX(h:t.isSome=true):∃a q,t=aj (a,q):=by
 cases t with
 |none=>exact ff_ h
 |some p=>exact⟨p.1,p.2,rfl⟩
theorem SL.sortk(ha:SE (n+1) a J U x af)(hx:A8 af x=aj (xs.map .d))(nd:xs.Nodup)(h64:xs.length<64)(hk:Ay (λw b=>SE n key (J.set i (aj w)) af (K.kv b) af) (xs.map .d) bs):SL (n+1) (.sortk rev a i key) J U ((Dg rev K.lt (bs.zip xs)).map .d) af:=λc g s ex hc I =>
 hc (λex=>c.wp (eval ex c.env) (Cg c.toAr g af ((Dg rev K.lt (bs.zip xs)).map .d)) s) λnm np z pm ap b sc lp kp k cp kp' p h1 h2 h3=>by
 refine AAD (Cu I h1 λf hf=>?_);obtain rfl:f=.builtin "sorted" := hf;have st:=(BR a h2).star c.env [];have L:=(Nz h3.1).2;refine oEE (TX (Nz h3.1).1) λt q hl=>?_;cases rev with
 |false =>
  refine PyProof.Rows.callWith_kw (e:=z) (rest:=[]) ?_ (by rw[st];rfl) (st▸rfl);rw[st];refine spliced_cons (AAO (ha c g s z h2 I) (λX ag aH=>aH _ λai aq ao al=>spliced_nil ?_) λ_ _ h=>h);have I1:=I.step aq ao;refine PyProof.Rows.kws_cons (AAO (Nw L hl I1) (λZ ak aI=>aI _ λam le2 av ar=>?_) λ_ _ h=>h);refine oEA ar λf q_1 lm=>?_;subst q_1;refine PyProof.Rows.kws_nil (AAO (KF hk nd h64 L h3.2 (I1.step le2 av) lm hx (Au.mono le2.toup _ _ al) (λl=>ksk_s1 _ _) (λx=>ksk_l1 _ _) (λx=>ksk_t1 _ _)) (λ_ _ p=>p.after (aq.trans le2)) λ_ _ h=>h)
 |true =>
  refine PyProof.Rows.callWith_kw (e:=z) (rest:=[]) ?_ (by rw[st];rfl) (by rw[st];rfl);rw[st];refine spliced_cons (AAO (ha c g s z h2 I) (λX ag aH=>aH _ λai aq ao al=>spliced_nil ?_) λ_ _ h=>h);have I1:=I.step aq ao;refine PyProof.Rows.kws_cons (AAO (Nw L hl I1) (λZ ak aI=>aI _ λam le2 av ar=>?_) λ_ _ h=>h);refine oEA ar λf q_1 lm=>?_;subst q_1;refine PyProof.Rows.kws_cons (wpAny_Constant_bool (PyProof.Rows.kws_nil (AAO (KF hk nd h64 L h3.2 (I1.step le2 av) lm hx (Au.mono le2.toup _ _ al) (λl=>ksk_s2 _ _ _) (λx=>ksk_l2 _ _ _) (λx=>ksk_t2 _ _ _)) (λ_ _ p=>p.after (aq.trans le2)) λ_ _ h=>h)))
noncomputable def RU:XO:=⟨Int,Ma,LZ,id,λa b=>decide (a<b),λ_ _=>rfl,vi,λ{T g y X} r=>by refine oE r λt q_1=>?_;subst q_1;rfl,λ{T g bs kA} r h2=>ksk_kind (kz:=bs) (by
 generalize kA.toList=l at r
 induction bs generalizing l with
 |nil=>rw[r.nil];exact .nil
 |cons b bs ih=>refine Br (Ay.cons r) λX l q_2 q_3 r'=>?_;subst q_2;obtain⟨t,rfl⟩:=q_3;exact .cons b t (ih l r')) h2⟩
theorem MN:∀{bs:List Str} {l:List Value},As T g (vss bs) l->StrsAre l bs
 |[],l,r=>by rw[r.nil];exact .nil
 |b::bs,l,r=>by refine Br (Ay.cons r) λX l q_2 q_3 r'=>?_;subst q_2;obtain⟨t,rfl,_⟩:=q_3;exact .cons b t (MN r')
noncomputable def oJ:XO:=⟨Str,PyProof.Rows.strKind,strKind_oneLt,λx=>x.cps.toList,By,λ_ _=>rfl,λx=>.d (.str x),λ{T g y X} r=>by refine oEA r λt q_1 _=>?_;subst q_1;rfl,λ{T g bs kA} r h2=>by
 have q1:=MN r;obtain⟨aF,aG,rest,ev⟩:∃aF aG rest,kA.toList=aF::aG::rest:=by
  rw[<-ABA] at h2;generalize kA.toList=l at h2;rcases l with _|⟨aF,_|⟨aG,rest⟩⟩
  ·exact absurd h2 (by decide)
  ·exact absurd h2 (Nat.not_succ_le_self 1)
  ·exact Fb aF aG rest rfl
 have ek:kA=(aF::aG::rest).toArray:=by rw[<-ev,Array.toArray_toList]
 rw[ev] at q1;rw[ek];exact keyKind_strs q1⟩
end
theorem LB(hS:StrsAre vs ss):StrsAre vs.reverse ss.reverse:=by have h1:=strsAre_map vs.reverse (λv hv=>hS.all v (ADS.mp hv));rwa [ACR,hS.strs] at h1
section
variable{prog:Program}{w:World}{A:Around}{E:Value->Shared->Prop}{s:Shared}
theorem Zw(h:¬vs.toArray.size<2):∃aF aG rest,vs=aF::aG::rest:=by
 rcases vs with _|⟨aF,_|⟨aG,rest⟩⟩
 ·exact absurd (Nat.zero_lt_succ _) h
 ·exact absurd (ADN _) h
 ·exact⟨aF,aG,rest,rfl⟩
theorem Jo{vs:List Value}{ss:List Str}{P:PySem.Fin->Shared->Prop}(ho:s.heap.get? a=aj (seqObj "list" vs.toArray n))(hS:StrsAre vs ss)(h64:vs.length<64)
 (h:∀(out:Array Value) (ss':List Str),StrsAre out.toList ss'->ss'.Perm ss->sortedS ss'.reverse=true->P (.done (.ret .none)) {s with heap:=sortedHeap s.heap a vs out}) :
 wpAny (model prog w) A (Builtin.«list.sort» ⟨[.ref a],[(ACC "reverse",.bool true)]⟩) P E s:=by
 rw[list_sort_rev];have ha:a<s.heap.objs.size:=ACU ho;refine AAD (listItems_at ho rfl ?_);refine AAD (listUpdate_at ho rfl ?_);obtain⟨e1,ho1⟩:∃e1,(s.heap.update a (Obj.mapSeq λ_=>#[])).get? a=aj (seqObj "list" #[] e1):=⟨_,get?_update_seq ho (λ_=>#[])⟩
 refine AAD (seqEpoch_at ho1 rfl ?_);refine AAD (wpAny_newTuple ?_);refine AAD (wpAny_newList ?_);refine AA8 ?_;have ho6:(((s.heap.update a (Obj.mapSeq λ_=>#[])).push (seqObj "tuple" vs.toArray 0)).push (seqObj "list" #[] 0)).get? a=aj (seqObj "list" #[] e1):=by rw[Heap.get?_push_ne _ _ _ (by rw[size_push',Heap.size_update];exact ACT (Nat.lt_succ_of_lt ha)),Heap.get?_push_ne _ _ _ (by rw[Heap.size_update];exact ACT ha)];exact ho1
 show wpAny (model prog w) A _ P E {s with heap:=((s.heap.update a (Obj.mapSeq λ_=>#[])).push (seqObj "tuple" vs.toArray 0)).push (seqObj "list" #[] 0)};have hsz:vs.toArray.size=vs.length:=ACM ..;have fin:∀st':SortSt,(arrOf st').Perm (pairsOf vs)->SortedToK PyProof.Rows.strKind (arrOf st') (pairsOf vs).size->P (.done (.ret .none)) {s with heap:=sortedHeap s.heap a vs ((arrOf st').map (·.2)).reverse}:=by intro st' hp hs;exact AS (sorted_out_str hS hp hs) λss' h1 h2 h3=>h _ ss'.reverse (by rw[Array.toList_reverse];exact LB h1) ((AC1 _).trans h2) (by rw[List.reverse_reverse];exact h3)
 have hstart:(vs.toArray.zip vs.toArray).reverse.Perm (pairsOf vs):=Array.perm_iff_toList_perm.mpr (Array.toList_reverse▸AC1 _);dsimp only;rw[if_pos rfl];refine AAD (wpAny_rule ?_);rw[if_pos rfl];by_cases h2:vs.toArray.size<2
 ·rw[if_pos h2,if_pos h2];refine AAD (AAY ?_);rw[StateT.run_pure];refine AAD (AAY ?_);dsimp only;refine AAD (seqEpoch_at ho6 rfl ?_);rw[if_pos rfl];refine AAD (listUpdate_at ho6 rfl ?_ (hsz2:=by rw[Array.size_reverse,Array.size_map];show(vs.toArray.zip vs.toArray).reverse.size<=_;rw[Array.size_reverse,Array.size_zip,sizeLine_eq];lia))
  simp only[bne_self_eq_false,AC7,↓reduceIte];refine AAY (fin (SortSt.mk' general' (vs.toArray.zip vs.toArray).reverse #[] 7 au) hstart ?_);intro i j hij hj;have:i=j:=by rw[pairsOf_size] at hj;lia
  subst this;exact KeyOrd.kle_refl _
 ·rw[if_neg h2,if_neg h2];refine RD (Zw h2) λaF aG rest q_3=>?_;subst q_3;rw[keyKind_strs hS];refine AAD (AAY ?_);refine AAD (AAO (wpS_sortRunsK (κ:=PyProof.Rows.strKind) strKind_oneLt (a₀:=pairsOf (aF::aG::rest))
   (st:=SortSt.mk' oneType' ((aF::aG::rest).toArray.zip (aF::aG::rest).toArray).reverse #[] 7 au)
   (Q:=λ_ st'=>(arrOf st').Perm (pairsOf (aF::aG::rest))/\failedOf st'=au/\SortedToK PyProof.Rows.strKind (arrOf st') (pairsOf (aF::aG::rest)).size)
   hS.keysOf ⟨hstart,rfl,rfl,rfl⟩ (by rw[pairsOf_size];exact ACG _ _) (by rw[pairsOf_size];exact h64) λst' a1 a2 a3=>⟨a1,a2,a3⟩) ?_ λ_ _ e=>e)
  rintro⟨⟨⟩,st'⟩ s' ⟨rfl,hp,hf,hs⟩;dsimp only;refine AAD (seqEpoch_at ho6 rfl ?_);rw[if_pos rfl];refine AAD (listUpdate_at ho6 rfl ?_ (hsz2:=by rw[Array.size_reverse];refine AAC (Nat.le_of_eq ((Array.size_map ..).trans (hp.size_eq.trans (pairsOf_size _)))) ?_;rw[sizeLine_eq];exact Of h64 rfl))
  rw[hf];simp only[bne_self_eq_false,AC7,↓reduceIte];exact AAY (fin st' hp hs)
theorem Iv(hl:s.heap.IsList l vs.toArray)(hS:StrsAre vs ss)(h64:vs.length<64)
 (h:∀(out:Array Value) (ss':List Str),StrsAre out.toList ss'->ss'.Perm ss->sortedS ss'.reverse=true->Q (.ref (s.heap.objs.size+1)) {s with heap:=sortedAll s.heap vs out}) :
 wpAny (model prog w) A (call (.builtin "sorted") [.ref l] [(ACC "reverse",.bool true)]) Q E s:=by
 refine call_function_entry_kw kind_sorted plain_sorted entry_sorted (args_sorted_rev _ _) ?_;unfold Builtin.«sorted»;refine AAD (m:=checkCount "sorted" 1 1 _) (AAY ?_);refine AAD (collect_list hl ?_);refine AAD (wpAny_newList ?_);have hsz:((s.heap.push (seqObj "list" #[] 0)).update s.heap.objs.size (Obj.mapSeq (·++vs.toArray))).objs.size=s.heap.objs.size+1:=by rw[Heap.size_update,size_push']
 have hoL:(((s.heap.push (seqObj "list" #[] 0)).update s.heap.objs.size (Obj.mapSeq (·++vs.toArray))).push (seqObj "list" vs.toArray 0)).get? (s.heap.objs.size+1)=aj (seqObj "list" vs.toArray 0):=by exact hsz▸AA3 _ rfl
 show wpAny _ _ _ _ _ {s with heap:=((s.heap.push (seqObj "list" #[] 0)).update s.heap.objs.size (Obj.mapSeq (·++vs.toArray))).push (seqObj "list" vs.toArray 0)};rw[hsz];refine AAD (AA8 (wpAny_call_entry_kw slot_list_sort ⟨_,hoL,rfl⟩ entry_list_sort (Jo hoL hS h64 λout ss' a1 a2 a3=>(iEA _ rfl ?_)) (args_list_sort_rev _ _)));exact AAY (iEA _ rfl (h out ss' a1 a2 a3))
end
section
variable{ss ss':List Str}
theorem SL.sortr(ha:SE n a J U x af)(h:A8 af x=aj (vss ss))(hl:ss.length<64)(hp:ss'.Perm ss)(hs:Eg ss'.reverse):SL n (.sortr a) J U (vss ss') af:=λc g s ex hc I =>
 hc (λex=>c.wp (eval ex c.env) (Cg c.toAr g af (vss ss')) s) λnm np z k cp kp p h1 h2=>by
 refine AAD (Cu I h1 λf hf=>?_);obtain rfl:f=.builtin "sorted" := hf;have st:=(BR a h2).star c.env [];refine PyProof.Rows.callWith_kw (e:=z) (rest:=[]) ?_ (by rw[st];rfl) (st▸rfl);rw[st];refine spliced_cons (AAO (ha c g s z h2 I) (λX ag aH=>aH _ λai aq ao al=>spliced_nil ?_) λ_ _ h=>h);refine PyProof.Rows.kws_cons (wpAny_Constant_bool (PyProof.Rows.kws_nil ?_));refine AX ao al h (R_:=λX=>c.wp (call (.builtin "sorted") [X] [(ACC "reverse",.bool true)]) (Cg c.toAr g af (vss ss')) ag) λa ys hL hr hn _=>oA (IR hr) λh1 h2=>?_;have hlen:ys.toList.length<64:=by rw[<-hr.length,AAB];exact hl
 refine Iv (vs:=ys.toList) hL h1 hlen λout out' a1 a2 a3=>?_;have e:out'.reverse=ss'.reverse:=Gq (DV a3) hs ((AC1 _).trans (a2.trans (hp.symm.trans (AC1 _).symm)));obtain rfl:out'=ss':=by rw[<-List.reverse_reverse out',e,List.reverse_reverse]
 exact oE (PyProof.Rows.sortedAll_at ag.heap ys.toList out) λk hk=>Cg.after aq (.made ao (λb o e=>PyProof.Rows.sortedAll_old e) (ABO (ADL _)) hk (MY a1 λz hz=>h2 z (a2.mem_iff.mp hz)) (by rw[AAB,hp.length_eq];exact AAC (ACF hl) (by decide)))
end
end Mine.Internal
namespace Mine.Internal
open PySem
noncomputable def noE:Expr:=.Name ("" : Str) ⟨0,0,0,0⟩
noncomputable def noS:Stmt:=.Pass ⟨0,0,0,0⟩
noncomputable def pC(x:Expr):List Expr :=
 match x with
 |.BinOp l _ r _=>[l,r]
 |.UnaryOp _ y _=>[y]
 |.BoolOp _ vs _=>vs
 |.Compare l _ rs _=>l::rs
 |.Tuple vs _ _=>vs
 |.List vs _=>vs
 |.Subscript v y _=>[v,y]
 |.Call f vs _ _=>f::vs
 |.Attribute y _ _=>[y]
 |.ListComp y gs _ _=>(match gs with|[g]=>y::g.target::g.iter::g.ifs|_=>[])
 |_=>[]
noncomputable def kE(x:Expr)(i:Nat):Expr:=(pC x)[i]?.getD noE
noncomputable def nmE(x:Expr):Str:=match x with|.Name n _=>n|_=>("" : Str)
noncomputable def K3(x:Expr):Nat:=match x with|.Constant _ k _=>k|.Tuple _ k _=>k|_=>0
noncomputable def Ws(x:Expr):Option Expr×Option Expr:=match x with|.Slice l u _ _=>(l,u)|_=>(au,au)
noncomputable def kwE(x:Expr)(i:Nat):Keyword:=match x with|.Call _ _ ks _=>ks[i]?.getD ⟨au,noE,noE.pos⟩|_=>⟨au,noE,noE.pos⟩
noncomputable def ZX(x:Expr):Arguments×Expr×Scope:=match x with|.Lambda as b sc _=>(as,b,sc)|_=>(⟨[],[],au,[],[],au,[]⟩,noE,default)
noncomputable def pF(as:Arguments):Arg:=as.args[0]?.getD ⟨("" : Str),au,noE.pos⟩
noncomputable def scE(x:Expr):Scope:=match x with|.ListComp _ _ sc _=>sc|_=>default
noncomputable def DO(x:Expr):Expr:=.Name (nmE x) x.pos
noncomputable def kwA(x:Expr):Arg:=pF (ZX (kwE x 0).value).1
noncomputable def kwB(x:Expr):Expr:=(ZX (kwE x 0).value).2.1
noncomputable def kwS(x:Expr):Scope:=(ZX (kwE x 0).value).2.2
noncomputable def Sk(x:Expr):List Nat->Nat->List Expr
 |[],_=>[]
 |_::r,k=>DO (kE x k)::Sk x r (k+1)
noncomputable def emT(ts:List Nat)(x:Expr):Expr :=
 match ts with
 |[_]=>DO x
 |ts=>.Tuple (Sk x ts 0) (K3 x) x.pos
noncomputable def em:E->(Expr->Expr)×(Expr->Nat->List Expr)
 |.cst d=>(λx=>.Constant (toC d) (K3 x) x.pos,λ_ _=>[])
 |.var _=>(DO,λ_ _=>[])
 |.ty _=>(DO,λ_ _=>[])
 |.glb _=>(DO,λ_ _=>[])
 |.bin op a b=>(λx=>.BinOp ((em a).1 (kE x 0)) op ((em b).1 (kE x 1)) x.pos,λ_ _=>[])
 |.neg a=>(λx=>.UnaryOp .USub ((em a).1 (kE x 0)) x.pos,λ_ _=>[])
 |.not a=>(λx=>.UnaryOp .Not ((em a).1 (kE x 0)) x.pos,λ_ _=>[])
 |.bop op es=>(λx=>.BoolOp op ((em es).2 x 0) x.pos,λ_ _=>[])
 |.cmp op a b=>(λx=>.Compare ((em a).1 (kE x 0)) [op] [(em b).1 (kE x 1)] x.pos,λ_ _=>[])
 |.nil=>(id,λ_ _=>[])
 |.cons a r=>(id,λx k=>(em a).1 (kE x k)::(em r).2 x (k+1))
 |.tup es=>(λx=>.Tuple ((em es).2 x 0) (K3 x) x.pos,λ_ _=>[])
 |.lst es=>(λx=>.List ((em es).2 x 0) x.pos,λ_ _=>[])
 |.dct=>(λx=>.Dict [] [] x.pos,λ_ _=>[])
 |.sub a i=>(λx=>.Subscript ((em a).1 (kE x 0)) ((em i).1 (kE x 1)) x.pos,λ_ _=>[])
 |.slc a lo hi=>(λx=>.Subscript ((em a).1 (kE x 0)) (.Slice (if BZ lo then au else aj ((em lo).1 ((Ws (kE x 1)).1.getD noE))) (if BZ hi then au else aj ((em hi).1 ((Ws (kE x 1)).2.getD noE))) au (kE x 1).pos) x.pos,λ_ _=>[])
 |.bi _ es=>(λx=>.Call (DO (kE x 0)) ((em es).2 x 1) [] x.pos,λ_ _=>[])
 |.maxd a z=>(λx=>.Call (DO (kE x 0)) [(em a).1 (kE x 1)] [⟨aj (ACC "default"),(em z).1 (kwE x 0).value,(kwE x 0).pos⟩] x.pos,λ_ _=>[])
 |.sortr a=>(λx=>.Call (DO (kE x 0)) [(em a).1 (kE x 1)] [⟨aj (ACC "reverse"),.Constant (.bool true) (K3 (kwE x 0).value) (kwE x 0).value.pos,(kwE x 0).pos⟩] x.pos,λ_ _=>[])
 |.sortk rev a _ key=>(λx=>.Call (DO (kE x 0)) [(em a).1 (kE x 1)] (⟨aj (ACC "key"),.Lambda (Ga (kwA x).arg (kwA x).pos) ((em key).1 (kwB x)) (kwS x) (kwE x 0).value.pos,(kwE x 0).pos⟩ ::
  bif rev then [⟨aj (ACC "reverse"),.Constant (.bool true) (K3 (kwE x 1).value) (kwE x 1).value.pos,(kwE x 1).pos⟩] else []) x.pos,λ_ _=>[])
 |.fcall _ es=>(λx=>.Call (DO (kE x 0)) ((em es).2 x 1) [] x.pos,λ_ _=>[])
 |.meth m o es=>(λx=>.Call (.Attribute ((em o).1 (kE (kE x 0) 0)) (ACC (Fw m)) (kE x 0).pos) ((em es).2 x 1) [] x.pos,λ_ _=>[])
 |.attr nm o=>(λx=>.Attribute ((em o).1 (kE x 0)) nm x.pos,λ_ _=>[])
 |.mcall nm o es=>(λx=>.Call (.Attribute ((em o).1 (kE (kE x 0) 0)) nm (kE x 0).pos) ((em es).2 x 1) [] x.pos,λ_ _=>[])
 |.new=>(λx=>.Call (DO (kE x 0)) [] [] x.pos,λ_ _=>[])
 |.comp elt ts it ifs=>(λx=>.ListComp ((em elt).1 (kE x 0)) [⟨emT ts (kE x 1),(em it).1 (kE x 2),(em ifs).2 x 3,0⟩] (scE x) x.pos,λ_ _=>[])
 |.range es=>(λx=>.Call (DO (kE x 0)) ((em es).2 x 1) [] x.pos,λ_ _=>[])
 |.zip a b=>(λx=>.Call (DO (kE x 0)) [(em a).1 (kE x 1),(em b).1 (kE x 2)] [] x.pos,λ_ _=>[])
 |.enum a=>(λx=>.Call (DO (kE x 0)) [(em a).1 (kE x 1)] [] x.pos,λ_ _=>[])
 |.glx _=>(DO,λ_ _=>[])
noncomputable def T1(K:Kx)(x:Expr):List Nat->Nat->Bool
 |[],_=>true
 |i::r,k=>K.canWr i (nmE (kE x k))&&T1 K x r (k+1)
noncomputable def okT(K:Kx)(ts:List Nat)(x:Expr):Bool :=
 match ts with
 |[i]=>K.canWr i (nmE x)
 |ts=>T1 K x ts 0
noncomputable def no1(_:Expr):Bool:=false
noncomputable def no2(_:Expr)(_:Nat):Bool:=false
noncomputable def ZK(apos pos:Pos)(n:Nat):Bool:=apos.endLine==pos.line&&Nat.blt n 20
noncomputable def ok:E->Kx->(Expr->Bool)×(Expr->Nat->Bool)
 |.cst d,_=>(λ_=>cOk d,no2)
 |.var i,K=>(λx=>K.isVar (nmE x)&&K.isAt i (nmE x),no2)
 |.ty t,K=>(λx=>G9 K (.ty t) (nmE x),no2)
 |.glb d,K=>(λx=>G9 K (.cst d) (nmE x),no2)
 |.bin _ a b,K=>(λx=>(ok a K).1 (kE x 0)&&(ok b K).1 (kE x 1),no2)
 |.neg a,K=>(λx=>(ok a K).1 (kE x 0),no2)
 |.not a,K=>(λx=>(ok a K).1 (kE x 0),no2)
 |.bop _ es,K=>(λx=>(ok es K).2 x 0,no2)
 |.cmp _ a b,K=>(λx=>(ok a K).1 (kE x 0)&&(ok b K).1 (kE x 1),no2)
 |.nil,_=>(no1,λ_ _=>true)
 |.cons a r,K=>(no1,λx k=>(ok a K).1 (kE x k)&&(ok r K).2 x (k+1))
 |.tup es,K=>(λx=>(ok es K).2 x 0,no2)
 |.lst es,K=>(λx=>(ok es K).2 x 0,no2)
 |.dct,_=>(λ_=>true,no2)
 |.sub a i,K=>(λx=>(ok a K).1 (kE x 0)&&(ok i K).1 (kE x 1),no2)
 |.slc a lo hi,K=>(λx=>(ok a K).1 (kE x 0)&&((BZ lo||(ok lo K).1 ((Ws (kE x 1)).1.getD noE))&&(BZ hi||(ok hi K).1 ((Ws (kE x 1)).2.getD noE))),no2)
 |.bi b es,K=>(λx=>G9 K (cI b) (nmE (kE x 0))&&(ok es K).2 x 1,no2)
 |.maxd a z,K=>(λx=>G9 K (.bi .max) (nmE (kE x 0))&&((ok a K).1 (kE x 1)&&(ok z K).1 (kwE x 0).value),no2)
 |.sortr a,K=>(λx=>G9 K (.bi .sorted) (nmE (kE x 0))&&(ok a K).1 (kE x 1),no2)
 |.sortk _ a i key,K=>(λx=>G9 K (.bi .sorted) (nmE (kE x 0))&&((ok a K).1 (kE x 1)&&(Ua K i (kwA x).arg (kwS x)&&(ok key (K.lsub (kwA x).arg (kwS x))).1 (kwB x))),no2)
 |.fcall f es,K=>(λx=>G9 K (.fn f) (nmE (kE x 0))&&(ok es K).2 x 1,no2)
 |.meth _ o es,K=>(λx=>(ok o K).1 (kE (kE x 0) 0)&&((ok es K).2 x 1&&ZK (kE x 0).pos x.pos ((em es).2 x 1).length),no2)
 |.attr _ o,K=>(λx=>(ok o K).1 (kE x 0),no2)
 |.mcall _ o es,K=>(λx=>(ok o K).1 (kE (kE x 0) 0)&&((ok es K).2 x 1&&ZK (kE x 0).pos x.pos ((em es).2 x 1).length),no2)
 |.new,K=>(λx=>G9 K .cls (nmE (kE x 0)),no2)
 |.comp elt ts it ifs,K=>(λx=>(ok it K).1 (kE x 2)&&((IA K ts (scE x)&&Id ts it)&&(okT (K.sub ts (scE x)) ts (kE x 1)&&((ok elt (K.sub ts (scE x))).1 (kE x 0)&&(ok ifs (K.sub ts (scE x))).2 x 3))),no2)
 |.range es,K=>(λx=>G9 K (.ty "range") (nmE (kE x 0))&&(ok es K).2 x 1,no2)
 |.zip a b,K=>(λx=>G9 K (.ty "zip") (nmE (kE x 0))&&((ok a K).1 (kE x 1)&&(ok b K).1 (kE x 2)),no2)
 |.enum a,K=>(λx=>G9 K (.ty "enumerate") (nmE (kE x 0))&&(ok a K).1 (kE x 1),no2)
 |.glx k,K=>(λx=>G9 K (gvE k) (nmE x),no2)
section
variable{K:Kx}
theorem AA(h:(a&&b)=true):a=true:=(AAH.mp h).1
theorem Ag(h:(a&&b)=true):b=true:=(AAH.mp h).2
theorem Li(h:Ka a b=true):a=b:=by
 cases a with
 |int i=>cases b with
  |int j=>rw[ABM h]
  |_=>exact ff_ h
 |str i=>cases b with
  |str j=>rw[ABM h]
  |_=>exact ff_ h
 |_=>exact ff_ h
theorem Xh(h:fR v w=true):v=w:=by
 cases v with
 |fn f=>cases w with
  |fn g=>rw[ABM h]
  |_=>exact ff_ h
 |bi f=>cases w with
  |bi g=>cases f<;>cases g<;>first|rfl|exact ff_ h
  |_=>exact ff_ h
 |ty f=>cases w with
  |ty g=>rw[ABM h]
  |_=>exact ff_ h
 |cst f=>cases w with
  |cst g=>rw[Li h]
  |_=>exact ff_ h
 |cls=>cases w with
  |cls=>rfl
  |_=>exact ff_ h
 |exc f=>cases w with
  |exc g=>rw[ABM h]
  |_=>exact ff_ h
theorem Cn(h:G9 K v n=true):K.to v n:=by
 refine⟨AA h,?_⟩;have h:=Ag h;cases e:K.gl n with
 |none=>rw[e] at h;exact ff_ h
 |some w=>rw[e] at h;rw[Xh h]
theorem Qx(h:K.isAt i n=true):K.vars[i]? = aj n:=by
 have h:(match K.vars[i]? with|some m=>m==n|none=>false)=true:=h;cases e:K.vars[i]? with
 |none=>rw[e] at h;exact ff_ h
 |some m=>rw[e] at h;rw[ABM h]
theorem Hg:∀{ts:List Nat} {k:Nat},T1 K x ts k=true->Op K ts (Sk x ts k)
 |[],_,_=>rfl
 |_::_,_,h=>λR_ f=>f _ _ _ (AA h) (Hg (Ag h))
theorem Uh(h:okT K ts x=true):IsT K ts (emT ts x):=λR_ h1 h2=>by
 match ts,h with
 |[],h=>exact h2 _ _ _ (λq=>nomatch q) (Hg h)
 |[i],h=>exact h1 i _ _ h
 |i::j::l,h=>exact h2 _ _ _ (λq=>nomatch q) (Hg h)
theorem QW(h:ZK a p n=true):a.endLine=p.line/\n<20:=⟨ABM (AA h),Nat.blt_eq.mp (Ag h)⟩
theorem T0(h:(BZ e||b)=true)(hb:b=true->A t):(if BZ e then M7 else M6 A) (if BZ e then au else aj t):=by
 by_cases q:BZ e=true
 ·exact(if_pos q)▸(if_pos q)▸rfl
 ·rw[if_neg q,if_neg q];rw[Bool.not_eq_true] at q;rw[q] at h;exactλR_ k=>k _ (hb h)
end
theorem AM:∀e:E,(∀K x,(ok e K).1 x=true->(Is e K).1 ((em e).1 x))/\(∀K x k,(ok e K).2 x k=true->(Is e K).2 ((em e).2 x k))
 |.cst d=>⟨λK x h R_ k=>k _ _ h,λ_ _ _ h=>ff_ h⟩
 |.var i=>⟨λK x h R_ k=>k _ _ ⟨AA h,Qx (Ag h)⟩,λ_ _ _ h=>ff_ h⟩
 |.ty t=>⟨λK x h R_ k=>k _ _ (Cn h),λ_ _ _ h=>ff_ h⟩
 |.glb d=>⟨λK x h R_ k=>k _ _ (Cn h),λ_ _ _ h=>ff_ h⟩
 |.bin op a b=>⟨λK x h R_ k=>k _ _ _ ((AM a).1 K _ (AA h)) ((AM b).1 K _ (Ag h)),λ_ _ _ h=>ff_ h⟩
 |.neg a=>⟨λK x h R_ k=>k _ _ ((AM a).1 K _ h),λ_ _ _ h=>ff_ h⟩
 |.not a=>⟨λK x h R_ k=>k _ _ ((AM a).1 K _ h),λ_ _ _ h=>ff_ h⟩
 |.bop op es=>⟨λK x h R_ k=>k _ _ ((AM es).2 K _ _ h),λ_ _ _ h=>ff_ h⟩
 |.cmp op a b=>⟨λK x h R_ k=>k _ _ _ ((AM a).1 K _ (AA h)) ((AM b).1 K _ (Ag h)),λ_ _ _ h=>ff_ h⟩
 |.nil=>⟨λ_ _ h=>ff_ h,λ_ _ _ _=>rfl⟩
 |.cons a r=>⟨λ_ _ h=>ff_ h,λK x _ h R_ k=>k _ _ ((AM a).1 K _ (AA h)) ((AM r).2 K _ _ (Ag h))⟩
 |.tup es=>⟨λK x h R_ k=>k _ _ _ ((AM es).2 K _ _ h),λ_ _ _ h=>ff_ h⟩
 |.lst es=>⟨λK x h R_ k=>k _ _ ((AM es).2 K _ _ h),λ_ _ _ h=>ff_ h⟩
 |.dct=>⟨λK x h R_ k=>k _,λ_ _ _ h=>ff_ h⟩
 |.sub a i=>⟨λK x h R_ k=>k _ _ _ ((AM a).1 K _ (AA h)) ((AM i).1 K _ (Ag h)),λ_ _ _ h=>ff_ h⟩
 |.slc a lo hi=>⟨λK x h R_ k=>k _ _ _ _ _ ((AM a).1 K _ (AA h)) (T0 (AA (Ag h)) ((AM lo).1 K _)) (T0 (Ag (Ag h)) ((AM hi).1 K _)),λ_ _ _ h=>ff_ h⟩
 |.bi b es=>⟨λK x h R_ k=>k _ _ _ _ (Cn (AA h)) ((AM es).2 K _ _ (Ag h)),λ_ _ _ h=>ff_ h⟩
 |.maxd a z=>⟨λK x h R_ k=>k _ _ _ _ _ _ (Cn (AA h)) ((AM a).1 K _ (AA (Ag h))) ((AM z).1 K _ (Ag (Ag h))),λ_ _ _ h=>ff_ h⟩
 |.sortr a=>⟨λK x h R_ k=>k _ _ _ _ _ _ _ (Cn (AA h)) ((AM a).1 K _ (Ag h)),λ_ _ _ h=>ff_ h⟩
 |.sortk rev a i key=>⟨λK x h R_ k=>k _ _ _ _ _ _ _ _ _ _ _ _ _ (Cn (AA h)) ((AM a).1 K _ (AA (Ag h))) ⟨AA (Ag (Ag h)),(AM key).1 _ _ (Ag (Ag (Ag h)))⟩,λ_ _ _ h=>ff_ h⟩
 |.fcall f es=>⟨λK x h R_ k=>k _ _ _ _ (Cn (AA h)) ((AM es).2 K _ _ (Ag h)),λ_ _ _ h=>ff_ h⟩
 |.meth m o es=>⟨λK x h R_ k=>k _ _ _ _ ((AM o).1 K _ (AA h)) ((AM es).2 K _ _ (AA (Ag h))) (QW (Ag (Ag h))).1 (QW (Ag (Ag h))).2,λ_ _ _ h=>ff_ h⟩
 |.attr nm o=>⟨λK x h R_ k=>k _ _ ((AM o).1 K _ h),λ_ _ _ h=>ff_ h⟩
 |.mcall nm o es=>⟨λK x h R_ k=>k _ _ _ _ ((AM o).1 K _ (AA h)) ((AM es).2 K _ _ (AA (Ag h))) (QW (Ag (Ag h))).1 (QW (Ag (Ag h))).2,λ_ _ _ h=>ff_ h⟩
 |.new=>⟨λK x h R_ k=>k _ _ _ _ (Cn h) rfl,λ_ _ _ h=>ff_ h⟩
 |.comp elt ts it ifs=>⟨λK x h R_ k=>k _ _ _ _ _ _ ((AM it).1 K _ (AA h)) ⟨AA (AA (Ag h)),Ag (AA (Ag h))⟩ (Uh (AA (Ag (Ag h)))) ((AM elt).1 _ _ (AA (Ag (Ag (Ag h))))) ((AM ifs).2 _ _ _ (Ag (Ag (Ag (Ag h))))),λ_ _ _ h=>ff_ h⟩
 |.range es=>⟨λK x h R_ k=>k _ _ _ _ (Cn (AA h)) ((AM es).2 K _ _ (Ag h)),λ_ _ _ h=>ff_ h⟩
 |.zip a b=>⟨λK x h R_ k=>k _ _ _ _ (Cn (AA h)) λR_ k=>k _ _ ((AM a).1 K _ (AA (Ag h))) λR_ k=>k _ _ ((AM b).1 K _ (Ag (Ag h))) rfl,λ_ _ _ h=>ff_ h⟩
 |.enum a=>⟨λK x h R_ k=>k _ _ _ _ (Cn (AA h)) λR_ k=>k _ _ ((AM a).1 K _ (Ag h)) rfl,λ_ _ _ h=>ff_ h⟩
 |.glx j=>⟨λK x h R_ k=>k _ _ (Cn h),λ_ _ _ h=>ff_ h⟩
noncomputable def stE(st:Stmt):List Expr :=
 match st with
 |.Assign ts v _=>v::ts
 |.Expr v _=>[v]
 |.If t _ _ _=>[t]
 |.While t _ _ _=>[t]
 |.For t i _ _ _=>[t,i]
 |.Return v _=>(match v with|some v=>[v]|none=>[])
 |.Raise v _ _=>(match v with|some v=>[v]|none=>[])
 |.Try _ hs _ _ _=>(match hs with|h::_=>(match h with|.ExceptHandler t _ _ _=>(match t with|some t=>[t]|none=>[]))|[]=>[])
 |_=>[]
noncomputable def pJ(st:Stmt):Pos:=match st with|.Try _ hs _ _ _=>(match hs with|h::_=>(match h with|.ExceptHandler _ _ _ p=>p)|[]=>st.pos)|_=>st.pos
noncomputable def stB(st:Stmt):List Stmt×List Stmt :=
 match st with
 |.If _ x y _=>(x,y)
 |.For _ _ b _ _=>(b,[])
 |.While _ b _ _=>(b,[])
 |.Try b hs _ _ _=>(b,match hs with|h::_=>(match h with|.ExceptHandler _ _ b _=>b)|[]=>[])
 |_=>([],[])
noncomputable def sE(st:Stmt)(i:Nat):Expr:=(stE st)[i]?.getD noE
noncomputable def hsS(st:Stmt):List ExceptHandler:=match st with|.Try _ hs _ _ _=>hs|_=>[]
noncomputable def noH:ExceptHandler:=.ExceptHandler au au [] noS.pos
noncomputable def hdT(h:ExceptHandler):Expr:=match h with|.ExceptHandler t _ _ _=>t.getD noE
noncomputable def hdN(h:ExceptHandler):Str:=match h with|.ExceptHandler _ n _ _=>n.getD ("" : Str)
noncomputable def hdB(h:ExceptHandler):Stmt:=match h with|.ExceptHandler _ _ b _=>b.headD noS
noncomputable def hdP(h:ExceptHandler):Pos:=match h with|.ExceptHandler _ _ _ p=>p
noncomputable def emH:List (Nat×Nat×E)->List ExceptHandler->List ExceptHandler
 |[],_=>[]
 |(_,_,e)::r,l=>.ExceptHandler (aj (DO (hdT (l.headD noH)))) (aj (hdN (l.headD noH))) [.Return (aj ((em e).1 (sE (hdB (l.headD noH)) 0))) (hdB (l.headD noH)).pos] (hdP (l.headD noH))::emH r l.tail
noncomputable def okH(K:Kx):List (Nat×Nat×E)->List ExceptHandler->Bool
 |[],_=>true
 |(k,i,e)::r,l=>(G9 K (.exc k) (nmE (hdT (l.headD noH)))&&((K.canWr i (hdN (l.headD noH))&&K.kd (hdN (l.headD noH)) .local)&&(ok e K).1 (sE (hdB (l.headD noH)) 0)))&&okH K r l.tail
theorem Uk:∀{hs:List (Nat×Nat×E)} {l:List ExceptHandler},okH K hs l=true->cS K hs (emH hs l)
 |[],_,_=>rfl
 |(_,_,e)::_,_,h=>λR_ f=>f _ _ _ _ _ _ _ (Cn (AA (AA h))) ⟨AA (AA (Ag (AA h))),Ag (AA (Ag (AA h)))⟩ ((AM e).1 K _ (Ag (Ag (AA h)))) (Uk (Ag h))
noncomputable def emS:S->(Stmt->Stmt)×(List Stmt->List Stmt)
 |.any=>(id,id)
 |.nil=>(id,λ_=>[])
 |.cons s r=>(id,λl=>(emS s).1 (l.headD noS)::(emS r).2 l.tail)
 |.asg _ e=>(λst=>.Assign [DO (sE st 1)] ((em e).1 (sE st 0)) st.pos,id)
 |.unp xs e=>(λst=>.Assign [.Tuple (Sk (sE st 1) xs 0) (K3 (sE st 1)) (sE st 1).pos] ((em e).1 (sE st 0)) st.pos,id)
 |.swp xs es=>(λst=>.Assign [.Tuple (Sk (sE st 1) xs 0) (K3 (sE st 1)) (sE st 1).pos] (.Tuple ((em es).2 (sE st 0) 0) (K3 (sE st 0)) (sE st 0).pos) st.pos,id)
 |.set o i v=>(λst=>.Assign [.Subscript ((em o).1 (kE (sE st 1) 0)) ((em i).1 (kE (sE st 1) 1)) (sE st 1).pos] ((em v).1 (sE st 0)) st.pos,id)
 |.exp e=>(λst=>.Expr ((em e).1 (sE st 0)) st.pos,id)
 |.ite c a b=>(λst=>.If ((em c).1 (sE st 0)) ((emS a).2 (stB st).1) ((emS b).2 (stB st).2) st.pos,id)
 |.for_ ts it body=>(λst=>.For (emT ts (sE st 0)) ((em it).1 (sE st 1)) ((emS body).2 (stB st).1) [] st.pos,id)
 |.while_ c body=>(λst=>.While ((em c).1 (sE st 0)) ((emS body).2 (stB st).1) [] st.pos,id)
 |.ret e=>(λst=>.Return (aj ((em e).1 (sE st 0))) st.pos,id)
 |.rse _ es=>(λst=>.Raise (aj (.Call (DO (kE (sE st 0) 0)) ((em es).2 (sE st 0) 1) [] (sE st 0).pos)) au st.pos,id)
 |.tryAs b hs=>(λst=>.Try ((emS b).2 (stB st).1) (emH hs (hsS st)) [] [] st.pos,id)
 |.setd _ nm=>(λst=>.Assign [.Attribute (DO (kE (sE st 1) 0)) nm (sE st 1).pos] (.Dict [] [] (sE st 0).pos) st.pos,id)
 |.swl _ _ _ es=>(λst=>.Assign [.Tuple [DO (kE (sE st 1) 0),DO (kE (sE st 1) 1),DO (kE (sE st 1) 2)] (K3 (sE st 1)) (sE st 1).pos] (.Tuple ((em es).2 (sE st 0) 0) (K3 (sE st 0)) (sE st 0).pos) st.pos,id)
noncomputable def noL(_:List Stmt):Bool:=false
noncomputable def okS:S->Kx->(Stmt->Bool)×(List Stmt->Bool)
 |.any,_=>(λ_=>true,λ_=>true)
 |.nil,_=>(λ_=>false,λ_=>true)
 |.cons s r,K=>(λ_=>false,λl=>(okS s K).1 (l.headD noS)&&(okS r K).2 l.tail)
 |.asg x e,K=>(λst=>K.canWr x (nmE (sE st 1))&&((ok e K).1 (sE st 0)&&(bif BH e then S9 K (nmE (sE st 1)) (sE st 1).pos ((em e).1 (sE st 0)) else true)),noL)
 |.unp xs e,K=>(λst=>T1 K (sE st 1) xs 0&&(ok e K).1 (sE st 0),noL)
 |.swp xs es,K=>(λst=>T1 K (sE st 1) xs 0&&((HW K (Sk (sE st 1) xs 0)&&Nat.beq xs.length 3)&&(ok es K).2 (sE st 0) 0),noL)
 |.set o i v,K=>(λst=>(ok v K).1 (sE st 0)&&((ok o K).1 (kE (sE st 1) 0)&&(ok i K).1 (kE (sE st 1) 1)),noL)
 |.exp e,K=>(λst=>(ok e K).1 (sE st 0),noL)
 |.ite c a b,K=>(λst=>(ok c K).1 (sE st 0)&&((okS a K).2 (stB st).1&&(okS b K).2 (stB st).2),noL)
 |.for_ ts it body,K=>(λst=>(okT K ts (sE st 0)&&Id ts it)&&((ok it K).1 (sE st 1)&&(okS body K).2 (stB st).1),noL)
 |.while_ c body,K=>(λst=>(ok c K).1 (sE st 0)&&(okS body K).2 (stB st).1,noL)
 |.ret e,K=>(λst=>(ok e K).1 (sE st 0),noL)
 |.rse k es,K=>(λst=>G9 K (.exc k) (nmE (kE (sE st 0) 0))&&((ok es K).2 (sE st 0) 1&&Nat.blt ((em es).2 (sE st 0) 1).length 20),noL)
 |.tryAs b hs,K=>(λst=>(okS b K).2 (stB st).1&&(okH K hs (hsS st)&&!hs.isEmpty),noL)
 |.setd x _,K=>(λst=>K.kd (nmE (kE (sE st 1) 0)) .local&&(K.isAt x (nmE (kE (sE st 1) 0))&&!(nmE (kE (sE st 1) 0)==("__debug__" : Str))),noL)
 |.swl i j l es,K=>(λst=>(K.canWr i (nmE (kE (sE st 1) 0))&&(K.canWr j (nmE (kE (sE st 1) 1))&&K.canWr l (nmE (kE (sE st 1) 2))))&&(S8 K (nmE (kE (sE st 1) 0)) (nmE (kE (sE st 1) 1)) (nmE (kE (sE st 1) 2)) (kE (sE st 1) 0).pos (kE (sE st 1) 1).pos (kE (sE st 1) 2).pos ((em es).2 (sE st 0) 0)&&(ok es K).2 (sE st 0) 0),noL)
theorem F6:∀(e:S),(∀K x,(okS e K).1 x=true->(Iss e K).1 ((emS e).1 x))/\(∀K x,(okS e K).2 x=true->(Iss e K).2 ((emS e).2 x))
 |.any=>⟨λ_ _ _=>trivial,λ_ _ _=>trivial⟩
 |.nil=>⟨λ_ _ h=>ff_ h,λ_ _ _=>rfl⟩
 |.cons s r=>⟨λ_ _ h=>ff_ h,λK l h R_ k=>k _ _ ((F6 s).1 K _ (AA h)) ((F6 r).2 K _ (Ag h))⟩
 |.asg x e=>⟨λK st h R_ k=>k _ _ _ _ (AA h) ((AM e).1 K _ (AA (Ag h))) (Ag (Ag h)),λ_ _ h=>ff_ h⟩
 |.unp xs e=>⟨λK st h R_ k=>k _ _ _ _ _ (Hg (AA h)) ((AM e).1 K _ (Ag h)),λ_ _ h=>ff_ h⟩
 |.swp xs es=>⟨λK st h R_ k=>k _ _ _ _ _ _ _ ⟨Hg (AA h),AA (AA (Ag h)),ADH (Ag (AA (Ag h)))⟩ ((AM es).2 K _ _ (Ag (Ag h))),λ_ _ h=>ff_ h⟩
 |.set o i v=>⟨λK st h R_ k=>k _ _ _ _ _ ((AM v).1 K _ (AA h)) ((AM o).1 K _ (AA (Ag h))) ((AM i).1 K _ (Ag (Ag h))),λ_ _ h=>ff_ h⟩
 |.exp e=>⟨λK st h R_ k=>k _ _ ((AM e).1 K _ h),λ_ _ h=>ff_ h⟩
 |.ite c a b=>⟨λK st h R_ k=>k _ _ _ _ ((AM c).1 K _ (AA h)) ((F6 a).2 K _ (AA (Ag h))) ((F6 b).2 K _ (Ag (Ag h))),λ_ _ h=>ff_ h⟩
 |.for_ ts it body=>⟨λK st h R_ k=>k _ _ _ _ ⟨Uh (AA (AA h)),Ag (AA h)⟩ ((AM it).1 K _ (AA (Ag h))) ((F6 body).2 K _ (Ag (Ag h))),λ_ _ h=>ff_ h⟩
 |.while_ c body=>⟨λK st h R_ k=>k _ _ _ ((AM c).1 K _ (AA h)) ((F6 body).2 K _ (Ag h)),λ_ _ h=>ff_ h⟩
 |.ret e=>⟨λK st h R_ k=>k _ _ ((AM e).1 K _ h),λ_ _ h=>ff_ h⟩
 |.rse k es=>⟨λK st h R_ f=>f _ _ _ _ _ (Cn (AA h)) ((AM es).2 K _ _ (AA (Ag h))) (Nat.blt_eq.mp (Ag (Ag h))),λ_ _ h=>ff_ h⟩
 |.tryAs b hs=>⟨λK st h R_ f=>by
  have h2:=Uk (AA (Ag h));have h3:=Ag (Ag h)
  match hs,h2,h3 with
  |[],_,h3=>exact ff_ h3
  |(k,i,e)::r,h2,_=>exact f _ _ _ _ ((F6 b).2 K _ (AA h)) h2,λ_ _ h=>ff_ h⟩
 |.setd x nm=>⟨λK st h R_ k=>k _ _ _ _ _ ⟨AA h,Qx (AA (Ag h)),Jh (Ag (Ag h))⟩,λ_ _ h=>ff_ h⟩
 |.swl i j l es=>⟨λK st h R_ k=>k _ _ _ _ _ _ _ _ _ _ _ _ ⟨⟨AA (AA h),AA (Ag (AA h)),Ag (Ag (AA h))⟩,AA (Ag h)⟩ ((AM es).2 K _ _ (Ag (Ag h))),λ_ _ h=>ff_ h⟩
noncomputable def Yk(o:Option NameKind):Bool:=match o with|some k=>k==.local||k==.cell|none=>false
structure Rc where
 params:Arguments
 body:List Stmt
 scope:Scope
noncomputable def ZJ(lam:Option (Addr×Str))(fn:Fn)(vars:List Str)(r:Rc):Bool :=
 (decide (r.scope.kind=.function)&&(!r.scope.isGenerator&&(!r.scope.isCoroutine&&(decide vars.Nodup&&((vars.take fn.np).all (λn=>Yk (r.scope.names.lookup n))&&r.scope.names.all (λq=>!(q.2==.free))))))) &&
 ((r.params.posonlyargs.isEmpty&&(r.params.vararg.isNone&&(r.params.kwonlyargs.isEmpty&&(r.params.kwarg.isNone&&(decide (r.params.args.map (·.arg)=vars.take fn.np)&&Nat.ble fn.np vars.length)))))&&(okS fn.body ⟨vars,r.scope.names,vars,glP,lam⟩).2 r.body)
theorem To{o:Option NameKind}(h:Yk o=true):o=aj .local\/o=aj .cell:=by
 cases o with
 |none=>exact ff_ h
 |some k=>exact(ABC.mp h).imp (λh=>by rw[ABM h]) λh=>by rw[ABM h]
theorem TA{α:Type}{l:List α}(h:l.isEmpty=true):l=[]:=by cases l with|nil=>rfl|cons _ _=>exact ff_ h
theorem none_of'{α:Type}{l:Option α}(h:l.isNone=true):l=au:=by cases l with|none=>rfl|some _=>exact ff_ h
theorem QD{T:Top}{lam:Option (Addr×Str)}{fn:Fn}{vars:List Str}{r:Rc}{a:Addr}{o:Obj}{fd:FuncData}(h:ZJ lam fn vars r=true)(hem:(emS fn.body).2 r.body=r.body)
 (ho:T.h0.get? a=aj o) (hd:o.data=.func fd) (hc:T.h0.CodeRec fd.code fd.qualname) (hp:fd.params=r.params) (hb:fd.body=.stmts r.body) (hs:fd.scope=r.scope) (hcl:fd.closure=[]) (hg:fd.globals=mainGlobals) (hbl:fd.builtins=builtinsNs) (hdf:fd.defaults=.none) (hkd:fd.kwdefaults=.none)
 (hl:∀t q,lam=aj (t,q)->(t,q)∈T.tabs/\(fd.qualname++(".<locals>." : Str))++("<lambda>" : Str)=q/\∃c,fd.code=.ref c/\W.CodeHd T.h0 c t):cZ T glP fn a fd r.body o vars lam:=by
 have h1:=AA h;have h2:=AA (Ag h);have h3:=(F6 fn.body).2 _ _ (Ag (Ag h));rw[hem] at h3;have k4:=AAG (AA (Ag (Ag (Ag h1))));have p5:=AAG (AA (Ag (Ag (Ag (Ag h2)))));refine⟨ho,hd,hc,hb,hcl,hg,hbl,by rw[hs];exact AAG (AA h1),by rw[hs];exact Jh (AA (Ag h1)),by rw[hs];exact Jh (AA (Ag (Ag h1))),k4,λvals hv=>?_,λn hn=>?_,λp hp' e=>?_,by rw[hs];exact h3,hl⟩
 ·have e1:=TA (AA h2);have e2:=none_of' (AA (Ag h2));have e3:=TA (AA (Ag (Ag h2)));have e4:=none_of' (AA (Ag (Ag (Ag h2))));rcases hP:r.params with⟨po,as,va,ko,kd,kw,df⟩
  rw[hP] at e1 e2 e3 e4 p5 hp;have e1:=e1;have p5:=p5;subst e1 e2 e3 e4;rw[<-p5];refine Kg hp hdf hkd ?_ ?_
  ·have e5:as.length=(as.map (·.arg)).length:=(AAB _).symm;rw[hv,show as.length=fn.np by rw[e5,p5,ACP,ACL (ACD (Ag (Ag (Ag (Ag (Ag h2))))))]]
  ·exact p5▸List.Nodup.sublist (AC0 _ _) k4
 ·exact hs▸To (ACH.mp (AA (Ag (Ag (Ag (Ag h1))))) n hn)
 ·rw[hs] at hp';have q:=ACH.mp (Ag (Ag (Ag (Ag (Ag h1))))) p hp';rw[e] at q;exact ff_ q
open PySem.Calls
theorem HOk.fzm(h:HOk n g A)(k:∀a o,g.fz a=aj o->g'.fz a=aj o):HOk n g' A:=⟨h.1.imp id λq=>⟨q.1,by obtain⟨b,o,vs,h1,h2,h3⟩:=q.2;exact⟨b,o,vs,h1,k _ _ h2,h3⟩⟩,h.2⟩
section
variable{g:G}{d:PyData}{xs:List V}
noncomputable def G.tuck(g:G)(m:Nat)(h:Heap):G:=⟨g.fz,λa=>if a∈g.mu.drop m then h.get? a else g.hid a,g.mu.take m⟩
theorem PV(h:DP T g o x):x.cls≠frC:=by
 cases o with
 |list vs=>exact h (λx=>x.cls≠frC) λxs m _ _=>Bn rfl (by decide)
 |dictS kvs=>exact h _ λ_ _ _ ho _ _ _ _ _ _=>Bn ho.1 (by decide)
 |dictP kvs=>exact h _ λ_ _ _ ho _ _ _ _ _=>Bn ho.1 (by decide)
theorem Co.sub(x:Co g fe)(h:∀a o,g.hid a=aj o->g'.hid a=aj o):Co g' fe:=λe he=>⟨(x e he).1,let ⟨L,o,es,ep,h1,h2,h3⟩:=(x e he).2;⟨L,o,es,ep,h1,h _ _ h2,h3⟩⟩
theorem PG:G.upTo m g (g.tuck m h):=⟨λ_ _ e=>e,λ_ _ hk e=>(ACW hk).trans e⟩
theorem IN(q:a∉g.mu):(g.tuck m h).hid a=g.hid a:=if_neg λp=>q (ACX p)
theorem Has.tuck(H:Has T g (U++τ) s)(hl:∀(k:Nat) o,U[k]? = aj o->Gj U.length o):Has T (g.tuck U.length s.heap) U s:=by
 refine⟨H.fz,λa o e=>?_,?_,List.Nodup.sublist (AC0 _ _) H.nd,λa ha=>H.ap a (ACJ ha),λa o e=>?_,λk a o e1 e2 R_ kk=>?_,H.base,λt q ht R_ kk=>H.tb t q ht R_ λps h1 h2 h3 h4 h5 h6=>kk ps h1 ((IN h3).trans h2) (λq=>h3 (ACJ q)) h4 h5 h6,H.gens,H.os⟩
 ·have e:(if a∈g.mu.drop U.length then s.heap.get? a else g.hid a)=aj o:=e;by_cases q:a∈g.mu.drop U.length
  ·rw[if_pos q] at e;exact .of e
  ·rw[if_neg q] at e;exact H.hd a o e
 ·show(g.mu.take U.length).length=_;exact ACP▸H.len▸AAF▸ACL (AA9 _ _)
 ·have e:(if a∈g.mu.drop U.length then s.heap.get? a else g.hid a)=aj o:=e;by_cases q:a∈g.mu.drop U.length
  ·exact⟨H.ap a (ACX q),λp=>GM H.nd p q⟩
  ·rw[if_neg q] at e;exact⟨(H.ah a o e).1,λp=>(H.ah a o e).2 (ACJ p)⟩
 ·have hk:k<U.length:=(AAM.mp e2).1;have e1:(g.mu.take U.length)[k]? = aj a:=e1;rw[ACW hk] at e1;exact H.ob k a o e1 ((ABE hk).trans e2) R_ λx h1 h2=>kk x h1 (GS PG (hl k o e2) h2)
theorem Has.untuck(H:Has T g (U++τ) s)(hl:U'.length=U.length)(le:G.le [] (g.tuck U.length s.heap) g')(H':Has T g' U' s'):Has T ⟨g'.fz,g.hid,g.mu⟩ (U'++τ) s':=by
 have hm:g.mu.length=U.length+τ.length:=H.len.trans AAF;have up:G.up g ⟨g'.fz,g.hid,g.mu⟩:=⟨le.fz,λ_ _ e=>e⟩
 have hid:∀a,g'.hid a=(g.tuck U.length s.heap).hid a:=λa=>le.hid a AA1;have hd1:∀{a o},g.hid a=aj o->g'.hid a=aj o:=λ{a o} e=>(hid a).trans ((IN (H.ah a o e).2).trans e);have hd2:∀{a o},a∈g.mu.drop U.length->s.heap.get? a=aj o->g'.hid a=aj o:=λ{a o} q e=>(hid a).trans ((if_pos q).trans e);have mu1:∀{k:Nat} {a},k<U.length->g.mu[k]? = aj a->g'.mu[k]? = aj a:=λ{k a} hk e=>le.mu k a ((ACW hk).trans e);have up':G.up g' ⟨g'.fz,g.hid,g.mu⟩:=⟨λ_ _ e=>e,λk a e=>by have hk:k<U.length:=hl▸H'.len▸Nl e;have e2:g.mu[k]? = aj (g.mu[k]'(hm▸Nat.lt_add_right _ hk)):=AAN _;rw[e2,Ao (mu1 hk e2) e]⟩
 refine⟨H'.fz,λa o e=>H'.hd a o (hd1 e),hm.trans (by rw[AAF,hl]),H.nd,λa ha=>?_,λa o e=>⟨(H'.ah a o (hd1 e)).1,(H.ah a o e).2⟩,λk a o e1 e2 R_ kk=>?_,H'.base,λt q ht R_ kk=>H.tb t q ht R_ λ_ _ h2 h3 _ _ _=>H'.tb t q ht R_ λps h1 _ _ h4 h5 h6=>kk ps h1 h2 h3 h4 h5 h6,H'.gens,H'.os⟩
 ·obtain⟨k,hk,e⟩:=List.mem_iff_getElem.mp ha;have e:g.mu[k]? = aj a:=by rw[AAN hk,e]
  by_cases q:k<U.length
  ·exact H'.ap a (AA5 (mu1 q e))
  ·exact oE (H.muAlive ha) λo ho=>(H'.ah a o (hd2 (AA5 (i:=k-U.length) (by rw[List.getElem?_drop,Nat.add_sub_cancel' (ACI q)];exact e)) ho)).1
 ·by_cases q:k<U.length
  ·rw[ABE (hl▸q)] at e2;exact H'.ob k a o (mu1 q e1) e2 R_ λx h1 h2=>kk x h1 (DP.mono up' _ _ h2)
  ·have q:=ACI q;rw[AA6 (hl▸q),hl] at e2;refine H.ob k a o e1 ((AA6 q).trans e2) R_ λx h1 h2=>kk x ((H'.hd a x (hd2 ?_ h1)).ex (PV h2)) (DP.mono up _ _ h2);exact AA5 (i:=k-U.length) (by rw[List.getElem?_drop,Nat.add_sub_cancel' q];exact e1)
theorem FA.tail(hf:FA n f xs U (.d d) U')(hl:U'.length=U.length)(hx:∀x,x∈xs->low U.length x)(hw:∀(k:Nat) o,U[k]? = aj o->Gj U.length o):FA n f xs (U++τ) (.d d) (U'++τ):=λr g s a Xs h A R =>
 AAO (hf r (g.tuck U.length s.heap) s a Xs h ⟨A.ok,A.frames,A.top,A.depth,A.units,A.hh.fzm λ_ _ e=>e,A.frs.sub λa o e=>(IN (A.has.ah a o e).2).trans e,A.has.tuck hw⟩ (Ay.imp (λv X hv rx=>LG PG (hx v hv) rx) R)) (λX s' p=>p _ λg' le H' rX =>
  .mk ⟨g'.fz,g.hid,g.mu⟩ ⟨⟨le.fz,λ_ _ e=>e⟩,λ_ _=>rfl⟩ (A.has.untuck hl le H') rX) λ_ _ h=>h
theorem FA.any(hf:FA n f xs [] (.d d) [])(hx:∀x,x∈xs->low 0 x):FA n f xs U (.d d) U:=FA.tail (U:=[]) (U':=[]) hf rfl hx λk o e=>Aa e
theorem FA.more(hf:FA n f xs U v U')(h:n<=k):FA k f xs U v U':=λr g s a Xs hf' A R=>hf r g s a Xs hf' (A.less h) R
theorem FN.more(hf:FN n f xs U v U')(h:n<=k):FN k f xs U v U':=FA.more hf (ADB h 3)
end
open PySem.SeqAt
noncomputable def dfl(o:Option PyData)(z:V):V:=match o with|some d=>.d d|none=>z
theorem SE.getP(hb0:EZ a)(ha:SE n a J U (.ref k) af)(hb:SEs n b J af [vp q,z] U2)(h0:af[k]? = aj (.dictP kvp))(h1:U2[k]? = aj (.dictP kvp)):SE n (.meth .get a b) J U (dfl (Aq kvp q) z) U2:=by
 refine SE.meth hb0 F.plainAttrs_dict F.slot_dict_get F.type_dict_get ha hb (λr g s X A hx=>?_) λr g s X Ys A hx hy=>?_
 ·refine oEA hx λc hk q_2=>?_;subst q_2;refine⟨Gi A hk h0 (λ_ q=>nomatch q),λl e=>?_⟩;obtain rfl:=ABR e;exact A.has.ob k c _ hk h0 _ λx hx rx=>rx _ λ_ _ _ ho _ _ _ _ _=>(iEA x hx ho.2.1)
 ·refine oEA hx λc hk q_2=>?_;subst q_2;refine Br hy.two λY Z q_2 ry rz=>?_;subst q_2;refine IC ry (R_:=λY=>r.wp (call (.builtin "dict.get") [.ref c,Y,Z]) (Ans r g _ U2) s) λb hb=>A.has.dictP hk h1 λws hD hr=>call_meetsIn F.slot_dict_get hD.typeIs F.entry_dict_get (F.args_dict_get_3 _ _ _) (meetsH_dict_get_default (tupleKind (Dt r.T.prog r.T.w)) c b (A.notMods hk) Z) (U9 (AAS (AA9 _ 40) A.room) (HP q) ws (Fr A.has hb) hD (.refl A.has.tok ?_));rcases JG hr q with⟨e1,e2⟩|⟨d,v,e1,e2,rv⟩
  ·exact e1▸e2▸rz
  ·exact e1▸e2▸rv
mutual
theorem AI.reads(hz:∀a o,fz a=aj o->h.get? a=aj o):∀(d:PyData) (v:Value),AI fz d v->∃as,Reads h v d as
 |.none,v,r=>⟨[],(show v=.none from r)▸.none⟩
 |.bool b,v,r=>⟨[],(show v=.bool b from r)▸.bool b⟩
 |.int i,v,r=>let ⟨t,e⟩:=r;⟨[],e▸.int i t⟩
 |.str s,v,r=>let ⟨t,e,_⟩:=r;⟨[],e▸.str s t⟩
 |.list ds,v,r=>r (λv=>∃as,Reads h v (.list ds) as) λa o vs m h1 h2 h3 h4 _=>let ⟨as,ra⟩:=RepDs.reads hz ds vs.toList h4;⟨a::as,.list (hz a o h1) h2 h3 ra⟩
 |.tuple ds,v,r=>r (λv=>∃as,Reads h v (.tuple ds) as) λa o vs m h1 h2 h3 h4 _=>let ⟨as,ra⟩:=RepDs.reads hz ds vs.toList h4;⟨as,.tuple (hz a o h1) h2 h3 ra⟩
 |.dict _,_,r=>r.elim
theorem RepDs.reads(hz:∀a o,fz a=aj o->h.get? a=aj o):∀(ds:List PyData) (vs:List Value),RepDs fz ds vs->∃as,ReadsAll h vs ds as
 |[],[],_=>⟨[],.nil⟩
 |d::ds,v::vs,r=>let ⟨as,ra⟩:=AI.reads hz d v r.1;let ⟨bs,rb⟩:=RepDs.reads hz ds vs r.2;⟨as++bs,.cons ra rb⟩
 |[],_::_,r=>r.elim
 |_::_,[],r=>r.elim
end
structure Shw(d:PyData):Prop where
 able:d.showable=true
 nod:d.hasDict=false
 dep:d.depth<=50
 len:d.shown.length<=line
noncomputable def Ww(d:PyData):Bool:=d.showable&&(!d.hasDict&&(decide (d.depth<=50)&&decide (d.shown.length<=line)))
theorem PO:Ww d=true↔Shw d:=by unfold Ww;rw[AAH,AAH,AAH,decide_eq_true_iff,decide_eq_true_iff,ACV];exact⟨λh=>⟨h.1,h.2.1,h.2.2.1,h.2.2.2⟩,λh=>⟨h.able,h.nod,h.dep,h.len⟩⟩
noncomputable def Uj(d:PyData):Bool:=match d with|.list _=>true|.tuple _=>true|_=>false
theorem Ui(q:Uj d=true)(hx:AI fz d X):∃a,X=.ref a:=by
 cases d with
 |list ds=>exact hx (λX=>∃a,X=.ref a) λa _ _ _ _ _ _ _ _=>⟨a,rfl⟩
 |tuple ds=>exact hx (λX=>∃a,X=.ref a) λa _ _ _ _ _ _ _ _=>⟨a,rfl⟩
 |_=>exact ff_ q
theorem bU(q:Uj d=true)(h:Shw d):Pr1 (λX=>call (AZ .repr) [X]) (.d d) U (.d (.str d.shown)) U:=λr g s X A hx=>by obtain⟨as,R⟩:=AI.reads A.has.fz d X hx;obtain⟨a,rfl⟩:=Ui q hx;have hu:r.A.units+(d.depth+1)<cLine:=AAS (Nat.add_le_add (AAC (AA9 _ _) A.units) (ABS h.dep)) (by decide);exact repr_of_reads' R h.able (PyData.noDict_hsm h.nod) A.hh.2 hu (λ_ _ e=>e) (λh' u tk hk=>.refl (A.has.keep hk) ⟨u,rfl,h.len⟩) (Bd▸h.len)
noncomputable def CS(v:V):Option Int:=match v with|.d x=>(match x with|.int i=>aj i|_=>au)|_=>au
noncomputable def Ct(v:V):Option Str:=match v with|.d x=>(match x with|.str s=>aj s|_=>au)|_=>au
noncomputable def EX(v:V):Option Bool:=match v with|.d x=>(match x with|.bool s=>aj s|_=>au)|_=>au
noncomputable def Yl(xs:List PyData):Option (Str×Int) :=
 match xs with
 |x::y::r=>(match x with|.str a=>(match y with|.int b=>(match r with|[]=>aj (a,b)|_=>au)|_=>au)|_=>au)
 |_=>au
noncomputable def KO(v:V):Option (Str×Int):=match v with|.d x=>(match x with|.tuple xs=>Yl xs|_=>au)|_=>au
noncomputable def Db{α:Type}(f:V->Option α):List V->Option (List α)
 |[]=>aj []
 |v::r=>(f v).bind λx=>(Db f r).bind λxs=>aj (x::xs)
noncomputable def mkL(ws:List V):Option V:=if ws.length<=line then(FM ws).bind λxs=>aj (.d (.list xs)) else au
noncomputable def Go(U:Ac)(v:V):Option Bool :=
 match v with
 |.d x=>(match x with|.none=>aj false|.bool b=>aj b|.int i=>aj (i != 0)|.str s=>aj (s.cps.size != 0)|.list xs=>aj (!xs.isEmpty)|.tuple xs=>aj (!xs.isEmpty)|_=>au)
 |.ref k=>(DE U[k]?).bind λws=>aj (!ws.isEmpty)
 |_=>au
noncomputable def XE(op:Operator)(x y:V)(U:Ac):Option (List V) :=
 match op with
 |.Add=>(A8 U x).bind λws=>(A8 U y).bind λus=>if ws.length+us.length<=line then aj (ws++us) else au
 |_=>au
noncomputable def cM(x y:V)(U:Ac):Option V :=
 match CS x with
 |some i=>(CS y).bind λj=>aj (vi (i+j))
 |none=>(match Ct x with
  |some a=>(Ct y).bind λb=>if a.length+b.length<=line then aj (.d (.str (a++b))) else au
  |none=>(XE .Add x y U).bind mkL)
noncomputable def Lq(f:Int->Int->Option Int)(x y:V):Option V:=(CS x).bind λi=>(CS y).bind λj=>(f i j).bind λk=>aj (vi k)
noncomputable def Hv(op:Operator)(x y:V)(U:Ac):Option V :=
 match op with
 |.Add=>cM x y U
 |.Sub=>Lq (λi j=>aj (i-j)) x y
 |.Mult=>Lq (λi j=>if (small i||small j)=true then aj (i*j) else au) x y
 |.FloorDiv=>Lq (λi j=>if j=0 then au else aj (i.fdiv j)) x y
 |.Mod=>Lq (λi j=>if j=0 then au else aj (i.fmod j)) x y
 |_=>au
noncomputable def HH(o:Option Bool):Option Bool:=o.bind λb=>aj (!b)
noncomputable def eqV(U:Ac)(x y:V):Option Bool:=(snap U x).bind λd=>(snap U y).bind λd'=>eqN AK d d'
noncomputable def fJ(x:V):Option Bool:=match x with|.d u=>(match u with|.none=>aj true|_=>au)|_=>au
noncomputable def isV(x y:V):Option Bool:=match y with|.d z=>(match z with|.none=>bif GZ x then aj false else fJ x|_=>au)|_=>au
noncomputable def Qz(U:Ac)(x y:V):Option Bool:=(snap U x).bind λd=>(snap U y).bind λe=>(match e with|.list ds=>inD d ds|.tuple ds=>inD d ds|_=>au)
noncomputable def inO(U:Ac)(x:V)(k:Nat)(o:Option O):Option Bool :=
 match o with
 |some o=>(match o with
  |.list _=>Qz U x (.ref k)
  |.dictS kvs=>(Ct x).bind λz=>aj (Aq kvs z).isSome
  |.dictP kvs=>(KO x).bind λq=>aj (Aq kvs q).isSome)
 |none=>au
noncomputable def inV(U:Ac)(x y:V):Option Bool :=
 match y with
 |.ref k=>inO U x k U[k]?
 |y=>(match Ct y with|some w=>(Ct x).bind λu=>aj (Txt.contains w u)|none=>Qz U x y)
noncomputable def Vn(f:Int->Int->Bool)(x y:V):Option Bool:=(CS x).bind λi=>(CS y).bind λj=>aj (f i j)
noncomputable def geV(x y:V):Option Bool:=match Ct x with|some a=>(Ct y).bind λb=>aj (!By a b)|none=>Vn (λi j=>decide (i≥j)) x y
noncomputable def BU(op:CmpOp)(x y:V)(U:Ac):Option Bool :=
 match op with
 |.Eq=>eqV U x y
 |.NotEq=>HH (eqV U x y)
 |.Lt=>Vn (λi j=>decide (i<j)) x y
 |.LtE=>Vn (λi j=>decide (i<=j)) x y
 |.Gt=>Vn (λi j=>decide (i>j)) x y
 |.GtE=>geV x y
 |.Is=>isV x y
 |.IsNot=>HH (isV x y)
 |.In=>inV U x y
 |.NotIn=>HH (inV U x y)
noncomputable def nth(ws:List V)(k:Int):Option V:=if small k=true then(seqIndex? k ws.length).bind λj=>ws[j]? else au
noncomputable def Rt(U:Ac)(y:V)(o:Option O):Option V :=
 match o with
 |some o=>(match o with
  |.list ws=>(CS y).bind (nth ws)
  |.dictS kvs=>(Ct y).bind λz=>(Aq kvs z).bind λd=>aj (.d d)
  |.dictP kvs=>(KO y).bind λq=>(Aq kvs q).bind λd=>aj (.d d))
 |none=>au
noncomputable def BK(x y:V)(U:Ac):Option V :=
 match x with
 |.ref k=>Rt U y U[k]?
 |x=>(match Ct x with
  |some z=>(CS y).bind λk=>if small k=true then(Txt.charAt z k).bind λc=>aj (.d (.str (NS c))) else au
  |none=>(match C6 x with
   |some ws=>(CS y).bind (nth ws)
   |none=>(A8 U x).bind λws=>(CS y).bind (nth ws)))
noncomputable def X9(U:Ac)(x:V)(lo hi:Option Int):Option (List V):=(A8 U x).bind λws=>aj (CX lo hi ws)
noncomputable def slice(U:Ac)(x:V)(lo hi:Option Int):Option V :=
 match Ct x with
 |some z=>aj (.d (.str (K9 lo hi z)))
 |none=>(X9 U x lo hi).bind mkL
noncomputable def EF(x:Str):List Str->List Str
 |[]=>[x]
 |y::r=>if By x y then x::y::r else y::EF x r
noncomputable def DQ:List Str->List Str
 |[]=>[]
 |x::r=>EF x (DQ r)
noncomputable def Qp(o:Option O):Option (List V) :=
 match o with
 |some o=>(match o with
  |.list ws=>aj ws
  |.dictS kvs=>if kvs.all (λp=>decide (p.1.length<=line))=true then aj (vss (kvs.map (·.1))) else au
  |.dictP _=>au)
 |none=>au
noncomputable def toList(U:Ac)(x:V):Option (List V):=match x with|.ref k=>Qp U[k]? | x=>A8 U x
noncomputable def Mw(b:Bi)(U:Ac)(x:V):Option (List V) :=
 match b with
 |.list=>toList U x
 |.sorted=>(A8 U x).bind λws=>(Db Ct ws).bind λss=>if ss.length<64 then aj (vss (DQ ss)) else au
 |_=>au
noncomputable def QR(b:Bi)(U:Ac)(xs:List V):Option (List V):=match xs with|x::r=>(match r with|[]=>Mw b U x|_=>au)|[]=>au
noncomputable def ZU(U:Ac)(x:V):Option V :=
 match Ct x with
 |some z=>aj (vi z.cps.size)
 |none=>(match C6 x with
  |some ws=>aj (vi ws.length)
  |none=>(A8 U x).bind λws=>aj (vi ws.length))
noncomputable def Yj(x:V):Option V:=match x with|.d d=>bif Uj d&&Ww d then aj (.d (.str d.shown)) else au|_=>au
noncomputable def Vw(b:Bi)(U:Ac)(x:V):Option V :=
 match b with
 |.len=>ZU U x
 |.str=>(CS x).bind λi=>if i.natAbs<1000000000000 then aj (.d (.str (PL i))) else au
 |.all=>(A8 U x).bind λws=>(Db EX ws).bind λbs=>aj (vb (bs.all id))
 |.any=>(A8 U x).bind λws=>(Db EX ws).bind λbs=>aj (vb (bs.any id))
 |.ord=>(Ct x).bind λz=>(match z.cps.toList with|c::r=>(match r with|[]=>aj (vi c)|_=>au)|[]=>au)
 |.repr=>Yj x
 |b=>(Mw b U x).bind mkL
noncomputable def fG(U:Ac)(x:V)(t:String):Option Bool :=
 (Rq U x).bind λu=>if u=t then(if t = "tuple"\/t = "list"\/t = "str"\/t = "int" then aj true else au) else if u = "int"/\t = "bool" then aj false else au
noncomputable def Vv(b:Bi)(U:Ac)(x y:V):Option V :=
 match b with
 |.min=>Lq (λi j=>aj (if j<i then j else i)) x y
 |.isinstance=>(match y with|.ty t=>(fG U x t).bind λb=>aj (vb b)|_=>au)
 |_=>au
noncomputable def Cl(b:Bi)(U:Ac)(xs:List V):Option V :=
 match xs with
 |[]=>au
 |x::r=>(match r with|[]=>Vw b U x|y::r=>(match r with|[]=>Vv b U x y|_=>au))
noncomputable def wOf(v:V):Option (PyData⊕Nat):=match v with|.d x=>aj (.inl x)|.ref k=>aj (.inr k)|_=>au
noncomputable def We(ws:List V):Option V :=
 if ws.length<=line then(match FM ws with
  |some ds=>aj (.d (.tuple ds))
  |none=>(Db wOf ws).bind λus=>aj (.tup us)) else au
noncomputable def QU:List Str->List Nat->Str->Option Nat
 |a::as,k::ks,nm=>if a==nm then aj k else QU as ks nm
 |_,_,_=>au
noncomputable def XH(nm:Str)(v:V):Option V:=match v with|.obj ks=>(QU Dq ks nm).bind λk=>aj (.ref k)|_=>au
noncomputable def eU(v:V):Option (List Nat):=match v with|.obj ks=>aj ks|_=>au
noncomputable def Yt(U:Ac)(x:V)(ys:List V):Option V :=
 match ys with
 |y::r=>(match r with
  |[]=>(Ct x).bind λz=>(A8 U y).bind λws=>(Db Ct ws).bind λss=>if JoinOk z ss=true then aj (.d (.str (Txt.join z ss))) else au
  |_=>au)
 |[]=>au
noncomputable def Mb(U:Ac)(x:V)(ys:List V):Option V :=
 match ys with
 |y::r=>(match r with
  |[]=>(match x with|.ref k=>(DE U[k]?).bind λws=>(FM ws).bind λds=>(fK y).bind λd=>(inD d ds).bind λ_=>(Jy d ds).bind λj=>aj (vi j)|_=>au)
  |_=>au)
 |[]=>au
noncomputable def Vf(o:Option O)(y z:V):Option V:=match o with|some o=>(match o with|.dictP kvs=>(KO y).bind λq=>aj (dfl (Aq kvs q) z)|_=>au)|none=>au
noncomputable def Y3(U:Ac)(x:V)(ys:List V):Option V:=match ys with|y::r=>(match r with|z::r=>(match r with|[]=>(match x with|.ref k=>Vf U[k]? y z|_=>au)|_=>au)|[]=>au)|[]=>au
noncomputable def Yo(m:S0)(U:Ac)(x:V)(ys:List V):Option V:=match m with|.join=>Yt U x ys|.index=>Mb U x ys|.get=>Y3 U x ys|_=>au
noncomputable def DZ(f:V->Option (Option V)):List V->Option (List V)
 |[]=>aj []
 |v::r=>(f v).bind λx=>(DZ f r).bind λxs=>aj (match x with|some y=>y::xs|none=>xs)
noncomputable def QS(ts:List Nat)(v:V):Bool:=Nat.beq ts.length 1||(match C6 v with|some vs=>Nat.beq vs.length ts.length|none=>false)
noncomputable abbrev Its:=List V×List (Nat×List V)
noncomputable def DI(U:Ac)(v:V):Option Its:=match Ct v with|some z=>if z.cps.all (· < 128)=true then aj (G2 z.cps.toList,[]) else au|none=>(A8 U v).bind λws=>aj (ws,CV v ws)
noncomputable def Tm(xs:List V):Option Its:=match xs with|x::r=>(match r with|[]=>(CS x).bind λk=>if k<=1000000/\-1000000<=k then aj (upV 0 k.toNat,[]) else au|_=>au)|[]=>au
noncomputable def Jr(U:Ac)(v:V):Option (List PyData):=(A8 U v).bind FM
noncomputable def CR(e:E):Bool:=match e with|.var _=>true|.cst _=>true|.sub _ _=>true|.attr _ _=>true|_=>false
noncomputable def bI(e:E):Bool:=match e with|.var _=>true|_=>false
noncomputable def AT(J:Al)(i:Nat):Option V:=match J[i]? with|some o=>o|none=>au
noncomputable abbrev Orc:=Nat->List V->Ac->Option V
structure Ev where
 v:Al->Ac->Option V
 nl:Al->Ac->Option (List V)
 row:Al->Ac->Option (List V)
 it:Al->Ac->Option Its
 t:Al->Ac->Option Bool
 bo:BoolOp->Al->Ac->Option V
 bt:BoolOp->Al->Ac->Option Bool
 ts:Al->Ac->Option Bool
noncomputable def Ev.no:Ev:=⟨λ_ _=>au,λ_ _=>au,λ_ _=>au,λ_ _=>au,λ_ _=>au,λ_ _ _=>au,λ_ _ _=>au,λ_ _=>au⟩
noncomputable def Ev.plain(f:Al->Ac->Option V):Ev:={Ev.no with v:=f,it:=λJ U=>(f J U).bind (DI U),t:=λJ U=>(f J U).bind (Go U)}
noncomputable def Ev.made(f:Al->Ac->Option V)(g:Al->Ac->Option (List V)):Ev:={Ev.plain f with nl:=λJ U=>(g J U).bind λws=>if ws.length<=line then aj ws else au}
noncomputable def Nd(e:E)(f:Al->Ac->Option V)(J:Al)(U:Ac):Option (Option Int):=if BZ e=true then aj au else(f J U).bind λv=>(CS v).bind λi=>aj (aj i)
noncomputable def ev(O:Orc):E->Ev
 |.cst x=>.plain λ_ _=>aj (.d x)
 |.var i=>.plain λJ _=>AT J i
 |.ty t=>.plain λ_ _=>aj (.ty t)
 |.glb x=>.plain λ_ _=>aj (.d x)
 |.bin op a b=>.made (λJ U=>((ev O a).v J U).bind λx=>((ev O b).v J U).bind λy=>Hv op x y U) λJ U=>((ev O a).v J U).bind λx=>((ev O b).v J U).bind λy=>XE op x y U
 |.neg a=>.plain λJ U=>((ev O a).v J U).bind λx=>(CS x).bind λi=>aj (vi (-i))
 |.not a=>{Ev.no with v:=λJ U=>((ev O a).v J U).bind λx=>(Go U x).bind λt=>aj (vb !t),t:=λJ U=>HH ((ev O a).t J U)}
 |.bop op es=>{Ev.no with v:=(ev O es).bo op,t:=(ev O es).bt op}
 |.cmp op a b=>{Ev.no with v:=λJ U=>((ev O a).v J U).bind λx=>((ev O b).v J U).bind λy=>(BU op x y U).bind λt=>aj (vb t),t:=λJ U=>((ev O a).v J U).bind λx=>((ev O b).v J U).bind λy=>BU op x y U}
 |.nil=>{Ev.no with row:=λ_ _=>aj [],bt:=λop _ _=>aj (!Do op),ts:=λ_ _=>aj true}
 |.cons a r=>{Ev.no with
  row:=λJ U=>((ev O a).v J U).bind λx=>((ev O r).row J U).bind λxs=>aj (x::xs)
  bo:=λop J U=>bif BZ r then(ev O a).v J U else((ev O a).v J U).bind λx=>(Go U x).bind λt=>bif t==Do op then aj x else(ev O r).bo op J U
  bt:=λop J U=>((ev O a).t J U).bind λt=>bif t==Do op then aj t else(ev O r).bt op J U
  ts:=λJ U=>((ev O a).t J U).bind λt=>bif t then(ev O r).ts J U else aj false}
 |.tup es=>.plain λJ U=>((ev O es).row J U).bind We
 |.lst es=>.made (λJ U=>((ev O es).row J U).bind mkL) λJ U=>(ev O es).row J U
 |.sub a i=>.plain λJ U=>((ev O a).v J U).bind λx=>((ev O i).v J U).bind λy=>BK x y U
 |.slc a lo hi=>.made (λJ U=>((ev O a).v J U).bind λx=>(Nd lo (ev O lo).v J U).bind λl=>(Nd hi (ev O hi).v J U).bind λh=>slice U x l h) λJ U=>((ev O a).v J U).bind λx=>(Nd lo (ev O lo).v J U).bind λl=>(Nd hi (ev O hi).v J U).bind λh=>X9 U x l h
 |.bi b es=>.made (λJ U=>((ev O es).row J U).bind (Cl b U)) λJ U=>((ev O es).row J U).bind (QR b U)
 |.maxd a z=>.plain λJ U=>((ev O a).v J U).bind λx=>((ev O z).v J U).bind λy=>(CS y).bind λk=>(A8 U x).bind λws=>(Db CS ws).bind λis=>aj (vi (ET k is))
 |.fcall f es=>.plain λJ U=>((ev O es).row J U).bind λxs=>O f xs U
 |.meth m o es=>.plain λJ U=>bif CR o then((ev O o).v J U).bind λx=>((ev O es).row J U).bind λys=>Yo m U x ys else au
 |.attr nm o=>.plain λJ U=>bif bI o then((ev O o).v J U).bind (XH nm) else au
 |.mcall nm o es=>.plain λJ U=>bif CR o then((ev O o).v J U).bind λx=>((ev O es).row J U).bind λys=>(eU x).bind λks=>(mtP nm).bind λf=>O f (.obj ks::ys) U else au
 |.comp elt ts it ifs=>.made (λJ U=>(((ev O it).it J U).bind λp=>DZ (λv=>bif QS ts v then((ev O ifs).ts (Cw (Bp J ts) ts v) U).bind λt=>bif t then((ev O elt).v (Cw (Bp J ts) ts v) U).bind (λu=>aj (aj u)) else aj au else au) p.1).bind mkL)
  λJ U=>((ev O it).it J U).bind λp=>DZ (λv=>bif QS ts v then((ev O ifs).ts (Cw (Bp J ts) ts v) U).bind λt=>bif t then((ev O elt).v (Cw (Bp J ts) ts v) U).bind (λu=>aj (aj u)) else aj au else au) p.1
 |.range es=>{Ev.no with it:=λJ U=>((ev O es).row J U).bind Tm}
 |.zip a b=>{Ev.no with it:=λJ U=>((ev O a).v J U).bind λx=>((ev O b).v J U).bind λy=>(A8 U x).bind λds=>(A8 U y).bind λds'=>aj (It ds ds',CV x ds++CV y ds')}
 |.enum a=>{Ev.no with it:=λJ U=>((ev O a).v J U).bind λx=>(Jr U x).bind λds=>aj (Hq 0 ds,CV x (ds.map .d))}
 |_=>Ev.no
section
variable{ws us:List V}{b:Bool}{i:Int}
theorem BC(h:CS v=aj i):v=vi i:=by
 cases v with
 |d x=>cases x with
  |int j=>rw[AAA h]
  |_=>exact Aa h
 |_=>exact Aa h
theorem BE(h:Ct v=aj z):v=.d (.str z):=by
 cases v with
 |d x=>cases x with
  |str j=>rw[AAA h]
  |_=>exact Aa h
 |_=>exact Aa h
theorem NV(h:EX v=aj b):v=vb b:=by
 cases v with
 |d x=>cases x with
  |bool j=>rw[AAA h]
  |_=>exact Aa h
 |_=>exact Aa h
theorem Tq(h:Yl xs=aj q):xs=[.str q.1,.int q.2]:=by
 match xs,h with
 |[],h=>exact Aa h
 |[_],h=>exact Aa h
 |x::y::r,h=>cases x with
  |str a=>cases y with
   |int b=>cases r with
    |nil=>rw[<-AAA h]
    |cons _ _=>exact Aa h
   |_=>exact Aa h
  |_=>exact Aa h
theorem Fs(h:KO v=aj q):v=vp q:=by
 cases v with
 |d x=>cases x with
  |tuple j=>rw[Tq h]
  |_=>exact Aa h
 |_=>exact Aa h
theorem ED{α:Type}{f:V->Option α}{g:α->V}(hf:∀v x,f v=aj x->v=g x):∀{ws:List V} {xs:List α},Db f ws=aj xs->ws=xs.map g
 |[],_,h=>by rw[<-AAA h];rfl
 |v::r,xs,h=>by exact oEA (ac h) λx e h=>oEA (ac h) λys e' h=>(AAA h)▸(hf v x e)▸(ED hf e')▸rfl
theorem Jk(h:mkL ws=aj v):∃ds,ws=ds.map .d/\ws.length<=line/\v=.d (.list ds):=by
 unfold mkL at h;by_cases q:ws.length<=line
 ·rw[if_pos q] at h;exact oEA (ac h) λds e h=>AB ds (Hz e) q ((AAA h).symm)
 ·rw[if_neg q] at h;exact Aa h
theorem L8(h:Tr U v b)(e:b=b'):Tr U v b':=e▸h
theorem HM{α β:Type}{f:α->β}(l:List α):(!(l.map f).isEmpty) = !l.isEmpty:=by cases l<;>rfl
theorem C8(h:Go U v=aj b):Tr U v b:=by
 cases v with
 |d x=>cases x with
  |none=>exact AAA h▸Wf
  |bool b=>exact AAA h▸PI
  |int i=>exact AAA h▸Zz
  |str s=>exact AAA h▸Zy
  |list xs=>exact L8 (PH rfl) ((HM xs).trans (AAA h))
  |tuple xs=>exact L8 (Zx rfl) ((HM xs).trans (AAA h))
  |_=>exact Aa h
 |ref k =>
  exact oEA (ac h) λws e h=>L8 (PH e) (AAA h)
 |_=>exact Aa h
theorem IG(h:XE op x y U=aj ws):cN (binaryOp op) x y U ws:=by
 cases op with
 |Add =>
  exact oEA (ac h) λus e h=>oEA (ac h) λus' e' h=>oA (Bo h) λq h=>h▸Ts e e' q
 |_=>exact Aa h
theorem FJ(hf:∀i j k,f i j=aj k->Pr2 m (vi i) (vi j) U (vi k) U l)(h:Lq f x y=aj v):Pr2 m x y U v U l:=by exact oEA (ac h) λi e h=>oEA (ac h) λj e' h=>oEA (ac h) λk e2 h=>(BC e)▸(BC e')▸(AAA h)▸hf i j k e2
theorem Hi{α:Type}{c:Prop}[Decidable c]{a b:α}(h:(if c then au else aj a)=aj b):¬ c/\a=b:=by
 by_cases hc:c
 ·rw[if_pos hc] at h;exact Aa h
 ·rw[if_neg hc] at h;exact⟨hc,AAA h⟩
theorem Vr(h:Hv op x y U=aj v):Pr2 (binaryOp op) x y U v U\/∃ws,XE op x y U=aj ws/\mkL ws=aj v:=by
 cases op with
 |Add =>
  have h:cM x y U=aj v:=h;unfold cM at h;cases e:CS x with
  |some i =>
   rw[e] at h;exact oEA (ac h) λj e' h=>(BC e)▸(BC e')▸(AAA h)▸.inl eQ
  |none =>
   rw[e] at h;cases e':Ct x with
   |some a =>
    rw[e'] at h;exact oEA (ac h) λb e2 h=>oA (Bo h) λq h=>(BE e')▸(BE e2)▸h▸.inl (eP q)
   |none=>rw[e'] at h;exact .inr (ac h)
 |Sub=>exact .inl (FJ (λi j k e=>AAA e▸eA) h)
 |Mult=>exact .inl (FJ (f:=λi j=>if (small i||small j)=true then aj (i*j) else au) (λi j k e=>(Bo e).2▸eB (Bo e).1) h)
 |FloorDiv=>exact .inl (FJ (f:=λi j=>if j=0 then au else aj (i.fdiv j)) (λi j k e=>(Hi e).2▸eO (Hi e).1) h)
 |Mod=>exact .inl (FJ (f:=λi j=>if j=0 then au else aj (i.fmod j)) (λi j k e=>(Hi e).2▸eG (Hi e).1) h)
 |_=>exact Aa h
theorem ID(h:HH o=aj b):∃c,o=aj c/\b = !c:=by exact oEA (ac h) λc e h=>iEA c e ((AAA h).symm)
theorem Va(h:eqV U x y=aj b):Pr2 (compareOp .Eq) x y U (vb b) U/\Pr2 (compareOp .NotEq) x y U (vb !b) U:=by exact oEA (ac h) λd e h=>oEA (ac h) λd' e' h=>⟨oV e e' h,oK e e' h⟩
theorem Ug(h:isV x y=aj b):Pr2 (compareOp .Is) x y U (vb b) U/\Pr2 (compareOp .IsNot) x y U (vb !b) U:=by
 cases y with
 |d z=>cases z with
  |none =>
   have h:(bif GZ x then aj false else fJ x)=aj b:=h;cases q:GZ x with
   |true=>rw[q] at h;rw[<-AAA h];exact eI q
   |false =>
    rw[q] at h;cases x with
    |d u=>cases u with
     |none=>rw[<-AAA h];exact oP
     |_=>exact Aa h
    |_=>exact Aa h
  |_=>exact Aa h
 |_=>exact Aa h
theorem N3(h:Qz U x y=aj b):Pr2 (compareOp .In) x y U (vb b) U/\Pr2 (compareOp .NotIn) x y U (vb !b) U:=by
 refine oEA (ac h) λd e h=>oEA (ac h) λd' e' h=>?_;cases d' with
 |list ds=>exact Us e (.inl e') h
 |tuple ds=>exact Us e (.inr e') h
 |_=>exact Aa h
theorem G7(h:(match Ct y with|some w=>(Ct x).bind λu=>aj (Txt.contains w u)|none=>Qz U x y)=aj b):Pr2 (compareOp .In) x y U (vb b) U/\Pr2 (compareOp .NotIn) x y U (vb !b) U:=by
 cases e:Ct y with
 |some w =>
  rw[e] at h;exact oEA (ac h) λu e' h=>(BE e)▸(BE e')▸(AAA h)▸eJ
 |none=>rw[e] at h;exact N3 h
theorem Ux(h:inV U x y=aj b):Pr2 (compareOp .In) x y U (vb b) U/\Pr2 (compareOp .NotIn) x y U (vb !b) U:=by
 cases y with
 |ref k =>
  have h:inO U x k U[k]? = aj b:=h;cases e:U[k]? with
  |none=>rw[e] at h;exact Aa h
  |some o =>
   rw[e] at h;cases o with
   |list ws=>exact N3 h
   |dictS kvs=>refine oEA (ac h) λu e' h=>?_;rw[BE e',<-AAA h];exact eK e
   |dictP kvs=>refine oEA (ac h) λu e' h=>?_;rw[Fs e',<-AAA h];exact eM e
 |d z=>exact G7 h
 |tup z=>exact G7 h
 |pr _ _=>exact G7 h
 |ty z=>exact G7 h
 |obj z=>exact G7 h
 |exc z=>exact G7 h
 |ecl z=>exact G7 h
theorem IF(hf:∀i j,Pr2 m (vi i) (vi j) U (vb (f i j)) U)(h:Vn f x y=aj b):Pr2 m x y U (vb b) U:=by exact oEA (ac h) λi e h=>oEA (ac h) λj e' h=>(BC e)▸(BC e')▸(AAA h)▸hf i j
theorem Ew(h:BU op x y U=aj b):Pr2 (compareOp op) x y U (vb b) U:=by
 cases op with
 |Eq=>exact(Va h).1
 |NotEq=>refine oEA (ID h) λc e q_2=>?_;subst q_2;exact(Va e).2
 |Lt=>exact IF (λ_ _=>oM) h
 |LtE=>exact IF (λ_ _=>oO) h
 |Gt=>exact IF (λ_ _=>oQ) h
 |GtE =>
  have h:geV x y=aj b:=h;unfold geV at h;cases e:Ct x with
  |some a =>
   rw[e] at h;exact oEA (ac h) λb' e2 h=>(BE e)▸(BE e2)▸(AAA h)▸eN
  |none=>rw[e] at h;exact IF (λ_ _=>oU) h
 |Is=>exact(Ug h).1
 |IsNot=>refine oEA (ID h) λc e q_2=>?_;subst q_2;exact(Ug e).2
 |In=>exact(Ux h).1
 |NotIn=>refine oEA (ID h) λc e q_2=>?_;subst q_2;exact(Ux e).2
theorem Nj(h:nth ws k=aj v):small k=true/\∃j,seqIndex? k ws.length=aj j/\ws[j]? = aj v:=by
 unfold nth at h;by_cases q:small k=true
 ·rw[if_pos q] at h;exact⟨q,ac h⟩
 ·rw[if_neg q] at h;exact Aa h
theorem Qd(e:A8 U x=aj ws)(h:(CS y).bind (nth ws)=aj v):PrG x y U v:=by exact oEA (ac h) λk e' h=>WA (Nj h) λq j h1 h2=>(BC e')▸bS e q h1 h2
theorem E9 (h:(match Ct x with
 |some z=>(CS y).bind λk=>if small k=true then(Txt.charAt z k).bind λc=>aj (.d (.str (NS c))) else au
 |none=>(match C6 x with
  |some ws=>(CS y).bind (nth ws)
  |none=>(A8 U x).bind λws=>(CS y).bind (nth ws)))=aj v):PrG x y U v:=by
 cases e:Ct x with
 |some z =>
  rw[e] at h;refine oEA (ac h) λk e' h=>?_;by_cases q:small k=true
  ·rw[if_pos q] at h;exact oEA (ac h) λc e2 h=>(BE e)▸(BC e')▸(AAA h)▸fW q e2
  ·rw[if_neg q] at h;exact Aa h
 |none =>
  rw[e] at h;cases e2:C6 x with
  |some ws =>
   rw[e2] at h;exact oEA (ac h) λk e' h=>WA (Nj h) λq j h1 h2=>(BC e')▸fV e2 q h1 h2
  |none=>rw[e2] at h;refine oEA (ac h) λws e3 h=>?_;exact Qd e3 h
theorem FT(h:BK x y U=aj v):PrG x y U v:=by
 cases x with
 |ref k =>
  have h:Rt U y U[k]? = aj v:=h;cases e:U[k]? with
  |none=>rw[e] at h;exact Aa h
  |some o =>
   rw[e] at h;cases o with
   |list ws=>exact Qd (by show DE U[k]? = _;rw[e];rfl) h
   |dictS kvs =>
    exact oEA (ac h) λu e' h=>oEA (ac h) λd e2 h=>(BE e')▸(AAA h)▸Xn e e2
   |dictP kvs =>
    exact oEA (ac h) λu e' h=>oEA (ac h) λd e2 h=>(Fs e')▸(AAA h)▸Xo e e2
 |d z=>exact E9 h
 |tup z=>exact E9 h
 |pr _ _=>exact E9 h
 |ty z=>exact E9 h
 |obj z=>exact E9 h
 |exc z=>exact E9 h
 |ecl z=>exact E9 h
theorem QP(h:X9 U x lo hi=aj ws):PrC x U lo hi λr g=>Cg r g U ws:=by exact oEA (ac h) λus e h=>AAA h▸cH e
theorem SJ(h:slice U x lo hi=aj v):(PrC x U lo hi λr g=>Ans r g v U)\/∃ws,X9 U x lo hi=aj ws/\mkL ws=aj v:=by
 unfold slice at h;cases e:Ct x with
 |some z=>rw[e] at h;rw[BE e,<-AAA h];exact .inl gP
 |none=>rw[e] at h;exact .inr (ac h)
theorem F7(x:Str):∀l:List Str,(EF x l).Perm (x::l)
 |[]=>.refl _
 |y::r=>by
  show(if By x y=true then x::y::r else y::EF x r).Perm _;by_cases q:By x y=true
  ·rw[if_pos q]
  ·exact(if_neg q)▸(List.Perm.cons y (F7 x r)).trans (.swap ..)
theorem GO:∀l:List Str,(DQ l).Perm l
 |[]=>.refl _
 |x::r=>(F7 x _).trans (.cons x (GO r))
theorem ON{a b:Str}(h:By a b=true):By b a=false:=AAT λq=>List.lt_irrefl _ (List.lt_trans (AAG h) q)
theorem TN{a b c:Str}(h1:By a b=true)(h2:By c b=false):By c a=false:=AAT λq=>ABG h2 (List.lt_trans q (AAG h1))
theorem Gu(x:Str):∀l:List Str,Eg l->Eg (EF x l)
 |[],_=>List.pairwise_singleton ..
 |y::r,h=>by
  have h1:=ACO.mp h;show Eg (if By x y=true then x::y::r else y::EF x r);by_cases q:By x y=true
  ·rw[if_pos q];refine ACO.mpr ⟨λw hw=>?_,h⟩;rcases AAR.mp hw with rfl|hw
   ·exact ON q
   ·exact TN q (h1.1 w hw)
  ·rw[if_neg q];refine ACO.mpr ⟨λw hw=>?_,Gu x r h1.2⟩;rcases AAR.mp ((F7 x r).mem_iff.mp hw) with rfl|hw
   ·rw[Bool.not_eq_true] at q;exact q
   ·exact h1.1 w hw
theorem D6:∀l:List Str,Eg (DQ l)
 |[]=>.nil
 |x::r=>Gu x _ (D6 r)
theorem Rr(h:toList U x=aj ws):M5 (λX=>call (AZ .list) [X]) x U ws 3:=by
 cases x with
 |ref k =>
  have h:Qp U[k]? = aj ws:=h;cases e:U[k]? with
  |none=>rw[e] at h;exact Aa h
  |some o =>
   rw[e] at h;cases o with
   |list us=>rw[<-AAA h];exact(US (by show DE U[k]? = _;rw[e];rfl)).up
   |dictS kvs =>
    exact oA (Bo h) λq h=>h▸(X3 e λp hp=>AAG (ACH.mp q p hp))
   |dictP kvs=>exact Aa h
 |d z=>exact(US (x:=.d z) h).up
 |tup z=>exact Aa h
 |pr _ _=>exact Aa h
 |ty z=>exact Aa h
 |obj z=>exact Aa h
 |exc z=>exact Aa h
 |ecl z=>exact Aa h
theorem Ll{b:Bi}(h:Mw b U x=aj ws):M5 (λX=>call (AZ b) [X]) x U ws 3:=by
 cases b with
 |list=>exact Rr h
 |sorted =>
  exact oEA (ac h) λus e h=>oEA (ac h) λss e' h=>oA (Bo h) λq h=>h▸(UR (e.trans (congrArg aj (ED (λ_ _=>BE) e'))) q (GO ss) (D6 ss)).up
 |_=>exact Aa h
theorem LV(h:ZU U x=aj v):Pr1 (λX=>call (AZ .len) [X]) x U v U:=by
 unfold ZU at h;cases e:Ct x with
 |some z=>rw[e] at h;rw[BE e,<-AAA h];exact bW
 |none =>
  rw[e] at h;cases e2:C6 x with
  |some ws=>rw[e2] at h;rw[<-AAA h];exact bV e2
  |none=>rw[e2] at h;refine oEA (ac h) λws e3 h=>?_;rw[<-AAA h];exact gE e3
theorem ZF(h:(match z.cps.toList with|c::r=>(match r with|[]=>aj (vi c)|_=>au)|[]=>au)=aj v):Pr1 (λX=>call (AZ .ord) [X]) (.d (.str z)) U v U:=by
 match e:z.cps.toList,h with
 |[],h=>exact Aa h
 |[c],h =>
  exact(AAA h)▸(show z=NS c by rw[show z=⟨z.cps⟩ from rfl,<-Array.toArray_toList (xs:=z.cps),e];rfl)▸gC
 |_::_::_,h=>exact Aa h
theorem FI{α:Type}{c:Bool}{o:Option α}{y:α}(h:(bif c then o else au)=aj y):c=true/\o=aj y:=by cases c with|true=>exact⟨rfl,h⟩|false=>exact Aa h
theorem Ti(h:Yj x=aj v):Pr1 (λX=>call (AZ .repr) [X]) x U v U:=by
 cases x with
 |d y =>
  exact oA (FI h) λq h=>AAA h▸bU (AAH.mp q).1 (PO.mp (AAH.mp q).2)
 |_=>exact Aa h
theorem Sw{b:Bi}(h:Vw b U x=aj v):Pr1 (λX=>call (AZ b) [X]) x U v U 3\/∃ws,Mw b U x=aj ws/\mkL ws=aj v:=by
 cases b with
 |len=>exact .inl (LV h).up
 |str =>
  exact oEA (ac h) λi e h=>oA (Bo h) λq h=>(BC e)▸h▸.inl (gB q).up
 |all =>
  exact oEA (ac h) λus e h=>oEA (ac h) λss e' h=>(AAA h)▸.inl (gI (e.trans (congrArg aj (ED (λ_ _=>NV) e'))))
 |any =>
  exact oEA (ac h) λus e h=>oEA (ac h) λss e' h=>(AAA h)▸.inl (gH (e.trans (congrArg aj (ED (g:=λy=>.d (.bool y)) (λ_ _=>NV) e'))))
 |ord =>
  exact oEA (ac h) λz e h=>(BE e)▸.inl (ZF h).up
 |repr=>exact .inl (Ti h).up
 |_=>exact .inr (ac h)
theorem RT(h:Rq U x=aj "int"):∃i,x=vi i:=by
 cases x with
 |d y=>cases y with
  |int i=>exact⟨i,rfl⟩
  |none=>exact Aa h
  |dict _=>exact Aa h
  |_=>exact absurd (AAA h) (by decide)
 |tup _=>exact absurd (AAA h) (by decide)
 |ref k=>refine oEA (ac h) λ_ _ h=>?_;exact absurd (AAA h) (by decide)
 |_=>exact Aa h
theorem Xc(h:fG U x t=aj b):Pr2 (λX Y=>call (AZ .isinstance) [X,Y]) x (.ty t) U (vb b) U:=by
 refine oEA (ac h) λu e h=>?_;by_cases q:u=t
 ·rw[if_pos q] at h;refine oA (Bo h) λq' h2=>?_;subst q;rw[<-h2];rcases q' with q'|q'|q'|q'
  ·subst q';exact QG e (by kernel_rfl) (by rw[isSubtype_type];kernel_rfl)
  ·subst q';exact QG e (by kernel_rfl) (by rw[isSubtype_type];kernel_rfl)
  ·subst q';exact QG e (by kernel_rfl) (by rw[isSubtype_type];kernel_rfl)
  ·subst q';exact QG e (by kernel_rfl) (by rw[isSubtype_type];kernel_rfl)
 ·rw[if_neg q] at h;refine oA (Bo h) λq_0 h2=>?_;obtain⟨q1,q2⟩:=q_0;subst q1 q2;refine oE (RT e) λi q_1=>?_;subst q_1;exact h2▸bY
theorem Sv{b:Bi}(h:Vv b U x y=aj v):Pr2 (λX Y=>call (AZ b) [X,Y]) x y U v U 3:=by
 cases b with
 |min=>exact FJ (λi j k e=>AAA e▸gD) h
 |isinstance =>
  cases y with
  |ty t=>refine oEA (ac h) λb e h=>?_;rw[<-AAA h];exact(Xc e).up
  |_=>exact Aa h
 |_=>exact Aa h
theorem Zt(h:wOf v=aj u):v=wv u:=by
 cases v with
 |d x=>rw[<-AAA h];rfl
 |ref k=>rw[<-AAA h];rfl
 |_=>exact Aa h
theorem Oa:∀{as:List Str} {ks:List Nat} {k:Nat},QU as ks nm=aj k->∃f:Nat,as[f]? = aj nm/\ks[f]? = aj k
 |[],_,_,h=>Aa h
 |_::_,[],_,h=>Aa h
 |a::as,k'::ks,k,h=>by
  have h:(if (a==nm)=true then aj k' else QU as ks nm)=aj k:=h;by_cases q:(a==nm)=true
  ·rw[if_pos q] at h;exact iEA 0 ((ABM q)▸rfl) h
  ·rw[if_neg q] at h;exact oEA (Oa h) λf h1 h2=>iEA (f+1) h1 h2
theorem Vs(h:QS ts v=true):FH ts v:=by
 rcases ABC.mp h with q|q
 ·exact .inl (ADH q)
 ·cases e:C6 v with
  |none=>rw[e] at q;exact ff_ q
  |some vs=>rw[e] at q;exact .inr (iEA vs e (ADH q))
end
structure CY(n:Nat)(e:E)(w:Ev):Prop where
 v:∀{J U x},w.v J U=aj x->SE (n+3) e J U x U
 nl:∀{J U ws},w.nl J U=aj ws->SL (n+3) e J U ws U
 row:∀{J U xs},w.row J U=aj xs->SEs (n+3) e J U xs U
 it:∀{J U p},w.it J U=aj p->SI (n+3) e J U p.1 p.2 U/\Cs U p.2
 t:∀{J U b},w.t J U=aj b->ST (n+3) e J U b U
 bo:∀{op J U x},w.bo op J U=aj x->SB (n+3) op e J U x U
 bt:∀{op J U b},w.bt op J U=aj b->SBt (n+3) op e J U b U
 ts:∀{J U b},w.ts J U=aj b->SIf (n+3) e J U b U
noncomputable def LY(e:E):Bool:=match e with|.not _=>true|.bop _ _=>true|.cmp _ _ _=>true|_=>false
theorem GL(e:E)(hp:LY e=false)(h:IsE e K ex):∀env w,isTrue ex env w=(w>>=λv=>standAt ex.pos>>=λ_=>holding [v] (truthy v)):=by
 cases e with
 |nil=>exact h.elim
 |cons _ _=>exact h.elim
 |not _=>exact tt_ hp
 |bop _ _=>exact tt_ hp
 |cmp _ _ _=>exact tt_ hp
 |_=>exact h (λex=>∀env w,isTrue ex env w=(w>>=λv=>standAt ex.pos>>=λ_=>holding [v] (truthy v))) (by intros;rfl)
theorem EE(h:A8 U v=aj ws):Cs U (CV v ws):=λk us m=>by
 cases v with
 |ref j =>
  refine oA (ABK (AAJ.mp m)) λq_0 q_1=>?_;subst q_0;subst q_1;exact Dc h
 |_=>exact nomatch m
theorem Ud(hz:BP e=false)(h:SE (n+3) e J U v U)(hv:DI U v=aj p):SI (n+3) e J U p.1 p.2 U/\Cs U p.2:=by
 unfold DI at hv;cases q:Ct v with
 |some z =>
  rw[q] at hv;refine oA (Bo hv) λha hv=>?_;rw[BE q] at h;exact hv▸⟨SI.str (ACG 3 n) h ha hz,λ_ _ m=>nomatch m⟩
 |none =>
  rw[q] at hv;exact oEA (ac hv) λws e1 hv=>AAA hv▸⟨.lst h e1 hz,EE e1⟩
theorem CY.plain(h:∀{J U x},f J U=aj x->SE (n+3) e J U x U)(hl:LY e=false:=by rfl)(hz:BP e=false:=by rfl):CY n e (.plain f) where
 v:=h
 nl:=λh=>Aa h
 row:=λh=>Aa h
 it:=λq=>by refine oEA (ac q) λx e1 q=>?_;exact Ud hz (h e1) q
 t:=λq=>by refine oEA (ac q) λx e1 q=>?_;exact ST.plain (λhc=>GL e hl hc) (h e1) (C8 q)
 bo:=λh=>Aa h
 bt:=λh=>Aa h
 ts:=λh=>Aa h
theorem CY.made(h:∀{J U x},f J U=aj x->SE (n+3) e J U x U)(hg:∀{J U ws},g J U=aj ws->ws.length<=line->SL (n+3) e J U ws U)(hl:LY e=false:=by rfl)(hz:BP e=false:=by rfl):CY n e (.made f g) :=
 {CY.plain h hl hz with nl:=λq=>by refine oEA (ac q) λus e1 q=>?_;refine oA (Bo q) λq1 q2=>?_;exact q2▸hg e1 q1}
theorem GA(h:SL (n+3) e J U ws U)(hv:mkL ws=aj v):SE (n+3) e J U v U:=by refine AS (Jk hv) λds e _ q_3=>?_;subst q_3;rw[e] at h;exact SE.frz h
theorem CY.no:CY n e .no:=⟨λh=>Aa h,λh=>Aa h,λh=>Aa h,λh=>Aa h,λh=>Aa h,λh=>Aa h,λh=>Aa h,λh=>Aa h⟩
theorem HG(h:∀{J U x},f J U=aj x->SE (n+3) e J U x U)(q:Nd e f J U=aj l):SO (n+3) e J U l U:=by
 unfold Nd at q;by_cases c:BZ e=true
 ·rw[if_pos c] at q;rw[<-AAA q];cases e with
  |nil=>exact .none
  |_=>exact ff_ c
 ·rw[if_neg c] at q;exact oEA (ac q) λy e1 q=>oEA (ac q) λi e2 q=>(AAA q)▸.some (Bool.not_eq_true _▸c) (BC e2▸h e1)
theorem Ey(h:CR e=true):EZ e:=by
 cases e with
 |var _=>exact Ai
 |cst _=>exact Sy
 |sub _ _=>exact Sx
 |attr _ _=>exact Kh
 |_=>exact ff_ h
theorem DL(h1:CY n elt w1)(h2:CY n ifs w2)(hk:Cs U kps):∀{vs ws:List V},DZ (λv=>bif QS ts v then(w2.ts (Cw (Bp J ts) ts v) U).bind λt=>bif t then(w1.v (Cw (Bp J ts) ts v) U).bind (λu=>aj (aj u)) else aj au else au) vs=aj ws->Gx (n+3) elt ts ifs kps J U vs U ws
 |[],ws,h=>⟨hk,(AAA h).symm,rfl⟩
 |v::vs,ws,h=>by
  refine oEA (ac h) λo e1 h=>oEA (ac h) λus e2 h=>oA (FI e1) λhb e1=>oEA (ac e1) λt e3 e1=>⟨hk,(Vs hb).at (ACG 3 n),t,U,h2.ts e3,λq=>?_,λq=>?_⟩
  ·subst q;rw[<-AAA e1] at h;exact(AAA h)▸DL h1 h2 hk e2
  ·subst q;refine oEA (ac e1) λu e4 e1=>?_;rw[<-AAA e1] at h;exact DJ u us U (h1.v e4) ((AAA h).symm) (DL h1 h2 hk e2)
theorem Jq(h:Jr U v=aj ds):A8 U v=aj (ds.map .d):=by refine oEA (ac h) λws e1 h=>?_;rw[e1,Hz h]
section
variable{n:Nat}{O:Orc}(hO:∀f xs U v,O f xs U=aj v->FA (n+3) f xs U v U)
include hO
theorem X4(hb:CR o=true)(h1:SE (n+3) o J U x U)(h2:SEs (n+3) es J U ys U)(h:Yo m U x ys=aj v):SE (n+3) (.meth m o es) J U v U:=by
 cases m with
 |join =>
  have h:=h
  match ys,h with
  |[],h=>exact Aa h
  |[y],h =>
   refine oEA (ac h) λz e1 h=>oEA (ac h) λws e2 h=>oEA (ac h) λss e3 h=>oA (Bo h) λq h=>?_;rw[BE e1] at h1;exact h▸SE.join (Ey hb) (e2.trans (congrArg aj (ED (λ_ _=>BE) e3))) q h1 h2
  |_::_::_,h=>exact Aa h
 |index =>
  have h:=h
  match ys,h with
  |[],h=>exact Aa h
  |[y],h =>
   cases x with
   |ref k =>
    refine oEA (ac h) λws e1 h=>oEA (ac h) λds e2 h=>oEA (ac h) λd e3 h=>oEA (ac h) λq e4 h=>oEA (ac h) λj e5 h=>?_;have hy:y=.d d:=by cases y with|d z=>rw[AAA e3]|_=>exact Aa e3
    rw[hy] at h2;rw[Hz e2] at e1;exact AAA h▸SE.lmeth (Ey hb) F.slot_list_index F.type_list_index h1 h2 (Dc e1) (Dc e1) (WJ e4 e5)
   |_=>exact Aa h
  |_::_::_,h=>exact Aa h
 |get =>
  have h:=h
  match ys,h with
  |[],h=>exact Aa h
  |[_],h=>exact Aa h
  |[y,z],h =>
   cases x with
   |ref k =>
    have h:Vf U[k]? y z=aj v:=h;cases e:U[k]? with
    |none=>rw[e] at h;exact Aa h
    |some o =>
     rw[e] at h;cases o with
     |dictP kvs =>
      refine oEA (ac h) λq e1 h=>?_;rw[Fs e1] at h2;exact AAA h▸SE.getP (Ey hb) h1 h2 e e
     |_=>exact Aa h
   |_=>exact Aa h
  |_::_::_::_,h=>exact Aa h
 |_=>exact Aa h
theorem Ad:∀e:E,CY n e (ev O e)
 |.cst x=>.plain λh=>AAA h▸.cst x
 |.var i=>.plain λ{J U x} h=>.var (by
  have h:(match J[i]? with|some o=>o|none=>au)=aj x:=h;cases e:J[i]? with
  |none=>rw[e] at h;exact Aa h
  |some o=>rw[e] at h;rw[show o=aj x from h])
 |.ty t=>.plain λh=>AAA h▸.ty
 |.glb x=>.plain λh=>AAA h▸.glb
 |.bin op a b=>.made (λh=>by
  refine oEA (ac h) λx e1 h=>oEA (ac h) λy e2 h=>?_;rcases Vr h with q|⟨ws,q1,q2⟩
  ·exact .bin ((Ad a).v e1) ((Ad b).v e2) q
  ·exact GA (.bin ((Ad a).v e1) ((Ad b).v e2) (IG q1)) q2) λh hl=>by
  exact oEA (ac h) λx e1 h=>oEA (ac h) λy e2 h=>.bin ((Ad a).v e1) ((Ad b).v e2) (IG h)
 |.neg a=>.plain λh=>by exact oEA (ac h) λx e1 h=>oEA (ac h) λi e2 h=>AAA h▸.neg (BC e2▸(Ad a).v e1)
 |.not a=>{CY.no with
  v:=λh=>by exact oEA (ac h) λx e1 h=>oEA (ac h) λt e2 h=>AAA h▸.not ((Ad a).v e1) (C8 e2)
  t:=λh=>by refine oEA (ID h) λc e1 e2=>?_;exact e2▸.not ((Ad a).t e1)}
 |.bop op es=>{CY.no with v:=λh=>.bop ((Ad es).bo h),t:=λh=>.bop ((Ad es).bt h)}
 |.cmp op a b=>{CY.no with
  v:=λh=>by exact oEA (ac h) λx e1 h=>oEA (ac h) λy e2 h=>oEA (ac h) λt e3 h=>AAA h▸.cmp ((Ad a).v e1) ((Ad b).v e2) (Ew e3)
  t:=λh=>by refine oEA (ac h) λx e1 h=>oEA (ac h) λy e2 h=>?_;exact .cmp ((Ad a).v e1) ((Ad b).v e2) (Ew h)}
 |.nil=>{CY.no with row:=λh=>AAA h▸.nil,bt:=λh=>AAA h▸.nil,ts:=λh=>AAA h▸.nil}
 |.cons a r=>{CY.no with
  row:=λh=>by exact oEA (ac h) λx e1 h=>oEA (ac h) λxs e2 h=>AAA h▸.cons ((Ad a).v e1) ((Ad r).row e2)
  bo:=λ{op J U x} h=>by
   have h:(bif BZ r then(ev O a).v J U else((ev O a).v J U).bind λx=>(Go U x).bind λt=>bif t==Do op then aj x else(ev O r).bo op J U)=aj x:=h;cases q:BZ r with
   |true =>
    rw[q] at h;have e:r=.nil:=by cases r with|nil=>rfl|_=>exact ff_ q
    exact e▸.one ((Ad a).v h)
   |false =>
    rw[q] at h;refine oEA (ac h) λy e1 h=>oEA (ac h) λt e2 h=>.more q ((Ad a).v e1) (C8 e2) (λc=>?_) λc=>?_
    ·rw[beq_iff_eq.mpr c] at h;exact⟨(AAA h).symm,rfl⟩
    ·rw[beq_eq_false_iff_ne.mpr c] at h;exact(Ad r).bo h
  bt:=λ{op J U b} h=>by
   refine oEA (ac h) λt e1 h=>.cons ((Ad a).t e1) (λc=>?_) λc=>?_
   ·rw[beq_iff_eq.mpr c] at h;exact⟨(AAA h).symm,rfl⟩
   ·rw[beq_eq_false_iff_ne.mpr c] at h;exact(Ad r).bt h
  ts:=λ{J U b} h=>by
   refine oEA (ac h) λt e1 h=>?_;cases t with
   |true=>exact .cons ((Ad a).t e1) ((Ad r).ts h)
   |false=>exact AAA h▸.no ((Ad a).t e1)}
 |.tup es=>.plain λ{J U x} h=>by
  refine oEA (ac h) λws e1 h=>?_;unfold We at h;by_cases q:ws.length<=line
  ·rw[if_pos q] at h;cases e2:FM ws with
   |some ds =>
    rw[e2] at h;have e4:=(Ad es).row e1;rw[(Hz e2)] at e4 q;rw[AAB] at q;exact AAA h▸.tup e4 q
   |none =>
    rw[e2] at h;refine oEA (ac h) λus e3 h=>?_;have e4:=(Ad es).row e1;rw[ED (λ_ _=>Zt) e3] at e4 q;rw[AAB] at q;exact AAA h▸.tupR e4 q
  ·rw[if_neg q] at h;exact Aa h
 |.lst es=>.made (λh=>by refine oEA (ac h) λws e1 h=>AS (Jk h) λ_ _ q _=>?_;exact GA (.lst ((Ad es).row e1) q) h) λh hl=>.lst ((Ad es).row h) hl
 |.sub a i=>.plain λh=>by exact oEA (ac h) λx e1 h=>oEA (ac h) λy e2 h=>.sub ((Ad a).v e1) ((Ad i).v e2) (FT h)
 |.slc a lo hi=>.made (λh=>by
  refine oEA (ac h) λx e1 h=>oEA (ac h) λl e2 h=>oEA (ac h) λu e3 h=>?_;rcases SJ h with q|⟨ws,q1,q2⟩
  ·exact .slc ((Ad a).v e1) (HG (Ad lo).v e2) (HG (Ad hi).v e3) q
  ·exact GA (.slc ((Ad a).v e1) (HG (Ad lo).v e2) (HG (Ad hi).v e3) (QP q1)) q2) λh hl=>by
  exact oEA (ac h) λx e1 h=>oEA (ac h) λl e2 h=>oEA (ac h) λu e3 h=>.slc ((Ad a).v e1) (HG (Ad lo).v e2) (HG (Ad hi).v e3) (QP h)
 |.bi b es=>.made (λ{J U v} h=>by
  refine oEA (ac h) λws e1 h=>?_
  match ws,e1,h with
  |[],_,h=>exact Aa h
  |[x],e1,h =>
   rcases Sw h with q|⟨ws,q1,q2⟩
   ·exact .bi1 ((Ad es).row e1) q (ACG 3 n)
   ·exact GA (.bi1 ((Ad es).row e1) (Ll q1) (ACG 3 n)) q2
  |[x,y],e1,h=>exact .bi2 ((Ad es).row e1) (Sv h) (ACG 3 n)
  |_::_::_::_,_,h=>exact Aa h) λ{J U us} h hl=>by
  refine oEA (ac h) λws e1 h=>?_
  match ws,e1,h with
  |[],_,h=>exact Aa h
  |[x],e1,h=>exact .bi1 ((Ad es).row e1) (Ll h) (ACG 3 n)
  |_::_::_,_,h=>exact Aa h
 |.maxd a z=>.plain λh=>by exact oEA (ac h) λx e1 h=>oEA (ac h) λy e2 h=>oEA (ac h) λk e3 h=>oEA (ac h) λws e4 h=>oEA (ac h) λis e5 h=>AAA h▸.maxd (ACG 3 n) ((Ad a).v e1) (BC e3▸(Ad z).v e2) (e4.trans (congrArg aj (ED (λ_ _=>BC) e5)))
 |.fcall f es=>.plain λh=>by exact oEA (ac h) λxs e1 h=>.fcall ((Ad es).row e1) (hO _ _ _ _ h)
 |.meth m o es=>.plain λh=>by exact oA (FI h) λq h=>oEA (ac h) λx e1 h=>oEA (ac h) λys e2 h=>X4 hO q ((Ad o).v e1) ((Ad es).row e2) h
 |.attr nm o=>.plain λ{J U v} h=>by
  refine oA (FI h) λq h=>oEA (ac h) λx e1 h=>?_;have e2:=(Ad o).v e1;cases o with
  |var i =>
   cases x with
   |obj ks =>
    exact oEA (ac h) λk e3 h=>oEA (Oa e3) λf h1 h2=>AAA h▸.attr e2 h1 h2
   |_=>exact Aa h
  |_=>exact ff_ q
 |.mcall nm o es=>.plain λh=>by
  refine oA (FI h) λq h=>oEA (ac h) λx e1 h=>oEA (ac h) λys e2 h=>oEA (ac h) λks e3 h=>oEA (ac h) λf e4 h=>?_;have hx:x=.obj ks:=by cases x with|obj _=>rw[AAA e3]|_=>exact Aa e3
  exact .mcall (Ey q) e4 (hx▸(Ad o).v e1) ((Ad es).row e2) (hO _ _ _ _ h)
 |.comp elt ts it ifs=>.made (λh=>by
  refine oEA (ac h) λws h1 h=>oEA (ac h1) λp e1 h1=>oA ((Ad it).it e1) λi1 i2=>AS (Jk h) λ_ _ q _=>?_;exact GA (.comp i1 (DL (Ad elt) (Ad ifs) i2 h1) q) h) λh hl=>by
  exact oEA (ac h) λp e1 h1=>oA ((Ad it).it e1) λi1 i2=>.comp i1 (DL (Ad elt) (Ad ifs) i2 h1) hl
 |.range es=>{CY.no with
  it:=λ{J U p} h=>by
   refine oEA (ac h) λxs e1 h=>?_
   match xs,e1,h with
   |[],_,h=>exact Aa h
   |[x],e1,h =>
    refine oEA (ac h) λk e2 h=>oA (Bo h) λq h=>?_;have e3:=(Ad es).row e1;rw[BC e2] at e3;exact h▸⟨.range (ACG 3 n) e3 q.1 q.2,λ_ _ m=>nomatch m⟩
   |_::_::_,_,h=>exact Aa h}
 |.zip a b=>{CY.no with
  it:=λh=>by refine oEA (ac h) λx e1 h=>oEA (ac h) λy e2 h=>oEA (ac h) λds e3 h=>oEA (ac h) λds' e4 h=>?_;exact AAA h▸⟨.zip (ACG 3 n) ((Ad a).v e1) ((Ad b).v e2) e3 e4,λk us m=>(AA0.mp m).elim (EE e3 k us) (EE e4 k us)⟩}
 |.enum a=>{CY.no with
  it:=λh=>by refine oEA (ac h) λx e1 h=>oEA (ac h) λds e3 h=>?_;exact AAA h▸⟨.enum (ACG 3 n) ((Ad a).v e1) (Jq e3),EE (Jq e3)⟩}
 |.dct=>.no
 |.sortr _=>.no
 |.sortk _ _ _ _=>.no
 |.new=>.no
 |.glx _=>.no
end
open PySem.Calls
structure Cfg where
 n:Nat
 O:Orc
 ok:∀f xs U v,O f xs U=aj v->FN n f xs U v U
noncomputable abbrev Cfg.v(C:Cfg)(e:E):Al->Ac->Option V:=(ev C.O e).v
noncomputable abbrev Cfg.row(C:Cfg)(e:E):Al->Ac->Option (List V):=(ev C.O e).row
noncomputable abbrev Cfg.it(C:Cfg)(e:E):Al->Ac->Option Its:=(ev C.O e).it
noncomputable abbrev Cfg.nl(C:Cfg)(e:E):Al->Ac->Option (List V):=(ev C.O e).nl
noncomputable abbrev Cfg.t(C:Cfg)(e:E):Al->Ac->Option Bool:=(ev C.O e).t
def Ak(C:Cfg)(P:Fl->Ac->Prop)(l:S)(J:Al)(U:Ac):Prop:=∃fl U',P fl U'/\SSs (C.n+3) l J U λf s=>f=fl/\s=U'
def Om(C:Cfg)(P:Fl->Ac->Prop)(r:S)(fl:Fl)(U:Ac):Prop:=match fl with|.next J=>Ak C P r J U|.ret v=>P (.ret v) U
section
variable{C:Cfg}{P:Fl->Ac->Prop}{l:S}{J:Al}{e:E}{ws:List V}
theorem Ak.mono(h:Ak C M l J U)(hm:∀fl U,M fl U->P fl U):Ak C P l J U:=by exact AH h λfl U' h1 h2=>⟨fl,U',hm _ _ h1,h2⟩
theorem Ab(h:P (.next J) U):Ak C P .nil J U:=⟨_,_,h,.nil ⟨rfl,rfl⟩⟩
theorem CD(hs:∀Q:Fl->Ac->Prop,Q fl U'->SS (C.n+3) st J U Q)(h:Om C P r fl U'):Ak C P (.cons st r) J U:=by
 cases fl with
 |next J' =>
  exact AH h λfl U2 h1 h2=>⟨fl,U2,h1,.cons (hs _ h2)⟩
 |ret v=>exact⟨.ret v,U',h,.cons (hs _ ⟨rfl,rfl⟩)⟩
theorem AD(hp:BH e=false)(h:SE (C.n+3) e J U v U')(k:Ak C P r (J.set x (aj v)) U'):Ak C P (.cons (.asg x e) r) J U:=CD (λQ q=>.asg hp h q) k
theorem Ax(h:C.v e J U=aj v)(k:Ak C P r (J.set x (aj v)) U)(hp:BH e=false:=by rfl):Ak C P (.cons (.asg x e) r) J U:=AD hp ((Ad C.ok e).v h) k
theorem Bx(h:C.nl e J U=aj ws)(k:Ak C P r (J.set x (aj (.ref U.length))) (U++[.list ws]))(hp:BH e=false:=by rfl):Ak C P (.cons (.asg x e) r) J U:=AD hp (SE.trk ((Ad C.ok e).nl h)) k
theorem Hn(k:Ak C P r (J.set x (aj (.ref U.length))) (U++[.dictS []])):Ak C P (.cons (.asg x .dct) r) J U:=AD rfl .dctS k
theorem Mn(k:Ak C P r (J.set x (aj (.ref U.length))) (U++[.dictP []])):Ak C P (.cons (.asg x .dct) r) J U:=AD rfl .dctP k
theorem XB(h:C.nl (.comp elt ts it ifs) J U=aj ws):∃vs kps,SI (C.n+3) it J U vs kps U/\Gx (C.n+3) elt ts ifs kps J U vs U ws/\ws.length<=line:=by exact oEA (ac h) λus h1 q=>oA (Bo q) λq1 q2=>oEA (ac h1) λp e1 h2=>oA ((Ad C.ok it).it e1) λi1 i2=>Hk p.1 p.2 i1 (q2▸DL (Ad C.ok elt) (Ad C.ok ifs) i2 h2) (q2▸q1)
theorem Mm(h:C.nl (.comp elt ts it ifs) J U=aj (ds.map .d))(k:Ak C P r (J.set x (aj (.d (.list ds)))) U):Ak C P (.cons (.asg x (.comp elt ts it ifs)) r) J U:=by exact Br (XB h) λvs kps h1 h2 h3=>CD (λQ q=>.asgC h1 h2 h3 (λn=>n.frz) q) k
theorem Bw(hp:BH e=false)(h:SE (C.n+3) e J U v U')(k:Ak C P r J U'):Ak C P (.cons (.exp e) r) J U:=CD (λQ q=>.exp hp h q) k
theorem Du(h:SE (C.n+3) e J U v U')(k:P (.ret v) U'):Ak C P (.cons (.ret e) r) J U:=CD (λQ q=>.ret h q) k
theorem AE(h:C.v e J U=aj v)(k:P (.ret v) U):Ak C P (.cons (.ret e) r) J U:=Du ((Ad C.ok e).v h) k
theorem Q4(h:C.nl e J U=aj ws)(k:P (.ret (.ref U.length)) (U++[.list ws])):Ak C P (.cons (.ret e) r) J U:=Du (SE.trk ((Ad C.ok e).nl h)) k
theorem F8{m:S0}{id:String}{us:List V}(slot:Slot "list" (ACC (Fw m)) id)(ty:typeOf (.builtin id)=pure (.type "method_descriptor"))(ho:C.v o J U=aj (.ref k))(hes:C.row es J U=aj us)(h0:U[k]? = aj (.list ws))(h:PrM id k ws us U v U')(hb:CR o=true)(kk:Ak C P r J U'):Ak C P (.cons (.exp (.meth m o es)) r) J U :=
 Bw rfl (.lmeth (Ey hb) slot ty ((Ad C.ok o).v ho) ((Ad C.ok es).row hes) h0 h0 h) kk
theorem Be(ho:C.v o J U=aj (.ref k))(hes:C.row es J U=aj [y])(h0:U[k]? = aj (.list ws))(hl:ws.length<line)(kk:Ak C P r J (U.set k (.list (ws++[y]))))(hb:CR o=true:=by rfl):Ak C P (.cons (.exp (.meth .append o es)) r) J U :=
 F8 slot_list_append type_list_append ho hes h0 (Nn hl) hb kk
theorem KU(ho:C.v o J U=aj (.ref k))(hes:C.row es J U=aj [vi i,y])(h0:U[k]? = aj (.list ws))(hl:ws.length<line)(hi:0<=i)(hj:i.toNat<=ws.length)(kk:Ak C P r J (U.set k (.list (ws.take i.toNat++y::ws.drop i.toNat))))(hb:CR o=true:=by rfl):Ak C P (.cons (.exp (.meth .insert o es)) r) J U :=
 F8 F.slot_list_insert F.type_list_insert ho hes h0 (TL hi hj hl) hb kk
theorem RY(ho:C.v o J U=aj (.ref k))(hes:C.row es J U=aj [.d d])(h0:U[k]? = aj (.list (ds.map .d)))(h1:inD d ds=aj q)(h2:Jy d ds=aj j)(kk:Ak C P r J (U.set k (.list ((ds.map .d).eraseIdx j))))(hb:CR o=true:=by rfl):Ak C P (.cons (.exp (.meth .remove o es)) r) J U :=
 F8 F.slot_list_remove F.type_list_remove ho hes h0 (TK h1 h2) hb kk
theorem N6(ho:C.v o J U=aj (.ref k))(h0:U[k]? = aj (.list ws))(kk:Ak C P r J (U.set k (.list [])))(hb:CR o=true:=by rfl):Ak C P (.cons (.exp (.meth .clear o .nil)) r) J U :=
 F8 F.slot_list_clear F.type_list_clear ho rfl h0 WK hb kk
theorem EH(hd:C.v d J U=aj (.d dd))(ho:C.v o J U=aj (.ref k))(hi:C.v i J U=aj (.d (.str w)))(h0:U[k]? = aj (.dictS kvs))(hl:kvs.length<line)(kk:Ak C P r J (U.set k (.dictS (Ci kvs w dd))))(hp:BH d=false:=by rfl):Ak C P (.cons (.set o i d) r) J U :=
 CD (λQ q=>.set hp ((Ad C.ok d).v hd) ((Ad C.ok o).v ho) ((Ad C.ok i).v hi) (PS h0 hl) q) kk
theorem EI(hd:C.v d J U=aj (.d dd))(ho:C.v o J U=aj (.ref k))(hi:C.v i J U=aj (vp w))(h0:U[k]? = aj (.dictP kvs))(hl:kvs.length<line)(kk:Ak C P r J (U.set k (.dictP (Ci kvs w dd))))(hp:BH d=false:=by rfl):Ak C P (.cons (.set o i d) r) J U :=
 CD (λQ q=>.set hp ((Ad C.ok d).v hd) ((Ad C.ok o).v ho) ((Ad C.ok i).v hi) (W1 h0 hl) q) kk
theorem Xi(hd:C.v d J U=aj z)(ho:C.v o J U=aj (.ref k))(hi:C.v i J U=aj (vi j))(h0:U[k]? = aj (.list ws))(h1:0<=j)(h2:j<ws.length)(kk:Ak C P r J (U.set k (.list (ws.set j.toNat z))))(hp:BH d=false:=by rfl):Ak C P (.cons (.set o i d) r) J U :=
 CD (λQ q=>.set hp ((Ad C.ok d).v hd) ((Ad C.ok o).v ho) ((Ad C.ok i).v hi) (ZB h0 h1 h2) q) kk
theorem N5(h:C.t c J U=aj t)(k:Ak C (Om C P r) (bif t then a else b) J U):Ak C P (.cons (.ite c a b) r) J U:=by
 refine AH k λfl U' h1 h2=>CD (λQ q=>.ite ((Ad C.ok c).t h) (λe=>?_) λe=>?_) h1
 ·subst e;exact SSs.mono (λf s e=>by rw[e.1,e.2];exact q) h2
 ·subst e;exact SSs.mono (λf s e=>by rw[e.1,e.2];exact q) h2
theorem AG(h:C.t c J U=aj t)(kt:t=true->Ak C (Om C P r) a J U)(kf:t=false->Ak C (Om C P r) b J U):Ak C P (.cons (.ite c a b) r) J U:=N5 h (by cases t with|true=>exact kt rfl|false=>exact kf rfl)
theorem Hm(h:C.t c J U=aj false)(k:Ak C P r J U):Ak C P (.cons (.ite c a .nil) r) J U:=N5 h (Ab k)
theorem UC(h:SE (C.n+3) e J U v U')(hs:∀{K:Kx} {ex:Expr},IsE e K ex->∀ts k p env,swappedStores [.Tuple ts k p] ex env=pure au)(hv:C6 v=aj vs)(hl:vs.length=xs.length)(k:Ak C P r (Fp J xs vs) U')(hp:BH e=false:=by rfl):Ak C P (.cons (.unp xs e) r) J U:=CD (λQ q=>.unp (ACG 3 _) hp hs h hv hl q) k
theorem PF{α:Type}(w:α->V)(aa:List α->Al->Ac->Prop):∀(q p:List α) (J:Al) (U:Ac),(∀p J U,aa p J U->Cs U kps)->(∀a,a∈q->FH ts (w a))->aa p J U ->
 (∀p' a q' J U,p++q=p'++a::q'->aa p' J U->Ak C (λfl U'=>∃J',fl=.next J'/\aa (p'++[a]) J' U') body (Cw J ts (w a)) U)->∃Je Ue,aa (p++q) Je Ue/\∀Q:Fl->Ac->Prop,Q (.next Je) Ue->VM (C.n+3) ts body kps Q (q.map w) J U
 |[],p,J,U,hk,_,hJ,_=>(Eu J U ((AAV p).symm▸hJ) (λQ h=>⟨hk p J U hJ,h⟩))
 |a::q,p,J,U,hk,hb,hJ,hf=>by
  refine AH (hf p a q J U rfl hJ) λfl af q_2 h2=>?_;obtain⟨aN,rfl,h1⟩:=q_2;have e:p++[a]++q=p++a::q:=by rw[ABQ];rfl
  exact AH (PF w aa q (p++[a]) aN af hk (λb hb'=>hb b (.tail _ hb')) h1 λp' b q' J U he=>hf p' b q' J U (e.symm.trans he)) λJe Ue h3 h4=>Eu Je Ue (e▸h3) (λQ h=>⟨hk p J U hJ,(hb a (.head _)).at (ACG 3 _),SSs.mono (λf s e=>by rw[e.1,e.2];exact h4 Q h) h2⟩)
theorem G8{α:Type}{l:List α}(w:α->V)(aa:List α->Al->Ac->Prop)(hit:C.it it J U=aj (l.map w,kps))(hk:∀p J U,aa p J U->Cs U kps)(hb:∀a,a∈l->FH ts (w a))(hJ:aa [] J U)
 (hf:∀p a q J U,l=p++a::q->aa p J U->Ak C (λfl U'=>∃J',fl=.next J'/\aa (p++[a]) J' U') body (Cw J ts (w a)) U) (k:∀J' U',aa l J' U'->Ak C P r J' U'):Ak C P (.cons (.for_ ts it body) r) J U:=by
 exact AH (PF w aa l [] J U hk hb hJ hf) λJe Ue h1 h2=>CD (λQ q=>.for_ ((Ad C.ok it).it hit).1 (h2 Q q)) (k Je Ue h1)
theorem AW{α:Type}{l:List α}(w:α->V)(aa:List α->Al->Ac->Prop)(hit:C.it it J U=aj (l.map w,[]))(hJ:aa [] J U)
 (hf:∀p a q J U,l=p++a::q->aa p J U->Ak C (λfl U'=>∃J',fl=.next J'/\aa (p++[a]) J' U') body (J.set x (aj (w a))) U) (k:∀J' U',aa l J' U'->Ak C P r J' U'):Ak C P (.cons (.for_ [x] it body) r) J U :=
 G8 w aa hit (λ_ _ _ _ _ _ m=>nomatch m) (λ_ _=>.inl rfl) hJ hf k
theorem S2(aa:Nat->Al->Ac->Prop)(t:Nat->Bool)(ht:∀m J U,aa m J U->C.t c J U=aj (t m))(h0:t 0=false)
 (hf:∀m J U,aa (m+1) J U->t (m+1)=true->Ak C (λfl U'=>∃J',fl=.next J'/\aa m J' U') body J U):∀(m:Nat) (J:Al) (U:Ac),aa m J U->∃Je Ue m',aa m' Je Ue/\t m'=false/\∀Q:Fl->Ac->Prop,Q (.next Je) Ue->WhQ (C.n+3) c body Q (m+1) J U
 |0,J,U,hJ=>(DJ J U 0 hJ h0 (λQ q=>⟨false,U,(Ad C.ok c).t (h0▸ht 0 J U hJ),λ_=>q,λh=>ff_ h⟩))
 |m+1,J,U,hJ=>by
  have h:=ht (m+1) J U hJ;cases e:t (m+1) with
  |false=>rw[e] at h;exact DJ J U (m+1) hJ e (λQ q=>⟨false,U,(Ad C.ok c).t h,λ_=>q,λh=>ff_ h⟩)
  |true =>
   rw[e] at h;refine AH (hf m J U hJ e) λfl af q_2 h2=>?_;obtain⟨aN,rfl,h1⟩:=q_2;exact Cr (S2 aa t ht h0 hf m aN af h1) λJe Ue m' h3 h5 h4=>DJ Je Ue m' h3 h5 (λQ q=>⟨true,U,(Ad C.ok c).t h,λh=>tt_ h,λ_=>SSs.mono (λf s e=>by rw[e.1,e.2];exact h4 Q q) h2⟩)
theorem UB(aa:Nat->Al->Ac->Prop)(t:Nat->Bool)(m:Nat)(hJ:aa m J U)(ht:∀m J U,aa m J U->C.t c J U=aj (t m))(h0:t 0=false)
 (hf:∀m J U,aa (m+1) J U->t (m+1)=true->Ak C (λfl U'=>∃J',fl=.next J'/\aa m J' U') body J U) (k:∀m' J' U',aa m' J' U'->t m'=false->Ak C P r J' U'):Ak C P (.cons (.while_ c body) r) J U:=by
 exact Cr (S2 aa t ht h0 hf m J U hJ) λJe Ue m' h1 h2 h3=>CD (λQ q=>.while_ (h3 Q q)) (k m' Je Ue h1 h2)
noncomputable def GR(fl:Fl):V:=match fl with|.next _=>.d .none|.ret v=>v
theorem FN.ends{fn:Fn}{zs:List V}{R:V->Ac->Prop}(hP:Pg f=aj fn)(hl:zs.length=fn.np)(hn:1<=C.n)(h:Ak C (λfl U'=>R (GR fl) U') fn.body (BD fn zs) U):∃v U',R v U'/\FN (C.n+1) f zs U v U':=by
 refine AH h λfl U' h1 h2=>(Eu _ U' h1 ?_)
 show FA (C.n+1+3) f zs U _ U';rw[Nat.add_right_comm];refine FA.of hP hl (SSs.mono (λf s e=>?_) h2) (AAC hn (AA9 _ _));rw[e.1,e.2];cases fl with
 |next _=>exact⟨rfl,rfl⟩
 |ret _=>exact⟨rfl,rfl⟩
theorem FN.same{f:Nat}{fn:Fn}{zs:List V}{v:V}{U':Ac}(hP:Pg f=aj fn)(hl:zs.length=fn.np)(hn:1<=C.n)(h:Ak C (λfl s=>GR fl=v/\s=U') fn.body (BD fn zs) U):FN (C.n+1) f zs U v U':=by obtain⟨_,_,⟨h1,h2⟩,h⟩:=FN.ends (R:=λw s=>w=v/\s=U') hP hl hn h;rw[h1,h2] at h;exact h
end
open PyProof.Rows
noncomputable abbrev Row:=Nat×Str×Fn×List Str
noncomputable def IY(p:Program)(n:Str):Option Rc:=((recsOf p).find? (·.name==n)).map λd=>⟨d.params,d.body,d.scope⟩
noncomputable def NN:Str:=ACC "Weave"
noncomputable def Vo(p:Program)(loose:List Str):Option ClsRec:=(plainsOf p loose).find? (·.name==NN)
noncomputable def LH(p:Program)(loose:List Str)(n:Str):Option Rc:=(Vo p loose).bind λc=>(c.meths.find? (·.name==n)).map λm=>⟨m.params,m.body,m.scope⟩
noncomputable def EY(o:Option Rc):List Stmt:=match o with|some r=>r.body|none=>[]
noncomputable def Jc(o:Option Rc)(lam:Option (Addr×Str))(x:Row):Bool:=match o with|some r=>ZJ lam x.2.2.1 x.2.2.2 r|none=>false
noncomputable def Ep(n:Str):Str:=(n++(".<locals>." : Str))++("<lambda>" : Str)
theorem G3{o:Option Rc}{lam:Option (Addr×Str)}{x:Row}(h:Jc o lam x=true):∃r,o=aj r/\ZJ lam x.2.2.1 x.2.2.2 r=true:=by
 cases o with
 |none=>exact ff_ h
 |some r=>exact iEA r rfl h
noncomputable def hide(h:Heap)(t:Addr):Heap:=h.update t λo=>{o with data:=.freed}
theorem J8(hab:a≠t):(hide h t).get? a=h.get? a:=ABD h _ (Ne.symm hab)
theorem hide_self:(hide h t).get? t=au:=by
 cases hq:h.objs[t]? with
 |none =>
  have e2:(hide h t).objs[t]? = au:=by show(h.objs.modify t λo=>{o with data:=.freed})[t]? = _;rw[Array.getElem?_modify,if_pos rfl,hq];rfl
  unfold Heap.get?;rw[e2]
 |some o' =>
  have e2:(hide h t).objs[t]? = aj {o' with data:=.freed}:=by show(h.objs.modify t λo=>{o with data:=.freed})[t]? = _;rw[Array.getElem?_modify,if_pos rfl,hq];rfl
  unfold Heap.get?;rw[e2]
noncomputable def J7(h:Heap):List Addr->Heap
 |[]=>h
 |t::r=>hide (J7 h r) t
theorem Gb:∀{ts:List Addr},a∉ts->(J7 h ts).get? a=h.get? a
 |[],_=>rfl
 |t::r,q=>(J8 λ(e:a=t)=>q (e▸.head _)).trans (Gb λm=>q (.tail _ m))
theorem N4:∀{ts:List Addr},a∈ts->(J7 h ts).get? a=au
 |t::r,q=>by
  by_cases e:a=t
  ·rw[e];exact hide_self
  ·exact(J8 e).trans (N4 ((AAR.mp q).resolve_left e))
section
variable{p:Program}{loose:List Str}{mean:ExcName->Option Value}{mg mb mN:Str->Option Value}{T:Mine.Internal.Top}{h:Heap}{ts:List Addr}
structure Hid(T:Mine.Internal.Top)(h:Heap)(ts:List Addr):Prop where
 h0:T.h0=J7 h ts
 tab:∀t,t∈ts->h.get? t=aj (W.tabObj #[])
theorem Hid.get(H:Hid T h ts){a:Addr}{o:Obj}(e:h.get? a=aj o)(hd:o.data≠.fields #[]):T.h0.get? a=aj o:=by rw[H.h0,Gb λq=>hd (by rw[H.tab a q] at e;rw[<-AAA e])];exact e
theorem Hid.ns(H:Hid T h ts){a:Addr}{m:Str->Option Value}(x:h.Ns a m):T.h0.Ns a m:=by refine Cr x λo es ep e d r=>?_;exact⟨o,es,ep,H.get e (by rw[d];exactλq=>nomatch q),d,r⟩
theorem Hid.tail(H:Hid T h ts){bmB tl:List Value}(x:OwnTail h bmB tl):OwnTail T.h0 bmB tl:=by
 induction x with
 |base=>exact .base
 |own h1 h2 h3 _ ih=>exact .own (H.get h1 λq=>nomatch q) (H.ns h2) h3 ih
theorem Hid.own(H:Hid T h ts){x:Str}{C:Addr}{bm:List Value}{newId:String}(O:PyProof.Rows.OwnCls x C bm newId mg h):PyProof.Rows.OwnCls x C bm newId mg T.h0:=by refine bZ O.obj λtl N nm q bs hdct sn sub ab col dd k0 k1 k2 k3 k5 mN hh=>?_;refine K2 hh λhC hN hni Tl=>?_;exact⟨O.bound,tl,N,nm,q,bs,hdct,sn,sub,ab,col,dd,k0,k1,k2,k3,k5,mN,H.get hC (λq=>nomatch q),H.ns hN,hni,H.tail Tl⟩
theorem Hid.code(H:Hid T h ts){cd:Value}{q:Str}(x:h.CodeRec cd q):T.h0.CodeRec cd q:=by refine GX x λc o vs t e g d r=>?_;exact⟨c,o,vs,t,e,H.get g (λw=>by rw[d] at w;injection w with w;rw[w] at r;exact Aa r),d,r⟩
theorem Hid.hd(H:Hid T h ts){c t:Addr}(x:W.CodeHd h c t):W.CodeHd T.h0 c t:=by obtain⟨o,vs,file,tf,flags,tg,inF,text,tt,e,a,b,c',d,f,g,i,j,hne⟩:=x;exact⟨o,vs,file,tf,flags,tg,inF,text,tt,H.get e (λw=>by rw[b] at w;injection w with w;rw[w] at c';exact Aa c'),a,b,c',d,f,g,i,j,hne⟩
theorem X2(Tp:PyProof.Rows.Top p loose mean mg mb h)(H:Hid T h ts){x:Row}{lam:Option (Addr×Str)}(hk:Jc (IY p x.2.1) lam x=true)(hem:(emS x.2.2.1.body).2 (EY (IY p x.2.1))=EY (IY p x.2.1)){a:Addr}(ha:mg x.2.1=aj (.ref a))
 (hl:∀t q,lam=aj (t,q)->(t,q)∈T.tabs/\Ep x.2.1=q/\∀o fd,h.get? a=aj o->o.data=.func fd->∃c,fd.code=.ref c/\W.CodeHd h c t):cY T glP x.2.2.1 a:=by
 refine oEA (G3 hk) λr hr hk=>?_;rw[hr] at hem;refine oEA (ABL.mp hr) λd hd q_2=>?_;subst q_2;have hm:=ABH hd;have hn:d.name=x.2.1:=ABM (show(d.name==x.2.1)=true from AC6 (p:=λ(y:DefRec)=>y.name==x.2.1) hd);refine KP (Tp.fn d hm) λa' o pm code doc e1 e2 e3 e4=>?_;rw[hn,ha] at e1;obtain rfl:=ABR (AAA e1);refineλR_ k=>k _ _ o x.2.2.2 lam (QD hk hem (H.get e2 (by rw[e3];exactλq=>nomatch q)) e3 (H.code e4) rfl rfl rfl rfl rfl rfl rfl rfl λt q e=>?_);refine oAA (hl t q e) λh1 h2 h3=>?_;refine oEA (h3 o _ e2 e3) λc c1 c2=>?_;exact fP h1 (by rw[<-h2,<-hn];rfl) c c1 (H.hd c2)
theorem LU{c:ClsRec}{C N:Addr}(hc:Vo p loose=aj c)(P:PlainAt h c C N mN)(H:Hid T h ts){x:Row}(hk:Jc (LH p loose x.2.1) au x=true)(hem:(emS x.2.2.1.body).2 (EY (LH p loose x.2.1))=EY (LH p loose x.2.1)):∃a o,mN x.2.1=aj (.ref a)/\T.h0.get? a=aj o/\o.cls=.type "function"/\(∃fd,o.data=.func fd)/\cY T glP x.2.2.1 a:=by refine oEA (G3 hk) λr hr hk=>?_;rw[hr] at hem;refine oEA (ac hr) λc' hc' hr=>?_;obtain rfl:=Ao hc hc';refine oEA (ABL.mp hr) λm hm q_2=>?_;subst q_2;have hn:m.name=x.2.1:=ABM (show(m.name==x.2.1)=true from AC6 (p:=λ(y:MethRec)=>y.name==x.2.1) hm);refine OI (P.meths m (ABH hm)) λf o pm cd doc e1 e2 e3 e4 e5=>?_;have ho:=H.get e2 (by rw[e4];exactλq=>nomatch q);exact⟨f,o,hn▸e1,ho,e3,⟨_,e4⟩,λR_ k=>k _ _ o x.2.2.2 au (QD hk hem ho e4 (H.code e5) rfl rfl rfl rfl rfl rfl rfl rfl λt q e=>Aa e)⟩
noncomputable def JH(p:Program)(loose:List Str)(x:Str):Bool :=
 !startupNames.contains x&&(!loose.contains x&&(!((recsOf p).map (·.name)).contains x&&(!((litsOf p).map (·.1)).contains x&&(!((clssOf p loose).map (·.name)).contains x&&!(x==("__name__" : Str))))))
theorem FW{l:List Str}(h:(!l.contains x)=true):x∉l:=λhm=>by rw[List.contains_iff_mem.mpr hm] at h;exact ff_ h
theorem Q7(Tp:PyProof.Rows.Top p loose mean mg mb h){x:Str}(hf:JH p loose x=true):mg x=au/\mb x=bootBuiltins x :=
 ⟨Tp.free x (FW (AA hf)) (FW (AA (Ag hf))) (FW (AA (Ag (Ag hf)))) (FW (AA (Ag (Ag (Ag hf))))) (FW (AA (Ag (Ag (Ag (Ag hf)))))),Tp.builtins x λe=>by have q:=Ag (Ag (Ag (Ag (Ag hf))));rw[e,beq_self_eq_true] at q;exact ff_ q⟩
noncomputable def isInt(d:PyData):Bool:=match d with|.int _=>true|.str z=>Nat.ble z.length 16777216|_=>false
noncomputable def eR(p:Program)(loose:List Str)(e:Str×GV):Bool :=
 match e.2 with
 |.fn f=>(EK.find? λx=>Nat.beq x.1 f).any λx=>x.2.1==e.1
 |.bi b=>JH p loose e.1&&(bootBuiltins e.1==aj (AZ b))
 |.ty t=>JH p loose e.1&&(bootBuiltins e.1==aj (.type t))
 |.cst d=>isInt d&&(match valOf p e.1 with|some d'=>Ka d' d|none=>false)
 |.cls=>e.1==NN
 |.exc k=>(NG.lookup k).any λn=>n==e.1
noncomputable def Ym(p:Program)(e:Nat×Str):Bool:=(ownsOf p).any λo=>o.name==e.2&&(o.newId == "ValueError.__new__"&&o.bm==[.type "ValueError",.type "Exception",.type "BaseException",.type "object"])
noncomputable def Ie(v:Value):Option Addr:=match v with|.ref a=>aj a|_=>au
theorem DA{o:Option Value}{a:Addr}(h:o.bind Ie=aj a):o=aj (.ref a):=by
 refine oEA (ac h) λv q_1 h=>?_;subst q_1;cases v with
 |ref b=>rw[AAA (show aj b=aj a from h)]
 |_=>exact Aa h
noncomputable def Ij(mg mN:Str->Option Value)(f:Nat):Option Addr :=
 match EK.find? λx=>Nat.beq x.1 f with
 |some x=>(mg x.2.1).bind Ie
 |none=>(match Eo.find? λx=>Nat.beq x.1 f with|some x=>(mN x.2.1).bind Ie|none=>au)
theorem Ho{f:Nat}{x:Row}(hx:(EK.find? λx=>Nat.beq x.1 f)=aj x):Ij mg mN f=(mg x.2.1).bind Ie:=by unfold Ij;rw[hx]
theorem JI{f:Nat}{x:Row}(h0:(EK.find? λx=>Nat.beq x.1 f)=au)(hx:(Eo.find? λx=>Nat.beq x.1 f)=aj x):Ij mg mN f=(mN x.2.1).bind Ie:=by unfold Ij;rw[h0,hx]
theorem EN{l:List Row}{f:Nat}{x:Row}(h:(l.find? λx=>Nat.beq x.1 f)=aj x):x.1=f/\x∈l:=⟨ADH (AC6 (p:=λ(x:Row)=>Nat.beq x.1 f) h),ABH h⟩
theorem Oi{α:Type}{f:α->Bool}{o:Option α}(h:o.any f=true):∃d,o=aj d/\f d=true:=by
 cases o with
 |none=>exact ff_ h
 |some d=>exact iEA d rfl h
theorem mem_of_lookupE{k:Nat}{n:Str}:∀{l:List (Nat×Str)},l.lookup k=aj n->(k,n)∈l
 |[],h=>Aa h
 |b::l,h=>by
  rw[AC8] at h;cases hb:k==b.1 with
  |true =>
   rw[hb] at h;obtain rfl:=AAA h;rw[ABM hb];exact .head _
  |false=>rw[hb] at h;exact .tail _ (mem_of_lookupE h)
noncomputable def Ld(mg:Str->Option Value)(k:Nat):Option Addr:=(NG.lookup k).bind λn=>(mg n).bind Ie
structure VE(p:Program)(loose:List Str)(lamOf:Nat->Option (Addr×Str)):Prop where
 fok:∀x,x∈EK->Jc (IY p x.2.1) (lamOf x.1) x=true
 fem:∀x,x∈EK->(emS x.2.2.1.body).2 (EY (IY p x.2.1))=EY (IY p x.2.1)
 mok:∀x,x∈Eo->Jc (LH p loose x.2.1) au x=true
 mem:∀x,x∈Eo->(emS x.2.2.1.body).2 (EY (LH p loose x.2.1))=EY (LH p loose x.2.1)
 gok:∀e,e∈bQ->eR p loose e=true
 eok:∀e,e∈NG->Ym p e=true
 att:∀x,x∈Eo->x.2.1∉Dq
 apart:∀x,x∈Eo->(EK.find? λy=>Nat.beq y.1 x.1)=au
 self:∀x,x∈Eo->(Eo.find? λy=>Nat.beq y.1 x.1)=aj x
theorem W7{lamOf:Nat->Option (Addr×Str)}{c:ClsRec}{C N:Addr}(K:VE p loose lamOf)(Tp:PyProof.Rows.Top p loose mean mg mb h)(hc:Vo p loose=aj c)(hst:∀nm,nm∈Dq->nm∈c.statics)(hC:mg NN=aj (.ref C))(P:PlainAt h c C N mN)(eC:C=T.cls)(eF:T.fn=Ij mg mN)(eE:T.exc=Ld mg)(H:Hid T h ts)(S:h.NoSeer)(ht:T.prog.given.tree=au)(htf:∀t q q',(t,q)∈T.tabs->(t,q')∈T.tabs->q=q')(hI:Rl T)(hK:Rn T)
 (hl:∀x t q,x∈EK->lamOf x.1=aj (t,q)->(t,q)∈T.tabs/\Ep x.2.1=q/\∀a o fd,mg x.2.1=aj (.ref a)->h.get? a=aj o->o.data=.func fd->∃c,fd.code=.ref c/\W.CodeHd h c t):Km T:=by
 have fnA:∀x,x∈EK->∃a o fd,mg x.2.1=aj (.ref a)/\h.get? a=aj o/\o.data=.func fd:=λx hx=>by refine oEA (G3 (K.fok x hx)) λr hr _=>?_;refine oEA (ABL.mp hr) λd hd q_2=>?_;subst q_2;have hn:d.name=x.2.1:=ABM (show(d.name==x.2.1)=true from AC6 (p:=λ(y:DefRec)=>y.name==x.2.1) hd);refine KP (Tp.fn d (ABH hd)) λa' o pm code doc e1 e2 e3 e4=>?_;exact DJ a' o _ (hn▸e1) e2 e3
 have excD:∀{k n},NG.lookup k=aj n->∃C,mg n=aj (.ref C)/\nY T C:=λ{k n} e=>by refine oEA (ADR.mp (K.eok (k,n) (Mine.Internal.mem_of_lookupE e))) λo ho h1=>?_;refine oEA (Tp.own o ho) λC O _=>?_;have hn:o.name=n:=ABM (AA h1);refine⟨C,hn▸O.bound,o.name,o.bm,o.newId,"ValueError","ValueError.__init__",mg,H.own O.own,?_⟩;rw[ABM (AA (Ag h1)),ABM (Ag (Ag h1))];exact F.excBase_ValueError
 refine oEA Tp.nolimit λmc n1 n2=>?_;refine oEA S.mods λmm m1 m2=>?_;refine oEA S.statics λmc' c1 c2=>?_;refine oEA S.imp λmb' i1 i2=>?_;refine W9 S.main λmg' bm0 ob0 g1 g2 g3 g4=>?_;refine T2 Tp.bmain λbm ob b1 b2 b3 b4 b5 b6=>?_;have hob:=H.get b3 (by rw[b6];exactλq=>nomatch q);have fnD:∀f a,T.fn f=aj a->∃o fd,T.h0.get? a=aj o/\o.data=.func fd:=λf a e=>by
  rw[eF] at e;cases hx:EK.find? λx=>Nat.beq x.1 f with
  |some x =>
   rw[Ho hx] at e;refine Cr (fnA x (EN hx).2) λa' o fd e1 e2 e3=>?_;obtain rfl:=ABR (Ao (DA e) e1);exact Eu o fd (H.get e2 (by rw[e3];exactλq=>nomatch q)) e3
  |none =>
   cases hy:Eo.find? λx=>Nat.beq x.1 f with
   |none=>unfold Ij at e;rw[hx,hy] at e;exact Aa e
   |some x =>
    rw[JI hx hy] at e;refine LM (LU hc P H (K.mok x (EN hy).2) (K.mem x (EN hy).2)) λa' o e1 e2 _ q_5 _=>?_;obtain⟨fd,e3⟩:=q_5;obtain rfl:=ABR (Ao (DA e) e1);exact Eu o fd e2 e3
 refine⟨⟨⟨⟨mc,H.ns n1,n2⟩,⟨(iEA mc' (H.ns c1) c2),(iEA mm (H.ns m1) m2),(iEA mb' (H.ns i1) i2),⟨mg,bm,ob,H.ns Tp.g,b1,hob,b4,b5⟩⟩,ht,?_,htf⟩,fnD,mg,mb,H.ns Tp.g,H.ns Tp.b,λn v hv=>?_,bm,ob,b1,b2,hob,b4,b5,b6⟩,λf fn a hP hf=>?_,⟨N,mN,?_,P.quiet _ ?_,P.quiet _ ?_,P.quiet _ ?_,λnm hm=>P.quiet _ (AAW _ (hst nm hm)),λnm f hm=>?_⟩,λk C' e=>?_,hI,hK⟩
 ·refine Cr m1 λo es ep e d r=>?_;exact⟨o,H.get e (by rw[d];exactλq=>nomatch q)⟩
 ·unfold glP at hv;have he:=K.gok (n,v) (mem_of_lookup hv);cases v with
  |fn f =>
   refine oEA (Oi (show(EK.find? λx=>Nat.beq x.1 f).any (λx=>x.2.1==n)=true from he)) λx hx he=>?_;refine DC (fnA x (EN hx).2) λa o fd e1 _=>?_;have hn:x.2.1=n:=ABM he;exact iEA _ ⟨a,by rw[eF,Ho hx,e1];rfl,rfl⟩ (.inl (hn▸e1))
  |bi b =>
   have he:(JH p loose n&&(bootBuiltins n==aj (AZ b)))=true:=he;refine oA (Q7 Tp (AA he)) λf1 f2=>?_;exact iEA _ rfl (.inr ⟨f1,by rw[f2];exact beq_iff_eq.mp (Ag he)⟩)
  |ty t =>
   have he:(JH p loose n&&(bootBuiltins n==aj (.type t)))=true:=he;refine oA (Q7 Tp (AA he)) λf1 f2=>?_;exact iEA _ rfl (.inr ⟨f1,by rw[f2];exact beq_iff_eq.mp (Ag he)⟩)
  |cst d =>
   have he:(isInt d&&(match valOf p n with|some d'=>Ka d' d|none=>false))=true:=he;have h2:=Ag he;cases e:valOf p n with
   |none=>rw[e] at h2;exact ff_ h2
   |some d' =>
    rw[e] at h2;refine oEA (Tp.const n d' e) λv v1 v2=>?_;rw[Li (show Ka d' d=true from h2)] at v2;refine(iEA v ?_ (.inl v1));have h1:=AA he;cases d with
    |int i=>refine oEA (reads_int_inv (v2 {})) λt e _=>?_;exact⟨t,e⟩
    |str z=>refine oEA (reads_str_inv (v2 {})) λt e _=>?_;exact⟨t,e,ACD h1⟩
    |_=>exact ff_ h1
  |cls=>exact iEA _ rfl (.inl (by rw[ABM (show(n==NN)=true from he),hC,eC]))
  |exc k =>
   refine oEA (Oi (show(NG.lookup k).any (λn'=>n'==n)=true from he)) λn' hx he=>?_;refine oEA (excD hx) λC' e1 _=>?_;have hn:n'=n:=ABM he;exact iEA _ ⟨C',by rw[eE];unfold Ld;rw[hx];show(mg n').bind Ie=_;rw[e1];rfl,rfl⟩ (.inl (hn▸e1))
 ·unfold Pg at hP;refine oEA (ABL.mp hP) λx hx q_2=>?_;subst q_2;rw[List.find?_append] at hx;rw[eF] at hf;cases hy:EK.find? λx=>Nat.beq x.1 f with
  |some y =>
   rw[hy] at hx;obtain rfl:=AAA (show aj y=aj x from hx);rw[Ho hy] at hf;have hm:=(EN hy).2;exact X2 Tp H (K.fok y hm) (K.fem y hm) (DA hf) λt q e=>by refine oAA (hl y t q hm e) λh1 h2 h3=>?_;exact⟨h1,h2,λo fd=>h3 a o fd (DA hf)⟩
  |none =>
   rw[hy] at hx;have hx:(Eo.find? λx=>Nat.beq x.1 f)=aj x:=hx;rw[JI hy hx] at hf;refine LM (LU hc P H (K.mok x (EN hx).2) (K.mem x (EN hx).2)) λa' o e1 _ _ _ e2=>?_;obtain rfl:=ABR (Ao (DA hf) e1);exact e2
 ·rw[<-eC];refine Gs P.cls.obj λnm q bs sn sub col dd k0 k1 k2 k3 k5 e=>?_;exact⟨⟨nm,q,bs,sn,sub,col,dd,k0,k1,k2,k3,k5,H.get e (λq=>nomatch q)⟩,H.ns P.cls.ns⟩
 ·exact AAU _ (.tail _ (.head _))
 ·exact AAU _ (.tail _ (.tail _ (.head _)))
 ·exact AAU _ (.head _)
 ·unfold mtP at hm;refine oEA (ABL.mp hm) λx hx q_2=>?_;subst q_2;have hn:x.2.1=nm:=ABM (show(x.2.1==nm)=true from AC6 (p:=λ(y:Row)=>y.2.1==nm) hx);have hxm:=ABH hx;refine LM (LU hc P H (K.mok x hxm) (K.mem x hxm)) λa o e1 e2 e3 _ _=>?_;refine(IE (hn▸K.att x hxm) a o ?_ (hn▸e1) e2 e3);rw[eF,JI (K.apart x hxm) (K.self x hxm),e1];rfl
 ·rw[eE] at e;refine oEA (ac (show(NG.lookup k).bind (λn=>(mg n).bind Ie)=aj C' from e)) λn hx e=>?_;refine oEA (excD hx) λbB e1 h2=>?_;obtain rfl:=ABR (Ao (DA e) e1);exact h2
end
end Mine.Internal
namespace Mine.Internal
open PySem PyProof.Rows PySem.W
set_option maxRecDepth 100000
set_option tactic.hygienic true
noncomputable def K5:List Str:=PySem.W.looseW view11 []
noncomputable def Qn(t u v:Addr)(f:Nat):Option (Addr×Str):=bif Nat.beq f 8 then aj (t,Ep nm1) else bif Nat.beq f 20 then aj (u,Ep nm2) else bif Nat.beq f 76 then aj (v,Ep nm3) else au
theorem Ec{α:Type}{l:List α}{f:α->Bool}(h:l.all f=true):∀x,x∈l->f x=true:=ACH.mp h
theorem fY(t u v:Addr):(EK.all λx=>Jc (IY view11 x.2.1) (Qn t u v x.1) x)=true:=by kernel_rfl
theorem gA:(EK.map λx=>(emS x.2.2.1.body).2 (EY (IY view11 x.2.1)))=EK.map λx=>EY (IY view11 x.2.1):=by kernel_rfl
theorem eW:(Eo.all λx=>Jc (LH view11 K5 x.2.1) au x)=true:=by kernel_rfl
theorem eY:(Eo.map λx=>(emS x.2.2.1.body).2 (EY (LH view11 K5 x.2.1)))=Eo.map λx=>EY (LH view11 K5 x.2.1):=by kernel_rfl
theorem fS:(bQ.all λe=>eR view11 K5 e)=true:=by kernel_rfl
theorem gQ:(Eo.all λx=>!Dq.contains x.2.1)=true:=by kernel_rfl
theorem pG:(Eo.all λx=>(EK.find? λy=>Nat.beq y.1 x.1).isNone)=true:=by kernel_rfl
theorem ZA:(Eo.map λx=>Eo.find? λy=>Nat.beq y.1 x.1)=Eo.map aj:=by kernel_rfl
theorem gL:(NG.all (Ym view11))=true:=by kernel_rfl
noncomputable def Lj:ClsRec:=(Vo view11 K5).getD ⟨NN,au,[],[],0,[]⟩
theorem Pq:Vo view11 K5=aj Lj:=by kernel_rfl
theorem dQ:(Dq.all λnm=>Lj.statics.contains nm)=true:=by kernel_rfl
theorem Z1(t u v:Addr):VE view11 K5 (Qn t u v) where
 fok:=Ec (fY t u v)
 fem:=List.map_inj_left.mp gA
 mok:=Ec eW
 mem:=List.map_inj_left.mp eY
 gok:=Ec fS
 eok:=Ec gL
 att:=λx hx=>FW (Ec gQ x hx)
 apart:=λx hx=>none_of' (Ec pG x hx)
 self:=List.map_inj_left.mp ZA
theorem ZW:(EK.all λx=>bif Nat.beq x.1 8 then x.2.1==nm1 else bif Nat.beq x.1 20 then x.2.1==nm2 else bif Nat.beq x.1 76 then x.2.1==nm3 else true)=true:=by kernel_rfl
theorem Z6:∀nm,nm∈Dq->nm∈Lj.statics:=λnm hm=>List.contains_iff_mem.mp (Ec dQ nm hm)
theorem ZV{t u v a:Addr}{q:Str}{x:Row}(hx:x∈EK)(e:Qn t u v x.1=aj (a,q)):(a=t/\q=Ep nm1/\x.2.1=nm1)\/(a=u/\q=Ep nm2/\x.2.1=nm2)\/(a=v/\q=Ep nm3/\x.2.1=nm3):=by
 have h:=Ec ZW x hx;unfold Qn at e;cases h8:Nat.beq x.1 8 with
 |true =>
  rw[h8] at e h;refine oA (ABK (AAA (show aj (t,Ep nm1)=aj (a,q) from e))) λq1 q2=>?_;exact .inl ⟨q1.symm,q2.symm,ABM h⟩
 |false =>
  rw[h8] at e h;cases h9:Nat.beq x.1 20 with
  |true =>
   rw[h9] at e h;refine oA (ABK (AAA (show aj (u,Ep nm2)=aj (a,q) from e))) λq1 q2=>?_;exact .inr (.inl ⟨q1.symm,q2.symm,ABM h⟩)
  |false =>
   rw[h9] at e h;cases h7:Nat.beq x.1 76 with
   |true =>
    rw[h7] at e h;refine oA (ABK (AAA (show aj (v,Ep nm3)=aj (a,q) from e))) λq1 q2=>?_;exact .inr (.inr ⟨q1.symm,q2.symm,ABM h⟩)
   |false=>rw[h7] at e;exact Aa e
end Mine.Internal
namespace Mine.Internal
open PySem PySem.Calls
structure LeM(m:Nat)(own:List Addr)(g g':G):Prop where
 fz:MA g.fz g'.fz
 mu:∀(k:Nat) (a:Addr),k<m->g.mu[k]? = aj a->g'.mu[k]? = aj a
 hid:∀a,a∉own->g'.hid a=g.hid a
section
variable{U:Ac}{v:V}{c:Cx}{g:G}{s:Shared}
theorem Lc:execs [x] env=exec x env:=by
 rw[execs_cons];refine(bind_congr λf=>?_).trans (bind_pure _);cases f with
 |next=>exact arm_execs_nil _
 |_=>rfl
theorem SS.of1(h:SSs n (.cons st .nil) J U Q):SS n st J U Q:=λc g s x hc I=>by have h:=h c g s [x] (λR_ k=>k x [] hc rfl) I;rw[Lc] at h;exact h
end
open PySem.W
set_option maxRecDepth 100000
structure Yd(K:Frag)(D:Addr):Prop where
 ga:findIn K (.ref D) "__getattribute__" = aj (aj (.builtin "BaseException.__getattribute__"))
 gh:findIn K (.ref D) "__getattr__" = aj au
 fo:findObj K D au "__class__" = aj (.bind (.builtin "getset_descriptor.__get__") (.builtin "object.__class__"))
 mo:mroIn K D (.type "object")=aj true
 mb:mroIn K D (.type "BaseException")=aj true
 is:(clsIn K D).isSome=true
theorem Si{prog:Program}{w:World}{A:Around}{E:Value->Shared->Prop}{s:Shared}{K:Frag}{ox:Obj}{Q:Option Value->Shared->Prop}(X:K.In s.heap)(I:PySem.W.InstAt s.heap x ox D au)(F':Yd K D)
 (hq:Q (aj (.ref D)) {s with toks:=s.toks+1}):wpAny (model prog w) A (getAttr? (.ref x) "__class__") Q E s:=by
 obtain⟨hga,hgh,hf,hm,hmB,_⟩:=F';obtain⟨hh,g,d,t,os⟩:=s;have L0:=I.type (M:=model prog w);have L1:=looks_findIn (M:=model prog w) X hga;unfold getAttr? getAttrBy? getAttrBy;refine AAD (wpAny_mkText (AAD (wpAny_attempt (AA8 (AAD (L0.at (AAD (L1.at ?_))))))));have hx2:(Value.builtin "BaseException.__getattribute__"==Value.builtin "object.__getattribute__")=false:=by decide +kernel
 show wpAny _ _ (if (onTheHeap (Value.ref D)&&Value.builtin "BaseException.__getattribute__"==Value.builtin "object.__getattribute__")=true then _ else _) _ _ _;rw[hx2,AC9,if_neg ABB];unfold getAttrByItsOwn;show wpAny _ _ (typeLookup (.ref D) "__getattr__" >>= _) _ _ _;refine AAD ((looks_findIn (M:=model prog w) X hgh).at ?_);refine AAD (wpAny_attempt (AA8 ?_));show wpAny _ _ (bindSpecial (.builtin "BaseException.__getattribute__") (.ref x)>>=λp=>call p.1 (p.2++[.str "__class__" t])) _ _ _;refine AAD (wpAny_of_eq (F.excAttr_ValueError.ga.bind (.ref x)) ?_);show wpAny _ _ (call (.builtin "BaseException.__getattribute__") [.ref x,.str "__class__" t]) _ _ _;refine wpAny_call (codeAny_call_builtin F.excAttr_ValueError.ga.plain F.entry_bexc_ga ?_);have hk:builtinKind "BaseException.__getattribute__" = aj .slot:=by decide +kernel
 have hsplit:splitId "BaseException.__getattribute__" = aj ("BaseException","__getattribute__"):=by decide +kernel
 have ha:=F.args_bexc_ga (.ref x) (.str "__class__" t);have LI:Looks (model prog w) hh (isInstance (.ref x) (.type "BaseException")) true:=L0.andThen (looks_mroIn (M:=model prog w) X hmB);simp only[checkBuiltinCall,hk,hsplit];refine AAD (LI.at ?_)
 repeat (first|assumption|wp_step)
 refine wpAny_loadPart I.at_ (AAY ?_);rw[I.cls];refine AAD ((looks_find (M:=model prog w) X I hf).at ?_);unfold Builtin.ObjectAttr.bindTo;show wpAny _ _ (holding [.builtin "object.__class__"] (call (.builtin "getset_descriptor.__get__") [.builtin "object.__class__",.ref x,.ref D])>>=λv=>ret v) _ _ _;refine AAD (AA8 (wpAny_call (class_get (s:=⟨hh,g,d,t+1,os⟩) (ox:=ox) (od:=au) X I hm ?_)));exact AAY (AAY (AAY hq))
set_option tactic.hygienic true in
theorem Ub(F':Yd K D):KitX K (.ref x) (.ref D) (λh=>PySem.W.InstAt h x ox D au) where
 ty:=λ_ _ _ I=>I.type
 it:=λ_ _ X _=>by
  have hcD:=F'.is;unfold clsIn at hcD;split at hcD
  ·rename_i c' d' cd' sl' ho
   intro A' Q' E' s' k q;unfold isType loadHead;exact AAD (wpAny_loadPart (k _ _ (X _ _ ho)) (AAY q))
  ·exact ff_ hcD
 ne:=λh tp dd its n sl X htp=>by
  have hcD:=F'.is;refine Bool.eq_false_iff.mpr λq=>?_;have e:D=tp:=ABR (beq_iff_eq.mp q);subst e;unfold clsIn at hcD;split at hcD
  ·rename_i c' d' cd' sl' ho
   have z:=(X _ _ ho).symm.trans htp;exfalso;cases z
  ·exact ff_ hcD
 ca:=λX I k=>Si X I F' k
theorem N2(he:h.get? e=aj o)(hc:o.cls=.ref D)(hd:o.dict=au)(hf:∃ws,o.data=.fields ws):PySem.W.InstAt h e o D au:=by
 refine oE hf λws hf=>⟨he,hc,?_,?_⟩
 ·obtain⟨c,dd,dt,sl⟩:=o;simp only at hf;subst hf;rfl
 ·rw[hd];trivial
theorem bH(X:K.In T.h0)(cls:∀c D,c∈Hu->T.exc c=aj D->Yd K D)
 (one:∀c k D w,c∈Hu->k<10->T.exc c=aj D->XcV T k w->kitOne K (.ref D) w=aj (Cq c k)):Rl T:=by
 intro c k D w hc hk hD hw A Q E s e o vs hz he hcl hdi hd h;exact kia_one (Ub (ox:=o) (cls c D hc hD)) (λa o e=>hz a o (X a o e)) (N2 he hcl hdi ⟨vs,hd⟩) (one c k D w hc hk hD hw) (by intro q;exfalso;cases q) h
theorem cG(X:K.In T.h0)
 (one:∀c k D w,c∈Hu->k∈Hu->T.exc c=aj D->T.exc k=aj w->kitCls K (.ref D) (.ref w)=aj (Cq c k)/\kitCls K (.ref w) (.type "BaseException")=aj true):Rn T:=by
 intro c k D w hc hk hD hw A Q E s e o vs hz he hcl hdi hd h;have X':K.In s.heap:=λa o e=>hz a o (X a o e);refine oA (one c k D w hc hk hD hw) λe1 e2=>oAA (kit_cls (M:=model T.prog T.w) X' e1) λL1 L2 L3=>oAA (kit_cls (M:=model T.prog T.w) X' e2) λ_ _ L4=>?_;have LT:Looks (model T.prog T.w) s.heap (isInstance (.ref w) (.type "tuple")) false:=L1.andThen (Looks.of_pure (by rw[isSubtype_type];kernel_rfl));unfold excMatches;refine AAD (LT.at ?_);have LE:Looks (model T.prog T.w) s.heap (isExcClass (.ref w)) true:=by unfold isExcClass;exact L2.andThen L4
 simp only[AC7,if_false,pure_bind,List.forIn_cons,List.forIn_nil];refine AAD (AAD (AAD (LE.at ?_)));simp only[Bool.not_true,AC7,if_false];refine AAY (AAY ?_);refine AAD (((N2 he hcl hdi ⟨vs,hd⟩).type (M:=model T.prog T.w)).at (AAD (AAD (AAD (L3.at ?_)))));generalize Cq c k=b at h ⊢;cases b with
 |true =>
  simp only[if_true];exact AAY (AAY (AAY h))
 |false =>
  simp only[AC7,if_false];exact AAY (AAY (AAY h))
open PyProof.Rows
set_option tactic.hygienic true
theorem Un{f:Addr->Option Obj}{vs:List Value}{ns:List Int}(h:IntsAre vs ns):RepDs f (ns.map .int) vs:=by
 induction h with
 |nil=>exact trivial
 |cons n t r ih=>exact⟨⟨t,rfl⟩,ih⟩
theorem UU{K:Frag}{D:Addr}(h:UV K D=true):Yd K D:=by unfold UV at h;simp only[ACS] at h;refine oA h λq_0 h6=>?_;obtain⟨⟨⟨⟨h1,h2⟩,h3⟩,h4⟩,h5⟩:=q_0;refine⟨Jw h1,Jw h2,RS h3,Es h4,Es h5,h6⟩
section
variable{w:World}{ag:Shared}{mean:ExcName->Option Value}{mg mb mN:Str->Option Value}{T:Mine.Internal.Top}
theorem S6(Tp:PyProof.Rows.Top view11 K5 mean mg mb ag.heap){n:Str}{P:Addr}(hn:(IY view11 n).isSome=true)(x:Ip mg ag.heap n P):(∃c,ag.heap.TableAt c P #[])/\∀a o fd,mg n=aj (.ref a)->ag.heap.get? a=aj o->o.data=.func fd->∃c,fd.code=.ref c/\CodeHd ag.heap c P:=by
 cases hr:IY view11 n with
 |none=>rw[hr] at hn;exact ff_ hn
 |some r =>
  refine oEA (ABL.mp hr) λd hd _=>?_;have hdn:d.name=n:=ABM (show(d.name==n)=true from AC6 (p:=λ(y:DefRec)=>y.name==n) hd);obtain⟨a,o,fd,c,P',h1,h2,h3,h4,h5,h6⟩:=Tp.tab d (ABH hd);rw[hdn] at h1;obtain⟨a',o',fd',c',oc,vs,e1,e2,e3,e4,e5,e6,e7⟩:=x;obtain rfl:=ABR (Ao h1 e1);obtain rfl:=Ao h2 e2;obtain rfl:=Data.func.inj (h3.symm.trans e3);obtain rfl:=ABR (h4.symm.trans e4);refine Fv h6.1 λo2 vs2 f1 f2 f3 f4=>?_;obtain rfl:=Ao e5 f1;obtain rfl:=Data.fields.inj (e6.symm.trans f3);obtain rfl:=ABR (Ao e7 f4);refine⟨⟨c,h6⟩,λa' o' fd' e1 e2 e3=>?_⟩;obtain rfl:=ABR (Ao h1 e1);obtain rfl:=Ao h2 e2;obtain rfl:=Data.func.inj (h3.symm.trans e3);exact⟨c,h4,.of h5 h6⟩
theorem Hb{a:Addr}{o:Obj}:∀{K:Frag},K.lookup a=aj o->(a,o)∈K
 |[],h=>Aa h
 |b::l,h=>by
  rw[AC8] at h;cases hb:a==b.1 with
  |true =>
   rw[hb] at h;obtain rfl:=AAA h;rw[ABM hb];exact .head _
  |false=>rw[hb] at h;exact .tail _ (Hb h)
theorem RJ{k:Nat}{n:Str}(h:NG.lookup k=aj n):(k,n)∈Sp:=mem_of_lookupE h
theorem Le{K:Frag}(KX:K.In ag.heap)(G:ag.heap.Ns mainGlobals mg)(KC:Kd W11 Sp [5] RB K=true){k:Nat}{a:Addr}(h:Ld mg k=aj a):W11 k=.ref a:=by refine oEA (ac h) λn h1 h2=>?_;have h3:=DA h2;have h4:=mg_of KX G (Jw (ACH.mp (Ag (AA (AA KC))) (k,n) (RJ h1)));exact Ao h4 h3
theorem PK:∀c∈Hu,∀k<10,(c,k)∈RB/\(c==k||k==1||k==0)=Cq c k:=by decide
theorem dX:∀c∈Hu,c<10/\(c==0)=false:=by decide
theorem fH{K:Frag}(KX:K.In ag.heap)(KX':K.In T.h0)(eT:T.exc=Ld mg)(G:ag.heap.Ns mainGlobals mg)(KC:Kd W11 Sp [5] RB K=true):Rl T:=by
 refine bH (K:=K) KX' (λc D hc hD=>?_) λc k D v hc hk hD hv=>?_
 ·have h1:=ACH.mp (Ag (AA KC)) c hc;rw[Le KX G KC (eT▸hD)] at h1;exact UU h1
 ·have h1:=Es (AA (ACH.mp (Ag KC) (c,k) (PK c hc k hk).1));have e1:=Le KX G KC (eT▸hD);have e2:W11 k=v:=by
   have hv:bif Nat.beq k 0 then v=.type "ValueError" else∃a,T.exc k=aj a/\v=.ref a:=hv;cases q:Nat.beq k 0 with
   |true=>rw[q] at hv;rw[ADH q];exact Eq.symm hv
   |false=>rw[q] at hv;refine oEA hv λa ha e=>?_;rw[show v=.ref a from e];exact Le KX G KC (eT▸ha)
  rw[e1,e2] at h1;exact h1.trans (congrArg aj (PK c hc k hk).2)
theorem gO{K:Frag}(KX:K.In ag.heap)(KX':K.In T.h0)(eT:T.exc=Ld mg)(G:ag.heap.Ns mainGlobals mg)(KC:Kd W11 Sp [5] RB K=true):Rn T:=by refine cG (K:=K) KX' λc k D v hc hk hD hv=>?_;refine oA (dX k hk) λh0 h1=>?_;have h2:=Ag (ACH.mp (Ag KC) (c,k) (PK c hc k h0).1);have h2:=(ABC.mp h2).resolve_left λq=>tt_ (q.symm.trans h1);have h3:=Es (AA h2);have h4:=Es (Ag h2);rw[Le KX G KC (k:=c) (eT▸hD),Le KX G KC (k:=k) (eT▸hv)] at h3;rw[Le KX G KC (k:=k) (eT▸hv)] at h4;exact⟨h3.trans (congrArg aj (PK c hc k h0).2),h4⟩
theorem dM{t u v a:Addr}{n1 n2 n3 q q':Str}(htu:t≠u)(htv:t≠v)(huv:u≠v)(h:(a,q)∈[(t,n1),(u,n2),(v,n3)])(h':(a,q')∈[(t,n1),(u,n2),(v,n3)]):q=q':=by
 have k:∀{q:Str},(a,q)∈[(t,n1),(u,n2),(v,n3)]->(a=t/\q=n1)\/(a=u/\q=n2)\/(a=v/\q=n3):=λh=>by
  rcases AAR.mp h with h|h
  ·exact .inl (ABK h)
  rcases AAR.mp h with h|h
  ·exact .inr (.inl (ABK h))
  ·exact .inr (.inr (ABK (AAJ.mp h)))
 rcases k h with⟨e,x⟩|⟨e,x⟩|⟨e,x⟩<;>rcases k h' with⟨e',y⟩|⟨e',y⟩|⟨e',y⟩<;>first|exact x.trans y.symm|exact absurd (e.symm.trans e') ‹_› | exact absurd (e'.symm.trans e) ‹_›
noncomputable abbrev KD(w:World)(s:Shared)(mg mN:Str->Option Value)(t u v C:Addr):Mine.Internal.Top:=⟨PySem.Challenge.rw_uf010019_11.row.prog,w,J7 s.heap [t,u,v],Ij mg mN,[(t,Ep nm1),(u,Ep nm2),(v,Ep nm3)],s.gens,s.os,C,Ld mg⟩
theorem law11(run:∀ns:List Int,ns.length<=63->∃U',SSs 23 MC.body (BD MC [.d (.list (ns.map .int))]) [] (Rk (vb true) U'))
 (Tp:PyProof.Rows.Top view11 K5 mean mg mb ag.heap) (TE:TopE view11 K5 mg ag.heap) (AP:Ap nm1 nm2 nm3 mg ag.heap) {K:Frag} (KX:K.In ag.heap) (KC:Kd W11 Sp [5] RB K=true) {fa l:Addr} {vs:List Value} {ns:List Int} (hmg:mg (ACC "law")=aj (.ref fa)) (hL:ag.heap.IsList l vs.toArray) (hI:IntsAre vs ns) (hn:ns.length<=63) {Q:Value->Shared->Prop} {E:Value->Shared->Prop}
 (hQ:∀s',OldK ag.heap s'.heap->s'.gens=ag.gens->s'.os=ag.os->Q (.bool true) s') :
 wpAny (model PySem.Challenge.rw_uf010019_11.row.prog w) callerA (call (.ref fa) [.ref l]) Q E ag:=by
 obtain⟨t,u,v,t1,u1,v1,htu,htv,huv⟩:=AP;refine oA (S6 Tp (by kernel_rfl) t1) λq_0 t3=>?_;obtain⟨ct,t2⟩:=q_0;refine oA (S6 Tp (by kernel_rfl) u1) λq_0 u3=>?_;obtain⟨cu,u2⟩:=q_0;refine oA (S6 Tp (by kernel_rfl) v1) λq_0 v3=>?_;obtain⟨cv,v2⟩:=q_0;refine DC (TE.topC Lj (ABH Pq)) λC N mN hC P=>?_;have hcn:Lj.name=NN:=ABM (show(Lj.name==NN)=true from AC6 (p:=λ(y:ClsRec)=>y.name==NN) Pq);rw[hcn] at hC;have H:Hid (KD w ag mg mN t u v C) ag.heap [t,u,v]:=⟨rfl,ae t2.2 (ae u2.2 (AQ v2.2))⟩
 have KX':K.In (J7 ag.heap [t,u,v]):=λa o e=>(Gb λq=>by have h2:=Ao (KX a o e) (H.tab a q);have h3:=ACH.mp (AA (AA (AA KC))) (a,o) (Hb e);rw[h2] at h3;exact ff_ h3).trans (KX a o e)
 have ok:Km (KD w ag mg mN t u v C):=by
  refine W7 (Z1 t u v) Tp Pq Z6 hC P rfl rfl rfl H (Tp.seer (by decide +kernel)) rfl (λa q q' h h'=>?_) (fH KX KX' rfl Tp.g KC) (gO KX KX' rfl Tp.g KC) λx a q hx e=>?_
  ·exact dM htu htv huv h h'
  ·rcases ZV hx e with⟨q1,q2,q3⟩|⟨q1,q2,q3⟩|⟨q1,q2,q3⟩
   ·rw[q1,q2,q3];exact⟨.head _,rfl,t3⟩
   ·rw[q1,q2,q3];exact⟨.tail _ (.head _),rfl,u3⟩
   ·rw[q1,q2,q3];exact⟨.tail _ (.tail _ (.head _)),rfl,v3⟩
 have hfa:(KD w ag mg mN t u v C).fn 34=aj fa:=by show Ij mg mN 34=aj fa;rw[Ho (x:=(34,ACC "law",MC,_)) rfl,hmg];rfl
 refine Jd hL λo ho hc m hd=>?_;have hle:∀{a:Addr},ag.heap.get? a=aj (tabObj #[])->l≠a:=λ{a} ha e=>by subst e;have:=congrArg Obj.data (Ao ho ha);rw[hd] at this;cases this
 have hne:∀a,a∈[t,u,v]->l≠a:=ae (hle t2.2) (ae (hle u2.2) (AQ (hle v2.2)));let g:G:=⟨λa=>if a∈[t,u,v] then au else ag.heap.get? a,λ_=>au,[]⟩
 have gne:∀{a:Addr},a∉[t,u,v]->g.fz a=ag.heap.get? a:=λh=>if_neg h;have geq:∀{a:Addr},a∈[t,u,v]->g.fz a=au:=λh=>if_pos h;have gz:∀{a:Addr} {o:Obj},g.fz a=aj o->ag.heap.get? a=aj o:=λ{a o} e=>by
  by_cases q:a∈[t,u,v]
  ·exact Aj (geq q) e
  ·rw[gne q] at e;exact e
 have tabs:∀a,a∈[t,u,v]->ag.heap.get? a=aj (tabObj #[]):=ae t2.2 (ae u2.2 (AQ v2.2));have has:Has (KD w ag mg mN t u v C) g [] ag:=by
  refine⟨λa o e=>gz e,λa o e=>Aa e,rfl,ABY,(λa h=>nomatch h),λa o e=>Aa e,λk a o _ e=>Aa e,λa o e=>?_,λa q h R_ k=>?_,rfl,rfl⟩
  ·have e:(J7 ag.heap [t,u,v]).get? a=aj o:=e;by_cases q:a∈[t,u,v]
   ·exact Aj (N4 q) e
   ·rw[Gb q] at e;exact(gne q).trans e
  ·have hm:a∈[t,u,v]:=by show a∈[(t,Ep nm1),(u,Ep nm2),(v,Ep nm3)].map (·.1);exact AAZ (f:=(·.1)) h
   exact k #[] (geq hm) rfl ((λh=>nomatch h)) (tabs a hm) trivial λpos cv e=>Aa e
 have r:As (KD w ag mg mN t u v C) g [.d (.list (ns.map .int))] [.ref l]:=⟨λR_ k=>k l o vs.toArray m ((gne λq=>hne l q rfl).trans ho) hc hd (by rw[List.toList_toArray];exact Un hI) (by rw[AAB];exact AAC hn (by decide)),trivial⟩
 refine oE (run ns hn) λU' hrun=>?_;have fin:=FA.run (f:=34) (fn:=MC) (n:=23) (r:=⟨KD w ag mg mN t u v C,[],callerA⟩) (by unfold Pg;rfl) rfl hrun (by decide) hfa ok rfl (show callerA.depth+(23+1)<=600 by decide) (show callerA.units+100*(23+1)<=9000 by decide) ⟨.inl rfl,rfl⟩ (λe he=>nomatch he) has r;refine AAO fin (λx s' p=>p _ λg' le H' rx=>?_) λ_ _ h=>h.elim;obtain rfl:x=.bool true:=rx;have keep:∀b o,b∉[t,u,v]->ag.heap.get? b=aj o->s'.heap.get? b=aj o:=λb o q e=>H'.fz b o (le.fz b o ((gne q).trans e));have tab:∀a,a∈[t,u,v]->∃ps,s'.heap.get? a=aj (tabObj ps):=ae (H'.tb t (Ep nm1) (.head _) _ λps _ _ _ h _ _=>⟨ps,h⟩) (ae (H'.tb u (Ep nm2) (.tail _ (.head _)) _ λps _ _ _ h _ _=>⟨ps,h⟩) (AQ (H'.tb v (Ep nm3) (.tail _ (.tail _ (.head _))) _ λps _ _ _ h _ _=>⟨ps,h⟩)));have ist:∀a,a∈[t,u,v]->isCodeTable ag.heap a:=ae t2.isCodeTable (ae u2.isCodeTable (AQ v2.isCodeTable));refine hQ s' ⟨λb o e=>?_,λb o e=>?_⟩ H'.gens H'.os
 ·by_cases q:b∈[t,u,v]
  ·refine oE (tab b q) λps hps=>?_;obtain rfl:=Ao (tabs b q) e;exact .inr (.inl ⟨ist b q,rfl,#[],ps,rfl,by rw[Array.empty_append];exact hps⟩)
  ·exact .inl (keep b o q e)
 ·by_cases q:b∈[t,u,v]
  ·refine oE (tab b q) λps hps=>?_;exact⟨_,hps⟩
  ·exact⟨o,keep b o q e⟩
end
end Mine.Internal
namespace Mine.Internal
open PySem
noncomputable def Tx(l:List Nat):Str:=⟨l.toArray⟩
theorem P2(a b:List Nat):Tx a++Tx b=Tx (a++b):=by show Str.append _ _=_;simp[Str.append,Tx]
theorem GD(a:List Nat):(Tx a).length=a.length:=by simp[Str.length,Tx]
theorem XK(a:List Nat):(Tx a).cps.size=a.length:=by simp[Tx]
theorem IJ(a:List Nat):(Tx a).cps.toList=a:=by simp[Tx]
theorem FQ(h:Tx a=Tx b):a=b:=by have:=congrArg (λs=>s.cps.toList) h;simpa[Tx] using this
theorem Pz(x:Str):Tx x.cps.toList=x:=by simp[Tx]
theorem VD(lo hi:Option Int)(a:List Nat):K9 lo hi (Tx a)=Tx (CX lo hi a):=by simp[K9,Tx]
theorem mM(a:List Nat)(i:Int):Txt.charAt (Tx a) i=(seqIndex? i a.length).bind (a[·]?):=by simp[Txt.charAt,Tx,Str.length]
theorem Ol(a b:List Nat):By (Tx a) (Tx b)=decide (a<b):=by unfold By;congr
theorem M4(a b:List Nat):(Tx a==Tx b)=decide (a=b):=by
 by_cases h:a=b
 ·subst h;simp
 ·have h1:Tx a≠Tx b:=λe=>h (FQ e);simp[h,h1]
noncomputable abbrev vs(l:List Nat):V:=.d (.str (Tx l))
noncomputable abbrev dl(l:List (List Nat)):PyData:=.list (l.map λt=>.str (Tx t))
section
variable{O:Orc}{J:Al}{U:Ac}{a b r i es lo hi:E}{op:Operator}{cop:CmpOp}{bop:BoolOp}
theorem dK:(ev O (.bin op a b)).v J U=((ev O a).v J U).bind λx=>((ev O b).v J U).bind λy=>Hv op x y U:=rfl
theorem dO:(ev O (.not a)).t J U=HH ((ev O a).t J U):=rfl
theorem dJ:(ev O (.cmp cop a b)).v J U=((ev O a).v J U).bind λx=>((ev O b).v J U).bind λy=>(BU cop x y U).bind λt=>aj (vb t):=rfl
theorem dP:(ev O (.cmp cop a b)).t J U=((ev O a).v J U).bind λx=>((ev O b).v J U).bind λy=>BU cop x y U:=rfl
theorem dG:(ev O (.tup es)).v J U=((ev O es).row J U).bind We:=rfl
theorem dH:(ev O (.sub a i)).v J U=((ev O a).v J U).bind λx=>((ev O i).v J U).bind λy=>BK x y U:=rfl
theorem oF{b:Bi}:(ev O (.bi b es)).v J U=((ev O es).row J U).bind (Cl b U):=rfl
theorem Wb{f:Nat}:(ev O (.fcall f es)).v J U=((ev O es).row J U).bind λxs=>O f xs U:=rfl
theorem ZD:(ev O (.cons a r)).row J U=((ev O a).v J U).bind λx=>((ev O r).row J U).bind λxs=>aj (x::xs):=rfl
theorem PJ:(ev O (.bop bop es)).t J U=(ev O es).bt bop J U:=rfl
theorem Wl{f:Nat}:(ev O (.fcall f es)).t J U=(((ev O es).row J U).bind λxs=>O f xs U).bind (Go U):=rfl
theorem oI{b:Bi}:(ev O (.bi b es)).t J U=(((ev O es).row J U).bind (Cl b U)).bind (Go U):=rfl
theorem HX:(ev O (.cons a r)).bt bop J U=((ev O a).t J U).bind λt=>bif t==Do bop then aj t else(ev O r).bt bop J U:=rfl
theorem ZC:(ev O (.cons a r)).ts J U=((ev O a).t J U).bind λt=>bif t then(ev O r).ts J U else aj false:=rfl
theorem dI:(ev O (.slc a lo hi)).v J U=((ev O a).v J U).bind λx=>(Nd lo (ev O lo).v J U).bind λl=>(Nd hi (ev O hi).v J U).bind λh=>slice U x l h:=rfl
theorem bs{α β:Type}{a:α}{f:α->Option β}:(aj a).bind f=f a:=rfl
end
theorem Il(h:(small i||small j)=true):Hv .Mult (vi i) (vi j) U=aj (vi (i*j)):=by show(if (small i||small j)=true then aj (i*j) else au).bind _=_;exact(if_pos h)▸rfl
theorem CN(h:j≠0):Hv .FloorDiv (vi i) (vi j) U=aj (vi (i.fdiv j)):=by show(if j=0 then au else aj (i.fdiv j)).bind _=_;exact(if_neg h)▸rfl
theorem AV(h:j≠0):Hv .Mod (vi i) (vi j) U=aj (vi (i.fmod j)):=by show(if j=0 then au else aj (i.fmod j)).bind _=_;exact(if_neg h)▸rfl
theorem Lo(a b:List Nat)(h:a.length+b.length<=line):Hv .Add (vs a) (vs b) U=aj (vs (a++b)):=by show(if (Tx a).length+(Tx b).length<=line then aj (V.d (.str (Tx a++Tx b))) else au)=_;rw[if_pos (by rw[GD,GD];exact h),P2]
theorem Dl(l:List PyData):FM (l.map .d)=aj l:=by
 induction l with
 |nil=>rfl
 |cons x r ih =>
  show(FM (r.map .d)).bind (λxs=>aj (x::xs))=_;exact ih▸rfl
theorem HL(l:List PyData)(h:l.length<=line):mkL (l.map .d)=aj (.d (.list l)):=by unfold mkL;rw[if_pos (lml h),Dl];rfl
theorem Ki(a b:List PyData)(h:a.length+b.length<=line):Hv .Add (.d (.list a)) (.d (.list b)) U=aj (.d (.list (a++b))):=by show((if (a.map V.d).length+(b.map V.d).length<=line then aj (a.map V.d++b.map V.d) else au).bind mkL)=_;rw[if_pos (by rw[AAB,AAB];exact h),<-AAQ];exact HL _ (AAF▸h)
theorem Ql:Cl .len U [vs l]=aj (vi l.length):=by show aj (vi ((Tx l).cps.size:Nat))=_;rw[XK]
theorem CK:Cl .len U [.d (.list l)]=aj (vi l.length):=by show aj (vi ((l.map V.d).length:Nat))=_;rw[AAB]
theorem Yq(h:U[k]? = aj (.list ws)):Cl .len U [.ref k]=aj (vi ws.length):=by show(DE U[k]?).bind _=_;exact h▸rfl
theorem Qi(h:U[k]? = aj (.list ws)):A8 U (.ref k)=aj ws:=by show DE U[k]? = _;exact h▸rfl
theorem BL:BU .Eq (vi i) (vi j) U=aj (decide (i=j)):=by
 show aj (i==j)=_;by_cases h:i=j
 ·rw[AAI h,beq_iff_eq.mpr h]
 ·rw[AAT h,beq_eq_false_iff_ne.mpr h]
theorem GB:BU .Eq (vs a) (vs b) U=aj (decide (a=b)):=by show aj (Tx a==Tx b)=_;rw[M4]
theorem HJ:BU .NotEq (vs a) (vs b) U=aj (!decide (a=b)):=by show HH (aj (Tx a==Tx b))=_;rw[M4];rfl
theorem Ps:BU .Lt (vi i) (vi j) U=aj (decide (i<j)):=rfl
theorem NU:BU .Gt (vi i) (vi j) U=aj (decide (i>j)):=rfl
theorem pE:BU .GtE (vi i) (vi j) U=aj (decide (i≥j)):=rfl
theorem Lk:BU .NotIn x y U=HH (inV U x y):=rfl
theorem XF:BU .In x y U=inV U x y:=rfl
theorem Q0(a:List Nat)(l:List (List Nat)):inD (.str (Tx a)) (l.map λt=>.str (Tx t))=aj (decide (a∈l)):=by
 induction l with
 |nil=>rfl
 |cons b l ih =>
  show(aj (Tx b==Tx a)).bind (λx=>(inD (.str (Tx a)) (l.map λt=>.str (Tx t))).bind λy=>aj (x||y))=_;rw[ih,M4];show aj (decide (b=a)||decide (a∈l))=_;rw[<-Bool.decide_or];congr 1;exact decide_eq_decide.mpr (by rw[AAR,eq_comm])
theorem CE(a:List Nat)(l:List (List Nat)):inV U (vs a) (.d (dl l))=aj (decide (a∈l)):=Q0 a l
theorem Ut{l:List (List Nat)}(h:U[k]? = aj (.list (l.map vs))):inV U (vs a) (.ref k)=aj (decide (a∈l)):=by show inO U (vs a) k U[k]? = _;rw[h];show(TP (DE U[k]?)).bind _=_;rw[h];show((FM (l.map vs)).bind λxs=>aj (PyData.list xs)).bind _=_;rw[show l.map vs=(l.map λt=>PyData.str (Tx t)).map V.d by rw[AAE];rfl,Dl];exact Q0 a l
theorem dU{k:Int}{n:Nat}(h0:0<=k)(h:k<n):seqIndex? k n=aj k.toNat:=by
 have h1:=by exact Za h0
 simp[seqIndex?,h1,h0,h]
theorem MQ(h1:-1000000000000<i)(h2:i<1000000000000):small i=true:=by simp[small];exact lS h1 h2
theorem OJ(k:Int)(h0:0<=k)(hs:k<9223372036854775808)(h:ws[k.toNat]? = aj v):nth ws k=aj v:=by have h1:=(AAM.mp h).1;unfold nth;rw[if_pos (by simp[small];exact YZ h0 hs rfl),dU h0 (YJ h0 h1)];exact h
theorem Eb(k:Int)(h0:0<=k)(hs:k<9223372036854775808)(h:l[k.toNat]? = aj y):BK (.d (.list l)) (vi k) U=aj (.d y) :=
 OJ k h0 hs ((ABI)▸h▸rfl)
theorem cJ(k:Int)(h0:0<=k)(hs:k<9223372036854775808)(hj:U[j]? = aj (.list ws))(h:ws[k.toNat]? = aj v):BK (.ref j) (vi k) U=aj v:=by show Rt U (vi k) U[j]? = _;exact hj▸OJ k h0 hs h
theorem QV(k:Int)(h0:0<=k)(hs:k<9223372036854775808)(h:l[k.toNat]? = aj y):BK (vs l) (vi k) U=aj (vs [y]):=by have h1:=(AAM.mp h).1;show(if small k=true then(Txt.charAt (Tx l) k).bind λc=>aj (V.d (.str (NS c))) else au)=_;rw[if_pos (by simp[small];exact YZ h0 hs rfl),mM,dU h0 (YJ h0 h1)];show(l[k.toNat]?).bind _=_;exact h▸rfl
theorem T5(h:ws[ws.length-1]? = aj v):nth ws (-1)=aj v:=by
 have h1:=(AAM.mp h).1;unfold nth;rw[if_pos (by decide)];have h4:=by exact iB h1
 have h5:(-1+(ws.length:Int))<ws.length:=by exact iC
 have h6:=by exact iA h1
 exact(show seqIndex? (-1) ws.length=aj (ws.length-1) by simp[seqIndex?,h4,h5,h6])▸h
theorem NO(n k:Nat):clipAt n (k:Int)=min k n:=by
 show(max 0 (min (if (k:Int)<0 then(k:Int)+n else k) n)).toNat=_;rw[if_neg (Int.not_lt.mpr (AB6 k))];rcases Nat.le_total k n with h|h
 ·rw[Int.min_eq_left (Int.ofNat_le.mpr h),ACL h,Int.max_eq_right (AB6 _)];rfl
 ·rw[Int.min_eq_right (Int.ofNat_le.mpr h),Nat.min_eq_right h,Int.max_eq_right (AB6 _)];rfl
theorem Vk{α:Type}(l:List α)(k:Nat):CX au (aj (k:Int)) l=l.take k:=by
 have:=NO l.length k;simp only[CX,Option.elim,this,List.drop_zero,Nat.sub_zero];rcases Nat.le_total k l.length with h|h
 ·rw[ACL h]
 ·rw[Nat.min_eq_right h,List.take_of_length_le (AAL _),List.take_of_length_le h]
theorem NK{α:Type}(l:List α)(k:Nat):CX (aj (k:Int)) au l=l.drop k:=by
 have:=NO l.length k;simp only[CX,Option.elim,this];rcases Nat.le_total k l.length with h|h
 ·rw[ACL h,List.take_of_length_le (by simp)]
 ·rw[Nat.min_eq_right h];simp[List.drop_eq_nil_of_le h]
theorem SM(k:Nat):slice U (vs a) au (aj (k:Int))=aj (vs (a.take k)):=by show aj (V.d (.str (K9 au (aj (k:Int)) (Tx a))))=_;rw[VD,Vk]
theorem PN(k:Nat):slice U (vs a) (aj (k:Int)) au=aj (vs (a.drop k)):=by show aj (V.d (.str (K9 (aj (k:Int)) au (Tx a))))=_;rw[VD,NK]
theorem Z8(h0:0<=i):slice U (vs a) au (aj i)=aj (vs (a.take i.toNat)):=by rw[<-SM,ADU h0]
theorem SN(h0:0<=i):slice U (vs a) (aj i) au=aj (vs (a.drop i.toNat)):=by rw[<-PN,ADU h0]
theorem Wt(h0:0<=i)(hl:l.length<=line):slice U (.d (.list l)) au (aj i)=aj (.d (.list (l.take i.toNat))):=by show mkL (CX au (aj i) (l.map V.d))=_;rw[<-ADU h0,Vk,<-List.map_take];exact HL _ (AAC (ACP▸Nat.min_le_right _ _) hl)
theorem HA(h0:0<=i)(hl:l.length<=line):slice U (.d (.list l)) (aj i) au=aj (.d (.list (l.drop i.toNat))):=by show mkL (CX (aj i) au (l.map V.d))=_;rw[<-ADU h0,NK,<-List.map_drop];exact HL _ (AAC (ADE▸Nat.sub_le _ _) hl)
theorem Bc(i:Int)(h:0<j):0<=i.fmod j/\i.fmod j<j:=⟨Int.fmod_nonneg_of_pos i h,Int.fmod_lt_of_pos i h⟩
theorem Zv(lo:Int)(n:Nat):upV lo n=(List.range n).map λj:Nat=>vi (lo+(j:Int)):=by
 induction n generalizing lo with
 |zero=>rfl
 |succ n ih =>
  show vi lo::upV (lo+1) n=_;rw[ih,List.range_succ_eq_map];simp only[ABP,AAE];congr 1
  ·simp
  ·apply AC4;intro j _;show vi (lo+1+(j:Int))=vi (lo+((j+1:Nat):Int));rw[Int.natCast_add,Int.add_assoc,Int.add_comm 1];rfl
theorem up0(n:Nat):upV 0 n=(List.range n).map λj:Nat=>vi (j:Int):=by simp[Zv]
section
variable{α:Type}{O:Orc}{J:Al}{U:Ac}{elt ifs it:E}{t:Nat}{l:List α}{m:Int}
theorem itr(h:(ev O es).row J U=aj [vi m])(h1:m<=1000000)(h2:-1000000<=m):(ev O (.range es)).it J U=aj ((List.range m.toNat).map (λj:Nat=>vi (j:Int)),[]):=by show((ev O es).row J U).bind Tm=_;rw[h];show(if m<=1000000/\-1000000<=m then aj (upV 0 m.toNat,[]) else au)=_;rw[if_pos ⟨h1,h2⟩,up0]
theorem Dx{f:V->Option (Option V)}(w:α->V)(g:α->Option V):∀(l:List α),(∀a∈l,f (w a)=aj (g a))->DZ f (l.map w)=aj (l.filterMap g)
 |[],_=>rfl
 |a::l,h=>by show(f (w a)).bind (λx=>(DZ f (l.map w)).bind λxs=>aj (match x with|some y=>y::xs|none=>xs))=_;rw[h a (.head _),bs,Dx w g l λb hb=>h b (.tail _ hb),bs,ADD];cases g a<;>rfl
theorem NE{β:Type}(p:α->Bool)(g:α->β):∀l:List α,(l.filterMap λa=>if p a then aj (g a) else au)=(l.filter p).map g
 |[]=>rfl
 |a::l=>by cases h:p a<;>simp[ADD,List.filter_cons,h,NE p g l]
theorem Dh(w:α->V)(p:α->Bool)(g:α->V)(hi:(ev O it).it J U=aj (l.map w,kps))(hl:l.length<=line)
 (hp:∀a∈l,(ev O ifs).ts ((J.set t au).set t (aj (w a))) U=aj (p a))
 (hg:∀a∈l,p a=true->(ev O elt).v ((J.set t au).set t (aj (w a))) U=aj (g a)):(ev O (.comp elt [t] it ifs)).nl J U=aj ((l.filter p).map g):=by
 show(((ev O it).it J U).bind λq=>DZ _ q.1).bind _=_;rw[hi];show(DZ _ (l.map w)).bind _=_;rw[Dx w (λa=>if p a then aj (g a) else au) l λa ha=>?_,bs,NE]
 ·exact if_pos (AAC (lml (AAX _ _)) hl)
 ·show((ev O ifs).ts ((J.set t au).set t (aj (w a))) U).bind _=_;rw[hp a ha,bs];cases h:p a with
  |true =>
   show((ev O elt).v ((J.set t au).set t (aj (w a))) U).bind _=_;rw[hg a ha h];rfl
  |false=>rfl
theorem G5{ds:List PyData}(h:(ev O (.comp elt [t] it ifs)).nl J U=aj (ds.map .d)):(ev O (.comp elt [t] it ifs)).v J U=aj (.d (.list ds)):=by refine oEA (ac h) λws h1 q=>oA (Bo q) λq1 q2=>?_;show(((ev O it).it J U).bind λp=>DZ _ p.1).bind mkL=_;exact(show(((ev O it).it J U).bind λp=>DZ _ p.1)=aj ws from h1)▸q2▸bs▸HL _ (by rw[<-AAB,<-q2];exact q1)
end
section
variable{O:Orc}{J:Al}{U:Ac}{a b i es:E}{op:Operator}{cop:CmpOp}{x y z:V}{p q:Bool}{xs:List V}
theorem Af(h1:(ev O a).v J U=aj x)(h2:(ev O b).v J U=aj y)(h3:Hv op x y U=aj z):(ev O (.bin op a b)).v J U=aj z:=by rw[dK,h1,bs,h2,bs];exact h3
theorem Ae(h1:(ev O a).v J U=aj x)(h2:(ev O i).v J U=aj y)(h3:BK x y U=aj z):(ev O (.sub a i)).v J U=aj z:=by rw[dH,h1,bs,h2,bs];exact h3
theorem An(h1:(ev O a).v J U=aj x)(h2:(ev O b).v J U=aj y)(h3:BU cop x y U=aj p):(ev O (.cmp cop a b)).t J U=aj p:=by rw[dP,h1,bs,h2,bs];exact h3
theorem EO(h1:(ev O a).v J U=aj x)(h2:(ev O b).v J U=aj y)(h3:BU cop x y U=aj p):(ev O (.cmp cop a b)).v J U=aj (vb p):=by rw[dJ,h1,bs,h2,bs,h3];rfl
theorem NJ(h1:(ev O a).v J U=aj x)(h2:(ev O r).row J U=aj xs):(ev O (.cons a r)).row J U=aj (x::xs):=by rw[ZD,h1,bs,h2];rfl
theorem Az(h1:(ev O a).v J U=aj x):(ev O (.cons a .nil)).row J U=aj [x]:=NJ h1 rfl
theorem AY(h1:(ev O a).v J U=aj x)(h2:(ev O b).v J U=aj y):(ev O (.cons a (.cons b .nil))).row J U=aj [x,y]:=NJ h1 (Az h2)
theorem Ms(h1:(ev O a).v J U=aj x)(h2:(ev O b).v J U=aj y)(h3:(ev O c).v J U=aj z):(ev O (.cons a (.cons b (.cons c .nil)))).row J U=aj [x,y,z]:=NJ h1 (AY h2 h3)
theorem AU{b:Bi}(h1:(ev O es).row J U=aj xs)(h2:Cl b U xs=aj z):(ev O (.bi b es)).v J U=aj z:=by rw[oF,h1,bs];exact h2
theorem Fc{f:Nat}(h1:(ev O es).row J U=aj xs)(h2:O f xs U=aj z):(ev O (.fcall f es)).v J U=aj z:=by rw[Wb,h1,bs];exact h2
theorem Lh{f:Nat}(h1:(ev O es).row J U=aj xs)(h2:O f xs U=aj (vb p)):(ev O (.fcall f es)).t J U=aj p:=by rw[Wl,h1,bs,h2];rfl
theorem Dp(h:(ev O a).t J U=aj p):(ev O (.not a)).t J U=aj (!p):=by rw[dO,h];rfl
theorem Dk{v:V}(h:(ev O es).row J U=aj xs)(h2:We xs=aj v):(ev O (.tup es)).v J U=aj v:=by rw[dG,h,bs];exact h2
theorem DY(h1:(ev O a).t J U=aj p)(h2:p=false->(ev O b).t J U=aj q):(ev O (.bop .Or (.cons a (.cons b .nil)))).t J U=aj (p||q):=by
 rw[PJ,HX,h1,bs];cases p with
 |true=>rfl
 |false =>
  rw[HX,h2 rfl,bs];cases q<;>rfl
theorem Cz(h1:(ev O a).t J U=aj p)(h2:p=true->(ev O b).t J U=aj q):(ev O (.bop .And (.cons a (.cons b .nil)))).t J U=aj (p&&q):=by
 rw[PJ,HX,h1,bs];cases p with
 |false=>rfl
 |true =>
  rw[HX,h2 rfl,bs];cases q<;>rfl
theorem Vd(h1:(ev O a).t J U=aj p)(h2:p=true->(ev O b).t J U=aj q)(h3:p=true->q=true->(ev O c).t J U=aj s):(ev O (.bop .And (.cons a (.cons b (.cons c .nil))))).t J U=aj (p&&(q&&s)):=by
 rw[PJ,HX,h1,bs];cases p with
 |false=>rfl
 |true=>exact Cz (q:=s) (h2 rfl) λe=>h3 rfl e
theorem Yz(h1:(ev O a).t J U=aj p)(h2:p=false->(ev O b).t J U=aj q)(h3:p=false->q=false->(ev O c).t J U=aj s):(ev O (.bop .Or (.cons a (.cons b (.cons c .nil))))).t J U=aj (p||(q||s)):=by
 rw[PJ,HX,h1,bs];cases p with
 |true=>rfl
 |false=>exact DY (q:=s) (h2 rfl) λe=>h3 rfl e
theorem FG(h1:(ev O a).t J U=aj p):(ev O (.cons a .nil)).ts J U=aj p:=by rw[ZC,h1,bs];cases p<;>rfl
theorem QO(h1:(ev O a).v J U=aj (vb p))(h2:p=true->(ev O b).v J U=aj (vb q)):(ev O (.bop .And (.cons a (.cons b .nil)))).v J U=aj (vb (p&&q)):=by
 show((ev O a).v J U).bind (λx=>(Go U x).bind λt=>bif t==Do .And then aj x else(ev O (.cons b .nil)).bo .And J U)=_;rw[h1,bs];cases p with
 |false=>rfl
 |true=>exact h2 rfl
theorem len_of'(h:A8 U x=aj ws):Cl .len U [x]=aj (vi ws.length):=by
 cases x with
 |d y=>cases y with
  |list l=>rw[CK,<-AAA h,AAB]
  |_=>exact Aa h
 |ref k=>exact Yq (Dc h)
 |_=>exact Aa h
theorem SA(h:A8 U x=aj ws):BK x (vi k) U=nth ws k:=by
 cases x with
 |d y=>cases y with
  |list l=>rw[<-AAA h];rfl
  |_=>exact Aa h
 |ref j=>show Rt U (vi k) U[j]? = _;rw[Dc h];rfl
 |_=>exact Aa h
theorem tr_of'(h:A8 U x=aj ws):Go U x=aj (!ws.isEmpty):=by
 cases x with
 |d y=>cases y with
  |list l=>rw[<-AAA h,HM];rfl
  |_=>exact Aa h
 |ref j=>rw[show Go U (.ref j)=(DE U[j]?).bind λws=>aj (!ws.isEmpty) from rfl,show DE U[j]? = aj ws from h];rfl
 |_=>exact Aa h
theorem Uu{l:List (List Nat)}(h:A8 U x=aj (l.map vs)):inV U (vs w) x=aj (decide (w∈l)):=by
 cases x with
 |d y=>cases y with
  |list l' =>
   have e:=by have h1:=congrArg (λo=>o.bind FM) h;have h2:FM (l'.map V.d)=FM (l.map vs):=h1;rw[Dl,show l.map vs=(l.map λt=>PyData.str (Tx t)).map V.d by rw[AAE];rfl,Dl] at h2;exact AAA h2
   exact e▸CE w l
  |_=>exact Aa h
 |ref j=>exact Ut (Dc h)
 |_=>exact Aa h
end
section
variable{P:Fl->Ac->Prop}
theorem CG{M:Al->Ac->Prop}(h:Ak C (λfl U'=>∃J',fl=.next J'/\M J' U') (.cons st .nil) J U)(k:∀J' U',M J' U'->Ak C P r J' U'):Ak C P (.cons st r) J U:=by refine AH h λfl U' q_2 h2=>?_;obtain⟨J',rfl,h1⟩:=q_2;exact CD (fl:=.next J') (λQ q=>SS.mono (λf s e=>by rw[e.1,e.2];exact q) (.of1 h2)) (k J' U' h1)
end
noncomputable def CB(c k:Int):Int:=((c+7919*k)*48271).fmod 2147483647
theorem sm1(i:Int):(small 7919||small i)=true:=by rw[show small 7919=true by decide];rfl
theorem sm2(i:Int):(small i||small 48271)=true:=by rw[show small 48271=true by decide,Bool.or_true]
theorem sm4(i:Int):(small 4||small i)=true:=by rw[show small 4=true by decide];rfl
theorem smr(h1:-1000000000000<j)(h2:j<1000000000000):(small i||small j)=true:=by rw[MQ h1 h2,Bool.or_true]
noncomputable def C0(n:Nat):Cfg:=⟨n,λ_ _ _=>au,λ_ _ _ _ h=>Aa h⟩
theorem UK(c k:Int):FN 2 10 [vi c,vi k] U (vi (CB c k)) U:=by
 refine AH (FN.ends (C:=C0 1) (f:=10) (fn:=VP) (zs:=[vi c,vi k]) (R:=λv U'=>v=vi (CB c k)/\U'=U) (by unfold Pg;rfl) rfl (AAL _)
  (AE (Af (Af (Af rfl (Af rfl rfl (Il (sm1 _))) rfl) rfl (Il (sm2 _))) rfl (AV (by decide))) ⟨rfl,rfl⟩)) λv U' q_2 h=>?_
 obtain⟨h1,h2⟩:=q_2;rw[h1,h2] at h;exact h
noncomputable def eX(xs:List V):Option V:=match xs with|x::r=>(match r with|y::r=>(match r with|[]=>(CS x).bind λc=>(CS y).bind λk=>aj (vi (CB c k))|_=>au)|[]=>au)|[]=>au
theorem WG(hn:2<=n)(h:eX xs=aj v):FN n 10 xs U v U:=by
 match xs,h with
 |[],h=>exact Aa h
 |[_],h=>exact Aa h
 |[x,y],h =>
  exact oEA (ac h) λc e1 h=>oEA (ac h) λk e2 h=>(BC e1)▸(BC e2)▸(AAA h)▸(UK c k).more hn
 |_::_::_::_,h=>exact Aa h
noncomputable def Cfg.add(C:Cfg)(f:Nat)(g:List V->Ac->Option V)(h:∀xs U v,g xs U=aj v->FN C.n f xs U v U):Cfg:=⟨C.n,λf' xs U=>bif Nat.beq f' f then g xs U else C.O f' xs U,λf' xs U v e=>by
 cases q:Nat.beq f' f with
 |true=>rw[q] at e;rw[ADH q];exact h xs U v e
 |false=>rw[q] at e;exact C.ok f' xs U v e⟩
noncomputable def C1(n:Nat)(hn:2<=n):Cfg:=(C0 n).add 10 (λxs _=>eX xs) λ_ _ _ h=>WG hn h
theorem X0(sc:List Int)(k:Int)(h0:0<=k)(hk:k<1000):FN 2 9 [.d (.list (sc.map .int)),vi k] U (vi (sc.getD k.toNat 0)) U:=by
 refine AH (FN.ends (C:=C0 1) (f:=9) (zs:=[.d (.list (sc.map .int)),vi k]) (U:=U) (R:=λv U'=>v=vi (sc.getD k.toNat 0)/\U'=U) (by unfold Pg;rfl) rfl (AAL _) (by
  refine AG (An rfl (AU (Az rfl) (CK.trans (by rw[AAB]))) Ps) (λh=>?_) λh=>Ab ?_
  ·have h:=AAG h;refine AE (Ae rfl rfl (Eb k h0 (Kk hk rfl) ?_)) ⟨rfl,rfl⟩;have:k.toNat<sc.length:=by exact Kj h0 h
   simp[List.getD,this]
  ·have h:=ABG h;refine AE ?_ ⟨rfl,rfl⟩;rw[show sc.getD k.toNat 0=0 by
    have:sc.length<=k.toNat:=by exact jO h0 h
    simp[List.getD,this]]
   rfl)) λv U' q_2 h=>?_
 obtain⟨h1,h2⟩:=q_2;rw[h1,h2] at h;exact h
noncomputable def ES:List Nat:=[97,98,99,100,101,102,103,104,105,106,107,108,109,110,111,112,113,114,115,116,117,118,119,120,121,122,48,49,50,51,52,53,54,55,56,57]
noncomputable def Bt(t:List Nat):Bool:=!(decide ((t.length:Int)<1)||decide ((t.length:Int)>12))&&t.all λc=>decide (c∈ES)
theorem Qq:ACC "abcdefghijklmnopqrstuvwxyz0123456789" = Tx ES:=by decide +kernel
theorem Cj(t:List Nat):Bt t=true↔1<=t.length/\t.length<=12/\∀c∈t,c∈ES:=by
 simp only[Bt,ACS,ACV,Bool.or_eq_false_iff,decide_eq_false_iff_not,ACH,decide_eq_true_eq];constructor
 ·rintro⟨⟨h1,h2⟩,h3⟩;exact⟨by exact mF h1,by exact mE h2,h3⟩
 ·rintro⟨h1,h2,h3⟩;exact⟨⟨by exact Io h1,by exact Io h2⟩,h3⟩
noncomputable def sg(i:Int):Nat:=ES.getD i.toNat 0
theorem Yi(i:Int)(h0:0<=i)(h:i<36):ES[i.toNat]? = aj (sg i):=by
 have:i.toNat<ES.length:=by simp[ES];(with_reducible assumption)
 simp[sg,List.getD,this]
theorem OA(i:Int)(h0:0<=i)(h:i<36):sg i∈ES:=AA5 (Yi i h0 h)
theorem O5(h0:0<=i)(h:i<36):BK (vs ES) (vi i) U=aj (vs [sg i]):=QV i h0 (Kk h rfl) (Yi i h0 h)
noncomputable def num(j:Nat):List Nat:=(PL (j:Int)).cps.toList
theorem Ni:∀j:Nat,j<130->Bt (num j)=true:=by decide +kernel
theorem RF:((List.range 130).map num).Nodup:=by decide +kernel
theorem LP(h0:0<=i)(h:i<130):Cl .str U [vi i]=aj (vs (num i.toNat)):=by show(if i.natAbs<1000000000000 then aj (V.d (.str (PL i))) else au)=_;rw[if_pos (by lia)];unfold num;rw[ADU h0];simp only[vs,Pz]
theorem Ja{β:Type}[DecidableEq β]:∀(l m:List β),l.Nodup->(∀x∈l,x∈m)->l.length<=m.length
 |[],m,_,_=>by exact ABF _
 |a::l,m,hn,hs=>by
  have ha:=hs a (.head _);rw[ABX] at hn;have:=Ja l (m.erase a) hn.2 (by intro x hx;have hne:x≠a:=λe=>hn.1 (e▸hx);exact(List.mem_erase_of_ne hne).mpr (hs x (.tail _ hx)))
  rw[List.length_erase_of_mem ha] at this;have h0:0<m.length:=List.length_pos_iff.mpr (λe=>by simp[e] at ha);simp;exact kF this h0
theorem T4(l:List (List Nat))(hl:l.length<130):∃j,j<=l.length/\num j∉l:=by
 apply Classical.byContradiction;intro hno;have h1:((List.range (l.length+1)).map num).Nodup:=by
  have:(List.range (l.length+1)).map num=((List.range 130).map num).take (l.length+1):=by rw[<-List.map_take,List.take_range];congr 2;exact kG hl
  exact this▸List.Sublist.nodup (AC0 _ _) RF
 have:=Ja _ l h1 (by intro x hx;simp only[AAP,ABZ] at hx;refine oEA hx λj h2 q_2=>?_;subst q_2;apply Classical.byContradiction;intro h3;exact hno (iEA j (by(exact ACB ‹_›)) h3))
 simp at this
 (exact ABU _ ‹_›)
theorem TB(c k:Int):0<=CB c k/\CB c k<2147483647:=Bc _ (by decide)
theorem WX(l:List (List Nat))(h:l.length<=1000000)(h1:∀t∈l,t.length<=1):JoinOk (Tx []) (l.map Tx)=true:=by
 refine PyProof.Rows.joinOk_of ?_;have h2:((l.map Tx).map (·.length)).sum<=l.length:=by
  clear h
  induction l with
  |nil=>simp
  |cons a l ih =>
   have:=h1 a (by simp);have:=ih (λt ht=>h1 t (by simp[ht]));simp only[ABP,List.sum_cons,AA2,GD];exact kD ‹_› this
 simp only[GD,List.length_nil,Nat.mul_zero];exact kX h2 h rfl
theorem fF(l:List (List Nat)):Txt.join (Tx []) (l.map Tx)=Tx l.flatten:=by
 show Builtin.Str.glued _ _=_;rw[StrLaws.glued_eq_join]
 induction l with
 |nil=>rfl
 |cons a l ih =>
  induction l with
  |nil=>simp[Str.join]
  |cons b l =>
   simp only[ABP,Str.join] at ih ⊢;rw[ih,P2,P2];simp
theorem fD:ACC "" = Tx []:=by decide +kernel
theorem HN:∀l:List Str,Db Ct (vss l)=aj l
 |[]=>rfl
 |x::l=>by show(Db Ct (vss l)).bind _=_;rw[HN l];rfl
theorem QM{O:Orc}{J:Al}{m:Int}(g:Int->Nat)(hi:(ev O es).row J U=aj [vi m])(hl:m<=1000)(hl2:-1000<=m)
 (hg:∀i:Int,0<=i->i<m->(ev O elt).v ((J.set t au).set t (aj (vi i))) U=aj (vs [g i])) :
 (ev O (.meth .join (.cst (.str (ACC ""))) (.cons (.comp elt [t] (.range es) .nil) .nil))).v J U=aj (vs ((List.range m.toNat).map λj:Nat=>g (j:Int))):=by
 have h1:=G5 (ifs:=.nil) (by rw[Dh (λj:Nat=>vi (j:Int)) (λ_=>true) (λj:Nat=>vs [g (j:Int)]) (itr hi (Oh hl rfl) (Lw hl2 rfl)) (ABV▸AAC (show m.toNat<=1000 by exact Ob hl rfl) (by decide)) (λ_ _=>rfl) (λj hj _=>hg j (AB6 _) (by have:=ABZ.mp hj;exact YK this)),List.filter_eq_self.mpr (λ_ _=>rfl),AAE];rfl)
 show(((ev O (.cons (.comp elt [t] (.range es) .nil) .nil)).row J U).bind λys=>Yt U (.d (.str (ACC ""))) ys)=_;rw[Az h1,fD];show((Db Ct (((List.range m.toNat).map λj:Nat=>PyData.str (Tx [g (j:Int)])).map V.d)).bind λss=>if JoinOk (Tx []) ss=true then aj (V.d (.str (Txt.join (Tx []) ss))) else au)=_;rw[show(((List.range m.toNat).map λj:Nat=>PyData.str (Tx [g (j:Int)])).map V.d)=vss (((List.range m.toNat).map λj:Nat=>[g (j:Int)]).map Tx) by show _=(((List.range m.toNat).map λj:Nat=>[g (j:Int)]).map Tx).map λy=>V.d (.str y);rw[AAE,AAE,AAE];rfl,HN,bs,if_pos (WX _ (by simp;exact Oh hl rfl) (by simp)),fF];congr 3;generalize List.range m.toNat=l;congr 1
 induction l with
 |nil=>rfl
 |cons a l ih=>simp[ih]
theorem RH(m:Nat)(g:Nat->Int)(h1:1<=m)(h2:m<=12)(hg:∀j,0<=g j/\g j<36):Bt ((List.range m).map λj=>sg (g j))=true:=by rw[Cj];refine⟨by simpa using h1,by simpa using h2,?_⟩;intro x hx;simp only[AAP] at hx;refine oEA hx λj _ q_2=>?_;subst q_2;exact OA _ (hg j).1 (hg j).2
theorem TQ{u:List Nat}(h:u.length<=12):(u.take i++[x]).length+(u.drop j).length<=line/\(u.take i).length+[x].length<=line:=by simp[line];exact gT h
theorem nm4{u:List Nat}{a:Int}(h2:u.length<=12)(h0:0<=a)(ha:a<u.length):1<=(u.take a.toNat++[x]++u.drop (a+1).toNat).length/\(u.take a.toNat++[x]++u.drop (a+1).toNat).length<=12:=by simp;lia
theorem Ta(hm:∀c k,C.O 10 [vi c,vi k] U=aj (vi (CB c k)))(c:Int)(tk:List (List Nat))(hx:A8 U x=aj (tk.map vs))(hg:∀x∈tk,Bt x=true)(hl:tk.length<100) :
 Ak C (λfl U'=>∃r,Bt r=true/\r∉tk/\GR fl=vs r/\U'=U) VN.body (BD VN [vi c,x]) U:=by
 have hlen:=len_of' hx;rw[AAB] at hlen;have htr:=tr_of' hx;refine Ax (congrArg (λs=>aj (V.d (.str s))) Qq) (Ax (Fc (AY rfl rfl) (hm _ _)) ?_);have hL:=TB c 5;generalize CB c 5=L at hL;have h12:=Bc L (j:=12) (by decide);have h36:=Bc L (j:=36) (by decide);refine Ax (QM (λi=>sg ((CB c i).fmod 36)) (Az (Af rfl (Af rfl rfl (AV (by decide))) rfl)) (lR h12.2 rfl) (lP h12.1 rfl) (λi _ _=>by have h:=Bc (CB c i) (j:=36) (by decide);exact Ae rfl (Af (Fc (AY rfl rfl) (hm _ _)) rfl (AV (by decide))) (O5 h.1 h.2))) ?_
 have hf:Bt ((List.range (1+L.fmod 12).toNat).map λj:Nat=>sg ((CB c j).fmod 36))=true:=RH _ (λj=>(CB c j).fmod 36) (jM h12.1 rfl) (jN h12.1 h12.2 rfl) (λj=>Bc _ (by decide));generalize((List.range (1+L.fmod 12).toNat).map λj:Nat=>sg ((CB c j).fmod 36))=f at hf;let K:List Nat->Option V->Al:=λf z=>[aj (vi c),aj x,aj (vs ES),aj (vi L),aj (vs f),au,z]
 let M:Al->Ac->Prop:=λJ U'=>(∃f z,Bt f=true/\J=K f z)/\U=U';refine CG (M:=M) ?_ ?_
 ·refine AG (An (Af rfl rfl (AV (by decide))) rfl BL) (λh=>?_) (λh=>?_)
  ·have hx:=Bc L (j:=130) (by decide);exact Ax (AU (Az (Af rfl rfl (AV (by decide)))) (LP hx.1 hx.2)) (Ab (Ab (AB _ rfl (Eu _ au (Ni _ (Kj hx.1 hx.2)) rfl) rfl)))
  ·exact Ab (Ab (AB _ rfl (Eu f au hf rfl) rfl))
 intro q_u0 q_u1 q_r1;obtain⟨⟨f,z,hf,rfl⟩,rfl⟩:=q_r1;refine CG (M:=M) ?_ ?_
 ·refine AG (Cz (An (Af rfl rfl (AV (by decide))) rfl BL) λ_=>htr) (λh=>?_) (λh=>?_)
  ·have hne:tk≠[]:=by intro e;rw[e] at h;simp at h
   have hlast:=List.getLast?_eq_some_getLast hne;have hgl:=(Cj _).mp (hg _ (List.getLast_mem hne));generalize tk.getLast hne=u at hlast hgl;rw[List.getLast?_eq_getElem?] at hlast;refine Ax (Af (x:=vs (u.take 11)) ?_ (Ae rfl (Af rfl rfl (AV (by decide))) (O5 h36.1 h36.2)) (Lo _ _ (TQ (j:=0) hgl.2.1).2)) (Ab (Ab (AB _ rfl (Eu _ z ?_ rfl) rfl)))
   ·rw[dI,Ae rfl rfl ((SA hx).trans (T5 (by rw[AAB,ABI,hlast];rfl))),bs];exact SM (U:=U) 11
   ·rw[Cj];refine⟨by simp,by simp;exact Nat.min_le_left _ _,?_⟩;intro x hx;simp only[AA0,AAJ] at hx;rcases hx with hx|rfl
    ·exact hgl.2.2 x (ACJ hx)
    ·exact OA _ h36.1 h36.2
  ·exact Ab (Ab (AB _ rfl (Eu f z hf rfl) rfl))
 clear hf f z;intro q_u0 q_u1 q_r2;obtain⟨⟨f,z,hf,rfl⟩,rfl⟩:=q_r2;refine CG (M:=M) ?_ ?_
 ·refine AG (Cz (An (Af rfl rfl (AV (by decide))) rfl NU) λ_=>htr) (λh=>?_) (λh=>?_)
  ·have hne:tk≠[]:=by intro e;rw[e] at h;simp at h
   have hpos:=List.length_pos_iff.mpr hne;have hlt:=Bc L (Int.ofNat_le.mpr ‹_›);obtain⟨u,hu⟩:∃u,tk[(L.fmod tk.length).toNat]? = aj u:=⟨_,AAN (Kj hlt.1 hlt.2)⟩
   have hgu:=(Cj _).mp (hg u (AA5 hu));refine Ax (Ae rfl (Af rfl (AU (Az rfl) hlen) (AV (Rh hpos))) ((SA hx).trans (OJ _ hlt.1 (jL hlt.2 hl rfl) (by rw[ABI,hu];rfl)))) ?_;have hat:=Bc (L.fdiv 60) (Y6 hgu);refine Ax (Af (Af rfl rfl (CN (by decide))) (AU (Az rfl) Ql) (AV (hV hgu))) ?_;generalize(L.fdiv 60).fmod u.length=a at hat;have hs:=Bc (L.fdiv 720) (j:=36) (by decide);refine Ax (Af (Af (x:=vs (u.take a.toNat)) ?_ (Ae rfl (Af (Af rfl rfl (CN (by decide))) rfl (AV (by decide))) (O5 hs.1 hs.2)) (Lo _ _ (TQ (j:=0) hgu.2.1).2)) (y:=vs (u.drop (a+1).toNat)) ?_ (Lo _ _ (TQ hgu.2.1).1)) (Ab (Ab (AB _ rfl (Eu _ (aj (vi a)) ?_ rfl) rfl)))
   ·exact Z8 (U:=U) hat.1
   ·exact SN (U:=U) (lL hat.1 rfl)
   ·rw[Cj];refine⟨(nm4 hgu.2.1 hat.1 hat.2).1,(nm4 hgu.2.1 hat.1 hat.2).2,?_⟩;intro x hx;simp only[AA0,AAJ] at hx;rcases hx with(hx|rfl)|hx
    ·exact hgu.2.2 x (ACJ hx)
    ·exact OA _ hs.1 hs.2
    ·exact hgu.2.2 x (ACX hx)
  ·exact Ab (Ab (AB _ rfl (Eu f z hf rfl) rfl))
 clear hf f z;intro q_u0 q_u1 q_r3;refine oA q_r3 λq_0 q_1=>?_;obtain⟨f,z,hf,rfl⟩:=q_0;subst q_1;refine AG (An rfl rfl (by rw[Lk,Uu hx];rfl)) (λh=>?_) (λh=>Ab ?_)
 ·exact AE rfl ⟨f,hf,by simpa using h,rfl,rfl⟩
 ·have hc:(ev C.O (.comp (.bi .str (.cons (.var 5) .nil)) [5] (.range (.cons (.bin .Add (.bi .len (.cons (.var 1) .nil)) (.cst (.int 1))) .nil)) (.cons (.cmp .NotIn (.bi .str (.cons (.var 5) .nil)) (.var 1)) .nil))).v (K f z) U=aj (.d (.list (((List.range ((tk.length:Int)+1).toNat).filter λj=>!decide (num j∈tk)).map λj=>.str (Tx (num j))))):=by
   refine G5 ?_;rw[Dh (λj:Nat=>vi (j:Int)) (λj=>!decide (num j∈tk)) (λj=>vs (num j)) (itr (Az (Af (AU (Az rfl) hlen) rfl rfl)) (by omega) (by omega)) (ABV▸AAC (show((tk.length:Int)+1).toNat<=101 by exact YT hl rfl) (by decide)) (λj hj=>?_) (λj hj _=>?_),AAE]
   ·rfl
   ·have hj:=ABZ.mp hj;exact FG (An (AU (Az rfl) (LP (AB6 _) (by omega))) rfl (Lk▸(Uu hx)▸rfl))
   ·have hj:=ABZ.mp hj;exact AU (Az rfl) (LP (AB6 _) (by omega))
  refine oEA (T4 tk (ABT hl (by decide))) λj hj1 hj2=>?_;have hmem:j∈(List.range ((tk.length:Int)+1).toNat).filter λj=>!decide (num j∈tk):=AA4.mpr ⟨ABZ.mpr (Nat.lt_succ_of_le ‹_›),by simpa using hj2⟩;cases hfl:(List.range ((tk.length:Int)+1).toNat).filter λj=>!decide (num j∈tk) with
  |nil=>rw[hfl] at hmem;cases hmem
  |cons i rest =>
   have hi:i∈(List.range ((tk.length:Int)+1).toNat).filter λj=>!decide (num j∈tk):=by rw[hfl];exact .head _
   have hi:=AA4.mp hi;rw[hfl] at hc;exact AE (Ae hc rfl (Eb 0 (by decide) (by decide) rfl)) (Ii (num i) (Ni i (by have:=ABZ.mp hi.1;exact iE hl this rfl)) (by simpa using hi.2) rfl rfl)
theorem QB(c:Int)(tk:List (List Nat))(hx:A8 U x=aj (tk.map vs))(hg:∀x∈tk,Bt x=true)(hl:tk.length<100):∃r,Bt r=true/\r∉tk/\FN 3 11 [vi c,x] U (vs r) U:=by refine AH (FN.ends (C:=C1 2 (AAL _)) (f:=11) (R:=λv U'=>∃r,Bt r=true/\r∉tk/\v=vs r/\U'=U) (by unfold Pg;rfl) rfl (by decide) (Ta (λ_ _=>rfl) c tk hx hg hl)) λv U' q_2 h=>Nh q_2 λr h1 h2 h3 h4=>?_;rw[h3,h4] at h;exact AB r h1 h2 h
noncomputable def Yg:List Nat:=[32,33,34,35,36,38,39,40,41,42,43,44,45,46,47,48,49,50,51,52,53,54,55,56,57,58,59,60,61,62,63,64,65,66,67,68,69,70,71,72,73,74,75,76,77,78,79,80,81,82,83,84,85,86,87,88,89,90,91,92,93,94,95,96]
noncomputable def Ye:List Nat:=[97,98,99,100,101,102,103,104,105,106,107,108,109,110,111,112,113,114,115,116,117,118,119,120,121,122,123,124,125,126]
noncomputable def KG:List Nat:=Yg++Ye
theorem WW:ACC " !\"#$&'()*+,-./0123456789:;<=>?@ABCDEFGHIJKLMNOPQRSTUVWXYZ[\\]^_`" = Tx Yg:=by decide +kernel
theorem WV:ACC "abcdefghijklmnopqrstuvwxyz{|}~" = Tx Ye:=by decide +kernel
theorem fE:ACC ": " = Tx [58,32]:=by decide +kernel
noncomputable def so(i:Int):Nat:=KG.getD i.toNat 0
theorem Yh(i:Int)(h0:0<=i)(h:i<94):KG[i.toNat]? = aj (so i):=by have:i.toNat<KG.length:=Int.toNat_lt h0 |>.mpr h;simp[so,List.getD,this]
theorem Wr:∀x∈KG,32<=x/\x<=126:=by decide +kernel
structure BM(l:List Nat):Prop where
 len:l.length<=200
 ok:∀x∈l,32<=x/\x<=126
theorem Z4(h0:0<=i)(h:i<94):BK (vs KG) (vi i) U=aj (vs [so i]):=QV i h0 (Kk h rfl) (Yh i h0 h)
theorem Tb(c:Int):Ak C (λfl U'=>∃l,BM l/\GR fl=vs l/\U'=U) VR.body (BD VR [vi c]) U:=by
 refine Ax (congrArg (λs=>aj (V.d (.str s))) WW) (Ax (Af rfl (congrArg (λs=>aj (V.d (.str s))) WV) (Lo _ _ (by decide))) ?_);have h4:=Bc c (j:=4) (by decide);refine Ax (Af rfl rfl (AV (by decide))) (CG (M:=λJ U'=>(∃s:Int,0<=s/\s<=200/\J=[aj (vi c),aj (vs KG),aj (vi s),au,au])/\U=U') ?_ ?_)
 ·refine AG (An (Af (Af rfl rfl (CN (by decide))) rfl (AV (by decide))) rfl BL) (λh=>?_) (λh=>?_)
  ·have h5:=Bc (c.fdiv 36) (j:=201) (by decide);exact Ax (Af (Af rfl rfl (CN (by decide))) rfl (AV (by decide))) (Ab (Ab (AB _ rfl (AB _ h5.1 (Rg h5.2 rfl) rfl) rfl)))
  ·exact Ab (Ab (AB _ rfl (AB _ h4.1 (Rg h4.2 rfl) rfl) rfl))
 rintro _ _ ⟨⟨s,hs0,hs1,rfl⟩,rfl⟩;have h5:=Bc c (j:=5) (by decide);refine Ax (QM (λi=>so ((c.fdiv 7+i*(1+c.fmod 5)).fmod 94)) rfl (Oh hs1 rfl) (Lw hs0 rfl) (λi _ _=>by have h:=Bc (c.fdiv 7+i*(1+c.fmod 5)) (j:=94) (by decide);exact Ae rfl (Af (Af (Af rfl rfl (CN (by decide))) (Af rfl (Af rfl (Af rfl rfl (AV (by decide))) rfl) (Il (smr (YY h5.1 rfl) (lQ h5.2 rfl)))) rfl) rfl (AV (by decide))) (Z4 h.1 h.2))) ?_
 have hf1:((List.range s.toNat).map λj:Nat=>so ((c.fdiv 7+j*(1+c.fmod 5)).fmod 94)).length=s.toNat:=by simp
 have hf2:∀x∈((List.range s.toNat).map λj:Nat=>so ((c.fdiv 7+j*(1+c.fmod 5)).fmod 94)),32<=x/\x<=126:=by intro x hx;refine oEA (AAP.mp hx) λj _ q_2=>?_;subst q_2;have h:=Bc (c.fdiv 7+j*(1+c.fmod 5)) (j:=94) (by decide);exact Wr _ (AA5 (Yh _ h.1 h.2))
 generalize((List.range s.toNat).map λj:Nat=>so ((c.fdiv 7+j*(1+c.fmod 5)).fmod 94))=f at hf1 hf2;refine AG (Cz (An (Af (Af rfl rfl (CN (by decide))) rfl (AV (by decide))) rfl BL) (λ_=>rfl)) (λh=>?_) (λh=>Ab ?_)
 ·simp only[ACS,decide_eq_true_eq] at h;refine AE (Af (Af (SM (U:=U) 1) (congrArg (λs=>aj (V.d (.str s))) fE) (Lo _ _ (by simp[line];lia))) (PN (U:=U) 1) (Lo _ _ (by simp[line];lia))) ⟨_,⟨by simp;omega,?_⟩,rfl,rfl⟩;intro x hx;simp only[AA0,AAR,AA1,or_false] at hx;rcases hx with(hx|rfl|rfl)|hx
  ·exact hf2 x (ACJ hx)
  ·decide
  ·decide
  ·exact hf2 x (ACX hx)
 ·exact AE rfl (AB f ⟨by exact jJ hf1 hs0 hs1 rfl,hf2⟩ rfl rfl)
theorem CC(x:PyData)(m:Nat):low m (.d x):=trivial
theorem Mq(c:Int):∃l,BM l/\∀U,FN 2 12 [vi c] U (vs l) U:=by refine AH (FN.ends (C:=C0 1) (f:=12) (R:=λv U'=>∃l,BM l/\v=vs l/\U'=[]) (by unfold Pg;rfl) rfl (AAL _) (Tb c)) λv U' q_2 h=>?_;obtain⟨l,h1,h2,h3⟩:=q_2;rw[h2,h3] at h;exact iEA l h1 (λU=>h.any (ae (CC _ _) AC))
noncomputable def Nu(c:Int):List Nat:=Classical.choose (Mq c)
theorem TR(c:Int):BM (Nu c):=(ADI (Mq c)).1
theorem TS(c:Int)(U:Ac):FN 2 12 [vi c] U (vs (Nu c)) U:=(ADI (Mq c)).2 U
noncomputable def fL(g:Int->V)(xs:List V):Option V:=match xs with|x::r=>(match r with|[]=>(CS x).bind λc=>aj (g c)|_=>au)|[]=>au
theorem Xe(hf:∀c,FN n f [vi c] U (g c) U)(h:fL g xs=aj v):FN n f xs U v U:=by
 match xs,h with
 |[],h=>exact Aa h
 |[x],h =>
  exact oEA (ac h) λc e1 h=>(BC e1)▸(AAA h)▸hf c
 |_::_::_,h=>exact Aa h
noncomputable def C2(n:Nat)(hn:2<=n):Cfg:=(C1 n hn).add 12 (λxs _=>fL (λc=>vs (Nu c)) xs) λ_ U _ h=>Xe (λc=>(TS c U).more hn) h
end Mine.Internal
namespace Mine.Internal
set_option tactic.hygienic true
noncomputable def He:List Nat:=[97,100,100]
noncomputable def Jt:List Nat:=[115,101,116]
set_option genInjectivity true in
structure Ba where
 word:List Nat
 mark:Option (List Nat×Int)
 text:Option (List Nat)
noncomputable abbrev Ch:=List Nat×List (List Nat)×List Ba
noncomputable abbrev Mk:=List Nat×Int
noncomputable def aft(m x:Mk):List Mk->List Mk
 |[]=>[x]
 |y::r=>if y=m then y::x::r else y::aft m x r
theorem Pw(m x:Mk)(r:List Mk):aft m x (m::r)=m::x::r:=if_pos rfl
theorem Pv(h:y≠m):aft m x (y::r)=y::aft m x r:=if_neg h
noncomputable def Hh(o:Option Mk)(x:Mk)(r:List Mk):List Mk:=match o with|none=>x::r|some m=>aft m x r
noncomputable def Bh(d:Ba):Bool:=decide (d.word=He)
noncomputable def adds:List Ba->Nat
 |[]=>0
 |d::ds=>(if Bh d then 1 else 0)+adds ds
noncomputable def Fa(nm:List Nat):List Ba->Nat->List Mk->List Mk
 |[],_,r=>r
 |d::ds,k,r=>if Bh d then Fa nm ds (k+1) (Hh d.mark (nm,(k:Int)) r) else Fa nm ds k r
noncomputable def DU:List Ch->List Mk->List Mk
 |[],r=>r
 |c::cs,r=>DU cs (Fa c.1 c.2.2 0 r)
noncomputable def GW(nm:List Nat)(k:Nat):Nat->List Mk
 |0=>[]
 |n+1=>(nm,(k:Int))::GW nm (k+1) n
theorem Jb:m∈GW nm k n↔m.1=nm/\(k:Int)<=m.2/\m.2<(k:Int)+n:=by
 induction n generalizing k with
 |zero =>
  refine⟨λh=>(nomatch h),λh=>?_⟩;have h1:=h.2.1;exact absurd h.2.2 (by simp;(with_reducible assumption))
 |succ n ih =>
  obtain⟨a,b⟩:=m;simp only[GW,AAR,ih,Prod.mk.injEq];constructor
  ·rintro(⟨rfl,rfl⟩|⟨rfl,h1,h2⟩)
   ·exact⟨rfl,by lia,by exact lU⟩
   ·exact⟨rfl,by exact Int.le_of_lt ‹_›,by exact lY h2⟩
  ·rintro⟨rfl,h1,h2⟩;by_cases e:b=k
   ·exact .inl ⟨rfl,e⟩
   ·exact .inr ⟨rfl,by exact lV h1 e,by exact lX h2⟩
theorem VC(m x:Mk)(r:List Mk):(aft m x r).Perm (x::r):=by
 induction r with
 |nil=>exact .refl _
 |cons y r ih =>
  unfold aft;split
  ·exact .swap ..
  ·exact(ih.cons y).trans (.swap ..)
theorem Et(o:Option Mk)(x:Mk)(r:List Mk):(Hh o x r).Perm (x::r):=by
 cases o with
 |none=>exact .refl _
 |some m=>exact VC m x r
theorem R8(nm:List Nat)(ds:List Ba)(k:Nat)(r:List Mk):(Fa nm ds k r).Perm (GW nm k (adds ds)++r):=by
 induction ds generalizing k r with
 |nil=>exact .refl _
 |cons d ds ih =>
  unfold Fa adds;split
  ·rw[AC5 1];exact(ih (k+1) _).trans (((Et ..).append_left _).trans List.perm_middle)
  ·rw[ACY];exact ih k r
theorem IW(cs:List Ch)(r:List Mk):(DU cs r).Perm ((cs.flatMap λc=>GW c.1 0 (adds c.2.2))++r):=by
 induction cs generalizing r with
 |nil=>exact .refl _
 |cons c cs ih =>
  refine(ih _).trans (((R8 c.1 c.2.2 0 r).append_left _).trans ?_);rw[List.flatMap_cons,<-ABQ];exact(List.perm_append_comm).append_right _
theorem KL(a b:List Ch)(r:List Mk):DU (a++b) r=DU b (DU a r):=by
 induction a generalizing r with
 |nil=>rfl
 |cons c a ih=>exact ih _
theorem XJ(m x:Mk)(r:List Mk)(hx:p x=false):(aft m x r).filter p=r.filter p:=by
 induction r with
 |nil=>simp[aft,hx]
 |cons y r ih =>
  unfold aft;split
  ·rw[List.filter_cons,List.filter_cons (x:=x),hx,if_neg ABB,<-List.filter_cons]
  ·rw[List.filter_cons,List.filter_cons,ih]
theorem cL(m x:Mk)(r:List Mk)(hx:p x=true)(hm:p m=true)(h:m∈r):(aft m x r).filter p=aft m x (r.filter p):=by
 induction r with
 |nil=>cases h
 |cons y r ih =>
  by_cases e:y=m
  ·subst e;rw[Pw,ADM hm,ADM hx,ADM hm,Pw]
  ·have h':m∈r:=(AAR.mp h).resolve_left λq=>e q.symm;rw[Pv e];cases hy:p y with
   |true=>rw[ADM hy,ADM hy,Pv e,ih h']
   |false=>rw[List.filter_cons_of_neg (by simp[hy]),List.filter_cons_of_neg (by simp[hy])];exact ih h'
theorem Up(o:Option Mk)(x:Mk)(r:List Mk)(hx:p x=false):(Hh o x r).filter p=r.filter p:=by
 cases o with
 |none=>exact List.filter_cons_of_neg (by simp[hx])
 |some m=>exact XJ m x r hx
theorem Xf(o:Option Mk)(x:Mk)(r:List Mk)(hx:p x=true)(ho:∀m,o=aj m->p m=true/\m∈r):(Hh o x r).filter p=Hh o x (r.filter p):=by
 cases o with
 |none=>exact ADM hx
 |some m=>exact cL m x r hx (ho m rfl).1 (ho m rfl).2
noncomputable def GF(q:Mk->Bool)(nm:List Nat):List Ba->Nat->List Mk->Prop
 |[],_,_=>True
 |d::ds,k,r=>if Bh d then(∀m,d.mark=aj m->q m=true/\m∈r)/\GF q nm ds (k+1) (Hh d.mark (nm,(k:Int)) r) else GF q nm ds k r
theorem Tg(ds:List Ba)(k:Nat)(r:List Mk)(h:∀i:Int,p (nm,i)=false):(Fa nm ds k r).filter p=r.filter p:=by
 induction ds generalizing k r with
 |nil=>rfl
 |cons d ds ih =>
  unfold Fa;split
  ·rw[ih,Up _ _ _ (h _)]
  ·exact ih k r
theorem W4(ds:List Ba)(k:Nat)(r:List Mk)(h:∀i:Int,p (nm,i)=true)(hf:GF p nm ds k r):(Fa nm ds k r).filter p=Fa nm ds k (r.filter p):=by
 induction ds generalizing k r with
 |nil=>rfl
 |cons d ds ih =>
  unfold GF at hf;unfold Fa;split
  ·rename_i e
   rw[if_pos e] at hf;rw[ih _ _ hf.2,Xf _ _ _ (h _) hf.1]
  ·rename_i e
   rw[if_neg e] at hf;exact ih k r hf
noncomputable def DOk(nm:List Nat)(ms:List Mk):List Ba->Nat->Prop
 |[],_=>True
 |d::ds,k=>(∀m,d.mark=aj m->m∈ms\/(m.1=nm/\0<=m.2/\m.2<(k:Int)))/\DOk nm ms ds (if Bh d then k+1 else k)
theorem bT(ds:List Ba)(k:Nat)(r:List Mk)(h:DOk nm ms ds k)(hq:∀m∈ms,q m=true)(hn:∀i:Int,q (nm,i)=true)(hm:∀m∈ms,m∈r)(ho:∀m:Mk,m.1=nm->0<=m.2->m.2<(k:Int)->m∈r):GF q nm ds k r:=by
 induction ds generalizing k r with
 |nil=>exact trivial
 |cons d ds ih =>
  unfold DOk at h;unfold GF;split
  ·rename_i e
   rw[if_pos e] at h;have sub:∀m,m∈r->m∈Hh d.mark (nm,(k:Int)) r:=λm hm=>(Et ..).mem_iff.mpr (.tail _ hm);refine⟨λm e1=>?_,ih (k+1) _ h.2 (λm hm'=>sub m (hm m hm')) λm h1 h2 h3=>?_⟩
   ·rcases h.1 m e1 with h2|h2
    ·exact⟨hq m h2,hm m h2⟩
    ·obtain⟨a,b⟩:=m;have:a=nm:=h2.1;subst this;exact⟨hn b,ho _ rfl h2.2.1 h2.2.2⟩
   ·by_cases e2:m.2=(k:Int)
    ·obtain⟨a,b⟩:=m;have q1:a=nm:=h1;have q2:b=(k:Int):=e2;exact q1▸q2▸(Et ..).mem_iff.mpr (.head _)
    ·exact sub m (ho m h1 h2 (lW h3 e2))
  ·rename_i e
   rw[if_neg e] at h;exact ih k r h.2 hm ho
section
variable{κ β:Type}[DecidableEq κ]{h t:List (κ×β)}{k:κ}{v:β}
theorem Bl(q:κ×β)(h:List (κ×β))(k:κ):Aq (q::h) k=if q.1=k then aj q.2 else Aq h k:=by
 unfold Aq;rw[List.find?_cons];by_cases e:q.1=k
 ·exact(AAI e)▸(if_pos e)▸rfl
 ·rw[AAT e,if_neg e]
theorem JD(e:Aq h k=aj v):Aq (h++t) k=aj v:=by
 induction h with
 |nil=>cases e
 |cons q h ih =>
  rw[List.cons_append,Bl] at *;split at e
  ·rename_i q1;rw[if_pos q1];exact e
  ·rename_i q1;rw[if_neg q1];exact ih e
theorem Ge(e:Aq h k=au):Aq (h++t) k=Aq t k:=by
 induction h with
 |nil=>rfl
 |cons q h ih =>
  rw[Bl] at e;rw[List.cons_append,Bl];split at e
  ·cases e
  ·rename_i q1;rw[if_neg q1];exact ih e
theorem Dv:Aq h k=au↔k∉h.map (·.1):=by
 induction h with
 |nil=>simp[Aq]
 |cons q h ih =>
  rw[Bl,ABP,AAR];by_cases e:q.1=k
  ·exact(if_pos e)▸⟨(λq=>by cases q),λq=>(q (.inl e.symm)).elim⟩
  ·rw[if_neg e,ih];exact⟨λq1 q2=>q2.elim (λq3=>e q3.symm) q1,λq1 q2=>q1 (.inr q2)⟩
theorem AN:(∃v,Aq h k=aj v)↔k∈h.map (·.1):=by
 cases e:Aq h k with
 |none=>exact⟨(λ⟨v,q⟩=>by cases q),λq=>(Dv.mp e q).elim⟩
 |some v =>
  refine⟨λ_=>?_,λ_=>⟨v,rfl⟩⟩;by_cases q:k∈h.map (·.1)
  ·exact q
  ·rw[Dv.mpr q] at e;cases e
theorem JE{p:κ->Bool}(hk:p k=true):Aq (h.filter λq=>p q.1) k=Aq h k:=by
 induction h with
 |nil=>rfl
 |cons q h ih =>
  by_cases e:p q.1=true
  ·rw[ADM (by exact e),Bl,Bl,ih]
  ·rw[List.filter_cons_of_neg (by exact e),Bl,ih,if_neg λq1=>e (by rw[q1];exact hk)]
theorem Hy:(h.any λp=>p.1=k)=(Aq h k).isSome:=by
 induction h with
 |nil=>rfl
 |cons q h ih =>
  rw[List.any_cons,Bl,ih];by_cases e:q.1=k
  ·exact(if_pos e)▸(AAI e)▸rfl
  ·exact(if_neg e)▸(AAT e)▸rfl
theorem GT(e:Aq h k=au):Ci h k v=h++[(k,v)]:=by unfold Ci;rw[Hy,e];rfl
theorem Fq(k':κ):k'∈(Ci h k v).map (·.1)↔k'=k\/k'∈h.map (·.1):=by
 unfold Ci;rw[Hy];cases e:Aq h k with
 |none=>simp[or_comm]
 |some d =>
  have q1:(h.map λp=>if p.1=k then(p.1,v) else p).map (·.1)=h.map (·.1):=by rw[AAE];refine AC4 λp _=>?_;show(if p.1=k then(p.1,v) else p).1=p.1;split<;>rfl
  show k'∈(h.map λp=>if p.1=k then(p.1,v) else p).map (·.1)↔_;rw[q1];exact⟨.inr,λq=>q.elim (λq=>q▸(AN.mp ⟨d,e⟩)) id⟩
end
theorem KW(l:List Int)(x:Int):x<=l.foldl (λa b=>if a<b then b else a) x/\∀y∈l,y<=l.foldl (λa b=>if a<b then b else a) x:=by
 induction l generalizing x with
 |nil=>exact⟨Int.le_refl _,λy h=>by cases h⟩
 |cons z l ih =>
  have h:=ih (if x<z then z else x);rw[List.foldl_cons];have hx:x<=(if x<z then z else x)/\z<=(if x<z then z else x):=by split<;>lia
  refine⟨Int.le_trans hx.1 h.1,λy hy=>?_⟩;rcases AAR.mp hy with rfl|hy
  ·exact Int.le_trans hx.2 h.1
  ·exact h.2 y hy
theorem TF(z:Int)(l:List Int):∀y∈l,y<=ET z l:=by
 cases l with
 |nil=>intro y h;cases h
 |cons x r =>
  intro y hy;rcases AAR.mp hy with rfl|hy
  ·exact(KW r y).1
  ·exact(KW r x).2 y hy
abbrev Gsl:=List (List Nat×Int)
noncomputable def hv(h:Gsl)(ls:List (List Nat)):Int:=ET 0 (ls.map λl=>(Aq h l).getD 0+1)
noncomputable def hts:Gsl->List Ch->Gsl
 |h,[]=>h
 |h,c::cs=>hts (h++[(c.1,hv h c.2.1)]) cs
noncomputable def hgt(cs:List Ch)(n:List Nat):Int:=(Aq (hts [] cs) n).getD 0
theorem Hl(h:Gsl)(a b:List Ch):hts h (a++b)=hts (hts h a) b:=by
 induction a generalizing h with
 |nil=>rfl
 |cons c a ih=>exact ih _
theorem Ck(h:Gsl)(cs:List Ch):(hts h cs).map (·.1)=h.map (·.1)++cs.map (·.1):=by
 induction cs generalizing h with
 |nil=>simp[hts]
 |cons c cs ih=>rw[hts,ih];simp
theorem Mg(e:Aq h k=aj v):Aq (hts h cs) k=aj v:=by
 induction cs generalizing h with
 |nil=>exact e
 |cons c cs ih=>exact ih (JD e)
theorem J4(p:List Nat->Bool)(h:Gsl)(cs:List Ch)(hc:∀c∈cs,p c.1=true->∀l∈c.2.1,p l=true) :
 hts (h.filter λq=>p q.1) (cs.filter λc=>p c.1)=(hts h cs).filter λq=>p q.1:=by
 induction cs generalizing h with
 |nil=>rfl
 |cons c cs ih =>
  have hc':=λd hd=>hc d (List.mem_cons_of_mem _ hd);by_cases e:p c.1=true
  ·rw[ADM (by exact e),hts,hts,<-ih _ hc',ABN,ADM (by exact e),List.filter_nil];congr 4;unfold hv;congr 1;exact AC4 λl hl=>by rw[JE (hc c (.head _) e l hl)]
  ·rw[List.filter_cons_of_neg (by exact e),hts,<-ih _ hc',ABN,List.filter_cons_of_neg (by exact e),List.filter_nil,AAV]
theorem JA{p:List Nat->Bool}{cs:List Ch}(hc:∀c∈cs,p c.1=true->∀l∈c.2.1,p l=true){n:List Nat}(hn:p n=true):hgt (cs.filter λc=>p c.1) n=hgt cs n:=by unfold hgt;have:=J4 p [] cs hc;rw[List.filter_nil] at this;rw[this,JE hn]
noncomputable def DG(pre:List Ch)(ls:List (List Nat)):List Mk:=(pre.filter λc=>decide (c.1∈ls)).flatMap λc=>GW c.1 0 (adds c.2.2)
structure BJ(cs:List Ch):Prop where
 nd:(cs.map (·.1)).Nodup
 ok:∀pre c post,cs=pre++c::post->(∀l∈c.2.1,l∈pre.map (·.1))/\DOk c.1 (DG pre c.2.1) c.2.2 0
theorem BJ.filter{cs:List Ch}(H:BJ cs){p:List Nat->Bool}(hc:∀c∈cs,p c.1=true->∀l∈c.2.1,p l=true):BJ (cs.filter λc=>p c.1):=by
 refine⟨(List.Sublist.map _ List.filter_sublist).nodup H.nd,λpre c post e=>?_⟩;refine Br (AB8.mp e) λa b e1 q_3 e2=>?_;subst q_3;refine Fv (AB9.mp e2) λa' b' e3 e4 e5 q_5=>?_;subst q_5;have e6:cs=(a++a')++c::b':=by rw[e1,e3,ABQ]
 refine oA (H.ok _ _ _ e6) λh1 h2=>?_;have hp:=hc c (by rw[e6];simp) e5;have fa:(a++a').filter (λc=>p c.1)=a.filter λc=>p c.1:=by rw[ABN,List.filter_eq_nil_iff.mpr (λx hx=>e4 x hx),AAV]
 refine⟨λl hl=>?_,?_⟩
 ·refine oEA (AAP.mp (h1 l hl)) λd hd q_2=>?_;subst q_2;exact fa▸AAZ (AA4.mpr ⟨hd,hp _ hl⟩)
 ·have:DG (a.filter λc=>p c.1) c.2.1=DG (a++a') c.2.1:=by
   unfold DG;rw[<-fa,List.filter_filter];congr 1;refine List.filter_congr λx _=>?_;by_cases q:x.1∈c.2.1
   ·rw[hp _ q,AAI q];rfl
   ·exact(AAT q)▸rfl
  exact this▸h2
theorem BJ.lower(H:BJ cs)(hc:c∈cs)(hl:l∈c.2.1):hgt cs l<hgt cs c.1:=by
 refine oEE (AB7 hc) λpre post e=>oA (H.ok _ _ _ e) λh1 _=>?_;have hk:=Ck [] pre;refine oE (AN.mpr (show l∈(hts [] pre).map (·.1) by rw[hk];exact AA0.mpr (.inr (h1 l hl)))) λv hv'=>?_;have hnew:Aq (hts [] pre) c.1=au:=by refine Dv.mpr ?_;rw[hk];have hn:=H.nd;rw[e,AAQ,ABW] at hn;exactλq=>hn.2.2 c.1 (by simpa using q) c.1 (.head _) rfl
 have a1:Aq (hts [] cs) l=aj v:=by rw[e,Hl];exact Mg hv'
 have a2:Aq (hts [] cs) c.1=aj (hv (hts [] pre) c.2.1):=by rw[e,Hl,hts];refine Mg ?_;rw[Ge hnew,Bl,if_pos rfl]
 unfold hgt;rw[a1,a2];have:=TF 0 (c.2.1.map λl=>(Aq (hts [] pre) l).getD 0+1) (v+1) (AAP.mpr (iEA l hl (hv'▸rfl)));unfold hv;exact Zf this
def Bf(H:List Nat->Int)(a b:Ch):Prop:=H a.1<H b.1\/(H a.1=H b.1/\b.1<a.1)
structure FS(H:List Nat->Int)(cs O:List Ch):Prop where
 perm:O.Perm cs
 bf:O.Pairwise (Bf H)
theorem XG(H:List Nat->Int)(a b:Ch)(h:Bf H a b)(h':Bf H b a):False:=by
 rcases h with h|h<;>rcases h' with h'|h'
 ·exact Zh h' h
 ·exact Zg h h'.1
 ·exact Zg h' h.1
 ·exact List.lt_irrefl _ (List.lt_trans h.2 h'.2)
theorem FS.uniq{H:List Nat->Int}{cs O O':List Ch}(h:FS H cs O)(h':FS H cs O'):O=O':=CJ (XG H) h.bf h'.bf (h.perm.trans h'.perm.symm)
theorem FS.filter{cs O:List Ch}(h:FS H cs O)(p:Ch->Bool):FS H (cs.filter p) (O.filter p):=⟨h.perm.filter p,h.bf.filter p⟩
theorem Qb{cs O:List Ch}(H:BJ cs)(ho:FS (hgt cs) cs O){A B:List Ch}{c:Ch}(e:O=A++c::B){q:Mk->Bool}(hq:∀m:Mk,m.1∈c.2.1->q m=true)(hn:∀i:Int,q (c.1,i)=true):GF q c.1 c.2.2 0 (DU A []):=by
 have hc:c∈cs:=ho.perm.mem_iff.mp (by rw[e];simp);refine oEE (AB7 hc) λpre post e1=>oA (H.ok _ _ _ e1) λh1 h2=>?_;have lm:∀m∈DG pre c.2.1,∃d∈pre,d.1∈c.2.1/\m∈GW d.1 0 (adds d.2.2):=λm hm=>by refine oEA (List.mem_flatMap.mp hm) λd hd hm'=>?_;have:=AA4.mp hd;exact AB d this.1 (by simpa using this.2) hm'
 refine bT c.2.2 0 _ h2 (λm hm=>?_) hn (λm hm=>?_) λm _ h3 h4=>by exact hW h3 h4
 ·exact AS (lm m hm) λd _ h3 h4=>hq m (((Jb.mp h4).1)▸h3)
 ·refine AS (lm m hm) λd h3 h4 h5=>?_;have hd:=ho.perm.mem_iff.mpr (e1▸AAU _ h3);have low:=H.lower hc h4;have hA:d∈A:=by
   rw[e] at hd;rcases AA0.mp hd with hd|hd
   ·exact hd
   ·rcases AAR.mp hd with rfl|hd
    ·exact Zh low low
    ·have hb:=ho.bf;rw[e,List.pairwise_append] at hb;rcases(ACO.mp hb.2.1).1 d hd with h6|h6<;>omega
  have:=IW A [];rw[AAV] at this;exact this.mem_iff.mpr (List.mem_flatMap.mpr (iEA d hA h5))
theorem IV{cs O:List Ch}(H:BJ cs)(ho:FS (hgt cs) cs O){p:List Nat->Bool}(hc:∀c∈cs,p c.1=true->∀l∈c.2.1,p l=true) :
 ∀B A:List Ch,O=A++B->(DU A []).filter (λm=>p m.1)=DU (A.filter λc=>p c.1) []->(DU (A++B) []).filter (λm=>p m.1)=DU ((A++B).filter λc=>p c.1) []
 |[],A,_,h=>by rw[AAV];exact h
 |c::B,A,e,h=>by
  have hcs:c∈cs:=ho.perm.mem_iff.mp (by rw[e];simp);have e':A++c::B=(A++[c])++B:=by rw[ABQ];rfl
  rw[e'];refine IV H ho hc B (A++[c]) (e.trans e') ?_;rw[KL,ABN];by_cases q:p c.1=true
  ·rw[ADM (by exact q),List.filter_nil,KL,<-h];exact W4 _ _ _ (λi=>q) (Qb H ho e (λm hm=>hc c hcs q _ hm) λi=>q)
  ·rw[List.filter_cons_of_neg (by exact q),List.filter_nil,AAV,<-h];exact Tg _ _ _ λi=>by simpa using q
open PySem
set_option tactic.hygienic false
theorem EU:ACC "add" = Tx He:=by decide +kernel
noncomputable def Ix:List Nat:=[99,117,116]
theorem Uc:ACC "cut" = Tx Ix:=by decide +kernel
theorem Ih:ACC "set" = Tx Jt:=by decide +kernel
theorem ZZ:Jt≠He:=by decide
theorem ZY:Ix≠He:=by decide
theorem WT:Ix≠Jt:=by decide
noncomputable def AF(o:Option Mk):PyData:=match o with|none=>.none|some m=>.tuple [.str (Tx m.1),.int m.2]
noncomputable abbrev vm(m:Mk):V:=.d (AF (aj m))
noncomputable abbrev dms(ms:List Mk):PyData:=.list (ms.map λm=>AF (aj m))
noncomputable def Ba.data(d:Ba):PyData:=.tuple (.str (Tx d.word)::AF d.mark::(match d.text with|none=>[]|some l=>[.str (Tx l)]))
noncomputable abbrev dds(ds:List Ba):PyData:=.list (ds.map Ba.data)
noncomputable def Ch.data(c:Ch):PyData:=.tuple [.str (Tx c.1),dl c.2.1,dds c.2.2]
noncomputable abbrev vc(c:Ch):V:=.d (Ch.data c)
theorem Di(d:Ba):BK (.d d.data) (vi 0) U=aj (vs d.word):=by unfold Ba.data;cases d.text<;>rfl
theorem Dj(d:Ba):BK (.d d.data) (vi 1) U=aj (.d (AF d.mark)):=by unfold Ba.data;cases d.text<;>rfl
theorem Fk(d:Ba)(h:d.text=aj l):BK (.d d.data) (vi 2) U=aj (vs l):=by unfold Ba.data;rw[h];rfl
theorem Bb(c:Ch):BK (vc c) (vi 0) U=aj (vs c.1):=rfl
theorem Df(c:Ch):BK (vc c) (vi 1) U=aj (.d (dl c.2.1)):=rfl
theorem CQ(c:Ch):BK (vc c) (vi 2) U=aj (.d (dds c.2.2)):=rfl
theorem Xd(m:Option Mk):BU .Is (.d (AF m)) (.d .none) U=aj m.isNone:=by cases m<;>rfl
theorem Hf(m:Option Mk):BU .IsNot (.d (AF m)) (.d .none) U=aj (!m.isNone):=by cases m<;>rfl
structure De(d:Ba):Prop where
 shp:(d.word=He/\∃l,d.text=aj l/\BM l)\/(d.word=Jt/\∃m l,d.mark=aj m/\d.text=aj l/\BM l)\/(d.word=Ix/\∃m,d.mark=aj m)
 ctx:d.word=Ix->d.text=au
theorem II:∀ds:List Ba,(ds.filter λd=>decide (d.word=He)).length=adds ds
 |[]=>rfl
 |d::ds=>by
  rw[List.filter_cons];show _=(if Bh d then 1 else 0)+adds ds;rw[<-II ds];unfold Bh;split
  ·rw[AA2,AC5]
  ·rw[ACY]
theorem IH(ds:List Ba):adds ds<=ds.length:=by rw[<-II];exact AAX _ _
theorem Dy:∀(ds:List Ba) (d:Ba),adds (ds++[d])=adds ds+(if Bh d then 1 else 0)
 |[],d=>by show(if Bh d then 1 else 0)+0=0+_;rw[AC5]
 |e::ds,d=>by show(if Bh e then 1 else 0)+adds (ds++[d])=(if Bh e then 1 else 0)+adds ds+_;rw[Dy ds d,ADG]
theorem O0:∀(ds:List Ba) (k:Nat),DOk nm ms ds k->(∀m,d.mark=aj m->m∈ms\/(m.1=nm/\0<=m.2/\m.2<((k+adds ds:Nat):Int)))->DOk nm ms (ds++[d]) k
 |[],k,_,h=>⟨h,trivial⟩
 |e::ds,k,⟨h1,h2⟩,h=>by
  refine⟨h1,O0 ds _ h2 λm hm=>?_⟩;have:=h m hm;have e1:(if Bh e then k+1 else k)+adds ds=k+adds (e::ds):=by show _=k+((if Bh e then 1 else 0)+adds ds);split<;>omega
  exact e1▸this
theorem Bz{α:Type}(l:List α):l.filter (λ_=>true)=l:=List.filter_eq_self.mpr λ_ _=>rfl
section
variable{O:Orc}{J:Al}{m:Int}
theorem QN(g:Int->PyData)(hi:(ev O es).row J U=aj [vi m])(h0:0<=m)(hl:m<=1000000)
 (hg:∀i:Int,0<=i->i<m->(ev O elt).v ((J.set t au).set t (aj (vi i))) U=aj (.d (g i))):(ev O (.comp elt [t] (.range es) .nil)).v J U=aj (.d (.list ((List.range m.toNat).map λj:Nat=>g (j:Int)))):=by
 refine G5 ?_;rw[Dh (λj:Nat=>vi (j:Int)) (λ_=>true) (λj:Nat=>.d (g (j:Int))) (itr hi hl (Lw h0 rfl)) (ABV▸AAC (show m.toNat<=1000000 by exact Ob hl rfl) (by decide)) (λ_ _=>rfl) (λj hj _=>hg j (AB6 _) (by have:=ABZ.mp hj;exact YK this)),Bz,AAE];rfl
theorem CF{α:Type}{l:List α}(d:α->PyData)(p:α->Bool)(g:α->PyData)(ha:(ev O a).it J U=aj (l.map λx=>.d (d x),[]))(hl:l.length<=line)(hp:∀x∈l,(ev O ifs).ts ((J.set t au).set t (aj (.d (d x)))) U=aj (p x))
 (hg:∀x∈l,p x=true->(ev O elt).v ((J.set t au).set t (aj (.d (d x)))) U=aj (.d (g x))):(ev O (.comp elt [t] a ifs)).v J U=aj (.d (.list ((l.filter p).map g))):=by
 exact G5 ((Dh (λx=>.d (d x)) p (λx=>.d (g x)) ha hl hp hg)▸AAE▸rfl)
theorem BS{α:Type}{l:List α}{d:α->PyData}(h:(ev O e).v J U=aj (.d (.list (l.map d))))(he:(ev O e).it J U=((ev O e).v J U).bind (DI U)):(ev O e).it J U=aj (l.map λx=>.d (d x),[]):=by rw[he,h];show aj ((l.map d).map V.d,[])=_;rw[AAE];rfl
end
theorem Nb(t:List Nat)(k:Nat):((List.range k).map λj:Nat=>AF (aj (t,(j:Int))))=((List.range k).map λj:Nat=>(t,(j:Int))).map λm=>AF (aj m):=by rw[AAE];rfl
theorem OF(nm:List Nat)(n k:Nat):GW nm k n=(List.range n).map λj:Nat=>(nm,((k+j:Nat):Int)):=by
 induction n generalizing k with
 |zero=>rfl
 |succ n ih =>
  rw[List.range_succ_eq_map,ABP,AAE];show(nm,(k:Int))::GW nm (k+1) n=_;rw[ih];congr 1;refine AC4 λj _=>?_;show(nm,((k+1+j:Nat):Int))=(nm,((k+(j+1):Nat):Int));rw[show k+1+j=k+(j+1) by exact mI]
theorem FV(nm:List Nat)(n:Nat):GW nm 0 n=(List.range n).map λj:Nat=>(nm,(j:Int)):=by rw[OF];simp
theorem UL(c:Ch)(hd:c.2.2.length<=100):FN 2 14 [vc c] U (.d (dms (GW c.1 0 (adds c.2.2)))) U:=by
 refine AH (FN.ends (C:=C0 1) (f:=14) (fn:=VQ) (zs:=[vc c]) (U:=U) (R:=λv U'=>v=.d (dms (GW c.1 0 (adds c.2.2)))/\U'=U) (by unfold Pg;rfl) rfl (AAL _) (by refine Ax (v:=vi (adds c.2.2)) (AU (Az (CF (O:=(C0 1).O) (J:=[aj (vc c),au,au,au]) (U:=U) (elt:=.var 2) (t:=2) (a:=.sub (.var 0) (.cst (.int 2))) (ifs:=.cons (.cmp .Eq (.sub (.var 2) (.cst (.int 0))) (.cst (.str (ACC "add")))) .nil) (l:=c.2.2) Ba.data (λd=>decide (d.word=He)) Ba.data (BS (Ae rfl rfl (CQ c)) rfl) (AAC hd (by decide)) (λd _=>FG (An (Ae rfl rfl (Di d)) (congrArg (λs=>aj (V.d (.str s))) EU) GB)) (λd _ _=>rfl))) (CK.trans (by rw[AAB,II]))) ?_;have hk:=IH c.2.2;generalize adds c.2.2=k at hk;refine AE (QN (λi=>AF (aj (c.1,i))) rfl (AB6 _) (mC hk hd rfl) (λi _ _=>Dk (AY (Ae rfl rfl (Bb c)) rfl) rfl)) ⟨?_,rfl⟩;show V.d (.list ((List.range (k:Int).toNat).map λj:Nat=>AF (aj (c.1,(j:Int)))))=_;rw[Int.toNat_natCast,Nb,FV])) λv U' q_2 h=>?_
 obtain⟨h1,h2⟩:=q_2;rw[h1,h2] at h;exact h
theorem Qu{C:Cfg}{m:Int}(h:(ev C.O es).row J U=aj [vi m])(h1:m<=1000000)(h2:-1000000<=m):C.it (.range es) J U=aj ((List.range m.toNat).map (λj:Nat=>vi (j:Int)),[]):=itr h h1 h2
structure VV(t:List Nat)(ms:List Mk)(p:Nat)(ds:List Ba)(own:Nat):Prop where
 own:own=adds ds
 len:ds.length=p
 dok:DOk t ms ds 0
 ok:∀d∈ds,De d
theorem VV.snoc{t:List Nat}{ms:List Mk}{p:Nat}{ds:List Ba}{own own':Nat}{d:Ba}(h:VV t ms p ds own)(ho:own'=own+(if Bh d then 1 else 0))(hd:De d)(hm:∀m,d.mark=aj m->m∈ms\/(m.1=t/\0<=m.2/\m.2<(own:Int))):VV t ms (p+1) (ds++[d]) own' :=
 ⟨by rw[ho,Dy,h.own],by rw[AAF,h.len];rfl,O0 ds 0 h.dok λm e=>by rw[ACY,<-h.own];exact hm m e,λe he=>by
  rcases AA0.mp he with he|he
  ·exact h.ok e he
  ·rw[AAJ.mp he];exact hd⟩
theorem R6(hm:∀c k U,C.O 10 [vi c,vi k] U=aj (vi (CB c k)))(hl:∀c U,C.O 12 [vi c] U=aj (vs (Nu c)))
 (t:List Nat) (c many:Int) (ms:List Mk) (h0:0<=many) (h1:many<=100) (hml:ms.length<=10000) :
 Ak C (λfl U'=>∃ds:List Ba,ds.length=many.toNat/\DOk t ms ds 0/\(∀d∈ds,De d)/\GR fl=.ref 0/\U'=[.list (ds.map λd=>.d d.data)]) P8.body (BD P8 [vs t,vi c,vi many,.d (dms ms)]) []:=by
 refine Bx rfl (Ax rfl ?_);let K:Nat->Option V->Option V->Option V->Option V->Option V->Option V->Option V->Al:=λown z6 z7 z8 z9 z10 z11 z12=>[aj (vs t),aj (vi c),aj (vi many),aj (.d (dms ms)),aj (.ref 0),aj (vi own),z6,z7,z8,z9,z10,z11,z12]
 refine AW (λj:Nat=>vi (j:Int)) (λp J U=>∃ds own,VV t ms p.length ds own/\(∃z6 z7 z8 z9 z10 z11 z12,J=K own z6 z7 z8 z9 z10 z11 z12)/\U=[.list (ds.map λd=>.d d.data)])
  (Qu rfl (Oh h1 rfl) (Lw h0 rfl)) (Hk [] 0 ⟨rfl,rfl,trivial,λd h=>nomatch h⟩ (Hj au au au au au au au rfl) rfl) ?_ ?_
 ·intro p j q J U hp q_r1;refine Br q_r1 λds own D q_3 q_4=>?_;obtain⟨z6,z7,z8,z9,z10,z11,z12,rfl⟩:=q_3;subst q_4;have hpl:p.length<100:=by have:=congrArg List.length hp;rw[ABV,AAF,AA2] at this;exact YI this h1 rfl
  have hdl:=D.len▸hpl;have hon:own<=100:=by rw[D.own];exact AAC (IH ds) (ACF hdl)
  have hll:(ds.map λd=>V.d d.data).length<line:=by rw[AAB];exact ABT hdl (by decide)
  have fin:∀(d:Ba) (own':Nat) (J:Al),own'=own+(if Bh d then 1 else 0)->De d->(∀m,d.mark=aj m->m∈ms\/(m.1=t/\0<=m.2/\m.2<(own:Int)))->(∃z6 z7 z8 z9 z10 z11 z12,J=K own' z6 z7 z8 z9 z10 z11 z12) ->
   ∃J',Fl.next J=.next J'/\∃ds' own,VV t ms (p++[j]).length ds' own/\(∃z6 z7 z8 z9 z10 z11 z12,J'=K own z6 z7 z8 z9 z10 z11 z12)/\([O.list ((ds.map λd=>V.d d.data)++[V.d d.data])]:Ac)=[O.list (ds'.map λd=>V.d d.data)]:=λd own' J ho hd hm hρ =>
   ⟨J,rfl,ds++[d],own',by rw[AAF];exact D.snoc ho hd hm,hρ,by rw[AAQ];rfl⟩
  have hown:(ev C.O (.comp (.tup (.cons (.var 0) (.cons (.var 12) .nil))) [12] (.range (.cons (.var 5) .nil)) .nil)).v (K own (aj (vi j)) z7 z8 z9 z10 z11 z12) [.list (ds.map λd=>.d d.data)]=aj (.d (dms ((List.range own).map λj:Nat=>(t,(j:Int))))):=by rw[QN (λi=>AF (aj (t,i))) rfl (AB6 _) (by omega) (λi _ _=>Dk (AY rfl rfl) rfl),Int.toNat_natCast,Nb]
  obtain⟨ks,hks,hks1,hks2⟩:∃ks:List Mk,C.v (.bin .Add (.var 3) (.comp (.tup (.cons (.var 0) (.cons (.var 12) .nil))) [12] (.range (.cons (.var 5) .nil)) .nil)) (K own (aj (vi j)) z7 z8 z9 z10 z11 z12) [.list (ds.map λd=>.d d.data)]=aj (.d (dms ks))/\(∀m∈ks,m∈ms\/(m.1=t/\0<=m.2/\m.2<(own:Int)))/\ks.length<=10100:=by
   refine(AB (ms++(List.range own).map (λj:Nat=>(t,(j:Int)))) (Af rfl hown ((Ki _ _ ?_).trans (by rw[<-AAQ]))) ?_ ?_)
   ·simp[line];exact Rf hml hon rfl
   ·intro m hm;rcases AA0.mp hm with hm|hm
    ·exact .inl hm
    ·refine oEA (AAP.mp hm) λi hi q_2=>?_;subst q_2;have:=ABZ.mp hi;exact .inr ⟨rfl,AB6 i,by show(i:Int)<_;exact Int.ofNat_le.mpr ‹_›⟩
   ·simp;exact Rf hml hon rfl
  refine Ax hks (Ax (Fc (AY rfl rfl) (hm _ _ _)) ?_);generalize CB c j=L;have hat:=Bc (L.fdiv 5) (j:=(ks.length:Int)+1) (Zk);have hkl:∀U,Cl .len U [.d (dms ks)]=aj (vi ks.length):=λU=>CK.trans (by rw[AAB]);refine Ax (Af (Af rfl rfl (CN (by decide))) (Af (AU (Az rfl) (hkl _)) rfl rfl) (AV (Zl))) ?_;generalize(L.fdiv 5).fmod ((ks.length:Int)+1)=a at hat;refine Ax (Fc (Az (Af rfl rfl (CN (by decide)))) (hl _ _)) ?_;have hlo:=TR (L.fdiv 365);generalize Nu (L.fdiv 365)=l at hlo;have pick:∀i:Int,0<=i->i<ks.length->∃m,m∈ks/\∀U,BK (.d (dms ks)) (vi i) U=aj (vm m):=λi i0 i1=>by
   obtain⟨m,hm1⟩:∃m,ks[i.toNat]? = aj m:=⟨_,AAN (Kj i0 i1)⟩
   exact iEA m (AA5 hm1) (λU=>Eb _ i0 (by omega) (by rw[ABI,hm1];rfl))
  refine AG (DY (An (Af rfl rfl (AV (by decide))) rfl Ps) λ_=>rfl) (λh=>?_) (λh=>?_)
  ·refine Ax rfl (CG (M:=λJ U'=>(∃o:Option Mk,(∀m,o=aj m->m∈ks)/\J=K own (aj (vi j)) (aj (.d (dms ks))) (aj (vi L)) (aj (vi a)) (aj (vs l)) (aj (.d (AF o))) z12)/\[.list (ds.map λd=>.d d.data)]=U') ?_ ?_)
   ·refine AG rfl (λh=>?_) (λh=>?_)
    ·have h:=AAG h;exact oEA (pick (a-1) (by omega) (by omega)) λm hm1 hm2=>Ax (Ae rfl (Af rfl rfl rfl) (hm2 _)) (Ab (Ab (AB _ rfl (iEA (aj m) (λm' e=>AAA e▸hm1) rfl) rfl)))
    ·exact Ab (Ab (AB _ rfl (iEA au (λm' e=>Aa e) rfl) rfl))
   intro q_u0 q_u1 q_r2;refine oA q_r2 λq_0 q_1=>?_;obtain⟨o,ho,rfl⟩:=q_0;subst q_1;exact Be rfl (Az (Dk (Ms (congrArg (λs=>aj (V.d (.str s))) EU) rfl rfl) rfl)) rfl hll (Ax rfl (Ab (Ab (fin ⟨He,o,aj l⟩ (own+1) _ rfl ⟨.inl (fO rfl l rfl hlo),λe=>absurd e (show He≠Ix by decide)⟩ (λm e=>hks1 m (ho m e)) (Hj _ _ _ _ _ _ _ rfl)))))
  ·have h2:=(Bool.or_eq_false_iff.mp h).2;have hpos:0<ks.length:=by
    cases ks with
    |nil=>cases h2
    |cons _ _=>exact ACZ _
   have hi:=Bc a (Int.ofNat_le.mpr ‹_›);refine oEA (pick (a.fmod ks.length) hi.1 hi.2) λm hm1 hm2=>AG (An (Af rfl rfl (AV (by decide))) rfl BL) (λh=>?_) (λh=>?_)
   ·exact Be rfl (Az (Dk (AY (congrArg (λs=>aj (V.d (.str s))) Uc) (Ae rfl (Af rfl (AU (Az rfl) (hkl _)) (AV (Rh hpos))) (hm2 _))) rfl)) rfl hll (Ab (Ab (Ab (fin ⟨Ix,aj m,au⟩ own _ rfl ⟨.inr (.inr (iAE rfl m rfl)),λ_=>rfl⟩ (λm' e=>AAA e▸hks1 m hm1) (Hj _ _ _ _ _ _ _ rfl)))))
   ·exact Be rfl (Az (Dk (Ms (congrArg (λs=>aj (V.d (.str s))) Ih) (Ae rfl (Af rfl (AU (Az rfl) (hkl _)) (AV (Rh hpos))) (hm2 _)) rfl) rfl)) rfl hll (Ab (Ab (Ab (fin ⟨Jt,aj m,aj l⟩ own _ rfl ⟨.inr (.inl (U9 rfl m l rfl rfl hlo)),λe=>absurd e (show Jt≠Ix by decide)⟩ (λm' e=>AAA e▸hks1 m hm1) (Hj _ _ _ _ _ _ _ rfl)))))
 ·intro J U q_r3;refine Br q_r3 λds own D q_3 q_4=>?_;obtain⟨z6,z7,z8,z9,z10,z11,z12,rfl⟩:=q_3;subst q_4;exact AE rfl (OX ds (by rw[D.len,ABV]) D.dok D.ok rfl rfl)
theorem UO(t:List Nat)(c many:Int)(ms:List Mk)(h0:0<=many)(h1:many<=100)(hml:ms.length<=10000):∃ds:List Ba,ds.length=many.toNat/\DOk t ms ds 0/\(∀d∈ds,De d)/\∀U,FN 3 15 [vs t,vi c,vi many,.d (dms ms)] U (.d (dds ds)) U:=by refine AH (FN.ends (C:=C2 2 (AAL _)) (f:=15) (R:=λv U'=>∃ds:List Ba,ds.length=many.toNat/\DOk t ms ds 0/\(∀d∈ds,De d)/\v=.ref 0/\U'=[.list (ds.map λd=>.d d.data)]) (by unfold Pg;rfl) rfl (by decide) (R6 (λ_ _ _=>rfl) (λ_ _=>rfl) t c many ms h0 h1 hml)) λv U' q_2 h=>LO q_2 λds k1 k2 k3 k4 k5=>?_;rw[k4,k5] at h;exact Ii ds k1 k2 k3 (λU=>(FA.seal h ⟨_,rfl,ABF _,by rw[AAE];rfl⟩).any (ae (CC _ _) (ae (CC _ _) (ae (CC _ _) (ae (CC _ _) AC)))))
noncomputable def OU(x:List Nat):List (List Nat)->List (List Nat)
 |[]=>[x]
 |y::r=>if decide (x<y) then x::y::r else y::OU x r
noncomputable def Av:List (List Nat)->List (List Nat)
 |[]=>[]
 |x::r=>OU x (Av r)
theorem RV(x:List Nat)(l:List (List Nat)):EF (Tx x) (l.map Tx)=(OU x l).map Tx:=by
 induction l with
 |nil=>rfl
 |cons y l ih =>
  show(if By (Tx x) (Tx y)=true then Tx x::Tx y::l.map Tx else Tx y::EF (Tx x) (l.map Tx))=(if decide (x<y)=true then x::y::l else y::OU x l).map Tx;rw[Ol,ih];cases decide (x<y)<;>rfl
theorem G0(l:List (List Nat)):DQ (l.map Tx)=(Av l).map Tx:=by
 induction l with
 |nil=>rfl
 |cons y l ih =>
  show EF (Tx y) (DQ (l.map Tx))=(OU y (Av l)).map Tx;rw[ih,RV]
theorem Ah(l:List (List Nat)):(Av l).Perm l:=by
 have ins:∀(x:List Nat) (l:List (List Nat)),(OU x l).Perm (x::l):=by
  intro x l
  induction l with
  |nil=>exact .refl _
  |cons y l ih =>
   unfold OU;split
   ·exact .refl _
   ·exact(ih.cons y).trans (.swap ..)
 induction l with
 |nil=>exact .refl _
 |cons y l ih=>exact(ins y _).trans (ih.cons y)
theorem BY(l:List (List Nat))(h:l.Nodup):(Av l).Pairwise (· < ·):=by have h1:=D6 (l.map Tx);rw[G0] at h1;have h1:((Av l).map Tx).Pairwise λa b=>By b a=false:=h1;rw[ACQ] at h1;refine(h1.and ((Ah l).nodup_iff.mpr h)).imp λ{a b} q=>?_;have q1:=q.1;rw[Ol] at q1;exact Classical.byContradiction λh=>q.2 (List.le_antisymm (List.not_lt.mp (ABG q1)) (List.not_lt.mp h))
theorem Qh(l:List (List Nat)):Db Ct (l.map vs)=aj (l.map Tx):=by exact(show l.map vs=vss (l.map Tx) by show _=(l.map Tx).map _;rw[AAE];rfl)▸HN _
theorem Dr(hx:A8 U x=aj (l.map vs))(h:l.length<64):Cl .sorted U [x]=aj (.d (dl (Av l))):=by
 show((A8 U x).bind λws=>(Db Ct ws).bind λss=>if ss.length<64 then aj (vss (DQ ss)) else au).bind mkL=_;rw[hx,bs,Qh,bs,if_pos (lmt h),bs,G0];have e:vss ((Av l).map Tx)=((Av l).map λt=>PyData.str (Tx t)).map V.d:=by show((Av l).map Tx).map _=_;rw[AAE,AAE];rfl
 exact e▸HL _ (by rw[AAB,(Ah l).length_eq];exact AAC (ACF h) (by decide))
theorem NI(ds:List PyData)(k:Nat):Hq k ds=(ds.zipIdx k).map λp=>V.d (.tuple [.int (p.2:Int),p.1]):=by
 induction ds generalizing k with
 |nil=>rfl
 |cons x a ih=>show _::Hq (k+1) a=_;rw[ih];rfl
theorem Mc:∀(l:List Ch) (k:Nat),(l.zipIdx k).map (·.1.1)=l.map (·.1)
 |[],_=>rfl
 |_::l,k=>by rw[List.zipIdx_cons,ABP,ABP,Mc l (k+1)]
noncomputable abbrev lcs(cs:List Ch):O:=.list (cs.map vc)
theorem R4(hm:∀c k U,C.O 10 [vi c,vi k] U=aj (vi (CB c k)))(c:Int)(cs:List Ch)(hcs:cs.length<=60)(hy:∀o,A8 (τ++[o]) y=aj (cs.map vc)) :
 Ak C (λfl U'=>∃fs:List (List Nat),fs.Sublist (cs.map (·.1))/\GR fl=.d (dl (Av fs))/\U'=τ++[.list (fs.map vs)]) P7.body (BD P7 [vi c,y]) τ:=by
 have hy':∀o,A8 (τ++[o]) y=aj ((cs.map Ch.data).map V.d):=λo=>by rw[hy,AAE];rfl
 refine Ax (Fc (AY rfl rfl) (hm _ _ _)) (Bx rfl ?_);let K:Int->Option V->Option V->Option V->Al:=λL z4 z5 z6=>[aj (vi c),aj y,aj (vi L),aj (.ref τ.length),z4,z5,z6]
 have hlen:=λo=>(len_of' (hy o)).trans (by rw[AAB]);refine G8 (l:=cs.zipIdx) (kps:=CV y ((cs.map Ch.data).map V.d)) (λp=>V.d (.tuple [.int (p.2:Int),Ch.data p.1])) (λp J U=>∃fs:List (List Nat),fs.Sublist (p.map (·.1.1))/\(∃L z4 z5 z6,J=K L z4 z5 z6)/\U=τ++[.list (fs.map vs)]) ?_ ?_ (λ_ _=>.inr (iEA _ rfl rfl)) (AB [] (.refl _) (KT _ au au au rfl) rfl) ?_ ?_
 ·show(Jr (τ++[.list []]) y).bind (λds=>aj (Hq 0 ds,CV y (ds.map .d)))=_;rw[show Jr (τ++[.list []]) y=aj (cs.map Ch.data) by unfold Jr;rw[hy'];exact Dl _,bs,NI,List.zipIdx_map,AAE];rfl
 ·intro p J U q_r1;refine AS q_r1 λfs _ _ q_3=>?_;subst q_3;exact EE (hy' _)
 ·intro p q_r2 q J U hp q_r3;obtain⟨ch,i⟩:=q_r2;refine AS q_r3 λfs g1 q_2 q_3=>?_;obtain⟨L,z4,z5,z6,rfl⟩:=q_2;subst q_3;have hfl:fs.length<100:=by have h1:=g1.length_le;have h2:=congrArg List.length hp;simp at h1 h2;exact YL h2 h1 hcs rfl
  refine Ax (QO (EO rfl (Af (AU (Az rfl) (hlen _)) rfl rfl) BL) λ_=>EO (Af rfl rfl (AV (by decide))) rfl BL) ?_;generalize(decide ((i:Int)=cs.length-1)&&decide (c.fmod 7=3))=last;refine CG (M:=λJ U=>∃fs':List (List Nat),fs'.Sublist ((p++[(ch,i)]).map (·.1.1))/\J=K L (aj (vi i)) (aj (vc ch)) (aj (vb last))/\U=τ++[.list (fs'.map vs)]) ?_ ?_
  ·refine AG
    (DY rfl λ_=>Cz (An (Af rfl (Af rfl (Af rfl rfl (AV (by decide))) rfl) (AV (lO (Bc c (j:=3) (by decide)).1 rfl))) rfl BL) λ_=>DY (An (AU (Az rfl) (hlen _)) rfl Ps) λ_=>An (Af rfl rfl (AV (by decide))) (Af (Af rfl rfl (CN (by decide))) rfl (AV (by decide))) BL) (λ_=>?_) (λ_=>?_)
   ·refine Be rfl (Az (Ae rfl rfl (Bb ch))) List.getElem?_concat_length (lmt (ABT hfl (by decide))) (Ab (Ab (BT _ rfl (fs++[ch.1]) ?_ rfl ?_)))
    ·exact AAQ▸g1.append (.refl _)
    ·rw[AAQ,List.set_append_right _ _ (AAL _),ADF];rfl
   ·exact Ab (Ab (BT _ rfl fs (AAQ▸g1.trans (List.sublist_append_left _ _)) rfl rfl))
  intro q_u0 q_u1 q_r4;refine AS q_r4 λfs' k1 q_2 q_3=>?_;subst q_2;subst q_3;refine Ax (Af rfl rfl (CN (by decide))) (AG rfl (λ_=>?_) (λ_=>?_))
  ·exact Ax (Fc (AY rfl rfl) (hm _ _ _)) (Ab (Ab (BT _ rfl fs' k1 (KT _ _ _ _ rfl) rfl)))
  ·exact Ab (Ab (BT _ rfl fs' k1 (KT _ _ _ _ rfl) rfl))
 ·intro J U q_r5;refine AS q_r5 λfs g1 q_2 q_3=>?_;obtain⟨L,z4,z5,z6,rfl⟩:=q_2;subst q_3;have g2:fs.Sublist (cs.map (·.1)):=by rw[<-Mc cs 0];exact g1
  have hl:=g2.length_le;rw[AAB] at hl;exact AE (AU (Az rfl) (Dr (Qi List.getElem?_concat_length) (YS hl hcs rfl))) (AB fs g2 rfl rfl)
theorem ZS(cs:List Ch):∀(k:Nat) o,([lcs cs]:Ac)[k]? = aj o->Gj 1 o:=λk o e=>by
 cases k with
 |zero =>
  rw[<-AAA e];intro v hv;refine oEA (AAP.mp hv) λc _ q_2=>?_;subst q_2;exact trivial
 |succ k=>exact Aa e
theorem UM(c:Int)(cs:List Ch)(hcs:cs.length<=60):∃fs:List (List Nat),fs.Sublist (cs.map (·.1))/\FN 3 13 [vi c,.ref 0] (lcs cs::τ) (.d (dl (Av fs))) (lcs cs::τ):=by refine AH (FN.ends (C:=C1 2 (AAL _)) (f:=13) (R:=λv U'=>∃fs:List (List Nat),fs.Sublist (cs.map (·.1))/\v=.d (dl (Av fs))/\U'=[lcs cs,.list (fs.map vs)]) (by unfold Pg;rfl) rfl (by decide) (R4 (λ_ _ _=>rfl) c cs hcs (y:=.ref 0) (τ:=[lcs cs]) λ_=>rfl)) λv U' q_2 h=>AS q_2 λfs k1 k2 k3=>?_;rw[k2,k3] at h;exact iEA fs k1 (FA.tail (FA.seal h rfl) rfl (ae (CC _ _) (ae (show 0<1 by decide) AC)) (ZS cs))
structure GenCh(c:Ch):Prop where
 name:Bt c.1=true
 few:c.2.1.length<=60
 rise:c.2.1.Pairwise (· < ·)
 deeds:c.2.2.length<=20
 ok:∀d∈c.2.2,De d
theorem Nt(pre:List Ch)(c:Ch)(ls:List (List Nat)):DG (pre++[c]) ls=DG pre ls++(if c.1∈ls then GW c.1 0 (adds c.2.2) else []):=by
 unfold DG;rw[ABN,List.flatMap_append];congr 1;by_cases h:c.1∈ls
 ·rw[if_pos h,ADM (by exact AAI h)];simp
 ·rw[if_neg h,List.filter_cons_of_neg (by simpa using h)];rfl
theorem BJ.snoc(H:BJ cs)(hn:c.1∉cs.map (·.1))(hl:∀l∈c.2.1,l∈cs.map (·.1))(hd:DOk c.1 (DG cs c.2.1) c.2.2 0):BJ (cs++[c]):=by
 refine⟨?_,λpre x post e=>?_⟩
 ·rw[AAQ,ABW];refine⟨H.nd,by simp,λa ha b hb e=>hn ?_⟩;have:b=c.1:=by simpa using hb
  exact this▸e▸ha
 ·rcases List.eq_nil_or_concat post with rfl|⟨post',y,rfl⟩
  ·refine oA (ADT e rfl) λq_0 e2=>?_;subst q_0;cases e2;exact⟨hl,hd⟩
  ·have e':cs++[c]=(pre++x::post')++[y]:=by rw[e];simp
   exact oA (ADT e' rfl) λe1 _=>H.ok _ _ _ e1
theorem bD:ACC "0" = Tx [48]:=by decide +kernel
theorem Rp:Bt [48]=true:=by decide
noncomputable abbrev scD(ns:List Int):PyData:=.list (ns.map .int)
theorem O6(i:Int)(h0:0<=i)(h:i<ns.length)(hn:ns.length<=1000):BK (.d (scD ns)) (vi i) U=aj (vi (ns.getD i.toNat 0)):=by
 have hi:=by exact Kj h0 h
 refine Eb i h0 (Ra h hn rfl) ?_;rw[ABI,AAN hi];rw[List.getD_eq_getElem?_getD,AAN hi];rfl
noncomputable abbrev ltk(cs:List Ch):O:=.list (([48]::cs.map (·.1)).map vs)
noncomputable def cF:S:=match H6.body with|.cons _ (.cons _ (.cons (.for_ _ _ b) _))=>b|_=>.nil
theorem L7(hn:3<=C.n)(ns:List Int)(most k:Int)(hns:ns.length<=1000)(h0:0<=k)(hk:4*(k+1)<=ns.length)(cs:List Ch)(hcs:cs.length<60)(hg:∀c∈cs,GenCh c)(hok:BJ cs)(hnd:([48]::cs.map (·.1)).Nodup)(z5 z6 z7 z8 z9:Option V) :
 Ak C (λfl U'=>∃J',fl=.next J'/\∃(c:Ch) (z5 z6 z7 z8 z9:Option V),GenCh c/\BJ (cs++[c])/\([48]::(cs++[c]).map (·.1)).Nodup/\J'=[aj (.d (scD ns)),aj (vi most),aj (.ref 0),aj (.ref 1),aj (vi k),z5,z6,z7,z8,z9]/\U'=[lcs (cs++[c]),ltk (cs++[c])])
  cF [aj (.d (scD ns)),aj (vi most),aj (.ref 0),aj (.ref 1),aj (vi k),z5,z6,z7,z8,z9] [lcs cs,ltk cs]:=by
 have hnm:∀x∈([48]::cs.map (·.1)),Bt x=true:=by
  intro x hx;rcases AAR.mp hx with rfl|hx
  ·exact Rp
  ·refine oEA (AAP.mp hx) λc hc q_2=>?_;subst q_2;exact(hg c hc).name
 have m4:∀{e U z5 z6 z7 z8 z9},(ev C.O (.bin .Mult (.cst (.int 4)) (.var 4))).v [aj (.d (scD ns)),aj (vi most),aj (.ref 0),aj (.ref 1),aj (vi k),z5,z6,z7,z8,z9] U=e↔aj (vi (4*k))=e:=by intro e U z5 z6 z7 z8 z9;rw[Af rfl rfl (Il (sm4 k))]
 have cell:∀(j:Int) {U z5 z6 z7 z8 z9},0<=j->j<4->(ev C.O (.sub (.var 0) (.bin .Add (.bin .Mult (.cst (.int 4)) (.var 4)) (.cst (.int j))))).v [aj (.d (scD ns)),aj (vi most),aj (.ref 0),aj (.ref 1),aj (vi k),z5,z6,z7,z8,z9] U=aj (vi (ns.getD (4*k+j).toNat 0)):=λj {U z5 z6 z7 z8 z9} j0 j4 =>
  Ae rfl (Af (m4.mpr rfl) rfl rfl) (O6 (4*k+j) (lK h0 j0 rfl) (iH hk j4) hns)
 refine AS (QB (U:=[lcs cs,ltk cs]) (x:=.ref 1) (ns.getD (4*k).toNat 0) ([48]::cs.map (·.1)) (Qi rfl) hnm (by rw[AA2,AAB];exact AAS ‹_› (ACD rfl))) λt t1 t2 t3=>AD rfl (.fcall ((Ad C.ok _).row (AY (Ae rfl (m4.mpr rfl) (O6 (4*k) (lJ h0 rfl) (iG hk rfl) hns)) rfl)) (t3.more hn)) (Be rfl rfl rfl (by rw[AAB,AA2,AAB];exact ABT (Nat.succ_lt_succ hcs) (by decide)) ?_);obtain⟨fs,f1,f2⟩:=UM (ns.getD (4*k+1).toNat 0) cs (ACF hcs);refine AD rfl (.fcall ((Ad C.ok _).row (AY (cell 1 (by decide) (by decide)) rfl)) (f2.more hn)) (Ax rfl ?_);have hfl:(Av fs).length<=60:=by rw[(Ah fs).length_eq];have:=f1.length_le;rw[AAB] at this;exact kW this hcs rfl
 refine G8 vc (λpre J U=>(∃ms,ms=DG pre (Av fs)/\ms.length<=20*pre.length/\∃z8,J=[aj (.d (scD ns)),aj (vi most),aj (.ref 0),aj (.ref 1),aj (vi k),aj (vs t),aj (.d (dl (Av fs))),aj (.d (dms ms)),z8,z9])/\U=[lcs cs,.list (([48]::cs.map (·.1)).map vs++[vs t])]) rfl ?_ (λ_ _=>.inl rfl) ⟨(U8 [] rfl (ABF _) _ rfl),rfl⟩ ?_ ?_
 ·intro p J U q_r1 k ws hk;refine oA q_r1 λ_ q_1=>?_;subst q_1;refine oA (ABK (AAJ.mp hk)) λq_0 q_1=>?_;subst q_0;subst q_1;rfl
 ·intro p c q J U hp q_r2;refine oA q_r2 λq_0 q_1=>?_;obtain⟨ms,m1,m2,z8,rfl⟩:=q_0;subst q_1;have hpl:=by have:=congrArg List.length hp;simp at this;exact jW this hcs
  have hsn:=Nt p c (Av fs);have hjd:=IH c.2.2;have hcd:=(hg c (by rw[hp];simp)).deeds;refine AG (An (Ae rfl rfl (Bb c)) rfl (CE _ _)) (λh=>?_) (λh=>?_)
  ·refine AD (v:=.d (dms (ms++GW c.1 0 (adds c.2.2)))) rfl (GA (.bin ((Ad C.ok (.var 7)).v rfl) (.fcall ((Ad C.ok _).row (Az rfl)) ((UL c (Hx hcd rfl)).more (AAC (by decide) hn))) (IG ?_)) (HL _ ?_)) (Ab (Ab (AB _ rfl (U8 _ (by rw[hsn,if_pos (AAG h),m1]) ?_ _ rfl) rfl)))
   ·show(if _ then _ else _)=_;rw[if_pos (by simp[line,FV];exact YV m2 hpl hjd hcd rfl)];simp[AAQ]
   ·simp[line,FV];exact YV m2 hpl hjd hcd rfl
   ·simp[FV];exact lB m2 hjd hcd
  ·exact Ab (Ab (AB _ rfl (U8 ms (by rw[hsn,if_neg (ABG h),AAV];exact m1) (AAF▸lE m2) _ rfl) rfl))
 intro q_u0 q_u1 q_r3;refine oA q_r3 λq_0 q_1=>?_;obtain⟨ms,m1,m2,z8,rfl⟩:=q_0;subst q_1;have h5:=Bc (ns.getD (4*k+3).toNat 0) (j:=5) (by decide);refine Ax (Af (cell 3 (by decide) (by decide)) rfl (AV (by decide))) (CG (M:=λJ U=>(∃m:Int,0<=m/\m<=20/\J=[aj (.d (scD ns)),aj (vi most),aj (.ref 0),aj (.ref 1),aj (vi k),aj (vs t),aj (.d (dl (Av fs))),aj (.d (dms ms)),z8,aj (vi m)])/\U=[lcs cs,.list (([48]::cs.map (·.1)).map vs++[vs t])]) ?_ ?_)
 ·refine AG (An (Af (Af (cell 3 (by decide) (by decide)) rfl (CN (by decide))) rfl (AV (by decide))) rfl BL) (λh=>?_) (λh=>?_)
  ·have h16:=Bc ((ns.getD (4*k+3).toNat 0).fdiv 80) (j:=16) (by decide);exact Ax (Af rfl (Af (Af (cell 3 (by decide) (by decide)) rfl (CN (by decide))) rfl (AV (by decide))) rfl) (Ab (Ab (AB _ rfl (AB _ (lN h16.2 rfl) (lM h16.1 rfl) rfl) rfl)))
  ·exact Ab (Ab (AB _ rfl (AB _ h5.1 (Rg h5.2 rfl) rfl) rfl))
 intro q_u0 q_u1 q_r4;refine oA q_r4 λq_0 q_1=>?_;obtain⟨m,hm0,hm1,rfl⟩:=q_0;subst q_1;refine Nh (UO t (ns.getD (4*k+2).toNat 0) m ms hm0 (Oh hm1 rfl) (lF m2 hcs rfl)) λds d1 d2 d3 d4=>Bw (U':=[.list (cs.map vc++[vc (t,Av fs,ds)]),.list (([48]::cs.map (·.1)).map vs++[vs t])]) rfl (.lmeth Ai slot_list_append type_list_append ((Ad C.ok (.var 2)).v rfl) (.cons (.tup (ds:=[.str (Tx t),dl (Av fs),dds ds]) (.cons ((Ad C.ok (.var 5)).v rfl) (.cons ((Ad C.ok (.var 6)).v rfl) (.cons (.fcall ((Ad C.ok _).row (NJ rfl (Ms (cell 2 (by decide) (by decide)) rfl rfl))) ((d4 _).more hn)) .nil))) (show 3<=line by decide)) .nil) rfl rfl (Nn (lmt (ABT hcs (by decide))))) ?_;have hfn:∀l∈Av fs,l∈cs.map (·.1):=λl hl=>f1.subset ((Ah fs).mem_iff.mp hl);refine Ab ⟨_,rfl,(t,Av fs,ds),aj (vs t),aj (.d (dl (Av fs))),aj (.d (dms ms)),z8,aj (vi m),⟨t1,hfl,BY fs (f1.nodup hok.nd),by rw[d1];exact Ob hm1 rfl,d3⟩,hok.snoc (λh=>t2 (.tail _ h)) hfn (m1▸d2),?_,rfl,?_⟩
 ·have:[48]::(cs++[(t,Av fs,ds)]).map (·.1)=([48]::cs.map (·.1))++[t]:=by simp
  rw[this,ABW];exact⟨hnd,by simp,λa ha b hb e=>t2 ((AAJ.mp hb)▸e▸ha)⟩
 ·simp[lcs,ltk,AAQ]
theorem oZ(m:Nat)(most:Int)(hm:m<=1000)(h0:0<=most)(h1:most<=60):0<=(if most<(m:Int).fdiv 4 then most else(m:Int).fdiv 4)/\(if most<(m:Int).fdiv 4 then most else(m:Int).fdiv 4)<=most/\4*(if most<(m:Int).fdiv 4 then most else(m:Int).fdiv 4)<=m:=by rw[Int.fdiv_eq_ediv_of_nonneg _ (by decide)];split<;>lia
theorem MW(hn:3<=C.n)(ns:List Int)(most:Int)(hns:ns.length<=1000)(h0:0<=most)(h1:most<=60) :
 Ak C (λfl U'=>∃cs:List Ch,(cs.length:Int)<=most/\(∀c∈cs,GenCh c)/\BJ cs/\[48]∉cs.map (·.1)/\GR fl=.ref 0/\U'=[lcs cs,ltk cs]) H6.body (BD H6 [.d (scD ns),vi most]) []:=by
 refine Bx rfl (Bx (by show(ev C.O (.lst _)).nl _ _=_;exact congrArg (λs=>aj [V.d (.str s)]) bD) ?_);refine oAA (oZ ns.length most hns h0 h1) λm0 m1 m2=>?_;have hr:(ev C.O (.cons (.bi .min (.cons (.bin .FloorDiv (.bi .len (.cons (.var 0) .nil)) (.cst (.int 4))) (.cons (.var 1) .nil))) .nil)).row [aj (.d (scD ns)),aj (vi most),aj (.ref 0),aj (.ref 1),au,au,au,au,au,au] [.list [],.list [vs [48]]]=aj [vi (if most<(ns.length:Int).fdiv 4 then most else(ns.length:Int).fdiv 4)] :=
  Az (AU (AY (Af (AU (Az rfl) (CK.trans (by rw[AAB]))) rfl (CN (by decide))) rfl) rfl)
 generalize(if most<(ns.length:Int).fdiv 4 then most else(ns.length:Int).fdiv 4)=m at m0 m1 m2 hr;refine AW (λj:Nat=>vi (j:Int)) (λpre J U=>∃cs:List Ch,cs.length=pre.length/\(∀c∈cs,GenCh c)/\BJ cs/\([48]::cs.map (·.1)).Nodup/\(∃z4 z5 z6 z7 z8 z9,J=[aj (.d (scD ns)),aj (vi most),aj (.ref 0),aj (.ref 1),z4,z5,z6,z7,z8,z9])/\U=[lcs cs,ltk cs])
  (Qu hr (iF m2 hns rfl) (Lw m0 rfl)) ⟨[],rfl,(λc h=>nomatch h),⟨ABY,λpre c post e=>by simp at e⟩,by simp,⟨au,au,au,au,au,au,rfl⟩,rfl⟩ ?_ ?_
 ·intro p j q J U hp q_r5;refine LN q_r5 λcs g0 g1 g2 g3 q_5 q_6=>?_;obtain⟨z4,z5,z6,z7,z8,z9,rfl⟩:=q_5;subst q_6;have hj:=by
   have:j∈List.range m.toNat:=by rw[hp];simp
   exact ABZ.mp this
  have hl:p.length<60:=by have:=congrArg List.length hp;simp at this;exact hU m1 h1 this rfl
  refine(L7 hn ns most (j:Int) hns (AB6 _) (jI m2 hj rfl) cs (kU g0 hl) g1 g2 g3 z5 z6 z7 z8 z9).mono λfl U' h=>K1 h λJ' e c y5 y6 y7 y8 y9 k1 k2 k3 k4 k5=>⟨J',e,cs++[c],by rw[AAF,AAF,g0];rfl,λx hx=>?_,k2,k3,⟨_,_,_,_,_,_,k4⟩,k5⟩
  rcases AA0.mp hx with hx|hx
  ·exact g1 x hx
  ·exact(AAJ.mp hx)▸k1
 ·intro J U q_r6;refine LN q_r6 λcs g0 g1 g2 g3 q_5 q_6=>?_;obtain⟨z4,z5,z6,z7,z8,z9,rfl⟩:=q_5;subst q_6;refine AE rfl ⟨cs,?_,g1,g2,(ABX.mp g3).1,rfl,rfl⟩;rw[ABV] at g0;exact jK m0 m1 g0
theorem Ph(ns:List Int)(most:Int)(hns:ns.length<=1000)(h0:0<=most)(h1:most<=60):∃cs:List Ch,(cs.length:Int)<=most/\(∀c∈cs,GenCh c)/\BJ cs/\[48]∉cs.map (·.1)/\∀U,FN 4 16 [.d (scD ns),vi most] U (.d (.list (cs.map Ch.data))) U:=by refine AH (FN.ends (C:=C0 3) (f:=16) (R:=λv U'=>∃cs:List Ch,(cs.length:Int)<=most/\(∀c∈cs,GenCh c)/\BJ cs/\[48]∉cs.map (·.1)/\v=.ref 0/\U'=[lcs cs,ltk cs]) (by unfold Pg;rfl) rfl (by decide) (MW (AAL _) ns most hns h0 h1)) λv U' q_2 h=>LN q_2 λcs k1 k2 k3 k6 k4 k5=>?_;rw[k4,k5] at h;exact OX cs k1 k2 k3 k6 (λU=>(FA.seal h ⟨_,rfl,ABF _,by rw[AAE];rfl⟩).any (ae (CC _ _) (ae (CC _ _) AC)))
theorem G4:BU .NotEq (vi i) (vi j) U=aj (!decide (i=j)):=by show HH (BU .Eq (vi i) (vi j) U)=_;exact BL▸rfl
noncomputable abbrev Qk(ns:List Int):O:=.list (ns.map vi)
theorem TV(ns:List Int):Cl .len U [.d (scD ns)]=aj (vi ns.length):=CK.trans (by rw[AAB])
theorem SW(hm:∀c k U,C.O 10 [vi c,vi k] U=aj (vi (CB c k)))(ns:List Int)(flag:Int)(hns:ns.length<=1000) :
 Ak C (λfl U'=>∃ns':List Int,ns'.length<=1000/\((GR fl=.d (scD ns')/\U'=[])\/(GR fl=.ref 0/\U'=[Qk ns']))) VJ.body (BD VJ [.d (scD ns),vi flag,vi 10]) []:=by
 refine AG (DY (An (AU (Az rfl) (TV ns)) rfl Ps) λ_=>An (Af rfl rfl (AV (by decide))) rfl G4) (λh=>?_) (λh=>Ab ?_)
 ·exact AE rfl ⟨ns,hns,.inl ⟨rfl,rfl⟩⟩
 ·have h4:=ABG (Bool.or_eq_false_iff.mp h).1;refine Bx rfl ?_;have hq:=Bc (flag.fdiv 12) (j:=51) (by decide);refine AW (λj:Nat=>vi (j:Int)) (λp J U=>∃ns':List Int,ns'.length=p.length/\(∃z,J=[aj (.d (scD ns)),aj (vi flag),aj (vi 10),aj (.ref 0),z])/\U=[Qk ns'])
   (Qu (Az (Af rfl (Af rfl (Af (y:=vi 51) (Af rfl rfl (CN (by decide))) rfl (AV (by decide))) rfl) (Il (sm4 _)))) (Y8 hq rfl rfl) (iK hq rfl rfl)) (AB [] rfl ⟨au,rfl⟩ rfl) ?_ ?_
  ·rintro p j q J U hp ⟨ns',g0,⟨z,rfl⟩,rfl⟩;have hj:p.length=j/\j<244:=by
    have h1:(List.range (4*(10+(flag.fdiv 12).fmod 51)).toNat)[p.length]? = aj j:=by rw[hp];simp
    obtain⟨h2,h3⟩:=AAM.mp h1;rw[List.getElem_range] at h3;rw[ABV] at h2;exact iJ hq h2 h3 rfl rfl
   have hi:=Bc (j:Int) (Zi h4);refine Be rfl (Az (Fc (AY (Ae rfl (Af rfl (AU (Az rfl) (TV ns)) (AV (lZ h4))) (O6 _ hi.1 hi.2 hns)) rfl) (hm _ _ _))) rfl (by rw[AAB,g0,hj.1];exact ABT hj.2 (by decide)) ?_;generalize CB (ns.getD ((j:Int).fmod ns.length).toNat 0) j=M;have hx:(ns'.map vi++[vi M])[(j:Int).toNat]? = aj (vi M):=by rw[Int.toNat_natCast,AA6 (by rw[AAB,g0,hj.1];exact AAL _),AAB,g0,hj.1,ADF];rfl
   refine AG (Cz (An (Af rfl rfl (AV (by decide))) rfl BL) λ_=>An (Af (Af rfl rfl (CN (by decide))) rfl (AV (by decide))) rfl BL) (λh=>?_) (λh=>?_)
   ·refine Xi (Af (Af (Af (Ae rfl rfl (cJ (j:Int) (AB6 _) (by omega) rfl hx)) rfl (CN (by decide))) rfl (Il (smr (by decide) (by decide)))) rfl rfl) rfl rfl rfl (AB6 _) (by rw[AAF,AAB,g0,hj.1];show(j:Int)<((j+1:Nat):Int);exact mG) (Ab (Ab (BT _ rfl (ns'++[M.fdiv 7*7+3]) (by rw[AAF,AAF,g0];rfl) ⟨_,rfl⟩ ?_)));show [O.list ((ns'.map vi++[vi M]).set (j:Int).toNat (vi (M.fdiv 7*7+3)))]=_;rw[Int.toNat_natCast,List.set_append_right _ _ (by rw[AAB,g0,hj.1];exact AAL _),AAB,g0,hj.1,ADF,Qk,AAQ];rfl
   ·exact Ab (Ab (BT _ rfl (ns'++[M]) (by rw[AAF,AAF,g0];rfl) ⟨_,rfl⟩ (by show _=[O.list ((ns'++[M]).map vi)];rw[AAQ];rfl)))
  ·rintro J U ⟨ns',g0,⟨z,rfl⟩,rfl⟩;exact AE rfl (iEA ns' (by rw[g0,ABV];exact Y7 hq rfl rfl) (.inr ⟨rfl,rfl⟩))
theorem Xu(ns:List Int)(flag:Int)(hns:ns.length<=1000):∃ns':List Int,ns'.length<=1000/\∀U,FN 3 33 [.d (scD ns),vi flag,vi 10] U (.d (scD ns')) U:=by
 obtain⟨v,U',⟨ns',k1,k2⟩,h⟩:=FN.ends (C:=C1 2 (AAL _)) (f:=33) (R:=λv U'=>∃ns':List Int,ns'.length<=1000/\((v=.d (scD ns')/\U'=[])\/(v=.ref 0/\U'=[Qk ns']))) (by unfold Pg;rfl) rfl (by decide) (SW (λ_ _ _=>rfl) ns flag hns);refine(iEA ns' k1 (λU=>?_));refine FA.any ?_ (ae (CC _ _) (ae (CC _ _) (ae (CC _ _) AC)));rcases k2 with⟨k2,k3⟩|⟨k2,k3⟩
 ·rw[k2,k3] at h;exact h
 ·rw[k2,k3] at h;exact FA.seal h ⟨_,rfl,ABF _,by rw[AAE];rfl⟩
theorem G6(h:l.length<=line):Cl .list U [.d (.list l)]=aj (.d (.list l)):=HL l h
theorem Xz(c:Ch)(hc:c.2.1.length<=line)(hd:c.2.2.length<=line):FN 2 17 [vc c] U (vc c) U:=by
 exact FN.same (C:=C0 1) (fn:=Zo) (by unfold Pg;rfl) rfl (AAL _)
  (AE (Dk (Ms (Ae rfl rfl (Bb c)) (AU (Az (Ae rfl rfl (Df c))) (G6 (lml hc))) (AU (Az (Ae rfl rfl (CQ c))) (G6 (lml hd)))) rfl) ⟨rfl,rfl⟩)
theorem Gg(n:Nat)(a b:List Nat):eqN n (.str (Tx a)) (.str (Tx b))=aj (decide (a=b)):=by rw[<-M4];cases n<;>rfl
theorem X5(n:Nat)(a b:Int):eqN n (.int a) (.int b)=aj (decide (a=b)):=by
 have h:(a==b)=decide (a=b):=by
  by_cases e:a=b
  ·rw[AAI e,beq_iff_eq.mpr e]
  ·rw[AAT e,beq_eq_false_iff_ne.mpr e]
 rw[<-h];cases n<;>rfl
def EqT{α:Type}(f:PyData->PyData->Option Bool)(g:α->PyData):Prop:=∀a b,∃r,f (g a) (g b)=aj r/\(a=b->r=true)
theorem QI{α:Type}{f:PyData->PyData->Option Bool}{g:α->PyData}(h:EqT f g):∀l l':List α,∃r,DX f (l.map g) (l'.map g)=aj r/\(l=l'->r=true)
 |[],[]=>(iEA true rfl (λ_=>rfl))
 |[],_::_=>(iEA false rfl (λe=>nomatch e))
 |_::_,[]=>(iEA false rfl (λe=>nomatch e))
 |a::l,b::l'=>by
  refine oEA (h a b) λr h1 h2=>oEA (QI h l l') λr' h3 h4=>(iEA (r&&r') ?_ (λe=>?_))
  ·show(f (g a) (g b)).bind _=_;exact h1▸bs▸h3▸rfl
  ·refine oA (List.cons.inj e) λe1 e2=>?_;rw[h2 e1,h4 e2];rfl
theorem JQ{α:Type}{g:α->PyData}(h:EqT (eqN n) g):EqT (eqN (n+1)) λl:List α=>.list (l.map g):=λl l'=>by
 show∃r,(if (l.map g).length=(l'.map g).length then DX (eqN n) (l.map g) (l'.map g) else aj false)=aj r/\_;refine oEA (QI h l l') λr h1 h2=>?_;by_cases e:(l.map g).length=(l'.map g).length
 ·exact(if_pos e)▸iEA r h1 h2
 ·exact(if_neg e)▸iEA false rfl (λq=>absurd (congrArg (λl=>(l.map g).length) q) e)
theorem QH(n:Nat):EqT (eqN n) λt:List Nat=>.str (Tx t):=λa b=>(iEA _ (Gg n a b) (λe=>AAI e))
theorem HT(n:Nat)(a b:Mk):eqN (n+1) (AF (aj a)) (AF (aj b))=aj (decide (a=b)):=by show(eqN n (.str (Tx a.1)) (.str (Tx b.1))).bind (λx=>((eqN n (.int a.2) (.int b.2)).bind λy=>(aj true).bind λz=>aj (y&&z)).bind λy=>aj (x&&y))=_;rw[Gg,X5];show aj (decide (a.1=b.1)&&(decide (a.2=b.2)&&true))=_;congr 1;rw[Bool.and_true,<-Bool.decide_and];exact decide_eq_decide.mpr Prod.ext_iff.symm
theorem UX(n:Nat):EqT (eqN (n+1)) AF:=λa b=>by
 cases a with
 |none=>cases b with
  |none=>exact iEA true rfl (λ_=>rfl)
  |some b=>exact iEA false rfl (λe=>nomatch e)
 |some a=>cases b with
  |none=>exact iEA false rfl (λe=>nomatch e)
  |some b=>exact iEA _ (HT n a b) (λe=>AAI (AAA e))
theorem UY(n:Nat):EqT (eqN (n+2)) Ba.data:=λa b=>by
 refine oEA (UX n a.mark b.mark) λr h1 h2=>?_;have key:∀(x y:List PyData) (r':Bool),DX (eqN (n+1)) x y=aj r'->eqN (n+2) (.tuple (.str (Tx a.word)::AF a.mark::x)) (.tuple (.str (Tx b.word)::AF b.mark::y))=aj (decide (a.word=b.word)&&(r&&r')):=λx y r' e=>by show(eqN (n+1) (.str (Tx a.word)) (.str (Tx b.word))).bind (λp=>((eqN (n+1) (AF a.mark) (AF b.mark)).bind λq=>(DX (eqN (n+1)) x y).bind λz=>aj (q&&z)).bind λq=>aj (p&&q))=_;rw[Gg,h1,e];rfl
 unfold Ba.data;cases ha:a.text with
 |none=>cases hb:b.text with
  |none=>exact iEA _ (key [] [] true rfl) (λe=>by rw[AAI (congrArg Ba.word e),h2 (congrArg Ba.mark e)];rfl)
  |some l=>exact iEA _ (key [] [_] false rfl) (λe=>by rw[e,hb] at ha;cases ha)
 |some k=>cases hb:b.text with
  |none=>exact iEA _ (key [_] [] false rfl) (λe=>by rw[e,hb] at ha;cases ha)
  |some l=>exact iEA _ (key [.str (Tx k)] [.str (Tx l)] (decide (k=l)&&true) (by
   show(eqN (n+1) (.str (Tx k)) (.str (Tx l))).bind (λa=>(aj true).bind λb=>aj (a&&b))=_;rw[Gg];rfl)) (λe=>by
   rw[AAI (congrArg Ba.word e),h2 (congrArg Ba.mark e)];have:k=l:=by rw[e,hb] at ha;exact(AAA ha).symm
   rw[AAI this];rfl)
theorem Pl(a b:Ch):∃r,eqN AK (Ch.data a) (Ch.data b)=aj r/\(a=b->r=true)/\(a.1≠b.1->r=false):=by
 refine oEA (JQ (QH 38) a.2.1 b.2.1) λr h1 h2=>oEA (JQ (UY 36) a.2.2 b.2.2) λr' h3 h4=>(AB (decide (a.1=b.1)&&(r&&(r'&&true))) ?_ (λe=>?_) (λe=>?_))
 ·show(eqN 39 (.str (Tx a.1)) (.str (Tx b.1))).bind (λp=>((eqN 39 (dl a.2.1) (dl b.2.1)).bind λq=>((eqN 39 (dds a.2.2) (dds b.2.2)).bind λu=>(aj true).bind λw=>aj (u&&w)).bind λu=>aj (q&&u)).bind λq=>aj (p&&q))=_;rw[Gg,h1,h3];rfl
 ·rw[AAI (congrArg (·.1) e),h2 (congrArg (·.2.1) e),h4 (congrArg (·.2.2) e)];rfl
 ·rw[AAT e];rfl
theorem Uw(c:Ch):∀l:List Ch,∃q,inD (Ch.data c) (l.map Ch.data)=aj q
 |[]=>⟨false,rfl⟩
 |a::l=>by exact oEA (Pl a c) λr h1 _=>oE (Uw c l) λq h2=>⟨r||q,by show(eqN AK (Ch.data a) (Ch.data c)).bind _=_;rw[h1,bs,h2];rfl⟩
noncomputable def oth(c:Ch)(l:List Ch):List Ch:=l.filter λx=>!decide (x.1=c.1)
theorem Tv(h:c.1∉l.map (·.1)):oth c (c::l)=l:=by unfold oth;rw[List.filter_cons_of_neg (by simp)];refine List.filter_eq_self.mpr λx hx=>?_;have:x.1≠c.1:=λq=>h (q▸AAZ hx);simp[this]
theorem Tw(h:a.1≠c.1):oth c (a::l)=a::oth c l:=by unfold oth;exact ADM (by simp[h])
theorem Md(c:Ch):∀l:List Ch,c∈l->(l.map (·.1)).Nodup->(∃j,Jy (Ch.data c) (l.map Ch.data)=aj j/\l.eraseIdx j=oth c l)/\(c::oth c l).Perm l
 |[],h,_=>nomatch h
 |a::l,h,nd=>by
  refine AS (Pl a c) λr h1 h2 h3=>?_;have nd':=ABX.mp nd;by_cases e:a=c
  ·subst e;have e2:=Tv nd'.1;refine⟨(iEA 0 ?_ ?_),by rw[e2]⟩
   ·show(eqN AK (Ch.data a) (Ch.data a)).bind _=_;exact h1▸bs▸(h2 rfl)▸rfl
   ·rw[e2];rfl
  ·have hc:=(AAR.mp h).resolve_left λq=>e q.symm;have hne:a.1≠c.1:=λq=>nd'.1 (by show a.1∈l.map (·.1);rw[q];exact AAZ hc);refine oA (Md c l hc nd'.2) λq_0 j3=>?_;obtain⟨j,j1,j2⟩:=q_0;refine⟨(iEA (j+1) ?_ ?_),by rw[Tw hne];exact(List.Perm.swap ..).trans (j3.cons a)⟩
   ·show(eqN AK (Ch.data a) (Ch.data c)).bind _=_;exact h1▸bs▸(h3 hne)▸j1▸rfl
   ·rw[List.eraseIdx_cons_succ,j2,Tw hne]
theorem Sz(bl:List Bool)(U:Ac):Cl .all U [.d (.list (bl.map .bool))]=aj (vb (bl.all id)):=by
 have h:Db EX ((bl.map PyData.bool).map V.d)=aj bl:=by
  induction bl with
  |nil=>rfl
  |cons a l ih=>show(Db EX ((l.map PyData.bool).map V.d)).bind _=_;rw[ih];rfl
 show(Db EX ((bl.map PyData.bool).map V.d)).bind _=_;exact h▸rfl
def CP(cs:List Ch):Prop:=∀pre c post,cs=pre++c::post->∀l∈c.2.1,l∈pre.map (·.1)
theorem CP.snoc(h:CP cs)(hc:∀l∈c.2.1,l∈cs.map (·.1)):CP (cs++[c]):=λpre x post e=>by
 rcases List.eq_nil_or_concat post with rfl|⟨post',y,rfl⟩
 ·refine oA (ADT e rfl) λq_0 e2=>?_;subst q_0;exact((List.cons.inj e2).1)▸hc
 ·have e':cs++[c]=(pre++x::post')++[y]:=by rw[e];simp
  exact oA (ADT e' rfl) λe1 _=>h _ _ _ e1
structure HY(cs L F:List Ch):Prop where
 sub:L.Sublist cs
 perm:(F++L).Perm cs
 topo:CP F
theorem HY.ready(H:BJ cs)(h:HY cs (c::L) F):∀l∈c.2.1,l∈F.map (·.1):=λl hl=>by
 refine oEE (AB7 (h.sub.subset (.head _))) λpre post q_2=>?_;subst q_2;refine oEA (AAP.mp ((H.ok pre c post rfl).1 l hl)) λx hx q_2=>?_;subst q_2;have nd:(pre++c::post).Nodup:=(ACQ.mp H.nd).imp λh e=>h (congrArg (·.1) e);have nd':=ABW.mp nd;rcases AA0.mp (h.perm.mem_iff.mpr (AAU _ hx)) with q|q
 ·exact AAZ q
 ·exfalso;have hs:(c::L).Sublist (c::post):=by
   rcases List.sublist_append_iff.mp h.sub with⟨l1,l2,e,s1,s2⟩
   cases l1 with
   |nil=>rw[show c::L=l2 from e];exact s2
   |cons y l1 =>
    exact oA (List.cons.inj e) λe1 _=>absurd rfl (nd'.2.2 c (e1▸s1.subset (.head _)) c (.head _))
  exact nd'.2.2 x hx x (hs.subset q) rfl
theorem HY.take(hn:(cs.map (·.1)).Nodup)(h:HY cs L F)(hc:c∈L)(hl:∀l∈c.2.1,l∈F.map (·.1)):HY cs (oth c L) (F++[c])/\(oth c L).length+1=L.length:=by have hp:=(Md c L hc ((h.sub.map _).nodup hn)).2;refine⟨⟨List.filter_sublist.trans h.sub,?_,h.topo.snoc hl⟩,hp.length_eq⟩;rw[ABQ];exact(hp.append_left F).trans h.perm
theorem EW{O:Orc}{xs:List V}{b:Bi}{p:Bool}(h1:(ev O es).row J U=aj xs)(h2:Cl b U xs=aj (vb p)):(ev O (.bi b es)).t J U=aj p:=by rw[oI,h1,bs,h2];rfl
noncomputable def fI(m:Nat):Bool:=match m with|0=>false|_+1=>true
theorem Lf{α β:Type}(f:α->β):∀(l:List α) (j:Nat),(l.map f).eraseIdx j=(l.eraseIdx j).map f
 |[],_=>rfl
 |_::_,0=>rfl
 |a::l,j+1=>congrArg (f a::·) (Lf f l j)
noncomputable def rdy(F:List Ch)(c:Ch):Bool:=(c.2.1.map λl=>decide (l∈F.map (·.1))).all id
theorem PX:rdy F c=true↔∀l∈c.2.1,l∈F.map (·.1):=by unfold rdy;rw[List.all_map,ACH];exact forall_congr' λl=>forall_congr' λ_=>decide_eq_true_iff
theorem OC(hm:∀c k U,C.O 10 [vi c,vi k] U=aj (vi (CB c k)))(cs:List Ch)(cell:Int)(hcs:cs.length<=60)(hg:∀c∈cs,GenCh c)(H:BJ cs) :
 Ak C (λfl U'=>∃F,F.Perm cs/\CP F/\GR fl=.ref 2/\U'=[lcs [],.list ((F.map (·.1)).map vs),lcs F]) MB.body (BD MB [.d (.list (cs.map Ch.data)),vi cell]) []:=by
 refine Bx (ws:=cs.map vc) ?_ ?_
 ·show(aj ((cs.map Ch.data).map V.d)).bind (λws=>if ws.length<=line then aj ws else au)=_;rw[bs,if_pos (by simp[line];exact AAC ‹_› (ACD rfl)),AAE];rfl
 refine Bx rfl (Bx rfl ?_);let K:Option V->Option V->Option V->Al:=λz5 z6 z7=>[aj (.d (.list (cs.map Ch.data))),aj (vi cell),aj (.ref 0),aj (.ref 1),aj (.ref 2),z5,z6,z7]
 let St:List Ch->List Ch->Ac:=λL F=>[lcs L,.list ((F.map (·.1)).map vs),lcs F]
 refine UB (λm J U=>∃L F,L.length=m/\HY cs L F/\(∃z5 z6 z7,J=K z5 z6 z7)/\U=St L F) fI cs.length (Mf cs [] rfl ⟨.refl _,.refl _,λpre c post e=>by simp at e⟩ (Fb au au au rfl) rfl) ?_ rfl ?_ ?_
 ·rintro m J U ⟨L,F,rfl,T,⟨z5,z6,z7,rfl⟩,rfl⟩;cases L<;>rfl
 ·rintro m J U ⟨L,F,hL,T,⟨z5,z6,z7,rfl⟩,rfl⟩ _;have hLl:=AAC T.sub.length_le hcs;have hFl:=by have:=T.perm.length_eq;rw[AAF] at this;exact jS this hcs
  refine Mm (ds:=(L.filter (rdy F)).map Ch.data) ?_ ?_
  ·rw[show C.nl _ _ _=aj ((L.filter (rdy F)).map vc) from Dh vc (rdy F) vc rfl (AAC hLl (by decide)) (λc hc=>?_) (λc _ _=>rfl),AAE]
   ·rfl
   ·have hcl:c.2.1.length<=line:=AAC (hg c (T.sub.subset hc)).few (by decide);refine FG (EW (Az (CF (λt=>.str (Tx t)) (λ_=>true) (λl=>.bool (decide (l∈F.map (·.1)))) (BS (Ae rfl rfl (Df c)) rfl) hcl (λ_ _=>rfl) (λl _ _=>EO rfl rfl (show inV (St L F) (vs l) (.ref 1)=_ from Ut rfl)))) ?_);rw[Bz,show(c.2.1.map λl=>PyData.bool (decide (l∈F.map (·.1))))=(c.2.1.map λl=>decide (l∈F.map (·.1))).map PyData.bool by rw[AAE];rfl];exact Sz _ _
  have hpos:0<(L.filter (rdy F)).length:=by
   cases L with
   |nil=>cases hL
   |cons c L=>rw[ADM (PX.mpr (T.ready H))];exact ACZ _
  have hrl:∀U,Cl .len U [.d (.list ((L.filter (rdy F)).map Ch.data))]=aj (vi (L.filter (rdy F)).length):=λU=>CK.trans (by rw[AAB]);have hat:=Bc (CB cell L.length) (Zm hpos);obtain⟨c,hc⟩:∃c,(L.filter (rdy F))[((CB cell L.length).fmod (L.filter (rdy F)).length).toNat]? = aj c:=⟨_,AAN (Kj hat.1 hat.2)⟩
  have hfl:(L.filter (rdy F)).length<=60:=AAC (AAX _ _) hLl;have hlen:Cl .len (St L F) [.ref 0]=aj (vi L.length):=(Yq rfl).trans (by rw[AAB]);refine Ax (Ae rfl (Af (Fc (AY rfl (AU (Az rfl) hlen)) (hm _ _ _)) (AU (Az rfl) (hrl _)) (AV (Rh hpos))) (Eb _ hat.1 (Ra hat.2 hfl rfl) (by rw[ABI,hc];rfl))) ?_;have hcm:=AA4.mp (AA5 hc);refine oE (Uw c L) λq hq=>oA (Md c L hcm.1 ((T.sub.map _).nodup H.nd)) λq_0 _=>?_;obtain⟨j,j1,j2⟩:=q_0;refine oA (T.take H.nd hcm.1 (PX.mp hcm.2)) λT' hl'=>RY rfl rfl (by show aj (lcs L)=_;rw[AAE];rfl) hq j1 ?_;rw[show(((L.map Ch.data).map V.d).eraseIdx j)=(oth c L).map vc by rw[AAE,<-j2];exact Lf _ _ _];refine Be rfl (Az (Ae rfl rfl (Bb c))) rfl (by simp[line];exact AAS ‹_› (ACD rfl)) (Be rfl rfl rfl (by simp[line];exact AAS ‹_› (ACD rfl)) (Ab ⟨_,rfl,oth c L,F++[c],by exact jR hl' hL,T',(Fb _ _ _ rfl),?_⟩));simp[St,lcs,AAQ]
 ·rintro m J U ⟨L,F,rfl,T,⟨z5,z6,z7,rfl⟩,rfl⟩ h;cases L with
  |cons _ _=>cases h
  |nil=>exact AE rfl (Ii F (by have:=T.perm;rwa [AAV] at this) T.topo rfl rfl)
theorem Sb(cs:List Ch)(cell:Int)(hcs:cs.length<=60)(hg:∀c∈cs,GenCh c)(H:BJ cs):∃F,F.Perm cs/\CP F/\∀U,FN 3 18 [.d (.list (cs.map Ch.data)),vi cell] U (.d (.list (F.map Ch.data))) U:=by refine AH (FN.ends (C:=C1 2 (AAL _)) (f:=18) (R:=λv U'=>∃F,F.Perm cs/\CP F/\v=.ref 2/\U'=[lcs [],.list ((F.map (·.1)).map vs),lcs F]) (by unfold Pg;rfl) rfl (by decide) (OC (λ_ _ _=>rfl) cs cell hcs hg H)) λv U' q_2 h=>?_;obtain⟨F,k1,k2,k3,k4⟩:=q_2;rw[k3,k4] at h;exact AB F k1 k2 (λU=>(FA.seal h ⟨_,rfl,ABF _,by show aj (lcs F)=_;rw[AAE];rfl⟩).any (ae (CC _ _) (ae (CC _ _) AC)))
open PySem.Calls
section
variable{α β:Type}{l l':List α}{m:List β}{k:Nat}{a:α}
theorem LD(hl:l.length=m.length)(h1:(l++l')[k]? = aj a)(h2:(m++m')[k]? = aj o):(l[k]? = aj a/\m[k]? = aj o)\/∃j,k=l.length+j/\l'[j]? = aj a/\m'[j]? = aj o:=by
 by_cases q:k<l.length
 ·rw[ABE q] at h1;rw[ABE (hl▸q)] at h2;exact .inl ⟨h1,h2⟩
 ·have q:=ACI q;rw[AA6 q] at h1;rw[AA6 (hl▸q),<-hl] at h2;exact .inr (AB (k-l.length) ((Nat.add_sub_cancel' q).symm) h1 h2)
theorem CT(h:l[k]? = aj a):(l++l')[k]? = aj a:=(ABE (AAM.mp h).1).trans h
theorem DM(h:l'[k]? = aj a):(l++l')[l.length+k]? = aj a:=by rw[AA6 (AA9 _ _),Nat.add_sub_cancel_left];exact h
theorem at_right'(hl:l.length=m.length)(h:l'[k]? = aj a):(l++l')[m.length+k]? = aj a:=hl▸DM h
end
section
variable{g:G}{A B C D:List Addr}{d:PyData}{xs:List V}
noncomputable def G.mid(g:G)(A B C:List Addr)(h:Heap):G:=⟨g.fz,λa=>@ite _ (a∈A\/a∈C) (ACE _) (h.get? a) (g.hid a),B⟩
theorem TC{h:Heap}(q:a∈A\/a∈C):(g.mid A B C h).hid a=h.get? a:=if_pos q
theorem FZ{h:Heap}(q:¬ (a∈A\/a∈C)):(g.mid A B C h).hid a=g.hid a:=if_neg q
theorem upz(h:MA g.fz g'.fz):G.upTo 0 g g':=⟨h,λ_ _ hk _=>absurd hk (Nat.not_lt_zero _)⟩
theorem OM:G.upTo 0 g (g.mid A B C h):=upz λ_ _ q=>q
theorem Qg{a:Addr}(e:g.mu=A++(B++C))(h:a∉g.mu):¬ (a∈A\/a∈C):=λq=>h (by
 rw[e];rcases q with q|q
 ·exact AAU _ q
 ·exact AAW _ (AAW _ q))
theorem ZQ{a:Addr}(nd:g.mu.Nodup)(e:g.mu=A++(B++C))(q:a∈A\/a∈C)(hb:a∈B):False:=by
 rw[e] at nd;refine oAA (ABW.mp nd) λ_ n2 n3=>?_;rcases q with q|q
 ·exact n3 a q a (AAU _ hb) rfl
 ·exact(ABW.mp n2).2.2 a hb a q rfl
theorem Has.mid(H:Has T g (τ++(U++τ')) s)(e:g.mu=A++(B++C))(la:A.length=τ.length)(lb:B.length=U.length)(hl:∀o∈U,Gj 0 o):Has T (g.mid A B C s.heap) U s:=by
 have nd:=H.nd;rw[e] at nd;have mB:∀{a},a∈B->a∈g.mu:=λ{a} q=>by rw[e];exact AAW _ (AAU _ q)
 have mAC:∀{a},(a∈A\/a∈C)->a∈g.mu:=λ{a} q=>by
  rw[e];rcases q with q|q
  ·exact AAU _ q
  ·exact AAW _ (AAW _ q)
 refine⟨H.fz,λa o h=>?_,lb,(ABW.mp (ABW.mp nd).2.1).1,λa ha=>H.ap a (mB ha),λa o h=>?_,λk a o e1 e2 R_ kk=>?_,H.base,λt q ht R_ kk=>H.tb t q ht R_ λps h1 h2 h3 h4 h5 h6=>kk ps h1 ((FZ (Qg e h3)).trans h2) (λq=>h3 (mB q)) h4 h5 h6,H.gens,H.os⟩
 ·by_cases q:a∈A\/a∈C
  ·rw[TC q] at h;exact .of h
  ·rw[FZ q] at h;exact H.hd a o h
 ·by_cases q:a∈A\/a∈C
  ·exact⟨H.ap a (mAC q),λp=>ZQ H.nd e q p⟩
  ·rw[FZ q] at h;exact⟨(H.ah a o h).1,λp=>(H.ah a o h).2 (mB p)⟩
 ·exact H.ob (A.length+k) a o (e▸DM (CT e1)) (la▸DM (CT e2)) R_ λx h1 h2=>kk x h1 (GS OM (hl o (AA5 e2)) h2)
theorem Has.unmid(H:Has T g (τ++(U++τ')) s)(e:g.mu=A++(B++C))(la:A.length=τ.length)(lb:B.length=U.length)(lb':U'.length=U.length)(hl:∀o∈U'++N,Gj 0 o)(le:G.le [] (g.mid A B C s.heap) g')(H':Has T g' (U'++N) s')(e':g'.mu=B++D):Has T ⟨g'.fz,g.hid,g.mu++D⟩ ((τ++(U'++τ'))++N) s':=by
 have hid:=λa=>le.hid a AA1;have hd1:=λ{a o} h=>(hid a).trans ((FZ (Qg e (H.ah a o h).2)).trans h);have hd2:∀{a o},(a∈A\/a∈C)->s.heap.get? a=aj o->g'.hid a=aj o:=λ{a o} q h=>(hid a).trans ((TC q).trans h);have mAC:∀{a},(a∈A\/a∈C)->a∈g.mu:=λ{a} q=>by
  rw[e];rcases q with q|q
  ·exact AAU _ q
  ·exact AAW _ (AAW _ q)
 have out:∀{a},(a∈A\/a∈C)->g'.fz a=au/\a∉g'.mu:=λ{a} q=>by exact oE (H.muAlive (mAC q)) λo ho=>H'.ah a o (hd2 q ho)
 have three:∀{a},a∈g.mu->(a∈A\/a∈C)\/a∈B:=λ{a} q=>by
  rw[e] at q;rcases AA0.mp q with q|q
  ·exact .inl (.inl q)
  ·rcases AA0.mp q with q|q
   ·exact .inr q
   ·exact .inl (.inr q)
 have nd':=H'.nd;rw[e'] at nd';refine oAA (ABW.mp nd') λ_ n2 n3=>?_;have inB:∀{a},a∈B->a∈g'.mu:=λ{a} q=>by rw[e'];exact AAU _ q
 have inD:∀{a},a∈D->a∈g'.mu:=λ{a} q=>by rw[e'];exact AAW _ q
 have ld:=by have:=H'.len;rw[e',AAF,AAF,lb,lb'] at this;exact Nat.add_left_cancel this
 have lm:g.mu.length=(τ++(U'++τ')).length:=by rw[H.len,AAF,AAF,AAF,AAF,lb']
 have up:G.up g ⟨g'.fz,g.hid,g.mu++D⟩:=⟨le.fz,λ_ _ q=>CT q⟩
 have old:∀{k:Nat} {a:Addr} {o:O},(a∈A\/a∈C)->g.mu[k]? = aj a->(τ++(U++τ'))[k]? = aj o->∀R_:Prop,(∀x,s'.heap.get? a=aj x->DP T ⟨g'.fz,g.hid,g.mu++D⟩ o x->R_)->R_:=λ{k a o} q h1 h2 R_ kk =>
  H.ob k a o h1 h2 R_ λx h3 h4=>kk x ((H'.hd a x (hd2 q h3)).ex (PV h4)) (DP.mono up _ _ h4)
 refine⟨H'.fz,λa o h=>H'.hd a o (hd1 h),by rw[AAF,AAF,lm,ld],ABW.mpr ⟨H.nd,n2,λx hx y hy q=>?_⟩,λa ha=>?_,λa o h=>⟨(H'.ah a o (hd1 h)).1,λq=>?_⟩,λk a o e1 e2 R_ kk=>?_,H'.base,λt q ht R_ kk=>H.tb t q ht R_ λ_ _ h2 h3 _ _ _=>H'.tb t q ht R_ λps h1 _ h3' h4 h5 h6=>kk ps h1 h2 (λq=>?_) h4 h5 h6,H'.gens,H'.os⟩
 ·rcases three hx with p|p
  ·exact(out p).2 (q▸inD hy)
  ·exact n3 x p y hy q
 ·rcases AA0.mp ha with q|q
  ·rcases three q with p|p
   ·exact(out p).1
   ·exact H'.ap a (inB p)
  ·exact H'.ap a (inD q)
 ·rcases AA0.mp q with q|q
  ·exact(H.ah a o h).2 q
  ·exact(H'.ah a o (hd1 h)).2 (inD q)
 ·rcases LD lm e1 e2 with⟨h1,h2⟩|⟨j,_,h1,h2⟩
  ·have h1':=h1;rw[e] at h1;rcases LD la h1 h2 with⟨i1,i2⟩|⟨j,ek,i1,i2⟩
   ·exact old (.inl (AA5 i1)) h1' (CT i2) R_ kk
   ·rcases LD (lb.trans lb'.symm) i1 i2 with⟨i3,i4⟩|⟨i,ej,i3,i4⟩
    ·exact H'.ob j a o (e'▸CT i3) (CT i4) R_ λx h3 h4=>kk x h3 (GS (upz (g:=g') λ_ _ q=>q) (hl o (AAU _ (AA5 i4))) h4)
    ·refine old (.inr (AA5 i3)) h1' ?_ R_ kk;exact ek▸la▸DM (ej▸lb▸DM i4)
  ·exact H'.ob (B.length+j) a o (e'▸DM h1) (lb▸lb'▸DM h2) R_ λx h3 h4=>kk x h3 (GS (upz (g:=g') (g':=⟨g'.fz,g.hid,g.mu++D⟩) λ_ _ q=>q) (hl o (AAW _ (AA5 h2))) h4)
 ·rcases AA0.mp q with q|q
  ·exact h3 q
  ·exact h3' (inD q)
theorem ZP(H:Has T g (τ++(U++τ')) s):∃A B C,g.mu=A++(B++C)/\A.length=τ.length/\B.length=U.length:=by
 have hl:=H.len;rw[AAF,AAF] at hl;refine(DJ (g.mu.take τ.length) ((g.mu.drop τ.length).take U.length) ((g.mu.drop τ.length).drop U.length) ?_ ?_ ?_)
 ·rw[List.take_append_drop,List.take_append_drop]
 ·exact ACP▸kI hl
 ·exact ACP▸ADE▸kH hl
theorem WF(le:G.le [] (g.mid A B C h) g'):∃D,g'.mu=B++D:=by
 refine⟨g'.mu.drop B.length,?_⟩;have:g'.mu.take B.length=B:=by
  refine List.ext_getElem? λk=>?_;by_cases q:k<B.length
  ·rw[ACW q];have e2:=AAN q;exact e2▸le.mu k _ e2
  ·have q:=ACI q;rw[List.getElem?_eq_none q,List.getElem?_eq_none (AAC (List.length_take_le _ _) q)]
 have h2:=List.take_append_drop B.length g'.mu;rw[this] at h2;exact h2.symm
theorem W8(e:g.mu=A++(B++C))(la:A.length=b)(lb:B.length=3)(r:Au T g (.obj [b,b+1,b+2]) v):Au T (g.mid A B C h) (.obj [0,1,2]) v:=by
 have key:∀(k:Nat) (a:Addr),k<3->g.mu[b+k]? = aj a->B[k]? = aj a:=λk a hk h=>by rw[e,<-la,AA6 (AA9 _ _),Nat.add_sub_cancel_left,ABE (lb▸hk)] at h;exact h
 refine r (λv=>Au T (g.mid A B C h) (.obj [0,1,2]) v) λa d o mA h1 h2 h3 h4 h5 h6 h7 h8=>λR_ k=>k a d o mA h1 h2 h3 h4 h5 h6 h7 (K2 h8 λq_0 q_1 q_2 _=>?_);exact oEA q_0 λa0 p0 q0=>oEA q_1 λa1 p1 q1=>oEA q_2 λa2 p2 q2=>⟨(iEA a0 (key 0 a0 (by decide) p0) q0),(iEA a1 (key 1 a1 (by decide) p1) q1),(iEA a2 (key 2 a2 (by decide) p2) q2),trivial⟩
theorem FA.at(hf:FA n f (.obj [0,1,2]::xs) U (.d d) U')(h3:U.length=3)(h3':U'.length=3)(hx:∀x,x∈xs->low 0 x)(hw:∀o∈U,Gj 0 o)(hw':∀o∈U',Gj 0 o)(hb:τ.length=b):FA n f (.obj [b,b+1,b+2]::xs) (τ++(U++τ')) (.d d) (τ++(U'++τ')):=λr g s a Xs h At_ R=>by refine Cr (ZP At_.has) λA B C e la lb=>Br R.cons λX Xr q_2 r1 r2=>?_;subst q_2;refine AAO (hf r (g.mid A B C s.heap) s a (X::Xr) h ⟨At_.ok,At_.frames,At_.top,At_.depth,At_.units,At_.hh.fzm λ_ _ e=>e,At_.frs.sub λa o h=>(FZ (Qg e (At_.has.ah a o h).2)).trans h,At_.has.mid e la lb hw⟩ ⟨W8 e (la.trans hb) (lb.trans h3) r1,Ay.imp (λv X hv rx=>LG OM (hx v hv) rx) r2⟩) (λX s' p=>p _ λg' le H' rX=>?_) λ_ _ h=>h;refine oE (WF le) λD e'=>?_;have:=At_.has.unmid e la lb (h3'.trans h3.symm) (λo ho=>hw' o (by rw[AAV] at ho;exact ho)) le (by rw[AAV];exact H') e';rw[AAV] at this;exact .mk ⟨g'.fz,g.hid,g.mu++D⟩ ⟨⟨le.fz,λ_ _ q=>CT q⟩,λ_ _=>rfl⟩ this rX
end
noncomputable def Q6(fe:List Env):List Addr:=fe.filterMap (·.frame)
def H0(its fs:List Addr)(h h':Heap):Prop:=∀c o,c∉its->h.get? c=aj o->(∃sl,h'.get? c=aj {o with slots:=sl})/\(c∉fs->h'.get? c=aj o)
theorem H0.trans(x:H0 its fs h h')(y:H0 its fs h' h''):H0 its fs h h'':=λc o hc e=>by exact oA (x c o hc e) λq_0 k=>oE q_0 λsl e1=>oA (y c _ hc e1) λq_0 k'=>oE q_0 λsl' e2=>⟨⟨sl',e2⟩,λhf=>(y c o hc (k hf)).2 hf⟩
theorem H0.of_same(k:∀c o,c∉its->h.get? c=aj o->h'.get? c=aj o):H0 its fs h h':=λc o hc e=>⟨⟨o.slots,k c o hc e⟩,λ_=>k c o hc e⟩
theorem H0.wide(x:H0 its fs h h')(hs:∀c,c∈its->c∈its'):H0 its' fs h h':=λc o hc e=>x c o (λq=>hc (hs c q)) e
noncomputable def XM:Option Value->Prop:=λ_=>True
noncomputable def PTb:Option Value->Prop
 |none=>False
 |some _=>True
inductive TbX(T:Top)(g:G)(h:Heap)(e:Addr)(v:Option Value)(P:Option Value->Prop):Prop
 |mk (tb:Addr) (ot:Obj) (ts:Array Value) (f:Value) (k1:v=aj (.ref tb)) (k2:h.get? tb=aj ot) (k3:ot.data=.fields ts) (k4:tb≠e) (k5:Dw T g tb) (k6:ts[3]? = aj f) (k7:P (aj f)):TbX T g h e v P
inductive EQ(T:Top)(g:G)(h:Heap)(k:Nat)(x:Value)(P:Option Value->Prop):Prop
 |mk (e:Addr) (oe:Obj) (vs:Array Value) (C:Addr) (q1:x=.ref e) (q2:h.get? e=aj oe) (q3:T.exc k=aj C) (q4:oe.cls=.ref C) (q5:oe.dict=au) (q6:oe.data=.fields vs) (q7:Dw T g e) (q8:vs[2]? = aj .none)
  (q9:(vs[1]? = aj .none/\P au)\/TbX T g h e vs[1]? P):EQ T g h k x P
section
variable{T:Top}{env:Env}{A:Around}{s:Shared}{h':Heap}
theorem EQ.le(f:EQ T g h k x P)(hP:∀o,P o->P' o):EQ T g h k x P':=by obtain⟨e,oe,vs,C,q1,q2,q3,q4,q5,q6,q7,q8,q9⟩:=f;refine⟨e,oe,vs,C,q1,q2,q3,q4,q5,q6,q7,q8,q9.imp (λh=>⟨h.1,hP _ h.2⟩) ?_⟩;intro q_r1;obtain⟨tb,ot,ts,f,k1,k2,k3,k4,k5,k6,k7⟩:=q_r1;exact⟨tb,ot,ts,f,k1,k2,k3,k4,k5,k6,hP _ k7⟩
theorem EQ.any(f:EQ T g h k x P):EQ T g h k x XM:=f.le λ_ _=>trivial
theorem EQ.other(f:EQ T g h k x P)(hg:∀a,Dw T g a->Dw T g' a):EQ T g' h k x P:=by obtain⟨e,oe,vs,C,q1,q2,q3,q4,q5,q6,q7,q8,q9⟩:=f;refine⟨e,oe,vs,C,q1,q2,q3,q4,q5,q6,hg _ q7,q8,q9.imp id ?_⟩;intro q_r2;obtain⟨tb,ot,ts,f,k1,k2,k3,k4,k5,k6,k7⟩:=q_r2;exact⟨tb,ot,ts,f,k1,k2,k3,k4,hg _ k5,k6,k7⟩
theorem UF(fr:Co g fe)(ha:a∈Q6 fe):∃o es ep,g.hid a=aj o/\o.cls=frC/\o.data=.dict es ep:=by exact oEA (List.mem_filterMap.mp ha) λe he hf=>Qc (fr e he) λ_ L o es ep h1 h2=>Fb o es ep (Ao h1 hf▸h2)
theorem Has.near(H:Has T g U s)(fr:Co g fe)(hi:∀a,a∈its->Dw T g a)(nr:H0 its (Q6 fe) s.heap h'):Has T g U {s with heap:=h'}:=by
 have ex:=λa o h1 h2 e=>(nr a o h1 e).2 λq=>by exact DC (UF fr q) λo' _ _ h3 _=>Aj h2 h3
 have nofz:∀a o,g.fz a=aj o->a∉its/\g.hid a=au:=λa o e=>⟨λq=>Aj (hi a q).fz e,EC λo' e'=>Aj (H.ah a o' e').1 e⟩
 have nomu:∀a,a∈g.mu->a∉its/\g.hid a=au:=λa e=>⟨λq=>(hi a q).mu e,EC λo' e'=>(H.ah a o' e').2 e⟩
 have:=H.re (s':={s with heap:=h'}) g.hid (λa o e=>⟨?_,(H.ah a o e).1,(H.ah a o e).2,H.hidTab e⟩) (λb o e e'=>ex b o (nofz b o e).1 (nofz b o e).2 e') (λb o e e'=>ex b o (nomu b e).1 (nomu b e).2 e') (λt q o m e=>H.tb t q m _ λ_ _ h2 _ _ _ _=>ex t o (λp=>(hi t p).tab q m) h2 e) rfl rfl
 ·exact this
 ·refine AS (H.hd a o e) λo' e1 e2 e3=>oA (nr a o' (λq=>Aj (hi a q).hid e) e1) λq_0 e5=>oE q_0 λsl e4=>?_;by_cases q:a∈Q6 fe
  ·exact Cr (UF fr q) λo2 _ _ h3 h4 _=>⟨_,e4,e2,λn=>absurd (Ao h3 e▸h4) n⟩
  ·exact⟨o',e5 q,e2,e3⟩
theorem Co.funFrames(H:Has T g U s):∀{l:List Env},Co g l->s.heap.FunFrames T.h0 l
 |[],_=>trivial
 |e::r,fr=>by
  refine RE (fr e (.head _)) λtf L o es ep h1 h2 h3 h4=>AS (H.hd L o h2) λo' e1 e2 _=>⟨tf.kind,(Mf L o' h1 (EC λbb q=>Aj (H.ah L o h2).1 (H.base L bb q)) e1 (λvs q=>?_)),Co.funFrames H λe he=>fr e (.tail _ he)⟩
  rw[e2,h4] at q;cases q
theorem Lg{oe:Obj}{vs:Array Value}(hfr:A.frames=aj (env::outer))(hl:s.heap.FunFrames T.h0 (env::outer))(hf:env.frame=aj L)
 (he:s.heap.get? e=aj oe) (hd:oe.data=.fields vs) (hsz:1<vs.size)
 (h:∀h' tb oe' ts,H0 [e] (Q6 (env::outer)) s.heap h'->s.heap.get? tb=au->h'.get? e=aj oe'->(oe'.cls=oe.cls/\oe'.dict=oe.dict)->oe'.data=.fields (vs.setIfInBounds 1 (.ref tb)) ->
  h'.get? tb=aj {cls:=.type "traceback",dict:=au,data:=.fields ts,slots:=#[]}->ts[3]? = aj (rawInt L)->Q () {s with heap:=h'}) :
 wpAny (model T.prog T.w) A (do let a <-frameOf env;let pl <-entryPlaceOf L hadNext;let b <-EntryCells.newEntry head a .none (rawInt L) .none pl;setField (.ref e) 1 b) Q Er s:=by
 have hene:e∉(env::outer).filterMap (·.frame):=λhm=>by refine WA (hl.mem hm) λ_ o ho hnf=>?_;rw[he] at ho;injection ho with ho;subst ho;exact hnf vs hd
 refine AAD (wpAny_frameOf_fun hfr hl hf λh₁ aU=>?_);refine AAD (wpAny_entryPlaceOf λpl hpl=>?_);unfold EntryCells.newEntry newFields;refine AAD (wpAny_newObj_type ?_ (hpl.sizeOk5 _ _ _ _ _));have he1:=(aU.2.1 e hene).trans he;have he2:=AAK {cls:=.type "traceback",dict:=au,data:=.fields ([head,.ref L,.none,rawInt L,.none]++(if pl.isEmpty then List.replicate 6 Value.none else pl)).toArray} he1;have hd3:=Obj.data_mapFields hd (·.setIfInBounds 1 (Value.ref h₁.objs.size));have he3:=ACK (Obj.mapFields (·.setIfInBounds 1 (Value.ref h₁.objs.size))) he2 (Obj.isFreed_of_fields hd3);have hT3:=(ABD (h₁.push {cls:=.type "traceback",dict:=au,data:=.fields ([head,.ref L,.none,rawInt L,.none]++(if pl.isEmpty then List.replicate 6 Value.none else pl)).toArray})
  (Obj.mapFields (·.setIfInBounds 1 (Value.ref h₁.objs.size))) (Ne.symm (Nat.ne_of_gt (ACU he1)))).trans (AA3 h₁ rfl)
 refine wpAny_setField he2 hd hsz (h _ h₁.objs.size _ _ ?_ ?_ he3 ⟨Obj.cls_mapFields _ _,by unfold Obj.mapFields;split<;>rfl⟩ hd3 hT3 ?_)
 ·intro b o hb e';have hbe:b≠e:=λq=>hb (q▸AAJ.mpr rfl);have up:∀o',h₁.get? b=aj o'->((h₁.push {cls:=.type "traceback",dict:=au,data:=.fields ([head,.ref L,.none,rawInt L,.none]++(if pl.isEmpty then List.replicate 6 Value.none else pl)).toArray}).update e (Obj.mapFields (·.setIfInBounds 1 (Value.ref h₁.objs.size)))).get? b=aj o':=λo' q=>by rw[ABD _ _ (Ne.symm hbe)];exact AAK _ q
  refine⟨?_,λhnf=>up o ((aU.2.1 b hnf).trans e')⟩;exact oE (aU.2.2 b o e') λsl q=>⟨sl,up _ q⟩
 ·exact aU.1▸BA _
 ·first|(simp;done)|(rcases hpl with rfl|⟨_,_,_,_,_,_,_,rfl⟩<;>simp)
theorem Jg(hfr:A.frames=aj (env::outer))(fr:Co g (env::outer))(H:Has T g U s)(fl:EQ T g s.heap k x XM)
 (h:∀h',Has T g U {s with heap:=h'}->EQ T g h' k x PTb->Q () {s with heap:=h'}):wpAny (model T.prog T.w) A (noteFrame x env) Q Er s:=by
 have hl:=fr.funFrames H;refine Qc (fr env (.head _)) λ_ L _ _ _ hf _=>?_;obtain⟨e,oe,vs,C,rfl,q2,q3,q4,q5,q6,q7,q8,q9⟩:=fl;have hsz2:=(Array.getElem?_eq_some_iff.mp q8).1;unfold noteFrame;simp only[hf];rcases q9 with⟨h1,_⟩|⟨tb,ot,ts,f,k1,k2,k3,k4,k5,k6,k7⟩
 ·refine AAD (wpAny_field q2 q6 h1 ?_);rw[if_neg (by decide)];refine Lg hfr hl hf q2 q6 (ACF hsz2) λh' tb oe' ts nr hn he' hc' hd' ht h3=>h h' (H.near fr (λa ha=>by rw[AAJ.mp ha];exact q7) nr) ⟨e,oe',_,C,rfl,he',q3,hc'.1.trans q4,hc'.2.trans q5,hd',q7,?_,.inr ⟨tb,_,ts,_,by simp[show 1<vs.size from Nat.lt_of_succ_lt hsz2],ht,rfl,?_,H.free hn,h3,trivial⟩⟩
  ·rw[Array.getElem?_setIfInBounds_ne (by decide)];exact q8
  ·intro q;rw[q,q2] at hn;exact I9 hn
 ·refine AAD (wpAny_field q2 q6 k1 ?_);rw[if_pos (by rfl)];refine AAD (wpAny_field k2 k3 k6 ?_);by_cases k9:(f==rawInt L)=true
  case neg =>
   rw[if_neg k9];have hsz3:=(Array.getElem?_eq_some_iff.mp k6).1;refine AAD (wpAny_setField k2 k3 hsz3 ?_);have other:∀b,b≠tb->(s.heap.update tb (Obj.mapFields (·.setIfInBounds 3 Value.none))).get? b=s.heap.get? b:=λb hb=>ABD _ _ (Ne.symm hb);have noRecord:∀b o,s.heap.get? b=aj o->(∀vs,o.data≠.fields vs)->b≠tb:=λb o hb hnf q=>by rw[q,k2] at hb;injection hb with hb;subst hb;exact hnf ts k3
   refine Lg hfr (hl.of_keeps λb o hb hnf=>(iEA o ((other b (noRecord b o hb hnf)).trans hb) rfl)) hf ((other e (Ne.symm k4)).trans q2) q6 (ACF hsz2) λh' tb' oe' ts' nr hn he' hc' hd' ht h3=>?_;have hn':s.heap.get? tb'=au:=by
    by_cases q:tb'=tb
    ·subst q;exact I9 ((Eq.symm (ACK _ k2 (Obj.isFreed_of_fields (Obj.data_mapFields k3 _)))).trans hn)
    ·exact(other tb' q)▸hn
   refine h h' (H.near fr (its:=[e,tb]) (λa ha=>?_) (H0.trans (H0.of_same λb o hb eb=>(other b λq=>hb (.tail _ (q▸.head _))).trans eb) (nr.wide λb hb=>by rw[AAJ.mp hb];simp)))
    ⟨e,oe',_,C,rfl,he',q3,hc'.1.trans q4,hc'.2.trans q5,hd',q7,?_,.inr ⟨tb',_,ts',_,by simp[show 1<vs.size from Nat.lt_of_succ_lt hsz2],ht,rfl,?_,H.free hn',h3,trivial⟩⟩
   ·simp only[AAR,AA1,or_false] at ha;rcases ha with rfl|rfl
    ·exact q7
    ·exact k5
   ·rw[Array.getElem?_setIfInBounds_ne (by decide)];exact q8
   ·intro q;rw[q,q2] at hn';exact I9 hn'
  case pos =>
   exact(if_pos k9)▸AAY (h s.heap H ⟨e,oe,vs,C,rfl,q2,q3,q4,q5,q6,q7,q8,.inr ⟨tb,ot,ts,_,k1,k2,k3,k4,k5,k6,trivial⟩⟩)
theorem EM(fr:Co g fe)(H:Has T g U s)(fl:EQ T g s.heap k x PTb)
 (h:∀h',Has T g U {s with heap:=h'}->EQ T g h' k x PTb->Q () {s with heap:=h'}):wpAny (model T.prog T.w) A (setFlight x L) Q Er s:=by
 obtain⟨e,oe,vs,C,rfl,q2,q3,q4,q5,q6,q7,q8,q9⟩:=fl;rcases q9 with⟨_,h1⟩|⟨tb,ot,ts,f,k1,k2,k3,k4,k5,k6,k7⟩
 ·exact h1.elim
 ·unfold setFlight;refine AAD (wpAny_field q2 q6 k1 ?_);rw[if_pos (by rfl)];have hsz3:=(Array.getElem?_eq_some_iff.mp k6).1;refine wpAny_setField k2 k3 hsz3 ?_;have other:∀b,b≠tb->(s.heap.update tb (Obj.mapFields (·.setIfInBounds 3 (L.elim Value.none λf=>rawInt f)))).get? b=s.heap.get? b:=λb hb=>ABD _ _ (Ne.symm hb);exact h _ (H.near fr (λa ha=>by rw[AAJ.mp ha];exact k5) (H0.of_same λb o hb eb=>(other b λq=>hb (by exact q▸.head _)).trans eb))
   ⟨e,oe,vs,C,rfl,(other e (Ne.symm k4)).trans q2,q3,q4,q5,q6,q7,q8,.inr ⟨tb,_,_,L.elim Value.none λf=>rawInt f,k1,ACK _ k2 (Obj.isFreed_of_fields (Obj.data_mapFields k3 _)),Obj.data_mapFields k3 _,k4,k5,by simp[hsz3],trivial⟩⟩
theorem EQ.field(fl:EQ T g s.heap k x PTb)(h:∀tb,Q (.ref tb) s):wpAny (model T.prog T.w) A (field x 1) Q Er s:=by
 obtain⟨e,oe,vs,C,rfl,q2,q3,q4,q5,q6,q7,q8,q9⟩:=fl;rcases q9 with⟨_,h1⟩|⟨tb,ot,ts,f,k1,k2,k3,k4,k5,k6,k7⟩
 ·exact h1.elim
 ·exact wpAny_field q2 q6 k1 (h tb)
end
noncomputable abbrev Ar.wx{α:Type}(r:Ar)(m:Sem α)(X:Value->Shared->Prop)(s:Shared):Prop:=wpAny (model r.T.prog r.T.w) r.A m (λ_ _=>False) X s
def FP(T:Top)(g:G)(U':Ac)(k:Nat)(x:Value)(s':Shared):Prop:=∀R_:Prop,(∀g',G.le [] g g'->Has T g' U' s'->EQ T g' s'.heap k x XM->R_)->R_
def FXA(n f:Nat)(xs:List V)(U:Ac)(k:Nat)(U':Ac):Prop :=
 ∀(r:Ar) (g:G) (s:Shared) (a:Addr) (Xs:List Value),r.T.fn f=aj a->At n r g U s->As r.T g xs Xs->r.wx (call (.ref a) Xs) (FP r.T g U' k) s
noncomputable abbrev FX(n f:Nat)(xs:List V)(U:Ac)(k:Nat)(U':Ac):Prop:=FXA (n+3) f xs U k U'
def SEx(n:Nat)(e:E)(J:Al)(U:Ac)(k:Nat)(U':Ac):Prop :=
 ∀(c:Cx) (g:G) (s:Shared) (ex:Expr),IsE e c.K ex->Inv n c J g U s->c.wx (eval ex c.env) (FP c.T g U' k) s
def SXP(n:Nat)(c:Cx)(g:G)(k:Nat)(X:Al->Ac->Prop)(x:Value)(s':Shared):Prop:=∀R_:Prop,(∀J' U' g',X J' U'->G.le c.own g g'->Inv n c J' g' U' s'->EQ c.T g' s'.heap k x XM->R_)->R_
def SX(n:Nat)(st:S)(J:Al)(U:Ac)(k:Nat)(X:Al->Ac->Prop):Prop :=
 ∀(c:Cx) (g:G) (s:Shared) (x:Stmt),IsS st c.K x->Inv n c J g U s->c.wx (exec x c.env) (SXP n c g k X) s
def SXs(n:Nat)(st:S)(J:Al)(U:Ac)(k:Nat)(X:Al->Ac->Prop):Prop :=
 ∀(c:Cx) (g:G) (s:Shared) (xs:List Stmt),XS st c.K xs->Inv n c J g U s->c.wx (execs xs c.env) (SXP n c g k X) s
theorem FP.after(le:G.le [] g ai)(h:FP T ai U' k x s'):FP T g U' k x s':=λR_ kk=>h R_ λg' l a f=>kk g' (le.trans l) a f
theorem SXP.after(le:G.le c.own g ai)(h:SXP n c ai k X x s'):SXP n c g k X x s':=λR_ kk=>h R_ λJ' U' g' hX l I f=>kk J' U' g' hX (le.trans l) I f
theorem SXs.head(h:SX n st J U k X):SXs n (.cons st r) J U k X:=λc g s xs hc I=>hc (λxs=>c.wx (execs xs c.env) (SXP n c g k X) s) λx l h1 h2=>by rw[execs_cons];exact AAD (AAO (h c g s x h1 I) (λ_ _ h=>h.elim) λ_ _ h=>h)
theorem SX.ite(h:ST n e J U true af)(h1:SXs n p J af k X):SX n (.ite e p q) J U k X:=λc g s x hc I=>hc (λx=>c.wx (exec x c.env) (SXP n c g k X) s) λex xs ys pos c1 c2 c3=>by refine wpAny_If (AAO (h c g s ex c1 I) (λb ag p=>p _ λai le ao aS=>?_) λ_ _ h=>h.elim);subst aS;exact AAO (h1 c ai ag xs c2 (I.step le ao)) (λ_ _ h=>h) λ_ _ p=>p.after le.toO
theorem SX.rse(h3:3<=n)(h:SEs n a J U ws af)(hl:ws.length<=line)(hX:X J af):SX n (.rse k a) J U k X:=λc g s x hc I=>hc (λx=>c.wx (exec x c.env) (SXP n c g k X) s) λnm np vs cp p h1 h2 _=>by refine Fv I.cx.rd.ns λmg mb hg hb ht _=>oEA (ht nm _ h1.2) λ_ q_1 _=>?_;obtain⟨C,hC,rfl⟩:=q_1;refine Nf (I.ok.excs k C hC) λx bm newId B initId mg' O FB=>bZ O.obj λtl N nm' q bs hdct sn sub ab col dd k0 k1 k2 k3 k5 mN hh=>K2 hh λhCo hN hni Tl=>wpAny_Raise_call_subT (C:=C) (nm:=nm') (q:=q) (N:=N) (bs:=bs) (hdct:=hdct) (sn:=sn) (sub:=sub) (ab:=ab) (col:=col) (dd:=dd) (k0:=k0) (k1:=k1) (k2:=k2) (k3:=k3) (k5:=k5) FB (Tl.hasType FB.hasBase) (I.hh.none h3) (CH _ _ h2) hni (Cu I h1 λy hy=>?_);refine oEA hy λC' hC' q_2=>?_;subst q_2;obtain rfl:=Ao hC hC';refine⟨rfl,AAO (CL h2 (AAO (h c g s vs cp h2 I) (λXs ag p=>p _ λai le ao al=>?_) λ_ _ h=>h)) (λ_ _ h=>h) λ_ _ h=>h.elim⟩;have hz:=(I.step le ao).base;refine⟨rfl,by show Xs.length<=_;rw[<-al.length,<-Bd];exact hl,hz _ _ hCo,hN.keeps hz,Tl.keeps hz,λh' e hm=>?_⟩;exact AS hm.there λt ht _ _=>λR_ kk=>kk J af ai hX le.toO (I.step le (ao.keep (s':={ag with heap:=h'}) hm.keeps)) ⟨e,_,_,C,rfl,ht,hC,rfl,rfl,rfl,ao.free hm.new,rfl,.inl ⟨rfl,trivial⟩⟩
theorem SX.exp(hp:BH e=false)(h:SEx n e J U k U')(hX:X J U'):SX n (.exp e) J U k X:=λc g s x hc I=>hc (λx=>c.wx (exec x c.env) (SXP n c g k X) s) λex p hc=>by
 have hi:interactive c.env=false:=by unfold interactive;rw[I.cx.kind];rfl
 rw[arm_exec_Expr];refine AAD (AA7 ?_);rw[hi];rw[Fj e hp hc,pure_bind,if_neg ABB];exact AAD (AAO (h c g s ex hc I) (λ_ _ h=>h.elim) λy s' p R_ kk=>p R_ λg' le H fl=>kk J U' g' hX le.toO (I.step le H) fl)
theorem SEx.mcall(hb:EZ a)(hm:mtP nm=aj f)(ha:SE n a J U (.obj ks) af)(hs:SEs n b J af ws U2)(hf:FXA n f (.obj ks::ws) U2 k U'):SEx n (.mcall nm a b) J U k U':=λc g s ex hc I=>hc (λex=>c.wx (eval ex c.env) (FP c.T g U' k) s) λz ap vs p h1 h2 h3 h4=>by refine Jl (hb h1 _ _ _) (few h2 h4) (AAI h3) (AAO (ha c g s z h1 I) (λX ag aH=>aH _ λai aq ao al pl=>?_) λ_ _ h=>h.elim);have I1:=I.step aq ao;refine AH I1.ok.cls λN mN C F=>?_;have hz:=λb o e=>I1.has.fz b o (I1.has.base b o e);refine Sj (C.keeps hz).obj λx1 x2 x3 x4 x5 x6 x7 x8 x9 xa xb xc hC=>EB (F.mt nm f hm) λna fa fo e1 e2 e3 e4=>AH (I.cx.rd.fnob f fa e1) λo fd ho hd=>LL I1.has al (R_:=λX=>Au c.T ai (.obj ks) X->wpAny (model c.T.prog c.T.w) c.A (getMethod X nm pl) (λm ak=>c.wx (callWith p m.1 m.2 (backTo p (starEach vs c.env)) []) (FP c.T g U' k) ak) (FP c.T g U' k) ag) (λx mA aa hn h8 al=>?_) al;refine method_of hC (C.keeps hz).ns F.ga F.ge e2 (hz _ _ e3) e4 (typeLookup_type ..) aa (hn nm na) (callWith_function (AAO (CL h2 (AAO (hs c ai ag vs p h2 I1) (λYs ak aI=>aI _ λam le2 av ar=>⟨⟨(I1.step le2 av).base _ _ ho,hd⟩,AAO (hf c.toAr am ak fa (.ref x::Ys) e1 (I1.step le2 av).toAt ⟨Au.mono le2.toup _ _ al,ar⟩) (λ_ _ h=>h) λ_ _ p=>p.after (aq.trans le2)⟩) λ_ _ h=>h)) (λ_ _ h=>h) λ_ _ h=>h.elim))
theorem FXA.of(hP:Pg f=aj fn)(hl:xs.length=fn.np)(hb:SXs n fn.body (BD fn xs) U k λ_ af=>af=U')(hn:1<=n):FXA (n+1) f xs U k U':=λr g s a Xs hf A R=>A.ok.fns f fn a hP hf _ λfd body o vars lam F=>by
 have H:=A.has;have hz:=λb o e=>H.fz b o (H.base b o e);refine wpAny_call (codeAny_call_cells (AAS (AAC (AA9 _ _) A.depth) (by decide)) (hz _ _ F.ob) F.data (A.ok.ok.nolimit.keeps hz) (F.code.keeps hz) F.bd (F.bind Xs (R.length.symm.trans hl)) F.clo (λp hp=>?_) (λag ic=>?_) F.cor F.gen F.kind)
 ·refine(F.par p.1 (List.of_mem_zip hp).1).imp id λh=>⟨h,?_⟩
  obtain⟨c,q⟩:=Cm (Bj h);exact oE (Fz q) λc q=>q▸rfl
 ·refine AS (NT F hn hl A.ok A.frames A.depth A.units (A.hh.less (ADL _)) A.frs H R rfl ic) λai I le new=>AAO (hb _ ai ag body F.is I) (λ_ _ h=>h.elim) λx ak p=>p _ λJ U2 am e l I2 fl=>?_;subst e;unfold leaving;refine AAD (Jg I2.frames I2.frs I2.has fl λaM aL fl3=>?_);refine EM I2.frs aL fl3 λaT aC fl4=>AS (aC.back (own:=[]) (AAV _▸le.trans l) new (λ_ _ _ e=>e) (aC.away I2.loc.ow)) λhd H' le' e'=>λR_ kk=>kk _ le' H' (fl4.other (g':=⟨am.fz,hd,am.mu⟩) λc F=>⟨F.fz,?_,F.mu,F.tab⟩).any;by_cases q:c∈DB (callEnvC fd s.heap.objs.size a)
  ·exact(le'.hid c AA1).trans (new c q)
  ·exact(e' c q).trans F.hid
theorem FX.of(hP:Pg f=aj fn)(hl:xs.length=fn.np)(hb:SXs (n+3) fn.body (BD fn xs) U k λ_ af=>af=U')(hn:1<=n):FX (n+1) f xs U k U':=by show FXA (n+1+3) f xs U k U';rw[Nat.add_right_comm];exact FXA.of hP hl hb (AAC hn (AA9 _ _))
theorem SXs.tail(h:SS n st J U λfl U'=>match fl with|.next J'=>SXs n r J' U' k X|.ret _=>False):SXs n (.cons st r) J U k X:=λc g s xs hc I=>hc (λxs=>c.wx (execs xs c.env) (SXP n c g k X) s) λx l h1 h2=>by rw[execs_cons];refine AAD (AAO (h c g s x h1 I) (λf ag p=>p.elim (λaN af ai e q le I1=>?_) λv x af ai e q le H w r=>q.elim) λ_ _ h=>h.elim);subst e;exact AAO (q c ai ag l h2 I1) (λ_ _ h=>h) λ_ _ p=>p.after le
theorem Nk(h:env.frame=env'.frame):noteFrame x env=noteFrame x env':=by unfold noteFrame frameOf;rw[h]
section
variable{j:Int}{A':Around}{Er:Value->Shared->Prop}
theorem UT(I:Inv n c J g U s)(q3:c.T.exc k=aj C)(q2:s.heap.get? e=aj oe)(q4:oe.cls=.ref C)(hq:Q true s):wpAny (model c.T.prog c.T.w) A' (excMatches (.ref e) (.ref C)) Q Er s:=by exact Nf (I.ok.excs k C q3) λx bm newId B initId mg' O FB=>bZ O.obj λtl N nm' q bs hdct sn sub ab col dd k0 k1 k2 k3 k5 mN hh=>K2 hh λhCo hN hni Tl=>wpAny_excMatches_sub_self (I.base _ _ hCo) q2 q4 (Tl.hasType FB.hasBase) hq
end
theorem SE.glx:SE n (.glx k) J U (.ecl k) U:=λc g s ex hc I=>hc (λex=>c.wp (eval ex c.env) (Ans c.toAr g (.ecl k) U) s) λnm p hc=>Cu I hc λx r=>.refl I.has (by
 unfold gvE at r;show∃a,(bif Nat.beq k 0 then aj c.T.cls else c.T.exc k)=aj a/\x=.ref a;cases q:Nat.beq k 0 with
 |true=>rw[q] at r;exact⟨_,rfl,r⟩
 |false=>rw[q] at r;exact r)
theorem gF(hj:j∈Hu)(h0:Nat.beq k 0=false)(hk:k<10):Pr2 (λX Y=>call (AZ .isinstance) [X,Y]) (.exc j) (.ecl k) U (vb (Cq j k)) U:=λr g s X Y A hx hy=>by refine oEA hy λa ha q_2=>?_;subst q_2;unfold Top.ec at ha;rw[h0] at ha;exact hx (λX=>r.wp (call (AZ .isinstance) [X,.ref a]) (Ans r g (vb (Cq j k)) U) s) λe D o vs h1 h2 h3 h4 h5=>A.ok.isi j k D (.ref a) hj hk h2 (by unfold XcV;rw[h0];exact⟨a,ha,rfl⟩) r.A _ _ s e o vs (λb o q=>A.has.fz _ _ (A.has.base b o q)) (A.has.fz _ _ h1) h3 h4 h5 λtk=>.refl A.has.tok rfl
theorem bX(hj:j∈Hu):Pr2 (λX Y=>call (AZ .isinstance) [X,Y]) (.exc j) (.ty "ValueError") U (vb (Cq j 0)) U:=λr g s X Y A hx hy=>by obtain rfl:Y=.type "ValueError" := hy;exact hx (λX=>r.wp (call (AZ .isinstance) [X,.type "ValueError"]) (Ans r g (vb (Cq j 0)) U) s) λe D o vs h1 h2 h3 h4 h5=>A.ok.isi j 0 D (.type "ValueError") hj (by decide) h2 rfl r.A _ _ s e o vs (λb o q=>A.has.fz _ _ (A.has.base b o q)) (A.has.fz _ _ h1) h3 h4 h5 λtk=>.refl A.has.tok rfl
theorem RG(I:Inv n c J g U s)(hk:c.K.kd m .local=true)(h:∀g' s',G.le c.own g g'->G.up g g'->Has c.T g' U s'->(∀a,a∈c.own->g'.hid a≠au)->R () s'):wpAny (model c.T.prog c.T.w) A' (do bindName c.env m .none;unbindBehindTheSuite c.env m pos) R Er s:=by exact I.loc.ns _ λmm hm _=>wpAny_nameGoes (by rw[AL I.cx.names];exact Kx.kd_eq hk) (I.has.ns hm) (I.cx.kind▸rfl) λh' m' hn hb=>DC (id hm) λaP _ _ e0 _=>DC hn λo es ep ho hd=>h (g.hide c.env.locals (frO o)) _ (.hide I.cx.oloc) ⟨λ_ _ e=>e,λ_ _ e=>e⟩ (I.has.rehideH e0 (λb x q e=>(hb.2 b q).trans e) (.fr ho)) λa ha=>Gc (I.loc.ow a ha)
noncomputable def Cx.held(c:Cx)(e:Addr):Cx:={c with A:=c.A.mark (aj (.ref e))}
theorem I0.held(h:I0 n c)(h2:2<=n):I0 2 (c.held a):=⟨h.rd,h.names,h.kind,h.glob,h.blt,h.hfr,h.cinj,h.nd,h.oloc,h.ocell,λt q e=>⟨by decide,(h.lamc t q e).2⟩⟩
theorem Loc.held(h:Loc c J g):Loc (c.held a) J g:=⟨h.ns,h.ce,h.ow⟩
theorem Inv.held{vs:Array Value}(I:Inv n c J g U s)(h2:2<=n)(hf:g.fz a=aj o)(hd:o.data=.fields vs)(h3:vs[2]? = aj .none):Inv 2 (c.held a) J g U s :=
 ⟨⟨I.ok,I.frames,I.top,AAC (AC3 h2 _) I.depth,AAC (AC3 (ADC _ h2) _) I.units,⟨.inr ⟨by decide,⟨a,o,vs,rfl,hf,hd,h3⟩⟩,I.hh.2⟩,I.frs,I.has⟩,I.cx.held h2,I.loc.held⟩
theorem Inv.freeze(I:Inv n c J g U s)(F:Dw c.T g a)(ho:s.heap.get? a=aj o):Inv n c J (g.put a o) U s:=I.step (.put F.fz) (F.put I.has ho)
theorem SS.tryAs(hb:SXs n b J U k λJ' af=>J'=J/\af=U1')(h2:2<=n)(he:SE 2 e (J.set i (aj (.exc k))) U1' v U2)(hq:Q (.ret v) U2):SS n (.tryAs b ((k,i,e)::hs)) J U Q:=λc g s x hc I=>hc (λx=>c.wp (exec x c.env) (BI n c g Q) s) λbd h0 hs' p h1 hH=>by refine hH (λl=>c.wp (exec (.Try bd l [] [] p) c.env) (BI n c g Q) s) λnm np m ex rp hp t k1 k2 k3 _=>wpAny_Try_except (AAO (hb c g s bd h1 I) (λ_ _ h=>h.elim) λx ag q=>q _ λJ' af ai hX le I1 fl=>?_);refine oA hX λq_0 q_1=>?_;subst q_0;subst q_1;refine AH I1.cx.hfr λe0 l hfe hfr=>?_;have fr:=I1.frs;rw[hfe] at fr;rw[Nk hfr];refine Jg (I1.frames.trans (congrArg aj hfe)) fr I1.has fl λaM aL fl3=>EM I1.frs aL fl3 λaT aC fl4=>?_;have I4:=I1.step (.refl _ _) aC;have fl4':=fl4;obtain⟨a,oe,vs,C,rfl,q2,q3,q4,q5,q6,q7,q8,q9⟩:=fl4';refine wpAny_handleBy_cons (codeAny_handlers_test (Cu I4 k1 λy hy=>?_)) (by intro q;cases q);refine oEA hy λC' hC' q_2=>?_;subst q_2;obtain rfl:=Ao q3 hC';refine UT I4 q3 q2 q4 (codeAny_handlers_suite_as (EM I4.frs aC fl4 λbe bu fl5=>?_));obtain⟨a',oe',vs',C',hx,p2,p3,p4,p5,p6,p7,p8,_⟩:=fl5;obtain rfl:=ABR hx;have rx:Au c.T (ai.put a oe') (.exc k) (.ref a):=λR_ kk=>kk a C' oe' vs' G.put_self p3 p4 p5 p6;refine((I4.step (.refl _ _) bu).freeze p7 p2).store k2.1 rx λg6 s6 le6 up6 I6=>?_;rw[Lc,arm_exec_Return];refine AAD (AA7 (AAD (AAO (he (c.held a) g6 s6 ex k3 (I6.held h2 (up6.fz _ _ G.put_self) p6 p8)) (λX s7 q=>q _ λg7 le7 H7 r7=>AAY ?_) λ_ _ h=>h.elim)));exact RG (I6.step le7 H7) k2.2 λg9 s9 le9 up9 H9 ow9=>λR_ _ kk=>kk v X U2 g9 hq (le.trans ((G.le.put p7.fz).trans (le6.trans (le7.toO.trans le9)))) H9 ow9 (Au.mono up9 _ _ r7)
noncomputable def XY(n:Nat)(ts:List Nat)(b:S)(kps:List (Nat×List V))(k:Nat)(X:Al->Ac->Prop):List V->Al->Ac->Prop
 |[],_,_=>False
 |v::vs,J,U=>Cs U kps/\Lm n ts v/\(SXs n b (Cw J ts v) U k X\/SSs n b (Cw J ts v) U λfl U'=>match fl with|.next J'=>XY n ts b kps k X vs J' U'|.ret _=>False)
section
variable{X:Al->Ac->Prop}{vs ws:List V}{kps:List (Nat×List V)}{ts:List Nat}
theorem SXP.came(p:SXP n c g k X x s'):notedBy (model c.T.prog c.T.w) c.A c.env (λe s''=>cameBackBy (model c.T.prog c.T.w) c.A c.env (SXP n c g k X) e s'') x s':=p _ λJ' U' g' hX le I fl=>by unfold notedBy;refine AH I.cx.hfr λe0 l hfe hfr=>?_;have fr:=I.frs;rw[hfe] at fr;rw[Nk hfr];refine Jg (outer:=l) (I.frames.trans (congrArg aj hfe)) fr I.has fl λaM aL fl3=>?_;unfold cameBackBy;refine AAD (EQ.field (s:={s' with heap:=aM}) fl3 λtb=>?_);exact(if_neg (show ¬ ((Value.ref tb==Value.none)=true) fromλh=>nomatch h))▸EM (s:={s' with heap:=aM}) I.frs aL fl3 λaT aC fl4=>λR_ kk=>kk J' U' g' hX le (I.step (.refl _ _) aC) fl4.any
theorem SX.for_(hi:SI n it J U vs kps af)(h:XY n ts st kps k X vs J af):SX n (.for_ ts it st) J U k X:=λc g s x hc I=>hc (λx=>c.wx (exec x c.env) (SXP n c g k X) s) λt i bd p h1 h2 h3=>by
 refine wpAny_For (AAO (hi c g s i h2 I) (λY ag h₁=>AAO h₁ (λitv ak p=>?_) λ_ _ h=>h.elim) λ_ _ h=>h.elim) ((BR it h2).fold c.env);refine p (λitv=>codeAny (model c.T.prog c.T.w) c.A (.forLoop t itv bd [] c.env) _ ak) λits a am le2 aA new it2 _=>?_;have ni:∀a,a∈its->a∉c.own:=λa q q'=>I.loc.ow a q' (new a q);have toI:∀{g g'},G.le its g g'->G.le (its++c.own) g g':=λle=>⟨le.toup,λa q=>le.hid a λh=>q (AAU _ h)⟩
 have toO:∀{g g'},G.le c.own g g'->G.le (its++c.own) g g':=λle=>⟨le.toup,λa q=>le.hid a λh=>q (AAW _ h)⟩
 have mono:∀{vs g g'},G.le c.own g g'->ItS n c.T (BP it) kps its a vs g->ItS n c.T (BP it) kps its a vs g':=λle h=>h.mono le.toup λc hc=>le.hid c (ni c hc);refine codeAny_forLoop_any (I:=λm s'=>∀R_:Prop,(∀vs J U g',m=vs.length->XY n ts st kps k X vs J U->G.le (its++c.own) g g'->Inv n c J g' U s'->ItS n c.T (BP it) kps its a vs g'->R_)->R_) (λm az hz=>hz _ λvs J3 U3 aB hk w ay I3 it3=>?_) vs.length
  λR_ kk=>kk vs J af am rfl h (toI le2) (I.far I.frs I.loc new le2 aA) it2
 subst hk;cases vs with
 |nil=>exact w.elim
 |cons v vs =>
  refine AAO (it3.2 c.toAr aB U3 az rfl I3.toAt (.refl _) (λ_ _=>rfl) w.1 t (λr ag=>∃X,r=aj X/\∀Q':Unit->Shared->Prop,(∀g' s',G.le its aB g'->Has c.T g' U3 s'->Au c.T g' v X->ItS n c.T (BP it) kps its a vs g'->Q' () s')->c.wp (letOwnedTupleGo t (.ref a) X) Q' ag) (OR h1.1 h1.2) λX ag k=>(iEA X rfl k)) (λr ag h=>?_) λ_ _ h=>h.elim;obtain⟨Y,rfl,h⟩:=h;refine AAO (h _ λaQ aJ le4 aC r4 it4=>?_) (λ_ _ h=>h) λ_ _ h=>h.elim;refine(I3.far I.frs I.loc new le4 aC).bind h1.1 w.2.1 r4 λg5 s5 le5 I5=>?_;have le':=ay.trans ((toI le4).trans (toO le5));rcases w.2.2 with w|w
  ·refine AAO (w c g5 s5 bd h3 I5) (λ_ _ h=>h.elim) λy s6 p=>SXP.came (p _ λJ6 U6 g6 hX l6 I6 fl=>?_);refine AS (I6.has.back (s':=s6) (le'.trans (toO l6)) new (λ_ _ _ e=>e) (I6.has.away (mono (le5.trans l6) it4).at)) λhd H' le e=>λR_ kk=>kk J6 U6 _ hX le (I6.far I.frs I.loc new ⟨⟨λ_ _ e=>e,λ_ _ e=>e⟩,e⟩ H') (fl.other λa F=>⟨F.fz,?_,F.mu,F.tab⟩);by_cases q:a∈its
   ·exact(le.hid a (ni a q)).trans (new a q)
   ·exact(e a q).trans F.hid
  ·refine AAO (w c g5 s5 bd h3 I5) (λf s6 p=>p.elim (λJ6 U6 g6 aO q l6 I6=>?_) λv x U6 g6 aO q l6 H w r6=>q.elim) λ_ _ h=>h.elim;subst aO;exact iEA vs.length (ADN _) (λR_ kk=>kk vs J6 U6 g6 rfl q (le'.trans (toO l6)) I6 (mono (le5.trans l6) it4))
theorem SEx.fcall(h:SEs n a J U ws af)(hf:FXA n f ws af k U2):SEx n (.fcall f a) J U k U2:=λc g s ex hc I=>hc (λex=>c.wx (eval ex c.env) (FP c.T g U2 k) s) λnm np es p h1 h2=>by refine Fv I.cx.rd.ns λmg mb hg hb ht _=>oEA (ht nm _ h1.2) λ_ q_1 _=>?_;obtain⟨fa,hfa,rfl⟩:=q_1;refine AH (I.cx.rd.fnob f fa hfa) λo fd ho hd=>PyProof.Rows.Call_Name rfl (Cu I h1 λy hy=>?_);refine oEA hy λfa' hfa' q_2=>?_;subst q_2;obtain rfl:=Ao hfa hfa';refine callWith_function (o:=o) (fd:=fd) (AAO (CL (r:=c.toAr) (Q:=λa ak=>(ak.heap.get? fa=aj o/\o.data=.func fd)/\c.wx (call (.ref fa) ([]++a.pos) a.kw) (FP c.T g U2 k) ak) h2 (AAO (h c g s es p h2 I) (λYs ak aI=>aI _ λam le2 av ar=>⟨⟨(I.step le2 av).base _ _ ho,hd⟩,AAO (hf c.toAr am ak fa Ys hfa (I.step le2 av).toAt ar) (λ_ _ h=>h) λ_ _ p=>p.after le2⟩) λ_ _ h=>h)) (λ_ _ h=>h) λ_ _ h=>h.elim)
end
theorem SEx.bin(h:SEx n a J U k af):SEx n (.bin op a b) J U k af:=λc g s ex hc I=>hc (λex=>c.wx (eval ex c.env) (FP c.T g af k) s) λl r p h1 h2=>by rw[arm_eval_BinOp];exact AAD (AAO (h c g s l h1 I) (λ_ _ h=>h.elim) λ_ _ h=>h)
theorem SX.forE(h:SEx n it J U k af)(hX:X J af):SX n (.for_ ts it st) J U k X:=λc g s x hc I=>hc (λx=>c.wx (exec x c.env) (SXP n c g k X) s) λt i bd p h1 h2 h3 =>
 wpAny_For (AAO (h c g s i h2 I) (λ_ _ h=>h.elim) λy s' p R_ kk=>p R_ λg' le H fl=>kk J af g' hX le.toO (I.step le H) fl) ((BR it h2).fold c.env)
theorem RP{prog:Program}{w:World}{A:Around}{E:Value->Shared->Prop}{s:Shared}{o:Obj}{d:Int}{t:Tok}{Q:Fin->Shared->Prop}(ho:s.heap.get? a=aj o)(hc:o.cls=c)(hq:Q (.done (.ret (.bool true))) s):wpAny (model prog w) A (Builtin.«isinstance.nested» ⟨[.ref a,c,.int d t],[]⟩) Q E s:=by
 have he:(c==c)=true:=beq_self_eq_true _
 repeat (any_goals (first|assumption|wp_step))
theorem RO:Meets (Builtin.«isinstance» ⟨[.ref a,c],[]⟩) (λ_ R s=>(∃o,s.heap.get? a=aj o/\o.cls=c)/\R (.ok (.ret (.bool true))) s):=λ_ _ _ _ s hs=>by obtain⟨⟨o,h1,h2⟩,h3⟩:=hs;exact isinstance_outer (RP h1 h2 h3) (λe=>nomatch e)
theorem gG:Pr2 (λX Y=>call (AZ .isinstance) [X,Y]) (.obj ks) (.ecl 0) U (vb true) U:=λr g s X Y A hx hy=>by
 obtain⟨a,ha,rfl⟩:=hy;refine hx (λX=>r.wp (call (AZ .isinstance) [X,.ref a]) (Ans r g (vb true) U) s) λb d o mA h1 h2 h3 h4 h5 h6 h7 h8=>call_isinstance RO ⟨(iEA o (A.has.fz _ _ h1) ?_),?_⟩
 ·exact(show o.cls=.ref r.T.cls by assumption).trans (congrArg Value.ref (AAA ha))
 ·exact .refl A.has rfl
end Mine.Internal
namespace Mine.Internal
open PySem
def Kr(C:Cfg)(P:Fl->Ac->Prop)(K:Nat->Ac->Prop)(l:S)(J:Al)(U:Ac):Prop:=Ak C P l J U\/∃k U',K k U'/\SXs (C.n+3) l J U k λ_ af=>af=U'
section
variable{C:Cfg}{P:Fl->Ac->Prop}{K:Nat->Ac->Prop}{α:Type}
theorem Q5{M:Al->Ac->Prop}(h:Ak C (λfl U'=>∃J',fl=.next J'/\M J' U') (.cons st .nil) J U)(k:∀J' U',M J' U'->Kr C P K r J' U'):Kr C P K (.cons st r) J U:=by
 refine AH h λfl U' q_2 h2=>?_;obtain⟨J',rfl,h1⟩:=q_2;rcases k J' U' h1 with q|⟨kk,U2,hK,q⟩
 ·exact .inl (CG (M:=λa b=>a=J'/\b=U') ⟨_,_,(AB J' rfl rfl rfl),h2⟩ λa b e=>by rw[e.1,e.2];exact q)
 ·exact .inr (Eu kk U2 hK (.tail (SS.mono (λf s e=>by rw[e.1,e.2];exact q) (.of1 h2))))
theorem JC(h:Ak C (λfl af=>fl=.next J'/\af=U') (.cons st .nil) J U)(k:Kr C P K r J' U'):Kr C P K (.cons st r) J U :=
 Q5 (M:=λa b=>a=J'/\b=U') (h.mono λfl af q=>(AB J' q.1 rfl q.2)) λa b e=>by rw[e.1,e.2];exact k
theorem S3(w:α->V)(aa:List α->Al->Ac->Prop):∀(q p:List α) (J:Al) (U:Ac),(∀p J U,aa p J U->Cs U kps)->(∀a,a∈q->FH ts (w a))->aa p J U ->
 (∀p' a q' J U,p++q=p'++a::q'->aa p' J U->Kr C (λfl U'=>∃J',fl=.next J'/\aa (p'++[a]) J' U') K body (Cw J ts (w a)) U) ->
 (∃Je Ue,aa (p++q) Je Ue/\∀Q:Fl->Ac->Prop,Q (.next Je) Ue->VM (C.n+3) ts body kps Q (q.map w) J U)\/∃k U',K k U'/\XY (C.n+3) ts body kps k (λ_ af=>af=U') (q.map w) J U
 |[],p,J,U,hk,_,hJ,_=>.inl (Eu J U ((AAV p).symm▸hJ) (λQ h=>⟨hk p J U hJ,h⟩))
 |a::q,p,J,U,hk,hb,hJ,hf=>by
  rcases hf p a q J U rfl hJ with⟨fl,af,⟨aN,rfl,h1⟩,h2⟩|⟨k,U',hK,h2⟩
  ·have e:p++[a]++q=p++a::q:=by rw[ABQ];rfl
   rcases S3 w aa q (p++[a]) aN af hk (λb hb'=>hb b (.tail _ hb')) h1 λp' b q' J U he=>hf p' b q' J U (e.symm.trans he) with⟨Je,Ue,h3,h4⟩|⟨k,U',hK,h4⟩
   ·exact .inl (Eu Je Ue (e▸h3) (λQ h=>⟨hk p J U hJ,(hb a (.head _)).at (ACG 3 _),SSs.mono (λf s e=>by rw[e.1,e.2];exact h4 Q h) h2⟩))
   ·exact .inr ⟨k,U',hK,hk p J U hJ,(hb a (.head _)).at (ACG 3 _),.inr (SSs.mono (λf s e=>by rw[e.1,e.2];exact h4) h2)⟩
  ·exact .inr ⟨k,U',hK,hk p J U hJ,(hb a (.head _)).at (ACG 3 _),.inl h2⟩
theorem Xk(w:α->V)(aa:List α->Al->Ac->Prop)(hit:C.it it J U=aj (l.map w,kps))(hk:∀p J U,aa p J U->Cs U kps)(hb:∀a,a∈l->FH ts (w a))(hJ:aa [] J U)
 (hf:∀p a q J U,l=p++a::q->aa p J U->Kr C (λfl U'=>∃J',fl=.next J'/\aa (p++[a]) J' U') K body (Cw J ts (w a)) U) (k:∀J' U',aa l J' U'->Kr C P K r J' U'):Kr C P K (.cons (.for_ ts it body) r) J U:=by
 have hI:=((Ad C.ok it).it hit).1;rcases S3 (C:=C) (K:=K) (body:=body) (ts:=ts) (kps:=kps) w aa l [] J U hk hb hJ hf with⟨Je,Ue,h1,h2⟩|⟨kk,U',hK,h2⟩
 ·exact JC (CD (fl:=.next Je) (λQ q=>.for_ hI (h2 Q q)) (Ab ⟨rfl,rfl⟩)) (k Je Ue h1)
 ·exact .inr (Eu kk U' hK (.head (.for_ hI h2)))
theorem FXA.more(hf:FXA n f xs U k U')(h:n<=m):FXA m f xs U k U':=λr g s a Xs hf' A R=>hf r g s a Xs hf' (A.less h) R
def FE(n f:Nat)(xs:List V)(U:Ac)(R:V->Ac->Prop)(K:Nat->Ac->Prop):Prop:=(∃v U',R v U'/\FN n f xs U v U')\/∃kk U',K kk U'/\FX n f xs U kk U'
theorem Kr.fn{fn:Fn}{zs:List V}(hP:Pg f=aj fn)(hl:zs.length=fn.np)(hn:1<=C.n)(h:Kr C (λfl U'=>R (GR fl) U') K fn.body (BD fn zs) U):FE (C.n+1) f zs U R K:=h.imp (FN.ends hP hl hn) λ⟨kk,U',h1,h2⟩=>⟨kk,U',h1,FX.of hP hl h2 hn⟩
end
theorem BN(h:C.t c J U=aj t)(e:t=false)(k:Ak C P r J U):Ak C P (.cons (.ite c a .nil) r) J U:=Hm (e▸h) k
theorem Sl(l:List Nat)(c:Nat):Txt.contains (Tx l) (Tx [c])=decide (c∈l):=by have h:=StrLaws.found_one (Tx l) c;rw[IJ] at h;exact h
theorem KH:∀l:List Nat,G2 l=l.map λc=>vs [c]
 |[]=>rfl
 |c::l=>by show _::G2 l=_;rw[KH l];rfl
theorem Qt{C:Cfg}{l:List Nat}(h:AT J i=aj (vs l))(ha:∀c∈l,c<128):C.it (.var i) J U=aj (l.map λc=>vs [c],[]):=by show(AT J i).bind (DI U)=_;rw[h];show(if (Tx l).cps.all (· < 128)=true then aj (G2 (Tx l).cps.toList,[]) else au)=_;rw[if_pos,IJ,KH];rw[List.all_toArray,ACH];exactλc hc=>AAI (ha c hc)
theorem EV{C:Cfg}{α:Type}{l:List α}{d:α->PyData}(h:AT J i=aj (.d (.list (l.map d)))):C.it (.var i) J U=aj (l.map λa=>.d (d a),[]):=BS h rfl
theorem MS:∀c∈ES,c<128:=by decide +kernel
theorem Se(t:List Nat)(h:Bt t=true):FN 2 2 [vs t] U (vb true) U:=by
 refine oAA ((Cj t).mp h) λn1 n2 n3=>AH (FN.ends (C:=C0 1) (f:=2) (zs:=[vs t]) (R:=λv U'=>v=vb true/\U'=U) (by unfold Pg;rfl) rfl (AAL _) (by
  refine BN (DY (An (AU (Az rfl) Ql) rfl Ps) λ_=>An (AU (Az rfl) Ql) rfl NU) (by rw[AAT (by exact Io n1),AAT (by exact Io n2)];rfl) ?_
  ·refine AW (λc=>vs [c]) (λ_ J U'=>(∃z,J=[aj (vs t),z])/\U=U') (Qt rfl λc hc=>MS c (n3 c hc)) ⟨⟨au,rfl⟩,rfl⟩ ?_ ?_
   ·intro p c q J q_u4 hp q_r1;obtain⟨⟨z,rfl⟩,rfl⟩:=q_r1;exact BN (An rfl (congrArg (λs=>aj (V.d (.str s))) Qq) rfl) (by rw[Sl,AAI (n3 c (by rw[hp];simp))];rfl) (Ab (AB _ rfl ⟨_,rfl⟩ rfl))
   ·intro J q_u1 q_r2;obtain⟨⟨z,rfl⟩,rfl⟩:=q_r2;exact AE rfl ⟨rfl,rfl⟩)) λv U' q_2 h=>?_
 obtain⟨h1,h2⟩:=q_2;rw[h1,h2] at h;exact h
theorem Sf(t:List Nat)(h:BM t):FN 2 3 [vs t] U (vb true) U:=by
 refine AH (FN.ends (C:=C0 1) (f:=3) (zs:=[vs t]) (U:=U) (R:=λv U'=>v=vb true/\U'=U) (by unfold Pg;rfl) rfl (AAL _) (by
  refine BN (An (AU (Az rfl) Ql) rfl NU) (AAT (by have:=h.len;exact Io this)) ?_
  ·refine AW (λc=>vs [c]) (λ_ J U'=>(∃z,J=[aj (vs t),z])/\U=U') (Qt rfl λc hc=>by have:=h.ok c hc;exact kL this) ⟨⟨au,rfl⟩,rfl⟩ ?_ ?_
   ·intro p c q J q_u4 hp q_r3;obtain⟨⟨z,rfl⟩,rfl⟩:=q_r3;have hc:=h.ok c (by rw[hp];simp);exact BN (DY (An (AU (Az rfl) rfl) rfl Ps) λ_=>An (AU (Az rfl) rfl) rfl NU) (by rw[AAT (by exact Io hc.1),AAT (by exact Io hc.2)];rfl) (Ab (AB _ rfl ⟨_,rfl⟩ rfl))
   ·intro J q_u1 q_r4;obtain⟨⟨z,rfl⟩,rfl⟩:=q_r4;exact AE rfl ⟨rfl,rfl⟩)) λv U' q_2 h=>?_
 obtain⟨h1,h2⟩:=q_2;rw[h1,h2] at h;exact h
noncomputable def VW(P:List Nat->Prop)(xs:List V):Option V:=match xs with|x::r=>(match r with|[]=>(Ct x).bind λz=>@ite _ (P z.cps.toList) (ACE _) (aj (vb true)) au|_=>au)|[]=>au
theorem PB(hf:∀t,P t->FN n f [vs t] U (vb true) U)(h:VW P xs=aj v):FN n f xs U v U:=by
 match xs,h with
 |[],h=>exact Aa h
 |[x],h =>
  exact oEA (ac h) λz e1 h=>oA (@Bo _ _ _ _ (ACE _) h) λq h=>(BE e1)▸h▸(Pz z)▸hf _ q
 |_::_::_,h=>exact Aa h
theorem L5(h:P t):VW P [vs t]=aj (vb true):=by show@ite _ (P (Tx t).cps.toList) (ACE _) (aj (vb true)) au=_;rw[IJ];exact@if_pos _ (ACE _) h _ _ _
noncomputable def C3(n:Nat)(hn:2<=n):Cfg:=(C0 n).add 2 (λxs _=>VW (Bt · = true) xs) λ_ _ _ h=>PB (λt ht=>(Se t ht).more hn) h
noncomputable def C4(n:Nat)(hn:2<=n):Cfg:=(C0 n).add 3 (λxs _=>VW BM xs) λ_ _ _ h=>PB (λt ht=>(Sf t ht).more hn) h
theorem IK{α β:Type}(d:α->PyData)(d':β->PyData):∀(l:List α) (m:List β),It ((l.map d).map .d) ((m.map d').map .d)=(l.zip m).map λp=>V.d (.tuple [d p.1,d' p.2])
 |[],_=>rfl
 |_::_,[]=>rfl
 |a::l,b::m=>by show _::It ((l.map d).map .d) ((m.map d').map .d)=_;rw[IK d d' l m];rfl
theorem Pf(t:List Nat)(ls:List (List Nat))(ht:Bt t=true)(hl:∀l∈ls,Bt l=true)(hr:ls.Pairwise (· < ·))(hn:t∉ls)(hlen:ls.length<=1000):FN 3 4 [vs t,.d (dl ls)] U Cv U:=by
 refine AH (FN.ends (C:=C3 2 (AAL _)) (f:=4) (zs:=[vs t,.d (dl ls)]) (R:=λv U'=>v=Cv/\U'=U) (by unfold Pg;rfl) rfl (by decide) (by
  refine Hm (Dp (p:=true) (Lh (Az rfl) (L5 (P:=(Bt · = true)) ht))) (AW (λl=>vs l) (λ_ J U'=>(∃z2,J=[aj (vs t),aj (.d (dl ls)),z2,au,au])/\U=U') (EV rfl) ⟨⟨au,rfl⟩,rfl⟩ ?_ ?_)
  ·intro p l q J q_u4 hp q_r5;obtain⟨⟨z,rfl⟩,rfl⟩:=q_r5;exact Hm (Dp (p:=true) (Lh (Az rfl) (L5 (P:=(Bt · = true)) (hl l (by rw[hp];simp))))) (Ab (AB _ rfl ⟨_,rfl⟩ rfl))
  intro J q_u1 q_r6;obtain⟨⟨z2,rfl⟩,rfl⟩:=q_r6;refine G8 (l:=ls.zip (ls.drop 1)) (kps:=[]) (λp=>V.d (.tuple [.str (Tx p.1),.str (Tx p.2)])) (λ_ J U'=>(∃z3 z4,J=[aj (vs t),aj (.d (dl ls)),z2,z3,z4])/\U=U') ?_ (λ_ _ _ _ _ _ m=>nomatch m) (λ_ _=>.inr (iEA _ rfl rfl)) ⟨(iEE au au rfl),rfl⟩ ?_ ?_
  ·have hs:(ev (C3 2 (AAL _)).O (.slc (.var 1) (.cst (.int 1)) .nil)).v [aj (vs t),aj (.d (dl ls)),z2,au,au] U=aj (.d (dl (ls.drop 1))):=(HA (U:=U) (by decide) (lml (AAC hlen (by decide)))).trans (List.map_drop▸rfl);show((ev (C3 2 (AAL _)).O (.slc (.var 1) (.cst (.int 1)) .nil)).v [aj (vs t),aj (.d (dl ls)),z2,au,au] U).bind (λy=>(A8 U (.d (dl ls))).bind λds=>(A8 U y).bind λds'=>aj (It ds ds',CV (.d (dl ls)) ds++CV y ds'))=_;rw[hs,bs];show aj (It ((ls.map λt=>PyData.str (Tx t)).map V.d) (((ls.drop 1).map λt=>PyData.str (Tx t)).map V.d),_)=_;rw[IK];rfl
  ·intro p q_r7 q J q_u4 hp q_r8;obtain⟨a,b⟩:=q_r7;obtain⟨⟨z3,z4,rfl⟩,rfl⟩:=q_r8;refine Hm ?_ (Ab (AB _ rfl (iEE _ _ rfl) rfl));have hab:a<b:=by
    have hm:(a,b)∈ls.zip (ls.drop 1):=by rw[hp];simp
    obtain⟨j,hj⟩:=List.mem_iff_getElem?.mp hm;obtain⟨j1,j2⟩:=ADO.mp hj;rw[List.getElem?_drop] at j2;obtain⟨k1,k2⟩:=AAM.mp j1;obtain⟨k3,k4⟩:=AAM.mp j2;have k2:ls[j]=a:=k2;have k4:ls[1+j]=b:=k4;exact k2▸k4▸List.pairwise_iff_getElem.mp hr j (1+j) k1 k3 (mH)
   show aj (!By (Tx a) (Tx b))=_;rw[Ol,AAI hab];rfl
  intro J q_u1 q_r9;obtain⟨⟨z3,z4,rfl⟩,rfl⟩:=q_r9;refine Hm (An rfl rfl ((CE t ls).trans (by rw[AAT hn]))) (Ab ⟨rfl,rfl⟩))) λv U' q_2 h=>?_
 obtain⟨h1,h2⟩:=q_2;rw[h1,h2] at h;exact h
theorem Sg(d:Ba)(h:De d):FN 3 5 [.d d.data] U Cv U:=by
 refine AH (FN.ends (f:=5) (zs:=[.d d.data]) (R:=λv U'=>v=Cv/\U'=U) (by unfold Pg;rfl) rfl (show 1<=2 by decide) (by
  have w:∀{s:String} {k:List Nat},ACC s=Tx k->(ev (C4 2 (AAL _)).O (.cmp .NotEq (.sub (.var 0) (.cst (.int 0))) (.cst (.str (ACC s))))).t [aj (.d d.data)] U=aj (!decide (d.word=k)):=λ{s k} e=>An (Ae rfl rfl (Di d)) (congrArg (λs=>aj (V.d (.str s))) e) HJ;have hm:(ev (C4 2 (AAL _)).O (.cmp .Is (.sub (.var 0) (.cst (.int 1))) (.cst .none))).t [aj (.d d.data)] U=aj d.mark.isNone:=An (Ae rfl rfl (Dj d)) rfl (Xd d.mark);refine BN (Vd (w EU) (λ_=>w Uc) (λ_ _=>w Ih)) (by rcases h.shp with⟨e,_⟩|⟨e,_⟩|⟨e,_⟩<;>rw[e]<;>rfl) (BN (Cz (w EU) (λ_=>hm)) (by rcases h.shp with⟨e,_⟩|⟨e,m,l,e2,_⟩|⟨e,m,e2⟩<;>rw[e]<;>first|rfl|(rw[e2];rfl)) ?_);have hl:∀l,d.text=aj l->BM l->(ev (C4 2 (AAL _)).O (.not (.fcall 3 (.cons (.sub (.var 0) (.cst (.int 2))) .nil)))).t [aj (.d d.data)] U=aj false:=λl e ok=>Dp (p:=true) (Lh (Az (Ae rfl rfl (Fk d e))) (L5 ok));have hc:d.word=Ix\/∃l,d.text=aj l/\BM l:=by
   rcases h.shp with⟨_,l,e,k⟩|⟨_,m,l,_,e,k⟩|⟨e,_⟩
   ·exact .inr (iEA l e k)
   ·exact .inr (iEA l e k)
   ·exact .inl e
  exact BN (Cz (w Uc) λq=>hc.elim (λe=>by rw[AAI e] at q;cases q) λ⟨l,e,k⟩=>hl l e k) (AC9 _) (Ab ⟨rfl,rfl⟩))) λv U' q_2 h=>?_
 obtain⟨h1,h2⟩:=q_2;rw[h1,h2] at h;exact h
section
variable{κ κ' α β:Type}[DecidableEq κ][DecidableEq κ'](φ:κ->κ')(f:α->β)
noncomputable def Bk(kvs:List (κ×α)):List (κ'×β):=kvs.map λp=>(φ p.1,f p.2)
theorem Bv(kvs:List (κ×α)):(Bk φ f kvs).length=kvs.length:=AAB ..
theorem TH(a b:List (κ×α)):Bk φ f (a++b)=Bk φ f a++Bk φ f b:=AAQ ..
variable{φ}(hφ:∀a b,φ a=φ b->a=b)
include hφ
theorem AO(kvs:List (κ×α))(k:κ):Aq (Bk φ f kvs) (φ k)=(Aq kvs k).map f:=by
 induction kvs with
 |nil=>rfl
 |cons q r ih =>
  show Aq ((φ q.1,f q.2)::Bk φ f r) (φ k)=_;rw[Bl,Bl,ih];by_cases e:q.1=k
  ·exact(if_pos e)▸(if_pos (congrArg φ e))▸rfl
  ·rw[if_neg e,if_neg (λh=>e (hφ _ _ h))]
theorem Bu(kvs:List (κ×α))(k:κ)(v:α):Ci (Bk φ f kvs) (φ k) (f v)=Bk φ f (Ci kvs k v):=by
 unfold Ci;have h:((Bk φ f kvs).any λp=>p.1=φ k)=kvs.any λp=>p.1=k:=by rw[Hy,Hy,AO f hφ];cases Aq kvs k<;>rfl
 rw[h];split
 ·unfold Bk;rw[AAE,AAE];refine AC4 λp _=>?_;show(if (φ p.1)=φ k then(φ p.1,f v) else(φ p.1,f p.2))=(φ (if p.1=k then(p.1,v) else p).1,f (if p.1=k then(p.1,v) else p).2);by_cases e:p.1=k
  ·rw[if_pos e,if_pos (congrArg φ e)]
  ·rw[if_neg e,if_neg (λh=>e (hφ _ _ h))]
 ·rw[TH];rfl
end
noncomputable def mk2(m:Mk):Str×Int:=(Tx m.1,m.2)
theorem BO:∀a b:List Nat,Tx a=Tx b->a=b:=λ_ _=>FQ
theorem DD:∀a b:Mk,mk2 a=mk2 b->a=b:=λ⟨a,i⟩ ⟨b,j⟩ h=>by rw[FQ (show Tx a=Tx b from(congrArg Prod.fst h)),(show i=j from(congrArg Prod.snd h))]
theorem KM{κ β:Type}[DecidableEq κ]{h:List (κ×β)}{k:κ}{v:β}(nd:(h.map (·.1)).Nodup):((Ci h k v).map (·.1)).Nodup:=by
 unfold Ci;split
 ·rw[AAE,show((λx:κ×β=>x.1)∘λp=>if p.1=k then(p.1,v) else p)=λx=>x.1 from funext λp=>by show(if p.1=k then(p.1,v) else p).1=p.1;split<;>rfl];exact nd
 ·rename_i q
  rw[AAQ,ABW];refine⟨nd,ABX.mpr ⟨AA1,ABY⟩,λa ha b hb e=>q ?_⟩;refine oEA (AAP.mp ha) λp hp q_2=>?_;subst q_2;exact ADR.mpr (iEA p hp (AAI (e.trans (AAJ.mp hb))))
theorem Cp(hk:U[k]? = aj (.dictS kvs))(hd:Aq kvs (Tx a)=aj d):BK (.ref k) (vs a) U=aj (.d d):=by show Rt U (vs a) U[k]? = _;rw[hk];show(Aq kvs (Tx a)).bind _=_;exact hd▸rfl
theorem fM(hk:U[k]? = aj (.dictS kvs)):inV U (vs a) (.ref k)=aj (Aq kvs (Tx a)).isSome:=by show inO U (vs a) k U[k]? = _;exact hk▸rfl
theorem SD(hk:U[k]? = aj (.dictP kvs))(hd:Aq kvs (mk2 m)=aj d):BK (.ref k) (vm m) U=aj (.d d):=by show Rt U (vm m) U[k]? = _;rw[hk];show(Aq kvs (mk2 m)).bind _=_;exact hd▸rfl
theorem fN(hk:U[k]? = aj (.dictP kvs)):inV U (vm m) (.ref k)=aj (Aq kvs (mk2 m)).isSome:=by show inO U (vm m) k U[k]? = _;exact hk▸rfl
theorem Q2(m x:Mk):∀r:List Mk,m∈r->∃j,Jy (AF (aj m)) (r.map λm=>AF (aj m))=aj j/\j<r.length/\r.take (j+1)++x::r.drop (j+1)=aft m x r
 |[],h=>by cases h
 |y::r,h=>by
  have e0:eqN AK (AF (aj y)) (AF (aj m))=aj (decide (y=m)):=HT 39 y m;by_cases e:y=m
  ·subst e;refine(AB 0 ?_ (ACZ _) ?_)
   ·show(eqN AK (AF (aj y)) (AF (aj y))).bind _=_;rw[e0,AAI rfl];rfl
   ·rw[Pw];rfl
  ·refine AS (Q2 m x r ((AAR.mp h).resolve_left λq=>e q.symm)) λj h1 h2 h3=>(AB (j+1) ?_ (Nat.succ_lt_succ h2) ?_)
   ·show(eqN AK (AF (aj y)) (AF (aj m))).bind _=_;exact e0▸(AAT e)▸h1▸rfl
   ·exact(Pv e)▸h3▸rfl
theorem Uv(m:Mk):∀r:List Mk,∃q,inD (AF (aj m)) (r.map λm=>AF (aj m))=aj q
 |[]=>⟨false,rfl⟩
 |y::r=>by refine oE (Uv m r) λq h=>?_;have e0:eqN AK (AF (aj y)) (AF (aj m))=aj (decide (y=m)):=HT 39 y m;exact⟨decide (y=m)||q,by show(eqN AK (AF (aj y)) (AF (aj m))).bind _=_;rw[e0,bs,h];rfl⟩
theorem Pu(r:List Mk):FM (r.map vm)=aj (r.map λm=>AF (aj m)):=by have:=Dl (r.map λm=>AF (aj m));rw[AAE] at this;exact this
theorem Q1{r:List Mk}(hk:U[k]? = aj (.list (r.map vm)))(hj:Jy (AF (aj m)) (r.map λm=>AF (aj m))=aj j):Mb U (.ref k) [vm m]=aj (vi j):=by refine oE (Uv m r) λq hq=>?_;show(DE U[k]?).bind _=_;rw[hk];show(FM (r.map vm)).bind _=_;rw[Pu,bs];show(inD (AF (aj m)) (r.map λm=>AF (aj m))).bind _=_;exact hq▸bs▸hj▸rfl
structure ChkOk(c:Ch):Prop extends GenCh c where
 lnm:∀l∈c.2.1,Bt l=true
 self:c.1∉c.2.1
 mks:∀d∈c.2.2,∀m,d.mark=aj m->m.1=c.1\/m.1∈c.2.1
theorem bO(h:C.v (.tup es) J U=aj v)(hv:C6 v=aj [u,w,z])(k:Ak C P r (((J.set l (aj z)).set j (aj w)).set i (aj u)) U):Ak C P (.cons (.swl i j l es) r) J U :=
 CD (λQ q=>.swl (ACG 3 _) ((Ad C.ok (.tup es)).v h) hv q) k
theorem UP(c:Ch)(h:ChkOk c):FN 4 6 [vc c] U Cv U:=by
 refine AH (FN.ends (f:=6) (zs:=[vc c]) (U:=U) (R:=λv U'=>v=Cv/\U'=U) (by unfold Pg;rfl) rfl (show 1<=3 by decide) (by
  refine bO (Dk (Ms (Ae rfl rfl (Bb c)) (Ae rfl rfl (Df c)) (Ae rfl rfl (CQ c))) rfl) rfl (Bw rfl (.fcall ((Ad (C0 3).ok _).row rfl) (Pf c.1 c.2.1 h.name h.lnm h.rise h.self (AAC h.few (by decide)))) ?_);refine BN (An (AU (Az rfl) (CK.trans (by rw[AAB]))) rfl NU) (AAT (by have:=h.deeds;exact Io this)) (AW (l:=c.2.2) (λd=>.d d.data) (λ_ J U'=>(∃z,J=[aj (vc c),aj (vs c.1),aj (.d (dl c.2.1)),aj (.d (dds c.2.2)),z])/\U=U') (EV rfl) ⟨⟨au,rfl⟩,rfl⟩ ?_ ?_)
  ·intro p d q J q_u4 hp q_r1;obtain⟨⟨z,rfl⟩,rfl⟩:=q_r1;exact Bw rfl (.fcall ((Ad (C0 3).ok _).row rfl) (Sg d (h.ok d (by rw[hp];simp)))) (Ab (AB _ rfl ⟨_,rfl⟩ rfl))
  intro J q_u1 q_r2;obtain⟨⟨z,rfl⟩,rfl⟩:=q_r2;refine AW (l:=c.2.2) (λd=>.d d.data) (λ_ J U'=>(∃z,J=[aj (vc c),aj (vs c.1),aj (.d (dl c.2.1)),aj (.d (dds c.2.2)),z])/\U=U') (EV rfl) ⟨⟨z,rfl⟩,rfl⟩ ?_ ?_
  ·intro p d q J q_u4 hp q_r3;obtain⟨⟨z,rfl⟩,rfl⟩:=q_r3;have hm:=Ae (O:=(C0 3).O) (J:=[aj (vc c),aj (vs c.1),aj (.d (dl c.2.1)),aj (.d (dds c.2.2)),aj (.d d.data)]) (U:=U) (a:=.var 4) (i:=.cst (.int 1)) rfl rfl (Dj d);refine BN (Vd (q:=!decide ((d.mark.getD ([],0)).1=c.1)) (An hm rfl (Hf d.mark)) (λq=>?_) λq q'=>?_) (by rw[AC9,AC9]) (Ab (AB _ rfl ⟨_,rfl⟩ rfl))
   ·cases e:d.mark with
    |none=>rw[e] at q;cases q
    |some m =>
     rw[e] at hm;exact An (Ae hm rfl rfl) rfl HJ
   ·cases e:d.mark with
    |none=>rw[e] at q;cases q
    |some m =>
     rw[e] at hm q';have hl:=(h.mks d (by rw[hp];simp) m e).resolve_left λe2=>by have q':(!decide (m.1=c.1))=true:=q';rw[AAI e2] at q';cases q'
     exact An (Ae hm rfl rfl) rfl (by rw[Lk,CE,AAI hl];rfl)
  ·intro J q_u1 q_r4;obtain⟨⟨z,rfl⟩,rfl⟩:=q_r4;exact Ab ⟨rfl,rfl⟩)) λv U' q_2 h=>?_
 obtain⟨h1,h2⟩:=q_2;rw[h1,h2] at h;exact h
theorem X1(c:Ch)(hd:c.2.2.length<=100):FN 2 7 [vc c] U (.d (dds (c.2.2.filter λd=>decide (d.word=He)))) U:=by
 refine AH (FN.ends (C:=C0 1) (f:=7) (fn:=Ov) (zs:=[vc c]) (R:=λv U'=>v=.d (dds (c.2.2.filter λd=>decide (d.word=He)))/\U'=U) (by unfold Pg;rfl) rfl (AAL _)
  (AE (CF Ba.data (λd=>decide (d.word=He)) Ba.data (BS (Ae rfl rfl (CQ c)) rfl) (AAC hd (by decide)) (λd _=>FG (An (Ae rfl rfl (Di d)) (congrArg (λs=>aj (V.d (.str s))) EU) GB)) (λd _ _=>rfl)) ⟨rfl,rfl⟩)) λv U' q_2 h=>?_
 obtain⟨h1,h2⟩:=q_2;rw[h1,h2] at h;exact h
inductive Blw(F:List Ch):List Nat->List Nat->Prop
 |one {c:Ch} {l:List Nat} (hc:c∈F) (hl:l∈c.2.1):Blw F c.1 l
 |more {c:Ch} {l m:List Nat} (hc:c∈F) (hl:l∈c.2.1) (h:Blw F l m):Blw F c.1 m
theorem I7{F:List Ch}(nd:(F.map (·.1)).Nodup){a b:Ch}(ha:a∈F)(hb:b∈F)(e:a.1=b.1):a=b:=by
 induction F with
 |nil=>cases ha
 |cons x F ih =>
  have nd:=ABX.mp nd;rcases AAR.mp ha with q|q<;>rcases AAR.mp hb with r|r
  ·rw[q,r]
  ·exact absurd (AAZ (f:=(·.1)) r) (e▸q▸nd.1)
  ·exact absurd (AAZ (f:=(·.1)) q) (e▸r▸nd.1)
  ·exact ih nd.2 q r
section
variable{F G:List Ch}{a b:List Nat}
theorem Blw.mono(h:∀c∈F,c∈G)(x:Blw F a b):Blw G a b:=by
 induction x with
 |one hc hl=>exact .one (h _ hc) hl
 |more hc hl _ ih=>exact .more (h _ hc) hl ih
theorem Blw.step(nd:(F.map (·.1)).Nodup)(hc:c∈F):Blw F c.1 m↔∃l∈c.2.1,m=l\/Blw F l m:=by
 refine⟨λh=>?_,λ⟨l,hl,h⟩=>h.elim (λe=>e▸.one hc hl) (.more hc hl)⟩;generalize en:c.1=n at h;cases h with
 |one hc' hl=>exact iEA _ (I7 nd hc' hc en.symm▸hl) (.inl rfl)
 |more hc' hl h=>exact iEA _ (I7 nd hc' hc en.symm▸hl) (.inr h)
theorem CP.lean(ht:CP F)(hc:c∈F)(hl:l∈c.2.1):l∈F.map (·.1):=by exact oEE (AB7 hc) λp q e=>e▸AAQ▸AAU _ (ht p c q e l hl)
theorem Blw.names(ht:CP F)(x:Blw F a b):b∈F.map (·.1):=by
 induction x with
 |one hc hl=>exact ht.lean hc hl
 |more _ _ _ ih=>exact ih
theorem Blw.snoc(ht:CP F)(hn:c.1∉F.map (·.1))(ha:a∈F.map (·.1)):Blw (F++[c]) a b↔Blw F a b:=by
 refine⟨λx=>?_,Blw.mono λx hx=>AAU _ hx⟩;have inF:∀{c':Ch},c'∈F++[c]->c'.1∈F.map (·.1)->c'∈F:=λ{c'} h1 h2=>(AA0.mp h1).elim id λq=>by rw[AAJ.mp q] at h2;exact absurd h2 hn
 induction x with
 |one hc hl=>exact .one (inF hc ha) hl
 |more hc hl _ ih=>exact .more (inF hc ha) hl (ih (ht.lean (inF hc ha) hl))
end
noncomputable abbrev hK(F:List Ch):List (List Nat×Ch):=F.map λc=>(c.1,c)
noncomputable abbrev oH(F:List Ch):O:=.dictS (Bk Tx Ch.data (hK F))
noncomputable abbrev oG(gs:List (List Nat×List (List Nat))):O:=.dictS (Bk Tx dl gs)
noncomputable abbrev oT(hs:Gsl):O:=.dictS (Bk Tx PyData.int hs)
noncomputable abbrev W(F:List Ch)(gs:List (List Nat×List (List Nat)))(hs:Gsl):Ac:=[oH F,oG gs,oT hs]
noncomputable abbrev self:V:=.obj [0,1,2]
theorem Ml(F:List Ch):(hK F).map (·.1)=F.map (·.1):=by rw[AAE];rfl
theorem N7(nd:(F.map (·.1)).Nodup)(hc:c∈F):Aq (hK F) c.1=aj c:=by
 induction F with
 |nil=>cases hc
 |cons a F ih =>
  have nd':=ABX.mp nd;show Aq ((a.1,a)::hK F) c.1=_;rw[Bl];rcases AAR.mp hc with rfl|hc
  ·exact if_pos rfl
  ·exact(if_neg λe=>nd'.1 (by show a.1∈F.map (·.1);rw[show a.1=c.1 from e];exact AAZ hc))▸ih nd'.2 hc
theorem inH(n:List Nat):(Aq (Bk Tx Ch.data (hK F)) (Tx n)).isSome=decide (n∈F.map (·.1)):=by
 rw[AO Ch.data BO];have h:=AN (h:=hK F) (k:=n);rw[Ml] at h;cases e:Aq (hK F) n with
 |none=>exact(AAT λq=>by obtain⟨v,hv⟩:=h.mpr q;rw[e] at hv;cases hv).symm
 |some c=>exact(AAI (h.mp ⟨c,e⟩)).symm
theorem JB(h:C.t c J U=aj t)(e:t=true)(k:Ak C (Om C P r) a J U):Ak C P (.cons (.ite c a b) r) J U:=N5 (t:=true) (e▸h) k
section
variable{O:Orc}{J:Al}{U:Ac}
theorem Dm(h:AT J 0=aj self):(ev O (.attr (ACC "held") (.var 0))).v J U=aj (.ref 0):=by show(AT J 0).bind (XH (ACC "held"))=_;rw[h];kernel_rfl
theorem Dz(h:AT J 0=aj self):(ev O (.attr (ACC "grounds") (.var 0))).v J U=aj (.ref 1):=by show(AT J 0).bind (XH (ACC "grounds"))=_;rw[h];kernel_rfl
theorem Ez(h:AT J 0=aj self):(ev O (.attr (ACC "heights") (.var 0))).v J U=aj (.ref 2):=by show(AT J 0).bind (XH (ACC "heights"))=_;rw[h];kernel_rfl
end
def Zn(F:List Ch)(c:Ch):Prop:=∀pre d post,c.2.2=pre++d::post->∀m,d.mark=aj m->(m.1=c.1/\0<=m.2/\m.2<(adds pre:Int))\/(m.1≠c.1/\∃c'∈F,c'.1=m.1/\0<=m.2/\m.2<(adds c'.2.2:Int))
theorem Pe{F:List Ch}{gs:List (List Nat×List (List Nat))}{hs:Gsl}(nd:(F.map (·.1)).Nodup)(hg:∀c∈F,c.2.2.length<=100)(c:Ch)(hm:Zn F c):FN 3 37 [self,vc c] (W F gs hs) Cv (W F gs hs):=by
 obtain⟨v,U',⟨h1,h2⟩,h⟩:=FN.ends (C:=C0 2) (f:=37) (zs:=[self,vc c]) (U:=W F gs hs) (R:=λv U'=>v=Cv/\U'=W F gs hs) (by unfold Pg;rfl) rfl (by decide) (by
  refine Ax rfl ?_;let K:Int->Option V->Option V->Option V->Al:=λown z3 z4 z5=>[aj self,aj (vc c),aj (vi own),z3,z4,z5]
  refine AW (l:=c.2.2) (λd=>.d d.data) (λp J U'=>(∃z3 z4 z5,J=K (adds p) z3 z4 z5)/\W F gs hs=U') (BS (Ae rfl rfl (CQ c)) rfl) ⟨(Fb au au au rfl),rfl⟩ ?_ ?_
  ·rintro p d q J _ hp ⟨⟨z3,z4,z5,rfl⟩,rfl⟩;refine Ax (Ae rfl rfl (Dj d)) (CG (M:=λJ U'=>(∃z5,J=K (adds p) (aj (.d d.data)) (aj (.d (AF d.mark))) z5)/\W F gs hs=U') ?_ ?_)
   ·refine AG (An rfl rfl (Hf d.mark)) (λe=>?_) λe=>Ab (Ab (AB _ rfl ⟨_,rfl⟩ rfl));cases em:d.mark with
    |none=>rw[em] at e;cases e
    |some m =>
     refine Ax rfl ?_;have s0:∀{z5 U},(ev (C0 2).O (.sub (.var 4) (.cst (.int 0)))).v (K (adds p) (aj (.d d.data)) (aj (vm m)) z5) U=aj (vs m.1):=Ae rfl rfl rfl;have s1:∀{z5 U},(ev (C0 2).O (.sub (.var 4) (.cst (.int 1)))).v (K (adds p) (aj (.d d.data)) (aj (vm m)) z5) U=aj (vi m.2):=Ae rfl rfl rfl;have fin:∀n:Nat,0<=m.2->m.2<(n:Int)->Ak (C0 2) (Om (C0 2) (λfl U'=>∃J',fl=.next J'/\(∃z5,J'=K (adds p) (aj (.d d.data)) (aj (vm m)) z5)/\W F gs hs=U') .nil) (.cons (.ite (.bop .Or (.cons (.cmp .Lt (.sub (.var 4) (.cst (.int 1))) (.cst (.int 0))) (.cons (.cmp .GtE (.sub (.var 4) (.cst (.int 1))) (.var 5)) .nil))) .any .nil) .nil) (K (adds p) (aj (.d d.data)) (aj (vm m)) (aj (vi n))) (W F gs hs):=λn n0 n1 =>
      BN (DY (An s1 rfl Ps) λ_=>An s1 rfl pE) (by rw[AAT (Za n0),AAT (lT n1)];rfl) (Ab (Ab (AB _ rfl ⟨_,rfl⟩ rfl)))
     rcases hm p d q hp m em with⟨m1,m2,m3⟩|⟨m1,c',hc',m2,m3,m4⟩
     ·exact BN (An s0 (Ae rfl rfl (Bb c)) HJ) ((AAI m1)▸rfl) (fin _ m2 m3)
     ·refine JB (An s0 (Ae rfl rfl (Bb c)) HJ) ((AAT m1)▸rfl) ?_;have hh:BK (.ref 0) (vs m.1) (W F gs hs)=aj (vc c'):=Cp rfl (by rw[AO Ch.data BO,<-m2,N7 nd hc'];rfl);refine AD rfl (.bi1 (.cons (.fcall (.cons ((Ad (C0 2).ok _).v (Ae (Dm rfl) s0 hh)) .nil) (X1 c' (hg c' hc'))) .nil) (LV ?_)) (Ab (fin _ m3 m4));exact(CK (U:=W F gs hs)).trans (by rw[AAB,II])
   ·rintro _ _ ⟨⟨z5,rfl⟩,rfl⟩;refine AG (An (Ae rfl rfl (Di d)) (congrArg (λs=>aj (V.d (.str s))) EU) GB) (λe=>?_) λe=>?_
    ·exact Ax rfl (Ab (Ab (AB _ rfl (Fb _ _ _ (by rw[Dy,show Bh d=true from e];rfl)) rfl)))
    ·exact Ab (Ab (AB _ rfl (Fb _ _ _ (by rw[Dy,show Bh d=false from e];rfl)) rfl))
  ·rintro J _ ⟨⟨z3,z4,z5,rfl⟩,rfl⟩;exact Ab ⟨rfl,rfl⟩)
 rw[h1,h2] at h;exact h
theorem Qy(n:List Nat):BU .In (vs n) (.ref 0) (oH F::τ)=aj (decide (n∈F.map (·.1))):=by show inV (oH F::τ) (vs n) (.ref 0)=_;rw[fM rfl,inH]
theorem Ji(n:List Nat):BU .NotIn (vs n) (.ref 0) (oH F::τ)=aj (!decide (n∈F.map (·.1))):=by show HH (BU .In (vs n) (.ref 0) (oH F::τ))=_;rw[Qy];rfl
structure GC(F:List Ch)(gs:List (List Nat×List (List Nat))):Prop where
 nd:(F.map (·.1)).Nodup
 topo:CP F
 gen:∀c∈F,GenCh c
 len:F.length<=60
 gk:gs.map (·.1)=F.map (·.1)
 gin:∀p∈gs,(p.2.length<=60/\p.2.Pairwise (· < ·))/\∀l,l∈p.2↔Blw F p.1 l
structure Ro(F:List Ch)(c:Ch):Prop extends ChkOk c where
 new:c.1∉F.map (·.1)
 lin:∀l∈c.2.1,l∈F.map (·.1)
 mrk:Zn F c
 room:F.length<60
theorem KQ:∀(l:List Int) (b:Int),l.foldl (λa b=>if a<b then b else a) b+1=(l.map (· + 1)).foldl (λa b=>if a<b then b else a) (b+1)
 |[],_=>rfl
 |x::l,b=>by rw[ABP,List.foldl_cons,List.foldl_cons,KQ l];congr 1;split<;>split<;>lia
theorem WH(l:List Int):1+ET (-1) l=ET 0 (l.map (· + 1)):=by
 cases l with
 |nil=>rfl
 |cons x l =>
  show 1+l.foldl _ x=(l.map (· + 1)).foldl _ (x+1);rw[Int.add_comm,KQ]
theorem KR(l:List Int):Db CS (l.map vi)=aj l:=by
 induction l with
 |nil=>rfl
 |cons x l ih=>show(Db CS (l.map vi)).bind _=_;rw[ih];rfl
structure M9(F:List Ch)(gd:List (List Nat×Bool)):Prop where
 nd:(gd.map (·.1)).Nodup
 sub:∀n∈gd.map (·.1),n∈F.map (·.1)
def cV(F:List Ch)(ls:List (List Nat))(gd:List (List Nat×Bool)):Prop:=∀n,n∈gd.map (·.1)↔∃l∈ls,n=l\/Blw F l n
theorem M9.put(h:M9 F gd)(hn:n∈F.map (·.1)):M9 F (Ci gd n true) :=
 ⟨KM h.nd,λk hk=>((Fq k).mp hk).elim (λe=>e▸hn) (h.sub k)⟩
theorem M9.len(h:M9 F gd):gd.length<=F.length:=by have:=Ja _ _ h.nd h.sub;rwa [AAB,AAB] at this
noncomputable abbrev oB(gd:List (List Nat×Bool)):O:=.dictS (Bk Tx PyData.bool gd)
theorem bC(hk:U[k]? = aj (oB gd))(hl:∀n∈gd.map (·.1),n.length<=12)(h:gd.length<=60):Cl .list U [.ref k]=aj (.d (dl (gd.map (·.1)))):=by
 show(Qp U[k]?).bind mkL=_;rw[hk];show((if (Bk Tx PyData.bool gd).all (λp=>decide (p.1.length<=line))=true then aj (vss ((Bk Tx PyData.bool gd).map (·.1))) else au).bind mkL)=_;rw[if_pos,bs]
 ·have e:vss ((Bk Tx PyData.bool gd).map (·.1))=((gd.map (·.1)).map λt=>PyData.str (Tx t)).map V.d:=by show((Bk Tx PyData.bool gd).map (·.1)).map _=_;unfold Bk;rw[AAE,AAE,AAE,AAE];rfl
  exact e▸HL _ (lml (lml (AAC h (by decide))))
 ·rw[ACH];intro p hp;obtain⟨q,hq,rfl⟩:=AAP.mp hp;refine AAI ?_;rw[GD];exact AAC (hl q.1 (AAZ hq)) (by decide)
theorem W3{F:List Ch}{gs:List (List Nat×List (List Nat))}(w:GC F gs)(c:Ch)(h:Ro F c) :
 Ak (C0 4) (λfl U'=>∃gd,(M9 F gd/\cV F c.2.1 gd)/\GR fl=Cv/\U'=W (F++[c]) (gs++[(c.1,Av (gd.map (·.1)))]) (hts [] (F++[c]))++[oB gd]) GH.body (BD GH [self,vc c]) (W F gs (hts [] F)):=by
 have hnm:∀n∈F.map (·.1),n.length<=12:=λn hn=>by obtain⟨x,hx,rfl⟩:=AAP.mp hn;exact((Cj _).mp (w.gen x hx).name).2.1
 refine Bw rfl (.fcall ((Ad (C0 4).ok _).row rfl) (UP c h.toChkOk)) (Ax (Ae rfl rfl (Bb c)) ?_);refine BN (An rfl (Dm rfl) (Qy c.1)) (AAT h.new) (AW (λl=>vs l) (λ_ J U'=>(∃z,J=[aj self,aj (vc c),aj (vs c.1),z,au,au])/\W F gs (hts [] F)=U') (BS (Ae rfl rfl (Df c)) rfl) ⟨⟨au,rfl⟩,rfl⟩ ?_ ?_)
 ·rintro p l q J _ hp ⟨⟨z,rfl⟩,rfl⟩;exact BN (An rfl (Dm rfl) (Ji l)) ((AAI (h.lin l (by rw[hp];simp)))▸rfl) (Ab (AB _ rfl ⟨_,rfl⟩ rfl))
 rintro J _ ⟨⟨z3,rfl⟩,rfl⟩;refine Bw rfl (.mcall Ai (by unfold mtP;kernel_rfl) ((Ad (C0 4).ok (.var 0)).v rfl) ((Ad (C0 4).ok _).row rfl) ((Pe w.nd (λx hx=>AAC (w.gen x hx).deeds (by decide)) c h.mrk).more (by decide))) ?_;have hF:=w.len;refine EH (dd:=Ch.data c) (Dk (Ms rfl (AU (Az (Ae rfl rfl (Df c))) (G6 (lml (AAC h.few (by decide))))) (AU (Az (Ae rfl rfl (CQ c))) (G6 (lml (AAC h.deeds (by decide)))))) rfl) (Dm rfl) rfl rfl (by rw[Bv,AAB];exact AAS hF (by decide)) ?_;have eH:Ci (Bk Tx Ch.data (hK F)) (Tx c.1) (Ch.data c)=Bk Tx Ch.data (hK (F++[c])):=by rw[Bu Ch.data BO,GT (Dv.mpr (by rw[Ml];exact h.new))];show Bk Tx Ch.data (F.map (λc=>(c.1,c))++[(c.1,c)])=Bk Tx Ch.data ((F++[c]).map λc=>(c.1,c));exact AAQ▸rfl
 rw[eH];refine Hn ?_;let St:List (List Nat×Bool)->Ac:=λgd=>[oH (F++[c]),oG gs,oT (hts [] F),oB gd]
 let K:Option V->Option V->Al:=λz3 z5=>[aj self,aj (vc c),aj (vs c.1),z3,aj (.ref 3),z5]
 refine AW (λl=>vs l) (λp J U'=>∃gd,(M9 F gd/\cV F p gd)/\(∃z3 z5,J=K z3 z5)/\St gd=U') (BS (Ae rfl rfl (Df c)) rfl) ⟨[],⟨⟨ABY,(λn h=>nomatch h)⟩,λn=>⟨(λh=>nomatch h),λ⟨l,h,_⟩=>nomatch h⟩⟩,⟨z3,au,rfl⟩,rfl⟩ ?_ ?_
 ·rintro p l q J _ hp ⟨gd,⟨G,GI⟩,⟨z3,z5,rfl⟩,rfl⟩;have hl:=h.lin l (by rw[hp];simp);refine EH rfl rfl rfl rfl (by rw[Bv];exact AAS (AAC G.len hF) (by decide)) ?_;rw[Bu PyData.bool BO];obtain⟨ls,hls⟩:=AN.mpr (show l∈gs.map (·.1) by rw[w.gk];exact hl);obtain⟨pr,hpr,epr,epl⟩:∃pr∈gs,pr.2=ls/\pr.1=l:=by unfold Aq at hls;obtain⟨pr,e1,e2⟩:=ABL.mp hls;exact AB pr (ABH e1) e2 (by simpa using AC6 e1)
  have hin:=w.gin pr hpr;rw[epr,epl] at hin;refine AW (λl=>vs l) (λp' J U'=>∃gd,(M9 F gd/\∀n,n∈gd.map (·.1)↔(∃l∈p,n=l\/Blw F l n)\/n=l\/n∈p')/\(∃z5,J=K (aj (vs l)) z5)/\St gd=U') (BS (Ae (Dz rfl) rfl (Cp rfl (by rw[AO dl BO,hls];rfl))) rfl) (AB _ ⟨G.put hl,λn=>by rw[Fq,GI n];simp[or_comm]⟩ ⟨z5,rfl⟩ rfl) ?_ ?_
  ·rintro p' l' q' J _ hp' ⟨gd,⟨G,GJ⟩,⟨z5,rfl⟩,rfl⟩;refine EH rfl rfl rfl rfl (by rw[Bv];exact AAS (AAC G.len hF) (by decide)) (Ab (BT _ rfl (Ci gd l' true) ⟨G.put (((hin.2 l').mp (by rw[hp'];simp)).names w.topo),λn=>by
    rw[Fq,GJ n,AA0,AAJ];constructor
    ·rintro(h|h|h|h)
     ·exact .inr (.inr (.inr h))
     ·exact .inl h
     ·exact .inr (.inl h)
     ·exact .inr (.inr (.inl h))
    ·rintro(h|h|h|h)
     ·exact .inr (.inl h)
     ·exact .inr (.inr (.inl h))
     ·exact .inr (.inr (.inr h))
     ·exact .inl h⟩ ⟨_,rfl⟩ ?_))
   rw[Bu PyData.bool BO];rfl
  ·rintro J _ ⟨gd,⟨G,GJ⟩,⟨z5,rfl⟩,rfl⟩;refine Ab (BT _ rfl gd ⟨G,λn=>?_⟩ (iEE _ _ rfl) rfl);rw[GJ n,hin.2 n];constructor
   ·rintro(⟨x,hx,h⟩|h)
    ·exact iEA x (AAU _ hx) h
    ·exact iEA l (AAW _ (.head _)) h
   ·rintro⟨x,hx,h⟩;rcases AA0.mp hx with hx|hx
    ·exact .inl (iEA x hx h)
    ·exact .inr (AAJ.mp hx▸h)
 rintro J _ ⟨gd,⟨G,GI⟩,⟨z3',z5,rfl⟩,rfl⟩;have hgl:=AAC G.len hF;have hgs:gs.length<=60:=by have:=congrArg List.length w.gk;rw[AAB,AAB] at this;exact Re this hF rfl
 refine EH (AU (Az (AU (Az rfl) (bC (U:=St gd) (k:=3) rfl (λn hn=>hnm n (G.sub n hn)) hgl))) (Dr mm2 (lmt (AAS ‹_› (ACD rfl))))) (Dz rfl) rfl rfl (by rw[Bv];exact AAS hgs (by decide)) ?_;rw[Bu dl BO,GT (Dv.mpr (w.gk▸h.new))];have hhl:(hts [] F).length<=60:=by have:=congrArg List.length (Ck [] F);rw[AAB,AAF,AAB] at this;simp at this;exact Re this hF rfl
 have hget:∀l∈c.2.1,Aq (hts [] F) l=aj ((Aq (hts [] F) l).getD 0):=λl hl=>by obtain⟨v,hv⟩:=AN.mpr (show l∈(hts [] F).map (·.1) by rw[Ck];exact h.lin l hl);exact hv▸rfl
 have hcomp:(ev (C0 4).O (.comp (.sub (.attr (ACC "heights") (.var 0)) (.var 3)) [3] (.sub (.var 1) (.cst (.int 1))) .nil)).v (K z3' z5) [oH (F++[c]),oG (gs++[(c.1,Av (gd.map (·.1)))]),oT (hts [] F),oB gd]=aj (.d (.list (c.2.1.map λl=>.int ((Aq (hts [] F) l).getD 0)))):=by rw[CF (λt=>.str (Tx t)) (λ_=>true) (λl=>.int ((Aq (hts [] F) l).getD 0)) (BS (Ae rfl rfl (Df c)) rfl) (AAC h.few (by decide)) (λ_ _=>rfl) (λl hl _=>Ae (Ez rfl) rfl (Cp rfl (by rw[AO PyData.int BO,hget l hl];rfl))),Bz]
 have hmax:(ev (C0 4).O (.maxd (.comp (.sub (.attr (ACC "heights") (.var 0)) (.var 3)) [3] (.sub (.var 1) (.cst (.int 1))) .nil) (.neg (.cst (.int 1))))).v (K z3' z5) [oH (F++[c]),oG (gs++[(c.1,Av (gd.map (·.1)))]),oT (hts [] F),oB gd]=aj (vi (ET (-1) (c.2.1.map λl=>(Aq (hts [] F) l).getD 0))):=by show((ev (C0 4).O (.comp _ _ _ _)).v _ _).bind _=_;rw[hcomp,bs];show(Db CS ((c.2.1.map λl=>PyData.int ((Aq (hts [] F) l).getD 0)).map V.d)).bind _=_;rw[show(c.2.1.map λl=>PyData.int ((Aq (hts [] F) l).getD 0)).map V.d=(c.2.1.map λl=>(Aq (hts [] F) l).getD 0).map vi by rw[AAE,AAE];rfl,KR];rfl
 refine EH (dd:=.int (hv (hts [] F) c.2.1)) ((Af rfl hmax rfl).trans ?_) (Ez rfl) rfl rfl (by rw[Bv];exact AAS hhl (by decide)) (Ab (AB gd ⟨G,GI⟩ rfl ?_))
 ·rw[WH,AAE];rfl
 ·rw[Bu PyData.int BO,GT (Dv.mpr (by rw[Ck];exact h.new)),Hl];rfl
theorem Fy{F:List Ch}{gs:List (List Nat×List (List Nat))}{hs:Gsl}(m k:Nat)(o:O)(e:(W F gs hs)[k]? = aj o):Gj m o:=by
 match k,e with
 |0,e=>rw[<-AAA e];exact trivial
 |1,e=>rw[<-AAA e];exact trivial
 |2,e=>rw[<-AAA e];exact trivial
 |k+3,e=>exact Aa e
theorem DF:low 3 self:=λk hk=>by have:k∈[0,1,2]:=hk;simp at this;exact kC this
theorem Pi{F:List Ch}{gs:List (List Nat×List (List Nat))}(w:GC F gs)(c:Ch)(h:Ro F c):∃gs',GC (F++[c]) gs'/\∀τ,FN 5 36 [self,vc c] (W F gs (hts [] F)++τ) Cv (W (F++[c]) gs' (hts [] (F++[c]))++τ):=by
 refine AH (FN.ends (f:=36) (R:=λv U'=>∃gd,(M9 F gd/\cV F c.2.1 gd)/\v=Cv/\U'=W (F++[c]) (gs++[(c.1,Av (gd.map (·.1)))]) (hts [] (F++[c]))++[oB gd]) (by unfold Pg;rfl) rfl (by decide) (W3 w c h)) λv U' q_2 hf=>?_;obtain⟨gd,⟨G,GI⟩,k1,k2⟩:=q_2;rw[k1,k2] at hf;have sub:∀l,l∈F.map (·.1)->l∈(F++[c]).map (·.1):=λl hl=>by rw[AAQ];exact AAU _ hl
 have nd':((F++[c]).map (·.1)).Nodup:=by rw[AAQ,ABW];exact⟨w.nd,ABX.mpr ⟨AA1,ABY⟩,λa ha b hb e=>h.new (by have hb:b=c.1:=AAJ.mp hb;rw[<-hb,<-e];exact ha)⟩
 refine(iEA (gs++[(c.1,Av (gd.map (·.1)))]) ⟨nd',w.topo.snoc h.lin,λx hx=>?_,?_,?_,λp hp=>?_⟩ (λτ=>?_))
 ·rcases AA0.mp hx with hx|hx
  ·exact w.gen x hx
  ·exact(AAJ.mp hx)▸h.toGenCh
 ·exact AAF▸h.room
 ·rw[AAQ,AAQ,w.gk];rfl
 ·rcases AA0.mp hp with hp|hp
  ·have hp1:p.1∈F.map (·.1):=by rw[<-w.gk];exact AAZ hp
   exact⟨(w.gin p hp).1,λl=>((w.gin p hp).2 l).trans (Blw.snoc w.topo h.new hp1).symm⟩
  ·rw[AAJ.mp hp];refine⟨⟨?_,BY _ G.nd⟩,λl=>?_⟩
   ·rw[(Ah _).length_eq,AAB];exact AAC G.len w.len
   ·rw[(Ah _).mem_iff,GI l,Blw.step nd' (AAW _ (.head _))];refine exists_congr λx=>and_congr_right λhx=>or_congr Iff.rfl (Blw.snoc w.topo h.new (h.lin x hx)).symm
 ·exact FA.tail (FA.seal' hf rfl (Fy 3) rfl) rfl (ae DF (ae (CC _ _) AC)) (Fy 3)
theorem PA:∀{ds:List Ba} {k:Nat},DOk nm ms ds k->∀pre d post,ds=pre++d::post->∀m,d.mark=aj m->m∈ms\/(m.1=nm/\0<=m.2/\m.2<((k+adds pre:Nat):Int))
 |[],_,_,pre,d,post,e=>by simp at e
 |a::ds,k,h,[],d,post,e=>by refine oA (List.cons.inj e) λq_0 _=>?_;subst q_0;exact h.1
 |a::ds,k,h,b::pre,d,post,e=>by
  refine oA (List.cons.inj e) λq_0 e2=>?_;subst q_0;intro m hm;have:=PA h.2 pre d post e2 m hm;have e1:(if Bh a then k+1 else k)+adds pre=k+adds (a::pre):=by show _=k+((if Bh a then 1 else 0)+adds pre);split<;>omega
  rw[e1] at this;exact this
theorem En{cs:List Ch}(nd:(cs.map (·.1)).Nodup){a b:Ch}(ha:a∈cs)(hb:b∈cs)(e:a.1=b.1):a=b:=by have h1:=N7 nd ha;rw[e,N7 nd hb] at h1;exact(AAA h1).symm
theorem Jm(h:m∈DG pre ls):∃c'∈pre,c'.1∈ls/\c'.1=m.1/\0<=m.2/\m.2<(adds c'.2.2:Int):=by refine oEA (List.mem_flatMap.mp h) λc' h1 h2=>?_;have h1:=AA4.mp h1;have h3:=Jb.mp h2;exact OX c' h1.1 (AAG h1.2) h3.1.symm (by have:=h3.2.1;simpa using this) (by have:=h3.2.2;simpa using this)
theorem Px(H:BJ cs)(hg:∀c∈cs,GenCh c)(hl:cs.length<=60)(hp:F.Perm cs)(ht:CP F)(e:F=pre++c::post):Ro pre c:=by
 have hc:c∈cs:=hp.mem_iff.mp (by rw[e];simp);have hpre:∀x∈pre,x∈cs:=λx hx=>hp.mem_iff.mp (e▸AAU _ hx);refine oEE (AB7 hc) λa b ec=>oA (H.ok a c b ec) λh1 h2=>?_;have ha:∀x∈a,x∈cs:=λx hx=>by rw[ec];exact AAU _ hx
 have ndF:=(hp.map _).nodup_iff.mpr H.nd;have lin:=ht pre c post e;have self':=λq=>by have nd:=H.nd;rw[ec,AAQ,ABP,ABW] at nd;exact nd.2.2 c.1 (h1 c.1 q) c.1 (.head _) rfl
 refine⟨⟨hg c hc,λl hl=>?_,self',λd hd m hm=>?_⟩,?_,lin,λp d q ed m hm=>?_,?_⟩
 ·refine oEA (AAP.mp (lin l hl)) λx hx q_2=>?_;subst q_2;exact(hg x (hpre x hx)).name
 ·refine oEE (AB7 hd) λp q ed=>?_;rcases PA h2 p d q ed m hm with q|q
  ·exact Nh (Jm q) λc' _ k1 k2 _=>.inr (k2▸k1)
  ·exact .inl q.1
 ·rw[e,AAQ,ABP,ABW] at ndF;exactλq=>ndF.2.2 c.1 q c.1 (.head _) rfl
 ·rcases PA h2 p d q ed m hm with q|q
  ·refine LO (Jm q) λc' k0 k1 k2 k3 k4=>oEA (AAP.mp (lin c'.1 k1)) λx hx ex=>?_;obtain rfl:=En H.nd (hpre x hx) (ha c' k0) ex;exact .inr (bK (λq=>self' (q▸k2▸k1)) x hx k2 k3 k4)
  ·exact .inl ⟨q.1,q.2.1,by have:=q.2.2;rwa [ACY] at this⟩
 ·have:=hp.length_eq;rw[e,AAF,AA2] at this;exact jU this hl
theorem UG(H:BJ cs)(hg:∀c∈cs,GenCh c)(hl:cs.length<=60)(hp:F.Perm cs)(ht:CP F):∃gs,GC F gs/\FN 6 27 [.d (.list (F.map Ch.data))] [] self (W F gs (hts [] F)):=by
 refine AH (FN.ends (C:=C0 5) (f:=27) (zs:=[.d (.list (F.map Ch.data))]) (U:=[]) (R:=λv U'=>∃gs,GC F gs/\v=self/\U'=W F gs (hts [] F)) (by unfold Pg;rfl) rfl (by decide) (by
  refine AD rfl (.new (f:=35) (by unfold mtP;kernel_rfl) (by unfold Pg;rfl)) (AW vc (λp J U=>∃gs,GC p gs/\(∃z,J=[aj (.d (.list (F.map Ch.data))),aj self,z])/\W p gs (hts [] p)=U) (EV rfl) (AB [] ⟨ABY,λpre c post e=>by simp at e,(λc h=>nomatch h),ABF _,rfl,λp h=>nomatch h⟩ ⟨au,rfl⟩ rfl) ?_ ?_)
  ·intro p c q J q_u4 e q_r1;obtain⟨gs,w,⟨z,rfl⟩,rfl⟩:=q_r1;have A:=Px H hg hl hp ht e;obtain⟨gs',w',hf⟩:=Pi w c A;exact Bw rfl (.mcall Ai (by unfold mtP;kernel_rfl) ((Ad (C0 5).ok (.var 1)).v rfl) (.cons (.fcall ((Ad (C0 5).ok _).row rfl) ((Xz c (AAC A.few (by decide)) (AAC A.deeds (by decide))).more (by decide))) .nil) (hf [])) (Ab (BT _ rfl gs' w' ⟨_,rfl⟩ ((AAV _).symm)))
  ·intro J q_u1 q_r2;obtain⟨gs,w,⟨z,rfl⟩,rfl⟩:=q_r2;exact AE rfl (AB gs w rfl rfl))) λv U' q_2 h=>?_
 obtain⟨gs,k1,k2,k3⟩:=q_2;rw[k2,k3] at h;exact iEA gs k1 h
noncomputable def ltI(a b:Int):Bool:=decide (a<b)
theorem DS{κ κ' α α':Type}{lt:κ->κ->Bool}{lt':κ'->κ'->Bool}(f:κ×α->κ'×α')(h:∀p q,lt' (f p).1 (f q).1=lt p.1 q.1)(l:List (κ×α)):AJ lt' (l.map f)=(AJ lt l).map f:=by
 have ins:∀(p:κ×α) (l:List (κ×α)),CW lt' (f p) (l.map f)=(CW lt p l).map f:=by
  intro p l
  induction l with
  |nil=>rfl
  |cons q r ih =>
   show(if lt' (f q).1 (f p).1 then f q::CW lt' (f p) (r.map f) else f p::f q::r.map f)=(if lt q.1 p.1 then q::CW lt p r else p::q::r).map f;rw[h,ih];split<;>rfl
 induction l with
 |nil=>rfl
 |cons p r ih =>
  show CW lt' (f p) (AJ lt' (r.map f))=(CW lt p (AJ lt r)).map f;rw[ih,ins]
noncomputable def ltN(a b:List Nat):Bool:=decide (a<b)
theorem pA:VG ltN:=⟨λa=>AAT (List.lt_irrefl a),λa b c h h'=>AAI (List.lt_trans (AAG h) (AAG h')),λa b h h'=>List.le_antisymm (List.not_lt.mp (ABG h')) (List.not_lt.mp (ABG h))⟩
theorem fB:VG ltI:=⟨λa=>AAT (Int.lt_irrefl a),λa b c h h'=>AAI (Int.lt_trans (AAG h) (AAG h')),λa b h h'=>by have:=ABG h;have:=ABG h';exact Ze ‹_› this⟩
noncomputable def A9(cs:List Ch):List Ch:=((AJ ltN (cs.map λc=>(c.1,c)).reverse).reverse).map (·.2)
noncomputable def Am(cs:List Ch):List Ch:=(AJ ltI ((A9 cs).map λc=>(hgt cs c.1,c))).map (·.2)
theorem CM(cs:List Ch):(A9 cs).Perm cs:=by have h:=((AC1 _).trans ((Bg (lt:=ltN) (cs.map λc=>(c.1,c)).reverse).trans (AC1 _))).map (·.2);rw[AAE,show((λx:List Nat×Ch=>x.2)∘λc:Ch=>(c.1,c))=id from rfl,List.map_id] at h;exact h
theorem EP(hn:(cs.map (·.1)).Nodup):(A9 cs).Pairwise λa b=>b.1<a.1:=by
 have h0:(cs.map λc=>(c.1,c)).reverse.Pairwise λa b:List Nat×Ch=>a.1≠b.1:=by rw[List.pairwise_reverse,ACQ];have:=hn;rw[List.Nodup,ACQ] at this;exact this.imp λh e=>h e.symm
 unfold A9;rw[ACQ,List.pairwise_reverse];refine(DR pA _ h0).imp_of_mem λ{a b} ha hb h=>?_;have key:∀x:List Nat×Ch,x∈AJ ltN (cs.map λc=>(c.1,c)).reverse->x.1=x.2.1:=λx hx=>by have:=ADS.mp ((Bg _).mem_iff.mp hx);refine oEA (AAP.mp this) λc _ q_2=>?_;subst q_2;rfl
 rcases h with h|h
 ·exact(key a ha)▸(key b hb)▸AAG h
 ·exact(h.2 h.1).elim
theorem BW(hn:(cs.map (·.1)).Nodup):FS (hgt cs) cs (Am cs):=by
 have h0:((A9 cs).map λc=>(hgt cs c.1,c)).Pairwise λa b:Int×Ch=>b.2.1<a.2.1:=by rw[ACQ];exact EP hn
 refine⟨?_,?_⟩
 ·have h:=(Bg (lt:=ltI) ((A9 cs).map λc=>(hgt cs c.1,c))).map (·.2);rw[AAE,show((λx:Int×Ch=>x.2)∘λc:Ch=>(hgt cs c.1,c))=id from rfl,List.map_id] at h;have h2:(Am cs).Perm (A9 cs):=h;exact h2.trans (CM cs)
 ·unfold Am;rw[ACQ];refine(DR fB _ h0).imp_of_mem λ{a b} ha hb h=>?_;have key:∀x:Int×Ch,x∈AJ ltI ((A9 cs).map λc=>(hgt cs c.1,c))->x.1=hgt cs x.2.1:=λx hx=>by refine oEA (AAP.mp ((Bg _).mem_iff.mp hx)) λc _ q_2=>?_;subst q_2;rfl
  unfold Bf;exact(key a ha)▸(key b hb)▸h.imp AAG id
theorem Mh(nd:(F.map (·.1)).Nodup)(ht:CP F)(hc:c∈F):hgt F c.1=ET 0 (c.2.1.map λl=>hgt F l+1):=by
 refine oEE (AB7 hc) λpre post q_2=>?_;subst q_2;have nd':=nd;rw[AAQ,ABP,ABW] at nd';have hn:Aq (hts [] pre) c.1=au:=Dv.mpr (by rw[Ck];exactλq=>nd'.2.2 c.1 q c.1 (.head _) rfl);have old:∀{n v},Aq (hts [] pre++[(c.1,hv (hts [] pre) c.2.1)]) n=aj v->hgt (pre++c::post) n=v:=λ{n v} e=>by unfold hgt;rw[Hl,hts,Mg e];rfl
 rw[old (v:=hv (hts [] pre) c.2.1) (by rw[Ge hn,Bl,if_pos rfl])];unfold hv;congr 1;exact AC4 λl hl=>oE (AN.mpr (show l∈(hts [] pre).map (·.1) by rw[Ck];exact ht pre c post rfl l hl)) λv hv'=>(old (JD hv'))▸hv'▸rfl
theorem J9{F G:List Ch}(nd:(F.map (·.1)).Nodup)(hp:G.Perm F)(hF:CP F)(hG:CP G):∀c∈F,hgt F c.1=hgt G c.1:=by
 have ndG:(G.map (·.1)).Nodup:=(hp.map _).nodup_iff.mpr nd;have key:∀(post pre:List Ch),F=pre++post->(∀c∈pre,hgt F c.1=hgt G c.1)->∀c∈F,hgt F c.1=hgt G c.1:=by
  intro post
  induction post with
  |nil=>intro pre e h;rw[AAV] at e;rw[e] at h ⊢;exact h
  |cons x post ih =>
   intro pre e h;refine ih (pre++[x]) (by rw[ABQ];exact e) λc hc=>?_;rcases AA0.mp hc with hc|hc
   ·exact h c hc
   ·rw[AAJ.mp hc];have hx:x∈F:=by rw[e];simp
    rw[Mh nd hF hx,Mh ndG hG (hp.mem_iff.mpr hx)];congr 1;refine AC4 λl hl=>oEA (AAP.mp (hF pre x post e l hl)) λy hy q_2=>?_;subst q_2;rw[h y hy]
 exact key F [] rfl λc h=>nomatch h
theorem BJ.topo(H:BJ cs):CP cs:=λpre c post e=>(H.ok pre c post e).1
theorem Tz{F G:List Ch}(nd:(F.map (·.1)).Nodup)(hp:G.Perm F)(hF:CP F)(hG:CP G):Am G=Am F:=by have ndG:(G.map (·.1)).Nodup:=(hp.map _).nodup_iff.mpr nd;have h2:=BW ndG;refine FS.uniq (H:=hgt F) (cs:=F) ⟨h2.perm.trans hp,h2.bf.imp_of_mem λ{a b} ha hb h=>?_⟩ (BW nd);unfold Bf at h ⊢;exact(J9 nd hp hF hG a (hp.mem_iff.mp (h2.perm.mem_iff.mp ha)))▸(J9 nd hp hF hG b (hp.mem_iff.mp (h2.perm.mem_iff.mp hb)))▸h
theorem EJ{C:Cfg}{J:Al}{α:Type}{l:List α}(w:α->V)(aa:List α->Al->Ac->Prop)(hit:SI (C.n+3) it J U (l.map w) [] af)(hJ:aa [] J af)
 (hf:∀p a q J U,l=p++a::q->aa p J U->Ak C (λfl U'=>∃J',fl=.next J'/\aa (p++[a]) J' U') body (J.set x (aj (w a))) U) (k:∀J' U',aa l J' U'->Ak C P r J' U'):Ak C P (.cons (.for_ [x] it body) r) J U:=by
 exact AH (PF (ts:=[x]) (kps:=[]) w aa l [] J af (λ_ _ _ _ _ _ m=>nomatch m) (λ_ _=>.inl rfl) hJ hf) λJe Ue h1 h2=>CD (λQ q=>.for_ hit (h2 Q q)) (k Je Ue h1)
theorem JN(cs:List Ch)(hg:∀c∈cs,c.2.1.length<=60)(hl:cs.length<=60)(nd:(cs.map (·.1)).Nodup)(ht:CP cs):FN 2 19 [.d (.list (cs.map Ch.data))] [] (.ref 0) [oT (hts [] cs)]:=by
 refine AH (FN.ends (C:=C0 1) (f:=19) (zs:=[.d (.list (cs.map Ch.data))]) (U:=[]) (R:=λv U'=>v=.ref 0/\U'=[oT (hts [] cs)]) (by unfold Pg;rfl) rfl (AAL _) (by
  refine Hn (AW vc (λp J U=>(∃z2 z3,J=[aj (.d (.list (cs.map Ch.data))),aj (.ref 0),z2,z3])/\[oT (hts [] p)]=U) (EV rfl) ⟨(iEE au au rfl),rfl⟩ ?_ ?_)
  ·rintro p c q J _ e ⟨⟨z2,z3,rfl⟩,rfl⟩;have hc:c∈cs:=by rw[e];simp
   have hget:∀l∈c.2.1,Aq (hts [] p) l=aj ((Aq (hts [] p) l).getD 0):=λl hl=>by obtain⟨v,hv⟩:=AN.mpr (show l∈(hts [] p).map (·.1) by rw[Ck];exact ht p c q e l hl);exact hv▸rfl
   have hcomp:(ev (C0 1).O (.comp (.bin .Add (.sub (.var 1) (.var 3)) (.cst (.int 1))) [3] (.sub (.var 2) (.cst (.int 1))) .nil)).v [aj (.d (.list (cs.map Ch.data))),aj (.ref 0),aj (vc c),z3] [oT (hts [] p)]=aj (.d (.list (c.2.1.map λl=>.int ((Aq (hts [] p) l).getD 0+1)))):=by rw[CF (λt=>.str (Tx t)) (λ_=>true) (λl=>.int ((Aq (hts [] p) l).getD 0+1)) (BS (Ae rfl rfl (Df c)) rfl) (AAC (hg c hc) (by decide)) (λ_ _=>rfl) (λl hl _=>Af (Ae rfl rfl (Cp rfl (by rw[AO PyData.int BO,hget l hl];rfl))) rfl rfl),Bz]
   have hmax:(ev (C0 1).O (.maxd (.comp (.bin .Add (.sub (.var 1) (.var 3)) (.cst (.int 1))) [3] (.sub (.var 2) (.cst (.int 1))) .nil) (.cst (.int 0)))).v [aj (.d (.list (cs.map Ch.data))),aj (.ref 0),aj (vc c),z3] [oT (hts [] p)]=aj (vi (hv (hts [] p) c.2.1)):=by show((ev (C0 1).O (.comp _ _ _ _)).v _ _).bind _=_;rw[hcomp,bs];show(Db CS ((c.2.1.map λl=>PyData.int ((Aq (hts [] p) l).getD 0+1)).map V.d)).bind _=_;rw[show(c.2.1.map λl=>PyData.int ((Aq (hts [] p) l).getD 0+1)).map V.d=(c.2.1.map λl=>(Aq (hts [] p) l).getD 0+1).map vi by rw[AAE,AAE];rfl,KR];rfl
   have hpl:(hts [] p).length<=60:=by have h1:=congrArg List.length (Ck [] p);have h2:=congrArg List.length e;simp at h1 h2;exact jV h2 h1 hl rfl
   refine EH hmax rfl (Ae rfl rfl (Bb c)) rfl (by rw[Bv];exact AAS hpl (by decide)) (Ab (AB _ rfl (iEE _ _ rfl) ?_));rw[Bu PyData.int BO,GT (Dv.mpr ?_),Hl]
   ·rfl
   ·rw[Ck];rw[e,AAQ,ABP,ABW] at nd;exactλq=>nd.2.2 c.1 q c.1 (.head _) rfl
  ·rintro J _ ⟨⟨z2,z3,rfl⟩,rfl⟩;exact AE rfl ⟨rfl,rfl⟩)) λv U' q_2 h=>?_
 obtain⟨k2,k3⟩:=q_2;rw[k2,k3] at h;exact h
noncomputable abbrev Sm:=List Mk×List (Mk×List Nat)×List (Mk×Bool)
noncomputable def stD(nm:List Nat)(k:Nat)(d:Ba)(s:Sm):Sm :=
 if Bh d then(Hh d.mark (nm,(k:Int)) s.1,Ci s.2.1 (nm,(k:Int)) (d.text.getD []),s.2.2)
 else if d.word=Jt then(s.1,Ci s.2.1 (d.mark.getD ([],0)) (d.text.getD []),s.2.2) else(s.1,s.2.1,Ci s.2.2 (d.mark.getD ([],0)) true)
noncomputable def Gz(nm:List Nat):List Ba->Nat->Sm->Sm
 |[],_,s=>s
 |d::ds,k,s=>Gz nm ds (if Bh d then k+1 else k) (stD nm k d s)
noncomputable def stC(s:Sm)(c:Ch):Sm:=Gz c.1 c.2.2 0 s
noncomputable def Aw(O:List Ch):Sm:=O.foldl stC ([],[],[])
theorem Ei(nm:List Nat)(d:Ba):∀(D:List Ba) (k:Nat) (s:Sm),Gz nm (D++[d]) k s=stD nm (k+adds D) d (Gz nm D k s)
 |[],k,s=>rfl
 |e::D,k,s=>by show Gz nm (D++[d]) (if Bh e then k+1 else k) (stD nm k e s)=stD nm (k+((if Bh e then 1 else 0)+adds D)) d (Gz nm D (if Bh e then k+1 else k) (stD nm k e s));rw[Ei nm d D];congr 1;split<;>omega
theorem Wp(nm:List Nat)(k:Nat)(d:Ba)(s:Sm):(stD nm k d s).1=if Bh d then Hh d.mark (nm,(k:Int)) s.1 else s.1:=by
 unfold stD;split
 ·rfl
 ·split<;>rfl
theorem GN(nm:List Nat):∀(ds:List Ba) (k:Nat) (s:Sm),(Gz nm ds k s).1=Fa nm ds k s.1
 |[],_,_=>rfl
 |d::ds,k,s=>by
  show(Gz nm ds _ (stD nm k d s)).1=if Bh d then Fa nm ds (k+1) (Hh d.mark (nm,(k:Int)) s.1) else Fa nm ds k s.1
  rw[GN,Wp];split<;>rfl
theorem IS(O:List Ch)(c:Ch):Aw (O++[c])=stC (Aw O) c:=by unfold Aw;exact List.foldl_append▸rfl
theorem Ej(O:List Ch):(Aw O).1=DU O []:=by
 have key:∀(O:List Ch) (s:Sm),(O.foldl stC s).1=DU O s.1:=by
  intro O
  induction O with
  |nil=>exactλ_=>rfl
  |cons c O ih =>
   intro s;show(O.foldl stC (stC s c)).1=DU O (Fa c.1 c.2.2 0 s.1);rw[ih,show(stC s c).1=Fa c.1 c.2.2 0 s.1 from GN ..]
 exact key O _
theorem Mj{κ β:Type}[DecidableEq κ]{h:List (κ×β)}{k k':κ}{v:β}(e:k'=k\/∃l,Aq h k'=aj l):∃l,Aq (Ci h k v) k'=aj l:=by
 rw[AN,Fq];rcases e with e|e
 ·exact .inl e
 ·exact .inr (AN.mp e)
structure E6(B:Nat)(s:Sm):Prop where
 row:s.1.length<=B
 wd:s.2.1.length<=B
 gn:s.2.2.length<=B
 has:∀m∈s.1,∃l,Aq s.2.1 m=aj l
theorem E6.step(h:E6 B s)(nm:List Nat)(k:Nat)(d:Ba):E6 (B+1) (stD nm k d s):=by
 unfold stD;split
 ·refine⟨?_,AAC (FU _ _ _) (ABS h.wd),AB3 h.gn,λm hm=>?_⟩
  ·exact((Et ..).length_eq)▸AA2▸ABS h.row
  ·rcases AAR.mp ((Et ..).mem_iff.mp hm) with q|q
   ·exact Mj (.inl q)
   ·exact Mj (.inr (h.has m q))
 ·split
  ·exact⟨AB3 h.row,AAC (FU _ _ _) (ABS h.wd),AB3 h.gn,λm hm=>Mj (.inr (h.has m hm))⟩
  ·exact⟨AB3 h.row,AB3 h.wd,AAC (FU _ _ _) (ABS h.gn),h.has⟩
noncomputable abbrev O8(l:List Nat):PyData:=.str (Tx l)
noncomputable abbrev oR(r:List Mk):O:=.list (r.map vm)
noncomputable abbrev oW(wd:List (Mk×List Nat)):O:=.dictP (Bk mk2 O8 wd)
noncomputable abbrev oN(gn:List (Mk×Bool)):O:=.dictP (Bk mk2 PyData.bool gn)
noncomputable abbrev three(s:Sm):Ac:=[oR s.1,oW s.2.1,oN s.2.2]
theorem Mr(hd:Bh d=true):∀(D1:List Ba) (k:Nat) (r:List Mk),GF q nm (D1++d::D2) k r->∀m,d.mark=aj m->m∈Fa nm D1 k r
 |[],k,r,h,m,hm=>by have h:(if Bh d then(∀m,d.mark=aj m->q m=true/\m∈r)/\GF q nm D2 (k+1) (Hh d.mark (nm,(k:Int)) r) else GF q nm D2 k r):=h;rw[if_pos hd] at h;exact(h.1 m hm).2
 |e::D1,k,r,h,m,hm=>by
  have h:(if Bh e then(∀m,e.mark=aj m->q m=true/\m∈r)/\GF q nm (D1++d::D2) (k+1) (Hh e.mark (nm,(k:Int)) r) else GF q nm (D1++d::D2) k r):=h;show m∈if Bh e then Fa nm D1 (k+1) (Hh e.mark (nm,(k:Int)) r) else Fa nm D1 k r
  by_cases he:Bh e=true
  ·rw[if_pos he] at h ⊢;exact Mr hd D1 _ _ h.2 m hm
  ·rw[if_neg he] at h ⊢;exact Mr hd D1 _ _ h m hm
theorem JY(h:De d):(Bh d=true/\d.word=He/\∃l,d.text=aj l)\/(Bh d=false/\d.word=Jt/\∃m l,d.mark=aj m/\d.text=aj l)\/(Bh d=false/\d.word=Ix/\∃m,d.mark=aj m):=by
 rcases h.shp with⟨e,l,e2,_⟩|⟨e,m,l,e2,e3,_⟩|⟨e,m,e2⟩
 ·exact .inl (fQ (AAI e) e l e2)
 ·exact .inr (.inl ⟨AAT (e▸ZZ),e,m,l,e2,e3⟩)
 ·exact .inr (.inr (fQ (AAT (e▸ZY)) e m e2))
theorem Uo(hm:∀k,m=aj k->k∈row):∃a:Nat,a<=row.length/\row.take a++x::row.drop a=Hh m x row/\(m=au->a=0)/\∀k,m=aj k->∃j,a=j+1/\Jy (AF (aj k)) (row.map λm=>AF (aj m))=aj j:=by
 cases m with
 |none=>exact Ii 0 (ABF _) rfl (λ_=>rfl) (λk e=>Aa e)
 |some k =>
  exact AS (Q2 k x row (hm k rfl)) λj j1 j2 j3=>Ii (j+1) j2 j3 (λe=>I9 e) (λk' e=>AAA e▸(iEA j rfl j1))
noncomputable def Yp:S:=match VO.body with|.cons _ (.cons _ (.cons _ (.cons (.for_ _ _ b) _)))=>b|_=>.nil
noncomputable def fA:S:=match Yp with|.cons _ (.cons (.for_ _ _ b) _)=>b|_=>.nil
theorem Y1{O:Orc}{ys:List V}(h1:AT J i=aj (.ref k))(h2:(ev O es).row J U=aj ys)(h3:Mb U (.ref k) ys=aj v):(ev O (.meth .index (.var i) es)).v J U=aj v:=by show((AT J i).bind λx=>((ev O es).row J U).bind λys=>Mb U x ys)=_;exact h1▸bs▸h2▸bs▸h3
theorem O2(hd:De d)(hm:Bh d=true->∀m,d.mark=aj m->m∈s.1)(hs:E6 B s)(hB:B<=10000) :
 Ak C (λfl U'=>∃J',fl=.next J'/\(∃z10,J'=[a0,a1,a2,aj (vc c),aj (.ref 1),aj (.ref 2),aj (.ref 3),aj (vi ((own+(if Bh d then 1 else 0):Nat):Int)),aj (.d d.data),z9,z10,z11])/\U'=o0::three (stD c.1 own d s))
  fA [a0,a1,a2,aj (vc c),aj (.ref 1),aj (.ref 2),aj (.ref 3),aj (vi own),aj (.d d.data),z9,z10,z11] (o0::three s):=by
 obtain⟨row,wd,gn⟩:=s;have hx:∀{J:Al} {U:Ac},AT J 8=aj (.d d.data)->(ev C.O (.sub (.var 8) (.cst (.int 1)))).v J U=aj (.d (AF d.mark)):=λh=>Ae h rfl (Dj d);have hw:∀{J:Al} {U:Ac} {s:String} {k:List Nat},ACC s=Tx k->AT J 8=aj (.d d.data)->C.t (.cmp .Eq (.sub (.var 8) (.cst (.int 0))) (.cst (.str (ACC s)))) J U=aj (decide (d.word=k)):=λe h=>An (Ae h rfl (Di d)) (congrArg (λs=>aj (V.d (.str s))) e) GB;have htup:∀{z10:Option V} {U:Ac},(ev C.O (.tup (.cons (.sub (.var 3) (.cst (.int 0))) (.cons (.var 7) .nil)))).v [a0,a1,a2,aj (vc c),aj (.ref 1),aj (.ref 2),aj (.ref 3),aj (vi own),aj (.d d.data),z9,z10,z11] U=aj (vm (c.1,(own:Int))):=Dk (AY (Ae rfl rfl (Bb c)) rfl) rfl;have hwl:wd.length<line:=AAS (AAC hs.wd hB) (by decide);have hgl:gn.length<line:=AAS (AAC hs.gn hB) (by decide);have hrl:row.length<line:=AAS (AAC hs.row hB) (by decide);rcases JY hd with⟨ia,e1,l,e2⟩|⟨ia,e1,m,l,e2,e3⟩|⟨ia,e1,m,e2⟩
 ·refine JB (hw EU rfl) (AAI e1) (Ax rfl ?_);obtain⟨a,h1,h2,h3,h4⟩:=Uo (hm ia);refine CG (M:=λJ U'=>J=[a0,a1,a2,aj (vc c),aj (.ref 1),aj (.ref 2),aj (.ref 3),aj (vi own),aj (.d d.data),z9,aj (vi (a:Int)),z11]/\U'=o0::three (row,wd,gn)) ?_ ?_
  ·refine AG (An (hx rfl) rfl (Hf d.mark)) (λe=>?_) λe=>?_
   ·cases em:d.mark with
    |none=>rw[em] at e;cases e
    |some k =>
     refine oEA (h4 k em) λj j1 j2=>Ax ((Af (Y1 rfl (Az ((hx rfl).trans (by rw[em]))) (Q1 rfl j2)) rfl rfl).trans (j1▸rfl)) (Ab (Ab (AB _ rfl rfl rfl)))
   ·have em:d.mark=au:=by
     cases em:d.mark with
     |none=>rfl
     |some k=>rw[em] at e;cases e
    exact(h3 em)▸Ab (Ab (AB _ rfl rfl rfl))
  rintro _ _ ⟨rfl,rfl⟩;refine KU rfl (AY rfl htup) rfl (lmt hrl) (AB6 _) (by rw[AAB];exact h1) (EI (w:=mk2 (c.1,(own:Int))) (Ae rfl rfl (Fk d e2)) rfl htup rfl (by rw[Bv];exact hwl) ?_);refine Ax rfl (Ab (Ab (AB _ rfl ⟨_,by rw[if_pos ia];rfl⟩ ?_)));unfold stD;rw[if_pos ia,Bu O8 DD,e2];rw[Int.toNat_natCast,<-List.map_take,<-List.map_drop,<-ABP,<-AAQ,h2];rfl
 ·refine AG (hw EU rfl) (λe=>absurd (AAG e) (e1▸ZZ)) λ_=>JB (hw Ih rfl) (AAI e1) (EI (w:=mk2 m) (Ae rfl rfl (Fk d e3)) rfl ((hx rfl).trans (e2▸rfl)) rfl (by rw[Bv];exact hwl) (Ab (Ab (Ab (AB _ rfl ⟨_,by rw[ia];rfl⟩ ?_)))));unfold stD;rw[if_neg (by rw[ia];decide),if_pos e1,Bu O8 DD,e2,e3];rfl
 ·refine AG (hw EU rfl) (λe=>absurd (AAG e) (e1▸ZY)) λ_=>AG (hw Ih rfl) (λe=>absurd (AAG e) (e1▸WT)) λ_=>EI (w:=mk2 m) rfl rfl ((hx rfl).trans (e2▸rfl)) rfl (by rw[Bv];exact hgl) (Ab (Ab (Ab (AB _ rfl ⟨_,by rw[ia];rfl⟩ ?_))));unfold stD;rw[if_neg (by rw[ia];decide),if_neg (e1▸WT),Bu PyData.bool DD,e2];rfl
theorem FO{α β γ:Type}{R:β->γ->Prop}{f:α->β}{g:α->γ}:∀{l:List α},(∀a∈l,R (f a) (g a))->Ay R (l.map f) (l.map g)
 |[],_=>trivial
 |_::_,h=>⟨h _ (.head _),FO λb hb=>h b (.tail _ hb)⟩
theorem Fe{α β γ:Type}(f:α->β)(g:α->γ):∀l:List α,(l.map f).zip (l.map g)=l.map λa=>(f a,g a)
 |[]=>rfl
 |a::l=>congrArg ((f a,g a)::·) (Fe f g l)
theorem Vj(h:Ch.data a=Ch.data b):a.1=b.1:=by
 unfold Ch.data at h;injection h with h
 injection h with h
 injection h with h
 exact FQ h
theorem JZ{cs:List Ch}(nd:(cs.map (·.1)).Nodup):(cs.map Ch.data).Nodup:=by rw[List.Nodup,ACQ] at nd ⊢;exact nd.imp λh e=>h (Vj e)
theorem Rv(cs:List Ch):Dg true By ((cs.map λc=>Tx c.1).zip (cs.map Ch.data))=(A9 cs).map Ch.data:=by rw[Fe];show(AJ By (cs.map λc=>(Tx c.1,Ch.data c)).reverse).reverse.map (·.2)=(((AJ ltN (cs.map λc=>(c.1,c)).reverse).reverse).map (·.2)).map Ch.data;rw[show(cs.map λc=>(Tx c.1,Ch.data c)).reverse=((cs.map λc=>(c.1,c)).reverse).map λp=>(Tx p.1,Ch.data p.2) by rw[<-ACR,<-ACR,AAE];rfl,DS (lt:=ltN) (λp=>(Tx p.1,Ch.data p.2)) (λp q=>Ol ..),<-ACR,AAE,AAE];rfl
theorem SF(cs:List Ch):Dg false RU.lt (((A9 cs).map λc=>hgt cs c.1).zip ((A9 cs).map Ch.data))=(Am cs).map Ch.data:=by rw[Fe];show(AJ ltI ((A9 cs).map λc=>(hgt cs c.1,Ch.data c))).map (·.2)=((AJ ltI ((A9 cs).map λc=>(hgt cs c.1,c))).map (·.2)).map Ch.data;rw[show((A9 cs).map λc=>(hgt cs c.1,Ch.data c))=((A9 cs).map λc=>(hgt cs c.1,c)).map λp=>(p.1,Ch.data p.2) by rw[AAE];rfl,DS (λp:Int×Ch=>(p.1,Ch.data p.2)) (λp q=>rfl),AAE,AAE];rfl
theorem Mi(h:n∈cs.map (·.1)):Aq (hts [] cs) n=aj (hgt cs n):=by refine oE (AN.mpr (show n∈(hts [] cs).map (·.1) by rw[Ck];exact h)) λv hv=>?_;unfold hgt;exact hv▸rfl
noncomputable abbrev Pr:=Mk×List Nat
noncomputable def prD(x:Pr):PyData:=.tuple [AF (aj x.1),.str (Tx x.2)]
noncomputable def Bm(s:Sm):List Pr:=(s.1.filter λm=>(Aq s.2.2 m).isNone).map λm=>(m,(Aq s.2.1 m).getD [])
theorem E6.foldl(nm:List Nat):∀(ds:List Ba) {B:Nat},E6 B s->E6 (B+ds.length) (Gz nm ds 0 s):=by
 have key:∀(ds:List Ba) (k B:Nat) (s:Sm),E6 B s->E6 (B+ds.length) (Gz nm ds k s):=by
  intro ds
  induction ds with
  |nil=>exactλ_ _ _ h=>h
  |cons d ds ih =>
   intro k B s h;have:=ih (if Bh d then k+1 else k) (B+1) _ (h.step nm k d);rw[ADG,AC5 1] at this;exact this
 exactλds {B} h=>key ds 0 B s h
theorem Fh:(Bm s).length<=s.1.length:=by unfold Bm;exact lml (AAX _ _)
theorem Qe{C:Cfg}{J:Al}{s:Sm}(hs:E6 B s)(hB:B<=10000)(h1:AT J iv=aj (.ref k))(hr:U[k]? = aj (oR s.1))
 (hin:∀m,C.t (.cmp .NotIn (.var t) (.var ig)) ((J.set t au).set t (aj (vm m))) U=aj (Aq s.2.2 m).isNone)
 (hel:∀m l,Aq s.2.1 m=aj l->C.v (.tup (.cons (.var t) (.cons (.sub (.var iw) (.var t)) .nil))) ((J.set t au).set t (aj (vm m))) U=aj (.d (prD (m,l)))) :
 C.nl (.comp (.tup (.cons (.var t) (.cons (.sub (.var iw) (.var t)) .nil))) [t] (.var iv) (.cons (.cmp .NotIn (.var t) (.var ig)) .nil)) J U=aj ((Bm s).map λx=>.d (prD x)):=by
 have hit:(ev C.O (.var iv)).it J U=aj (s.1.map vm,[(k,s.1.map vm)]):=by show(AT J iv).bind (DI U)=_;rw[h1];show(DE U[k]?).bind _=_;exact hr▸rfl
 rw[show C.nl _ _ _=_ from Dh vm (λm=>(Aq s.2.2 m).isNone) (λm=>.d (prD (m,(Aq s.2.1 m).getD []))) hit (AAC (AAC hs.row hB) (by decide)) (λm _=>FG (hin m)) (λm hm _=>?_)]
 ·unfold Bm;rw[AAE];rfl
 ·exact oE (hs.has m hm) λl hl=>hl▸hel m l hl
theorem T9(hk:U[k]? = aj (oN gn)):BU .NotIn (vm m) (.ref k) U=aj (Aq gn m).isNone:=by rw[Lk,fN hk,AO PyData.bool DD];cases Aq gn m<;>rfl
theorem S4(hg:GenCh c)(hf:GF (λ_=>true) c.1 c.2.2 0 s.1)(hs:E6 B s)(hB:B<=9900) :
 Ak C (λfl U'=>∃J',fl=.next J'/\(∃z7 z8 z10,J'=[a0,a1,a2,aj (vc c),aj (.ref 1),aj (.ref 2),aj (.ref 3),z7,z8,z9,z10,z11])/\U'=o0::three (stC s c)) Yp [a0,a1,a2,aj (vc c),aj (.ref 1),aj (.ref 2),aj (.ref 3),z7,z8,z9,z10,z11] (o0::three s):=by
 refine Ax rfl (AW (l:=c.2.2) (λd=>.d d.data) (λp J U=>E6 (B+p.length) (Gz c.1 p 0 s)/\(∃z8 z10,J=[a0,a1,a2,aj (vc c),aj (.ref 1),aj (.ref 2),aj (.ref 3),aj (vi (adds p)),z8,z9,z10,z11])/\U=o0::three (Gz c.1 p 0 s)) (BS (Ae rfl rfl (CQ c)) rfl) ⟨hs,(iEE _ _ rfl),rfl⟩ ?_ ?_)
 ·rintro p d q J U e ⟨h1,⟨z8,z10,rfl⟩,rfl⟩;have hpl:=by have h:=congrArg List.length e;have:=hg.deeds;rw[AAF,AA2] at h;exact FL h this
  refine(O2 (hg.ok d (by rw[e];simp)) (λia m hm=>?_) h1 (YX hB hpl rfl)).mono λfl U' h=>?_
  ·rw[GN];exact Mr ia p 0 s.1 (e▸hf) m hm
  ·refine AS h λJ' e1 q_2 e3=>?_;obtain⟨z10,e2⟩:=q_2;refine(Ii J' e1 ?_ (iEE _ z10 (by rw[e2,Dy])) ?_)
   ·rw[Ei,AAF];exact h1.step _ _ _
   ·rw[e3,Ei,ACY]
 ·rintro J U ⟨h1,⟨z8,z10,rfl⟩,rfl⟩;exact Ab (AB _ rfl (Fb _ _ _ rfl) rfl)
theorem QE(H:BJ cs)(e:Am cs=A++c::B):GF (λ_=>true) c.1 c.2.2 0 (DU A []):=Qb H (BW H.nd) e (λ_ _=>rfl) (λ_=>rfl)
theorem Ef(hg:∀c∈A,GenCh c):E6 (20*A.length) (Aw A):=by
 have key:∀(A:List Ch) (B:Nat) (s:Sm),(∀c∈A,GenCh c)->E6 B s->E6 (B+20*A.length) (A.foldl stC s):=by
  intro A
  induction A with
  |nil=>exactλ_ _ _ h=>h
  |cons c A ih =>
   intro B s hg h;have h1:=E6.foldl c.1 c.2.2 h;have hd:=(hg c (.head _)).deeds;have h2:E6 (B+20) (stC s c):=⟨AAC h1.row (V9 hd),AAC h1.wd (V9 hd),AAC h1.gn (V9 hd),h1.has⟩
   have:=ih (B+20) _ (λx hx=>hg x (.tail _ hx)) h2;rw[AA2,Nat.mul_add,Nat.mul_one,AC5 (20*A.length),<-ADG];exact this
 have:=key A 0 ([],[],[]) hg ⟨AAL _,AAL _,AAL _,λm h=>nomatch h⟩;rw[ACY] at this;exact this
section
variable{cs:List Ch}
theorem R1(hl:cs.length<=60)(nd:(cs.map (·.1)).Nodup)(ha:SE (n+3+1) a J U (.d (.list (cs.map Ch.data))) U)(hi:i<J.length):SE (n+3+1) (.sortk true a i (.sub (.var i) (.cst (.int 0)))) J U (.d (.list ((A9 cs).map Ch.data))) U:=by rw[<-Rv];refine SE.frz (SL.sortk (K:=oJ) ha rfl (JZ nd) (lmt (AAS ‹_› (ACD rfl))) ?_);rw[AAE];refine FO λc hc=>(Ad (C0 n).ok _).v (Ae ?_ rfl (Bb c));show AT (J.set i (aj (vc c))) i=_;unfold AT;rw[AB1 hi]
theorem SV(hl:cs.length<=60)(nd:(cs.map (·.1)).Nodup)(ha:SE (n+3+1) a J U (.d (.list ((A9 cs).map Ch.data))) U)(hi:i<J.length)(hj:AT J j=aj (.ref k))(hij:j≠i)(hk:U[k]? = aj (oT (hts [] cs))) :
 SE (n+3+1) (.sortk false a i (.sub (.var j) (.sub (.var i) (.cst (.int 0))))) J U (.d (.list ((Am cs).map Ch.data))) U:=by
 have hp:=CM cs;have hk':Ay (λw b=>SE (n+3) (.sub (.var j) (.sub (.var i) (.cst (.int 0)))) (J.set i (aj w)) U (RU.kv b) U) (((A9 cs).map Ch.data).map .d) ((A9 cs).map λc=>hgt cs c.1):=by
  rw[AAE];refine FO λc hc=>(Ad (C0 n).ok _).v (Ae ?_ (Ae ?_ rfl (Bb c)) (Cp hk ?_))
  ·show AT (J.set i (aj (vc c))) j=_;unfold AT at hj ⊢;rw[ADJ (Ne.symm hij)];exact hj
  ·show AT (J.set i (aj (vc c))) i=_;unfold AT;rw[AB1 hi]
  ·rw[AO PyData.int BO,Mi (AAZ (hp.mem_iff.mp hc))];rfl
 exact SE.frz ((congrArg (λl:List PyData=>SL (n+3+1) (.sortk false a i (.sub (.var j) (.sub (.var i) (.cst (.int 0))))) J U (l.map V.d) U) (SF cs)).mp (SL.sortk (rev:=false) ha rfl (JZ ((hp.map _).nodup_iff.mpr nd)) (by rw[AAB,hp.length_eq];exact AAS ‹_› (ACD rfl)) hk'))
end
noncomputable abbrev rowD'(s:Sm):PyData:=dms s.1
noncomputable abbrev ER(s:Sm):PyData:=.list ((Bm s).map prD)
theorem bN(h:SE (C.n+3) (.tup es) J U v af)(hv:C6 v=aj ws)(hl:ws.length=xs.length)(k:Ak C P r (Fp J xs ws) af):Ak C P (.cons (.swp xs es) r) J U :=
 CD (λQ q=>.swp (ACG 3 _) h hv hl q) k
theorem JK(H:BJ cs)(hg:∀c∈cs,GenCh c)(hl:cs.length<=60):∀U,FN 4 20 [.d (.list (cs.map Ch.data))] U (.d (.tuple [rowD' (Aw (Am cs)),ER (Aw (Am cs))])) U:=by
 have hO:=BW H.nd;have hgo:=λc hc=>hg c (hO.perm.mem_iff.mp hc);refine AH (FN.ends (f:=20) (zs:=[.d (.list (cs.map Ch.data))]) (R:=λv U'=>v=.tup [.inr 1,.inl (ER (Aw (Am cs)))]/\U'=oT (hts [] cs)::three (Aw (Am cs))) (by unfold Pg;rfl) rfl (show 1<=3 by decide) (by
  refine AD rfl (.fcall ((Ad (C0 3).ok _).row rfl) ((JN cs (λc hc=>(hg c hc).few) hl H.nd H.topo).more (by decide))) (AD rfl (R1 hl H.nd ((Ad (C0 3).ok (.var 0)).v rfl) (show 3<12 by decide)) ?_);refine bN (v:=.tup [.inr 1,.inr 2,.inr 3]) (.tupR (.cons (SE.trk (.lst .nil (ABF _))) (.cons .dctP (.cons .dctP .nil))) (by decide)) rfl rfl ?_;let K:Option V->Option V->Option V->Option V->Al:=λz3 z7 z8 z10=>[aj (.d (.list (cs.map Ch.data))),aj (.ref 0),aj (.d (.list ((A9 cs).map Ch.data))),z3,aj (.ref 1),aj (.ref 2),aj (.ref 3),z7,z8,au,z10,au]
  refine EJ vc (λp J U=>(∃z3 z7 z8 z10,J=K z3 z7 z8 z10)/\U=oT (hts [] cs)::three (Aw p)) (SI.lst (SV hl H.nd ((Ad (C0 3).ok (.var 2)).v rfl) (show 9<12 by decide) rfl (by decide) rfl) mm2) ⟨(KT au au au au rfl),rfl⟩ ?_ ?_
  ·rintro p c q J U e ⟨⟨z3,z7,z8,z10,rfl⟩,rfl⟩;have hpl:=by have h1:=congrArg List.length e;rw[hO.perm.length_eq,AAF,AA2] at h1;exact FL h1 hl
   refine(S4 (hgo c (by rw[e];simp)) (by rw[Ej];exact QE H e) (Ef λx hx=>hgo x (e▸AAU _ hx)) (YW hpl rfl)).mono λfl U' h=>?_;obtain⟨J',e1,⟨z7,z8,z10,e2⟩,e3⟩:=h;exact AB J' e1 (KT _ z7 z8 z10 e2) (by rw[e3,IS])
  ·rintro J U ⟨⟨z3,z7,z8,z10,rfl⟩,rfl⟩;have hol:(Am cs).length<=60:=by rw[hO.perm.length_eq];exact hl
   refine AE (Dk (AY rfl (G5 ((Qe (C:=C0 3) (J:=K z3 z7 z8 z10) (U:=oT (hts [] cs)::three (Aw (Am cs))) (iv:=4) (iw:=5) (ig:=6) (t:=11) (Ef hgo) (Im hol rfl) rfl rfl (λm=>An rfl rfl (T9 rfl)) (λm l hl=>Dk (AY rfl (Ae rfl rfl (SD rfl (by rw[AO O8 DD,hl];rfl)))) rfl)).trans (AAE▸rfl)))) rfl) ⟨rfl,rfl⟩)) λv U' q_2 h=>?_
 obtain⟨k2,k3⟩:=q_2;rw[k2,k3] at h;refineλU=>(FA.seal (d:=.tuple [rowD' (Aw (Am cs)),ER (Aw (Am cs))]) h ⟨_,rfl,⟨⟨_,rfl,ABF _,?_⟩,rfl,trivial⟩⟩).any (ae (CC _ _) AC);rw[AAE];rfl
noncomputable abbrev nms(F:List Ch):List (List Nat):=F.map (·.1)
theorem Ry(cs:List Ch):Dg false RU.lt (((A9 cs).map λc=>hgt cs c.1).zip ((A9 cs).map λc=>PyData.str (Tx c.1)))=(Am cs).map λc=>PyData.str (Tx c.1):=by rw[Fe];show(AJ ltI ((A9 cs).map λc=>(hgt cs c.1,PyData.str (Tx c.1)))).map (·.2)=((AJ ltI ((A9 cs).map λc=>(hgt cs c.1,c))).map (·.2)).map λc=>PyData.str (Tx c.1);rw[show((A9 cs).map λc=>(hgt cs c.1,PyData.str (Tx c.1)))=((A9 cs).map λc=>(hgt cs c.1,c)).map λp=>(p.1,PyData.str (Tx p.2.1)) by rw[AAE];rfl,DS (λp:Int×Ch=>(p.1,PyData.str (Tx p.2.1))) (λp q=>rfl),AAE,AAE];rfl
theorem KE{cs:List Ch}(nd:(cs.map (·.1)).Nodup):(cs.map λc=>PyData.str (Tx c.1)).Nodup:=by rw[List.Nodup,ACQ] at nd ⊢;exact nd.imp λh e=>h (by injection e with e;exact FQ e)
theorem Pd(hl:F.length<=60)(nd:(F.map (·.1)).Nodup)(hk:U[2]? = aj (oT (hts [] F))):FN 3 8 [.d (dl (nms F)),.ref 2] U (.d (dl (nms (Am F)))) U:=by
 have hp:=CM F;refine AH (FN.ends (C:=C0 2) (f:=8) (zs:=[.d (dl (nms F)),.ref 2]) (R:=λv U'=>v=.d (dl (nms (Am F)))/\U'=U) (by unfold Pg;rfl) rfl (by decide) (by
  have e1:vss ((A9 F).map λc=>Tx c.1)=((A9 F).map λc=>PyData.str (Tx c.1)).map V.d:=by show((A9 F).map λc=>Tx c.1).map _=_;rw[AAE,AAE];rfl
  have hs1:SL 5 (.sortr (.var 0)) [aj (.d (dl (nms F))),aj (.ref 2),au,au] U (vss ((A9 F).map λc=>Tx c.1)) U:=by
   refine SL.sortr ((Ad (C0 2).ok (.var 0)).v rfl) ?_ (lmt (AAS ‹_› (ACD rfl))) (hp.map _) ?_
   ·show aj ((((F.map (·.1)).map λt=>PyData.str (Tx t))).map V.d)=aj ((F.map λc=>Tx c.1).map _);rw[AAE,AAE,AAE];rfl
   ·show(((A9 F).map λc=>Tx c.1).reverse).Pairwise λa b=>By b a=false;rw[List.pairwise_reverse,ACQ];exact(EP nd).imp λ{a b} h=>by rw[Ol];exact AAT λq=>List.lt_irrefl _ (List.lt_trans q h)
  rw[e1] at hs1;refine AD rfl (SE.frz hs1) ?_;have hk':Ay (λw b=>SE 4 (.sub (.var 1) (.var 3)) (([aj (.d (dl (nms F))),aj (.ref 2),aj (.d (.list ((A9 F).map λc=>PyData.str (Tx c.1)))),au]:Al).set 3 (aj w)) U (RU.kv b) U) (((A9 F).map λc=>PyData.str (Tx c.1)).map .d) ((A9 F).map λc=>hgt F c.1):=by rw[AAE];refine FO λc hc=>(Ad (C0 1).ok _).v (Ae rfl rfl (Cp hk ?_));rw[AO PyData.int BO,Mi (AAZ (hp.mem_iff.mp hc))];rfl
  have h:=SL.sortk (rev:=false) ((Ad (C0 2).ok (.var 2)).v rfl) rfl (KE ((hp.map _).nodup_iff.mpr nd)) (by rw[AAB,hp.length_eq];exact AAS ‹_› (ACD rfl)) hk';refine Du (SE.frz ((congrArg (λl:List PyData=>SL 5 (.sortk false (.var 2) 3 (.sub (.var 1) (.var 3))) _ U (l.map V.d) U) (Ry F)).mp h) |> λq=>?_) ⟨rfl,rfl⟩;show SE 5 _ _ _ (.d (.list ((nms (Am F)).map λt=>.str (Tx t)))) _;rw[AAE];exact q)) λv U' q_2 h=>?_
 obtain⟨h1,h2⟩:=q_2;rw[h1,h2] at h;exact h
noncomputable def Yx:S:=match H8.body with|.cons _ (.cons _ (.cons _ (.cons (.for_ _ _ b) _)))=>b|_=>.nil
noncomputable def fX:S:=match Yx with|.cons _ (.cons (.for_ _ _ b) _)=>b|_=>.nil
section
variable{C:Cfg}{F:List Ch}{gs:List (List Nat×List (List Nat))}{hs:Gsl}{z7 z8:Option V}{c:Ch}{d:Ba}{s:Sm}
noncomputable abbrev gK(c:Ch)(z5 z6 z7 z8:Option V):Al:=[aj self,aj (.ref 3),aj (.ref 4),aj (.ref 5),aj (vs c.1),z5,z6,z7,z8]
theorem O3(hd:De d)(hm:Bh d=true->∀m,d.mark=aj m->m∈s.1)(hs':E6 B s)(hB:B<=10000) :
 Ak C (λfl U'=>∃J',fl=.next J'/\(∃z7 z8,J'=gK c (aj (vi ((own+(if Bh d then 1 else 0):Nat):Int))) (aj (.d d.data)) z7 z8)/\U'=W F gs hs++three (stD c.1 own d s))
  fX (gK c (aj (vi own)) (aj (.d d.data)) z7 z8) (W F gs hs++three s):=by
 obtain⟨row,wd,gn⟩:=s;have hx:∀{J:Al} {U:Ac},AT J 6=aj (.d d.data)->(ev C.O (.sub (.var 6) (.cst (.int 1)))).v J U=aj (.d (AF d.mark)):=λh=>Ae h rfl (Dj d);have hw:∀{J:Al} {U:Ac} {s:String} {k:List Nat},ACC s=Tx k->AT J 6=aj (.d d.data)->C.t (.cmp .Eq (.sub (.var 6) (.cst (.int 0))) (.cst (.str (ACC s)))) J U=aj (decide (d.word=k)):=λe h=>An (Ae h rfl (Di d)) (congrArg (λs=>aj (V.d (.str s))) e) GB;have hwl:wd.length<line:=AAS (AAC hs'.wd hB) (by decide);have hgl:gn.length<line:=AAS (AAC hs'.gn hB) (by decide);have hrl:row.length<line:=AAS (AAC hs'.row hB) (by decide);rcases JY hd with⟨ia,e1,l,e2⟩|⟨ia,e1,m,l,e2,e3⟩|⟨ia,e1,m,e2⟩
 ·refine JB (hw EU rfl) (AAI e1) (Ax (Dk (AY rfl rfl) rfl) ?_);refine Ax rfl (Ax rfl ?_);obtain⟨a,h1,h2,h3,h4⟩:=Uo (hm ia);refine CG (M:=λJ U'=>J=gK c (aj (vi ((own:Int)+1))) (aj (.d d.data)) (aj (vm (c.1,(own:Int)))) (aj (vi (a:Int)))/\U'=W F gs hs++three (row,wd,gn)) ?_ ?_
  ·refine AG (An (hx rfl) rfl (Hf d.mark)) (λe=>?_) λe=>?_
   ·cases em:d.mark with
    |none=>rw[em] at e;cases e
    |some k =>
     exact oEA (h4 k em) λj j1 j2=>Ax ((Af (Y1 rfl (Az ((hx rfl).trans (by rw[em]))) (Q1 rfl j2)) rfl rfl).trans (j1▸rfl)) (Ab (Ab (AB _ rfl rfl rfl)))
   ·have em:d.mark=au:=by
     cases em:d.mark with
     |none=>rfl
     |some k=>rw[em] at e;cases e
    exact(h3 em)▸Ab (Ab (AB _ rfl rfl rfl))
  rintro _ _ ⟨rfl,rfl⟩;refine KU rfl (AY rfl rfl) rfl (lmt hrl) (AB6 _) (by rw[AAB];exact h1) (EI (w:=mk2 (c.1,(own:Int))) (Ae rfl rfl (Fk d e2)) rfl rfl rfl (by rw[Bv];exact hwl) (Ab (Ab (AB _ rfl (iEE _ _ (by rw[if_pos ia];rfl)) ?_))));unfold stD;rw[if_pos ia,Bu O8 DD,e2];rw[Int.toNat_natCast,<-List.map_take,<-List.map_drop,<-ABP,<-AAQ,h2];rfl
 ·refine AG (hw EU rfl) (λe=>absurd (AAG e) (e1▸ZZ)) λ_=>JB (hw Ih rfl) (AAI e1) (EI (w:=mk2 m) (Ae rfl rfl (Fk d e3)) rfl ((hx rfl).trans (e2▸rfl)) rfl (by rw[Bv];exact hwl) (Ab (Ab (Ab (AB _ rfl (iEE _ _ (by rw[ia];rfl)) ?_)))));unfold stD;rw[if_neg (by rw[ia];decide),if_pos e1,Bu O8 DD,e2,e3];rfl
 ·refine AG (hw EU rfl) (λe=>absurd (AAG e) (e1▸ZY)) λ_=>AG (hw Ih rfl) (λe=>absurd (AAG e) (e1▸WT)) λ_=>EI (w:=mk2 m) rfl rfl ((hx rfl).trans (e2▸rfl)) rfl (by rw[Bv];exact hgl) (Ab (Ab (Ab (AB _ rfl (iEE _ _ (by rw[ia];rfl)) ?_))));unfold stD;rw[if_neg (by rw[ia];decide),if_neg (e1▸WT),Bu PyData.bool DD,e2];rfl
end
structure Wov(cs F:List Ch)(gs:List (List Nat×List (List Nat))):Prop where
 H:BJ cs
 gen:∀c∈cs,GenCh c
 len:cs.length<=60
 perm:F.Perm cs
 w:GC F gs
theorem Wov.ord{cs F:List Ch}{gs:List (List Nat×List (List Nat))}(h:Wov cs F gs):Am F=Am cs:=Tz h.H.nd h.perm h.H.topo h.w.topo
theorem OQ(hk:U[k]? = aj (oH F))(hl:∀n∈nms F,n.length<=12)(h:F.length<=60):Cl .list U [.ref k]=aj (.d (dl (nms F))):=by
 show(Qp U[k]?).bind mkL=_;rw[hk];show((if (Bk Tx Ch.data (hK F)).all (λp=>decide (p.1.length<=line))=true then aj (vss ((Bk Tx Ch.data (hK F)).map (·.1))) else au).bind mkL)=_;rw[if_pos,bs]
 ·have e:vss ((Bk Tx Ch.data (hK F)).map (·.1))=((nms F).map λt=>PyData.str (Tx t)).map V.d:=by show((Bk Tx Ch.data (hK F)).map (·.1)).map _=_;unfold Bk;rw[AAE,AAE,AAE,AAE,AAE];rfl
  exact e▸HL _ (lml (lml (AAC h (by decide))))
 ·rw[ACH];intro p hp;refine oEA (AAP.mp hp) λq hq q_2=>?_;subst q_2;refine oEA (AAP.mp hq) λc hc q_2=>?_;subst q_2;refine AAI ?_;rw[GD];exact AAC (hl c.1 (AAZ hc)) (by decide)
section
variable{F:List Ch}{gs:List (List Nat×List (List Nat))}{hs:Gsl}{z5 z6 z7 z8:Option V}{c:Ch}{s:Sm}
theorem S5(nd:(F.map (·.1)).Nodup)(hc:c∈F)(hg:GenCh c)(hf:GF (λ_=>true) c.1 c.2.2 0 s.1)(hs':E6 B s)(hB:B<=9900) :
 Ak C (λfl U'=>∃J',fl=.next J'/\(∃z5 z6 z7 z8,J'=gK c z5 z6 z7 z8)/\U'=W F gs hs++three (stC s c)) Yx (gK c z5 z6 z7 z8) (W F gs hs++three s):=by
 refine Ax rfl (AW (l:=c.2.2) (λd=>.d d.data) (λp J U=>E6 (B+p.length) (Gz c.1 p 0 s)/\(∃z6 z7 z8,J=gK c (aj (vi (adds p))) z6 z7 z8)/\U=W F gs hs++three (Gz c.1 p 0 s)) (BS (Ae (Ae (Dm rfl) rfl (Cp rfl (by rw[AO Ch.data BO,N7 nd hc];rfl))) rfl (CQ c)) rfl) ⟨hs',(Fb _ _ _ rfl),rfl⟩ ?_ ?_)
 ·rintro p d q J U e ⟨h1,⟨z6,z7,z8,rfl⟩,rfl⟩;have hpl:=by have h:=congrArg List.length e;have:=hg.deeds;rw[AAF,AA2] at h;exact FL h this
  refine(O3 (hg.ok d (by rw[e];simp)) (λia m hm=>?_) h1 (YX hB hpl rfl)).mono λfl U' h=>?_
  ·rw[GN];exact Mr ia p 0 s.1 (e▸hf) m hm
  ·refine AS h λJ' e1 q_2 e3=>?_;obtain⟨z7,z8,e2⟩:=q_2;refine(Ii J' e1 ?_ (Fb _ z7 z8 (by rw[e2,Dy])) ?_)
   ·rw[Ei,AAF];exact h1.step _ _ _
   ·rw[e3,Ei,ACY]
 ·rintro J U ⟨h1,⟨z6,z7,z8,rfl⟩,rfl⟩;exact Ab (AB _ rfl (KT _ _ _ _ rfl) rfl)
end
theorem ND{cs F:List Ch}{gs:List (List Nat×List (List Nat))}(h:Wov cs F gs):FN 4 45 [self] (W F gs (hts [] F)) (.tup [.inr 3,.inr 4,.inr 5]) (W F gs (hts [] F)++three (Aw (Am cs))):=by
 have hO:=BW h.H.nd;have hgo:=λc hc=>h.gen c (hO.perm.mem_iff.mp hc);have hnm:∀n∈nms F,n.length<=12:=λn hn=>by refine oEA (AAP.mp hn) λx hx q_2=>?_;subst q_2;exact((Cj _).mp (h.w.gen x hx).name).2.1
 refine AH (FN.ends (C:=C0 3) (f:=45) (zs:=[self]) (U:=W F gs (hts [] F)) (R:=λv U'=>v=.tup [.inr 3,.inr 4,.inr 5]/\U'=W F gs (hts [] F)++three (Aw (Am cs))) (by unfold Pg;rfl) rfl (by decide) (by
  refine Bx rfl (Mn ?_);refine Mn ?_;let K:Option V->Option V->Option V->Option V->Option V->Al:=λz4 z5 z6 z7 z8=>[aj self,aj (.ref 3),aj (.ref 4),aj (.ref 5),z4,z5,z6,z7,z8]
  refine EJ (λc=>vs c.1) (λp J U=>(∃z4 z5 z6 z7 z8,J=K z4 z5 z6 z7 z8)/\U=W F gs (hts [] F)++three (Aw p)) (SI.lst (.fcall ((Ad (C0 3).ok _).row (AY (AU (Az (Dm rfl)) (OQ rfl hnm h.w.len)) (Ez rfl))) (Pd h.w.len h.w.nd rfl)) (by rw[h.ord];show aj (((nms (Am cs)).map λt=>PyData.str (Tx t)).map V.d)=_;rw[AAE,AAE];rfl)) ⟨(Me _ _ _ _ _ rfl),rfl⟩ ?_ ?_
  ·rintro p c q J U e ⟨⟨z4,z5,z6,z7,z8,rfl⟩,rfl⟩;have hpl:=by have h1:=congrArg List.length e;have:=h.len;rw[hO.perm.length_eq,AAF,AA2] at h1;exact FL h1 this
   have hc:c∈Am cs:=by rw[e];simp
   refine(S5 h.w.nd (h.perm.mem_iff.mpr (hO.perm.mem_iff.mp hc)) (hgo c hc) (by rw[Ej];exact QE h.H e) (Ef λx hx=>hgo x (e▸AAU _ hx)) (YW hpl rfl)).mono λfl U' h=>?_;obtain⟨J',e1,⟨z5,z6,z7,z8,e2⟩,e3⟩:=h;exact AB J' e1 (Me _ z5 z6 z7 z8 e2) (by rw[e3,IS])
  ·rintro J U ⟨⟨z4,z5,z6,z7,z8,rfl⟩,rfl⟩;exact AE rfl ⟨rfl,rfl⟩)) λv U' q_2 hf=>?_
 obtain⟨k2,k3⟩:=q_2;rw[k2,k3] at hf;exact hf
theorem Jv{a b:List (List Nat)}(h:a.Perm b)(nd:a.Nodup):Av a=Av b:=CJ (λx y p q=>List.lt_irrefl _ (List.lt_trans p q)) (BY a nd) (BY b (h.nodup_iff.mp nd)) ((Ah a).trans (h.trans (Ah b).symm))
section
variable{cs F:List Ch}{gs:List (List Nat×List (List Nat))}
theorem UI(h:Wov cs F gs):FN 5 46 [self] (W F gs (hts [] F)) (.ref 3) (W F gs (hts [] F)++three (Aw (Am cs))):=by
 refine AH (FN.ends (f:=46) (zs:=[self]) (R:=λv U'=>v=.ref 3/\U'=W F gs (hts [] F)++three (Aw (Am cs))) (by unfold Pg;rfl) rfl (show 1<=4 by decide) (by exact Du (.sub (.mcall Ai (by unfold mtP;kernel_rfl) ((Ad (C0 4).ok (.var 0)).v rfl) .nil (ND h)) ((Ad (C0 4).ok (.cst (.int 0))).v rfl) (FT rfl)) ⟨rfl,rfl⟩)) λv U' q_2 hf=>?_
 obtain⟨k2,k3⟩:=q_2;rw[k2,k3] at hf;exact hf
theorem fn_row'(h:Wov cs F gs):FN 5 46 [self] (W F gs (hts [] F)) (.d (dms (Aw (Am cs)).1)) (W F gs (hts [] F)) :=
 FA.seal' (UI h) rfl (Fy 3) ⟨_,rfl,AAL _,by rw[AAE];rfl⟩
theorem Q8(h:Wov cs F gs):FN 5 47 [self] (W F gs (hts [] F)) (.ref 6) (W F gs (hts [] F)++(three (Aw (Am cs))++[.list ((Bm (Aw (Am cs))).map λx=>.d (prD x))])):=by
 have hO:=BW h.H.nd;have hol:(Am cs).length<=60:=by rw[hO.perm.length_eq];exact h.len
 refine AH (FN.ends (f:=47) (zs:=[self]) (R:=λv U'=>v=.ref 6/\U'=W F gs (hts [] F)++(three (Aw (Am cs))++[.list ((Bm (Aw (Am cs))).map λx=>.d (prD x))])) (by unfold Pg;rfl) rfl (show 1<=4 by decide) (by refine UC (.mcall Ai (by unfold mtP;kernel_rfl) ((Ad (C0 4).ok (.var 0)).v rfl) .nil (ND h)) (λ{K ex} hc ts k p env=>hc (λex=>swappedStores [.Tuple ts k p] ex env=pure au) (by intros;rfl)) rfl rfl ?_;exact Q4 (Qe (Ef λc hc=>h.gen c (hO.perm.mem_iff.mp hc)) (Im hol rfl) rfl rfl (λm=>An rfl rfl (T9 rfl)) (λm l hl=>Dk (AY rfl (Ae rfl rfl (SD rfl (by rw[AO O8 DD,hl];rfl)))) rfl)) ⟨rfl,rfl⟩)) λv U' q_2 hf=>?_
 obtain⟨k2,k3⟩:=q_2;rw[k2,k3] at hf;exact hf
theorem fn_told'(h:Wov cs F gs):FN 5 47 [self] (W F gs (hts [] F)) (.d (ER (Aw (Am cs)))) (W F gs (hts [] F)) :=
 FA.seal' (Q8 h) rfl (Fy 3) ⟨_,rfl,(show 3<=6 by decide),by rw[AAE];rfl⟩
theorem NB(h:Wov cs F gs):FN 2 40 [self] (W F gs (hts [] F)) (.ref 3) (W F gs (hts [] F)++[.list ((Av (nms cs)).map vs)]):=by
 have hnm:∀n∈nms F,n.length<=12:=λn hn=>by refine oEA (AAP.mp hn) λx hx q_2=>?_;subst q_2;exact((Cj _).mp (h.w.gen x hx).name).2.1
 have hlen:=h.w.len;refine AH (FN.ends (C:=C0 1) (f:=40) (zs:=[self]) (R:=λv U'=>v=.ref 3/\U'=W F gs (hts [] F)++[.list ((Av (nms F)).map vs)]) (by unfold Pg;rfl) rfl (AAL _) (by
  refine Q4 ?_ ⟨rfl,rfl⟩;show(((ev (C0 1).O (.cons _ .nil)).row _ _).bind (QR .sorted _)).bind _=_;rw[Az (AU (Az (Dm rfl)) (OQ rfl hnm h.w.len)),bs];show((Db Ct (((nms F).map λt=>PyData.str (Tx t)).map V.d)).bind λss=>if ss.length<64 then aj (vss (DQ ss)) else au).bind _=_;rw[show((nms F).map λt=>PyData.str (Tx t)).map V.d=(nms F).map vs by rw[AAE];rfl,Qh,bs,if_pos (lmt (lmt (AAS ‹_› (ACD rfl)))),bs,G0];have e:vss ((Av (nms F)).map Tx)=(Av (nms F)).map vs:=by exact mm3
  rw[e,if_pos];rw[AAB,(Ah _).length_eq,AAB];exact AAC hlen (by decide))) λv U' q_2 hf=>?_
 obtain⟨k2,k3⟩:=q_2;rw[k2,k3,Jv (h.perm.map _) h.w.nd] at hf;exact hf
theorem Q9(h:Wov cs F gs):FN 6 48 [self] (W F gs (hts [] F)) (.ref 3) (W F gs (hts [] F)++[.list ((Bm (Aw (Am cs))).map λx=>vs x.2)]):=by
 have hO:=BW h.H.nd;have hol:(Am cs).length<=60:=by rw[hO.perm.length_eq];exact h.len
 have ht:(Bm (Aw (Am cs))).length<=line:=AAC Fh (AAC (Ef λc hc=>h.gen c (hO.perm.mem_iff.mp hc)).row (AAC (show 20*(Am cs).length<=10000 by exact Im hol rfl) (by decide)));refine AH (FN.ends (f:=48) (zs:=[self]) (R:=λv U'=>v=.ref 3/\U'=W F gs (hts [] F)++[.list ((Bm (Aw (Am cs))).map λx=>vs x.2)]) (by unfold Pg;rfl) rfl (show 1<=5 by decide) (by
  refine Du (SE.trk (SL.comp (vs:=(Bm (Aw (Am cs))).map λx=>V.d (prD x)) (SI.lst (.mcall Ai (by unfold mtP;kernel_rfl) ((Ad (C0 5).ok (.var 0)).v rfl) .nil (fn_told' h)) (by show aj (((Bm (Aw (Am cs))).map prD).map V.d)=_;rw[AAE];rfl)) (DL (kps:=[]) (Ad (C0 5).ok _) (Ad (C0 5).ok _) (λ_ _ m=>nomatch m) ?_) (lml ht))) ⟨rfl,rfl⟩
  rw[Dx (λx:Pr=>V.d (prD x)) (λx=>aj (vs x.2)) _ (λx _=>rfl),List.filterMap_eq_map'])) λv U' q_2 hf=>?_
 obtain⟨k2,k3⟩:=q_2;rw[k2,k3] at hf;exact hf
end
def DN(U:Ac)(x:V)(ds:List PyData):Prop:=x=.d (.list ds)\/∃k,x=.ref k/\U[k]? = aj (.list (ds.map .d))
theorem DN.lst(h:DN U x ds):A8 U x=aj (ds.map .d):=by
 rcases h with rfl|⟨k,rfl,h⟩
 ·rfl
 ·show DE U[k]? = _;exact h▸rfl
theorem DN.snap(h:DN U x ds):snap U x=aj (.list ds):=by
 rcases h with rfl|⟨k,rfl,h⟩
 ·rfl
 ·show TP (DE U[k]?)=_;rw[h];show(FM (ds.map V.d)).bind _=_;rw[Dl];rfl
theorem DN.isi(h:DN U x ds):Cl .isinstance U [x,.ty "list"]=aj (vb true):=by
 rcases h with rfl|⟨k,rfl,h⟩
 ·rfl
 ·show((Rq U (.ref k)).bind _).bind _=_;exact(show Rq U (.ref k)=aj "list" by show(DE U[k]?).bind _=_;rw[h];rfl)▸rfl
theorem DN.len(h:DN U x ds):Cl .len U [x]=aj (vi ds.length):=(len_of' h.lst).trans (by rw[AAB])
theorem DN.keep(h:DN U x ds):Cs U (CV x (ds.map .d)):=EE h.lst
theorem Xb(l:List Nat):Cl .isinstance U [vs l,.ty "str"]=aj (vb true):=rfl
theorem UZ(q:Str×Int):eqN AK (.tuple [.str q.1,.int q.2]) (.tuple [.str q.1,.int q.2])=aj true:=by have:=HT 39 (q.1.cps.toList,q.2) (q.1.cps.toList,q.2);rw[AAI rfl] at this;unfold AF at this;exact(Pz q.1)▸this
theorem NC(q:Str×Int):FN 2 21 [vp q,vp q] U (vb true) U:=by
 refine AH (FN.ends (C:=C0 1) (f:=21) (zs:=[vp q,vp q]) (U:=U) (R:=λv U'=>v=vb true/\U'=U) (by unfold Pg;rfl) rfl (AAL _) (by refine BN (Yz (Dp (EW (AY rfl rfl) rfl)) (λ_=>An (AU (Az rfl) rfl) rfl G4) λ_ _=>Dp (EW (AY (Ae rfl rfl rfl) rfl) rfl)) rfl (BN (DY (Dp (EW (AY (Ae rfl rfl rfl) rfl) rfl)) λ_=>EW (AY (Ae rfl rfl rfl) rfl) rfl) rfl ?_);exact AE (EO rfl rfl (UZ q)) ⟨rfl,rfl⟩)) λv U' q_2 h=>?_
 obtain⟨h1,h2⟩:=q_2;rw[h1,h2] at h;exact h
noncomputable def TU(xs:List V):Option V:=match xs with|x::r=>(match r with|y::r=>(match r with|[]=>(KO x).bind λp=>(KO y).bind λq=>if p=q then aj (vb true) else au|_=>au)|[]=>au)|[]=>au
theorem TT(hn:2<=n)(h:TU xs=aj v):FN n 21 xs U v U:=by
 match xs,h with
 |[],h=>exact Aa h
 |[_],h=>exact Aa h
 |[x,y],h =>
  exact oEA (ac h) λc e1 h=>oEA (ac h) λk e2 h=>oA (Bo h) λe3 h=>(Fs e1)▸(Fs e2)▸h▸e3▸(NC c).more hn
 |_::_::_::_,h=>exact Aa h
theorem KS(m:Mk):TU [vm m,vm m]=aj (vb true):=by exact if_pos rfl
noncomputable def C5(n:Nat)(hn:2<=n):Cfg:=(C0 n).add 21 (λxs _=>TU xs) λ_ _ _ h=>TT hn h
theorem MG{α:Type}:∀l:List α,l.zip l=l.map λa=>(a,a)
 |[]=>rfl
 |a::l=>congrArg ((a,a)::·) (MG l)
theorem Qr{C:Cfg}{α:Type}{l:List α}{d:α->PyData}(h1:AT J 0=aj x)(h2:AT J 1=aj (.d (.list (l.map d))))(hx:DN U x (l.map d)):C.it (.zip (.var 0) (.var 1)) J U=aj (l.map (λa=>V.d (.tuple [d a,d a])),CV x ((l.map d).map .d)):=by show((AT J 0).bind λx=>(AT J 1).bind λy=>(A8 U x).bind λds=>(A8 U y).bind λds'=>aj (It ds ds',CV x ds++CV y ds'))=_;rw[h1,bs,h2,bs,hx.lst,bs];show aj (It ((l.map d).map V.d) ((l.map d).map V.d),_)=_;rw[IK,MG,AAE];show aj (_,CV x ((l.map d).map .d)++[])=_;rw[AAV];rfl
theorem Kl{α:Type}(l:List α):Cl .all U [.d (.list (l.map λ_=>PyData.bool true))]=aj (vb true):=by
 show(Db EX ((l.map λ_=>PyData.bool true).map V.d)).bind _=_;have:Db EX ((l.map λ_=>PyData.bool true).map V.d)=aj (l.map λ_=>true):=by
  induction l with
  |nil=>rfl
  |cons a l ih=>show(Db EX ((l.map λ_=>PyData.bool true).map V.d)).bind _=_;rw[ih];rfl
 rw[this,bs];congr 2;rw[ACH.mpr λx hx=>?_];refine oEA (AAP.mp hx) λ_ _ q_2=>?_;subst q_2;rfl
theorem JJ(r:List Mk)(hx:DN U x (r.map λm=>AF (aj m)))(hl:r.length<=10000):FN 3 22 [x,.d (dms r)] U (vb true) U:=by
 have hl':r.length<=line:=AAC hl (by decide);refine AH (FN.ends (C:=C5 2 (AAL _)) (f:=22) (zs:=[x,.d (dms r)]) (R:=λv U'=>v=vb true/\U'=U) (by unfold Pg;rfl) rfl (by decide) (by
  show Ak _ _ _ [aj x,aj (.d (dms r)),au,au] U;refine BN (DY (Dp (EW (AY rfl rfl) hx.isi)) (λ_=>(An (AU (Az rfl) hx.len) (AU (Az rfl) CK) G4).trans (by rw[AAI rfl];rfl))) rfl ?_;refine AE (AU (Az ?_) (Kl r)) ⟨rfl,rfl⟩;show(((ev (C5 2 (AAL _)).O (.zip (.var 0) (.var 1))).it _ _).bind λq=>DZ _ q.1).bind mkL=_;rw[show(ev (C5 2 (AAL _)).O (.zip (.var 0) (.var 1))).it _ _=_ from(Qr (C:=C5 2 (AAL _)) (J:=[aj x,aj (.d (dms r)),au,au]) rfl rfl hx)];show(DZ _ (r.map _)).bind mkL=_;rw[Dx (λm:Mk=>V.d (.tuple [AF (aj m),AF (aj m)])) (λ_=>aj (vb true)) r (λm _=>?_),bs,List.filterMap_eq_map']
  ·exact(show(r.map λ_=>vb true)=(r.map λ_=>PyData.bool true).map V.d by rw[AAE];rfl)▸HL _ (lml hl')
  ·rw[Fc (AY rfl rfl) (KS m)];rfl)) λv U' q_2 h=>?_
 obtain⟨h1,h2⟩:=q_2;rw[h1,h2] at h;exact h
theorem N8(r:List Pr)(hx:DN U x (r.map prD))(hl:r.length<=10000):FN 3 23 [x,.d (.list (r.map prD))] U (vb true) U:=by
 have hl':r.length<=line:=AAC hl (by decide);refine AH (FN.ends (C:=C5 2 (AAL _)) (f:=23) (zs:=[x,.d (.list (r.map prD))]) (R:=λv U'=>v=vb true/\U'=U) (by unfold Pg;rfl) rfl (by decide) (by
  refine BN (DY (Dp (EW (AY rfl rfl) hx.isi)) (λ_=>(An (AU (Az rfl) hx.len) (AU (Az rfl) CK) G4).trans (by rw[AAI rfl];rfl))) rfl ?_;refine G8 (λa=>V.d (.tuple [prD a,prD a])) (λ_ J U'=>(∃z2 z3,J=[aj x,aj (.d (.list (r.map prD))),z2,z3])/\U=U') (Qr (C:=C5 2 (AAL _)) (J:=[aj x,aj (.d (.list (r.map prD))),au,au]) rfl rfl hx) (λ_ _ _ h=>h.2▸hx.keep) (λ_ _=>.inr (iEA _ rfl rfl)) ⟨(iEE au au rfl),rfl⟩ ?_ ?_
  ·intro p a q J q_u4 hp q_r1;obtain⟨⟨z2,z3,rfl⟩,rfl⟩:=q_r1;refine BN (Yz (Dp (EW (AY rfl rfl) rfl)) (λ_=>An (AU (Az rfl) rfl) rfl G4) λ_ _=>Dp (EW (AY (Ae rfl rfl rfl) rfl) rfl)) rfl (BN (DY (Dp (Lh (AY (Ae rfl rfl rfl) (Ae rfl rfl rfl)) (KS a.1))) λ_=>(An (Ae rfl rfl rfl) (Ae rfl rfl rfl) HJ).trans (by rw[AAI rfl];rfl)) rfl (Ab (AB _ rfl (iEE _ _ rfl) rfl)))
  ·intro J q_u1 q_r2;obtain⟨⟨z2,z3,rfl⟩,rfl⟩:=q_r2;exact AE rfl ⟨rfl,rfl⟩)) λv U' q_2 h=>?_
 obtain⟨h1,h2⟩:=q_2;rw[h1,h2] at h;exact h
theorem EL(r:List (List Nat))(hx:DN U x (r.map λt=>.str (Tx t)))(hl:r.length<=10000):FN 2 24 [x,.d (dl r)] U (vb true) U:=by
 have hl':r.length<=line:=AAC hl (by decide);refine AH (FN.ends (C:=C0 1) (f:=24) (zs:=[x,.d (dl r)]) (R:=λv U'=>v=vb true/\U'=U) (by unfold Pg;rfl) rfl (AAL _) (by
  show Ak _ _ _ [aj x,aj (.d (dl r)),au] U;refine BN (DY (Dp (EW (AY rfl rfl) hx.isi)) (λ_=>(An (AU (Az rfl) hx.len) (AU (Az rfl) CK) G4).trans (by rw[AAI rfl];rfl))) rfl (AE (QO (AU (Az ?_) (Kl r)) λ_=>EO rfl rfl ?_) ⟨rfl,rfl⟩)
  ·have hit:(ev (C0 1).O (.var 0)).it [aj x,aj (.d (dl r)),au] U=aj (r.map vs,CV x ((r.map λt=>PyData.str (Tx t)).map .d)):=by
    show DI U x=_;have e:DI U x=(A8 U x).bind λws=>aj (ws,CV x ws):=by rcases hx with rfl|⟨k,rfl,_⟩<;>rfl
    rw[e,hx.lst,bs,AAE];rfl
   refine G5 ?_;rw[Dh vs (λ_=>true) (λ_=>vb true) hit hl' (λ_ _=>rfl) (λa _ _=>AU (AY rfl rfl) (Xb a)),Bz,AAE];rfl
  ·show(snap U x).bind (λd=>(snap U (.d (dl r))).bind λd'=>eqN AK d d')=_;rw[hx.snap,bs];obtain⟨q,q1,q2⟩:=JQ (QH 39) r r;exact q1.trans (by rw[q2 rfl]))) λv U' q_2 h=>?_
 obtain⟨h1,h2⟩:=q_2;rw[h1,h2] at h;exact h
theorem dT{F:List Ch}{gs:List (List Nat×List (List Nat))}{hs:Gsl}{τ:Ac}{o:O}:(W F gs hs++τ).set (k+3) o=W F gs hs++τ.set k o:=rfl
section
variable{cs F:List Ch}{gs:List (List Nat×List (List Nat))}
theorem Mp(h:Wov cs F gs)(a:Int):FN 7 25 [self,.d (dms (Aw (Am cs)).1),.d (ER (Aw (Am cs))),.d (dl (Av (nms cs))),vi a] (W F gs (hts [] F)) (vb true) (W F gs (hts [] F)):=by
 have hO:=BW h.H.nd;have hol:(Am cs).length<=60:=by rw[hO.perm.length_eq];exact h.len
 have hr:(Aw (Am cs)).1.length<=10000:=AAC (Ef λc hc=>h.gen c (hO.perm.mem_iff.mp hc)).row (Im hol rfl);have ht:=AAC Fh hr;have hn:(Av (nms cs)).length<=10000:=by rw[(Ah _).length_eq,AAB];exact AAC h.len (by decide)
 refine AH (FN.ends (C:=C0 6) (f:=25) (zs:=[self,.d (dms (Aw (Am cs)).1),.d (ER (Aw (Am cs))),.d (dl (Av (nms cs))),vi a]) (U:=W F gs (hts [] F)) (R:=λv U'=>v=vb true/\∃τ,U'=W F gs (hts [] F)++τ) (by unfold Pg;rfl) rfl (by decide) (by
  let K:Option V->Option V->Option V->Al:=λz5 z6 z7=>[aj self,aj (.d (dms (Aw (Am cs)).1)),aj (.d (ER (Aw (Am cs)))),aj (.d (dl (Av (nms cs)))),aj (vi a),z5,z6,z7]
  refine CG (M:=λJ U'=>∃k τ ws,J=K (aj (.ref (k+3))) (aj (vb true)) au/\(W F gs (hts [] F)++τ)[k+3]? = aj (.list ws)/\W F gs (hts [] F)++τ=U') ?_ ?_
  ·refine AG (An rfl rfl BL) (λ_=>?_) λ_=>?_
   ·refine AD rfl (.mcall Ai (by unfold mtP;kernel_rfl) ((Ad (C0 6).ok (.var 0)).v rfl) .nil ((UI h).more (by decide))) (AD rfl (.fcall ((Ad (C0 6).ok _).row rfl) ((JJ (Aw (Am cs)).1 (.inr ⟨3,rfl,?_⟩) hr).more (by decide))) (Ab (Ab ⟨_,rfl,0,_,_,rfl,rfl,rfl⟩)));rw[AAE];rfl
   refine AG (An rfl rfl BL) (λ_=>?_) λ_=>?_
   ·refine AD rfl (.mcall Ai (by unfold mtP;kernel_rfl) ((Ad (C0 6).ok (.var 0)).v rfl) .nil ((Q8 h).more (by decide))) (AD (v:=vb true) rfl (.fcall ((Ad (C0 6).ok _).row rfl) ((N8 (Bm (Aw (Am cs))) (.inr ⟨6,rfl,?_⟩) ht).more (by decide))) (Ab (Ab (Ab ⟨_,rfl,3,_,_,rfl,rfl,rfl⟩))));exact AAE▸rfl
   refine AG (An rfl rfl BL) (λ_=>?_) λ_=>?_
   ·refine AD rfl (.mcall Ai (by unfold mtP;kernel_rfl) ((Ad (C0 6).ok (.var 0)).v rfl) .nil ((NB h).more (by decide))) (AD (v:=vb true) rfl (.fcall ((Ad (C0 6).ok _).row rfl) ((EL (Av (nms cs)) (.inr ⟨3,rfl,?_⟩) hn).more (by decide))) (Ab (Ab (Ab (Ab ⟨_,rfl,0,_,_,rfl,rfl,rfl⟩)))));exact AAE▸rfl
   ·refine AD rfl (.mcall Ai (by unfold mtP;kernel_rfl) ((Ad (C0 6).ok (.var 0)).v rfl) .nil ((Q9 h).more (by decide))) (AD (v:=vb true) rfl (.fcall ((Ad (C0 6).ok _).row (AY rfl ?_)) ((EL ((Bm (Aw (Am cs))).map (·.2)) (.inr ⟨3,rfl,?_⟩) (lml ht)).more (by decide))) (Ab (Ab (Ab (Ab ⟨_,rfl,0,_,_,rfl,rfl,rfl⟩)))))
    ·rw[CF prD (λ_=>true) (λx=>.str (Tx x.2)) (BS rfl rfl) (AAC ht (by decide)) (λ_ _=>rfl) (λx _ _=>Ae rfl rfl rfl),Bz];show aj (V.d (.list _))=aj (V.d (.list (((Bm (Aw (Am cs))).map (·.2)).map λt=>.str (Tx t))));rw[AAE];rfl
    ·rw[AAE,AAE];rfl
  ·intro J q_u1 q_r1;obtain⟨k,τ,ws,rfl,hk,rfl⟩:=q_r1;exact N5 rfl (N6 rfl hk (Ab (AE rfl ⟨rfl,τ.set k (.list []),dT⟩))))) λv U' q_2 hf=>?_
 obtain⟨k2,τ,k3⟩:=q_2;rw[k2,k3] at hf;exact FA.seal hf rfl
end
noncomputable def Cfg.know(C:Cfg)(f:Nat)(v:V)(P:List V->Ac->Prop)(h:∀xs U,P xs U->FN C.n f xs U v U):Cfg:=C.add f (λxs U=>@ite _ (P xs U) (ACE _) (aj v) au) λxs U u e=>by exact oA (@Bo _ _ _ _ (ACE _) e) λq e=>e▸h xs U q
theorem Qo{C:Cfg}{P:List V->Ac->Prop}{hk:∀xs U,P xs U->FN C.n f xs U v U}{xs:List V}(h:P xs U):(C.know f v P hk).O f xs U=aj v:=by show(bif Nat.beq f f then@ite _ (P xs U) (ACE _) (aj v) au else C.O f xs U)=_;exact(Nat.beq_refl f)▸@if_pos _ (ACE _) h _ _ _
section
variable{cs F:List Ch}{gs:List (List Nat×List (List Nat))}
theorem Gf(h:Wov cs F gs):FN 8 26 [self,.d (.list (cs.map Ch.data))] (W F gs (hts [] F)) (vb true) (W F gs (hts [] F)):=by
 let C:Cfg:=(C0 7).know 25 (vb true) (λxs U=>(∃a,xs=[self,.d (dms (Aw (Am cs)).1),.d (ER (Aw (Am cs))),.d (dl (Av (nms cs))),vi a])/\U=W F gs (hts [] F)) (by rintro _ _ ⟨⟨a,rfl⟩,rfl⟩;exact Mp h a);refine AH (FN.ends (f:=26) (zs:=[self,.d (.list (cs.map Ch.data))]) (U:=W F gs (hts [] F)) (R:=λv U'=>v=vb true/\U'=W F gs (hts [] F)) (by unfold Pg;rfl) rfl (show 1<=7 by decide) (by
  refine UC (.fcall ((Ad C.ok _).row rfl) ((JK h.H h.gen h.len _).more (show 4<=7 by decide))) (λ{K ex} hc ts k p env=>hc (λex=>swappedStores [.Tuple ts k p] ex env=pure au) (by intros;rfl)) rfl rfl ?_;let K:Option V->Option V->Option V->Al:=λz4 z6 z7=>[aj self,aj (.d (.list (cs.map Ch.data))),aj (.d (dms (Aw (Am cs)).1)),aj (.d (ER (Aw (Am cs)))),z4,au,z6,z7]
  have hc:(ev C.O (.comp (.sub (.var 5) (.cst (.int 0))) [5] (.var 1) .nil)).v (K au au au) (W F gs (hts [] F))=aj (.d (dl (nms cs))):=by rw[CF Ch.data (λ_=>true) (λc=>.str (Tx c.1)) (BS rfl rfl) (AAC h.len (by decide)) (λ_ _=>rfl) (λc _ _=>Ae rfl rfl (Bb c)),Bz];show aj (V.d (.list _))=aj (V.d (.list ((nms cs).map λt=>.str (Tx t))));rw[AAE];rfl
  refine Ax (AU (Az hc) (Dr mm2 (by rw[AAB];have:=h.len;exact AAS ‹_› (ACD rfl)))) (AW (l:=List.range 5) (λj:Nat=>vi (j:Int)) (λ_ J U=>(∃z6 z7,J=K (aj (.d (dl (Av (nms cs))))) z6 z7)/\W F gs (hts [] F)=U) (itr (m:=5) rfl (by decide) (by decide)) ⟨(iEE _ _ rfl),rfl⟩ ?_ ?_)
  ·intro p j q J q_u4 e q_r1;obtain⟨⟨z6,z7,rfl⟩,rfl⟩:=q_r1;have hj:j<5:=ABZ.mp (by rw[e];simp);exact Ax (Af (Af (Af rfl (Af rfl (Af (Af (AU (Az rfl) CK) rfl (AV (by decide))) rfl (Il (smr (by decide) (by decide)))) rfl) (Il (by rw[MQ (AB6 _) (by omega)];rfl))) (AU (Az rfl) CK) rfl) rfl (AV (by decide))) (N5 (Dp (Lh rfl (Qo ⟨⟨_,rfl⟩,rfl⟩))) (Ab (Ab (AB _ rfl (iEE _ _ rfl) rfl))))
  ·intro J q_u1 q_r2;obtain⟨⟨z6,z7,rfl⟩,rfl⟩:=q_r2;exact AE rfl ⟨rfl,rfl⟩)) λv U' q_2 hf=>?_
 obtain⟨k2,k3⟩:=q_2;rw[k2,k3] at hf;exact hf
end
open PySem.Calls
theorem Pk(ws:List V)(y:V):(ws++[y]).eraseIdx ((ws++[y]).length-1)=ws:=by rw[AAF,show ws.length+[y].length-1=ws.length from rfl,List.eraseIdx_append_of_length_le (AAL _),ADF];exact AAV ws
theorem bP(ho:C.v o J U=aj (.ref k))(h0:U[k]? = aj (.list (ws++[y])))(kk:Ak C P r (J.set x (aj y)) (U.set k (.list ws)))(hb:CR o=true:=by rfl):Ak C P (.cons (.asg x (.meth .pop o .nil)) r) J U:=by
 refine AD rfl (.lmeth (Ey hb) F.slot_list_pop F.type_list_pop ((Ad C.ok o).v ho) .nil h0 h0 (eZ (v:=y) ?_)) ?_
 ·rw[AAF,show ws.length+[y].length-1=ws.length from rfl,AA6 (AAL _),ADF];rfl
 ·rw[Pk];exact kk
theorem RZ(ho:C.v o J U=aj (.ref k))(hes:C.row es J U=aj [y])(h0:U[k]? = aj (.list ws))(hy:A8 U y=aj us)(hl:ws.length+us.length<=line)(kk:Ak C P r J (U.set k (.list (ws++us))))(hb:CR o=true:=by rfl):Ak C P (.cons (.exp (.meth .extend o es)) r) J U :=
 F8 F.slot_list_extend F.type_list_extend ho hes h0 (TM hy hl) hb kk
theorem Xj{C:Cfg}{α:Type}{l:List α}(w:α->V)(aa:List α->Al->Ac->Prop)(hit:SI (C.n+3) it J U (l.map w) [] af)(hb:∀a,a∈l->FH ts (w a))(hJ:aa [] J af)
 (hf:∀p a q J U,l=p++a::q->aa p J U->Ak C (λfl U'=>∃J',fl=.next J'/\aa (p++[a]) J' U') body (Cw J ts (w a)) U) (k:∀J' U',aa l J' U'->Ak C P r J' U'):Ak C P (.cons (.for_ ts it body) r) J U:=by
 exact AH (PF (C:=C) (body:=body) (ts:=ts) (kps:=[]) w aa l [] J af (λ_ _ _ _ _ _ m=>nomatch m) hb hJ hf) λJe Ue h1 h2=>CD (fl:=.next Je) (λQ q=>.for_ hit (h2 Q q)) (k Je Ue h1)
theorem Y0{O:Orc}{b:Bi}{xs ws:List V}(h:(ev O es).row J U=aj xs)(h2:QR b U xs=aj ws)(hl:ws.length<=line):(ev O (.bi b es)).nl J U=aj ws:=by show(((ev O es).row J U).bind (QR b U)).bind (λws=>if ws.length<=line then aj ws else au)=_;rw[h,bs,h2,bs,if_pos hl]
theorem D8{l:List (List Nat)}(h:l.Pairwise (· < ·)):l.Nodup:=h.imp λ{a b} (h:a<b) (e:a=b)=>List.lt_irrefl b (by rw[e] at h;exact h)
section
variable{P:Fl->Ac->Prop}
theorem PC(aa:Nat->Al->Ac->Prop)(B:Al->Ac->Bool)(ht:∀m J U,aa m J U->C.t c J U=aj (B J U))(h0:∀J U,aa 0 J U->B J U=false)
 (hf:∀m J U,aa (m+1) J U->B J U=true->Ak C (λfl U'=>∃J',fl=.next J'/\aa m J' U') body J U):∀(m:Nat) (J:Al) (U:Ac),aa m J U->∃Je Ue m',aa m' Je Ue/\B Je Ue=false/\∀Q:Fl->Ac->Prop,Q (.next Je) Ue->WhQ (C.n+3) c body Q (m+1) J U
 |0,J,U,hJ=>(DJ J U 0 hJ (h0 J U hJ) (λQ q=>⟨false,U,(Ad C.ok c).t (h0 J U hJ▸ht 0 J U hJ),λ_=>q,λh=>ff_ h⟩))
 |m+1,J,U,hJ=>by
  have h:=ht (m+1) J U hJ;cases e:B J U with
  |false=>rw[e] at h;exact DJ J U (m+1) hJ e (λQ q=>⟨false,U,(Ad C.ok c).t h,λ_=>q,λh=>ff_ h⟩)
  |true =>
   rw[e] at h;refine AH (hf m J U hJ e) λfl af q_2 h2=>?_;obtain⟨aN,rfl,h1⟩:=q_2;exact Cr (PC aa B ht h0 hf m aN af h1) λJe Ue m' h3 h5 h4=>DJ Je Ue m' h3 h5 (λQ q=>⟨true,U,(Ad C.ok c).t h,λh=>tt_ h,λ_=>SSs.mono (λf s e=>by rw[e.1,e.2];exact h4 Q q) h2⟩)
theorem RX(aa:Nat->Al->Ac->Prop)(B:Al->Ac->Bool)(m:Nat)(hJ:aa m J U)(ht:∀m J U,aa m J U->C.t c J U=aj (B J U))(h0:∀J U,aa 0 J U->B J U=false)
 (hf:∀m J U,aa (m+1) J U->B J U=true->Ak C (λfl U'=>∃J',fl=.next J'/\aa m J' U') body J U) (k:∀m' J' U',aa m' J' U'->B J' U'=false->Ak C P r J' U'):Ak C P (.cons (.while_ c body) r) J U:=by
 exact Cr (PC (C:=C) aa B ht h0 hf m J U hJ) λJe Ue m' h1 h2 h3=>CD (fl:=.next Je) (λQ q=>.while_ (h3 Q q)) (k m' Je Ue h1 h2)
end
theorem Blw.trans(x:Blw F a b)(y:Blw F b c):Blw F a c:=by
 induction x with
 |one hc hl=>exact .more hc hl y
 |more hc hl _ ih=>exact .more hc hl (ih y)
noncomputable def rem(fs:List (List Nat)):List Ch->Nat
 |[]=>0
 |c::cs=>(if c.1∈fs then 0 else c.2.1.length)+rem fs cs
theorem MZ(fs:List (List Nat))(n:List Nat):∀cs:List Ch,n∉nms cs->rem (fs++[n]) cs=rem fs cs
 |[],_=>rfl
 |c::cs,h=>by
  have h1:c.1≠n:=λe=>h (e▸.head _);show(if c.1∈fs++[n] then 0 else c.2.1.length)+rem (fs++[n]) cs=(if c.1∈fs then 0 else c.2.1.length)+rem fs cs;rw[MZ fs n cs λq=>h (.tail _ q)];congr 1;have:(c.1∈fs++[n])↔c.1∈fs:=by rw[AA0,AAJ];exact⟨λq=>q.resolve_right h1,.inl⟩
  simp only[this]
theorem PW(hf:c.1∉fs):∀{cs:List Ch},(nms cs).Nodup->c∈cs->rem fs cs=c.2.1.length+rem (fs++[c.1]) cs
 |a::cs,nd,hc=>by
  have nd:=ABX.mp nd;show(if a.1∈fs then 0 else a.2.1.length)+rem fs cs=c.2.1.length+((if a.1∈fs++[c.1] then 0 else a.2.1.length)+rem (fs++[c.1]) cs);rcases AAR.mp hc with e|hc
  ·subst e;rw[if_neg hf,if_pos (AAW _ (.head _)),MZ fs c.1 cs nd.1,ACY]
  ·have h1:a.1≠c.1:=λe=>nd.1 (show a.1∈nms cs by rw[e];exact AAZ hc);rw[PW hf nd.2 hc];have:(a.1∈fs++[c.1])↔a.1∈fs:=by rw[AA0,AAJ];exact⟨λq=>q.resolve_right h1,.inl⟩
   simp only[this];lia
theorem Tk(fs:List (List Nat)):∀cs:List Ch,(∀c∈cs,c.2.1.length<=60)->rem fs cs<=60*cs.length
 |[],_=>AAL _
 |c::cs,h=>by have:=Tk fs cs λx hx=>h x (.tail _ hx);have:=h c (.head _);show(if c.1∈fs then 0 else c.2.1.length)+rem fs cs<=60*(cs.length+1);split<;>omega
structure Iz(cs:List Ch)(ns fs wt:List (List Nat)):Prop where
 nd:fs.Nodup
 sub:∀n,n∈fs\/n∈wt->∃o∈ns,n=o\/Blw cs o n
 all:∀o∈ns,o∈fs\/o∈wt
 cov:∀c∈cs,c.1∈fs->∀l∈c.2.1,l∈fs\/l∈wt
theorem Iz.names(h:Iz cs ns fs wt)(ht:CP cs)(hn:∀n∈ns,n∈nms cs)(q:n∈fs\/n∈wt):n∈nms cs:=by
 obtain⟨o,ho,e|e⟩:=h.sub n q
 ·exact e▸hn o ho
 ·exact e.names ht
theorem Iz.skip(h:Iz cs ns fs (wt++[n]))(hn:n∈fs):Iz cs ns fs wt:=by have drop:∀{x},x∈fs\/x∈wt++[n]->x∈fs\/x∈wt:=λ{x} q=>q.elim .inl λq=>(AA0.mp q).elim .inr λq=>.inl (AAJ.mp q▸hn);exact⟨h.nd,λx q=>h.sub x (q.imp id (AAU _)),λo ho=>drop (h.all o ho),λc hc hf l hl=>drop (h.cov c hc hf l hl)⟩
theorem Iz.take(nd:(nms cs).Nodup)(h:Iz cs ns fs (wt++[c.1]))(hc:c∈cs)(hn:c.1∉fs):Iz cs ns (fs++[c.1]) (wt++c.2.1):=by
 have mv:∀{x},x∈fs\/x∈wt++[c.1]->x∈fs++[c.1]\/x∈wt++c.2.1:=λ{x} q=>q.elim (λq=>.inl (AAU _ q)) λq=>(AA0.mp q).elim (λq=>.inr (AAU _ q)) λq=>.inl (AAW _ q);have here:c.1∈fs\/c.1∈wt++[c.1]:=.inr (AAW _ (.head _));refine⟨ABW.mpr ⟨h.nd,ABX.mpr ⟨AA1,ABY⟩,λa ha b hb e=>hn ((AAJ.mp hb)▸e▸ha)⟩,λx q=>?_,λo ho=>mv (h.all o ho),λd hd hf l hl=>?_⟩
 ·rcases q with q|q
  ·rcases AA0.mp q with q|q
   ·exact h.sub x (.inl q)
   ·exact(AAJ.mp q)▸h.sub _ here
  ·rcases AA0.mp q with q|q
   ·exact h.sub x (.inr (AAU _ q))
   ·refine oEA (h.sub _ here) λo ho e=>(iEA o ho (.inr ?_))
    rcases e with e|e
    ·exact e▸.one hc q
    ·exact Blw.trans e (.one hc q)
 ·rcases AA0.mp hf with hf|hf
  ·exact mv (h.cov d hd hf l hl)
  ·rw[I7 nd hd hc (AAJ.mp hf)] at hl;exact .inr (AAW _ hl)
theorem Iz.done(h:Iz cs ns fs []):n∈fs↔∃o∈ns,n=o\/Blw cs o n:=by
 have up:∀{a b:List Nat},Blw cs a b->a∈fs->b∈fs:=λx=>by
  induction x with
  |one hc hl=>exactλq=>(h.cov _ hc q _ hl).resolve_right AA1
  |more hc hl _ ih=>exactλq=>ih ((h.cov _ hc q _ hl).resolve_right AA1)
 refine⟨λq=>h.sub n (.inl q),λ⟨o,ho,e⟩=>?_⟩;have h1:=(h.all o ho).resolve_right AA1;exact e.elim (λe=>e▸h1) λe=>up e h1
noncomputable abbrev lnK(cs:List Ch):List (List Nat×List (List Nat)):=cs.map λc=>(c.1,c.2.1)
noncomputable abbrev oL(cs:List Ch):O:=.dictS (Bk Tx dl (lnK cs))
theorem pD(nd:(F.map (·.1)).Nodup)(hc:c∈F):Aq (lnK F) c.1=aj c.2.1:=by
 induction F with
 |nil=>cases hc
 |cons a F ih =>
  have nd':=ABX.mp nd;show Aq ((a.1,a.2.1)::lnK F) c.1=_;rw[Bl];rcases AAR.mp hc with rfl|hc
  ·exact if_pos rfl
  ·exact(if_neg λe=>nd'.1 (by show a.1∈F.map (·.1);rw[show a.1=c.1 from e];exact AAZ hc))▸ih nd'.2 hc
theorem HS(nd:(nms cs).Nodup)(ht:CP cs)(hl:cs.length<=60)(hg:∀c∈cs,c.2.1.length<=60)(hn:∀n∈ns,n∈nms cs)(hnl:ns.length<=100):∃fs:List (List Nat),fs.Nodup/\(∀n,n∈fs↔∃o∈ns,n=o\/Blw cs o n)/\∀U,FN 2 28 [.d (.list (cs.map Ch.data)),.d (dl ns)] U (.d (dl fs)) U:=by
 let C:=C0 1;refine AH (FN.ends (C:=C) (f:=28) (zs:=[.d (.list (cs.map Ch.data)),.d (dl ns)]) (U:=[]) (R:=λv U'=>∃fs wt,Iz cs ns fs wt/\wt=[]/\v=.ref 1/\U'=[oL cs,.list (fs.map vs),.list (wt.map vs)]) (by unfold Pg;rfl) rfl (AAL _) (by
  let K:Option V->Option V->Option V->Option V->Option V->Al:=λz2 z3 z4 z5 z6=>[aj (.d (.list (cs.map Ch.data))),aj (.d (dl ns)),z2,z3,z4,z5,z6]
  refine Hn (AW vc (λp J U=>(∃z3,J=K (aj (.ref 0)) z3 au au au)/\[oL p]=U) (EV rfl) ⟨⟨au,rfl⟩,rfl⟩ ?_ ?_)
  ·intro p c q J q_u4 e q_r1;refine oA q_r1 λq_0 q_1=>?_;obtain⟨z3,rfl⟩:=q_0;subst q_1;have hpl:(lnK p).length<=60:=by have h2:=congrArg List.length e;rw[AAF,AA2] at h2;exact lml (V2 h2 hl rfl)
   refine EH (Ae rfl rfl (Df c)) rfl (Ae rfl rfl (Bb c)) rfl (by rw[Bv];exact AAS hpl (by decide)) (Ab (AB _ rfl ⟨_,rfl⟩ ?_));rw[Bu dl BO,GT (Dv.mpr ?_),oL,lnK,lnK,AAQ]
   ·rfl
   ·rw[lnK,AAE];rw[e,nms,AAQ,ABP,ABW] at nd;exactλq=>nd.2.2 c.1 q c.1 (.head _) rfl
  intro J q_u1 q_r2;refine oA q_r2 λq_0 q_1=>?_;obtain⟨z3,rfl⟩:=q_0;subst q_1;refine Bx rfl (Bx (ws:=ns.map vs) (Y0 (Az rfl) mm2 (lml (AAC hnl (by decide)))) ?_);let St:List (List Nat)->List (List Nat)->Ac:=λfs wt=>[oL cs,.list (fs.map vs),.list (wt.map vs)]
  have hr:=Tk [] cs hg;refine RX (λm J U=>m<=10000/\∃fs wt,Iz cs ns fs wt/\wt.length+rem fs cs=m/\(∃z6,J=K (aj (.ref 0)) z3 (aj (.ref 1)) (aj (.ref 2)) z6)/\St fs wt=U) (λJ U=>match U with|[_,_,.list ws]=>!ws.isEmpty|_=>false) (ns.length+rem [] cs) (IE (by lia) [] ns ⟨ABY,λn q=>(iEA n (q.resolve_left AA1) (.inl rfl)),λo ho=>.inr ho,λc _ q=>nomatch q⟩ rfl ⟨_,rfl⟩ rfl) ?_ ?_ ?_ ?_
  ·intro m J q_u2 q_r3;refine EB q_r3 λ_ fs wt _ _ q_5 q_6=>?_;obtain⟨z6,rfl⟩:=q_5;subst q_6;exact tr_of' (U:=St fs wt) (x:=.ref 2) rfl
  ·intro J q_u1 q_r4;refine EB q_r4 λ_ fs wt _ e _ q_6=>?_;subst q_6;have:wt=[]:=List.length_eq_zero_iff.mp (jQ e);subst this;rfl
  ·intro m J q_u2 q_r5 hB;refine EB q_r5 λhm fs wt G e q_5 q_6=>?_;obtain⟨z6,rfl⟩:=q_5;subst q_6;rcases List.eq_nil_or_concat wt with rfl|⟨wt,y,rfl⟩
   ·cases hB
   rw[List.concat_eq_append] at G e ⊢;rw[AAF] at e;have e:=e;refine oEA (AAP.mp (G.names ht hn (.inr (AAW _ (.head _))))) λc hc q_2=>?_;subst q_2;have hfl:=by have:=Ja fs (nms cs) G.nd λn q=>G.names ht hn (.inl q);rw[AAB] at this;exact AAC ‹_› ‹_›
   refine bP rfl (by show aj (O.list ((wt++[c.1]).map vs))=_;rw[AAQ];rfl) (AG (An rfl rfl (by rw[Lk,Uu (Qi rfl)];rfl)) (λq=>?_) λq=>?_)
   ·have q:c.1∉fs:=λh=>by rw[AAI h] at q;cases q
    have er:=PW q nd hc;refine Be rfl rfl rfl (lmt (AAS hfl (by decide))) (RZ (us:=c.2.1.map vs) rfl (Az (Ae rfl rfl (Cp rfl (by rw[AO dl BO,pD nd hc];rfl)))) rfl (by show aj ((c.2.1.map λt=>PyData.str (Tx t)).map V.d)=_;rw[AAE];rfl) (by rw[AAB,AAB];exact AAC (show wt.length+c.2.1.length<=10100 by have:=hg c hc;exact gR hm e er rfl) (by decide)) (Ab (Ab ⟨_,rfl,by exact ACF ‹_›,fs++[c.1],wt++c.2.1,G.take nd hc q,by rw[AAF];exact gS e er,⟨_,rfl⟩,?_⟩)));show [oL cs,O.list ((fs++[c.1]).map vs),O.list ((wt++c.2.1).map vs)]=[oL cs,O.list (fs.map vs++[vs c.1]),O.list (wt.map vs++c.2.1.map vs)];exact AAQ▸AAQ▸rfl
   ·exact Ab (Ab ⟨_,rfl,by exact ACF ‹_›,fs,wt,G.skip (AAG (by cases h:decide (c.1∈fs) with|true=>rfl|false=>rw[h] at q;cases q)),by exact jP e,⟨_,rfl⟩,rfl⟩)
  ·intro m J q_u2 q_r6 hB;refine EB q_r6 λ_ fs wt G e q_5 q_6=>?_;obtain⟨z6,rfl⟩:=q_5;subst q_6;have:wt=[]:=by
    cases wt with
    |nil=>rfl
    |cons _ _=>cases hB
   exact AE rfl (Mf fs wt G this rfl rfl))) λv U' q_2 h=>?_
 refine Fv q_2 λfs wt g1 g2 k2 k3=>?_;rw[k2,k3] at h;subst g2;refine(AB fs g1.nd (λn=>g1.done) (λU=>(FA.seal h ⟨_,rfl,ABF _,?_⟩).any (ae (CC _ _) (ae (CC _ _) AC))));exact AAE▸rfl
noncomputable def Cfg.knowF(C:Cfg)(f:Nat){α:Type}(arg:α->List V)(out:α->V)(h:∀a U,FN C.n f (arg a) U (out a) U):Cfg:=C.add f (λxs _=>@dite _ (∃a,arg a=xs) (ACE _) (λq=>aj (out (Classical.choose q))) λ_=>au) λxs U v e=>by
 by_cases q:∃a,arg a=xs
 ·rw[dif_pos q] at e;rw[<-AAA e];have:=h (Classical.choose q) U;rw[ADI q] at this;exact this
 ·rw[dif_neg q] at e;exact Aa e
theorem Ju{C:Cfg}{α:Type}{arg:α->List V}{out:α->V}{h:∀a U,FN C.n f (arg a) U (out a) U}(inj:∀a b,arg a=arg b->out a=out b)(a:α)(U:Ac):(C.knowF f arg out h).O f (arg a) U=aj (out a):=by
 have q:∃b,arg b=arg a:=⟨a,rfl⟩
 show(bif Nat.beq f f then@dite _ (∃b,arg b=arg a) (ACE _) (λq=>aj (out (Classical.choose q))) λ_=>au else C.O f (arg a) U)=_;rw[Nat.beq_refl f];show@dite _ (∃b,arg b=arg a) (ACE _) (λq=>aj (out (Classical.choose q))) (λ_=>au)=_;rw[dif_pos q,inj _ _ (ADI q)]
theorem T8{O:Orc}{J:Al}{α:Type}{l:List α}(w:α->V)(p:α->Bool)(g:α->V)(h1:AT J i=aj (.ref k))(h2:U[k]? = aj (.list (l.map w)))(hl:l.length<=line)
 (hp:∀a∈l,(ev O ifs).ts ((J.set t au).set t (aj (w a))) U=aj (p a)) (hg:∀a∈l,p a=true->(ev O elt).v ((J.set t au).set t (aj (w a))) U=aj (g a)):(ev O (.comp elt [t] (.var i) ifs)).nl J U=aj ((l.filter p).map g):=by
 refine Dh (kps:=[(k,l.map w)]) w p g ?_ hl hp hg;show(AT J i).bind (DI U)=_;rw[h1];show(DE U[k]?).bind _=_;exact h2▸rfl
theorem Lx{α:Type}(f:α->Bool)(l:List α):Cl .any U [.d (.list (l.map λa=>PyData.bool (f a)))]=aj (vb (l.any f)):=by
 show(Db EX ((l.map λa=>PyData.bool (f a)).map V.d)).bind _=_;have:Db EX ((l.map λa=>PyData.bool (f a)).map V.d)=aj (l.map f):=by
  induction l with
  |nil=>rfl
  |cons a l ih=>show(Db EX ((l.map λa=>PyData.bool (f a)).map V.d)).bind _=_;rw[ih];rfl
 rw[this,bs,List.any_map];rfl
theorem cA(a:Option Mk)(m:Mk):eqN AK (AF a) (AF (aj m))=aj (decide (a=aj m)):=by
 cases a with
 |none=>rfl
 |some a =>
  have:decide (a=m)=decide (aj a=aj m):=decide_eq_decide.mpr ⟨λe=>e▸rfl,AAA⟩;exact this▸HT 39 a m
noncomputable def EA(m:Mk)(d:Ba):Bool:=decide (d.word=Jt)&&decide (d.mark=aj m)
noncomputable def HB(m:Mk)(c:Ch):Bool:=c.2.2.any (EA m)
noncomputable def Cy(cs:List Ch)(m:Mk):List (List Nat):=nms (cs.filter (HB m))
structure Opn(cs:List Ch)(m:Mk)(us:List (List Nat)):Prop where
 rise:us.Pairwise (· < ·)
 mem:∀n,n∈us↔n∈Cy cs m/\¬ ∃o∈Cy cs m,Blw cs o n
theorem Opn.uniq(h:Opn cs m us)(h':Opn cs m us'):us=us' :=
 CJ (λx y p q=>List.lt_irrefl _ (List.lt_trans p q)) h.rise h'.rise ((List.perm_ext_iff_of_nodup (D8 h.rise) (D8 h'.rise)).mpr λn=>(h.mem n).trans (h'.mem n).symm)
theorem Blw.lower(nd:(F.map (·.1)).Nodup)(ht:CP F)(x:Blw F a b):hgt F b<hgt F a:=by
 have one:∀{c:Ch} {l:List Nat},c∈F->l∈c.2.1->hgt F l<hgt F c.1:=λ{c l} hc hl=>by rw[Mh nd ht hc];have:=TF 0 (c.2.1.map λl=>hgt F l+1) (hgt F l+1) (AAZ hl);exact Zf this
 induction x with
 |one hc hl=>exact one hc hl
 |more hc hl _ ih=>have:=one hc hl;exact iD ih this
theorem Ek(h:n∈Cy cs m):n∈nms cs:=by refine oEA (AAP.mp h) λc hc q_2=>?_;subst q_2;exact AAZ (AA4.mp hc).1
theorem MV(cs:List Ch)(m:Mk):(Cy cs m).length<=cs.length:=by rw[Cy,AAB];exact AAX _ _
theorem Mo(nd:(nms cs).Nodup)(ht:CP cs)(hl:cs.length<=60)(hg:∀c∈cs,GenCh c)(m:Mk):∃us:List (List Nat),Opn cs m us/\us.length<=60/\∀U,FN 3 31 [.d (.list (cs.map Ch.data)),vm m] U (.d (dl us)) U:=by
 have hgr:∀n:{n//n∈nms cs},∃fs:List (List Nat),(∀x,x∈fs↔x=n.1\/Blw cs n.1 x)/\∀U,FN 2 28 [.d (.list (cs.map Ch.data)),.d (dl [n.1])] U (.d (dl fs)) U:=λn=>by
  refine AS (HS nd ht hl (λc hc=>(hg c hc).few) (ns:=[n.1]) (λx hx=>by rw[AAJ.mp hx];exact n.2) (show 1<=100 by decide)) λfs _ h2 h3=>⟨fs,λx=>(h2 x).trans ⟨λ⟨o,ho,e⟩=>?_,λe=>⟨n.1,.head _,e⟩⟩,h3⟩
  rw[AAJ.mp ho] at e;exact e
 refine oE (Classical.axiomOfChoice hgr) λgr hgr=>?_;let C:Cfg:=(C0 2).knowF 28 (λn:{n//n∈nms cs}=>[.d (.list (cs.map Ch.data)),.d (dl [n.1])]) (λn=>.d (dl (gr n))) (λn U=>(hgr n).2 U);have hgO:∀(n:{n//n∈nms cs}) U,C.O 28 [.d (.list (cs.map Ch.data)),.d (dl [n.1])] U=aj (.d (dl (gr n))):=λn U=>Ju (λa b e=>by
  injection e with _ e
  injection e with e _
  injection e with e
  injection e with e
  injection e with e _
  injection e with e
  rw[Subtype.ext (FQ e)]) n U
 have hsl:=AAC (MV cs m) hl;let gi:List Nat->List Nat->Bool:=λo n=>@decide (∃h:o∈nms cs,n∈gr ⟨o,h⟩) (ACE _);have gi_eq:∀(o:List Nat) (h:o∈nms cs) (n:List Nat),gi o n=decide (n∈gr ⟨o,h⟩):=λo h n=>by
  by_cases q:n∈gr ⟨o,h⟩
  ·exact(AAI q)▸@AAI _ (ACE _) ⟨h,q⟩
  ·exact(AAT q)▸@AAT _ (ACE _) λ⟨_,r⟩=>q r
 let op:List Nat->Bool:=λn=>!((Cy cs m).filter λo=>!decide (o=n)).any λo=>gi o n;refine AH (FN.ends (C:=C) (f:=31) (zs:=[.d (.list (cs.map Ch.data)),vm m]) (U:=[]) (R:=λv U'=>v=.d (dl (Av ((Cy cs m).filter op)))/\U'=[.list ((Cy cs m).map vs),.list (((Cy cs m).filter op).map vs)]) (by unfold Pg;rfl) rfl (show 1<=2 by decide) (by
  let K:Option V->Option V->Option V->Option V->Al:=λz2 z3 z5 z6=>[aj (.d (.list (cs.map Ch.data))),aj (vm m),z2,z3,au,z5,z6,au]
  refine Bx rfl (AW vc (λp J U=>(∃z3,J=K (aj (.ref 0)) z3 au au)/\[.list ((Cy p m).map vs)]=U) (EV rfl) ⟨⟨au,rfl⟩,rfl⟩ ?_ ?_)
  ·intro p c q J q_u4 e q_r1;obtain⟨⟨z3,rfl⟩,rfl⟩:=q_r1;have hc:c∈cs:=by rw[e];simp
   have hpl:(Cy p m).length<=60:=by have h2:=congrArg List.length e;rw[AAF,AA2] at h2;exact Ls h2 (MV p m) hl rfl
   have hsn:Cy (p++[c]) m=if HB m c then Cy p m++[c.1] else Cy p m:=by
    unfold Cy nms;rw[ABN,List.filter_cons];cases HB m c with
    |true=>rw[AAQ];rfl
    |false=>exact congrArg _ (AAV _)
   have hcomp:(ev C.O (.comp (.var 4) [4] (.sub (.var 3) (.cst (.int 2))) (.cons (.bop .And (.cons (.cmp .Eq (.sub (.var 4) (.cst (.int 0))) (.cst (.str (ACC "set")))) (.cons (.cmp .Eq (.sub (.var 4) (.cst (.int 1))) (.var 1)) .nil))) .nil))).v (K (aj (.ref 0)) (aj (vc c)) au au) [.list ((Cy p m).map vs)]=aj (.d (.list ((c.2.2.filter (EA m)).map Ba.data))) :=
    CF Ba.data (EA m) Ba.data (BS (Ae rfl rfl (CQ c)) rfl) (AAC (hg c hc).deeds (by decide)) (λd _=>FG (Cz (An (Ae rfl rfl (Di d)) (congrArg (λs=>aj (V.d (.str s))) Ih) GB) λ_=>An (Ae rfl rfl (Dj d)) rfl (cA d.mark m))) (λd _ _=>rfl)
   have hs:decide (((c.2.2.filter (EA m)).length:Int)>0)=HB m c:=by
    unfold HB;cases h:c.2.2.any (EA m) with
    |true =>
     obtain⟨d,h1,h2⟩:=ADR.mp h;have:=List.length_pos_of_mem (AA4.mpr ⟨h1,h2⟩);exact AAI (Zm this)
    |false =>
     exact(List.filter_eq_nil_iff.mpr λd hd=>List.any_eq_false.mp h d hd)▸rfl
   refine AG ((An (AU (Az hcomp) (CK.trans (by rw[AAB]))) rfl NU).trans (congrArg aj hs)) (λh=>?_) λh=>?_
   ·refine Be rfl (Az (Ae rfl rfl (Bb c))) rfl (lmt (AAS hpl (by decide))) (Ab (Ab (AB _ rfl ⟨_,rfl⟩ ?_)));exact hsn▸(if_pos h)▸AAQ▸rfl
   ·refine Ab (Ab (AB _ rfl ⟨_,rfl⟩ ?_));rw[hsn,if_neg (h▸ABB)]
  intro J q_u1 q_r2;obtain⟨⟨z3,rfl⟩,rfl⟩:=q_r2;refine Bx rfl ?_;let St:List (List Nat)->Ac:=λfs=>[.list ((Cy cs m).map vs),.list (fs.map vs)]
  refine G8 vs (λp J U=>(∃z6,J=K (aj (.ref 0)) z3 (aj (.ref 1)) z6)/\St (p.filter op)=U) rfl ?_ (λ_ _=>.inl rfl) ⟨⟨au,rfl⟩,rfl⟩ ?_ ?_
  ·intro p J q_u2 q_r3 k ws hk;obtain⟨_,rfl⟩:=q_r3;obtain⟨rfl,rfl⟩:=ABK (AAJ.mp hk);rfl
  ·intro p n q J q_u4 e q_r4;obtain⟨⟨z6,rfl⟩,rfl⟩:=q_r4;have hpl:(p.filter op).length<=60:=by have h2:=congrArg List.length e;rw[AAF,AA2] at h2;exact Ls h2 (AAX op p) hsl rfl
   have hcomp:(ev C.O (.comp (.cmp .In (.var 6) (.fcall 28 (.cons (.var 0) (.cons (.lst (.cons (.var 7) .nil)) .nil)))) [7] (.var 2) (.cons (.cmp .NotEq (.var 7) (.var 6)) .nil))).v (K (aj (.ref 0)) z3 (aj (.ref 1)) (aj (vs n))) (St (p.filter op))=aj (.d (.list (((Cy cs m).filter λo=>!decide (o=n)).map λo=>.bool (gi o n)))):=by
    refine G5 ?_;rw[T8 vs (λo=>!decide (o=n)) (λo=>vb (gi o n)) rfl rfl (AAC hsl (by decide)) (λo _=>FG (An rfl rfl HJ)) (λo ho _=>?_),AAE]
    ·rfl
    ·have hon:=Ek ho;refine EO rfl (Fc (AY rfl rfl) (hgO ⟨o,hon⟩ _)) ?_;rw[XF,CE,gi_eq o hon n]
   refine AG (t:=op n) (Dp (EW (Az hcomp) (Lx _ _))) (λh=>?_) λh=>?_
   ·refine Be rfl rfl rfl (lmt (AAS hpl (by decide))) (Ab (Ab (AB _ rfl ⟨_,rfl⟩ ?_)));rw[ABN,ADM h];show [_,O.list ((p.filter op++[n]).map vs)]=_;exact AAQ▸rfl
   ·refine Ab (Ab (AB _ rfl ⟨_,rfl⟩ ?_));rw[ABN,List.filter_cons_of_neg (h▸ABB)];show St (p.filter op++[])=_;rw[AAV]
  ·intro J q_u1 q_r5;obtain⟨⟨z6,rfl⟩,rfl⟩:=q_r5;exact AE (AU (Az rfl) (Dr (Qi rfl) (by have:=AAX op (Cy cs m);exact YS this hsl rfl))) ⟨rfl,rfl⟩)) λv U' q_2 h=>?_
 obtain⟨k2,k3⟩:=q_2;rw[k2,k3] at h;refine(AB (Av ((Cy cs m).filter op)) ⟨BY _ ((List.Nodup.sublist ((List.filter_sublist (p:=HB m)).map (λc:Ch=>c.1)) nd).filter _),λn=>?_⟩ (by rw[(Ah _).length_eq];exact AAC (AAX _ _) hsl) (λU=>(FA.seal h rfl).any (ae (CC _ _) (ae (CC _ _) AC))));rw[(Ah _).mem_iff,AA4];refine and_congr_right λhn=>?_;rw[ACV,List.any_eq_false];constructor
 ·intro h q_r6;refine oEA q_r6 λo ho hb=>?_;have hne:o≠n:=λe=>by rw[e] at hb;exact absurd (hb.lower nd ht) (Int.lt_irrefl _)
  refine h o (AA4.mpr ⟨ho,by rw[AAT hne];rfl⟩) ((gi_eq o (Ek ho) n).trans (AAI (((hgr ⟨o,Ek ho⟩).1 n).mpr (.inr hb))))
 ·intro h o ho q;refine oA (AA4.mp ho) λh1 h2=>?_;have h3:=Ek h1;have hne:o≠n:=λe=>by rw[AAI e] at h2;cases h2
  exact h (iEA o h1 ((((hgr ⟨o,h3⟩).1 n).mp (AAG ((gi_eq o h3 n).symm.trans q))).resolve_left λe=>hne e.symm))
theorem Xl{κ β:Type}[DecidableEq κ](h:List (κ×β))(k k':κ)(v:β):Aq (Ci h k v) k'=if k'=k then aj v else Aq h k':=by
 unfold Ci;rw[Hy];cases e:Aq h k with
 |none =>
  show Aq (h++[(k,v)]) k'=_;by_cases q:k'=k
  ·subst q;rw[if_pos rfl,Ge e,Bl,if_pos rfl]
  ·rw[if_neg q];cases e':Aq h k' with
   |none=>rw[Ge e',Bl,if_neg λr=>q r.symm];rfl
   |some x=>exact JD e'
 |some d =>
  show Aq (h.map λp=>if p.1=k then(p.1,v) else p) k'=_;have key:∀h:List (κ×β),Aq (h.map λp=>if p.1=k then(p.1,v) else p) k'=if k'=k then(Aq h k').map λ_=>v else Aq h k':=by
   intro h
   induction h with
   |nil=>show au=_;split<;>rfl
   |cons p h ih =>
    rw[ABP,Bl,Bl,ih];by_cases q:k'=k
    ·subst q;rw[if_pos rfl,if_pos rfl];by_cases r:p.1=k'
     ·exact(if_pos r)▸(if_pos r)▸(if_pos r)▸rfl
     ·rw[if_neg r,if_neg r,if_neg r]
    ·rw[if_neg q,if_neg q];by_cases r:p.1=k
     ·rw[if_pos r,if_neg λs=>q (s.symm.trans r),if_neg λs=>q (s.symm.trans r)]
     ·rw[if_neg r]
  rw[key h];by_cases q:k'=k
  ·subst q;exact(if_pos rfl)▸(if_pos rfl)▸e▸rfl
  ·rw[if_neg q,if_neg q]
section
variable{O:Orc}{kvs:List ((Str×Int)×PyData)}{m:Mk}
theorem Y2(h1:AT J i=aj (.ref k))(h2:(ev O es).row J U=aj [vm m,z])(h3:U[k]? = aj (.dictP kvs)):(ev O (.meth .get (.var i) es)).v J U=aj (dfl (Aq kvs (mk2 m)) z):=by show((AT J i).bind λx=>((ev O es).row J U).bind λys=>Y3 U x ys)=_;rw[h1,bs,h2,bs];show Vf U[k]? (vm m) z=_;exact h3▸rfl
end
noncomputable abbrev oS(st:List (Mk×List (List Nat))):O:=.dictP (Bk mk2 dl st)
theorem Vg(st:List (Mk×List (List Nat)))(m:Mk):dfl (Aq (Bk mk2 dl st) (mk2 m)) (.d (.list []))=.d (dl ((Aq st m).getD [])):=by rw[AO dl DD];cases Aq st m<;>rfl
section
variable{cs F:List Ch}{gs:List (List Nat×List (List Nat))}
theorem HR(h:Wov cs F gs)(τ:Ac):FN 2 40 [self] (W F gs (hts [] F)++τ) (.d (dl (Av (nms cs)))) (W F gs (hts [] F)++τ) :=
 FA.tail (FA.seal' (NB h) rfl (Fy 3) ⟨_,rfl,AAL _,by rw[AAE];rfl⟩) rfl (ae DF AC) (Fy 3)
theorem UH(h:Wov cs F gs)(τ:Ac):FN 5 47 [self] (W F gs (hts [] F)++τ) (.d (ER (Aw (Am cs)))) (W F gs (hts [] F)++τ):=FA.tail (fn_told' h) rfl (ae DF AC) (Fy 3)
structure mQ(sn:Mk->List Nat->Bool)(p:List (List Nat))(n:List Nat)(pd:List Ba)(B:Nat)(st:List (Mk×List (List Nat))):Prop where
 get:∀m,(Aq st m).getD []=p.filter (sn m)++(if pd.any (EA m) then [n] else [])
 len:st.length<=B
theorem Pb(h:Wov cs F gs)(τ:Ac):∃st:List (Mk×List (List Nat)),(∀m,(Aq st m).getD []=(Av (nms cs)).filter λn=>decide (n∈Cy cs m))/\FN 3 49 [self] (W F gs (hts [] F)++τ) (.ref (W F gs (hts [] F)++τ).length) ((W F gs (hts [] F)++τ)++[oS st]):=by
 let U0:=W F gs (hts [] F)++τ;let sn:Mk->List Nat->Bool:=λm n=>decide (n∈Cy cs m);have ndL:=D8 (BY _ h.H.nd);have hLl:(Av (nms cs)).length<=60:=by rw[(Ah _).length_eq,AAB];exact h.len
 let C:=C0 2;have at0:∀{o:O},(U0++[o])[U0.length]? = aj o:=λ{o}=>by rw[AA6 (AAL _),ADF];rfl
 have set0:∀{o o':O},(U0++[o]).set U0.length o'=U0++[o']:=λ{o o'}=>by rw[List.set_append_right _ _ (AAL _),ADF];rfl
 refine AH (FN.ends (C:=C) (f:=49) (zs:=[self]) (U:=U0) (R:=λv U'=>∃st:List (Mk×List (List Nat)),(∀m,(Aq st m).getD []=(Av (nms cs)).filter (sn m))/\v=.ref U0.length/\U'=U0++[oS st]) (by unfold Pg;rfl) rfl (by decide) (by
  let K:Option V->Option V->Al:=λz2 z3=>[aj self,aj (.ref U0.length),z2,z3]
  refine Mn (EJ vs (λp J U=>∃st,mQ sn p [] [] (20*p.length) st/\(∃z2 z3,J=K z2 z3)/\U=U0++[oS st]) (SI.lst (.mcall Ai (by unfold mtP;kernel_rfl) ((Ad C.ok (.var 0)).v rfl) .nil (HR h (τ++[.dictP []]))) mm2) (AB [] ⟨λm=>rfl,ABF _⟩ (iEE au au rfl) rfl) ?_ ?_)
  ·intro p n q J q_u4 e q_r1;refine AS q_r1 λst S q_2 q_3=>?_;obtain⟨z2,z3,rfl⟩:=q_2;subst q_3;have hn:n∈nms cs:=(Ah _).mem_iff.mp (by rw[e];simp);have hnp:=λr=>by rw[e,ABW] at ndL;exact ndL.2.2 n r n (.head _) rfl
   refine oEA (AAP.mp hn) λc hc q_2=>?_;subst q_2;have hg:=h.gen c hc;have hpl:p.length<=60:=by have:=congrArg List.length e;rw[AAF,AA2] at this;exact V2 this hLl rfl
   refine AW (λd=>.d d.data) (λpd J U=>∃st,mQ sn p c.1 pd (20*p.length+pd.length) st/\(∃z3,J=K (aj (vs c.1)) z3)/\U=U0++[oS st]) (BS (Ae (Ae (Dm rfl) rfl (Cp rfl (by rw[AO Ch.data BO,N7 h.w.nd (h.perm.mem_iff.mpr hc)];rfl))) rfl (CQ c)) rfl) (AB st ⟨λm=>(S.get m).trans rfl,S.len⟩ ⟨_,rfl⟩ rfl) ?_ ?_
   ·intro pd d qd J q_u4 ed q_r2;refine AS q_r2 λst S q_2 q_3=>?_;obtain⟨z3,rfl⟩:=q_2;subst q_3;have hw:C.t (.cmp .Eq (.sub (.var 3) (.cst (.int 0))) (.cst (.str (ACC "set")))) (K (aj (vs c.1)) (aj (.d d.data))) (U0++[oS st])=aj (decide (d.word=Jt)):=An (Ae rfl rfl (Di d)) (congrArg (λs=>aj (V.d (.str s))) Ih) GB;have any_sn:∀m,(pd++[d]).any (EA m)=(pd.any (EA m)||EA m d):=λm=>by rw[List.any_append];congr 1;exact Bool.or_false _
    have hlen:20*p.length+(pd++[d]).length=20*p.length+pd.length+1:=by rw[AAF];rfl
    have hget:∀{m:Mk},d.mark=aj m->(ev C.O (.meth .get (.var 1) (.cons (.sub (.var 3) (.cst (.int 1))) (.cons (.lst .nil) .nil)))).v (K (aj (vs c.1)) (aj (.d d.data))) (U0++[oS st])=aj (.d (dl ((Aq st m).getD []))):=λ{m} em=>by rw[Y2 rfl (AY ((Ae rfl rfl (Dj d)).trans (by rw[em])) rfl) at0,Vg]
    by_cases ew:d.word=Jt
    ·obtain⟨m,em⟩:∃m,d.mark=aj m:=by
      rcases(hg.ok d (by rw[ed];simp)).shp with⟨e1,_⟩|⟨_,m,l,e2,_⟩|⟨e1,m,e2⟩
      ·exact absurd (ew.symm.trans e1) (by decide)
      ·exact⟨m,e2⟩
      ·exact⟨m,e2⟩
     have sd:∀m',EA m' d=decide (m=m'):=λm'=>by unfold EA;rw[AAI ew,em,Bool.true_and];exact decide_eq_decide.mpr ⟨λe=>AAA e,λe=>e▸rfl⟩
     have hin:(c.1∈(Aq st m).getD [])↔pd.any (EA m)=true:=by
      rw[S.get m,AA0];constructor
      ·rintro(r|r)
       ·exact absurd (AA4.mp r).1 hnp
       ·by_cases q:pd.any (EA m)=true
        ·exact q
        ·rw[if_neg q] at r;cases r
      ·intro r;exact(if_pos r)▸.inr (.head _)
     refine AG (Cz hw λ_=>An rfl (hget em) (by rw[Lk,CE];rfl)) (λhh=>?_) λhh=>?_
     ·have hno:pd.any (EA m)=false:=by
       cases q:pd.any (EA m) with
       |false=>rfl
       |true=>exact absurd (hin.mpr q) (ABG (by have:=(AAH.mp hh).2;rw[ACV] at this;exact this))
      have hgl:((Aq st m).getD []).length<=60:=by rw[S.get m,hno,if_neg (by decide),AAV];exact AAC (AAX _ _) hpl
      have hpd:pd.length<=20:=by have:=congrArg List.length ed;rw[AAF,AA2] at this;exact V2 this hg.deeds rfl
      refine EI (w:=mk2 m) (Af (hget em) (y:=.d (dl [c.1])) rfl ((Ki _ _ ?_).trans (by rw[<-AAQ]))) rfl ((Ae rfl rfl (Dj d)).trans (em▸rfl)) at0 (by rw[Bv];exact AAS (show st.length<=10000 by exact lA S.len hpl hpd rfl) (by decide)) (Ab (Ab (BT _ rfl (Ci st m ((Aq st m).getD []++[c.1])) ⟨λm'=>?_,?_⟩ ⟨_,rfl⟩ ?_)))
      ·rw[AAB,AAB];exact AAC (show _+1<=100 by exact AAS ‹_› (ACD rfl)) (by decide)
      ·rw[Xl,any_sn,sd];by_cases q:m'=m
       ·subst q;rw[if_pos rfl,AAI rfl,Bool.or_true,if_pos rfl];show(Aq st m').getD []++[c.1]=_;rw[S.get m',hno,if_neg (by decide),AAV]
       ·rw[if_neg q,AAT λr=>q r.symm,Bool.or_false];exact S.get m'
      ·exact hlen▸AAC (FU _ _ _) (ABS S.len)
      ·rw[Bu dl DD,set0]
     ·have hh:=by rw[AAI ew,Bool.true_and] at hh;exact AAG (by cases r:decide (c.1∈(Aq st m).getD []) with|true=>rfl|false=>rw[r] at hh;cases hh)
      refine Ab (Ab (BT _ rfl st ⟨λm'=>?_,by rw[hlen];exact AB3 S.len⟩ ⟨_,rfl⟩ rfl));rw[any_sn,sd,S.get m'];by_cases q:m=m'
      ·subst q;rw[hin.mp hh];rfl
      ·rw[AAT q,Bool.or_false]
    ·refine BN (Cz (q:=true) hw (λq=>absurd (AAG q) ew)) (by rw[AAT ew];rfl) (Ab (BT _ rfl st ⟨λm=>?_,by rw[hlen];exact AB3 S.len⟩ ⟨_,rfl⟩ rfl));rw[any_sn,show EA m d=false by unfold EA;rw[AAT ew];rfl,Bool.or_false];exact S.get m
   ·intro J q_u1 q_r3;refine AS q_r3 λst S q_2 q_3=>?_;obtain⟨z3,rfl⟩:=q_2;subst q_3;refine Ab (BT _ rfl st ⟨λm=>?_,?_⟩ (iEE _ _ rfl) rfl)
    ·rw[S.get m,ABN];show _=(p.filter (sn m)++[c.1].filter (sn m))++[];rw[AAV,List.filter_cons];have:sn m c.1=c.2.2.any (EA m):=by
      by_cases q:c.2.2.any (EA m)=true
      ·exact q▸AAI (AAZ (AA4.mpr ⟨hc,q⟩))
      ·rw[Bool.not_eq_true] at q;rw[q];refine AAT λr=>oEA (AAP.mp r) λc' hc' e'=>oA (AA4.mp hc') λh1 h2=>?_;rw[I7 h.H.nd h1 hc e'] at h2;exact ABB (q.symm.trans h2)
     exact this▸rfl
    ·have:=hg.deeds;have:=S.len;exact AAF▸(show [c.1].length=1 from rfl)▸lC this ‹_›
  ·intro J q_u1 q_r4;refine AS q_r4 λst S q_2 q_3=>?_;obtain⟨z2,z3,rfl⟩:=q_2;subst q_3;exact AE rfl (AB st (λm=>(S.get m).trans (AAV _)) rfl rfl))) λv U' q_2 hf=>?_
 refine AS q_2 λst k1 k2 k3=>?_;rw[k2,k3] at hf;exact iEA st k1 hf
end
noncomputable abbrev gdL(gs:List (List Nat×List (List Nat)))(o:List Nat):List (List Nat):=(Aq gs o).getD []
noncomputable def opB(gs:List (List Nat×List (List Nat)))(ns:List (List Nat))(n:List Nat):Bool:=!ns.any λo=>decide (n∈gdL gs o)
section
variable{cs F:List Ch}{gs:List (List Nat×List (List Nat))}
theorem Xx{U:Ac}(hσ:U[1]? = aj (oG gs)){ns:List (List Nat)}(hn:∀n∈ns,n∈gs.map (·.1))(hl:ns.length<=60):FN 2 50 [self,.d (dl ns)] U (.ref U.length) (U++[.list ((ns.filter (opB gs ns)).map vs)]):=by
 let C:=C0 1;have at0:∀{o:O},(U++[o])[U.length]? = aj o:=λ{o}=>by rw[AA6 (AAL _),ADF];rfl
 have set0:∀{o o':O},(U++[o]).set U.length o'=U++[o']:=λ{o o'}=>by rw[List.set_append_right _ _ (AAL _),ADF];rfl
 have at1:∀{o:O},(U++[o])[1]? = aj (oG gs):=λ{o}=>(ABE (AAM.mp hσ).1).trans hσ;refine AH (FN.ends (C:=C) (f:=50) (zs:=[self,.d (dl ns)]) (U:=U) (R:=λv U'=>v=.ref U.length/\U'=U++[.list ((ns.filter (opB gs ns)).map vs)]) (by unfold Pg;rfl) rfl (AAL _) (by
  let K:Option V->Al:=λz3=>[aj self,aj (.d (dl ns)),aj (.ref U.length),z3,au]
  refine Bx rfl (AW vs (λp J U'=>(∃z3,J=K z3)/\U++[.list ((p.filter (opB gs ns)).map vs)]=U') (EV rfl) ⟨⟨au,rfl⟩,rfl⟩ ?_ ?_)
  ·rintro p n q J _ e ⟨⟨z3,rfl⟩,rfl⟩;have hpl:(p.filter (opB gs ns)).length<=60:=by have h2:=congrArg List.length e;rw[AAF,AA2] at h2;exact Ls h2 (AAX (opB gs ns) p) hl rfl
   have hcomp:(ev C.O (.comp (.cmp .In (.var 3) (.sub (.attr (ACC "grounds") (.var 0)) (.var 4))) [4] (.var 1) .nil)).v (K (aj (vs n))) (U++[.list ((p.filter (opB gs ns)).map vs)])=aj (.d (.list (ns.map λo=>.bool (decide (n∈gdL gs o))))):=by rw[CF (λt=>.str (Tx t)) (λ_=>true) (λo=>.bool (decide (n∈gdL gs o))) (BS rfl rfl) (AAC hl (by decide)) (λ_ _=>rfl) (λo ho _=>?_),Bz];obtain⟨ls,hls⟩:=AN.mpr (hn o ho);refine EO (y:=.d (dl (gdL gs o))) rfl (Ae (Dz rfl) rfl (Cp at1 (by rw[AO dl BO,gdL,hls];rfl))) ?_;rw[XF,CE]
   refine AG (t:=opB gs ns n) (Dp (EW (Az hcomp) (Lx _ _))) (λh=>?_) λh=>?_
   ·refine Be rfl rfl at0 (lmt (AAS hpl (by decide))) (Ab (Ab (AB _ rfl ⟨_,rfl⟩ ?_)));rw[set0,ABN,ADM h,AAQ];rfl
   ·refine Ab (Ab (AB _ rfl ⟨_,rfl⟩ ?_));rw[ABN,List.filter_cons_of_neg (h▸ABB)];show U++[O.list ((p.filter (opB gs ns)++[]).map vs)]=_;rw[AAV]
  ·rintro J _ ⟨⟨z3,rfl⟩,rfl⟩;exact AE rfl ⟨rfl,rfl⟩)) λv U' q_2 hf=>?_
 obtain⟨k2,k3⟩:=q_2;rw[k2,k3] at hf;exact hf
noncomputable def onF(cs:List Ch)(gs:List (List Nat×List (List Nat)))(m:Mk):List (List Nat):=((Av (nms cs)).filter λn=>decide (n∈Cy cs m)).filter (opB gs ((Av (nms cs)).filter λn=>decide (n∈Cy cs m)))
theorem ZI(h:Wov cs F gs)(m:Mk):(onF cs gs m).length<=60:=by have h2:=AAX (λn=>decide (n∈Cy cs m)) (Av (nms cs));rw[(Ah _).length_eq,AAB] at h2;exact AAC (AAX (opB gs ((Av (nms cs)).filter λn=>decide (n∈Cy cs m))) ((Av (nms cs)).filter λn=>decide (n∈Cy cs m))) (AAC h2 h.len)
theorem ZH(h:Wov cs F gs)(m:Mk):Opn cs m (onF cs gs m):=by
 have mem:∀o,o∈((Av (nms cs)).filter λn=>decide (n∈Cy cs m))↔o∈Cy cs m:=λo=>by rw[AA4,(Ah _).mem_iff];exact⟨λq=>AAG q.2,λq=>⟨Ek q,AAI q⟩⟩
 have ground:∀o∈Cy cs m,∀n,n∈gdL gs o↔Blw cs o n:=λo ho n=>by
  have hoF:o∈gs.map (·.1):=by rw[h.w.gk];exact(h.perm.map _).mem_iff.mpr (Ek ho)
  refine oE (AN.mpr hoF) λls hls=>?_;obtain⟨pr,hpr,epr,epl⟩:∃pr∈gs,pr.2=ls/\pr.1=o:=by unfold Aq at hls;exact oEA (ABL.mp hls) λpr e1 e2=>AB pr (ABH e1) e2 (by simpa using AC6 e1)
  have:=(h.w.gin pr hpr).2 n;rw[epr,epl] at this;rw[gdL,hls];exact this.trans ⟨Blw.mono λc hc=>h.perm.mem_iff.mp hc,Blw.mono λc hc=>h.perm.mem_iff.mpr hc⟩
 refine⟨((BY _ h.H.nd).filter _).filter _,λn=>?_⟩;unfold onF;rw[AA4,mem];refine and_congr_right λhn=>?_;unfold opB;rw[ACV,List.any_eq_false];constructor
 ·rintro q ⟨o,ho,hb⟩;exact q o ((mem o).mpr ho) (AAI ((ground o ho n).mpr hb))
 ·intro q o ho r;have ho:=(mem o).mp ho;exact q (iEA o ho ((ground o ho n).mp (AAG r)))
end
structure ShK(D L:Nat)(d:PyData):Prop where
 able:d.showable=true
 nod:d.hasDict=false
 dep:d.depth<=D
 len:d.shown.length<=L
theorem ShK.str(hl:l.length<=n)(hc:∀c∈l,c<4294967296):ShK 0 (10*n+2) (.str (Tx l)):=by refine⟨by simp only[PyData.showable],by simp only[PyData.hasDict],by simp only[PyData.depth,AAL],?_⟩;simp only[PyData.shown];have:=StrLaws.reprText_len (Tx l) (by rw[IJ];exact hc);rw[GD] at this;exact kY this hl
theorem ShK.int(h:i.natAbs<1000):ShK 0 13 (.int i):=by
 refine⟨?_,by simp only[PyData.hasDict],by simp only[PyData.depth,AAL],PyData.shown_int_le (ABT h (by decide))⟩;simp only[PyData.showable];refine AAI ?_;by_cases h0:i.natAbs=0
 ·rw[h0];decide
 ·exact ABT ((Nat.log2_lt (k:=10) h0).mpr (ABT h (by decide))) (by decide)
theorem ShK.tup(h1:ShK D L a)(h2:ShK D L' b):ShK (D+1) (L+L'+7) (.tuple [a,b]):=by
 refine⟨by simp only[PyData.showable,PyData.showableAll,h1.able,h2.able,Bool.and_self],by simp only[PyData.hasDict,PyData.hasDictAll,h1.nod,h2.nod,Bool.or_self],?_,?_⟩
 ·simp only[PyData.depth,PyData.depthAll];have:=h1.dep;have:=h2.dep;exact gW ‹_› this
 ·simp only[PyData.shown,PyData.shownAll];have h3:=tupleText_len_le [a.shown,b.shown];simp only[ABP,List.map_nil,List.sum_cons,List.sum_nil,AA2,List.length_nil] at h3;have:=h1.len;have:=h2.len;omega
theorem ShK.all:∀ds:List PyData,(∀d∈ds,ShK D L d)->PyData.showableAll ds=true/\PyData.hasDictAll ds=false/\PyData.depthAll ds<=D/\((PyData.shownAll ds).map (·.length)).sum+2*(PyData.shownAll ds).length<=ds.length*(L+2)
 |[],_=>by simp only[PyData.showableAll,PyData.hasDictAll,PyData.depthAll,PyData.shownAll];exact⟨trivial,trivial,ABF _,ABF _⟩
 |d::ds,h=>by refine K2 (ShK.all ds λx hx=>h x (.tail _ hx)) λa1 a2 a3 a4=>?_;have hd:=h d (.head _);refine⟨by simp only[PyData.showableAll,hd.able,a1,Bool.and_self],by simp only[PyData.hasDictAll,hd.nod,a2,Bool.or_self],by simp only[PyData.depthAll];exact Nat.max_le.mpr ⟨hd.dep,a3⟩,?_⟩;simp only[PyData.shownAll,ABP,List.sum_cons,AA2];have:=hd.len;rw[Nat.add_mul];exact gU a4 this
theorem ShK.lst(h:∀d∈ds,ShK D L d)(hn:ds.length<=n):ShK (D+1) (n*(L+2)+3) (.list ds):=by
 refine K2 (ShK.all ds h) λa1 a2 a3 a4=>⟨by simp only[PyData.showable,a1],by simp only[PyData.hasDict,a2],by simp only[PyData.depth];exact Nat.lt_succ_of_le ‹_›,?_⟩
 simp only[PyData.shown];exact gV a4 (listText_len_le (PyData.shownAll ds)) (Nat.mul_le_mul_right (L+2) hn)
theorem ShK.shw(h:ShK D L d)(hd:D<=50)(hl:L<=line):Shw d:=⟨h.able,h.nod,AAC h.dep hd,AAC h.len hl⟩
section
variable{O:List Ch}{c:Ch}{m:Mk}
theorem Wu{c:Nat}(h:c∈ES):c<4294967296:=ABT (MS c h) (by decide)
theorem PP(h:Bt t=true):ShK 0 122 (.str (Tx t)):=ShK.str ((Cj t).mp h).2.1 λc hc=>Wu (((Cj t).mp h).2.2 c hc)
theorem PQ(h:BM t):ShK 0 2002 (.str (Tx t)):=ShK.str h.len λc hc=>AAS (h.ok c hc).2 (by decide)
theorem Yn(hg:∀c∈O,GenCh c)(hm:m∈(Aw O).1):Bt m.1=true/\m.2.natAbs<1000:=by rw[Ej] at hm;have hm:=(IW O []).mem_iff.mp hm;rw[AAV] at hm;refine oEA (List.mem_flatMap.mp hm) λc hc h=>oAA (Jb.mp h) λh1 h2 h3=>?_;have h4:=IH c.2.2;have h5:=(hg c hc).deeds;exact⟨h1▸(hg c hc).name,by omega⟩
theorem LC(hg:∀c∈O,GenCh c)(hm:m∈(Aw O).1):ShK 1 142 (AF (aj m)):=(PP (Yn hg hm).1).tup (.int (Yn hg hm).2)
theorem ZE{κ β:Type}[DecidableEq κ]{h:List (κ×β)}{k:κ}{v:β}{p:κ×β}(hp:p∈Ci h k v):p.2=v\/p∈h:=by
 unfold Ci at hp;split at hp
 ·refine oEA (AAP.mp hp) λq hq q_2=>?_;subst q_2;split
  ·exact .inl rfl
  ·exact .inr hq
 ·rcases AA0.mp hp with q|q
  ·exact .inr q
  ·exact(AAJ.mp q)▸.inl rfl
theorem VY(h:∀p∈s.2.1,BM p.2)(hd:De d):∀p∈(stD nm k d s).2.1,BM p.2:=by
 have ht:d.word=Ix\/BM (d.text.getD []):=by
  rcases hd.shp with⟨_,l,e2,hl⟩|⟨_,_,l,_,e3,hl⟩|⟨e,_⟩
  ·exact .inr (e2▸hl)
  ·exact .inr (e3▸hl)
  ·exact .inl e
 have put:∀k':Mk,d.word≠Ix->∀p∈Ci s.2.1 k' (d.text.getD []),BM p.2:=λk' hw p hp=>by
  rcases ZE hp with q|q
  ·exact q▸ht.resolve_left hw
  ·exact h p q
 unfold stD;split
 ·rename_i q
  exact put _ λe=>by have:=AAG q;rw[e] at this;exact absurd this (by decide)
 ·split
  ·rename_i q
   exact put _ λe=>by rw[e] at q;exact absurd q (by decide)
  ·exact h
theorem MI(nm:List Nat):∀(ds:List Ba) (k:Nat) (s:Sm),(∀p∈s.2.1,BM p.2)->(∀d∈ds,De d)->∀p∈(Gz nm ds k s).2.1,BM p.2
 |[],_,_,h,_=>h
 |d::ds,k,s,h,hd=>MI nm ds _ _ (VY h (hd d (.head _))) λx hx=>hd x (.tail _ hx)
theorem Zs(hg:∀c∈O,GenCh c):∀p∈(Aw O).2.1,BM p.2:=by
 have key:∀(O:List Ch) (s:Sm),(∀p∈s.2.1,BM p.2)->(∀c∈O,GenCh c)->∀p∈(O.foldl stC s).2.1,BM p.2:=by
  intro O
  induction O with
  |nil=>exactλ_ h _=>h
  |cons c O ih=>exactλs h hg=>ih _ (MI c.1 c.2.2 0 s h (hg c (.head _)).ok) λx hx=>hg x (.tail _ hx)
 exact key O _ (λp h=>nomatch h) hg
theorem bR{κ β:Type}[DecidableEq κ]{h:List (κ×β)}{k:κ}{v:β}(e:Aq h k=aj v):∃p∈h,p.2=v:=by unfold Aq at e;exact oEA (ABL.mp e) λp e1 e2=>(iEA p (ABH e1) e2)
theorem L9(hg:∀c∈O,GenCh c)(hy:y∈Bm (Aw O)):y.1∈(Aw O).1/\BM y.2:=by refine oEA (AAP.mp hy) λm hm q_2=>?_;subst q_2;have hm:=(AA4.mp hm).1;refine⟨hm,?_⟩;refine oE ((Ef hg).has m hm) λl e=>?_;rw[e];refine oEA (bR e) λp hp q_2=>?_;subst q_2;exact Zs hg p hp
theorem IB(hg:∀c∈O,GenCh c)(hl:O.length<=60):(Aw O).1.length<=1200:=AAC (Ef hg).row (Im hl rfl)
theorem IO(hg:∀c∈O,GenCh c)(hl:O.length<=60):(Bm (Aw O)).length<=1200:=AAC Fh (IB hg hl)
theorem Wv(hg:∀c∈O,GenCh c)(hl:O.length<=60):Shw (dms (Aw O).1):=by refine(ShK.lst (D:=1) (L:=142) (λd hd=>?_) (lml (IB hg hl))).shw (by decide) (by decide);refine oEA (AAP.mp hd) λm hm q_2=>?_;subst q_2;exact LC hg hm
theorem SP(hg:∀c∈O,GenCh c)(hl:O.length<=60):Shw (ER (Aw O)):=by refine(ShK.lst (D:=2) (L:=2151) (λd hd=>?_) (lml (IO hg hl))).shw (by decide) (by decide);refine oEA (AAP.mp hd) λy hy q_2=>?_;subst q_2;refine oA (L9 hg hy) λh1 h2=>?_;have h3:=PQ h2;exact(LC hg h1).tup ⟨h3.able,h3.nod,AAC h3.dep (by decide),h3.len⟩
theorem SQ(hg:∀c∈O,GenCh c)(hl:O.length<=60):Shw (dl ((Bm (Aw O)).map (·.2))):=by refine(ShK.lst (D:=0) (L:=2002) (λd hd=>?_) (lml (lml (IO hg hl)))).shw (by decide) (by decide);refine oEA (AAP.mp hd) λt ht q_2=>?_;subst q_2;refine oEA (AAP.mp ht) λy hy q_2=>?_;subst q_2;exact PQ (L9 hg hy).2
theorem MU(h:∀n∈ns,Bt n=true)(hl:ns.length<=60):ShK 1 7443 (dl ns):=by refine ShK.lst (L:=122) (λd hd=>?_) (lml hl);refine oEA (AAP.mp hd) λt ht q_2=>?_;subst q_2;exact PP (h t ht)
end
noncomputable abbrev duV(on:Mk->List (List Nat))(m:Mk):PyData:=.tuple [AF (aj m),dl (on m)]
noncomputable abbrev duL(on:Mk->List (List Nat))(p:List Pr):List PyData:=(p.filter λx=>decide (1<(on x.1).length)).map λx=>duV on x.1
theorem Hr(on:Mk->List (List Nat))(p:List Pr)(x:Pr):duL on (p++[x])=if 1<(on x.1).length then duL on p++[duV on x.1] else duL on p:=by
 unfold duL;rw[ABN,List.filter_cons,AAQ];by_cases q:1<(on x.1).length
 ·exact(if_pos q)▸(if_pos (AAI q))▸rfl
 ·exact(if_neg q)▸(if_neg ((AAT q)▸ABB))▸AAV _
section
variable{cs F:List Ch}{gs:List (List Nat×List (List Nat))}
theorem UJ(hσ:U[1]? = aj (oG gs)){ns:List (List Nat)}(hn:∀n∈ns,n∈gs.map (·.1))(hl:ns.length<=60):FN 2 50 [self,.d (dl ns)] U (.d (dl (ns.filter (opB gs ns)))) U :=
 FA.seal (Xx hσ hn hl) ⟨_,rfl,AAL _,by rw[AA6 (AAL _),ADF,AAE];rfl⟩
theorem KY(h:Wov cs F gs):FN 6 51 [self] (W F gs (hts [] F)) (.d (.list (duL (onF cs gs) (Bm (Aw (Am cs)))))) (W F gs (hts [] F)):=by
 let U0:=W F gs (hts [] F);let on:=onF cs gs;let T:=Bm (Aw (Am cs));have hO:=BW h.H.nd;have hs:=Ef λc hc=>h.gen c (hO.perm.mem_iff.mp hc);have hol:(Am cs).length<=60:=by rw[hO.perm.length_eq];exact h.len
 have hT:T.length<=10000:=AAC Fh (AAC hs.row (Im hol rfl));refine oEA (Pb h [.list []]) λst s1 s2=>?_;let C:=C0 5;let St:List Pr->Ac:=λp=>U0++[.list ((duL on p).map .d),oS st];have hq:FN 6 51 [self] U0 (.ref 3) (U0++[.list ((duL on T).map .d),oS st]):=by
  refine AH (FN.ends (C:=C) (f:=51) (zs:=[self]) (R:=λv U'=>v=.ref 3/\U'=St T) (by unfold Pg;rfl) rfl (by decide) (by
   let K:Option V->Option V->Al:=λz3 z4=>[aj self,aj (.ref 3),aj (.ref 4),z3,z4]
   refine Bx rfl (AD rfl (.mcall Ai (by unfold mtP;kernel_rfl) ((Ad C.ok (.var 0)).v rfl) .nil (s2.more (by decide))) ?_);refine EJ (λx=>.d (prD x)) (λp J U=>(∃z3 z4,J=K z3 z4)/\U=St p) (SI.lst (.mcall Ai (by unfold mtP;kernel_rfl) ((Ad C.ok (.var 0)).v rfl) .nil (UH h [.list [],oS st])) mm2) ⟨(iEE au au rfl),rfl⟩ ?_ ?_
   ·intro p x q J q_u4 e q_r1;obtain⟨⟨z3,z4,rfl⟩,rfl⟩:=q_r1;have hpl:(duL on p).length<=10000:=by have h1:=AAX (λx:Pr=>decide (1<(on x.1).length)) p;have h2:=congrArg List.length e;rw[AAF,AA2] at h2;exact lml (Ls h2 h1 hT rfl)
    have hsub:∀n∈((Av (nms cs)).filter λn=>decide (n∈Cy cs x.1)),n∈gs.map (·.1):=λn hn=>by exact h.w.gk▸(h.perm.map _).mem_iff.mpr ((Ah _).mem_iff.mp (AA4.mp hn).1)
    have hsl:=by have h2:=AAX (λn=>decide (n∈Cy cs x.1)) (Av (nms cs));rw[(Ah _).length_eq,AAB] at h2;exact AAC h2 h.len
    have hx:∀{z4:Option V} {U:Ac},(ev C.O (.sub (.var 3) (.cst (.int 0)))).v (K (aj (.d (prD x))) z4) U=aj (vm x.1):=Ae rfl rfl rfl;have hget:(ev C.O (.meth .get (.var 2) (.cons (.sub (.var 3) (.cst (.int 0))) (.cons (.lst .nil) .nil)))).v (K (aj (.d (prD x))) z4) (St p)=aj (.d (dl ((Av (nms cs)).filter λn=>decide (n∈Cy cs x.1)))):=by rw[Y2 rfl (AY hx rfl) rfl,Vg,s1]
    refine AD (v:=.d (dl (on x.1))) rfl (.mcall Ai (by unfold mtP;kernel_rfl) ((Ad C.ok (.var 0)).v rfl) ((Ad C.ok _).row (Az hget)) ((UJ rfl hsub hsl).more (by decide))) (AG (An (AU (Az rfl) (CK.trans (by rw[AAB]))) rfl NU) (λhh=>?_) λhh=>?_)
    ·have hh:=AAG hh;refine Be rfl (Az (Dk (AY hx rfl) rfl)) rfl (lmt (AAS hpl (by decide))) (Ab (Ab (AB _ rfl (iEE _ _ rfl) ?_)));show U0++[O.list ((duL on p).map .d++[V.d (duV on x.1)]),oS st]=U0++[O.list ((duL on (p++[x])).map .d),oS st];rw[Hr,if_pos (by exact Int.ofNat_le.mp ‹_›),AAQ];rfl
    ·have hh:=ABG hh;refine Ab (Ab (AB _ rfl (iEE _ _ rfl) ?_));show U0++[O.list ((duL on p).map .d),oS st]=U0++[O.list ((duL on (p++[x])).map .d),oS st];rw[Hr,if_neg (Zj hh)]
   ·intro J q_u1 q_r2;obtain⟨⟨z3,z4,rfl⟩,rfl⟩:=q_r2;exact AE rfl ⟨rfl,rfl⟩)) λv U' q_2 hf=>?_
  obtain⟨k2,k3⟩:=q_2;rw[k2,k3] at hf;exact hf
 exact FA.seal hq ⟨duL on T,rfl,AAL _,rfl⟩
theorem KZ(h:Wov cs F gs):FN 2 40 [self] (W F gs (hts [] F)) (.d (dl (Av (nms cs)))) (W F gs (hts [] F)):=by have:=HR h [];rw[AAV] at this;exact this
theorem N9(h:Wov cs F gs):FN 6 48 [self] (W F gs (hts [] F)) (.d (dl ((Bm (Aw (Am cs))).map (·.2)))) (W F gs (hts [] F)) :=
 FA.seal (Q9 h) ⟨_,rfl,AAL _,by rw[AAE,AAE];rfl⟩
noncomputable def Mz(cs:List Ch)(gs:List (List Nat×List (List Nat))):List PyData :=
 [dms (Aw (Am cs)).1,ER (Aw (Am cs)),dl (Av (nms cs)),dl ((Bm (Aw (Am cs))).map (·.2)),.list (duL (onF cs gs) (Bm (Aw (Am cs))))]
theorem ZG(m:Mk){n:List Nat}(hn:n∈onF cs gs m):n∈nms cs:=(Ah _).mem_iff.mp (AA4.mp (AA4.mp hn).1).1
theorem XI(h:Wov cs F gs):∀d∈Mz cs gs,Shw d:=by
 have hO:=BW h.H.nd;have hg:=λc hc=>h.gen c (hO.perm.mem_iff.mp hc);have hl:(Am cs).length<=60:=by rw[hO.perm.length_eq];exact h.len
 have nm:∀n∈nms cs,Bt n=true:=λn hn=>by refine oEA (AAP.mp hn) λc hc q_2=>?_;subst q_2;exact(h.gen c hc).name
 have hn:=MU (λn hn=>nm n ((Ah _).mem_iff.mp hn)) (by rw[(Ah _).length_eq,AAB];exact h.len);refine ae (Wv hg hl) (ae (SP hg hl) (ae (hn.shw (by decide) (by decide)) (ae (SQ hg hl) (ae ?_ AC))));refine(ShK.lst (D:=2) (L:=7592) (λd hd=>?_) (lml (AAC (AAX _ _) (IO hg hl)))).shw (by decide) (by decide);refine oEA (AAP.mp hd) λy hy q_2=>?_;subst q_2;exact(LC hg (L9 hg (AA4.mp hy).1).1).tup (MU (λn hn=>nm n (ZG _ hn)) (ZI h _))
end
noncomputable abbrev kp(d:PyData):PyData:=.tuple [d,.str d.shown]
def ShL(d:PyData):Prop:=Shw d/\Uj d=true
theorem PT(h:ShL d):Cl .repr U [.d d]=aj (.d (.str d.shown)):=by show(bif Uj d&&Ww d then aj (V.d (.str d.shown)) else au)=_;rw[PO.mpr h.1,h.2];rfl
theorem SU{α:Type}{l:List α}{a:α}(h:l[k]? = aj a):l.set k a=l:=by obtain⟨h1,rfl⟩:=AAM.mp h;exact List.set_getElem_self h1
section
variable{cs F:List Ch}{gs:List (List Nat×List (List Nat))}
theorem My(h:Wov cs F gs):∀d∈Mz cs gs,ShL d:=λd hd=>⟨XI h d hd,by
 revert d
 exact ae rfl (ae rfl (ae rfl (ae rfl (ae rfl AC))))⟩
theorem QC(h:Wov cs F gs)(hi:U[i]? = aj (.list (hs.map .d)))(hl:hs.length<=100)
 (hf:∀(n f:Nat) (d:PyData),FN n f [self] (W F gs (hts [] F)) (.d d) (W F gs (hts [] F))->FN n f [.obj [b,b+1,b+2]] U (.d d) U) :
 FN 7 64 [.obj [b,b+1,b+2],.ref i] U Cv (U.set i (.list ((hs++(Mz cs gs).map kp).map .d))):=by
 let C:=C0 6;let me:V:=.obj [b,b+1,b+2];have hA:(Mz cs gs).length=5:=rfl;have shl:=My h;have rows:SEs (C.n+3) (.cons (.mcall (ACC "row") (.var 0) .nil) (.cons (.mcall (ACC "told") (.var 0) .nil) (.cons (.mcall (ACC "names") (.var 0) .nil) (.cons (.mcall (ACC "text") (.var 0) .nil) (.cons (.mcall (ACC "questions") (.var 0) .nil) .nil))))) [aj me,aj (.ref i),au] U ((Mz cs gs).map .d) U :=
  .cons (.mcall Ai (by unfold mtP;kernel_rfl) ((Ad C.ok (.var 0)).v rfl) .nil ((hf _ _ _ (fn_row' h)).more (by decide)))
  (.cons (.mcall Ai (by unfold mtP;kernel_rfl) ((Ad C.ok (.var 0)).v rfl) .nil ((hf _ _ _ (fn_told' h)).more (by decide)))
  (.cons (.mcall Ai (by unfold mtP;kernel_rfl) ((Ad C.ok (.var 0)).v rfl) .nil ((hf _ _ _ (KZ h)).more (by decide)))
  (.cons (.mcall Ai (by unfold mtP;kernel_rfl) ((Ad C.ok (.var 0)).v rfl) .nil (hf _ _ _ (N9 h)))
  (.cons (.mcall Ai (by unfold mtP;kernel_rfl) ((Ad C.ok (.var 0)).v rfl) .nil (hf _ _ _ (KY h))) .nil))))
 have hlst:=SE.frz (SL.lst rows (show 5<=line by decide));generalize Mz cs gs=A at hA shl hlst;refine AH (FN.ends (C:=C) (f:=64) (zs:=[me,.ref i]) (R:=λv U'=>v=Cv/\U'=U.set i (.list ((hs++A.map kp).map .d))) (by unfold Pg;rfl) rfl (by decide) (by
  refine EJ V.d (λp J U'=>(∃z,J=[aj me,aj (.ref i),z])/\U'=U.set i (.list ((hs++p.map kp).map .d))) (SI.lst hlst rfl) ⟨⟨_,rfl⟩,by rw[List.map_nil,AAV,SU hi]⟩ ?_ ?_
  ·intro p x q J q_u4 e q_r1;obtain⟨⟨z,rfl⟩,rfl⟩:=q_r1;have hpl:=by have:=congrArg List.length e;rw[hA,AAF,AA2] at this;exact jT this
   refine Be rfl (Az (Dk (AY rfl (AU (Az rfl) (PT (shl x (e▸AAW _ (.head _)))))) rfl)) (AB1 (AAM.mp hi).1) (by rw[AAB,AAF,AAB];exact AAS (show hs.length+p.length<=200 by exact Rf hl hpl rfl) (by decide)) (Ab (AB _ rfl ⟨_,rfl⟩ ?_));rw[List.set_set,AAQ (l₁:=p),<-ABQ,AAQ (l₁:=hs++p.map kp)];rfl
  ·intro J q_u1 q_r2;obtain⟨⟨z,rfl⟩,rfl⟩:=q_r2;exact Ab ⟨rfl,rfl⟩)) λv U' q_2 hf=>?_
 obtain⟨k2,k3⟩:=q_2;rw[k2,k3] at hf;exact hf
end
theorem X6(z:Str):BU .Eq (.d (.str z)) (.d (.str z)) U=aj true:=by show aj (z==z)=_;rw[beq_self_eq_true]
theorem Xy{hs:List PyData}(hi:U[i]? = aj (.list ((hs.map kp).map .d)))(hl:hs.length<=1000)(hh:∀d∈hs,ShL d):FN 2 65 [.ref i] U (vb true) U:=by
 have hl':hs.length<=line:=AAC hl (by decide);refine AH (FN.ends (C:=C0 1) (f:=65) (zs:=[.ref i]) (R:=λv U'=>v=vb true/\U'=U) (by unfold Pg;rfl) rfl (AAL _) (by
  refine AE (AU (Az ?_) (Kl hs)) ⟨rfl,rfl⟩;show(((DE U[i]?).bind λws=>aj (ws,CV (.ref i) ws)).bind λq=>DZ _ q.1).bind mkL=_;rw[hi];show(DZ _ ((hs.map kp).map V.d)).bind mkL=_;rw[AAE];rw[Dx (V.d∘kp) (λ_=>aj (vb true)) hs (λd hd=>?_),bs,List.filterMap_eq_map']
  ·exact(show(hs.map λ_=>vb true)=(hs.map λ_=>PyData.bool true).map V.d by rw[AAE];rfl)▸HL _ (lml hl')
  ·rw[EO (AU (Az rfl) (PT (hh d hd))) rfl (X6 _)];rfl)) λv U' q_2 h=>?_
 obtain⟨h1,h2⟩:=q_2;rw[h1,h2] at h;exact h
open PySem.Calls PySem.SeqAt
noncomputable def K8{κ β:Type}[DecidableEq κ](kvs:List (κ×β))(z:κ):List (κ×β):=kvs.filter λp=>decide (p.1≠z)
theorem Ay.filter{α β:Type}{R:α->β->Prop}{p:α->Bool}{q:β->Bool}(h:∀a b,R a b->p a=q b):∀{as:List α} {bs:List β},Ay R as bs->Ay R (as.filter p) (bs.filter q)
 |[],[],_=>trivial
 |a::as,b::bs,x=>by
  rw[List.filter_cons,List.filter_cons,<-h a b x.1];cases p a with
  |true=>exact⟨x.1,Ay.filter h x.2⟩
  |false=>exact Ay.filter h x.2
 |[],_::_,x=>x.elim
 |_::_,[],x=>x.elim
theorem SE.popS(hb0:EZ a)(ha:SE n a J U (.ref k) af)(hb:SEs n b J af [.d (.str z)] U2)(h0:af[k]? = aj (.dictS kvs))(h1:U2[k]? = aj (.dictS kvs))(hd:Aq kvs z=aj d)(hl:kvs.length<line):SE n (.meth .pop a b) J U (.d d) (U2.set k (.dictS (K8 kvs z))):=by
 refine SE.meth hb0 F.plainAttrs_dict F.slot_dict_pop F.type_dict_pop ha hb (λr g s X A hx=>?_) λr g s X Ys A hx hy=>?_
 ·refine oEA hx λc hk q_2=>?_;subst q_2;refine⟨Gi A hk h0 (λ_ q=>nomatch q),λl e=>?_⟩;obtain rfl:=ABR e;exact A.has.ob k c _ hk h0 _ λx hx rx=>rx _ λ_ _ _ ho _ _ _ _ _ _=>(iEA x hx ho.2.1)
 ·refine oEA hx λc hk q_2=>?_;subst q_2;refine oEA hy.one λY q_1 ry=>?_;subst q_1;refine oEA ry λt q_1 _=>?_;subst q_1;refine A.has.dictS hk h1 λws hD hr=>?_;rcases JF hr z with⟨e1,_⟩|⟨d',v,e1,e2,rv⟩
  ·exact Aj e1 hd
  ·rw[Ao hd e1];refine call_meetsIn F.slot_dict_pop hD.typeIs F.entry_dict_pop (F.args_dict_pop_2 _ _) (meets_dict_pop_there (strKind r.T.prog r.T.w) c (strKind_is _ _ z t) [] (.inl rfl) rfl) (Mf ws v hD (OP hr hl) e2 (λh' hD' hs=>?_));refine Em hD' λx es ep hx ho hdd hk' hp hn=>.mk g (.refl _ _) (A.has.turn hk (λb x hb e=>(hs.2 b hb).trans e) hx λR_ kk=>kk es ep _ ho hdd hk' hp hn (hr.filter λp q h=>by rw[h.1]) (AAC (AAX _ _) (ACF hl))) rv
section
variable{g g':G}{U N:Ac}{s s':Shared}{n f:Nat}{xs:List V}
theorem FA.newR(hf:FA n f xs [] (.ref j) N)(hx:∀x,x∈xs->low 0 x)(hw:∀o∈N,Gj 0 o):FA n f xs U (.ref (U.length+j)) (U++N):=λr g s a Xs h At_ R=>by
 have H:Has r.T g (U++([]++[])) s:=by rw[AAV,AAV];exact At_.has
 have e:g.mu=g.mu++([]++[]):=(AAV _).symm;refine AAO (hf r (g.mid g.mu [] [] s.heap) s a Xs h ⟨At_.ok,At_.frames,At_.top,At_.depth,At_.units,At_.hh.fzm λ_ _ e=>e,At_.frs.sub λa o h=>(FZ (Qg e (At_.has.ah a o h).2)).trans h,H.mid e At_.has.len rfl (λo ho=>nomatch ho)⟩ (Ay.imp (λv X hv rx=>LG OM (hx v hv) rx) R)) (λX s' p=>p _ λg' le H' rX=>?_) λ_ _ h=>h;refine oEA rX λc hc q_2=>?_;subst q_2;have:=H.unmid e At_.has.len rfl rfl hw le H' rfl;rw[AAV,AAV] at this;exact .mk ⟨g'.fz,g.hid,g.mu++g'.mu⟩ ⟨⟨le.fz,λ_ _ q=>CT q⟩,λ_ _=>rfl⟩ this ⟨c,at_right' At_.has.len hc,rfl⟩
end
section
variable{F:List Ch}{gs:List (List Nat×List (List Nat))}{hs:Gsl}{a:List Nat}{τ:Ac}
theorem Hp(ha:a∈nms F):FN 2 38 [self,vs a] (W F gs hs++τ) Cv (W F gs hs++τ):=by
 refine AH (FN.ends (C:=C0 1) (f:=38) (zs:=[self,vs a]) (R:=λv U'=>v=Cv/\U'=W F gs hs++τ) (by unfold Pg;rfl) rfl (AAL _) (by exact BN (An rfl (Dm rfl) (Ji a)) ((AAI ha)▸rfl) (Ab ⟨rfl,rfl⟩))) λv U' q_2 h=>?_
 obtain⟨h1,h2⟩:=q_2;rw[h1,h2] at h;exact h
theorem Xq(ha:a∉nms F):FX 2 38 [self,vs a] (W F gs hs++τ) 5 (W F gs hs++τ):=by refine FX.of (fn:=Ir) (by unfold Pg;rfl) rfl (.head (.ite ((Ad (C0 1).ok _).t ?_) (.head (.rse (ACG 3 _) ((Ad (C0 1).ok (.cons (.cst (.str (ACC "no change has this name"))) .nil)).row rfl) (by decide) rfl)))) (AAL _);exact(An rfl (Dm rfl) (Ji a)).trans ((AAT ha)▸rfl)
theorem UA(ha:a∈nms F):Aq (Bk Tx PyData.int (hts [] F)) (Tx a)=aj (.int (hgt F a)):=by rw[AO PyData.int BO,Mi ha];rfl
theorem La(ha:a∈nms F):FN 3 42 [self,vs a] (W F gs (hts [] F)++τ) (vi (hgt F a)) (W F gs (hts [] F)++τ):=by
 refine AH (FN.ends (f:=42) (zs:=[self,vs a]) (U:=W F gs (hts [] F)++τ) (R:=λv U'=>v=vi (hgt F a)/\U'=W F gs (hts [] F)++τ) (by unfold Pg;rfl) rfl (show 1<=2 by decide) (by refine Bw rfl (.mcall Ai (by unfold mtP;kernel_rfl) ((Ad (C0 2).ok (.var 0)).v rfl) ((Ad (C0 2).ok _).row rfl) (Hp ha)) ?_;exact AE (Ae (Ez rfl) rfl (Cp rfl (UA ha))) ⟨rfl,rfl⟩)) λv U' q_2 h=>?_
 obtain⟨h1,h2⟩:=q_2;rw[h1,h2] at h;exact h
theorem Lb(nd:(F.map (·.1)).Nodup)(hg:∀c∈F,GenCh c)(hc:c∈F):FN 3 41 [self,vs c.1] (W F gs hs++τ) (vc c) (W F gs hs++τ):=by
 have ha:c.1∈nms F:=AAZ hc;refine AH (FN.ends (f:=41) (zs:=[self,vs c.1]) (U:=W F gs hs++τ) (R:=λv U'=>v=vc c/\U'=W F gs hs++τ) (by unfold Pg;rfl) rfl (show 1<=2 by decide) (by refine Bw rfl (.mcall Ai (by unfold mtP;kernel_rfl) ((Ad (C0 2).ok (.var 0)).v rfl) ((Ad (C0 2).ok _).row rfl) (Hp ha)) (Ax (Ae (Dm rfl) rfl (Cp rfl (by rw[AO Ch.data BO,N7 nd hc];rfl))) ?_);exact AE (Dk (Ms rfl (AU (Az (Ae rfl rfl (Df c))) (G6 (lml (AAC (hg c hc).few (by decide))))) (AU (Az (Ae rfl rfl (CQ c))) (G6 (lml (AAC (hg c hc).deeds (by decide)))))) rfl) ⟨rfl,rfl⟩)) λv U' q_2 h=>?_
 obtain⟨h1,h2⟩:=q_2;rw[h1,h2] at h;exact h
theorem KV(w:GC F gs)(ha:a∈nms F):∃ls,Aq gs a=aj ls/\(ls.length<=60/\ls.Pairwise (· < ·))/\∀l,l∈ls↔Blw F a l:=by
 refine oE (AN.mpr (show a∈gs.map (·.1) by rw[w.gk];exact ha)) λls hls=>?_;obtain⟨pr,hpr,epr,epl⟩:∃pr∈gs,pr.2=ls/\pr.1=a:=by unfold Aq at hls;exact oEA (ABL.mp hls) λpr e1 e2=>(AB pr (ABH e1) e2 (by simpa using AC6 e1))
 have:=w.gin pr hpr;rw[epr,epl] at this;exact iEA ls hls this
theorem JO(w:GC F gs)(ha:a∈nms F):FN 3 43 [self,vs a] (W F gs hs++τ) (.d (dl (gdL gs a))) (W F gs hs++τ):=by
 refine AS (KV w ha) λls hls q_2 _=>?_;obtain⟨hl,_⟩:=q_2;have el:gdL gs a=ls:=by rw[gdL,hls];rfl
 rw[el];refine AH (FN.ends (f:=43) (zs:=[self,vs a]) (U:=W F gs hs++τ) (R:=λv U'=>v=.d (dl ls)/\U'=W F gs hs++τ) (by unfold Pg;rfl) rfl (show 1<=2 by decide) (by refine Bw rfl (.mcall Ai (by unfold mtP;kernel_rfl) ((Ad (C0 2).ok (.var 0)).v rfl) ((Ad (C0 2).ok _).row rfl) (Hp ha)) ?_;exact AE (AU (Az (Ae (Dz rfl) rfl (Cp rfl (by rw[AO dl BO,hls];rfl)))) (G6 (lml (AAC hl (by decide))))) ⟨rfl,rfl⟩)) λv U' q_2 h=>?_
 obtain⟨h1,h2⟩:=q_2;rw[h1,h2] at h;exact h
noncomputable def lnL(cs:List Ch)(gs:List (List Nat×List (List Nat)))(a:List Nat):List (List Nat):=(Av (nms cs)).filter λn=>decide (a∈gdL gs n)
theorem JL(h:Wov cs F gs)(ha:a∈nms F):FN 4 44 [self,vs a] (W F gs (hts [] F)++τ) (.d (dl (lnL cs gs a))) (W F gs (hts [] F)++τ):=by
 let C:=C0 3;let U:=W F gs (hts [] F)++τ;have hl:(Av (nms cs)).length<=60:=by rw[(Ah _).length_eq,AAB];exact h.len
 refine AH (FN.ends (C:=C) (f:=44) (zs:=[self,vs a]) (R:=λv U'=>v=.d (dl (lnL cs gs a))/\U'=U) (by unfold Pg;rfl) rfl (by decide) (by
  refine Bw rfl (.mcall Ai (by unfold mtP;kernel_rfl) ((Ad C.ok (.var 0)).v rfl) ((Ad C.ok _).row rfl) ((Hp ha).more (by decide))) (Du (SE.frz (SL.comp (vs:=(Av (nms cs)).map vs) (SI.lst (.mcall Ai (by unfold mtP;kernel_rfl) ((Ad C.ok (.var 0)).v rfl) .nil ((HR h τ).more (by decide))) (by
   show aj (((Av (nms cs)).map λt=>PyData.str (Tx t)).map V.d)=_;rw[AAE];rfl)) (DL (kps:=[]) (Ad C.ok _) (Ad C.ok _) (λ_ _ m=>nomatch m) ?_) (by
   rw[AAB,AAB];exact AAC (AAX _ _) (AAC hl (by decide))))) ⟨rfl,rfl⟩)
  rw[Dx vs (λn=>if decide (a∈gdL gs n)=true then aj (vs n) else au) (Av (nms cs)) (λn hn=>?_)]
  ·congr 1;rw[lnL,AAE];generalize Av (nms cs)=L
   induction L with
   |nil=>rfl
   |cons n L ih =>
    rw[ADD,List.filter_cons];by_cases q:decide (a∈gdL gs n)=true
    ·exact(if_pos q)▸(if_pos q)▸ABP▸ih▸rfl
    ·rw[if_neg q,if_neg q,<-ih]
  ·obtain⟨ls,hls,_⟩:=KV h.w ((h.perm.map _).mem_iff.mpr ((Ah _).mem_iff.mp hn));have ht:=by exact FG (An (O:=C.O) (J:=[aj self,aj (vs a),aj (vs n)]) (U:=U) (a:=.var 1) (b:=.sub (.attr (ACC "grounds") (.var 0)) (.var 2)) (y:=.d (dl (gdL gs n))) rfl (Ae (Dz rfl) rfl (Cp rfl (by rw[AO dl BO,gdL,hls];rfl))) (by rw[XF,CE]))
   show((ev C.O (.cons (.cmp .In (.var 1) (.sub (.attr (ACC "grounds") (.var 0)) (.var 2))) .nil)).ts [aj self,aj (vs a),aj (vs n)] U).bind _=_;rw[ht];cases decide (a∈gdL gs n)<;>rfl)) λv U' q_2 hf=>?_
 obtain⟨h1,h2⟩:=q_2;rw[h1,h2] at hf;exact hf
end
noncomputable def Cfg.knowA(C:Cfg)(f:Nat){α:Type}(arg:α->List V)(out:α->V)(P:Ac->Prop)(h:∀a U,P U->FN C.n f (arg a) U (out a) U):Cfg:=C.add f (λxs U=>@dite _ (P U/\∃a,arg a=xs) (ACE _) (λq=>aj (out (Classical.choose q.2))) λ_=>au) λxs U v e=>by
 by_cases q:P U/\∃a,arg a=xs
 ·rw[dif_pos q] at e;rw[<-AAA e];have:=h (Classical.choose q.2) U q.1;rw[ADI q.2] at this;exact this
 ·rw[dif_neg q] at e;exact Aa e
theorem DH{C:Cfg}{α:Type}{arg:α->List V}{out:α->V}{P:Ac->Prop}{h:∀a U,P U->FN C.n f (arg a) U (out a) U}(inj:∀a b,arg a=arg b->out a=out b)(a:α)(hσ:P U):(C.knowA f arg out P h).O f (arg a) U=aj (out a):=by have q:P U/\∃b,arg b=arg a:=iAE hσ a rfl;show(bif Nat.beq f f then@dite _ (P U/\∃b,arg b=arg a) (ACE _) (λq=>aj (out (Classical.choose q.2))) λ_=>au else C.O f (arg a) U)=_;rw[Nat.beq_refl f];show@dite _ (P U/\∃b,arg b=arg a) (ACE _) (λq=>aj (out (Classical.choose q.2))) (λ_=>au)=_;rw[dif_pos q,inj _ _ (ADI q.2)]
theorem Gh{O:Orc}{ks:List Nat}{ys:List V}(h1:AT J i=aj (.obj ks))(h2:(ev O es).row J U=aj ys)(hm:mtP nm=aj f)(h3:O f (.obj ks::ys) U=aj v):(ev O (.mcall nm (.var i) es)).v J U=aj v:=by show((AT J i).bind λx=>((ev O es).row J U).bind λys=>(eU x).bind λks=>(mtP nm).bind λf=>O f (.obj ks::ys) U)=_;exact h1▸bs▸h2▸bs▸hm▸h3
section
variable{F:List Ch}{gs:List (List Nat×List (List Nat))}{a:List Nat}
theorem Vh{κ κ' α β:Type}[DecidableEq κ][DecidableEq κ']{φ:κ->κ'}{f:α->β}(inj:∀a b,φ a=φ b->a=b)(kvs:List (κ×α))(k:κ):K8 (Bk φ f kvs) (φ k)=Bk φ f (K8 kvs k):=by unfold K8 Bk;rw[AB2];congr 1;exact List.filter_congr λp _=>decide_eq_decide.mpr ⟨λh e=>h (congrArg φ e),λh e=>h (inj _ _ e)⟩
noncomputable abbrev CA(p:List (List Nat))(n:List Nat):Bool:=!decide (n∈p)
theorem JX{α:Type}(kvs:List (List Nat×α))(p:List (List Nat))(n:List Nat):K8 (kvs.filter λq=>CA p q.1) n=kvs.filter λq=>CA (p++[n]) q.1:=by
 unfold K8;rw[List.filter_filter];refine List.filter_congr λq _=>?_;by_cases h1:q.1=n
 ·simp[CA,h1]
 ·simp[CA,h1]
theorem OE{C:Cfg}{P:Fl->Ac->Prop}{U:Ac}{β:Type}{f:β->PyData}{kvs:List (List Nat×β)}{n:List Nat}(ha:(ev C.O (.attr nm (.var 0))).v J U=aj (.ref k))(hi:AT J 3=aj (vs n))(h0:U[k]? = aj (.dictS (Bk Tx f kvs)))(hn:n∈kvs.map (·.1))(hl:kvs.length<=100)(kk:Ak C P r J (U.set k (.dictS (Bk Tx f (K8 kvs n))))):Ak C P (.cons (.exp (.meth .pop (.attr nm (.var 0)) (.cons (.var 3) .nil))) r) J U:=by refine oE (AN.mpr hn) λx hx=>?_;rw[<-Vh BO] at kk;exact Bw rfl (SE.popS Kh ((Ad C.ok _).v ha) ((Ad C.ok _).row (Az hi)) h0 h0 (by rw[AO f BO,hx];rfl) (by rw[Bv];exact AAS hl (by decide))) kk
noncomputable def Ft(cs:List Ch)(gs:List (List Nat×List (List Nat)))(a:List Nat):List (List Nat):=Av (lnL cs gs a++[a])
theorem Xv(h:Wov cs F gs)(ha:a∈nms F)(hnd:(lnL cs gs a++[a]).Nodup)(hcl:∀c∈F,CA (Ft cs gs a) c.1=true->∀l∈c.2.1,CA (Ft cs gs a) l=true) :
 FN 5 39 [self,vs a] (W F gs (hts [] F)++τ) (.d (dl (Ft cs gs a))) (W (F.filter λc=>CA (Ft cs gs a) c.1) (gs.filter λq=>CA (Ft cs gs a) q.1) (hts [] (F.filter λc=>CA (Ft cs gs a) c.1))++τ):=by
 let U:=W F gs (hts [] F)++τ;let out:=Ft cs gs a;have hL:(lnL cs gs a).length<=60:=AAC (AAX _ _) (by rw[(Ah _).length_eq,AAB];exact h.len);have hk44:∀(x:Unit) U',U'=U->FN (C0 4).n 44 [self,vs a] U' (.d (dl (lnL cs gs a))) U':=λ_ U' e=>e▸JL h ha;let C:Cfg:=(C0 4).knowA 44 (λ_:Unit=>[self,vs a]) (λ_=>.d (dl (lnL cs gs a))) (λU'=>U'=U) hk44;have o44:C.O 44 [self,vs a] U=aj (.d (dl (lnL cs gs a))):=DH (λ_ _ _=>rfl) () rfl;have odd:out.Nodup:=(Ah _).nodup_iff.mpr hnd;have oin:∀n∈out,n∈nms F:=λn hn=>by
  rcases AA0.mp ((Ah _).mem_iff.mp hn) with q|q
  ·exact(h.perm.map _).mem_iff.mpr ((Ah _).mem_iff.mp (AA4.mp q).1)
  ·exact(AAJ.mp q)▸ha
 let St:List (List Nat)->Ac:=λp=>[.dictS (Bk Tx Ch.data ((hK F).filter λq=>CA p q.1)),.dictS (Bk Tx dl (gs.filter λq=>CA p q.1)),.dictS (Bk Tx PyData.int ((hts [] F).filter λq=>CA p q.1))]++τ;have St0:St []=U:=by show [O.dictS (Bk Tx Ch.data ((hK F).filter λ_=>true)),.dictS (Bk Tx dl (gs.filter λ_=>true)),.dictS (Bk Tx PyData.int ((hts [] F).filter λ_=>true))]++τ=_;rw[Bz,Bz,Bz]
 have eSt:St out=W (F.filter λc=>CA out c.1) (gs.filter λq=>CA out q.1) (hts [] (F.filter λc=>CA out c.1))++τ:=by
  have e1:=J4 (CA out) [] F hcl;rw[List.filter_nil] at e1;have e2:(hK F).filter (λq=>CA out q.1)=hK (F.filter λc=>CA out c.1):=by exact AB2▸rfl
  show [O.dictS (Bk Tx Ch.data ((hK F).filter λq=>CA out q.1)),.dictS (Bk Tx dl (gs.filter λq=>CA out q.1)),.dictS (Bk Tx PyData.int ((hts [] F).filter λq=>CA out q.1))]++τ=_;rw[e2,<-e1]
 refine AH (FN.ends (f:=39) (zs:=[self,vs a]) (U:=U) (R:=λv U'=>v=.d (dl out)/\U'=St out) (by unfold Pg;rfl) rfl (show 1<=4 by decide) (by
  refine Bw rfl (.mcall Ai (by unfold mtP;kernel_rfl) ((Ad C.ok (.var 0)).v rfl) ((Ad C.ok _).row rfl) ((Hp ha).more (show 2<=4 by decide))) (Ax (AU (Az (x:=.d (dl (lnL cs gs a++[a]))) ?_) (Dr mm2 (by rw[AAF];show(lnL cs gs a).length+1<64;exact lH hL rfl))) ?_)
  ·refine Af (y:=.d (dl [a])) (Gh rfl rfl (by unfold mtP;kernel_rfl) o44) rfl ?_;rw[Ki _ _ (lmt (AAC (ABS hL) (by decide))),<-AAQ]
  show Ak C _ _ _ U;rw[<-St0];let K:Option V->Al:=λz=>[aj self,aj (vs a),aj (.d (dl out)),z]
  refine AW (l:=out) (λn=>vs n) (λp J U'=>(∃z,J=K z)/\U'=St p) (EV rfl) ⟨⟨au,rfl⟩,rfl⟩ ?_ ?_
  ·intro p n q J q_u4 e q_r1;obtain⟨⟨z,rfl⟩,rfl⟩:=q_r1;have hnp:n∉p:=by have h1:=odd;rw[e] at h1;exactλq'=>(ABW.mp h1).2.2 n q' n (.head _) rfl
   have hnF:=oin n (e▸AAW _ (.head _));have key:∀{β:Type} {kvs:List (List Nat×β)},n∈kvs.map (·.1)->n∈(kvs.filter λq=>CA p q.1).map (·.1):=λ{β kvs} hk=>by obtain⟨x,hx,rfl⟩:=AAP.mp hk;exact AAZ (AA4.mpr ⟨hx,by simp[CA,hnp]⟩)
   have hF:=h.w.len;have hg:gs.length<=100:=by have:=congrArg List.length h.w.gk;rw[AAB,AAB] at this;exact Re this hF rfl
   have hh:(hts [] F).length<=100:=by have:=congrArg List.length (Ck [] F);rw[AAB,AAF,AAB] at this;simp at this;exact Re this hF rfl
   refine OE (Dm rfl) rfl rfl (key (by rw[Ml];exact hnF)) (AAC (AAX _ _) (lml (AAC ‹_› (ACD rfl)))) (OE (Dz rfl) rfl rfl (key (h.w.gk▸hnF)) (AAC (AAX _ _) hg) ?_);refine OE (Ez rfl) rfl rfl (key (by rw[Ck];exact hnF)) (AAC (AAX _ _) hh) (Ab (AB _ rfl ⟨_,rfl⟩ ?_));show [O.dictS (Bk Tx Ch.data (K8 ((hK F).filter λq=>CA p q.1) n)),.dictS (Bk Tx dl (K8 (gs.filter λq=>CA p q.1) n)),.dictS (Bk Tx PyData.int (K8 ((hts [] F).filter λq=>CA p q.1) n))]++τ=_;rw[JX,JX,JX]
  ·intro J q_u1 q_r2;obtain⟨⟨z,rfl⟩,rfl⟩:=q_r2;exact AE rfl ⟨rfl,rfl⟩)) λv U' q_2 hf=>?_
 obtain⟨h1,h2⟩:=q_2;rw[h1,h2,eSt] at hf;exact hf
end
section
variable{cs F G:List Ch}{gs:List (List Nat×List (List Nat))}{a n:List Nat}{p:List Nat->Bool}
theorem UE(h:Wov cs F gs)(hn:n∈nms cs):a∈gdL gs n↔Blw cs n a:=by refine AS (KV h.w ((h.perm.map _).mem_iff.mpr hn)) λls hls _ hm=>?_;rw[gdL,hls];exact(hm a).trans ⟨Blw.mono λc hc=>h.perm.mem_iff.mp hc,Blw.mono λc hc=>h.perm.mem_iff.mpr hc⟩
theorem OO(h:Wov cs F gs):n∈lnL cs gs a↔n∈nms cs/\Blw cs n a:=by rw[lnL,AA4,(Ah _).mem_iff];exact and_congr_right λhn=>by rw[decide_eq_true_iff];exact UE h hn
theorem Nr(h:Wov cs F gs):(lnL cs gs a++[a]).Nodup:=by refine ABW.mpr ⟨(D8 (BY _ h.H.nd)).filter _,ABX.mpr ⟨AA1,ABY⟩,λx hx y hy e=>?_⟩;rw[AAJ.mp hy] at e;rw[e] at hx;exact absurd (((OO h).mp hx).2.lower h.H.nd h.H.topo) (Int.lt_irrefl _)
theorem Qa(h:Wov cs F gs)(ha:a∈nms cs):n∈Ft cs gs a↔n∈nms cs/\(n=a\/Blw cs n a):=by
 rw[Ft,(Ah _).mem_iff,AA0,OO h,AAJ];constructor
 ·rintro(⟨h1,h2⟩|rfl)
  ·exact⟨h1,.inr h2⟩
  ·exact⟨ha,.inl rfl⟩
 ·rintro⟨h1,h2|h2⟩
  ·exact .inr h2
  ·exact .inl ⟨h1,h2⟩
theorem T6:CA l n=true↔n∉l:=by simp[CA]
theorem OG(h:Wov cs F gs)(ha:a∈nms cs):∀c∈cs,CA (Ft cs gs a) c.1=true->∀l∈c.2.1,CA (Ft cs gs a) l=true:=λc hc h1 l hl=>by
 refine T6.mpr λh2=>(T6.mp h1) ((Qa h ha).mpr ⟨AAZ hc,.inr ?_⟩)
 rcases((Qa h ha).mp h2).2 with q|q
 ·exact q▸.one hc hl
 ·exact .more hc hl q
theorem CP.filter(ht:CP F)(hc:∀c∈F,p c.1=true->∀l∈c.2.1,p l=true):CP (F.filter λc=>p c.1):=λpre c post e l hl=>by
 refine Br (AB8.mp e) λa b e1 q_3 e2=>?_;subst q_3;refine Fv (AB9.mp e2) λa' b' e3 e4 e5 q_5=>?_;subst q_5;have e6:F=(a++a')++c::b':=by rw[e1,e3,ABQ]
 have hcF:c∈F:=by rw[e6];exact AAW _ (.head _)
 refine oEA (AAP.mp (ht _ _ _ e6 l hl)) λx hx ex=>?_;have px:p x.1=true:=by rw[ex];exact hc c hcF e5 l hl
 rcases AA0.mp hx with q|q
 ·exact AAP.mpr (iEA x (AA4.mpr ⟨q,px⟩) ex)
 ·exact absurd px (e4 x q)
theorem Blw.keep(hc:∀c∈F,p c.1=true->∀l∈c.2.1,p l=true)(b:Blw F x y):p x=true->Blw (F.filter λc=>p c.1) x y:=by
 induction b with
 |one h1 h2=>exactλq=>.one (AA4.mpr ⟨h1,q⟩) h2
 |more h1 h2 _ ih=>exactλq=>.more (AA4.mpr ⟨h1,q⟩) h2 (ih (hc _ h1 q _ h2))
theorem Wov.left(h:Wov cs F gs)(hc:∀c∈cs,p c.1=true->∀l∈c.2.1,p l=true):Wov (cs.filter λc=>p c.1) (F.filter λc=>p c.1) (gs.filter λq=>p q.1):=by
 have hF:=λc hx=>hc c (h.perm.mem_iff.mp hx);refine⟨h.H.filter hc,λc hx=>h.gen c (AA4.mp hx).1,AAC (AAX _ _) h.len,h.perm.filter _,⟨?_,h.w.topo.filter hF,λc hx=>h.w.gen c (AA4.mp hx).1,AAC (AAX _ _) h.w.len,?_,λq hq=>⟨(h.w.gin q (AA4.mp hq).1).1,λl=>((h.w.gin q (AA4.mp hq).1).2 l).trans ⟨λb=>b.keep hF (AA4.mp hq).2,Blw.mono λc hx=>(AA4.mp hx).1⟩⟩⟩⟩
 ·exact(List.Sublist.map _ List.filter_sublist).nodup h.w.nd
 ·have e1:(gs.filter λq=>p q.1).map (·.1)=(gs.map (·.1)).filter p:=by rw[AB2];rfl
  have e2:(F.filter λc=>p c.1).map (·.1)=(F.map (·.1)).filter p:=by rw[AB2];rfl
  rw[e1,e2,h.w.gk]
end
theorem Mt{O:Orc}{x:PyData}(h:(ev O a).v J U=aj (.d x)):(ev O (.lst (.cons a .nil))).v J U=aj (.d (.list [x])):=by show((ev O (.cons a .nil)).row J U).bind mkL=_;exact(Az h)▸HL [x] (show 1<=line by decide)
theorem JR:∀l:List PyData,(∀d∈l,f d d=aj true)->DX f l l=aj true
 |[],_=>rfl
 |d::l,h=>by show(f d d).bind (λa=>(DX f l l).bind λb=>aj (a&&b))=_;rw[h d (.head _),JR l λx hx=>h x (.tail _ hx)];rfl
theorem JS(h:∀d∈l,eqN n d d=aj true):eqN (n+1) (.list l) (.list l)=aj true:=by show(if l.length=l.length then DX (eqN n) l l else aj false)=_;exact(if_pos rfl)▸JR l h
theorem NH(n:Nat)(m:Mk):eqN (n+1) (AF (aj m)) (AF (aj m))=aj true:=by rw[HT n m m,AAI rfl]
theorem F9(n:Nat)(l:List (List Nat)):eqN (n+1) (dl l) (dl l)=aj true:=JS λd hd=>by refine oEA (AAP.mp hd) λt _ q_2=>?_;subst q_2;rw[Gg,AAI rfl]
theorem FY(h:eqN AK d d=aj true):BU .NotEq (.d d) (.d d) U=aj false:=by show HH (eqN AK d d)=_;exact h▸rfl
theorem eq_self'(h:eqN AK d d=aj true):BU .Eq (.d d) (.d d) U=aj true:=h
theorem UW(on:Mk->List (List Nat))(T:List Pr):eqN AK (.list (duL on T)) (.list (duL on T))=aj true:=by refine JS λd hd=>oEA (AAP.mp hd) λx _ q_2=>?_;subst q_2;exact JR _ (ae (NH 37 x.1) (ae (F9 37 _) AC))
section
variable{cs F:List Ch}{gs:List (List Nat×List (List Nat))}{hs:Gsl}{a:List Nat}
theorem bM(h:Wov cs F gs):∃gr:{n//n∈nms cs}->List (List Nat),∀n:{n//n∈nms cs},((gr n).Nodup/\(gr n).length<=61/\∀x,x∈gr n↔x=n.1\/Blw cs n.1 x)/\∀U,FN 2 28 [.d (.list (cs.map Ch.data)),.d (dl [n.1])] U (.d (dl (gr n))) U:=by refine Classical.axiomOfChoice (r:=λ(n:{n//n∈nms cs}) gr=>(gr.Nodup/\gr.length<=61/\∀x,x∈gr↔x=n.1\/Blw cs n.1 x)/\∀U,FN 2 28 [.d (.list (cs.map Ch.data)),.d (dl [n.1])] U (.d (dl gr)) U) λn=>AS (HS h.H.nd h.H.topo h.len (λc hc=>(h.gen c hc).few) (ns:=[n.1]) (λx hx=>by rw[AAJ.mp hx];exact n.2) (show 1<=100 by decide)) λfs h1 h2 h3=>?_;have hm:=λx=>(h2 x).trans ⟨λ⟨o,ho,e⟩=>by rw[AAJ.mp ho] at e;exact e,λe=>⟨n.1,.head _,e⟩⟩;refine(iEA fs ⟨h1,?_,hm⟩ h3);have sub:=λx hx=>((hm x).mp hx).elim (λe=>e▸n.2) λb=>b.names h.H.topo;have:=List.Nodup.length_le_of_subset h1 sub;rw[AAB] at this;exact AAC this (AAC h.len (by decide))
theorem KJ(n1:l.Nodup)(n2:l'.Nodup)(h:∀x,x∈l↔x∈l'):Av l=Av l':=Jv ((List.perm_ext_iff_of_nodup n1 n2).mpr h) n1
theorem dlj(e:[V.d d,.d (dl [x])]=[.d d,.d (dl [y])]):x=y:=by
 injection e with _ e
 injection e with e _
 injection e with e
 injection e with e
 injection e with e _
 injection e with e
 exact FQ e
theorem RM(h:Wov cs F gs)(n:Nat)(hn:2<=n):∃(C:Cfg) (gr:{n//n∈nms cs}->List (List Nat)),C.n=n/\(∀n:{n//n∈nms cs},(gr n).Nodup/\(gr n).length<=61/\∀x,x∈gr n↔x=n.1\/Blw cs n.1 x)/\∀(n:{n//n∈nms cs}) U,C.O 28 [.d (.list (cs.map Ch.data)),.d (dl [n.1])] U=aj (.d (dl (gr n))):=by exact oE (bM h) λgr hgr=>(Hk ((C0 n).knowF 28 (λn:{n//n∈nms cs}=>[.d (.list (cs.map Ch.data)),.d (dl [n.1])]) (λn=>.d (dl (gr n))) (λm U=>((hgr m).2 U).more hn)) gr rfl (λn=>(hgr n).1) (λm U=>Ju (λa b e=>by rw[Subtype.ext (dlj e)]) m U))
theorem fT(h:Wov cs F gs)(ha:a∈nms cs){gr:{n//n∈nms cs}->List (List Nat)}(hg:∀n:{n//n∈nms cs},(gr n).Nodup/\(gr n).length<=61/\∀x,x∈gr n↔x=n.1\/Blw cs n.1 x):∃gi:List Nat->Bool,(∀(o:List Nat) (h:o∈nms cs),gi o=decide (a∈gr ⟨o,h⟩))/\Av (nms (cs.filter λc=>gi c.1))=Ft cs gs a:=by
 let gi:List Nat->Bool:=λo=>@decide (∃h:o∈nms cs,a∈gr ⟨o,h⟩) (ACE _);have gi_eq:∀(o:List Nat) (h:o∈nms cs),gi o=decide (a∈gr ⟨o,h⟩):=λo h=>by
  by_cases q:a∈gr ⟨o,h⟩
  ·exact(AAI q)▸@AAI _ (ACE _) ⟨h,q⟩
  ·exact(AAT q)▸@AAT _ (ACE _) λ⟨_,r⟩=>q r
 let L:=cs.filter λc=>gi c.1;have eL:Av (nms L)=Ft cs gs a:=by
  refine KJ ((List.Sublist.map _ List.filter_sublist).nodup h.H.nd) (Nr h) λx=>?_;rw[AA0,OO h,AAJ];constructor
  ·intro hx;refine oEA (AAP.mp hx) λc hc q_2=>?_;subst q_2;refine oA (AA4.mp hc) λh1 h2=>?_;have hcn:c.1∈nms cs:=AAZ h1;rw[gi_eq c.1 hcn] at h2;rcases((hg ⟨c.1,hcn⟩).2.2 a).mp (AAG h2) with q|q
   ·exact .inr q.symm
   ·exact .inl ⟨hcn,q⟩
  ·intro hx;have hcn:=hx.elim (·.1) λq=>q▸ha;refine oEA (AAP.mp hcn) λc hc q_2=>?_;subst q_2;refine AAZ (AA4.mpr ⟨hc,?_⟩);rw[gi_eq c.1 hcn];refine AAI (((hg ⟨c.1,hcn⟩).2.2 a).mpr ?_);rcases hx with q|q
   ·exact .inr q.2
   ·exact .inl q.symm
 exact iEA gi gi_eq eL
theorem Sc(h:Wov cs F gs)(U:Ac):FN 5 60 [.d (.list (cs.map Ch.data))] U (.d (.list (duL (onF cs gs) (Bm (Aw (Am cs)))))) U:=by
 let on:=onF cs gs;let T:=Bm (Aw (Am cs));have hun:=λm U=>by refine AS (Mo h.H.nd h.H.topo h.len h.gen m) λus u1 _ u3=>?_;have:=u3 U;rw[u1.uniq (ZH h m)] at this;exact this
 have hO:=BW h.H.nd;have hs:=Ef λc hc=>h.gen c (hO.perm.mem_iff.mp hc);have hol:(Am cs).length<=60:=by rw[hO.perm.length_eq];exact h.len
 have hT:T.length<=10000:=AAC Fh (AAC hs.row (Im hol rfl));let C:=C0 4;obtain⟨rD,hmod⟩:∃rD,∀U,FN 4 20 [.d (.list (cs.map Ch.data))] U (.d (.tuple [rD,.list (T.map prD)])) U:=⟨_,JK h.H h.gen h.len⟩
 have hmi:=λ{J U} h=>by have h1:SE (C.n+3) (.sub (.fcall 20 (.cons (.var 0) .nil)) (.cst (.int 1))) J U (.d (.list (T.map prD))) U:=.sub (.fcall ((Ad C.ok _).row (Az h)) (hmod U)) (.cst _) (FT rfl);have h2:=SI.lst h1 rfl;rw[AAE] at h2;exact h2
 have hq:FN 5 60 [.d (.list (cs.map Ch.data))] [] (.ref 0) [.list ((duL on T).map .d)]:=by
  refine AH (FN.ends (C:=C) (f:=60) (zs:=[.d (.list (cs.map Ch.data))]) (U:=[]) (R:=λv U'=>v=.ref 0/\U'=[.list ((duL on T).map .d)]) (by unfold Pg;rfl) rfl (by decide) (by
   let K:Option V->Option V->Option V->Al:=λz2 z3 z4=>[aj (.d (.list (cs.map Ch.data))),aj (.ref 0),z2,z3,z4]
   refine Bx rfl (Xj (λx=>.d (prD x)) (λp J U=>(∃z2 z3 z4,J=K z2 z3 z4)/\[.list ((duL on p).map .d)]=U) (hmi rfl) (λ_ _=>.inr (iEA _ rfl rfl)) ⟨(Fb au au au rfl),rfl⟩ ?_ ?_)
   ·intro p x q J q_u4 e q_r1;obtain⟨⟨z2,z3,z4,rfl⟩,rfl⟩:=q_r1;have hpl:(duL on p).length<=10000:=by have h1:=AAX (λx:Pr=>decide (1<(on x.1).length)) p;have h2:=congrArg List.length e;rw[AAF,AA2] at h2;exact lml (Ls h2 h1 hT rfl)
    refine AD rfl (.fcall ((Ad C.ok _).row rfl) ((hun x.1 _).more (by decide))) (AG (An (AU (Az rfl) (CK.trans (by rw[AAB]))) rfl NU) (λhh=>?_) λhh=>?_)
    ·have hh:=AAG hh;refine Be rfl (Az (Dk (AY rfl rfl) rfl)) rfl (lmt (AAS hpl (by decide))) (Ab (Ab (AB _ rfl (Fb _ _ _ rfl) ?_)));rw[Hr,if_pos (by exact Int.ofNat_le.mp ‹_›),AAQ];rfl
    ·have hh:=ABG hh;refine Ab (Ab (AB _ rfl (Fb _ _ _ rfl) ?_));rw[Hr,if_neg (Zj hh)]
   ·intro J q_u1 q_r2;obtain⟨⟨z2,z3,z4,rfl⟩,rfl⟩:=q_r2;exact AE rfl ⟨rfl,rfl⟩)) λv U' q_2 hf=>?_
  obtain⟨k2,k3⟩:=q_2;rw[k2,k3] at hf;exact hf
 exact FA.any (FA.seal hq ⟨duL on T,rfl,AAL _,rfl⟩) (ae trivial AC)
end
theorem vsj(e:[s,vs x]=[s,vs y]):x=y:=by
 injection e with _ e
 injection e with e _
 injection e with e
 injection e with e
 exact FQ e
section
variable{cs F:List Ch}{gs:List (List Nat×List (List Nat))}
theorem Xm(h:Wov cs F gs)(ha:a∈nms cs){l:List (List Nat)}(nd:l.Nodup)(hm:∀x,x∈l↔x=a\/Blw cs a x):Av (gdL gs a++[a])=Av l:=by
 refine AS (KV h.w ((h.perm.map _).mem_iff.mpr ha)) λls hls q_2 hb=>oA q_2 λ_ hr=>?_;have e:gdL gs a=ls:=by rw[gdL,hls];rfl
 have hmem:∀x,x∈gdL gs a↔Blw cs a x:=λx=>UE h ha;refine KJ ?_ nd λx=>?_
 ·refine ABW.mpr ⟨by rw[e];exact D8 hr,ABX.mpr ⟨AA1,ABY⟩,λx hx y hy q=>?_⟩;rw[AAJ.mp hy] at q;rw[q] at hx;exact absurd (((hmem a).mp hx).lower h.H.nd h.H.topo) (Int.lt_irrefl _)
 ·rw[AA0,hmem,AAJ,hm];exact or_comm
theorem UN(h:Wov cs F gs)(cell:Int):FN 7 61 [self,.d (.list (cs.map Ch.data)),vi cell] (W F gs (hts [] F)++τ) (vb true) (W F gs (hts [] F)++τ):=by
 let W0:=W F gs (hts [] F);let U:=W0++τ;let U1:=U++[oT (hts [] cs)];let P:Ac->Prop:=λU'=>∃τ',U'=W0++τ';have P0:P U:=⟨τ,rfl⟩
 have P1:P U1:=⟨τ++[oT (hts [] cs)],ABQ _ _ _⟩
 let cD:V:=.d (.list (cs.map Ch.data));let Qs:PyData:=.list (duL (onF cs gs) (Bm (Aw (Am cs))));have eqQ:eqN AK Qs Qs=aj true:=UW _ _;have toF:∀{n},n∈nms cs->n∈nms F:=λhn=>(h.perm.map _).mem_iff.mpr hn;refine Br (RM h 6 (by decide)) λCa gr hCn hg hO=>?_;have k51:∀(x:Unit) U',P U'->FN Ca.n 51 [self] U' (.d Qs) U':=λ_ U' ⟨τ',e⟩=>by rw[e,hCn];exact FA.tail (KY h) rfl (ae DF AC) (Fy 3)
 let Cb:=Ca.knowA 51 (λ_:Unit=>[self]) (λ_=>.d Qs) P k51;have o51':∀{U'},P U'->Cb.O 51 [self] U'=aj (.d Qs):=λhσ=>DH (λ_ _ _=>rfl) () hσ;have k60:∀(x:Unit) U',True->FN Cb.n 60 [cD] U' (.d Qs) U':=λ_ U' _=>by show FN Ca.n 60 _ _ _ _;rw[hCn];exact(Sc h U').more (by decide)
 let Cc:=Cb.knowA 60 (λ_:Unit=>[cD]) (λ_=>.d Qs) (λ_=>True) k60;have o60':∀U',Cc.O 60 [cD] U'=aj (.d Qs):=λU'=>DH (λ_ _ _=>rfl) () trivial;have k42:∀(n:{n//n∈nms cs}) U',P U'->FN Cc.n 42 [self,vs n.1] U' (vi (hgt F n.1)) U':=λn U' ⟨τ',e⟩=>by show FN Ca.n 42 _ _ _ _;rw[e,hCn];exact(La (toF n.2)).more (by decide)
 let Cd:=Cc.knowA 42 (λn:{n//n∈nms cs}=>[self,vs n.1]) (λn=>vi (hgt F n.1)) P k42;have o42':∀(n:{n//n∈nms cs}) {U'},P U'->Cd.O 42 [self,vs n.1] U'=aj (vi (hgt F n.1)):=λn U' hσ=>DH (λa b e=>by rw[vsj e]) n hσ;have k41:∀(c:{c//c∈cs}) U',P U'->FN Cd.n 41 [self,vs c.1.1] U' (vc c.1) U':=λc U' ⟨τ',e⟩=>by show FN Ca.n 41 _ _ _ _;rw[e,hCn];exact(Lb h.w.nd h.w.gen (h.perm.mem_iff.mpr c.2)).more (by decide)
 let Ce:=Cd.knowA 41 (λc:{c//c∈cs}=>[self,vs c.1.1]) (λc=>vc c.1) P k41;have o41':∀(c:{c//c∈cs}) {U'},P U'->Ce.O 41 [self,vs c.1.1] U'=aj (vc c.1):=λc U' hσ=>DH (λa b e=>by rw[En h.H.nd a.2 b.2 (vsj e)]) c hσ;have k43:∀(n:{n//n∈nms cs}) U',P U'->FN Ce.n 43 [self,vs n.1] U' (.d (dl (gdL gs n.1))) U':=λn U' ⟨τ',e⟩=>by show FN Ca.n 43 _ _ _ _;rw[e,hCn];exact(JO h.w (toF n.2)).more (by decide)
 let Cf:=Ce.knowA 43 (λn:{n//n∈nms cs}=>[self,vs n.1]) (λn=>.d (dl (gdL gs n.1))) P k43;have o43':∀(n:{n//n∈nms cs}) {U'},P U'->Cf.O 43 [self,vs n.1] U'=aj (.d (dl (gdL gs n.1))):=λn U' hσ=>DH (λa b e=>by rw[vsj e]) n hσ;have k44:∀(n:{n//n∈nms cs}) U',P U'->FN Cf.n 44 [self,vs n.1] U' (.d (dl (lnL cs gs n.1))) U':=λn U' ⟨τ',e⟩=>by show FN Ca.n 44 _ _ _ _;rw[e,hCn];exact(JL h (toF n.2)).more (by decide)
 let C:=Cf.knowA 44 (λn:{n//n∈nms cs}=>[self,vs n.1]) (λn=>.d (dl (lnL cs gs n.1))) P k44;have o44:∀(n:{n//n∈nms cs}) {U'},P U'->C.O 44 [self,vs n.1] U'=aj (.d (dl (lnL cs gs n.1))):=λn U' hσ=>DH (λa b e=>by rw[vsj e]) n hσ;have o41:∀(c:{c//c∈cs}) {U'},P U'->C.O 41 [self,vs c.1.1] U'=aj (vc c.1):=o41';have o42:∀(n:{n//n∈nms cs}) {U'},P U'->C.O 42 [self,vs n.1] U'=aj (vi (hgt F n.1)):=o42';have o60:=o60';have o51:∀{U'},P U'->C.O 51 [self] U'=aj (.d Qs):=o51';have o28:=hO;have hC6:C.n=6:=hCn;refine AH (FN.ends (f:=61) (zs:=[self,cD,vi cell]) (R:=λv U'=>v=vb true/\U'=U1) (by unfold Pg;rfl) rfl (by rw[hC6];decide) (by
  let K:Option V->Option V->Option V->Option V->Option V->Option V->Al:=λz3 z4 z5 z6 z7 z8=>[aj self,aj cD,aj (vi cell),z3,z4,z5,z6,z7,z8,au]
  refine BN (Cz (An (Af rfl rfl (AV (by decide))) rfl BL) λ_=>An (Gh rfl rfl (by unfold mtP;kernel_rfl) (o51 P0)) (Fc (Az rfl) (o60 U)) (FY eqQ)) (AC9 _) (AD rfl (.fcall ((Ad C.ok _).row (Az rfl)) ((FA.newR (JN cs (λc hc=>(h.gen c hc).few) h.len h.H.nd h.H.topo) (ae trivial AC) (ae trivial AC)).more (by rw[hC6];decide))) ?_);let Ln:Int:=(cs.length:Int)
  have hmin:∀{J:Al} {U:Ac},AT J 1=aj cD->(ev C.O (.cons (.bi .min (.cons (.cst (.int 4)) (.cons (.bi .len (.cons (.var 1) .nil)) .nil))) .nil)).row J U=aj [vi (if Ln<4 then Ln else 4)]:=λhv=>Az (AU (AY rfl (AU (Az hv) (CK.trans (by rw[AAB])))) rfl);refine AW (λj:Nat=>vi (j:Int)) (λ_ J U'=>(∃z4 z5 z6 z7 z8,J=K (aj (.ref U.length)) z4 z5 z6 z7 z8)/\U'=U1) (Qu (hmin rfl) (by split<;>omega) (by split<;>exact AB6 _)) ⟨(Me au au au au au rfl),rfl⟩ ?_ ?_
  ·intro p j q J q_u4 e q_r1;refine oA q_r1 λq_0 q_1=>?_;obtain⟨z4,z5,z6,z7,z8,rfl⟩:=q_0;subst q_1;have hj:=ABZ.mp (e▸AAW _ (.head _));have hpos:0<Ln:=by
    by_cases q:Ln<4
    ·rw[if_pos q] at hj;lia
    ·exact Zi q
   refine oA (Bc (cell+(j:Int)) hpos) λi0 i1=>?_;have hi:=by exact Kj i0 i1
   let c:=cs[((cell+(j:Int)).fmod Ln).toNat];have hc:c∈cs:=List.getElem_mem hi;have hcn:c.1∈nms cs:=AAZ hc;have hci:(cs.map Ch.data)[((cell+(j:Int)).fmod Ln).toNat]? = aj (Ch.data c):=by rw[ABI,AAN hi];rfl
   clear_value c
   refine Ax (Ae rfl (Af (Af rfl rfl rfl) (AU (Az rfl) (CK.trans (by rw[AAB]))) (AV (by lia))) (Eb _ i0 (Ra i1 h.len rfl) hci)) (Ax (Ae rfl rfl (Bb c)) ?_);have hgl:=(hg ⟨c.1,hcn⟩).2.1;refine Ax (AU (Az (Fc (AY rfl (Mt rfl)) (o28 ⟨c.1,hcn⟩ U1))) (Dr mm2 (AAS ‹_› (ACD rfl)))) (oEA (fT h hcn hg) λgi gi_eq eL=>?_);let L:=cs.filter λc=>gi c.1;have eL:Av (nms L)=Ft cs gs c.1:=eL;have hLl:(nms L).length<=60:=by rw[AAB];exact AAC (AAX _ _) h.len
   refine Mm (ds:=(nms L).map λt=>.str (Tx t)) ?_ ?_
   ·refine(Dh (λc=>.d (Ch.data c)) (λc=>gi c.1) (λc=>vs c.1) (BS rfl rfl) (AAC h.len (by decide)) (λc' hc'=>?_) (λc' hc' _=>Ae rfl rfl (Bb c'))).trans ?_
    ·have hcn':c'.1∈nms cs:=AAZ hc';exact(gi_eq c'.1 hcn')▸FG (An rfl (Fc (AY rfl (Mt (Ae rfl rfl (Bb c')))) (o28 ⟨c'.1,hcn'⟩ U1)) (by rw[XF,CE]))
    ·rw[AAE,AAE];rfl
   have hlnl:(lnL cs gs c.1).length<=60:=AAC (AAX _ _) (by rw[(Ah _).length_eq,AAB];exact h.len);let J1:=K (aj (.ref U.length)) (aj (vi (j:Int))) (aj (vc c)) (aj (vs c.1)) (aj (.d (dl (Av (gr ⟨c.1,hcn⟩))))) (aj (.d (dl (nms L))));have cat:∀{nm:Str} {f:Nat} {l:List (List Nat)},l.length<=60->mtP nm=aj f->C.O f [self,vs c.1] U1=aj (.d (dl l))->(ev C.O (.bi .sorted (.cons (.bin .Add (.mcall nm (.var 0) (.cons (.var 6) .nil)) (.lst (.cons (.var 6) .nil))) .nil))).v J1 U1=aj (.d (dl (Av (l++[c.1])))):=λ{nm f l} hl hm ho=>by refine AU (Az (x:=.d (dl (l++[c.1]))) (Af (y:=.d (dl [c.1])) (Gh rfl rfl hm ho) (Mt rfl) ?_)) (Dr mm2 (by rw[AAF];show l.length+1<64;omega));rw[Ki _ _ (lmt (AAC (ABS hl) (by decide))),<-AAQ]
   have s8:(ev C.O (.bi .sorted (.cons (.var 8) .nil))).v J1 U1=aj (.d (dl (Ft cs gs c.1))):=by exact eL▸AU (Az rfl) (Dr mm2 (by omega))
   have sl:=cat hlnl (nm:=ACC "leaning") (by unfold mtP;kernel_rfl) (o44 ⟨c.1,hcn⟩ P1);refine AS (KV h.w (toF hcn)) λls hls q_2 _=>?_;obtain⟨hll,_⟩:=q_2;have sg:=cat (by rw[gdL,hls];exact hll) (f:=43) (nm:=ACC "ground") (by unfold mtP;kernel_rfl) (o43' ⟨c.1,hcn⟩ P1);rw[Xm h hcn (hg ⟨c.1,hcn⟩).1 (hg ⟨c.1,hcn⟩).2.2] at sg;refine BN (Cz (An (Af (Af rfl rfl (CN (by decide))) rfl (AV (by decide))) rfl BL) λ_=>An sl s8 (FY (F9 39 _))) (AC9 _) (BN (DY (p:=false) ((An (Gh rfl rfl (by unfold mtP;kernel_rfl) (o42 ⟨c.1,hcn⟩ P1)) (Ae rfl rfl (Cp ?_ (UA hcn))) G4).trans (by rw[((J9 h.H.nd h.perm h.H.topo h.w.topo c hc).symm),AAI rfl];rfl)) λ_=>An (Gh rfl rfl (by unfold mtP;kernel_rfl) (o41 ⟨c,hc⟩ P1)) rfl (FY ?_)) rfl ?_)
   ·rw[AA6 (AAL _),ADF];rfl
   ·refine AS (Pl c c) λr e1 e2 _=>?_;rw[e1,e2 rfl]
   exact BN (An sg rfl (FY (F9 39 _))) rfl (BN (An sl s8 (FY (F9 39 _))) rfl (Ab (AB _ rfl (Me _ _ _ _ _ rfl) rfl)))
  ·intro J q_u1 q_r2;refine oA q_r2 λq_0 q_1=>?_;obtain⟨z4,z5,z6,z7,z8,rfl⟩:=q_0;subst q_1;exact AE (EO (Gh rfl rfl (by unfold mtP;kernel_rfl) (o51 P1)) (Fc (Az rfl) (o60 U1)) (eq_self' eqQ)) ⟨rfl,rfl⟩)) λv U' q_2 hf=>?_
 refine oA q_2 λh1 h2=>?_;rw[h1,h2,hC6] at hf;exact FA.seal hf rfl
end
theorem HO{F:List Ch}{gs:List (List Nat×List (List Nat))}{hs:Gsl}:∀o∈W F gs hs,Gj 0 o:=ae trivial (ae trivial (ae trivial AC))
section
variable{cs F:List Ch}{gs:List (List Nat×List (List Nat))}
theorem JM(h:Wov cs F gs)(cell:Int):FN 9 62 [self,.d (.list (cs.map Ch.data)),vi cell] (W F gs (hts [] F)++τ) (vb true) (W F gs (hts [] F)++τ):=by
 let U:=W F gs (hts [] F)++τ;let cD:V:=.d (.list (cs.map Ch.data));have f61:FN 8 61 [self,cD,vi cell] U (vb true) U:=(UN h cell).more (by decide);have f26:FN 8 26 [self,cD] U (vb true) U:=FA.tail (Gf h) rfl (ae DF (ae trivial AC)) (Fy 3);let C:=(C0 8).know 61 (vb true) (λxs U'=>xs=[self,cD,vi cell]/\U'=U) (by rintro _ _ ⟨rfl,rfl⟩;exact f61);have o61:C.O 61 [self,cD,vi cell] U=aj (vb true):=Qo ⟨rfl,rfl⟩;refine AH (FN.ends (f:=62) (zs:=[self,cD,vi cell]) (R:=λv U'=>v=vb true/\U'=U) (by unfold Pg;rfl) rfl (show 1<=8 by decide) (by refine BN (Cz (An (Af (Af rfl rfl (CN (by decide))) rfl (AV (by decide))) rfl BL) λ_=>Dp (Lh rfl o61)) (AC9 _) ?_;exact Du (.bop (.more rfl (.fcall ((Ad C.ok _).row rfl) f26) (C8 rfl) (λq=>tt_ q) λ_=>.one (.fcall ((Ad C.ok _).row rfl) f61))) ⟨rfl,rfl⟩)) λv U' q_2 hf=>?_
 obtain⟨h1,h2⟩:=q_2;rw[h1,h2] at hf;exact hf
end
theorem Xw(cs:List Ch)(hcs:cs.length<=60)(c:Int):∃fs:List (List Nat),fs.Sublist (cs.map (·.1))/\∀U,FN 3 79 [.d (.list (cs.map Ch.data)),vi c] U (.d (dl fs)) U:=by
 let C:=C1 2 (AAL _);let cD:V:=.d (.list (cs.map Ch.data));have hm:∀c k U,C.O 10 [vi c,vi k] U=aj (vi (CB c k)):=λ_ _ _=>rfl;refine AH (FN.ends (C:=C) (f:=79) (zs:=[cD,vi c]) (U:=[]) (R:=λv U'=>∃fs:List (List Nat),fs.Sublist (cs.map (·.1))/\v=.ref 0/\U'=[.list (fs.map vs)]) (by unfold Pg;rfl) rfl (by decide) (by
  refine Ax (Fc (AY rfl rfl) (hm _ _ _)) (Bx rfl ?_);let K:Int->Option V->Option V->Al:=λL z4 z5=>[aj cD,aj (vi c),aj (vi L),aj (.ref 0),z4,z5]
  refine G8 (l:=cs.zipIdx) (kps:=[]) (λp=>V.d (.tuple [.int (p.2:Int),Ch.data p.1])) (λp J τ=>∃fs:List (List Nat),fs.Sublist (p.map (·.1.1))/\(∃L z4 z5,J=K L z4 z5)/\τ=[.list (fs.map vs)]) ?_ (λ_ _ _ _ _ _ m=>nomatch m) (λ_ _=>.inr (iEA _ rfl rfl)) (AB [] (.refl _) (Fb _ au au rfl) rfl) ?_ ?_
  ·show(Jr [.list []] cD).bind (λds=>aj (Hq 0 ds,CV cD (ds.map .d)))=_;rw[show Jr [.list []] cD=aj (cs.map Ch.data) from Dl _,bs,NI,List.zipIdx_map,AAE];rfl
  ·intro p q_r1 q J τ hp q_r2;obtain⟨ch,i⟩:=q_r1;refine AS q_r2 λfs g1 q_2 q_3=>?_;obtain⟨L,z4,z5,rfl⟩:=q_2;subst q_3;have hfl:fs.length<100:=by have h1:=g1.length_le;have h2:=congrArg List.length hp;simp at h1 h2;exact YL h2 h1 hcs rfl
   refine CG (M:=λJ τ=>∃fs':List (List Nat),fs'.Sublist ((p++[(ch,i)]).map (·.1.1))/\J=K L (aj (vi i)) (aj (vc ch))/\τ=[.list (fs'.map vs)]) ?_ ?_
   ·refine AG (An (Af rfl rfl (AV (by decide))) rfl BL) (λ_=>?_) (λ_=>?_)
    ·refine Be rfl (Az (Ae rfl rfl (Bb ch))) rfl (lmt (ABT hfl (by decide))) (Ab (Ab (BT _ rfl (fs++[ch.1]) ?_ rfl ?_)))
     ·exact AAQ▸g1.append (.refl _)
     ·exact AAQ▸rfl
    ·exact Ab (Ab (BT _ rfl fs (AAQ▸g1.trans (List.sublist_append_left _ _)) rfl rfl))
   intro q_u0 q_u1 q_r3;refine AS q_r3 λfs' k1 q_2 q_3=>?_;subst q_2;subst q_3;refine Ax (Af rfl rfl (CN (by decide))) (AG rfl (λ_=>?_) (λ_=>?_))
   ·exact Ax (Fc (AY rfl rfl) (hm _ _ _)) (Ab (Ab (BT _ rfl fs' k1 (Fb _ _ _ rfl) rfl)))
   ·exact Ab (Ab (BT _ rfl fs' k1 (Fb _ _ _ rfl) rfl))
  ·intro J τ q_r4;refine AS q_r4 λfs g1 q_2 q_3=>?_;obtain⟨L,z4,z5,rfl⟩:=q_2;subst q_3;exact AE rfl (AB fs ((Mc cs 0)▸g1) rfl rfl))) λv U' q_2 h=>?_
 refine AS q_2 λfs k1 k2 k3=>?_;rw[k2,k3] at h;exact iEA fs k1 λU=>(FA.seal h ⟨_,rfl,ABF _,by rw[AAE];rfl⟩).any (ae (CC _ _) (ae (CC _ _) AC))
theorem Sh(nd:(nms cs).Nodup)(ht:CP cs)(hl:cs.length<=60)(hg:∀c∈cs,c.2.1.length<=60)(hn:∀n∈ns,n∈nms cs)(hnl:ns.length<=100):∃fs:List (List Nat),(∀n,n∈fs↔∃o∈ns,n=o\/Blw cs o n)/\∀U,FN 3 78 [.d (.list (cs.map Ch.data)),.d (dl ns)] U (.d (.list ((cs.filter λc=>decide (c.1∈fs)).map Ch.data))) U:=by
 refine AS (HS nd ht hl hg hn hnl) λfs _ g2 g3=>iEA fs g2 λU=>?_;let C:=C0 2;let cD:V:=.d (.list (cs.map Ch.data));refine AH (FN.ends (C:=C) (f:=78) (zs:=[cD,.d (dl ns)]) (R:=λv U'=>v=.d (.list ((cs.filter λc=>decide (c.1∈fs)).map Ch.data))/\U'=U) (by unfold Pg;rfl) rfl (by decide) (by refine AD rfl (.fcall ((Ad C.ok _).row (AY rfl rfl)) (g3 U)) ?_;refine AE (CF Ch.data (λc=>decide (c.1∈fs)) Ch.data (BS rfl rfl) (AAC hl (by decide)) (λc _=>FG (An (Ae rfl rfl (Bb c)) rfl (CE _ _))) (λc _ _=>rfl)) ⟨rfl,rfl⟩)) λv U' q_2 h=>?_
 rw[q_2.1,q_2.2] at h;exact h
noncomputable def Fu(η:List Nat->Int)(D:List Ch):List Ch:=(AJ ltI ((A9 D).reverse.map λc=>(η c.1,c))).map (·.2)
theorem El(η:List Nat->Int)(D:List Ch):(Fu η D).Perm D:=by have h:=(Bg (lt:=ltI) ((A9 D).reverse.map λc=>(η c.1,c))).map (·.2);rw[AAE,show((λx:Int×Ch=>x.2)∘λc:Ch=>(η c.1,c))=id from rfl,List.map_id] at h;exact h.trans ((AC1 _).trans (CM D))
theorem Nc(η:List Nat->Int)(D:List Ch):(Fu η D).Pairwise λa b=>η a.1<=η b.1:=by
 unfold Fu;rw[ACQ];have h:=DR fB ((A9 D).reverse.map λc=>(η c.1,c)) (List.pairwise_of_forall λ_ _=>trivial);refine h.imp_of_mem λ{a b} ha hb h=>?_;have key:∀x:Int×Ch,x∈AJ ltI ((A9 D).reverse.map λc=>(η c.1,c))->x.1=η x.2.1:=λx hx=>by refine oEA (AAP.mp ((Bg _).mem_iff.mp hx)) λc _ q_2=>?_;subst q_2;rfl
 rw[<-key a ha,<-key b hb];rcases h with h|h
 ·exact Int.le_of_lt (AAG h)
 ·exact h.1▸Int.le_refl _
theorem RC(hD:∀c∈D,∀l∈c.2.1,l∈nms D/\η l<η c.1):CP (Fu η D):=λpre c post e l hl=>by
 refine oA (hD c ((El η D).mem_iff.mp (e▸AAW _ (.head _))) l hl) λh1 h2=>oEA (AAP.mp h1) λc' h3 h4=>?_;have h5:=(El η D).mem_iff.mpr h3;have hs:=Nc η D;rw[e] at h5 hs;rcases AA0.mp h5 with q|q
 ·exact AAP.mpr (iEA c' q h4)
 ·rcases AAR.mp q with q|q
  ·rw[q] at h4;rw[h4] at h2;exact absurd h2 (Int.lt_irrefl _)
  ·have:=(ACO.mp (List.pairwise_append.mp hs).2.1).1 c' q;rw[h4] at this;exact absurd h2 (Int.not_lt.mpr this)
theorem LX(nd:(nms D).Nodup):Av (nms D)=nms (A9 D).reverse:=by refine CJ (λx y p q=>List.lt_irrefl _ (List.lt_trans p q)) (BY _ nd) ?_ ((Ah _).trans (((AC1 _).trans (CM D)).map _).symm);rw[ACQ,List.pairwise_reverse];exact EP nd
theorem Rz(η:List Nat->Int)(D:List Ch):Dg false RU.lt (((A9 D).reverse.map λc=>η c.1).zip ((A9 D).reverse.map λc=>PyData.str (Tx c.1)))=(Fu η D).map λc=>PyData.str (Tx c.1):=by rw[Fe];show(AJ ltI ((A9 D).reverse.map λc=>(η c.1,PyData.str (Tx c.1)))).map (·.2)=((AJ ltI ((A9 D).reverse.map λc=>(η c.1,c))).map (·.2)).map λc=>PyData.str (Tx c.1);rw[show((A9 D).reverse.map λc=>(η c.1,PyData.str (Tx c.1)))=((A9 D).reverse.map λc=>(η c.1,c)).map λp=>(p.1,PyData.str (Tx p.2.1)) by rw[AAE];rfl,DS (λp:Int×Ch=>(p.1,PyData.str (Tx p.2.1))) (λp q=>rfl),AAE,AAE];rfl
noncomputable abbrev ob(b:Nat):V:=.obj [b,b+1,b+2]
theorem Sd(H:BJ cs)(hg:∀c∈cs,GenCh c)(cl:cs.length<=60)(hp:D.Perm cs)(hi:U[i]? = aj (oH D))(hj:U[j]? = aj (oT hh))(hη:∀c∈D,Aq hh c.1=aj (η c.1))(hD:∀c∈D,∀l∈c.2.1,l∈nms D/\η l<η c.1) :
 ∃gs,GC (Fu η D) gs/\FN 6 76 [.ref i,.ref j] U (ob U.length) (U++W (Fu η D) gs (hts [] (Fu η D))):=by
 let C:=C0 5;have nd:=(hp.map (·.1)).nodup_iff.mpr H.nd;have hl:D.length<=60:=by rw[hp.length_eq];exact cl
 have hR:=(AC1 _).trans (CM D);have hi':∀τ,(U++τ)[i]? = aj (oH D):=λτ=>CT hi;have hj':∀τ,(U++τ)[j]? = aj (oT hh):=λτ=>CT hj;let K:Option V->Al:=λz=>[aj (.ref i),aj (.ref j),aj (ob U.length),z]
 refine AH (FN.ends (C:=C) (f:=76) (zs:=[.ref i,.ref j]) (U:=U) (R:=λv U'=>∃gs,GC (Fu η D) gs/\v=ob U.length/\U'=U++W (Fu η D) gs (hts [] (Fu η D))) (by unfold Pg;rfl) rfl (by decide) (by
  refine AD rfl (.new (f:=35) (by unfold mtP;kernel_rfl) (by unfold Pg;rfl)) ?_;have hs1:=by
   have h:=(Ad C.ok (.bi .sorted (.cons (.bi .list (.cons (.var 0) .nil)) .nil))).v (J:=K au) (U:=U++W [] [] []) (AU (Az (AU (Az rfl) (OQ (hi' _) (λn hn=>by refine oEA (AAP.mp hn) λx hx q_2=>?_;subst q_2;exact((Cj _).mp (hg x (hp.mem_iff.mp hx)).name).2.1) hl))) (Dr mm2 (lmt (AAS hl (by decide)))))
   rw[LX nd] at h;rw[show(dl (nms (A9 D).reverse))=.list ((A9 D).reverse.map λc=>PyData.str (Tx c.1)) by show PyData.list _=_;rw[AAE];rfl] at h;exact h
  have hk':Ay (λw b=>SE 7 (.sub (.var 1) (.var 3)) ((K au).set 3 (aj w)) (U++W [] [] []) (RU.kv b) (U++W [] [] [])) (((A9 D).reverse.map λc=>PyData.str (Tx c.1)).map .d) ((A9 D).reverse.map λc=>η c.1):=by rw[AAE];refine FO λc hc=>(Ad (C0 4).ok _).v (Ae rfl rfl (Cp (hj' _) ?_));rw[AO PyData.int BO,hη c (hR.mem_iff.mp hc)];rfl
  have h:=SL.sortk (rev:=false) hs1 rfl (KE ((hR.map _).nodup_iff.mpr nd)) (by rw[AAB,hR.length_eq];exact AAS hl (by decide)) hk';have h:=(congrArg (λl:List PyData=>SL 8 (.sortk false (.bi .sorted (.cons (.bi .list (.cons (.var 0) .nil)) .nil)) 3 (.sub (.var 1) (.var 3))) (K au) (U++W [] [] []) (l.map V.d) (U++W [] [] [])) (Rz η D)).mp h;refine EJ (λc=>vs c.1) (λp J τ=>∃gs,GC p gs/\(∃z,J=K z)/\τ=U++W p gs (hts [] p)) (SI.lst (SE.frz h) (by show aj (((Fu η D).map λc=>PyData.str (Tx c.1)).map V.d)=_;rw[AAE];rfl)) (AB [] ⟨ABY,λpre c post e=>by simp at e,(λc h=>nomatch h),ABF _,rfl,λp h=>nomatch h⟩ ⟨au,rfl⟩ rfl) ?_ ?_
  ·intro p c q J q_u4 e q_r1;refine AS q_r1 λgs w q_2 q_3=>?_;obtain⟨z,rfl⟩:=q_2;subst q_3;refine oEA (Pi w c (Px H hg cl ((El η D).trans hp) (RC hD) e)) λgs' w' hf=>?_;have hf:=hf [];rw[AAV,AAV] at hf;have hf:=FA.at (τ:=U) (τ':=[]) hf rfl rfl (ae trivial AC) HO HO rfl;rw[AAV,AAV] at hf;exact Bw rfl (.mcall Ai (by unfold mtP;kernel_rfl) ((Ad C.ok (.var 2)).v rfl) ((Ad C.ok _).row (Az (Ae rfl rfl (Cp (hi' _) (by rw[AO Ch.data BO,N7 nd ((El η D).mem_iff.mp (e▸AAW _ (.head _)))];rfl))))) hf) (Ab (BT _ rfl gs' w' ⟨_,rfl⟩ rfl))
  ·intro J q_u1 q_r2;refine AS q_r2 λgs w q_2 q_3=>?_;obtain⟨z,rfl⟩:=q_2;subst q_3;exact AE rfl (AB gs w rfl rfl))) λv U' q_2 h=>?_
 refine AS q_2 λgs k1 k2 k3=>?_;rw[k2,k3] at h;exact iEA gs k1 h
structure Gk(F:List Ch)(Z:List Nat->Prop)(kc:List (List Nat×Ch)):Prop where
 nd:(kc.map (·.1)).Nodup
 sm:∀q∈kc,q.1=q.2.1/\q.2∈F
 mem:∀n,n∈kc.map (·.1)↔Z n
theorem W6{κ β:Type}[DecidableEq κ]{h:List (κ×β)}{k:κ}{v:β}{p:κ×β}(hp:p∈Ci h k v):p=(k,v)\/p∈h:=by
 unfold Ci at hp;split at hp
 ·refine oEA (AAP.mp hp) λq hq q_2=>?_;subst q_2;by_cases e:q.1=k
  ·exact(if_pos e)▸e▸.inl rfl
  ·exact(if_neg e)▸.inr hq
 ·rcases AA0.mp hp with q|q
  ·exact .inr q
  ·exact .inl (AAJ.mp q)
theorem Gk.put(h:Gk F Z kc)(hc:c∈F):Gk F (λn=>n=c.1\/Z n) (Ci kc c.1 c) :=
 ⟨KM h.nd,λq hq=>(W6 hq).elim (λe=>by rw[e];exact⟨rfl,hc⟩) (h.sm q),λn=>(Fq n).trans (or_congr_right (h.mem n))⟩
theorem Gk.iff(h:Gk F Z kc)(e:∀n,Z n↔Z' n):Gk F Z' kc:=⟨h.nd,h.sm,λn=>(h.mem n).trans (e n)⟩
theorem Gk.hK(h:Gk F Z kc):kc=hK (kc.map (·.2)):=by
 show kc=(kc.map (·.2)).map λc=>(c.1,c)
 rw[AAE];refine((List.map_id kc).symm.trans (AC4 λq hq=>?_));show q=(q.2.1,q.2);rw[<-(h.sm q hq).1]
theorem Gk.len(h:Gk F Z kc)(hl:F.length<=60):kc.length<=60:=by
 have h1:∀n∈kc.map (·.1),n∈nms F:=λn hn=>by refine oEA (AAP.mp hn) λq hq q_2=>?_;subst q_2;exact((h.sm q hq).1)▸AAZ (h.sm q hq).2
 have h2:=Ja _ _ h.nd h1;rw[AAB,AAB] at h2;exact AAC h2 hl
noncomputable abbrev chD(kc:List (List Nat×Ch)):O:=.dictS (Bk Tx Ch.data kc)
noncomputable abbrev htD(F:List Ch)(kc:List (List Nat×Ch)):O:=.dictS (Bk Tx (λc:Ch=>PyData.int (hgt F c.1)) kc)
theorem dS:(U++[a,b]).set U.length a'=U++[a',b]:=by rw[List.set_append_right _ _ (AAL _),ADF];rfl
theorem dR:(U++[a,b]).set (U.length+1) b'=U++[a,b']:=by rw[List.set_append_right _ _ (AA9 _ _),Nat.add_sub_cancel_left];rfl
theorem Yv:(U++[a,b])[U.length]? = aj a:=by rw[AA6 (AAL _),ADF];rfl
theorem Yu:(U++[a,b])[U.length+1]? = aj b:=by rw[AA6 (AA9 _ _),Nat.add_sub_cancel_left];rfl
theorem Q3(hp:BH d=false)(hd:SE (C.n+3) d J U (.d dd) U)(ho:C.v o J U=aj (.ref k))(hi:C.v i J U=aj (.d (.str w)))(h0:U[k]? = aj (.dictS kvs))(hl:kvs.length<line)(kk:Ak C P r J (U.set k (.dictS (Ci kvs w dd)))):Ak C P (.cons (.set o i d) r) J U :=
 CD (λQ q=>.set hp hd ((Ad C.ok o).v ho) ((Ad C.ok i).v hi) (PS h0 hl) q) kk
theorem Qf(h:(nms l).Nodup):l.Nodup:=List.Pairwise.imp (λh e=>h (congrArg _ e)) (ACQ.mp h)
theorem bG{C:Cfg}(h:AT J i=aj y)(hl:A8 U y=aj ws):C.it (.var i) J U=aj (ws,CV y ws):=by
 show(AT J i).bind (DI U)=_;rw[h];have e:DI U y=(A8 U y).bind λws=>aj (ws,CV y ws):=by
  cases y with
  |d x =>
   cases x with
   |str z=>exact Aa hl
   |_=>rfl
  |_=>rfl
 exact bs▸e▸hl▸rfl
noncomputable abbrev Clo(F:List Ch)(ns:List (List Nat))(n:List Nat):Prop:=∃o∈ns,n=o\/Blw F o n
def mU(F:List Ch)(ns:List (List Nat))(U:Ac)(v:V)(U':Ac):Prop:=(∀n∈ns,n∈nms F)/\∃kc gs',Gk F (Clo F ns) kc/\GC (Fu (hgt F) (kc.map (·.2))) gs'/\v=ob (U.length+2)/\U'=U++[chD kc,htD F kc]++W (Fu (hgt F) (kc.map (·.2))) gs' (hts [] (Fu (hgt F) (kc.map (·.2))))
def mT(F:List Ch)(ns:List (List Nat))(U:Ac)(kk:Nat)(U':Ac):Prop:=kk=5/\(∃n∈ns,n∉nms F)/\∃τ',U'=U++τ'
section
variable{cs F:List Ch}{gs:List (List Nat×List (List Nat))}{ns:List (List Nat)}
theorem R7(hC:3<=C.n)(w:GC F gs)(ha:a∈nms F)(hp:Gk F (Clo F pre) kc)(U:Ac)(hσ:U=W F gs (hts [] F)++τ)(K:Option V->Option V->Al)(hK:K=λz4 z5=>[aj self,aj y,aj (.ref U.length),aj (.ref (U.length+1)),z4,z5]) :
 Ak C (λfl U'=>∃J',fl=.next J'/\∃kc',Gk F (Clo F (pre++[a])) kc'/\(∃z4 z5,J'=K z4 z5)/\U'=U++[chD kc',htD F kc'])
  (B0 .nil) (K (aj (vs a)) z5) (U++[chD kc,htD F kc]):=by
 subst hσ;subst hK;refine AS (KV w ha) λls hls hl hb=>?_;have hgl:gdL gs a=ls:=by show(Aq gs a).getD []=ls;rw[hls];rfl
 have hgm:=JO (hs:=hts [] F) (τ:=τ++[chD kc,htD F kc]) w ha;rw[hgl] at hgm;have hL:=λn hn=>(AA0.mp hn).elim (λq=>((hb n).mp q).names w.topo) λq=>by rw[AAJ.mp q];exact ha
 refine EJ vs (λp J U'=>∃kc',Gk F (λn=>Clo F pre n\/n∈p) kc'/\(∃z5,J=[aj self,aj y,aj (.ref (W F gs (hts [] F)++τ).length),aj (.ref ((W F gs (hts [] F)++τ).length+1)),aj (vs a),z5])/\U'=W F gs (hts [] F)++τ++[chD kc',htD F kc']) (SI.lst (GA (.bin (y:=.d (dl [a])) (.mcall Ai (by unfold mtP;kernel_rfl) ((Ad C.ok (.var 0)).v rfl) ((Ad C.ok _).row rfl) (hgm.more hC)) ((Ad C.ok (.lst (.cons (.var 4) .nil))).v rfl) (IG ?_)) (HL _ ?_)) (by show aj ((((ls++[a]).map λt=>PyData.str (Tx t))).map V.d)=_;rw[AAE];rfl)) (AB kc (hp.iff λn=>⟨.inl,λq=>q.elim id λq=>nomatch q⟩) ⟨_,rfl⟩ rfl) ?_ ?_
 ·show(if _ then _ else _)=_;rw[if_pos]
  ·rw[AAQ,AAQ]
  ·exact lmt (lmt (AAC (ABS hl.1) (by decide)))
 ·rw[AAB,AAF];exact AAC (ABS hl.1) (by decide)
 ·intro p x q J q_u4 e q_r1;refine AS q_r1 λkc' P q_2 q_3=>?_;obtain⟨z5,rfl⟩:=q_2;subst q_3;refine oEA (AAP.mp (hL x (e▸AAW _ (.head _)))) λc hc q_2=>?_;subst q_2;have hkl:∀{β:Type} (f:Ch->β),(Bk Tx f kc').length<line:=λf=>by rw[Bv];exact AAS (P.len w.len) (by decide)
  refine Q3 rfl (.mcall Ai (by unfold mtP;kernel_rfl) ((Ad C.ok (.var 0)).v rfl) ((Ad C.ok _).row rfl) ((Lb (gs:=gs) (hs:=hts [] F) (τ:=τ++[chD kc',htD F kc']) w.nd w.gen hc).more hC)) rfl rfl Yv (hkl _) ?_;rw[dS,Bu (f:=Ch.data) BO];refine Q3 rfl (.mcall Ai (by unfold mtP;kernel_rfl) ((Ad C.ok (.var 0)).v rfl) ((Ad C.ok _).row rfl) ((La (gs:=gs) (τ:=τ++[chD (Ci kc' c.1 c),htD F kc']) (AAZ hc)).more hC)) rfl rfl Yu (hkl _) ?_;rw[dR,Bu (f:=λc:Ch=>PyData.int (hgt F c.1)) BO];exact Ab (BT _ rfl _ ((P.put hc).iff λn=>⟨λq=>q.elim (λq=>.inr (q▸AAW _ (.head _))) λq=>q.imp id (AAU _),λq=>q.elim (λq=>.inr (.inl q)) λq=>(AA0.mp q).elim (λq=>.inr (.inr q)) λq=>.inl (AAJ.mp q)⟩) ⟨_,rfl⟩ rfl)
 ·intro J q_u1 q_r2;refine AS q_r2 λkc' P q_2 q_3=>?_;obtain⟨z5,rfl⟩:=q_2;subst q_3;refine Ab (BT _ rfl kc' (P.iff λn=>?_) (iEE _ _ rfl) rfl);constructor
  ·rintro(⟨o,h1,h2⟩|h)
   ·exact iEA o (AAU _ h1) h2
   ·refine(iEA a (AAW _ (.head _)) ?_);exact(AA0.mp h).elim (λq=>.inr ((hb n).mp q)) λq=>.inl (AAJ.mp q)
  ·intro q_r3;refine oEA q_r3 λo h1 h2=>?_;rcases AA0.mp h1 with q|q
   ·exact .inl (iEA o q h2)
   ·rw[AAJ.mp q] at h2;exact .inr (h2.elim (λe=>by rw[e];exact AAW _ (.head _)) λe=>AAU _ ((hb n).mpr e))
theorem OY{a:List Nat}{hs:Gsl}(ha:a∉nms F):FX 3 43 [self,vs a] (W F gs hs++τ) 5 (W F gs hs++τ) :=
 FX.of (fn:=Gw) (by unfold Pg;rfl) rfl (.head (.exp rfl (.mcall Ai (by unfold mtP;kernel_rfl) ((Ad (C0 2).ok (.var 0)).v rfl) ((Ad (C0 2).ok _).row rfl) (Xq ha)) rfl)) (by decide)
theorem QF(h:Wov cs F gs)(hy:∀τ',A8 (W F gs (hts [] F)++τ++τ') y=aj (ns.map vs)):FE 8 77 [self,y] (W F gs (hts [] F)++τ) (mU F ns (W F gs (hts [] F)++τ)) (mT F ns (W F gs (hts [] F)++τ)):=by
 let C:=C0 7;let U:=W F gs (hts [] F)++τ;refine Kr.fn (C:=C) (by unfold Pg;rfl) rfl (by decide) (JC (Hn (Ab ⟨rfl,rfl⟩)) ?_);refine JC (Hn (Ab ⟨rfl,rfl⟩)) ?_;let K:Option V->Option V->Al:=λz4 z5=>[aj self,aj y,aj (.ref U.length),aj (.ref (U.length+1)),z4,z5]
 have e1:U++[O.dictS []]++[O.dictS []]=U++[chD [],htD F []]:=ABQ _ _ _;have e2:(U++[O.dictS []]).length=U.length+1:=by rw[AAF];rfl
 rw[e1,e2];refine Xk (l:=ns) (kps:=CV y (ns.map vs)) vs (λp J U'=>(∀n∈p,n∈nms F)/\∃kc,Gk F (Clo F p) kc/\(∃z4 z5,J=K z4 z5)/\U'=U++[chD kc,htD F kc]) ?_ ?_ (λ_ _=>.inl rfl) ⟨(λn hn=>nomatch hn),[],⟨ABY,(λq hq=>nomatch hq),λn=>⟨(λq=>nomatch q),λq=>q.elim λo q=>nomatch q.1⟩⟩,⟨au,au,rfl⟩,rfl⟩ ?_ ?_
 ·exact bG rfl (hy _)
 ·intro p J q_u2 q_r4;refine T3 q_r4 λ_ kc _ _ q_4=>?_;subst q_4;exact EE (hy _)
 ·intro p a q J q_u4 e q_r5;refine T3 q_r5 λhp kc P q_3 q_4=>?_;obtain⟨z4,z5,rfl⟩:=q_3;subst q_4;by_cases ha:a∈nms F
  ·refine Q5 (R7 (by decide) h.w ha P U rfl K rfl) ?_;intro J' q_u1 q_r6;refine AS q_r6 λkc' P' q_2 q_3=>?_;obtain⟨z4,z5,rfl⟩:=q_2;subst q_3;exact .inl (Ab ⟨_,rfl,λn hn=>(AA0.mp hn).elim (hp n) λq=>by rw[AAJ.mp q];exact ha,kc',P',⟨_,_,rfl⟩,rfl⟩)
  ·refine .inr (Eu 5 (U++[chD kc,htD F kc]) ⟨rfl,(iEA a (by rw[e];exact AAW _ (.head _)) ha),_,rfl⟩ (.head (.forE (.bin (.mcall (f:=43) Ai (by unfold mtP;kernel_rfl) ((Ad C.ok (.var 0)).v rfl) ((Ad C.ok _).row (Az rfl)) ?_)) rfl)));exact FXA.more (OY ha) (by decide)
 ·intro J q_u1 q_r7;refine T3 q_r7 λhp kc P q_3 q_4=>?_;obtain⟨z4,z5,rfl⟩:=q_3;subst q_4;have nd:=h.w.nd;have hin:∀n,n∈nms (kc.map (·.2))↔Clo F ns n:=λn=>by
   rw[<-P.mem n];have:nms (kc.map (·.2))=kc.map (·.1):=by show(kc.map (·.2)).map (·.1)=_;rw[AAE];exact AC4 λq hq=>(P.sm q hq).1.symm
   rw[this]
  have hsub:∀c∈kc.map (·.2),c∈F:=λc hc=>by refine oEA (AAP.mp hc) λq hq q_2=>?_;subst q_2;exact(P.sm q hq).2
  have hclo:∀c∈kc.map (·.2),∀l∈c.2.1,l∈nms (kc.map (·.2)):=λc hc l hl=>by refine oEA ((hin c.1).mp (AAZ hc)) λo ho h1=>(hin l).mpr (iEA o ho (.inr ?_));have b:Blw F c.1 l:=.one (hsub c hc) hl;exact h1.elim (λq=>q▸b) λq=>q.trans b
  have ndD:=by have:=P.nd;rw[P.hK,AAE] at this;exact this
  have hpm:(kc.map (·.2)).Perm (cs.filter λc=>decide (c.1∈nms (kc.map (·.2)))):=by
   refine(List.perm_ext_iff_of_nodup (Qf ndD) ((Qf h.H.nd).filter _)).mpr λc=>?_;rw[AA4];constructor
   ·exactλq=>⟨h.perm.mem_iff.mp (hsub c q),AAI (AAZ q)⟩
   ·intro q_r8;exact oA q_r8 λq1 q2=>oEA (AAP.mp (AAG q2)) λc' q3 q4=>(En nd (hsub c' q3) (h.perm.mem_iff.mpr q1) q4)▸q3
  have HF:=h.H.filter (p:=λn=>decide (n∈nms (kc.map (·.2)))) λc hc hq l hl=>by refine oEA (AAP.mp (AAG hq)) λc' q3 q4=>?_;rw[<-En nd (hsub c' q3) (h.perm.mem_iff.mpr hc) q4] at hl;exact AAI (hclo c' q3 l hl)
  have hget:∀c∈kc.map (·.2),Aq (Bk id (λc:Ch=>hgt F c.1) (hK (kc.map (·.2)))) c.1=aj (hgt F c.1):=λc hc=>by refine(AO (λc:Ch=>hgt F c.1) (λ_ _ e=>e) (hK (kc.map (·.2))) c.1).trans ?_;exact(N7 ndD hc)▸rfl
  refine oEA (Sd (U:=U++[chD kc,htD F kc]) HF (λc hc=>h.gen c (AA4.mp hc).1) (AAC (AAX _ _) h.len) hpm (Yv.trans (congrArg (λk=>aj (chD k)) P.hK)) (Yu.trans (congrArg (λk=>aj (O.dictS k)) ?_)) hget λc hc l hl=>⟨hclo c hc l hl,Blw.lower nd h.w.topo (.one (hsub c hc) hl)⟩) λgs' w' hf=>?_
  ·rw[<-P.hK];show _=((kc.map λp=>(id p.1,hgt F p.2.1)).map _);exact AAE▸rfl
  ·have e3:(U++[chD kc,htD F kc]).length=U.length+2:=by rw[AAF];rfl
   rw[e3] at hf;exact .inl (Du (.fcall ((Ad C.ok _).row (AY rfl rfl)) (hf.more (by decide))) ⟨hp,kc,gs',P,w',rfl,rfl⟩)
end
section
variable{cs F:List Ch}{gs:List (List Nat×List (List Nat))}{ns fs:List (List Nat)}
theorem Wov.blw(h:Wov cs F gs){a b:List Nat}:Blw F a b↔Blw cs a b:=⟨Blw.mono λ_ q=>h.perm.mem_iff.mp q,Blw.mono λ_ q=>h.perm.mem_iff.mpr q⟩
theorem Tn(h:Wov cs F gs)(P:Gk F (Clo F ns) kc)(w:GC (Fu (hgt F) (kc.map (·.2))) gs')(hf:∀n,n∈fs↔∃o∈ns,n=o\/Blw cs o n)(H:BJ (cs.filter λc=>decide (c.1∈fs))):Wov (cs.filter λc=>decide (c.1∈fs)) (Fu (hgt F) (kc.map (·.2))) gs':=by
 have hsub:∀c∈kc.map (·.2),c∈F:=λc hc=>by refine oEA (AAP.mp hc) λq hq q_2=>?_;subst q_2;exact(P.sm q hq).2
 have hk:nms (kc.map (·.2))=kc.map (·.1):=by show(kc.map (·.2)).map (·.1)=_;rw[AAE];exact AC4 λq hq=>(P.sm q hq).1.symm
 have hin:∀n,n∈nms (kc.map (·.2))↔n∈fs:=λn=>by rw[hk,P.mem n,hf n];exact⟨λ⟨o,a,b⟩=>⟨o,a,b.imp id h.blw.mp⟩,λ⟨o,a,b⟩=>⟨o,a,b.imp id h.blw.mpr⟩⟩
 refine⟨H,λc hc=>h.gen c (AA4.mp hc).1,AAC (AAX _ _) h.len,(El _ _).trans ?_,w⟩;refine(List.perm_ext_iff_of_nodup (Qf (hk▸P.nd)) ((Qf h.H.nd).filter _)).mpr λc=>?_;rw[AA4];constructor
 ·exactλq=>⟨h.perm.mem_iff.mp (hsub c q),AAI ((hin _).mp (AAZ q))⟩
 ·rintro⟨q1,q2⟩;exact oEA (AAP.mp ((hin _).mpr (AAG q2))) λc' q3 q4=>(En h.w.nd (hsub c' q3) (h.perm.mem_iff.mpr q1) q4)▸q3
theorem Kc(h:Wov cs F gs)(hf:∀n,n∈fs↔∃o∈ns,n=o\/Blw cs o n):∀c∈cs,decide (c.1∈fs)=true->∀l∈c.2.1,decide (l∈fs)=true:=λc hc hq l hl=>by obtain⟨o,ho,h1⟩:=(hf c.1).mp (AAG hq);have b:Blw cs c.1 l:=.one hc hl;exact AAI ((hf l).mpr (iEA o ho (.inr (h1.elim (λq=>q▸b) λq=>q.trans b))))
theorem QA(h:Wov cs F gs)(hy:∀τ',A8 (W F gs (hts [] F)++τ++τ') y=aj (ns.map vs))(hn:∀n∈ns,n∈nms cs)(hf:∀n,n∈fs↔∃o∈ns,n=o\/Blw cs o n):∃G gs' τ',Wov (cs.filter λc=>decide (c.1∈fs)) G gs'/\τ'.length=2/\FN 8 77 [self,y] (W F gs (hts [] F)++τ) (ob ((W F gs (hts [] F)++τ).length+2)) (W F gs (hts [] F)++τ++τ'++W G gs' (hts [] G)):=by
 rcases QF h hy with⟨v,U',⟨_,kc,gs',P,w,rfl,rfl⟩,hc⟩|⟨kk,U',⟨_,⟨n,h1,h2⟩,_⟩,_⟩
 ·exact DJ _ gs' _ (Tn h P w hf (h.H.filter (p:=λn=>decide (n∈fs)) (Kc h hf))) rfl hc
 ·exact absurd ((h.perm.map (·.1)).mem_iff.mpr (hn n h1)) h2
theorem Xp(h:Wov cs F gs)(hy:∀τ',A8 (W F gs (hts [] F)++τ++τ') y=aj (ns.map vs)){n:List Nat}(hn:n∈ns)(hx:n∉nms cs):∃τ',FX 8 77 [self,y] (W F gs (hts [] F)++τ) 5 (W F gs (hts [] F)++τ++τ'):=by
 rcases QF h hy with⟨v,U',⟨h1,_⟩,_⟩|⟨kk,U',⟨rfl,_,τ',rfl⟩,hc⟩
 ·exact absurd ((h.perm.map (·.1)).mem_iff.mp (h1 n hn)) hx
 ·exact⟨τ',hc⟩
end
section
variable{n:Nat}
theorem HV(hi:2<J.length):∀bs:List Bool,Gx n (.var 2) [2] (.cons (.var 2) .nil) [] J U (vbs bs) U (vbs (bs.filter id))
 |[]=>⟨(λ_ _ m=>nomatch m),rfl,rfl⟩
 |b::bs=>by
  have hv:SE n (.var 2) (Cw (Bp J [2]) [2] (vb b)) U (vb b) U:=SE.var (by show((J.set 2 au).set 2 (aj (vb b)))[2]? = _;rw[AB1 (by rw[AB0];exact hi)]);have ht:=ST.plain (λhc=>GL (.var 2) rfl hc) hv (C8 rfl);refine⟨(λ_ _ m=>nomatch m),.inl rfl,b,U,?_,λq=>?_,λq=>?_⟩
  ·cases b with
   |true=>exact .cons ht .nil
   |false=>exact .no ht
  ·subst q;exact HV hi bs
  ·subst q;exact DJ (vb true) _ U hv rfl (HV hi bs)
end
theorem IU(hv:J[0]? = aj (aj (.exc j)))(hj:j∈Hu)(h0:Nat.beq k 0=false)(hk:k<10):SE n (.bi .isinstance (.cons (.var 0) (.cons (.glx k) .nil))) J U (vb (Cq j k)) U:=.bi2 (.cons (.var hv) (.cons .glx .nil)) (gF hj h0 hk)
theorem UQ(hj:j∈Hu):FA 2 73 [.exc j] U (vb true) U:=by
 let b1:List Bool:=[Cq j 2,Cq j 3,Cq j 4,Cq j 5]
 let b2:List Bool:=[Cq j 6,Cq j 7,Cq j 8,Cq j 9]
 have e1:=(show∀j∈Hu,(([Cq j 2,Cq j 3,Cq j 4,Cq j 5]:List Bool)++[Cq j 6,Cq j 7,Cq j 8,Cq j 9]).filter id=[true] by decide) j hj;have e2:Cq j 1=true:=by unfold Cq;rw[show Nat.beq 1 1=true from rfl,Bool.true_or,Bool.or_true]
 have e3:Cq j 0=true:=by unfold Cq;rw[show Nat.beq 0 0=true from rfl,Bool.or_true,Bool.or_true]
 have row:∀{z k1 k2 k3 k4},Nat.beq k1 0=false->k1<10->Nat.beq k2 0=false->k2<10->Nat.beq k3 0=false->k3<10->Nat.beq k4 0=false->k4<10 ->
  SE 1 (.lst (.cons (.bi .isinstance (.cons (.var 0) (.cons (.glx k1) .nil))) (.cons (.bi .isinstance (.cons (.var 0) (.cons (.glx k2) .nil))) (.cons (.bi .isinstance (.cons (.var 0) (.cons (.glx k3) .nil))) (.cons (.bi .isinstance (.cons (.var 0) (.cons (.glx k4) .nil))) .nil))))) [aj (.exc j),z,au] U (.d (.list [.bool (Cq j k1),.bool (Cq j k2),.bool (Cq j k3),.bool (Cq j k4)])) U:=λ{z k1 k2 k3 k4} a1 a2 a3 a4 a5 a6 a7 a8 =>
  SE.frz (SL.lst (.cons (IU rfl hj a1 a2) (.cons (IU rfl hj a3 a4) (.cons (IU rfl hj a5 a6) (.cons (IU rfl hj a7 a8) .nil)))) (show 4<=line by decide))
 refine FA.of (by unfold Pg;rfl) rfl ?_ (AAL _);refine .cons (.asg rfl (row (k1:=2) (k2:=3) (k3:=4) (k4:=5) rfl (by decide) rfl (by decide) rfl (by decide) rfl (by decide)) ?_);refine .cons (.asg (v:=.d (.list ((b1++b2).map .bool))) rfl (SE.frz (SL.bin (.var rfl) (row (k1:=6) (k2:=7) (k3:=8) (k4:=9) rfl (by decide) rfl (by decide) rfl (by decide) rfl (by decide)) (Ts (ws:=(b1.map PyData.bool).map V.d) rfl rfl (show 4+4<=line by decide)))) ?_);have hc:SE 1 (.comp (.var 2) [2] (.var 1) (.cons (.var 2) .nil)) [aj (.exc j),aj (.d (.list ((b1++b2).map .bool))),au] U (.d (.list [.bool true])) U:=by have h:=HV (n:=1) (U:=U) (J:=[aj (.exc j),aj (.d (.list ((b1++b2).map .bool))),au]) (show 2<3 by decide) (b1++b2);rw[e1] at h;exact SE.frz (SL.comp (SI.lst (.var rfl) rfl) h (by decide))
 refine .cons (.ret (.bop (.more rfl (.cmp (.bi1 (.cons hc .nil) (LV rfl)) (.cst (.int 1)) (Ew rfl)) (C8 rfl) (λq=>nomatch q) λ_=>?_)) ⟨rfl,rfl⟩);exact .more (t:=true) rfl (e2▸IU rfl hj rfl (by decide)) (C8 rfl) (λq=>nomatch q) λ_=>.one (e3▸SE.bi2 (.cons (.var rfl) (.cons .ty .nil)) (bX hj))
theorem Pn{C:Cfg}{l1 l2:List (List Nat)}(h1:(ev C.O a).v J U=aj (.d (dl l1)))(h2:(ev C.O b).v J U=aj (.d (dl l2)))(hl:l1.length+l2.length<=1000):(ev C.O (.bin .Add a b)).v J U=aj (.d (dl (l1++l2))):=(Af h1 h2 (Ki _ _ (by rw[AAB,AAB];exact AAC hl (by decide)))).trans (by rw[<-AAQ])
section
variable{cs F:List Ch}{gs:List (List Nat×List (List Nat))}{ns:List (List Nat)}
theorem Pc(h:Wov cs F gs)(hl:ns.length<=100)(cell:Int)(ho:o∉nms cs):∃τ',FN 10 74 [self,.d (dl ns),vi cell,vs o] (W F gs (hts [] F)++τ) (vb true) (W F gs (hts [] F)++τ++τ'):=by
 let C:=C0 9;let i:Int:=cell.fmod ((ns.length:Int)+1);have hi:0<=i:=(Bc cell (Zk)).1;let l:=ns.take i.toNat++[o]++ns.drop i.toNat;have hll:l.length<=200:=by rw[AAF,AAF,ACP,ADE,List.length_singleton];omega
 refine oE (Xp (τ:=τ) (y:=.d (dl l)) h (λτ'=>by show aj ((l.map λt=>PyData.str (Tx t)).map V.d)=_;rw[AAE];rfl) (AAU _ (AAW _ (.head _))) ho) λτ' hx=>⟨τ',?_⟩
 refine FA.of (by unfold Pg;rfl) rfl ?_ (by decide);let J:Al:=[aj self,aj (.d (dl ns)),aj (vi cell),aj (vs o),aj (vi i),au]
 have hl':(ns.map λt=>PyData.str (Tx t)).length<=line:=by rw[AAB];exact AAC hl (by decide)
 have s1:(ev C.O (.slc (.var 1) .nil (.var 4))).v J (W F gs (hts [] F)++τ)=aj (.d (dl (ns.take i.toNat))):=by show slice (W F gs (hts [] F)++τ) (.d (dl ns)) au (aj i)=_;rw[Wt hi hl',<-List.map_take]
 have s2:(ev C.O (.slc (.var 1) (.var 4) .nil)).v J (W F gs (hts [] F)++τ)=aj (.d (dl (ns.drop i.toNat))):=by show slice (W F gs (hts [] F)++τ) (.d (dl ns)) (aj i) au=_;rw[HA hi hl',<-List.map_drop]
 have s3:(ns.take i.toNat).length+1<=1000:=by exact ACP▸AAC (ABS (AAC (Nat.min_le_right _ _) hl)) (by decide)
 have s4:(ns.take i.toNat++[o]).length+(ns.drop i.toNat).length<=1000:=by exact AAF▸AAC hll (by decide)
 refine .cons (.asg rfl ((Ad C.ok _).v (Af rfl (Af (AU (Az rfl) (CK.trans (by rw[AAB]))) rfl rfl) (AV (Zl)))) ?_);refine .cons (.tryAs (.head (.exp rfl (.fcall ((Ad C.ok (.cons (.var 0) (.cons (.bin .Add (.bin .Add (.slc (.var 1) .nil (.var 4)) (.lst (.cons (.var 3) .nil))) (.slc (.var 1) (.var 4) .nil)) .nil))).row (AY rfl (Pn (Pn (l2:=[o]) s1 rfl s3) s2 s4))) (FXA.more hx (by decide))) ⟨rfl,rfl⟩)) (by decide) (.fcall (.cons (.var rfl) .nil) (UQ (.head _))) ⟨rfl,rfl⟩)
end
section
variable{cs F G:List Ch}{gs gs':List (List Nat×List (List Nat))}{τ:Ac}{ns fs:List (List Nat)}{a:List Nat}
theorem NA(h:Wov cs F gs)(ha:a∈nms cs):∃(p:List Nat->Bool) (F':List Ch) (gs':List (List Nat×List (List Nat))) (d:PyData),Wov (cs.filter λc=>p c.1) F' gs'/\p a=false/\∀τ,FN 5 39 [self,vs a] (W F gs (hts [] F)++τ) (.d d) (W F' gs' (hts [] F')++τ):=by
 have hcl:=OG h ha;refine(EG (CA (Ft cs gs a)) _ _ _ (h.left hcl) ?_ (λτ=>Xv h ((h.perm.map (·.1)).mem_iff.mpr ha) (Nr h) λc hc=>hcl c (h.perm.mem_iff.mp hc)));cases e:CA (Ft cs gs a) a with
 |false=>rfl
 |true=>exact absurd ((Ah _).mem_iff.mpr (AAW _ (.head _))) (T6.mp e)
theorem FN.wv{d:PyData}{zs:List V}(h:FN n f (self::zs) (W F gs (hts [] F)) (.d d) (W F gs (hts [] F)))(hz:∀z,z∈zs->low 0 z)(hb:τ.length=b):FN n f (ob b::zs) (τ++(W F gs (hts [] F)++τ')) (.d d) (τ++(W F gs (hts [] F)++τ')):=FA.at h rfl rfl hz HO HO hb
theorem FN.wv2{d:PyData}{zs:List V}(h:FN n f (self::zs) (W F gs (hts [] F)) (.d d) (W G gs' (hts [] G)))(hz:∀z,z∈zs->low 0 z)(hb:τ.length=b):FN n f (ob b::zs) (τ++(W F gs (hts [] F)++τ')) (.d d) (τ++(W G gs' (hts [] G)++τ')):=FA.at h rfl rfl hz HO HO hb
theorem MX(h:Wov cs F gs)(hf:∀n,n∈fs↔∃o∈ns,n=o\/Blw cs o n):(Aw (Am (cs.filter λc=>decide (c.1∈fs)))).1=(Aw (Am cs)).1.filter λm=>decide (m.1∈fs):=by
 have hcl:=Kc h hf;have ho:=BW h.H.nd;have ho':=BW (h.H.filter (p:=λn=>decide (n∈fs)) hcl).nd;have k:FS (hgt cs) (cs.filter λc=>decide (c.1∈fs)) (Am (cs.filter λc=>decide (c.1∈fs))):=by refine⟨ho'.perm,ho'.bf.imp_of_mem λ{a b} ha hb h=>?_⟩;unfold Bf at h ⊢;rw[JA (p:=λn=>decide (n∈fs)) hcl ((AA4.mp (ho'.perm.mem_iff.mp ha)).2),JA (p:=λn=>decide (n∈fs)) hcl ((AA4.mp (ho'.perm.mem_iff.mp hb)).2)] at h;exact h
 have e:=IV h.H ho (p:=λn=>decide (n∈fs)) hcl (Am cs) [] rfl rfl;rw[List.nil_append] at e;rw[Ej,Ej,k.uniq (ho.filter λc=>decide (c.1∈fs))];exact e.symm
end
noncomputable def chA:Ch:=([97],[],[⟨He,au,aj []⟩])
theorem Yw:GenCh chA:=⟨by decide +kernel,ABF _,.nil,by decide,λd hd=>by rw[AAJ.mp hd];exact⟨.inl (fO rfl [] rfl ⟨by decide,λc hc=>nomatch hc⟩),λe=>absurd e (by decide)⟩⟩
theorem Vp:BJ [chA]:=⟨ABX.mpr ⟨(λh=>nomatch h),ABY⟩,λpre c post e=>by
 cases pre with
 |nil =>
  injection e with e1 e2
  subst e1;exact⟨(λl hl=>nomatch hl),(λm hm=>nomatch hm),trivial⟩
 |cons x pre =>
  injection e with e1 e2
  exact absurd (congrArg List.length e2) (by show ¬ ([]:List Ch).length=(pre++c::post).length;rw[AAF,AA2];exactλq=>nomatch q)⟩
theorem mL:Ro [] chA:=Px Vp (λc hc=>by rw[AAJ.mp hc];exact Yw) (by decide) (.refl _) (λpre c post e=>by exactλl hl=>((Vp.ok pre c post e).1 l hl)) rfl
theorem Z0:(Bm (Aw (Am [chA]))).map (·.2)=[[]]:=by decide +kernel
theorem Gd(h:ST (C.n+3) c J U t U')(kt:t=true->Ak C (Om C P r) a J U')(kf:t=false->Ak C (Om C P r) b J U'):Ak C P (.cons (.ite c a b) r) J U:=by
 cases t with
 |true =>
  exact AH (kt rfl) λfl U2 h1 h2=>CD (λQ q=>.ite h (λ_=>SSs.mono (λf s e=>by rw[e.1,e.2];exact q) h2) λe=>nomatch e) h1
 |false =>
  exact AH (kf rfl) λfl U2 h1 h2=>CD (λQ q=>.ite h (λe=>nomatch e) λ_=>SSs.mono (λf s e=>by rw[e.1,e.2];exact q) h2) h1
section
variable{L G:List Ch}{gs:List (List Nat×List (List Nat))}{τ:Ac}
theorem R2{C:Cfg}{P:Fl->Ac->Prop}(hC:5<=C.n)(h:Wov L G gs)(hb:τ.length=b){K:Option V->Al}(h9:∀z,AT (K z) 9=aj (ob b))(h11:∀z,AT (K z) 11=aj (.d (dl (nms L))))(hs:∀z v,(K z).set 13 (aj v)=K (aj v))(h13:∀v,AT (K (aj v)) 13=aj v){z:Option V}
 (k:∀z,Ak C P r (K z) (τ++(W [] [] []++τ'))) :
 Ak C P (B1 r) (K z) (τ++(W G gs (hts [] G)++τ')):=by
 refine AW (λn=>vs n) (λp J U'=>∃M G' gs',Wov M G' gs'/\(∀n∈p,n∉nms M)/\(∀n∈nms M,n∈nms L)/\(∃z,J=K z)/\U'=τ++(W G' gs' (hts [] G')++τ')) (EV (h11 z)) ⟨L,G,gs,h,(λn hn=>nomatch hn),λn hn=>hn,⟨z,rfl⟩,rfl⟩ ?_ ?_
 ·intro p n q J q_u4 e q_r1;refine Ng q_r1 λM G' gs' w h1 h2 q_6 q_7=>?_;obtain⟨z,rfl⟩:=q_6;subst q_7;rw[hs];refine Gd (.cmp ((Ad C.ok (.var 13)).v (h13 _)) (.mcall Ai (by unfold mtP;kernel_rfl) ((Ad C.ok (.var 9)).v (h9 _)) .nil (FN.more (FN.wv (τ':=τ') (KZ w) (λz hz=>nomatch hz) hb) (AAC (by decide) hC))) (Ew (CE _ _))) (λt=>?_) λt=>?_
  ·refine DW (NA w ((Ah _).mem_iff.mp (AAG t))) λpr F' gs2 d w' e1 hf=>?_;have hf:=hf [];rw[AAV,AAV] at hf;refine Bw rfl (.mcall Ai (by unfold mtP;kernel_rfl) ((Ad C.ok (.var 9)).v (h9 _)) ((Ad C.ok _).row (Az (h13 _))) (FN.more (FN.wv2 (τ':=τ') hf (ae trivial AC) hb) hC)) (Ab (Ab ⟨_,rfl,_,F',gs2,w',λm hm' hq=>?_,λm hm'=>?_,⟨_,rfl⟩,rfl⟩))
   ·refine oEA (AAP.mp hq) λc c1 q_2=>?_;subst q_2;have c2:=AA4.mp c1;rcases AA0.mp hm' with q|q
    ·exact h1 _ q (AAZ c2.1)
    ·rw[AAJ.mp q,e1] at c2;exact nomatch c2.2
   ·refine oEA (AAP.mp hm') λc c1 q_2=>?_;subst q_2;exact h2 _ (AAZ (AA4.mp c1).1)
  ·exact Ab (Ab ⟨_,rfl,M,G',gs',w,λm hm' hq=>(AA0.mp hm').elim (λq=>h1 m q hq) λq=>(λq=>ABG t ((Ah _).mem_iff.mpr q)) (AAJ.mp q▸hq),h2,⟨_,rfl⟩,rfl⟩)
 ·intro J q_u1 q_r2;refine Ng q_r2 λM G' gs' w h1 h2 q_6 q_7=>?_;obtain⟨z,rfl⟩:=q_6;subst q_7;have e1:M=[]:=by
   cases M with
   |nil=>rfl
   |cons c M=>exact absurd (.head _) (h1 c.1 (h2 c.1 (.head _)))
  subst e1;have e2:=List.perm_nil.mp w.perm;subst e2;have e3:=List.map_eq_nil_iff.mp w.w.gk;subst e3;exact k z
end
theorem dF:∃gs,Wov [chA] [chA] gs/\∀τ,FN 5 36 [self,vc chA] (W [] [] []++τ) Cv (W [chA] gs (hts [] [chA])++τ):=by exact oEA (Pi (F:=[]) (gs:=[]) ⟨ABY,λpre c post e=>by simp at e,(λc h=>nomatch h),ABF _,rfl,λp h=>nomatch h⟩ chA mL) λgs w hf=>(iEA gs ⟨Vp,λc hc=>by rw[AAJ.mp hc];exact Yw,by decide,.refl _,w⟩ hf)
theorem Te(hC:5<=C.n)(hb:τ.length=b)(h9:AT J 9=aj (ob b))
 (k:∀gs,Wov [chA] [chA] gs->Ak C P r J (τ++(W [chA] gs (hts [] [chA])++τ'))) :
 Ak C P (B2 r) J (τ++(W [] [] []++τ')):=by
 refine oEA dF λgs w hf=>?_;have hf:=hf [];rw[AAV,AAV] at hf;exact Bw rfl (.mcall Ai (by unfold mtP;kernel_rfl) ((Ad C.ok (.var 9)).v h9) ((Ad C.ok _).row (Az rfl)) (FN.more (FN.wv2 (τ':=τ') hf (ae trivial AC) hb) hC)) (k gs w)
section
variable{cs F:List Ch}{gs:List (List Nat×List (List Nat))}
theorem Pa(h:Wov cs F gs):FN 8 26 [self,.d (.list (cs.map Ch.data))] (W F gs (hts [] F)++τ) (vb true) (W F gs (hts [] F)++τ):=FA.tail (Gf h) rfl (ae DF (ae trivial AC)) (Fy 3)
theorem Eh(h:SE n (.fcall f a) J U (vb t) U'):ST n (.not (.fcall f a)) J U (!t) U':=.not (ST.plain (λhc=>GL (.fcall f a) rfl hc) h (C8 rfl))
theorem Tc(hC:8<=C.n)(h:Wov cs F gs)(hA:Wov [chA] [chA] gsA)(hb:(W F gs (hts [] F)++τ).length=b)(h1:AT J 1=aj (.d (.list (cs.map Ch.data))))(h2:AT J 2=aj self)(h9:AT J 9=aj (ob b))
 (k:Ak C P r J (W F gs (hts [] F)++τ++(W [chA] gsA (hts [] [chA])++τ'))) :
 Ak C P (B3 r) J (W F gs (hts [] F)++τ++(W [chA] gsA (hts [] [chA])++τ')):=by
 have ht:=FN.wv (τ':=τ') (N9 hA) (λz hz=>nomatch hz) hb;rw[Z0] at ht;refine Gd (t:=false) (ST.bop (.cons (Eh (.fcall (.cons (.mcall Ai (by unfold mtP;kernel_rfl) ((Ad C.ok (.var 9)).v h9) .nil (FN.more ht (AAC (by decide) hC))) (.cons ((Ad C.ok (.lst (.cons (.cst (.str (ACC ""))) .nil))).v rfl) .nil)) (FN.more (EL [[]] (.inl rfl) (by decide)) (AAC (by decide) hC)))) (λq=>nomatch q) λ_=>?_)) (λq=>nomatch q) λ_=>Ab k;exact .cons (Eh (.fcall ((Ad C.ok (.cons (.var 2) (.cons (.var 1) .nil))).row (AY h2 h1)) (FN.more (Pa h) hC))) (λq=>nomatch q) λ_=>.nil
end
section
variable{cs F G:List Ch}{gs gs':List (List Nat×List (List Nat))}{ns fs:List (List Nat)}{o:List Nat}
theorem UD{J:Al}(h:J.length=16):AT ((J.set 15 au).set 15 (aj v)) 15=aj v:=by unfold AT;rw[AB1 (by rw[AB0,h];decide)]
theorem fU(h:AT J i=aj w)(hi:i≠15:=by decide):AT ((J.set 15 au).set 15 (aj v)) i=aj w:=by unfold AT at h ⊢;rw[ADJ (Ne.symm hi),ADJ (Ne.symm hi)];exact h
theorem LF{C:Cfg}{P:Fl->Ac->Prop}(hC:10<=C.n)(h:Wov cs F gs)(hf:∀n,n∈fs↔∃o∈ns,n=o\/Blw cs o n)(hG:Wov (cs.filter λc=>decide (c.1∈fs)) G gs')(hb:(W F gs (hts [] F)++τ).length=b)(hl:ns.length<=100)(hn:∀n∈ns,n∈nms cs)(ho:o∉nms cs){cell:Int}{J:Al}(hρ:J.length=16)(h2:AT J 2=aj self)(h3:AT J 3=aj (.d (dms (Aw (Am cs)).1)))(h6:AT J 6=aj (vi cell))(h7:AT J 7=aj (.d (dl ns)))(h9:AT J 9=aj (ob b))(h11:AT J 11=aj (.d (dl (nms (cs.filter λc=>decide (c.1∈fs))))))(h12:AT J 12=aj (vs o))
 (k:∀τ'',Ak C P r J (W F gs (hts [] F)++τ++(W G gs' (hts [] G)++τ''))) :
 Ak C P (B4 r) J (W F gs (hts [] F)++τ++(W G gs' (hts [] G)++τ')):=by
 let U:=W F gs (hts [] F)++τ++(W G gs' (hts [] G)++τ');have hr:=FN.wv (τ':=τ') (fn_row' hG) (λz hz=>nomatch hz) hb;have hmem:∀m∈(Aw (Am cs)).1,decide (m.1∈nms (cs.filter λc=>decide (c.1∈fs)))=decide (m.1∈fs):=λm _=>by
  refine decide_eq_decide.mpr ⟨λq=>?_,λq=>?_⟩
  ·exact oEA (AAP.mp q) λc c1 c2=>c2▸AAG (AA4.mp c1).2
  ·refine oEA ((hf m.1).mp q) λo o1 o2=>?_;exact oEA (AAP.mp (o2.elim (λe=>e▸hn o o1) λe=>e.names h.H.topo)) λc c1 c2=>AAP.mpr ⟨c,AA4.mpr ⟨c1,AAI (c2▸q)⟩,c2⟩
 have hcomp:(ev C.O (.comp (.var 15) [15] (.var 3) (.cons (.cmp .In (.sub (.var 15) (.cst (.int 0))) (.var 11)) .nil))).v J U=aj (.d (dms ((Aw (Am cs)).1.filter λm=>decide (m.1∈fs)))):=by have hO:=BW h.H.nd;have hlen:(Aw (Am cs)).1.length<=line:=AAC (IB (λc hc=>h.gen c (hO.perm.mem_iff.mp hc)) (hO.perm.length_eq▸h.len)) (by decide);exact(List.filter_congr hmem)▸CF (λm=>AF (aj m)) (λm=>decide (m.1∈nms (cs.filter λc=>decide (c.1∈fs)))) (λm=>AF (aj m)) (EV h3) hlen (λm _=>FG (An (Ae (UD hρ) rfl rfl) (fU h11) (CE _ _))) (λm _ _=>UD hρ)
 rw[MX h hf] at hr;refine oE (Pc (τ:=τ++(W G gs' (hts [] G)++τ')) h hl cell ho) λτ'' hx=>?_;have e1:W F gs (hts [] F)++(τ++(W G gs' (hts [] G)++τ'))=U:=(ABQ _ _ _).symm;have e2:W F gs (hts [] F)++(τ++(W G gs' (hts [] G)++τ'))++τ''=W F gs (hts [] F)++τ++(W G gs' (hts [] G)++(τ'++τ'')):=by simp only[ABQ]
 rw[e2,e1] at hx;refine Gd (t:=false) (U':=W F gs (hts [] F)++τ++(W G gs' (hts [] G)++(τ'++τ''))) (ST.bop (.cons (.cmp (.mcall Ai (by unfold mtP;kernel_rfl) ((Ad C.ok (.var 9)).v h9) .nil (FN.more hr (AAC (by decide) hC))) ((Ad C.ok _).v hcomp) (Ew (FY (JS λd hd=>?_)))) (λq=>nomatch q) λ_=>?_)) (λq=>nomatch q) λ_=>Ab (k _)
 ·refine oEA (AAP.mp hd) λm _ q_2=>?_;subst q_2;exact NH _ m
 ·exact .cons (Eh (.fcall ((Ad C.ok (.cons (.var 2) (.cons (.var 7) (.cons (.var 6) (.cons (.var 12) .nil))))).row (NJ h2 (Ms h7 h6 h12))) (FN.more hx hC))) (λq=>nomatch q) λ_=>.nil
end
section
variable{cs L F G:List Ch}{gs gs':List (List Nat×List (List Nat))}{τ:Ac}
theorem R5{C:Cfg}(hC:9<=C.n)(hG:Wov L G gs')(hb:τ.length=b)(h6:AT J 6=aj (vi cell))(h9:AT J 9=aj (ob b))(h10:AT J 10=aj (.d (.list (L.map Ch.data))))
 (k:Ak C P r J (τ++(W G gs' (hts [] G)++τ'))) :
 Ak C P (B5 r) J (τ++(W G gs' (hts [] G)++τ')):=by
 have hf:=JM (τ:=[]) hG cell;rw[AAV] at hf;exact Gd (Eh (.fcall ((Ad C.ok (.cons (.var 9) (.cons (.var 10) (.cons (.var 6) .nil)))).row (Ms h9 h10 h6)) (FN.more (FN.wv (τ':=τ') hf (ae trivial (ae trivial AC)) hb) hC))) (λq=>nomatch q) λ_=>Ab k
theorem Td{C:Cfg}(hC:7<=C.n)(hG:Wov L G gs')(hb:τ.length=b){hs:List PyData}(hi:τ[i]? = aj (.list (hs.map .d)))(hl:hs.length<=100)(h4:AT J 4=aj (.ref i))(h9:AT J 9=aj (ob b))
 (k:Ak C P r J (τ.set i (.list ((hs++(Mz L gs').map kp).map .d))++(W G gs' (hts [] G)++τ'))) :
 Ak C P (B6 r) J (τ++(W G gs' (hts [] G)++τ')):=by
 have hlt:=(AAM.mp hi).1;have hf:=QC hG (CT hi) hl λn f d h=>FN.wv (τ':=τ') h (λz hz=>nomatch hz) hb;rw[List.set_append_left _ _ hlt] at hf;exact Bw rfl (.fcall ((Ad C.ok (.cons (.var 9) (.cons (.var 4) .nil))).row (AY h9 h4)) (FN.more hf hC)) k
end
noncomputable abbrev K11(ns:List Int)(cs:List Ch)(z5 z6 z7 z8 z9 z10 z11 z12 z13:Option V):Al:=[aj (.d (scD ns)),aj (.d (.list (cs.map Ch.data))),aj self,aj (.d (dms (Aw (Am cs)).1)),aj (.ref 3),z5,z6,z7,z8,z9,z10,z11,z12,z13,au,au]
section
variable{cs F G:List Ch}{gs gs':List (List Nat×List (List Nat))}{U:Ac}{ns:List Int}{nn fs:List (List Nat)}{z5 z6 z7 z8 z9 z10 z11 z12 z13:Option V}
theorem R3{C:Cfg}{P:Fl->Ac->Prop}{r:S}(hC:3<=C.n)(o9:∀(k:Int),0<=k->k<1000->∀U,C.O 9 [.d (scD ns),vi k] U=aj (vi (ns.getD k.toNat 0)))(cl:cs.length<=60){j:Nat}(hj:j<100)
 (k:∀(c:Int) (nn:List (List Nat)),(∀n∈nn,n∈nms cs)->nn.length<=61->Ak C P r (K11 ns cs (aj (vi j)) (aj (vi c)) (aj (.d (dl nn))) (aj (.ref U.length)) z9 z10 z11 z12 z13) (U++[.list (nn.map vs)])) :
 Ak C P (B8 r) (K11 ns cs (aj (vi j)) z6 z7 z8 z9 z10 z11 z12 z13) U:=by
 let c:Int:=ns.getD (1+(j:Int)).toNat 0;refine oEA (Xw cs cl c) λfs h1 h2=>Ax (Fc (AY rfl (Af rfl rfl rfl)) (o9 _ (by exact AB6 _) (by omega) _)) (AD rfl (.fcall ((Ad C.ok (.cons (.var 1) (.cons (.var 6) .nil))).row (AY rfl rfl)) ((h2 U).more hC)) ?_);have hn:∀n∈fs,n∈nms cs:=λn hn=>h1.mem hn;have hl:=AAC h1.length_le (lml cl);refine CG (M:=λJ U'=>∃nn:List (List Nat),(∀n∈nn,n∈nms cs)/\nn.length<=61/\J=K11 ns cs (aj (vi j)) (aj (vi c)) (aj (.d (dl nn))) z8 z9 z10 z11 z12 z13/\U'=U) ?_ ?_
 ·cases fs with
  |nil=>exact AG (Cz (q:=false) rfl λq=>nomatch q) (λq=>nomatch q) λ_=>Ab (Ab ⟨_,rfl,[],hn,ABF _,rfl,rfl⟩)
  |cons x fs =>
   refine AG (Cz rfl λ_=>An (Af rfl rfl (AV (by decide))) rfl BL) (λ_=>?_) λ_=>Ab (Ab ⟨_,rfl,x::fs,hn,AB3 hl,rfl,rfl⟩);exact Ax (Pn (l1:=x::fs) (l2:=[x]) rfl (Mt (Ae rfl rfl (Eb 0 (by decide) (by decide) rfl))) (AAC (ABS hl) (by decide))) (Ab (Ab ⟨_,rfl,x::fs++[x],λn hq=>(AA0.mp hq).elim (hn n) λq=>by rw[AAJ.mp q];exact hn x (.head _),by rw[AAF];exact ABS hl,rfl,rfl⟩))
 ·intro q_u0 q_u1 q_r1;refine Nh q_r1 λnn n1 n2 q_3 q_4=>?_;subst q_3;subst q_4;refine Bx (Y0 (Az rfl) ?_ (lml (AAC n2 (by decide)))) (k c nn n1 n2);exact mm2
end
section
variable{cs F G:List Ch}{gs gs':List (List Nat×List (List Nat))}{ns:List Int}{nn fs:List (List Nat)}{z5 z6 z9 z10 z11 z12 z13:Option V}
theorem T7{C:Cfg}{J:Al}{L:List Ch}(hi:AT J i=aj (.d (.list (L.map Ch.data))))(h14:14<J.length)(hl:L.length<=60):(ev C.O (.comp (.sub (.var 14) (.cst (.int 0))) [14] (.var i) .nil)).nl J U=aj (((nms L).map λt=>PyData.str (Tx t)).map .d):=by
 refine(Dh (kps:=[]) (λc=>.d (Ch.data c)) (λ_=>true) (λc=>vs c.1) ?_ (AAC hl (by decide)) (λ_ _=>rfl) (λc' hc' _=>Ae ?_ rfl (Bb c'))).trans ?_
 ·exact(EV hi)
 ·show AT ((J.set 14 au).set 14 (aj _)) 14=_;unfold AT;rw[AB1 (by rw[AB0];exact h14)]
 ·rw[Bz,AAE,AAE];rfl
theorem SZ{C:Cfg}{P:Fl->Ac->Prop}(hC:8<=C.n)(h:Wov cs F gs)(hn:∀n∈nn,n∈nms cs)(hl:nn.length<=61)
 (k:∀(fs:List (List Nat)) (G:List Ch) (gs':List (List Nat×List (List Nat))) (τ':Ac),(∀n,n∈fs↔∃o∈nn,n=o\/Blw cs o n)->Wov (cs.filter λc=>decide (c.1∈fs)) G gs'->Ak C P r (K11 ns cs z5 z6 (aj (.d (dl nn))) (aj (.ref (W F gs (hts [] F)++τ).length)) (aj (ob (W F gs (hts [] F)++(τ++τ')).length)) (aj (.d (.list ((cs.filter λc=>decide (c.1∈fs)).map Ch.data)))) (aj (.d (dl (nms (cs.filter λc=>decide (c.1∈fs)))))) z12 z13) (W F gs (hts [] F)++(τ++τ')++(W G gs' (hts [] G)++[]))) :
 Ak C P (B9 r) (K11 ns cs z5 z6 (aj (.d (dl nn))) (aj (.ref (W F gs (hts [] F)++τ).length)) z9 z10 z11 z12 z13) (W F gs (hts [] F)++τ++[.list (nn.map vs)]):=by
 refine oEA (Sh h.H.nd h.H.topo h.len (λc hc=>(h.gen c hc).few) hn (AAC hl (by decide))) λfs hf hc=>?_;have hat:∀(x:O) (τ':Ac),(W F gs (hts [] F)++τ++x::τ')[(W F gs (hts [] F)++τ).length]? = aj x:=λx τ'=>by rw[AA6 (AAL _),ADF];rfl
 have e0:W F gs (hts [] F)++(τ++[O.list (nn.map vs)])=W F gs (hts [] F)++τ++[.list (nn.map vs)]:=(ABQ _ _ _).symm;refine Cr (QA (y:=.ref (W F gs (hts [] F)++τ).length) h (λτ'=>by show DE _=_;rw[e0,ABQ,List.singleton_append,hat];rfl) hn hf) λG gs' τ' hG h2 hp=>?_
 have e1:W F gs (hts [] F)++(τ++[O.list (nn.map vs)])++τ'++W G gs' (hts [] G)=W F gs (hts [] F)++(τ++O.list (nn.map vs)::τ')++(W G gs' (hts [] G)++[]):=by simp only[ABQ,List.cons_append,List.nil_append,AAV]
 have e2:(W F gs (hts [] F)++(τ++[O.list (nn.map vs)])).length+2=(W F gs (hts [] F)++(τ++O.list (nn.map vs)::τ')).length:=by simp only[AAF,AA2,List.length_nil,h2];exact mJ
 have e3:(W F gs (hts [] F)++(τ++O.list (nn.map vs)::τ')).length=(W F gs (hts [] F)++(τ++O.list []::τ')).length:=by simp only[AAF,AA2]
 rw[e1,e2,e0] at hp;have hk:=k fs G gs' (.list []::τ') hf hG;rw[<-e3] at hk;have e4:W F gs (hts [] F)++(τ++O.list (nn.map vs)::τ')++(W G gs' (hts [] G)++[])=W F gs (hts [] F)++τ++O.list (nn.map vs)::(τ'++(W G gs' (hts [] G)++[])):=by simp only[ABQ,List.cons_append,List.nil_append,AAV]
 have hb:(W F gs (hts [] F)++(τ++O.list (nn.map vs)::τ')).length=(W F gs (hts [] F)++(τ++O.list (nn.map vs)::τ')).length:=rfl;have hs:=FN.wv (τ':=[]) (Gf hG) (ae trivial AC) hb;generalize(W F gs (hts [] F)++(τ++O.list (nn.map vs)::τ')).length=b at hp hk hs;refine AD rfl (.fcall ((Ad C.ok (.cons (.var 2) (.cons (.var 8) .nil))).row (AY rfl rfl)) (FN.more hp hC)) (AD rfl (.fcall ((Ad C.ok (.cons (.var 1) (.cons (.var 7) .nil))).row (AY rfl rfl)) ((hc _).more (AAC (by decide) hC))) ?_);refine Mm (T7 rfl (show 14<16 by decide) hG.len) (Gd (ST.bop (.cons (t:=false) (.cmp ((Ad C.ok (.var 8)).v rfl) ((Ad C.ok (.var 7)).v rfl) (Ew ?_)) (λq=>nomatch q) λ_=>.cons (.not (ST.plain (λhc=>GL (.bi .isinstance (.cons (.var 9) (.cons (.glx 0) .nil))) rfl hc) (.bi2 (.cons ((Ad C.ok (.var 9)).v rfl) (.cons .glx .nil)) gG) (C8 rfl))) (λq=>nomatch q) λ_=>.cons (Eh (.fcall ((Ad C.ok (.cons (.var 9) (.cons (.var 10) .nil))).row (AY rfl rfl)) (FN.more hs hC))) (λq=>nomatch q) λ_=>.nil)) (λq=>nomatch q) λ_=>Ab ?_)
 ·have hq:DN (W F gs (hts [] F)++(τ++O.list (nn.map vs)::τ')++(W G gs' (hts [] G)++[])) (.ref (W F gs (hts [] F)++τ).length) (nn.map λt=>.str (Tx t)):=.inr ⟨_,rfl,by rw[e4,hat,AAE];rfl⟩;show HH ((snap _ _).bind λa=>(snap _ _).bind λb=>eqN AK a b)=_;exact hq.snap▸congrArg HH (F9 _ nn)
 ·refine N6 rfl (by rw[e4,hat]) ?_;rw[e4,List.set_append_right _ _ (AAL _),ADF];have e5:W F gs (hts [] F)++(τ++O.list []::τ')++(W G gs' (hts [] G)++[])=W F gs (hts [] F)++τ++O.list []::(τ'++(W G gs' (hts [] G)++[])):=by simp only[ABQ,List.cons_append,List.nil_append,AAV]
  rw[e5] at hk;exact hk
end
section
variable{cs F:List Ch}{gs:List (List Nat×List (List Nat))}{ns:List Int}{ds:List PyData}{z6 z7 z8 z9 z10 z11 z12 z13:Option V}
noncomputable abbrev T11(F:List Ch)(gs:List (List Nat×List (List Nat)))(ds:List PyData)(R:Ac):Ac:=W F gs (hts [] F)++.list ((ds.map kp).map .d)::R
theorem SY{C:Cfg}{P:Fl->Ac->Prop}{r:S}(hC:10<=C.n)(o9:∀(k:Int),0<=k->k<1000->∀U,C.O 9 [.d (scD ns),vi k] U=aj (vi (ns.getD k.toNat 0)))(h:Wov cs F gs){j:Nat}(hj:j<100)(hd:∀d∈ds,ShL d)(hl:ds.length<=100)
 (k:∀(nn fs:List (List Nat)) (ds':List PyData) (R':Ac) (z6 z8 z9 z11 z12 z13:Option V),(∀n∈nn,n∈nms cs)->(∀n,n∈fs↔∃o∈nn,n=o\/Blw cs o n)->(∀d∈ds',ShL d)->ds'.length=ds.length+5->Ak C P r (K11 ns cs (aj (vi j)) z6 (aj (.d (dl nn))) z8 z9 (aj (.d (.list ((cs.filter λc=>decide (c.1∈fs)).map Ch.data)))) z11 z12 z13) (T11 F gs ds' R')) :
 Ak C P (B8 (B9 (B6 (B5 (B10 (B4 (B1 (B2 (B3 r))))))))) (K11 ns cs (aj (vi j)) z6 z7 z8 z9 z10 z11 z12 z13) (T11 F gs ds R):=by
 refine R3 (AAC (by decide) hC) o9 h.len hj λc nn n1 n2=>SZ (AAC (by decide) hC) h n1 n2 λfs G gs' τ' hf hG=>Td (AAC (by decide) hC) hG rfl rfl (lml hl) rfl rfl ?_;rw[<-AAQ];let L:=cs.filter λc=>decide (c.1∈fs);let τ2:Ac:=.list (((ds++Mz L gs').map kp).map .d)::(R++τ');let b:Nat:=(W F gs (hts [] F)++τ2).length;let K:Option V->Option V->Al:=λz12 z13=>K11 ns cs (aj (vi j)) (aj (vi c)) (aj (.d (dl nn))) (aj (.ref (T11 F gs ds R).length)) (aj (ob b)) (aj (.d (.list (L.map Ch.data)))) (aj (.d (dl (nms L)))) z12 z13;refine R5 (AAC (by decide) hC) hG rfl rfl rfl rfl (AS (QB (U:=W F gs (hts [] F)++τ2++(W G gs' (hts [] G)++[])) (c.fdiv 3) (nms cs) (x:=.d (dl (nms cs))) mm2 (λx hx=>by obtain⟨c,c1,rfl⟩:=AAP.mp hx;exact(h.gen c c1).name) (lmt (AAS h.len (by decide)))) λo _ ho hx=>?_)
 have hcv:(ev C.O (.comp (.sub (.var 14) (.cst (.int 0))) [14] (.var 1) .nil)).v (K z12 z13) (W F gs (hts [] F)++τ2++(W G gs' (hts [] G)++[]))=aj (.d (dl (nms cs))):=by rw[CF Ch.data (λ_=>true) (λc=>.str (Tx c.1)) (BS rfl rfl) (AAC h.len (by decide)) (λ_ _=>rfl) (λc _ _=>Ae rfl rfl (Bb c)),Bz];show aj (V.d (.list _))=aj (V.d (.list ((nms cs).map λt=>.str (Tx t))));rw[AAE];rfl
 refine AD rfl (.fcall ((Ad C.ok (.cons (.bin .FloorDiv (.var 6) (.cst (.int 3))) (.cons (.comp (.sub (.var 14) (.cst (.int 0))) [14] (.var 1) .nil) .nil))).row (AY (Af rfl rfl (CN (by decide))) hcv)) (hx.more (AAC (by decide) hC))) (LF hC h hf hG rfl (AAC n2 (by decide)) n1 ho rfl rfl rfl rfl rfl rfl rfl rfl λτ''=>?_);refine R2 (K:=K (aj (vs o))) (AAC (by decide) hC) hG rfl (λ_=>rfl) (λ_=>rfl) (λ_ _=>rfl) (λ_=>rfl) λz=>Te (AAC (by decide) hC) rfl rfl λgsA hA=>Tc (AAC (by decide) hC) h hA rfl rfl rfl rfl ?_;rw[ABQ];exact k nn fs (ds++Mz L gs') (R++τ'++(W [chA] gsA (hts [] [chA])++τ'')) _ _ _ _ _ _ n1 hf (λd hd'=>(AA0.mp hd').elim (hd d) (My hG d)) (AAF▸rfl)
end
theorem nZ{k l:Int}{d:PyData}(e:[V.d d,vi k]=[.d d,vi l]):k=l:=by
 injection e with _ e
 injection e with e _
 injection e with e
 injection e
section
variable{cs F:List Ch}{gs:List (List Nat×List (List Nat))}{R:Ac}{ns:List Int}{ds:List PyData}{nn fs:List (List Nat)}{z5 z6 z8 z9 z11 z12 z13:Option V}
theorem W2{C:Cfg}(hC:8<=C.n)(h:Wov cs F gs)(hn:∀n∈nn,n∈nms cs)(hf:∀n,n∈fs↔∃o∈nn,n=o\/Blw cs o n)(hd:∀d∈ds,ShL d)(hl:ds.length<=100) :
 Ak C (λfl _=>GR fl=vb true) (B7 .nil) (K11 ns cs z5 z6 (aj (.d (dl nn))) z8 z9 (aj (.d (.list ((cs.filter λc=>decide (c.1∈fs)).map Ch.data)))) z11 z12 z13) (T11 F gs ds R):=by
 refine Cr (QA (τ:=.list ((ds.map kp).map .d)::R) (y:=.d (dl nn)) h (λτ'=>by show aj ((nn.map λt=>PyData.str (Tx t)).map V.d)=_;rw[AAE];rfl) hn hf) λG gs' τ' hG h2 hp=>?_;have hsub:∀c∈cs.filter (λc=>decide (c.1∈fs)),c∈cs:=λc hc=>(AA4.mp hc).1;generalize cs.filter (λc=>decide (c.1∈fs))=L at hG hsub ⊢;have e1:(T11 F gs ds R).length+2=(T11 F gs ds (R++τ')).length:=by show R.length+1+1+1+1+2=(R++τ').length+1+1+1+1;rw[AAF,h2]
 rw[e1] at hp;let b:Nat:=(T11 F gs ds (R++τ')).length;let J:Al:=K11 ns cs z5 z6 (aj (.d (dl nn))) z8 (aj (ob b)) (aj (.d (.list (L.map Ch.data)))) z11 z12 z13;refine AD (v:=ob b) (U':=T11 F gs ds (R++τ'++W G gs' (hts [] G))) rfl (.fcall ((Ad C.ok (.cons (.var 2) (.cons (.var 7) .nil))).row (AY rfl rfl)) ?_) ?_
 ·have:=FN.more hp hC;rw[ABQ,ABQ] at this;rw[ABQ];exact this
 refine CG (M:=λJ' U'=>J'=J/\∃F' g',U'=T11 F' g' ds (R++τ'++W G gs' (hts [] G))) ?_ ?_
 ·cases L with
  |nil=>exact AG rfl (λq=>nomatch q) λ_=>Ab (Ab ⟨_,rfl,rfl,F,gs,rfl⟩)
  |cons c L =>
   exact DW (NA h (AAZ (hsub c (.head _)))) λp F' g' d _ _ ht=>AG rfl (λ_=>Bw rfl (.mcall Ai (by unfold mtP;kernel_rfl) ((Ad C.ok (.var 2)).v rfl) ((Ad C.ok (.cons (.sub (.sub (.var 10) (.cst (.int 0))) (.cst (.int 0))) .nil)).row (Az (Ae (Ae rfl rfl (Eb 0 (by decide) (by decide) rfl)) rfl (Bb c)))) ((ht _).more (AAC (by decide) hC))) (Ab (Ab ⟨_,rfl,rfl,F',g',rfl⟩))) λq=>nomatch q
 ·intro q_u0 q_u1 q_r1;refine oY q_r1 λq_0 F' g' q_3=>?_;subst q_0;subst q_3;have hs:=FN.wv (τ:=T11 F' g' ds (R++τ')) (τ':=[]) (Gf hG) (ae trivial AC) rfl;have e2:T11 F' g' ds (R++τ')++(W G gs' (hts [] G)++[])=T11 F' g' ds (R++τ'++W G gs' (hts [] G)):=by rw[AAV];exact ABQ _ _ _
  rw[e2] at hs;exact Du (.bop (.more rfl (.fcall ((Ad C.ok (.cons (.var 4) .nil)).row (Az rfl)) ((Xy rfl (AAC hl (by decide)) hd).more (AAC (by decide) hC))) (C8 rfl) (λq=>tt_ q) λ_=>.one (.fcall ((Ad C.ok (.cons (.var 9) (.cons (.var 10) .nil))).row (AY rfl rfl)) (FN.more hs hC)))) rfl
end
def Q11(cs:List Ch)(z7 z10:Option V):Prop:=∃(nn fs:List (List Nat)),z7=aj (.d (dl nn))/\z10=aj (.d (.list ((cs.filter λc=>decide (c.1∈fs)).map Ch.data)))/\(∀n∈nn,n∈nms cs)/\∀n,n∈fs↔∃o∈nn,n=o\/Blw cs o n
inductive J11(ns:List Int)(cs F:List Ch)(gs:List (List Nat×List (List Nat))):Nat->Al->Ac->Prop
 |mk {m:Nat} {ds:List PyData} {R:Ac} {z5 z6 z7 z8 z9 z10 z11 z12 z13:Option V} (hd:∀d∈ds,ShL d) (hl:ds.length=5+5*m) (hq:m=0\/Q11 cs z7 z10):J11 ns cs F gs m (K11 ns cs z5 z6 z7 z8 z9 z10 z11 z12 z13) (T11 F gs ds R)
theorem run11(ns:List Int)(hns:ns.length<=63):∃U',SSs 23 MC.body (BD MC [.d (.list (ns.map .int))]) [] (Rk (vb true) U'):=by
 refine oEA (Xu (ns.drop 4) (ns.getD 3 0) (by rw[ADE];omega)) λns' w1 w2=>LO (Ph ns' 60 w1 (by decide) (by decide)) λcs c1 c2 H z0 c4=>?_;have cl:cs.length<=60:=by exact Int.ofNat_le.mp ‹_›
 let C:=(C0 20).knowF 9 (λk:{k:Int//0<=k/\k<1000}=>[.d (scD ns),vi k.1]) (λk=>vi (ns.getD k.1.toNat 0)) λk U=>(X0 ns k.1 k.2.1 k.2.2).more (by decide);have o9:∀(k:Int),0<=k->k<1000->∀U,C.O 9 [.d (scD ns),vi k] U=aj (vi (ns.getD k.toNat 0)):=λk h1 h2 U=>Ju (arg:=λk:{k:Int//0<=k/\k<1000}=>[.d (scD ns),vi k.1]) (λa b e=>by rw[nZ e]) ⟨k,h1,h2⟩ U;let cD:V:=.d (.list (cs.map Ch.data));have hslc:∀{J U},AT J 0=aj (.d (scD ns))->(ev C.O (.slc (.var 0) (.cst (.int 4)) .nil)).v J U=aj (.d (scD (ns.drop 4))):=λ{J U} h=>by show((AT J 0).bind λx=>slice U x (aj 4) au)=_;rw[h,bs,HA (by decide) (lml (AAC hns (by decide))),<-List.map_drop];rfl
 have hcell:∀{J U} (k:Int),AT J 0=aj (.d (scD ns))->0<=k->k<1000->(ev C.O (.fcall 9 (.cons (.var 0) (.cons (.cst (.int k)) .nil)))).v J U=aj (vi (ns.getD k.toNat 0)):=λk h h1 h2=>Fc (AY h rfl) (o9 k h1 h2 _);have hE:Ak C (λfl _=>GR fl=vb true) MC.body (BD MC [.d (.list (ns.map .int))]) []:=by
  refine AD rfl (.fcall (.cons (.fcall (.cons ((Ad C.ok _).v (hslc rfl)) (.cons ((Ad C.ok _).v (hcell 3 rfl (by decide) (by decide))) (.cons (.cst _) .nil))) ((w2 _).more (show 3<=20 by decide))) (.cons (.cst _) .nil)) ((c4 _).more (show 4<=20 by decide))) (AS (Sb cs (ns.getD 0 0) cl c2 H) λF hp0 ht0 f0=>?_);refine oEA (UG H c2 cl hp0 ht0) λgs wv0 hw0=>?_;have h:Wov cs F gs:=⟨H,c2,cl,hp0,wv0⟩
  refine AD rfl (.fcall (.cons (.fcall ((Ad C.ok _).row (AY rfl (hcell 0 rfl (by decide) (by decide)))) ((f0 _).more (show 3<=20 by decide))) .nil) (hw0.more (show 6<=20 by decide))) ?_;let rD:V:=.d (dms (Aw (Am cs)).1);refine AD rfl (.mcall Ai (by unfold mtP;kernel_rfl) ((Ad C.ok (.var 2)).v rfl) .nil ((fn_row' h).more (show 5<=20 by decide))) ?_;have hO:=BW h.H.nd;have hlen:(Aw (Am cs)).1.length<=10000:=AAC (IB (λc hc=>h.gen c (hO.perm.mem_iff.mp hc)) (hO.perm.length_eq▸h.len)) (by decide);refine Gd (Eh (.fcall (.cons ((Ad C.ok (.var 3)).v rfl) (.cons (.sub (.fcall ((Ad C.ok (.cons (.var 1) .nil)).row (Az rfl)) ((JK H c2 cl _).more (show 4<=20 by decide))) (.cst _) (FT rfl)) .nil)) ((JJ _ (.inl rfl) hlen).more (show 3<=20 by decide)))) (λq=>nomatch q) λ_=>Ab (Bx rfl ?_);have hold:=QC h (i:=3) (U:=W F gs (hts [] F)++[.list []]) (hs:=[]) rfl (ABF _) λn f d hf=>FA.tail hf rfl (ae DF AC) (Fy 3);refine Bw rfl (.fcall ((Ad C.ok (.cons (.var 2) (.cons (.var 4) .nil))).row (AY rfl rfl)) (hold.more (show 7<=20 by decide))) (AW (λj:Nat=>vi (j:Int)) (λq=>J11 ns cs F gs q.length) (itr rfl (by decide) (by decide)) (.mk (z5:=au) (z6:=au) (z7:=au) (z8:=au) (z9:=au) (z10:=au) (z11:=au) (z12:=au) (z13:=au) (My h) rfl (.inl rfl)) ?_ ?_)
  ·intro q j q' J U e hJ;have e2:=congrArg List.length e;rw[ABV,AAF,AA2] at e2;have hj:=ABZ.mp (e▸AAW _ (.head _));rw[AAF];cases hJ with
   |mk hd hl _ =>
    exact SY (show 10<=20 by decide) o9 h (show j<100 by exact AAC ‹_› (by exact ACD rfl)) hd (by lia) λnn fs ds' R' z6 z8 z9 z11 z12 z13 n1 n2 n3 n4=>Ab (iEA _ rfl (.mk n3 (n4.trans (congrArg (· + 5) hl)) (.inr ⟨nn,fs,rfl,rfl,n1,n2⟩)))
  ·intro J U hJ;rw[ABV] at hJ;cases hJ with
   |mk hd hl hq =>
    refine hq.elim (λq=>nomatch q) λhq=>Fv hq λnn fs q_2 q_3 n1 n2=>?_;subst q_2;subst q_3;exact W2 (show 8<=20 by decide) h n1 n2 hd (by rw[hl];decide)
 refine AH hE λfl U' h1 h2=>⟨U',SSs.mono (λf s e=>?_) h2⟩
 rw[e.1,e.2];cases fl with
 |next _=>exact⟨h1.symm,rfl⟩
 |ret _=>exact⟨h1.symm,rfl⟩
end Mine.Internal
open PySem PySem.W PyProof.Rows
set_option tactic.hygienic true in
set_option backward.match.sparseCases true in
set_option genInjectivity true in
set_option maxRecDepth 100000 in
set_option maxHeartbeats 8000000 in
theorem PySem.Challenge.cw_uf010019_11_holds : PySem.Challenge.rw_uf010019_11.Holds := by
 refine holds_law Mine.Internal.said11 fun said=>?_
 refine W.holds_open (q:=Mine.Internal.view11) (loose:=[]) (Xt:=Mine.Internal.xt11) (XP:=Mine.Internal.XP11) (Yf:=Hook.obs Mine.Internal.hook11) (Ya:=Hook.val Mine.Internal.hook11) (YP:=Hook.says Mine.Internal.hook11) (N:=5300) Mine.Internal.left11 (Hook.of Mine.Internal.hook11) (Hook.keeps Mine.Internal.hook11) Mine.Internal.xt11_of Mine.Internal.XP11.keeps (by rfl) (by rfl) (by rfl) (fun s e=>recFacts_of (Bool.and_eq_true_iff.mp (Bool.and_eq_true_iff.mp e).1).2) (by rfl) said (by decide +kernel) ⟨rfl,rfl,rfl,rfl,rfl,by decide +kernel⟩ ?hw ?hc
 case hw=>w_witness2
 intro w s0 s1 mg mb G Y fa o pm cd doc dV kV ho hd hcd hD hmg hg args vals as hpre hlay hrd hwl hlo
 obtain ⟨K,KX,KC⟩:=Y
 have AP:=(Ground.X G).2
 refine Ground.open G ?_
 intro T B D TE TW
 clear hd hcd hD ho
 wrow_args hpre hlay hrd hwl hlo
 rename_i sc _ _ _ _ _ _ _ l vs _ hL _ _ _ hI _ hlen _
 refine Mine.Internal.law11 Mine.Internal.run11 (w:=w) T TE AP KX KC hmg hL hI (by omega) ?_
 intro s' hk hgens hos
 refine ⟨.inl ⟨.bool true,.bool true,[],rfl,?_,.bool true,?_,?_⟩,hk,hos,?_⟩
 ·intro cls; rfl
 ·wrow_post
 ·exact fun _=>⟨List.nodup_nil,fun a h=>by cases h⟩
 ·exact AllBare.of_eq (hgens.trans hg)