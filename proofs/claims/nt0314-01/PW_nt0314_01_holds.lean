import PyProof.Rows.All
import Wide.All
import OpenK.AllK
import PySem.Challenge.RW_nt0314_01
set_option Elab.async false
set_option maxRecDepth 100000
set_option maxHeartbeats 40000000
set_option linter.all false
set_option genSizeOf false
set_option genInjectivity false
set_option bootstrap.genMatcherCode false
set_option compiler.extract_closed false
set_option tactic.hygienic false
namespace Mine
open Array renaming length_toList→pY,getElem?_toList→FZ,toList→GA
open Bool renaming and_eq_true→hJ,false_ne_true→mV,eq_iff_iff→qO,false_eq_true→GC,noConfusion→GD,not_eq_true→LL,and_false→RV,not_eq_true'→RW
open Classical renaming propDecidable→SH
open ForInStep renaming yield→SP
open Int renaming natCast_nonneg→GK,eq_ofNat_of_zero_le→SQ,toNat_of_nonneg→SR,sub_pos_of_lt→Hb
open List renaming length_map→bQ,map_append→cU,length_append→fE,append_assoc→gJ,append_nil→gK,size_toArray→hZ,getElem?_map→iR,map_cons→iS,map_map→iT,toArray→iU,replicate→mW,mem_of_getElem?→nZ,nil_append→oA,nodup_nil→pH,mem_cons_of_mem→sF,getElem?_eq_getElem→tO,length_cons→tP,mem_append→uO,mem_cons_self→uP,range→uQ,range'→xX,flatMap_cons→AG,length→AH,mem_cons→AI,getElem?_append_right→CT,length_take→CU,map_id→GO,not_mem_nil→GP,getD_eq_getElem?_getD→LQ,getElem?_append_left→LS,getElem?_drop→LU,length_nil→LV,map_congr_left→LW,map_take→LX,mem_map_of_mem→LY,nodup_cons→LZ,set_append_right→MA,filter_cons_of_neg→SW,filter_cons_of_pos→SX,filter_map→SY,flatMap_append→TA,flatten_cons→TB,getElem?_eq_none→TC,getElem?_of_mem→TF,getElem?_take→TG,length_drop→TH,mem_of_mem_take→TJ,prefix_refl→TK,dropLast_eq_take→Hd,getElem?_inj→He,length_filter_le→Hf,push_toArray→Hg,range_succ_eq_map→Hh,take_add_one→Hi,take_of_length_le→Hj,take_succ_cons→Hk,drop_eq_getElem_cons→aAl,eq_nil_of_length_eq_zero→aAm
open List.cons renaming injEq→SU
open Nat renaming le_trans→aP,beq→bR,le_of_ble_eq_true→bT,blt→bV,le_refl→cX,le_of_eq→dQ,zero_le→jP,zero_add→kG,succ_le_succ→kZ,add_le_add_right→lJ,succ→lK,add_le_add→mK,add_le_add_left→oB,le_add_right→oD,le_succ→oE,ble→qA,ne_of_lt→qR,eq_of_beq_eq_true→sG,lt_of_le_of_lt→sH,add_assoc→uR,add_comm→vV,succ_add_eq_add_succ→vX,lt_succ_self→xY,lt_of_lt_of_le→AK,beq_refl→CY,ble_eq_true_of_le→CZ,le_of_lt→DA,lt_trans→DB,le_succ_of_le→GQ,lt_irrefl→GR,lt_or_ge→GS,mul_le_mul_left→GU,sub_self→GV,le_add_left→MC,min_eq_left→MD,le_antisymm→TL,le_of_add_right_le→TM,le_of_succ_le_succ→TN,lt_succ_of_le→TO,succ_ne_self→TP,le_of_lt_succ→Hl,lt_of_succ_lt_succ→Hm,sub_add_cancel→Hn
open Nat.succ renaming inj→vW
open Option renaming isSome_map→Ho
open Option.some renaming inj→iW,injEq→TR
open Prod.mk renaming injEq→TU
open PyProof.Rows renaming seqObj→fN,listUpdate_at→BW,get?_update_seq→IP,seqEpoch_at→KQ
open PySem renaming Value→aB,wpAny_bind→aF,Shared→aG,wpAny→aI,model→aK,Around→aR,wpAny_pure→bF,wpAny_of_eq→dS,World→dW,compareOp→eT,starEach→fL,sizeLine→fO,backTo→fZ,Program→hO,Model→jO,binaryOp→jR,mainGlobals→jU,argsOk→lQ,builtinLookup_eq_fast→lR,typeLookup_type→mH,call_meets→mO,wpAny_mono→nQ,callWith→oO,wpAny_holding→pD,NameKind→pI,spliced→pT,stored→pU,DictEntry→pZ,isSubtype_type→qE,valueAt→qN,FuncData→qQ,assign→qY,entryFor→rE,setItem→rV,sysModules→rY,wpAny_truthy_bool→uI,wpAny_load→vS,builtinsNs→wL,entryFor_of_tree→wU,typeLookup→xT,wpAny_rule→xU,wpAny_specialOf→zZ,Fin→AO,contains→BB,inplaceOp→BO,swappedStores→CM,Str→DD,bm_if_false→DO,swapsWith→FV,wpAny_newObj_type→FY,KeyKind→GY,letOwnedTupleGo→JE,methodCall→JJ,methodCallForm→JK,wpAny_execs_nil→LJ,wpAny_typeOf→LK,assignInOrder→MW,builtinType→NB,builtinType_eq_fast→NC,call_meetsIn→NH,importedModules→OY,keywordEach→PK,wpAny_call_entry→RM,wpAny_isInstance→RN,wpAny_newList→RO,wpAny_seqItems→RP,Comprehension→SI,plainId_quiet→De,wpAny_attempt→Fz,wpAny_contains_slot→Ga,wpAny_ite_false→Gb,wpAny_ite_true→Ge,wpAny_lookBehind→Gf,wpAny_pyIter_list→Gg,wpAny_standAt→Gh,wpAny_assign_Name→Yv,wpAny_pyNext_list_end→Yw,wpAny_pyNext_list_item→Yx
open PySem.Around renaming under_plainId→RT
open PySem.AutoListH renaming list_append_list_val_0→Zg
open PySem.Builtin renaming divisionGoesByPylong→Zj
open PySem.Builtin.Bytes renaming exported→RX,order→RY,sameRef→RZ,exportsOf→Gp,toLower→Gq,byteValue→Zi
open PySem.Builtin.Range renaming rangeSize→Gr,small→Gs
open PySem.Builtin.Slice renaming slicePlaces→SA,sliceAdjust→Gu
open PySem.Builtin.Str renaming glued→LM
open PySem.Builtin.Tuple renaming tupleExact→SD
open PySem.Calls renaming spliced_cons→xW,evalArgs_plain→SF,spliced_nil→SG,callWith_builtin→Gv
open PySem.F renaming plainAttrs_list→SJ,slot_dict_contains→SK,plainAttrs_dict→Gw,slot_list_append→Gx
open PySem.Heap renaming get?_push_of_some→gR,ExtBut→lI,lt_size→mI,get?_push_size→nY,SameBut→uM,get?_update_self→uN
open PySem.Heap.SameBut renaming update→sE
open PySem.NameKind renaming free→CX
open PySem.Obj renaming mapSeq→fX,mapBytearray→vY,putName→GW
open PySem.PyData renaming keyHash→yC
open PySem.Sem renaming wp_mono→MM
open PySem.Str renaming ofString→uV
open PySem.Value renaming ref→qB,type→HI,bytes→MO
open PySem.W renaming typeIs_bytes→iE,findIn→nJ,SharedT→wH,kas_sort→wZ,boot_heap→yS,bytesKind→AX,isBytes_shape→PF
open PySem.W.FB renaming slot_bytes_contains→SM,plainAttrs_bytes→Gy
open PySem.W.KBy renaming buffer_eq→LP
open UInt8 renaming toNat→cH,ofNat→tU,lt_iff_toNat_lt→VR
open PySem PySem.W
section
open PySem.Calls PyProof.Rows
section
open PySem PySem.W PySem.Calls PyProof.Rows PySem.SeqAt
section
variable{prog:hO}{w:dW}{A:aR}{E:aB→aG→Prop}{s:aG}
theorem Wy:Slot "bytes" (cmpInfo .Eq).2.2 "bytes.__eq__":=
 .of (owner:="bytes") (n:="__eq__") (by rw [mH,lR];kernel_rfl) (by kernel_rfl) (by decide+kernel) (by decide+kernel)
  (by first | exact .inl (by kernel_rfl) | exact .inr (by decide+kernel)) (by rw [qE];kernel_rfl)
theorem Qa(a:Bool)(b:Array UInt8)(u:Tok):Gives (Builtin.«int.__eq__» ⟨[.bool a,.bytes b u],[]⟩) (.val (Value.notImplemented)):=
 .of_wp fun M A E s Q h=>by obtain⟨hp,g,d,tk,os⟩:=s;wp_walk;exact⟨_,rfl,h⟩
theorem Jv(b:Array UInt8)(u:Tok)(a:Bool):Gives (Builtin.«bytes.__eq__» ⟨[.bytes b u,.bool a],[]⟩) (.val (Value.notImplemented)):=
 .of_wp fun M A E s Q h=>by obtain⟨hp,g,d,tk,os⟩:=s;have f1:=F.sub_bool_bytes;wp_walk;exact⟨_,rfl,h⟩
theorem aJJ(a:Bool)(b:Array UInt8)(u:Tok):RcAt A s (.bool a) (.bytes b u) false:=fun prog w E Q h=>
 rc_eq_decline_or rfl (iE s b u) (by decide) F.sub_bytes_bool F.slot_bool_eq Wy
  (fun _ hq=>call_gives F.slot_bool_eq rfl F.entry_int_eq (F.args_int_eq_2 _ _) (Qa a b u) hq)
  (fun _ hq=>call_gives Wy (iE s b u) FB.entry_bytes_eq (FB.args_bytes_eq_2 _ _) (Jv b u a) hq)
  (fun _ hq=>dS (rfl:isSame (.bool a) (.bytes b u)=pure false) hq) (.inl rfl) h
theorem aJK(b:Array UInt8)(u:Tok)(a:Bool):RcAt A s (.bytes b u) (.bool a) false:=fun prog w E Q h=>
 rc_eq_decline_or (iE s b u) rfl (by decide) F.sub_bool_bytes FB.slot_bytes_eq F.slot_bool_eq_refl
  (fun _ hq=>call_gives FB.slot_bytes_eq (iE s b u) FB.entry_bytes_eq (FB.args_bytes_eq_2 _ _) (Jv b u a) hq)
  (fun _ hq=>call_gives F.slot_bool_eq_refl rfl F.entry_int_eq (F.args_int_eq_2 _ _) (Qa a b u) hq)
  (fun _ hq=>dS (rfl:isSame (.bytes b u) (.bool a)=pure false) hq) (.inl rfl) h
theorem aFa(a:Bool)(b:Array UInt8)(u:Tok)(h:Q false s):aI (aK prog w) A (eqBool (.bool a) (.bytes b u)) Q E s:=by
 refine pD ?_
 refine wpAny_ite_split (fun hab=>absurd (eq_of_beq hab) nofun) (fun _=> ?_)
 exact aF (aJJ a b u prog w E _ (uI h))
theorem aFb(b:Array UInt8)(u:Tok)(a:Bool)(h:Q false s):aI (aK prog w) A (eqBool (.bytes b u) (.bool a)) Q E s:=by
 refine pD ?_
 refine wpAny_ite_split (fun hab=>absurd (eq_of_beq hab) nofun) (fun _=> ?_)
 exact aF (aJK b u a prog w E _ (uI h))
theorem aJG(h:Q (reduceHash (if b then 1 else 0)) {s with toks:=s.toks+1}):aI (aK prog w) A (pyHash (.bool b)) Q E s:=by
 refine pyHash_slot rfl F.slot_bool_hash entry_int_hash (args_int_hash _) (beq_builtin_none _) (.inl rfl) ?_
 cases b
 ·show aI _ _ (do ret (←mkInt 0)) _ _ s
  exact aF (wpAny_mkInt (bF ⟨_,_,rfl,h⟩))
 ·show aI _ _ (do ret (←mkInt 1)) _ _ s
  exact aF (wpAny_mkInt (bF ⟨_,_,rfl,h⟩))
noncomputable abbrev AJ:=Bool ⊕ List UInt8
noncomputable def Bm:AJ→aB→Bool
 |.inl a,.bool b=>a==b
 |.inr l,v=>isBytes l v
 |_,_=>false
theorem xC(h:Bm (.inl a) v=true):v= .bool a:=by
 cases v <;> simp_all [Bm]
noncomputable def Bn(prog:hO)(w:dW):GY prog w AJ where
 is:=Bm
 hash k:=match k with
  |.inl b=>reduceHash (if b then 1 else 0)
  |.inr l=>(AX prog w).hash l
 inj v a b ha hb:=by
  cases a with
  |inl a=>
   have:=xC ha
   subst this
   cases b with
   |inl b=>have:=xC hb;cases this;rfl
   |inr l=>obtain⟨t,e⟩:=PF (show isBytes l (.bool a)=true from hb);cases e
  |inr l=>
   obtain⟨t,rfl⟩:=PF (ha:isBytes l v=true)
   cases b with
   |inl b=>have:=xC hb;cases this
   |inr l'=>exact congrArg Sum.inr ((AX prog w).inj (.bytes l.toArray t) l l' ha hb)
 byValue k v h:=by
  cases k with
  |inl a=>have:=xC h;subst this;rfl
  |inr l=>exact(AX prog w).byValue l v h
 pyHash:=fun {A E s k v Q} hv h=>by
  cases k with
  |inl a=>have:=xC hv;subst this;exact aJG h
  |inr l=>exact(AX prog w).pyHash hv h
 eqBool:=fun {A E s a b u v Q} hu hv h=>by
  cases a with
  |inl a=>
   have:=xC hu
   subst this
   cases b with
   |inl b=>
    have:=xC hv
    subst this
    refine EqAt.bool_bool a b prog w E _ ?_
    have e:(a==b)=decide ((Sum.inl a:AJ)=Sum.inl b):=by cases a <;> cases b <;> rfl
    rw [e];exact h
   |inr l=>
    obtain⟨t,rfl⟩:=PF (hv:isBytes l v=true)
    refine aFa a _ t ?_
    rw [decide_eq_false (by intro e;cases e)] at h;exact h
  |inr l=>
   cases b with
   |inl b=>
    have:=xC hv
    subst this
    obtain⟨t,rfl⟩:=PF (hu:isBytes l u=true)
    refine aFb _ t b ?_
    rw [decide_eq_false (by intro e;cases e)] at h;exact h
   |inr l'=>
    refine(AX prog w).eqBool hu hv ?_
    have e:decide (l=l')=decide ((Sum.inr l:AJ)=Sum.inr l'):=by by_cases q:l=l' <;> simp [q]
    rw [e];exact h
 «strs» k x t v h:=by
  cases k with
  |inl a=>have:=xC h;cases this
  |inr l=>cases (h:isBytes l (.str x t)=true)
end
end
theorem JQ{α:Type}{a:α}{P:Prop}(h:none=some a):P:=nomatch h
theorem no2{α:Type}{a:α}{P:Prop}(h:some a=none):P:=nomatch h
theorem Xf{α β:Type}{a b:α}{c d:β}(h:some (a,c)=some (b,d)):a=b∧c=d:=by cases h;exact⟨rfl,rfl⟩
inductive KD where
 |int | bytes | pair | str
 deriving DecidableEq
inductive PV where
 |none
 |bool (b:Bool)
 |int (i:Int)
 |str (l:List Nat)
 |bytes (l:List Nat)
 |tup (xs:List PV)
 |lst (xs:List PV)
 |dct (kd:KD) (ks vs:List PV)
 |obj (c:Nat) (fs:List PV)
 |rng (a b c:Int)
 |itv (kd:KD) (ks vs:List PV)
theorem PV.int.inj{a b:Int}(h:PV.int a= .int b):a=b:=by cases h;rfl
theorem PV.str.inj{a b:List Nat}(h:PV.str a= .str b):a=b:=by cases h;rfl
theorem PV.bytes.inj{a b:List Nat}(h:PV.bytes a= .bytes b):a=b:=by cases h;rfl
inductive SV where
 |pv (x:PV)
 |ref (k:Nat)
inductive SO where
 |dead
 |list (xs:List PV)
 |dict (kd:KD) (ks vs:List PV)
 |inst (c:Nat) (fs:List SV)
 |sdict (kd:KD) (ks:List PV) (vs:List SV)
 |barr (l:List Nat)
structure St where
 loc:List (Option SV)
 cells:List SO
noncomputable def M(α:Type):Type:=St→Option (α×St)
noncomputable def rt{α:Type}(a:α):M α:=fun st=>some (a,st)
noncomputable def er{α:Type}:M α:=fun _=>none
noncomputable def bd{α β:Type}(m:M α)(f:α→M β):M β:=fun st=>match m st with
 |some (a,st')=>f a st'
 |none=>none
inductive bS where
 |fro (o:Obj)
 |held (o:Obj)
 |iter (o:Obj)
 |cell (k:Nat)
 |frame
 |fcell
theorem bS.fro.inj{a b:Obj}(h:bS.fro a= .fro b):a=b:=by cases h;rfl
structure Xt where
 W:Addr→Option bS
 ρ:Nat→Addr
 δ:Nat→Addr
structure Cx where
 prog:hO
 w:dW
 base:Heap
 K:Frag
 gens:Array GenState
 drawn:Drawn
 os:OsState
 cls:Nat→Addr
 fld:Nat→List Str
 sysm:∃ o,base.get? rY=some o
 kin:K.In base
 lim:base.NoLimit
noncomputable def FJ:PV→Option (Bool×List Nat)
 |.tup [.bool b,.bytes l]=>some (b,l)
 |_=>none
noncomputable def zJ(C:Cx)(kd:KD)(p:PV):Int:=match kd with
 |.int=>match p with
  |.int i=>(intKind C.prog C.w).hash i
  |_=>0
 |.bytes=>match p with
  |.bytes l=>(AX C.prog C.w).hash (l.map tU)
  |_=>0
 |.str=>match p with
  |.str l=>(strKind C.prog C.w).hash ⟨l.toArray⟩
  |_=>0
 |.pair=>match FJ p with
  |some (b,l)=>tupleKeyHash (Bn C.prog C.w) [.inl b,.inr (l.map tU)]
  |none=>0
noncomputable def pJ:List Str→List aB→Prop
 | [],[]=>True
 |x::xs,v::vs=>(∃ t,v= .str x t)∧pJ xs vs
 |_,_=>False
noncomputable def KD.fitsB(kd:KD)(p:PV):Bool:=match kd with
 |.int=>match p with
  |.int _=>true
  |_=>false
 |.bytes=>match p with
  |.bytes _=>true
  |_=>false
 |.str=>match p with
  |.str _=>true
  |_=>false
 |.pair=>(FJ p).isSome
noncomputable abbrev KD.fits(kd:KD)(p:PV):Prop:=kd.fitsB p=true
inductive iG(C:Cx)(kd:KD)(ks:List PV)(pk pv:List aB→Prop)(o:Obj):Prop
 |mk (es:Array pZ) (ep:Nat) (hc:o.ExactDict) (hd:o.data= .dict es ep) (hk:pk (es.toList.map (·.key))) (hv:pv (es.toList.map (·.val))) (hh:es.toList.map (·.hash)=ks.map (zJ C kd)) (hf:∀ k∈ks,kd.fits k) (hn:ks.Nodup)
inductive sD(C:Cx)(c k:Nat)(pv:List aB→Prop)(o:Obj):Prop
 |mk (es:Array pZ) (ep:Nat) (hc:o.ExactDict) (hd:o.data= .dict es ep) (hk:pJ ((C.fld c).take k) (es.toList.map (·.key))) (hv:pv (es.toList.map (·.val)))
noncomputable abbrev bY(vs:List aB)(ep:Nat):Obj:={cls:=.type "list",data:=.seq vs.toArray ep}
noncomputable abbrev mG(vs:List aB)(ep:Nat):Obj:={cls:=.type "tuple",data:=.seq vs.toArray ep}
inductive jM{β:Type}(p:β→Prop)(q:List β→Prop):List β→Prop
 |mk (v:β) (ws:List β) (a:p v) (as:q ws):jM p q (v::ws)
inductive jN(i:Int):aB→Prop
 |mk (t:Tok):jN i (.int i t)
inductive lN:List Nat→aB→Prop
 |mk (x:Str) (t:Tok):lN x.cps.toList (.str x t)
inductive iQ:List Nat→aB→Prop
 |mk (b:Array UInt8) (t:Tok):iQ (b.toList.map cH) (.bytes b t)
inductive oI(W:Addr→Option bS)(f:List aB→Nat→Obj)(p:List aB→Prop):aB→Prop
 |mk (a:Addr) (vs:List aB) (ep:Nat) (hw:W a=some (.fro (f vs ep))) (hl:p vs):oI W f p (.ref a)
inductive tL(W:Addr→Option bS)(p:Obj→Prop):aB→Prop
 |mk (a:Addr) (o:Obj) (hw:W a=some (.fro o)) (ns:(a==rY)=false) (d:p o):tL W p (.ref a)
inductive AL(C:Cx)(W:Addr→Option bS)(c:Nat)(p:Obj→Prop):aB→Prop
 |mk (a d:Addr) (o:Obj) (hw:W a=some (.fro (instObj (C.cls c) d))) (hd:W d=some (.fro o)) (f:p o):AL C W c p (.ref a)
inductive DH(W:Addr→Option bS)(a b c:Int):aB→Prop
 |mk (r:Addr) (t u w:Tok) (hw:W r=some (.fro {cls:=.type "range",data:=.fields #[.int a t,.int b u,.int c w]})):DH W a b c (.ref r)
inductive AE(W:Addr→Option bS)(p:aB→Prop):aB→Prop
 |mk (r a:Addr) (hr:W r=some (.fro {cls:=.type "dict_items",data:=.fields #[.ref a]})) (d:p (.ref a)):AE W p (.ref r)
mutual
noncomputable def bE(C:Cx)(W:Addr→Option bS):PV→aB→Prop
 |.none,v=>Value.none=v
 |.bool b,v=>Value.bool b=v
 |.int i,v=>jN i v
 |.str l,v=>lN l v
 |.bytes l,v=>iQ l v
 |.tup xs,v=>oI W mG (DenL C W xs) v
 |.lst xs,v=>oI W bY (DenL C W xs) v
 |.dct kd ks vs,v=>tL W (iG C kd ks (DenL C W ks) (DenL C W vs)) v
 |.obj c fs,v=>AL C W c (sD C c fs.length (DenL C W fs)) v
 |.rng a b c,v=>DH W a b c v
 |.itv kd ks vs,v=>AE W (tL W (iG C kd ks (DenL C W ks) (DenL C W vs))) v
noncomputable def DenL(C:Cx)(W:Addr→Option bS):List PV→List aB→Prop
 | [],vs=>[]=vs
 |x::xs,vs=>jM (bE C W x) (DenL C W xs) vs
end
noncomputable def aS{α β:Type}(P:α→β→Prop):List α→List β→Prop
 | [],vs=>[]=vs
 |x::xs,vs=>jM (P x) (aS P xs) vs
theorem iC{C:Cx}{W:Addr→Option bS}(xs:List PV):DenL C W xs=aS (bE C W) xs:=by
 induction xs with
 |nil=>rfl
 |cons x xs ih=>exact congrArg (jM (bE C W x)) ih
noncomputable def vU(W W':Addr→Option bS):Prop:=∀ a o,W a=some (.fro o)→W' a=some (.fro o)
section
variable{α β:Type}{P Q:α→β→Prop}{x:α}{xs ys:List α}{vs ws:List β}{v:β}
theorem jM.imp(a:∀ v,p v→p' v)(b:∀ l,q l→q' l)(l:List β)(h:jM p q l):jM p' q' l:=by
 cases h with | mk v ws h k=>exact .mk v ws (a v h) (b ws k)
theorem aS.imp(h:∀ a b,P a b→Q a b)(xs:List α):∀ vs,aS P xs vs→aS Q xs vs:=by
 induction xs with
 |nil=>exact fun _ e=>e
 |cons x xs ih=>exact jM.imp (h x) ih
theorem aS.mk(a:P x v)(as:aS P xs vs):aS P (x::xs) (v::vs):=jM.mk v vs a as
theorem aS.one(h:P x v):aS P [x] [v]:=jM.mk v [] h rfl
theorem aS.len(h:aS P xs vs):xs.length=vs.length:=by
 induction xs generalizing vs with
 |nil=>exact congrArg AH h
 |cons x xs ih=>cases h with | mk v ws a as=>exact congrArg lK (ih as)
theorem aS.app(h:aS P xs vs)(k:aS P ys ws):aS P (xs++ys) (vs++ws):=by
 induction xs generalizing vs with
 |nil=>subst h;exact k
 |cons x xs ih=>cases h with | mk v ws a as=>exact .mk a (ih as)
theorem aS.get{i:Nat}(h:aS P xs vs)(e:xs[i]? =some x):∃ v,vs[i]? =some v∧P x v:=by
 induction xs generalizing vs i with
 |nil=>cases e
 |cons y xs ih=>cases h with | mk v ws a as=>cases i with
  |zero=>exact⟨v,rfl,iW e▸a⟩
  |succ i=>exact ih (i:=i) as e
theorem aS.set(e:P x v)(i:Nat)(h:aS P xs vs):aS P (xs.set i x) (vs.set i v):=by
 induction xs generalizing vs i with
 |nil=>subst h;exact rfl
 |cons y xs ih=>cases h with | mk w ws a as=>cases i with
  |zero=>exact .mk e as
  |succ i=>exact .mk a (ih i as)
theorem aS.rev(h:aS P xs vs):aS P xs.reverse vs.reverse:=by
 induction xs generalizing vs with
 |nil=>exact congrArg List.reverse h
 |cons x xs ih=>cases h with | mk v ws a as=>rw [List.reverse_cons,List.reverse_cons];exact(ih as).app (.one a)
theorem aS.take(i:Nat)(h:aS P xs vs):aS P (xs.take i) (vs.take i):=by
 induction xs generalizing vs i with
 |nil=>subst h;cases i <;> rfl
 |cons y xs ih=>cases h with | mk w ws a as=>cases i with
  |zero=>exact rfl
  |succ i=>exact .mk a (ih i as)
theorem aS.drop(i:Nat)(h:aS P xs vs):aS P (xs.drop i) (vs.drop i):=by
 induction xs generalizing vs i with
 |nil=>subst h;cases i <;> rfl
 |cons y xs ih=>cases i with
  |zero=>exact h
  |succ i=>cases h with | mk w ws a as=>exact ih i as
theorem aS.map{γ:Type}{f:γ→α}(xs:List γ):∀ vs,aS (fun x v=>P (f x) v) xs vs→aS P (xs.map f) vs:=by
 induction xs with
 |nil=>exact fun _ e=>e
 |cons x xs ih=>exact jM.imp (fun _ h=>h) ih
end
section
variable{C:Cx}{W W':Addr→Option bS}
theorem iG.imp(a:∀ l,pk l→pk' l)(b:∀ l,pv l→pv' l)(o:Obj)(h:iG C kd ks pk pv o):iG C kd ks pk' pv' o:=by
 cases h with | mk es ep hc hd hk hv hh hf hn=>exact .mk es ep hc hd (a _ hk) (b _ hv) hh hf hn
theorem sD.imp(b:∀ l,pv l→pv' l)(o:Obj)(h:sD C c k pv o):sD C c k pv' o:=by
 cases h with | mk es ep hc hd hk hv=>exact .mk es ep hc hd hk (b _ hv)
theorem oI.imp(k:vU W W')(b:∀ l,p l→p' l)(v:aB)(h:oI W f p v):oI W' f p' v:=by
 cases h with | mk a vs ep hw hl=>exact .mk a vs ep (k _ _ hw) (b _ hl)
theorem tL.imp(k:vU W W')(b:∀ o,p o→p' o)(v:aB)(h:tL W p v):tL W' p' v:=by
 cases h with | mk a o hw ns d=>exact .mk a o (k _ _ hw) ns (b _ d)
theorem AL.imp(k:vU W W')(b:∀ o,p o→p' o)(v:aB)(h:AL C W c p v):AL C W' c p' v:=by
 cases h with | mk a d o hw hd f=>exact .mk a d o (k _ _ hw) (k _ _ hd) (b _ f)
theorem DH.imp(k:vU W W')(v:aB)(h:DH W a b c v):DH W' a b c v:=by
 cases h with | mk r t u w hw=>exact .mk r t u w (k _ _ hw)
theorem AE.imp(k:vU W W')(b:∀ o,p o→p' o)(v:aB)(h:AE W p v):AE W' p' v:=by
 cases h with | mk r a hw d=>exact .mk r a (k _ _ hw) (b _ d)
theorem bE.mono(k:vU W W')(x:PV):∀ v,bE C W x v→bE C W' x v:=
 PV.rec
  (fun _ h=>h) (fun _ _ h=>h) (fun _ _ h=>h) (fun _ _ h=>h) (fun _ _ h=>h)
  (fun _ ih=>oI.imp k ih) (fun _ ih=>oI.imp k ih) (fun _ _ _ ik iv=>tL.imp k (iG.imp ik iv)) (fun _ _ ih=>AL.imp k (sD.imp ih)) (fun _ _ _=>DH.imp k) (fun _ _ _ ik iv=>AE.imp k (tL.imp k (iG.imp ik iv)))
  (fun _ h=>h) (fun _ _ ix ih=>jM.imp ix ih) x
end
structure Xt.low(X:Xt)(n:Nat)(X':Xt)(n':Nat):Prop where
 fro:vU X.W X'.W
 ρ:∀ k,k < n→X'.ρ k=X.ρ k
 n:n≤n'
theorem Xt.low.trans{X Y Z:Xt}{n m k:Nat}(a:X.low n Y m)(b:Y.low m Z k):X.low n Z k:=
 ⟨fun _ _ h=>b.fro _ _ (a.fro _ _ h),fun i hi=>(b.ρ i (AK hi a.n)).trans (a.ρ i hi),aP a.n b.n⟩
structure Xt.le(X:Xt)(n:Nat)(X':Xt)(n':Nat):Prop where
 low:X.low n X' n'
 held:∀ a o,X.W a=some (.held o)→X'.W a=some (.held o)
 iter:∀ a o,X.W a=some (.iter o)→X'.W a=some (.iter o)
theorem Xt.le.refl(X:Xt)(n:Nat):X.le n X n:=⟨⟨fun _ _ h=>h,fun _ _=>rfl,cX n⟩,fun _ _ h=>h,fun _ _ h=>h⟩
theorem Xt.le.trans{X Y Z:Xt}{n m k:Nat}(a:X.le n Y m)(b:Y.le m Z k):X.le n Z k:=
 ⟨a.low.trans b.low,fun _ _ h=>b.held _ _ (a.held _ _ h),fun _ _ h=>b.iter _ _ (a.iter _ _ h)⟩
section
variable{C:Cx}{X X':Xt}{n n':Nat}
noncomputable def fG(C:Cx)(X:Xt)(n:Nat):SV→aB→Prop
 |.pv x,v=>bE C X.W x v
 |.ref k,v=>k < n∧v= .ref (X.ρ k)
theorem fG.mono(l:X.low n X' n'):∀(x:SV) (v:aB),fG C X n x v→fG C X' n' x v
 |.pv x,v,h=>bE.mono l.fro x v h
 |.ref k,v,⟨h,e⟩=>⟨AK h l.n,e.trans (congrArg qB (l.ρ k h).symm)⟩
noncomputable abbrev fM(C:Cx)(X:Xt)(n:Nat):List SV→List aB→Prop:=aS (fG C X n)
theorem fM.mono(l:X.low n X' n')(h:fM C X n xs vs):fM C X' n' xs vs:=aS.imp (fG.mono l) xs vs h
noncomputable abbrev bO(C:Cx)(X:Xt):List PV→List aB→Prop:=aS (bE C X.W)
theorem bO.mono(l:X.low n X' n')(h:bO C X xs vs):bO C X' xs vs:=aS.imp (bE.mono l.fro) xs vs h
theorem bO.s(h:bO C X xs vs):fM C X n (xs.map .pv) vs:=aS.map xs vs h
inductive tJ(X:Xt)(k:Nat)(h:Heap)(p:Obj→Prop):Prop
 |mk (o:Obj) (hw:X.W (X.ρ k)=some (.cell k)) (ho:h.get? (X.ρ k)=some o) (d:p o)
inductive CV(p:List aB→Prop):Obj→Prop
 |mk (vs:List aB) (ep:Nat) (hl:p vs):CV p (bY vs ep)
inductive RU(l:List Nat):Obj→Prop
 |mk (b:Array UInt8) (e:b.toList.map cH=l):RU l {cls:=.type "bytearray",data:=.bytearray b 0}
inductive Ha(C:Cx)(X:Xt)(k c:Nat)(h:Heap)(p:Obj→Prop):Prop
 |mk (o:Obj) (hw:X.W (X.ρ k)=some (.cell k)) (hw':X.W (X.δ k)=some (.cell k)) (ne:X.ρ k≠X.δ k) (hi:h.get? (X.ρ k)=some (instObj (C.cls c) (X.δ k))) (ho:h.get? (X.δ k)=some o) (f:p o)
noncomputable def jE(C:Cx)(X:Xt)(n k:Nat)(h:Heap):SO→Prop
 |.dead=>True
 |.list xs=>tJ X k h (CV (bO C X xs))
 |.dict kd ks vs=>tJ X k h (iG C kd ks (bO C X ks) (bO C X vs))
 |.inst c fs=>Ha C X k c h (sD C c fs.length (fM C X n fs))
 |.sdict kd ks vs=>tJ X k h (iG C kd ks (bO C X ks) (fM C X n vs))
 |.barr l=>tJ X k h (RU l)
theorem CV.imp(b:∀ l,p l→p' l)(o:Obj)(h:CV p o):CV p' o:=by
 cases h with | mk vs ep hl=>exact .mk vs ep (b _ hl)
theorem jE.tr(l:X.low n X' n')(r:X'.ρ k=X.ρ k)(d:X'.δ k=X.δ k)(g:∀ a,X.W a=some (.cell k)→X'.W a=some (.cell k)∧h'.get? a=h.get? a)(c:SO)(x:jE C X n k h c):jE C X' n' k h' c:=by
 have w:∀ {p p':Obj→Prop},(∀ o,p o→p' o)→tJ X k h p→tJ X' k h' p':=fun b q=>by
  cases q with | mk o hw ho d=>exact .mk o (by rw [r];exact(g _ hw).1) (by rw [r];exact(g _ hw).2.trans ho) (b _ d)
 cases c with
 |dead=>trivial
 |list xs=>exact w (CV.imp fun _=>bO.mono l) x
 |dict kd ks vs=>exact w (iG.imp (fun _=>bO.mono l) fun _=>bO.mono l) x
 |sdict kd ks vs=>exact w (iG.imp (fun _=>bO.mono l) fun _=>fM.mono l) x
 |barr b=>exact w (fun _ h=>h) x
 |inst c fs=>cases x with | mk o hw hw' ne hi ho f=>exact .mk o (by rw [r];exact(g _ hw).1) (by rw [d];exact(g _ hw').1) (by rw [r,d];exact ne) (by rw [r,d];exact(g _ hw).2.trans hi) (by rw [d];exact(g _ hw').2.trans ho) (sD.imp (fun _=>fM.mono l) o f)
noncomputable def gU(h:Heap)(a:Addr):bS→Prop
 |.fro o=>h.get? a=some o
 |.held o=>h.get? a=some o
 |.iter o=>h.get? a=some o
 |_=>∃ o,h.get? a=some o
theorem gU.ex:∀ {r:bS},gU h a r→∃ o,h.get? a=some o
 |.fro o,e=>⟨o,e⟩
 |.held o,e=>⟨o,e⟩
 |.iter o,e=>⟨o,e⟩
 |.cell _,e=>e
 |.frame,e=>e
 |.fcell,e=>e
theorem gU.same(e:h'.get? a=h.get? a):∀ {r:bS},gU h a r→gU h' a r
 |.fro o,q=>e.trans q
 |.held o,q=>e.trans q
 |.iter o,q=>e.trans q
 |.cell _,⟨o,q⟩=>⟨o,e.trans q⟩
 |.frame,⟨o,q⟩=>⟨o,e.trans q⟩
 |.fcell,⟨o,q⟩=>⟨o,e.trans q⟩
structure wI(C:Cx)(s:aG):Prop where
 gens:s.gens=C.gens
 drawn:s.drawn=C.drawn
 os:s.os=C.os
structure RelC(C:Cx)(X:Xt)(cells:List SO)(s:aG):Prop where
 still:wI C s
 base:∀ b o,C.base.get? b=some o→X.W b=some (.fro o)
 val:∀ a r,X.W a=some r→gU s.heap a r
 cells:∀ k c,cells[k]? =some c→jE C X cells.length k s.heap c
theorem RelC.fresh{cells:List SO}(R:RelC C X cells s)(h:s.heap.objs.size≤a):X.W a=none:=by
 cases e:X.W a with
 |none=>rfl
 |some r=>obtain⟨o,ho⟩:=(R.val _ _ e).ex;exact absurd (mI ho) (Nat.not_lt.mpr h)
theorem RelC.keeps0{cells:List SO}(R:RelC C X cells s):∀ b o,C.base.get? b=some o→s.heap.get? b=some o:=fun b o e=>R.val _ _ (R.base _ _ e)
theorem RelC.kIn{cells:List SO}(R:RelC C X cells s):C.K.In s.heap:=C.kin.keeps R.keeps0
structure Tr(ex:bS→Bool)(X:Xt)(h:Heap)(n:Nat)(X':Xt)(h':Heap)(n':Nat):Prop where
 low:X.low n X' n'
 keep:∀ a r,X.W a=some r→ex r=false→X'.W a=some r∧h'.get? a=h.get? a
 new:∀ a r,X'.W a=some r→(X.W a=some r∧ex r=false)∨gU h' a r
theorem Tr.cell(T:Tr ex X h n X' h' n')(hk:k < n)(e:ex (.cell k)=false)(d:X'.δ k=X.δ k)(c:SO)(o:jE C X n k h c):jE C X' n' k h' c:=
 o.tr T.low (T.low.ρ k hk) d (fun a q=>T.keep a _ q e) c
theorem Tr.relC(T:Tr ex X s.heap cells.length X' s'.heap cells'.length)(R:RelC C X cells s)(S:wI C s')(hf:∀ o,ex (.fro o)=false)
  (hc:∀ k c,cells'[k]? =some c→(cells[k]? =some c∧ex (.cell k)=false∧X'.δ k=X.δ k)∨jE C X' cells'.length k s'.heap c):RelC C X' cells' s':=
 ⟨S,fun b o e=>(T.keep b _ (R.base b o e) (hf o)).1,fun a r e=>(T.new a r e).elim (fun q=>(R.val a r q.1).same (T.keep a r q.1 q.2).2) id,
  fun k c e=>(hc k c e).elim (fun q=>T.cell (List.getElem?_eq_some_iff.mp q.1).1 q.2.1 q.2.2 c (R.cells k c q.1)) id⟩
theorem Tr.le(T:Tr ex X h n X' h' n')(a:∀ o,ex (.held o)=false)(b:∀ o,ex (.iter o)=false):X.le n X' n':=
 ⟨T.low,fun x o e=>(T.keep x _ e (a o)).1,fun x o e=>(T.keep x _ e (b o)).1⟩
end
noncomputable abbrev aL:=List (Str×pI)
noncomputable def xM(sc:Scope):Bool:=sc.kind== .function && decide (sc.names.map (·.1)).Nodup && sc.names.all (fun p=> !(p.1==("__debug__":Str)) && !(p.1==("__classdict__":Str)))
structure tN(sl:aL)(env:Env):Prop where
 sc:xM env.scope=true
 names:env.scope.names=sl
 globals:env.globals=jU
 builtins:env.builtins=wL
 apart:env.func.isSome=true→∀ x y c,env.cells.lookup x=some c→env.cells.lookup y=some c→x=y
noncomputable def SE(X:Xt)(env:Env)(c:Addr):Prop:=X.W c=some .fcell∨(env.func=none∧∃ o,X.W c=some (.held o))
structure GH(C:Cx)(X:Xt)(sl:aL)(env:Env)(loc:List (Option SV))(n:Nat)(h:Heap):Prop where
 st:tN sl env
 nsW:X.W env.locals=some .frame
 ns:∃ m,h.Ns env.locals m∧∀(i:Nat) x sv,sl[i]? =some (x,.local)→loc[i]? =some (some sv)→∃ v,m x=some v∧fG C X n sv v
 cell:∀(i:Nat) x,sl[i]? =some (x,.cell)→∃ c v₀,env.cells.lookup x=some c∧SE X env c∧h.IsCell c v₀∧∀ sv,loc[i]? =some (some sv)→∃ v,v₀=some v∧fG C X n sv v
 free:∀(i:Nat) x sv,sl[i]? =some (x,.free)→loc[i]? =some (some sv)→∃ c o v,env.cells.lookup x=some c∧X.W c=some (.held o)∧o.data= .cell (some v)∧fG C X n sv v
theorem Bz{h h':Heap}(e:h'.get? a=h.get? a):h.Ns a m→h'.Ns a m:=fun⟨o,es,ep,ho,r⟩=>⟨o,es,ep,e.trans ho,r⟩
theorem WX{h h':Heap}(e:h'.get? a=h.get? a):h.IsCell a v→h'.IsCell a v:=fun⟨o,ho,d⟩=>⟨o,e.trans ho,d⟩
theorem GH.tr(T:Tr ex X h n X' h' n')(h1:ex .frame=false)(h2:ex .fcell=false)(h3:∀ o,ex (.held o)=false)(F:GH C X sl env loc n h):GH C X' sl env loc n' h':=
 have k1:=T.keep _ _ F.nsW h1
 ⟨F.st,k1.1,F.ns.elim fun m q=>⟨m,Bz k1.2 q.1,fun i x sv a b=>let⟨v,e,d⟩:=q.2 i x sv a b;⟨v,e,fG.mono T.low sv v d⟩⟩,
  fun i x a=>let⟨c,v₀,l,r,ic,t⟩:=F.cell i x a
   have kc:SE X' env c∧h'.get? c=h.get? c:=r.elim (fun r=>(T.keep _ _ r h2).imp .inl id) fun⟨e,o,r⟩=>(T.keep _ _ r (h3 o)).imp (fun r=>.inr ⟨e,o,r⟩) id
   ⟨c,v₀,l,kc.1,WX kc.2 ic,fun sv b=>let⟨v,e,d⟩:=t sv b;⟨v,e,fG.mono T.low sv v d⟩⟩,
  fun i x sv a b=>let⟨c,o,v,l,r,e,d⟩:=F.free i x sv a b;⟨c,o,v,l,(T.keep _ _ r (h3 o)).1,e,fG.mono T.low sv v d⟩⟩
structure uU(C:Cx)(X:Xt)(sl:aL)(env:Env)(st:St)(s:aG):Prop extends RelC C X st.cells s where
 fr:GH C X sl env st.loc st.cells.length s.heap
theorem Tr.rel{st:St}(T:Tr ex X s.heap st.cells.length X' s'.heap cells'.length)(R:uU C X sl env st s)(S:wI C s')(hf:∀ o,ex (.fro o)=false)
  (h1:ex .frame=false) (h2:ex .fcell=false) (h3:∀ o,ex (.held o)=false) (hc:∀ k c,cells'[k]? =some c→(st.cells[k]? =some c∧ex (.cell k)=false∧X'.δ k=X.δ k)∨jE C X' cells'.length k s'.heap c):uU C X' sl env ⟨st.loc,cells'⟩ s':=
 ⟨T.relC R.toRelC S hf hc,R.fr.tr T h1 h2 h3⟩
section
set_option tactic.hygienic true
structure lC(A:aR)(n:Nat):Prop where
 handled:A.handled=none
 depth:A.depth+20*n≤500
 units:A.units+100*n+200≤9000
theorem ub{n a b:Nat}(h:n≤a)(q:qA a b=true):n≤b:=aP h (bT q)
theorem ul{n a b:Nat}(h:n≤a)(q:qA (a+1) b=true):n < b:=sH h (bT q)
theorem PN:∀ n≤2,n=0∨n=1∨n=2:=by decide
theorem Rd:∀ n≤3,n=0∨n=1∨n=2∨n=3:=by decide
theorem lC.lim{A:aR}{n:Nat}(h:lC A n):A.units≤8800:=aP (oD _ _) (Nat.le_of_add_le_add_right (b:=200) h.units)
theorem rm{u n k c:Nat}(h:k≤c):u+k+c*n≤u+c*(n+1):=
 aP (dQ (Nat.add_right_comm u k _)) (aP (oB h _) (dQ (uR u _ c)))
theorem Cj{i:Int}(h0:0≤i)(h1:i < 256):i.toNat.toUInt8.toNat=i.toNat:=Nat.mod_eq_of_lt ((Int.toNat_lt h0).mpr h1)
theorem nn{b:Bool}(h:b=true):¬(!b)=true:=by cases h;exact mV
theorem Tj{i:Int}(h0:0≤i)(h1:i < 256):¬((decide (i < 0) || decide (i≥256))=true):=
 fun h=>((Bool.or_eq_true _ _).mp h).elim (fun h=>Int.not_lt.mpr h0 (of_decide_eq_true h)) fun h=>Int.not_le.mpr h1 (of_decide_eq_true h)
structure KK where
 C:Cx
 n:Nat
 sl:aL
 env:Env
structure Z(K:KK)(A:aR)(st:St) where
 X:Xt
 s:aG
 hA:lC A K.n
 R:uU K.C X K.sl K.env st s
noncomputable abbrev Dn(α β:Type):=Cx→Xt→Nat→α→β→Prop
noncomputable def dV:Dn SV aB:=fG
noncomputable def dL:Dn (List SV) (List aB):=fun C X n=>fM C X n
noncomputable def dB:Dn Bool Bool:=fun _ _ _ a b=>a=b
noncomputable def dVB:Dn Bool aB:=fun _ _ _ a b=>Value.bool a=b
noncomputable def dU:Dn Unit Unit:=fun _ _ _ _ _=>True
inductive Fl where
 |next | cont
 |ret (v:SV)
inductive Ib(p:aB→Prop):Flow→Prop
 |mk (v:aB) (h:p v):Ib p (.ret v)
noncomputable def dF:Dn Fl Flow:=fun C X n f g=>match f with
 |.next=>Flow.next=g
 |.cont=>Flow.cont=g
 |.ret v=>Ib (fG C X n v) g
noncomputable abbrev WP(β:Type):=(β→aG→Prop)→aG→Prop
noncomputable def nE:aB→aG→Prop:=fun _ _=>False
noncomputable abbrev KK.wp{β:Type}(K:KK)(A:aR)(t:Sem β):WP β:=fun Q s=>aI (aK K.C.prog K.C.w) A t Q nE s
section
variable{K:KK}{A:aR}{st st':St}{α β γ δ:Type}
noncomputable def Z.d(z:Z K A st)(D:Dn α β)(a:α)(b:β):Prop:=D K.C z.X st.cells.length a b
noncomputable def Z.le(z:Z K A st)(z':Z K A st'):Prop:=z.X.le st.cells.length z'.X st'.cells.length
theorem Z.le0{z:Z K A st}:z.le z:=Xt.le.refl ..
theorem Z.le.t{st'':St}{z:Z K A st}{z':Z K A st'}{z'':Z K A st''}(a:z.le z')(b:z'.le z''):z.le z'':=Xt.le.trans a b
theorem Z.le.v{z:Z K A st}{z':Z K A st'}(l:z.le z'){a:SV}{x:aB}(d:z.d dV a x):z'.d dV a x:=fG.mono l.low a x d
theorem Z.le.l{z:Z K A st}{z':Z K A st'}(l:z.le z'){a:List SV}{x:List aB}(d:z.d dL a x):z'.d dL a x:=fM.mono l.low d
theorem Z.cons(z:Z K A st){a:SV}{x:aB}{as:List SV}{xs:List aB}(d:z.d dV a x)(ds:z.d dL as xs):z.d dL (a::as) (x::xs):=aS.mk (P:=fG K.C z.X st.cells.length) d ds
noncomputable def Go(z:Z K A st)(D:Dn α β)(w:WP β)(o:Option (α×St)):Prop:=
 ∀(a:α) (st':St),o=some (a,st')→∀ Q,(∀(z':Z K A st') (x:β),z.le z'→z'.d D a x→Q x z'.s)→w Q z.s
section
variable{z:Z K A st}{D:Dn α β}{D':Dn γ δ}{w w':WP β}{o:Option (α×St)}{m:M α}{f:α→M γ}{u:β→WP δ}{a:α}{x:β}
theorem Go.imp(h:∀ Q,w Q z.s→w' Q z.s)(g:Go z D w o):Go z D w' o:=fun a s e Q q=>h Q (g a s e Q q)
theorem Go.no:Go z D w none:=fun _ _ e=>nomatch e
theorem Go.er{z:Z K A st}:Go z D w (Mine.er st):=fun _ _ e=>nomatch e
theorem Go.ret(z':Z K A st')(l:z.le z')(d:z'.d D a x)(h:∀ Q,Q x z'.s→w Q z.s):Go z D w (some (a,st')):=by
 intro a' s' e Q q;cases e;exact h Q (q z' x l d)
theorem lE{m:M α}{f:α→M γ}{b:γ}(e:bd m f st=some (b,st')){P:Prop}(k:∀ a st₁,m st=some (a,st₁)→f a st₁=some (b,st')→P):P:=by
 unfold bd at e;split at e
 ·rename_i a s q;exact k a s q e
 ·cases e
theorem Go.bd(g:Go z D w (m st))(k:∀ {a:α} {st₁:St} {x:β} (z₁:Z K A st₁),z.le z₁→z₁.d D a x→Go z₁ D' (u x) (f a st₁)):Go z D' (fun Q=>w fun x=>u x Q) (bd m f st):=
 fun _ _ e Q q=>lE e fun a st₁ e₁ e₂=>g _ _ e₁ _ fun z₁ x l d=>k z₁ l d _ _ e₂ Q fun z₂ y l' d'=>q z₂ y (l.t l') d'
theorem Go.from(z':Z K A st)(l:z.le z')(g:Go z' D w o)(h:∀ Q,w Q z'.s→w' Q z.s):Go z D w' o:=fun a s e Q q=>h Q (g a s e Q fun z'' x l' d=>q z'' x (Xt.le.trans l l') d)
noncomputable def gd(b:Bool)(k:M α):M α:=fun st=>match b with
 |true=>k st
 |false=>none
theorem Go.gd{b:Bool}{k:M α}(h:b=true→Go z D w (k st)):Go z D w (gd b k st):=by
 cases b with
 |true=>exact h rfl
 |false=>exact Go.no
end
theorem Go.bdB{z:Z K A st}{m:M Bool}{f:Bool→M γ}{D':Dn γ δ}{w:WP Bool}{u:Bool→WP δ}(g:Go z dB w (m st))(k:∀ {a:Bool} {st₁:St} (z₁:Z K A st₁),z.le z₁→Go z₁ D' (u a) (f a st₁)):Go z D' (fun Q=>w fun x=>u x Q) (Mine.bd m f st):=
 Go.bd g fun z₁ l d=>(d:_=_)▸k z₁ l
theorem wI.to{C:Cx}{s:aG}(S:wI C s)(h:Heap)(t:Nat):wI C {s with heap:=h,toks:=t}:=⟨S.gens,S.drawn,S.os⟩
theorem Tr.idle{X:Xt}{h h':Heap}{n:Nat}(v:∀ a r,X.W a=some r→gU h a r)(g:∀ b o,h.get? b=some o→h'.get? b=some o):Tr (fun _=>false) X h n X h' n:=
 ⟨⟨fun _ _ e=>e,fun _ _=>rfl,cX _⟩,fun a r e _=>⟨e,let⟨o,ho⟩:=(v a r e).ex;(g _ _ ho).trans ho.symm⟩,fun a r e=>.inl ⟨e,rfl⟩⟩
theorem uU.to{C:Cx}{X:Xt}{sl:aL}{env:Env}{st:St}{s:aG}(R:uU C X sl env st s){s':aG}(S:wI C s')(g:∀ b o,s.heap.get? b=some o→s'.heap.get? b=some o):uU C X sl env st s':=
 (Tr.idle R.val g).rel R S (fun _=>rfl) rfl rfl (fun _=>rfl) fun _ _ e=>.inl ⟨e,rfl,rfl⟩
noncomputable def Z.to(z:Z K A st)(s':aG)(S:wI K.C s')(g:∀ b o,z.s.heap.get? b=some o→s'.heap.get? b=some o):Z K A st:=⟨z.X,s',z.hA,z.R.to S g⟩
noncomputable def Z.tok(z:Z K A st)(t:Nat):Z K A st:=z.to {z.s with toks:=t} (z.R.still.to _ _) fun _ _ e=>e
noncomputable def Z.push(z:Z K A st)(o:Obj)(t:Nat):Z K A st:=z.to {z.s with heap:=z.s.heap.push o,toks:=t} (z.R.still.to _ _) fun _ _ e=>gR o e
theorem Go.tok{z:Z K A st}{D:Dn α β}{w:WP β}{a:α}{x:Tok→β}(d:∀ k,z.d D a (x k))(h:∀ Q,(∀ t k,Q (x k) {z.s with toks:=t})→w Q z.s):Go z D w (some (a,st)):=by
 intro a' s' e Q q;cases e;exact h Q fun t k=>q (z.tok t) _ Z.le0 (d k)
theorem Go.same{z:Z K A st}{D:Dn α β}{w:WP β}{a:α}{x:β}(d:z.d D a x)(h:∀ Q,Q x z.s→w Q z.s):Go z D w (some (a,st)):=.ret z Z.le0 d h
noncomputable def Xt.add(X:Xt)(a:Addr)(r:bS)(ρ:Nat→Addr)(δ:Nat→Addr):Xt:=⟨fun b=>if b=a then some r else X.W b,ρ,δ⟩
theorem DI{X:Xt}{a:Addr}{r:bS}{ρ δ:Nat→Addr}:(X.add a r ρ δ).W a=some r:=if_pos rfl
theorem HK{X:Xt}{a b:Addr}{r:bS}{ρ δ:Nat→Addr}(h:b≠a):(X.add a r ρ δ).W b=X.W b:=if_neg h
theorem Tr.add{X:Xt}{h h':Heap}{n n':Nat}{a:Addr}{r:bS}{ρ δ:Nat→Addr}(v:∀ a r,X.W a=some r→gU h a r)(hn:X.W a=none)(g:∀ b o,h.get? b=some o→h'.get? b=some o)(hr:gU h' a r)
  (l:n≤n') (e1:∀ k,k < n→ρ k=X.ρ k):Tr (fun _=>false) X h n (X.add a r ρ δ) h' n':=by
 have ne:∀ b q,X.W b=some q→(X.add a r ρ δ).W b=some q:=fun b q e=>(HK fun z=>by rw [z,hn] at e;cases e).trans e
 refine⟨⟨fun b o e=>ne b _ e,e1,l⟩,fun b q e _=>⟨ne b q e,let⟨o,ho⟩:=(v b q e).ex;(g _ _ ho).trans ho.symm⟩,fun b q e=> ?_⟩
 by_cases c:b=a
 ·rw [c,DI] at e;exact(c).symm▸(iW e)▸ .inr hr
 ·rw [HK c] at e;exact .inl ⟨e,rfl⟩
theorem WY{ex:bS→Bool}{C:Cx}{X:Xt}{cells:List SO}{h:Heap}{c:SO}{N:Nat}{f g:Nat→Addr}(he:∀ k,ex (.cell k)=false)(hd:∀ k,k < cells.length→f k=g k)(hc:jE C X N cells.length h c)(k:Nat)(c':SO)(e:(cells++[c])[k]? =some c'):(cells[k]? =some c'∧ex (.cell k)=false∧f k=g k)∨jE C X N k h c':=by
 rcases GS k cells.length with hk | hk
 ·rw [LS hk] at e;exact .inl ⟨e,he k,hd k hk⟩
 ·have hk':k=cells.length:=by
   have:=(List.getElem?_eq_some_iff.mp e).1
   rw [fE] at this;exact TL (Hl this) hk
  subst hk';rw [List.getElem?_concat_length] at e;cases e;exact .inr hc
noncomputable def pV(f:Nat→Addr)(n:Nat)(a:Addr):Nat→Addr:=fun k=>if k=n then a else f k
theorem RL{f:Nat→Addr}{n:Nat}{a:Addr}(k:Nat)(h:k < n):pV f n a k=f k:=if_neg (qR h)
theorem pX{f:Nat→Addr}{n:Nat}{a:Addr}:pV f n a n=a:=if_pos rfl
theorem xA{α:Type}(l:List α)(x:α):(l++[x]).length=l.length+1:=fE
noncomputable abbrev sz(z:Z K A st):Nat:=z.s.heap.objs.size
noncomputable def Z.newX(z:Z K A st):Xt:=z.X.add (sz z) (.cell st.cells.length) (pV z.X.ρ st.cells.length (sz z)) z.X.δ
theorem Z.newTr(z:Z K A st)(o:Obj)(hf:o.isFreed=false)(c:SO):Tr (fun _=>false) z.X z.s.heap st.cells.length z.newX (z.s.heap.push o) (st.cells++[c]).length:=
 .add z.R.val (z.R.fresh (cX _)) (fun _ _ e=>gR o e) ⟨o,nY _ hf⟩ (by rw [xA];exact oE _) RL
noncomputable def Z.newC(z:Z K A st)(o:Obj)(hf:o.isFreed=false)(c:SO)(t:Nat)(hc:jE K.C z.newX (st.cells++[c]).length st.cells.length (z.s.heap.push o) c):Z K A ⟨st.loc,st.cells++[c]⟩:=
 ⟨z.newX,{z.s with heap:=z.s.heap.push o,toks:=t},z.hA,(z.newTr o hf c).rel z.R (z.R.still.to _ _) (fun _=>rfl) rfl rfl (fun _=>rfl) (WY (fun _=>rfl) (fun _ _=>rfl) hc)⟩
theorem Z.newLe(z:Z K A st){o:Obj}{hf:o.isFreed=false}{c:SO}{t:Nat}{hc:jE K.C z.newX (st.cells++[c]).length st.cells.length (z.s.heap.push o) c}:z.le (z.newC o hf c t hc):=(z.newTr o hf c).le (fun _=>rfl) fun _=>rfl
theorem Z.newD(z:Z K A st){o:Obj}{hf:o.isFreed=false}{c:SO}{t:Nat}{hc:jE K.C z.newX (st.cells++[c]).length st.cells.length (z.s.heap.push o) c}:(z.newC o hf c t hc).d dV (.ref st.cells.length) (.ref (sz z)):=
 ⟨by show _ < (st.cells++[c]).length;rw [xA];exact xY _,congrArg qB pX.symm⟩
theorem Bv{z:Z K A st}{o:Obj}{p:Obj→Prop}(hf:o.isFreed=false)(d:p o):tJ z.newX st.cells.length (z.s.heap.push o) p:=
 .mk o (by show z.newX.W (pV _ _ _ _)=_;rw [pX];exact DI) (by show _=_;rw [show z.newX.ρ st.cells.length=sz z from pX];exact nY _ hf) d
theorem Go.newC{z:Z K A st}{w:WP aB}{c:SO}(o:Obj)(t:Nat)(hc:jE K.C z.newX (st.cells++[c]).length st.cells.length (z.s.heap.push o) c)(h:∀ Q,Q (.ref (sz z)) {z.s with heap:=z.s.heap.push o,toks:=t}→w Q z.s)(hf:o.isFreed=false:=by rfl):Go z dV w (some (.ref st.cells.length,⟨st.loc,st.cells++[c]⟩)):=
 .ret (z.newC o hf c t hc) z.newLe z.newD h
theorem Go.newL{z:Z K A st}{w:WP aB}{xs:List PV}{vs:List aB}(t:Nat)(d:bO K.C z.X xs vs)(h:∀ Q,Q (.ref (sz z)) {z.s with heap:=z.s.heap.push (bY vs 0),toks:=t}→w Q z.s):Go z dV w (some (.ref st.cells.length,⟨st.loc,st.cells++[.list xs]⟩)):=
 .newC (bY vs 0) t (Bv rfl (.mk vs 0 (bO.mono (z.newTr (bY vs 0) rfl (.list xs)).low d))) h
noncomputable def Z.froX(z:Z K A st)(o:Obj):Xt:=z.X.add (sz z) (.fro o) z.X.ρ z.X.δ
theorem Z.froTr(z:Z K A st)(o:Obj)(hf:o.isFreed=false):Tr (fun _=>false) z.X z.s.heap st.cells.length (z.froX o) (z.s.heap.push o) st.cells.length:=
 .add z.R.val (z.R.fresh (cX _)) (fun _ _ e=>gR o e) (nY _ hf) (cX _) fun _ _=>rfl
noncomputable def Z.fro(z:Z K A st)(o:Obj)(t:Nat)(hf:o.isFreed=false):Z K A st:=
 ⟨z.froX o,{z.s with heap:=z.s.heap.push o,toks:=t},z.hA,(z.froTr o hf).rel z.R (z.R.still.to _ _) (fun _=>rfl) rfl rfl (fun _=>rfl) fun _ _ e=>.inl ⟨e,rfl,rfl⟩⟩
theorem Go.fro{z:Z K A st}{w:WP aB}{p:PV}(o:Obj)(t:Nat)(d:vU z.X.W (z.froX o).W→(z.froX o).W (sz z)=some (.fro o)→bE K.C (z.froX o).W p (.ref (sz z)))(h:∀ Q,Q (.ref (sz z)) {z.s with heap:=z.s.heap.push o,toks:=t}→w Q z.s)(hf:o.isFreed=false:=by rfl):Go z dV w (some (.pv p,st)):=
 .ret (z.fro o t hf) ((z.froTr o hf).le (fun _=>rfl) fun _=>rfl) (d (z.froTr o hf).low.fro DI) h
theorem Go.newT{z:Z K A st}{w:WP aB}{xs:List PV}{vs:List aB}(t:Nat)(d:bO K.C z.X xs vs)(h:∀ Q,Q (.ref (sz z)) {z.s with heap:=z.s.heap.push (mG vs 0),toks:=t}→w Q z.s):Go z dV w (some (.pv (.tup xs),st)):=
 .fro (mG vs 0) t (fun l e=>oI.mk (p:=DenL _ _ xs) _ vs 0 e (by rw [iC];exact aS.imp (bE.mono l) _ _ d)) h
noncomputable def BD(k:Nat):bS→Bool
 |.cell j=>bR j k
 |_=>false
theorem aFi{j k:Nat}(h:j≠k):BD k (.cell j)=false:=by
 cases e:bR j k with
 |false=>exact e
 |true=>exact absurd (sG e) h
theorem Tr.cellTurn{X:Xt}{h h':Heap}{n k:Nat}{a:Addr}(v:∀ a r,X.W a=some r→gU h a r)(hW:X.W a=some (.cell k))(g:uM a h h')(hx:∃ o,h'.get? a=some o):Tr (BD k) X h n X h' n:=by
 refine⟨⟨fun _ _ e=>e,fun _ _=>rfl,cX _⟩,fun b r e q=>⟨e,g.2 _ fun c=> ?_⟩,fun b r e=> ?_⟩
 ·rw [c,hW] at e;cases e;rw [BD,CY] at q;cases q
 ·by_cases c:b=a
  ·rw [c,hW] at e;cases e;rw [c];exact .inr hx
  ·exact .inr ((v b r e).same (g.2 _ c))
noncomputable def fD(st:St)(k:Nat)(c:SO):St:={st with cells:=st.cells.set k c}
theorem CJ(st:St)(k:Nat)(c:SO):(st.cells.set k c).length=st.cells.length:=List.length_set ..
theorem Km{C:Cx}{X:Xt}{cells:List SO}{h:Heap}{k:Nat}{c:SO}{N:Nat}{f:Nat→Addr}(hc:jE C X N k h c)(j:Nat)(c':SO)(e:(cells.set k c)[j]? =some c'):(cells[j]? =some c'∧BD k (.cell j)=false∧f j=f j)∨jE C X N j h c':=by
 by_cases q:k=j
 ·subst q;rw [List.getElem?_set] at e;rw [if_pos rfl] at e;split at e
  ·cases e;exact .inr hc
  ·cases e
 ·rw [List.getElem?_set_ne q] at e;exact .inl ⟨e,aFi fun z=>q z.symm,rfl⟩
noncomputable def Z.setC(z:Z K A st)(k:Nat)(c:SO){a:Addr}(h':Heap)(t:Nat)(hW:z.X.W a=some (.cell k))(g:uM a z.s.heap h')(hx:∃ o,h'.get? a=some o)(hc:jE K.C z.X st.cells.length k h' c):Z K A (fD st k c):=
 ⟨z.X,{z.s with heap:=h',toks:=t},z.hA,Tr.rel (X':=z.X) (s':={z.s with heap:=h',toks:=t}) (cells':=st.cells.set k c) (by rw [CJ];exact Tr.cellTurn z.R.val hW g hx) z.R (z.R.still.to _ _) (fun _=>rfl) rfl rfl (fun _=>rfl) (by rw [CJ];exact Km hc)⟩
theorem Go.setC{z:Z K A st}{D:Dn α β}{w:WP β}{k:Nat}{c:SO}{a:Addr}{b:α}{x:β}(h':Heap)(t:Nat)(hW:z.X.W a=some (.cell k))(g:uM a z.s.heap h')(hx:∃ o,h'.get? a=some o)(hc:jE K.C z.X st.cells.length k h' c)
  (d:D K.C z.X st.cells.length b x) (h:∀ Q,Q x {z.s with heap:=h',toks:=t}→w Q z.s):Go z D w (some (b,fD st k c)):=
 .ret (z.setC k c h' t hW g hx hc) (by show z.X.le _ z.X (st.cells.set k c).length;rw [CJ];exact .refl ..) (by show D _ _ (st.cells.set k c).length _ _;rw [CJ];exact d) h
end
end
section
set_option tactic.hygienic true
section
variable{sl:aL}{env:Env}
theorem tN.facts(F:tN sl env):env.scope.kind= .function∧(sl.map (·.1)).Nodup∧∀ p∈sl,(p.1==("__debug__":Str))=false∧(p.1==("__classdict__":Str))=false:=by
 have h:=F.sc
 simp only [xM,F.names,hJ,beq_iff_eq,decide_eq_true_eq,List.all_eq_true,RW] at h
 exact⟨h.1.1,h.1.2,h.2⟩
theorem Bc:∀ {sl:aL},(sl.map (·.1)).Nodup→∀ {i:Nat} {x:Str} {k:pI},sl[i]? =some (x,k)→sl.lookup x=some k:=by
 intro sl
 induction sl with
 |nil=>intro _ i x k e;cases e
 |cons p r ih=>
  intro hn i x k e
  have hn:=List.nodup_cons.mp hn
  cases i with
  |zero=>cases e;simp [List.lookup]
  |succ i=>
   have e:r[i]? =some (x,k):=e
   have hm:x∈r.map (·.1):=List.mem_map.mpr ⟨(x,k),nZ e,rfl⟩
   have:(x==p.1)=false:=beq_eq_false_iff_ne.mpr fun q=>hn.1 (q▸hm:p.1∈r.map (·.1))
   show(match x==p.1 with | true=>some p.2 | false=>r.lookup x)=_
   exact(this).symm▸ih hn.2 e
theorem ZV(hn:(sl.map (·.1)).Nodup){i j:Nat}{x:Str}{k k':pI}(a:sl[i]? =some (x,k))(b:sl[j]? =some (x,k')):i=j:=by
 have a':(sl.map (·.1))[i]? =some x:=by rw [iR,a];rfl
 have b':(sl.map (·.1))[j]? =some x:=by rw [iR,b];rfl
 exact(He (List.getElem?_eq_some_iff.mp a').1 hn).mp (a'.trans b'.symm)
theorem tN.kind(F:tN sl env):env.scope.kind= .function:=F.facts.1
theorem tN.kinds(F:tN sl env){i:Nat}{x:Str}{k:pI}(e:sl[i]? =some (x,k)):env.kindOf x=some k:=by
 unfold Env.kindOf;rw [F.names];exact Bc F.facts.2.1 e
theorem tN.odd(F:tN sl env){i:Nat}{x:Str}{k:pI}(e:sl[i]? =some (x,k)):(x==("__debug__":Str))=false∧(x==("__classdict__":Str))=false:=F.facts.2.2 (x,k) (nZ e)
noncomputable def nm(sl:aL)(i:Nat):Str:=match sl[i]? with
 |some p=>p.1
 |none=>""
noncomputable def eH(sl:aL)(i:Nat)(k:pI):Bool:=match sl[i]? with
 |some p=>p.2==k
 |none=>false
theorem kC{i:Nat}{k:pI}(h:eH sl i k=true):sl[i]? =some (nm sl i,k):=by
 unfold eH at h;unfold nm
 cases e:sl[i]? with
 |none=>rw [e] at h;cases h
 |some p=>
  rw [e] at h
  have:p.2=k:=by simpa using h
  exact this▸rfl
end
theorem zU{α:Type}{l:List α}{i j:Nat}{v y:α}(h:(l.set i v)[j]? =some y):(j=i∧y=v)∨(j≠i∧l[j]? =some y):=by
 by_cases q:i=j
 ·subst q;rw [List.getElem?_set,if_pos rfl] at h;split at h
  ·exact .inl ⟨rfl,(iW h).symm⟩
  ·cases h
 ·rw [List.getElem?_set_ne q] at h;exact .inr ⟨fun z=>q z.symm,h⟩
noncomputable def XW:bS→Bool
 |.frame=>true
 |_=>false
noncomputable def aFj:bS→Bool
 |.fcell=>true
 |_=>false
theorem Tr.turn{ex:bS→Bool}{X:Xt}{h h':Heap}{n:Nat}{a:Addr}{r:bS}(v:∀ a r,X.W a=some r→gU h a r)(hW:X.W a=some r)(he:ex r=true)(g:uM a h h')(hx:gU h' a r):Tr ex X h n X h' n:=by
 refine⟨⟨fun _ _ e=>e,fun _ _=>rfl,cX _⟩,fun b q e z=>⟨e,g.2 _ fun c=> ?_⟩,fun b q e=> ?_⟩
 ·rw [c,hW] at e;cases e;rw [he] at z;cases z
 ·by_cases c:b=a
  ·rw [c,hW] at e;cases e;exact(c).symm▸ .inr hx
  ·exact .inr ((v b q e).same (g.2 _ c))
section
variable{K:KK}{A:aR}{st st':St}{α β:Type}
theorem Z.nsA(z:Z K A st){c:Addr}(h:SE z.X K.env c):c≠K.env.locals:=fun q=>by
 have hW:=z.R.fr.nsW
 replace hW:=(q).symm▸hW
 rcases h with h | ⟨_,o,h⟩ <;> rw [hW] at h <;> cases h
theorem Z.setLoc(z:Z K A st){i:Nat}{x:Str}{sv:SV}{v:aB}{h':Heap}{t:Nat}{m:Str→Option aB}(e:K.sl[i]? =some (x,.local))(d:z.d dV sv v)
  (hs:∀(i:Nat) x sv,K.sl[i]? =some (x,.local)→st.loc[i]? =some (some sv)→∃ v,m x=some v∧z.d dV sv v)
  (hn:h'.Ns K.env.locals fun y=>if y=x then some v else m y) (g:uM K.env.locals z.s.heap h'):uU K.C z.X K.sl K.env ⟨st.loc.set i (some sv),st.cells⟩ {z.s with heap:=h',toks:=t}:=by
 have F:=z.R.fr
 have T:Tr XW z.X z.s.heap st.cells.length z.X h' st.cells.length:=.turn z.R.val F.nsW rfl g (let⟨o,_,_,ho,_⟩:=hn;⟨o,ho⟩)
 refine⟨T.relC z.R.toRelC (z.R.still.to _ _) (fun _=>rfl) fun _ _ e=>.inl ⟨e,rfl,rfl⟩,F.st,F.nsW,⟨_,hn,fun j y w ey ew=> ?_⟩,fun j y ey=> ?_,fun j y w ey ew=> ?_⟩
 ·rcases zU ew with⟨rfl,q⟩ | ⟨q,ew⟩
  ·cases e.symm.trans ey;cases q;exact⟨v,if_pos rfl,d⟩
  ·obtain⟨u,hu,du⟩:=hs j y w ey ew
   exact⟨u,(if_neg fun(c:y=x)=>q (ZV F.st.facts.2.1 (c▸ey) e)).trans hu,du⟩
 ·obtain⟨c,v₀,a,b,ic,f⟩:=F.cell j y ey
  refine⟨c,v₀,a,b,WX (g.2 _ (z.nsA b)) ic,fun w ew=>(zU ew).elim (fun q=> ?_) fun q=>f w q.2⟩
  rw [q.1,e] at ey;cases ey
 ·refine(zU ew).elim (fun q=> ?_) fun q=>F.free j y w ey q.2
  rw [q.1,e] at ey;cases ey
theorem Z.setCv(z:Z K A st){i:Nat}{x:Str}{sv:SV}{v:aB}{c:Addr}{h':Heap}(e:K.sl[i]? =some (x,.cell))(hc:K.env.cells.lookup x=some c)(hF:K.env.func.isSome=true)(hWc:z.X.W c=some .fcell)(d:z.d dV sv v)
  (hn:h'.IsCell c (some v)) (g:uM c z.s.heap h'):uU K.C z.X K.sl K.env ⟨st.loc.set i (some sv),st.cells⟩ {z.s with heap:=h'}:=by
 have F:=z.R.fr
 have T:Tr aFj z.X z.s.heap st.cells.length z.X h' st.cells.length:=.turn z.R.val hWc rfl g (let⟨o,ho,_⟩:=hn;⟨o,ho⟩)
 refine⟨T.relC z.R.toRelC (z.R.still.to h' z.s.toks) (fun _=>rfl) fun _ _ e=>.inl ⟨e,rfl,rfl⟩,F.st,F.nsW,?_,fun j y ey=> ?_,fun j y w ey ew=> ?_⟩
 ·obtain⟨m,hm,hs⟩:=F.ns
  refine⟨m,Bz (T.keep _ _ F.nsW rfl).2 hm,fun j y w ey ew=>(zU ew).elim (fun q=> ?_) fun q=>hs j y w ey q.2⟩
  rw [q.1,e] at ey;cases ey
 ·by_cases hij:j=i
  ·subst hij;cases e.symm.trans ey
   exact⟨c,some v,hc,.inl hWc,hn,fun w ew=>(zU ew).elim (fun q=>by cases q.2;exact⟨v,rfl,d⟩) fun q=>absurd rfl q.1⟩
  ·obtain⟨c',v₀,a,b,ic,f⟩:=F.cell j y ey
   refine⟨c',v₀,a,b,WX (g.2 _ fun q=> ?_) ic,fun w ew=>(zU ew).elim (fun q=>absurd q.1 hij) fun q=>f w q.2⟩
   subst q;exact hij (ZV F.st.facts.2.1 (F.st.apart hF _ _ _ hc a▸ey) e)
 ·refine(zU ew).elim (fun q=> ?_) fun q=>F.free j y w ey q.2
  rw [q.1,e] at ey;cases ey
noncomputable def aA(i:Nat):M SV:=fun st=>match st.loc[i]? with
 |some (some v)=>some (v,st)
 |_=>none
noncomputable def sZ(i:Nat)(v:SV):M Unit:=fun st=>some ((),{st with loc:=st.loc.set i (some v)})
theorem Go.getLoc{z:Z K A st}{D:Dn SV β}{w:WP β}{i:Nat}(h:∀ v,st.loc[i]? =some (some v)→Go z D w (some (v,st))):Go z D w (aA i st):=by
 unfold Mine.aA;split
 ·rename_i v e;exact h v e
 ·exact .no
variable{z:Z K A st}
theorem aGm{i:Nat}{pos:Pos}(h:eH K.sl i .local=true):Go z dV (K.wp A (eval (.Name (nm K.sl i) pos) K.env)) (aA i st):=
 .getLoc fun v hl=>let⟨m,hns,hs⟩:=z.R.fr.ns;let⟨y,hy,dy⟩:=hs i _ v (kC h) hl
  .same dy fun Q q=>wpAny_Name (wpAny_loadName_local z.R.fr.st.kind (z.R.fr.st.kinds (kC h)) hns hy q) (z.R.fr.st.odd (kC h)).1
theorem aGg{i:Nat}{pos:Pos}(h:eH K.sl i .cell=true):Go z dV (K.wp A (eval (.Name (nm K.sl i) pos) K.env)) (aA i st):=
 .getLoc fun v hl=>let⟨c,v₀,hc,hW,ic,hs⟩:=z.R.fr.cell i _ (kC h);let⟨y,e,dy⟩:=hs v hl
  .same dy fun Q q=>wpAny_Name (wpAny_loadName_cell z.R.fr.st.kind (z.R.fr.st.kinds (kC h)) hc (e▸ic) q) (z.R.fr.st.odd (kC h)).1
noncomputable def Gl(C:Cx)(x:Str)(v:aB):Prop:=
 (∃ mg,C.base.Ns jU mg∧mg x=some v)∨(∃ mg mb,C.base.Ns jU mg∧mg x=none∧C.base.Ns wL mb∧mb x=some v)
theorem nV{M:jO}{i:Nat}{v:aB}{pos:Pos}{Q:aB→aG→Prop}{E:aB→aG→Prop}(e:eH K.sl i .globalImplicit=true)(g:Gl K.C (nm K.sl i) v)(h:Q v z.s):
  aI M A (eval (.Name (nm K.sl i) pos) K.env) Q E z.s:=by
 have F:=z.R.fr.st
 have k:=z.R.keeps0
 refine wpAny_Name ?_ (F.odd (kC e)).1
 unfold loadName
 simp only [Env.blockKind,F.kind,F.kinds (kC e),ScopeKind.isAnnotationScope,Bool.false_and,GC,if_false]
 unfold loadGlobal
 refine(F.globals).symm▸(F.builtins).symm▸?_
 rcases g with⟨mg,n,e⟩ | ⟨mg,mb,n,e,n',e'⟩
 ·refine aF (wpAny_nsGet (n.keeps k) ?_)
  exact(e).symm▸bF h
 ·refine aF (wpAny_nsGet (n.keeps k) ?_)
  refine(e).symm▸?_
  refine aF (wpAny_nsGet (n'.keeps k) ?_)
  exact(e').symm▸bF h
noncomputable def Zh(C:Cx)(W:Addr→Option bS):Prop:=∀(b:Addr) (o:Obj),C.base.get? b=some o→W b=some (.fro o)
noncomputable def GJ(C:Cx)(x:Str)(p:PV):Prop:=∃ v,Gl C x v∧∀ W,Zh C W→bE C W p v
noncomputable def lM(K:KK)(i:Nat):Prop:=eH K.sl i .local=true∨(eH K.sl i .cell=true∧K.env.func.isSome=true)
theorem IU{D:Dn α β}{w:WP β}{a:α}{x:β}{i:Nat}{sv:SV}{v:aB}(q:lM K i)(d:z.d dV sv v)(da:z.d D a x)(h:∀ Q,aI (aK K.C.prog K.C.w) A (storeName K.env (nm K.sl i) v) (fun _=>Q x) nE z.s→w Q z.s):Go z D w (some (a,⟨st.loc.set i (some sv),st.cells⟩)):=by
 intro a' s' e Q k
 cases e
 refine h Q ?_
 rcases q with q | ⟨q,hf⟩
 ·obtain⟨m,hm,hs⟩:=z.R.fr.ns
  refine wpAny_storeName_local (z.R.fr.st.kinds (kC q)) hm (fun h' hn g=>k ⟨z.X,_,z.hA,z.setLoc (kC q) d hs hn g⟩ x Z.le0 da) ?_
  rw [z.R.fr.st.kind];rfl
 ·obtain⟨c,v₀,hc,hW,ic,hs⟩:=z.R.fr.cell i _ (kC q)
  rcases hW with hW | ⟨q',_⟩
  ·exact wpAny_storeName_cell z.R.fr.st.kind (z.R.fr.st.kinds (kC q)) hc ic fun h' hn g=>k ⟨z.X,_,z.hA,z.setCv (kC q) hc hf hW d hn g⟩ x Z.le0 da
  ·rw [q'] at hf;cases hf
end
end
noncomputable def dR:List Expr→Expr
 |e::_=>e
 | []=>.Constant .none 0 default
noncomputable def xP:Expr→List Expr×List Expr×Pos×Nat
 |.BinOp l _ r p=>([l,r],[],p,0)
 |.UnaryOp _ x p=>([x],[],p,0)
 |.IfExp t b o p=>([t,b,o],[],p,0)
 |.Compare l _ cs p=>(l::cs,[],p,0)
 |.Attribute v _ p=>([v],[],p,0)
 |.Subscript v s _=>([v,s],[],s.pos,0)
 |.Call f as _ _=>([f],as,f.pos,0)
 |.Tuple es k p=>([],es,p,k)
 |.List es p=>([],es,p,0)
 |.BoolOp _ es p=>([],es,p,0)
 |.Dict _ vs p=>([],vs,p,0)
 |.Constant _ k p=>([],[],p,k)
 |_=>([],[],default,0)
noncomputable def x1(e:Expr):Expr:=dR (xP e).1
noncomputable def x2(e:Expr):Expr:=dR (xP e).1.tail
noncomputable def x3(e:Expr):Expr:=dR (xP e).1.tail.tail
noncomputable def xs(e:Expr):List Expr:=(xP e).2.1
noncomputable def xq(e:Expr):Pos:=(xP e).2.2.1
noncomputable def xk(e:Expr):Nat:=(xP e).2.2.2
noncomputable def sQ:Expr→Nat
 |.Starred ..=>0
 |.Set ..=>0
 |.Slice ..=>0
 |.ListComp ..=>1
 |.SetComp ..=>1
 |.DictComp ..=>1
 |.BoolOp ..=>2
 |.Compare ..=>2
 |.IfExp ..=>2
 |.UnaryOp ..=>2
 |.Call f _ _ _=>match f with
  |.Name ..=>3
  |_=>5
 |_=>4
section
variable{e:Expr}{env:Env}{n:Nat}
theorem rX(h:sQ e=n+1)(es:List Expr):fL (e::es) env=(false,eval e env)::fL es env:=by
 cases e <;> first | rfl | exact nomatch h
theorem Xq(h:sQ e=n+2)(t:Option Expr)(l:Nat):FV e t l env=pure false:=by
 cases e <;> first | rfl | exact nomatch h
theorem ON(h:sQ e=n+1)(x:aB):foldedSetIterable e env x=pure x:=by
 cases e <;> first | rfl | exact nomatch h
theorem aOY(h:sQ e=n+1)(o i:aB):subscripted e false o i=operate [o,i] (getItem o i):=by
 cases e <;> first | rfl | exact nomatch h
theorem Jg(h:sQ e=n+1)(op:CmpOp):behindInMarks op e=false:=by
 cases e <;> first | rfl | exact nomatch h
theorem Je(h:bR (sQ e) 3=false)(a:Str)(w:Sem aB):attributeBase e a env w=w:=by
 cases e with
 |Call f=>cases f <;> first | rfl | exact nomatch h
 |_=>rfl
theorem aPr(h:bR (sQ e) 2=false)(w:Sem aB):PySem.isTrue e env w=(do let v ←w;standAt e.pos;holding [v] (truthy v)):=by
 cases e <;> first | rfl | exact nomatch h
end
structure PE(K:KK) where
 m:M SV
 r:Expr→Expr
 c:Nat
 hc:∀ e,sQ (r e)=c+1
 ok:∀(e:Expr) {A:aR} {st:St} (z:Z K A st),Go z dV (K.wp A (eval (r e) K.env)) (m st)
structure PT(K:KK) where
 m:M Bool
 r:Expr→Expr
 ok:∀(e:Expr) {A:aR} {st:St} (z:Z K A st),Go z dB (K.wp A (isTrue (r e) K.env (eval (r e) K.env))) (m st)
section
variable{K:KK}
theorem PE.sw(a:PE K)(h:bR a.c 0=false)(e:Expr)(t:Option Expr)(l:Nat):FV (a.r e) t l K.env=pure false:=by
 obtain⟨m,r,c,hc,ok⟩:=a
 cases c with
 |zero=>cases h
 |succ c=>exact Xq (hc e) t l
theorem PE.ab(a:PE K)(h:bR a.c 2=false)(e:Expr)(x:Str)(w:Sem aB):attributeBase (a.r e) x K.env w=w:=Je (by rw [a.hc];exact h) x w
noncomputable def jW(K:KK)(t:aB→Sem aB)(f:SV→M SV):Prop:=∀ {A:aR} {st:St} (z:Z K A st) {a:SV} {x:aB},z.d dV a x→Go z dV (K.wp A (t x)) (f a st)
noncomputable def gA(K:KK)(t:aB→aB→Sem aB)(f:SV→SV→M SV):Prop:=∀ {A:aR} {st:St} (z:Z K A st) {a b:SV} {x y:aB},z.d dV a x→z.d dV b y→Go z dV (K.wp A (t x y)) (f a b st)
noncomputable def yH(K:KK)(t:aB→aB→aB→Sem aB)(f:SV→SV→SV→M SV):Prop:=∀ {A:aR} {st:St} (z:Z K A st) {a b c:SV} {x y u:aB},z.d dV a x→z.d dV b y→z.d dV c u→Go z dV (K.wp A (t x y u)) (f a b c st)
noncomputable def jX(K:KK)(t:aB→aB→Sem aB)(f:SV→SV→M Bool):Prop:=∀ {A:aR} {st:St} (z:Z K A st) {a b:SV} {x y:aB},z.d dV a x→z.d dV b y→Go z dVB (K.wp A (t x y)) (f a b st)
noncomputable def Hz(K:KK)(t:aB→Sem Bool)(f:SV→M Bool):Prop:=∀ {A:aR} {st:St} (z:Z K A st) {a:SV} {x:aB},z.d dV a x→Go z dB (K.wp A (t x)) (f a st)
variable{A:aR}{st:St}{z:Z K A st}{α β γ δ:Type}
theorem Go.ru{D:Dn α β}{D':Dn γ δ}{w:WP β}{w':WP δ}{m:M α}{f:α→M γ}{u:β→WP δ}(g:Go z D w (m st))(h:∀ Q,w (fun x=>u x Q) z.s→w' Q z.s)(k:∀ {a:α} {st₁:St} {x:β} (z₁:Z K A st₁),z.le z₁→z₁.d D a x→Go z₁ D' (u x) (f a st₁)):Go z D' w' (Mine.bd m f st):=(g.bd k).imp h
theorem Go.ruB{D':Dn γ δ}{w:WP Bool}{w':WP δ}{m:M Bool}{f:Bool→M γ}{u:Bool→WP δ}(g:Go z dB w (m st))(h:∀ Q,w (fun x=>u x Q) z.s→w' Q z.s)(k:∀ {a:Bool} {st₁:St} (z₁:Z K A st₁),z.le z₁→Go z₁ D' (u a) (f a st₁)):Go z D' w' (Mine.bd m f st):=(g.bdB k).imp h
theorem Go.rt{D:Dn α β}{w:WP β}{a:α}{x:β}(d:z.d D a x)(h:∀ Q,Q x z.s→w Q z.s):Go z D w (Mine.rt a st):=Go.same d h
noncomputable def Kn:PE K:=⟨rt (.pv .none),fun e=>.Constant .none (xk e) e.pos,3,fun _=>rfl,fun _ _ _ z=>.rt (x:=.none) rfl fun Q=>wpAny_Constant_none⟩
noncomputable def Kb(b:Bool):PE K:=⟨rt (.pv (.bool b)),fun e=>.Constant (.bool b) (xk e) e.pos,3,fun _=>rfl,fun _ _ _ z=>.rt (x:=.bool b) rfl fun Q=>wpAny_Constant_bool⟩
noncomputable def Ki(i:Int):PE K:=⟨rt (.pv (.int i)),fun e=>.Constant (.int i) (xk e) e.pos,3,fun _=>rfl,fun _ _ _ z=>.ret (z.tok (z.s.toks+1)) Z.le0 (jN.mk z.s.toks) fun Q=>wpAny_Constant_int⟩
noncomputable def Ks(x:Str)(l:List Nat)(h:x.cps.toList=l:=by rfl):PE K:=⟨rt (.pv (.str l)),fun e=>.Constant (.str x) (xk e) e.pos,3,fun _=>rfl,fun _ _ _ z=>.ret (z.tok (z.s.toks+1)) Z.le0 (h▸lN.mk x z.s.toks:lN l _) fun Q=>wpAny_Constant_str⟩
noncomputable def Ky(b:List UInt8)(l:List Nat)(h:b.map cH=l:=by rfl):PE K:=⟨rt (.pv (.bytes l)),fun e=>.Constant (.bytes b) (xk e) e.pos,3,fun _=>rfl,fun _ A _ z=>.ret (z.tok (z.s.toks+1)) Z.le0 (h▸iQ.mk b.toArray z.s.toks:iQ l _) fun Q q=>show aI _ A (mkTextBytes b.toArray) Q nE z.s from fun Γ p hΓ=>q⟩
noncomputable def L(i:Nat)(h:eH K.sl i .local=true:=by rfl):PE K:=⟨aA i,fun e=>.Name (nm K.sl i) e.pos,3,fun _=>rfl,fun _ _ _ z=>aGm h⟩
noncomputable def Lc(i:Nat)(h:eH K.sl i .cell=true:=by rfl):PE K:=⟨aA i,fun e=>.Name (nm K.sl i) e.pos,3,fun _=>rfl,fun _ _ _ z=>aGg h⟩
theorem aGi{p:PV}{i:Nat}{pos:Pos}(g:GJ K.C (nm K.sl i) p)(h:eH K.sl i .globalImplicit=true):Go z dV (K.wp A (eval (.Name (nm K.sl i) pos) K.env)) (rt (.pv p) st):=
 g.elim fun v g=>.rt (x:=v) (g.2 _ z.R.base) fun Q=>nV h g.1
noncomputable def Gc{p:PV}(i:Nat)(g:GJ K.C (nm K.sl i) p)(h:eH K.sl i .globalImplicit=true:=by rfl):PE K:=⟨rt (.pv p),fun e=>.Name (nm K.sl i) e.pos,3,fun _=>rfl,fun _ _ _ z=>aGi g h⟩
noncomputable def aW{op:Operator}{f:SV→SV→M SV}(h:gA K (jR op) f)(a b:PE K):PE K:=⟨bd a.m fun x=>bd b.m fun y=>f x y,fun e=>.BinOp (a.r (x1 e)) op (b.r (x2 e)) e.pos,3,fun _=>rfl,
 fun _ _ _ z=>(a.ok _ z).ru (fun Q=>wpAny_BinOp) fun z₁ l₁ dx=>(b.ok _ z₁).bd fun z₂ l₂ dy=>h z₂ (l₂.v dx) dy⟩
noncomputable def qS{op:CmpOp}{f:SV→SV→M Bool}(h:jX K (eT op) f)(a b:PE K):PE K:=⟨bd a.m fun x=>bd b.m fun y=>bd (f x y) fun r=>rt (.pv (.bool r)),fun e=>.Compare (a.r (x1 e)) [op] [b.r (x2 e)] e.pos,1,fun _=>rfl,
 fun e _ _ z=>(a.ok _ z).ru (fun Q q=>wpAny_Compare1 q (Jg (b.hc _) op)) fun z₁ l₁ dx=>(b.ok _ z₁).bd fun z₂ l₂ dy=>(h z₂ (l₂.v dx) dy).ru (u:=fun x Q=>Q x) (fun Q q=>q) fun z₃ l₃ d=>.rt (d:_=_) fun Q q=>q⟩
noncomputable def aU{op:CmpOp}{f:SV→SV→M Bool}(h:jX K (eT op) f)(a b:PE K):PT K:=⟨bd a.m fun x=>bd b.m fun y=>f x y,fun e=>.Compare (a.r (x1 e)) [op] [b.r (x2 e)] e.pos,
 fun e _ _ z=>(a.ok _ z).ru (fun Q q=>wpAny_isTrue_Compare1 q (Jg (b.hc _) op)) fun z₁ l₁ dx=>(b.ok _ z₁).bd fun z₂ l₂ dy a s e Q q=>h z₂ (l₂.v dx) dy a s e _ fun z₃ x l d=>(d:_=_)▸uI (q z₃ _ l rfl)⟩
noncomputable def Ia(a:PT K):PT K:=⟨bd a.m fun b=>rt (!b),fun e=>.UnaryOp .Not (a.r (x1 e)) e.pos,fun e _ _ z=>(a.ok _ z).ruB (fun Q=>wpAny_isTrue_Not) fun z₁ l₁=>.rt rfl fun Q q=>q⟩
theorem Pa{D:Dn α β}{w w':WP β}{m m':M α}{b:Bool}(h:Go z D w (m st))(h':Go z D w' (m' st)):Go z D (fun Q s=>if b=true then w Q s else w' Q s) ((match b with | true=>m | false=>m':M α) st):=by
 cases b with
 |true=>exact h.imp fun Q q=>q
 |false=>exact h'.imp fun Q q=>q
noncomputable def lB(t:PT K)(a b:PE K):PE K:=⟨bd t.m fun c=>match c with | true=>a.m | false=>b.m,fun e=>.IfExp (t.r (x1 e)) (a.r (x2 e)) (b.r (x3 e)) e.pos,1,fun _=>rfl,
 fun e _ _ z=>(t.ok _ z).ruB (fun Q=>wpAny_IfExp) fun z₁ l₁=>Pa (a.ok _ z₁) (b.ok _ z₁)⟩
noncomputable def jZ{t:SV→M Bool}(ht:Hz K truthy t)(a:PE K)(h:bR a.c 1=false:=by rfl):PT K:=⟨bd a.m t,a.r,fun e _ _ z=>(a.ok _ z).ru (fun Q q=>isTrue_plain q (aPr (by rw [a.hc];exact h) _)) fun z₁ l₁ dx=>ht z₁ dx⟩
end
section
set_option tactic.hygienic true
section
variable{K:KK}{A:aR}{st st':St}{z:Z K A st}{α β γ δ:Type}{D:Dn α δ}{T:aB→WP δ}{a:SV}{x:aB}{e:M α}
noncomputable def lH(a:SV)(k:PV→M α):M α:=match a with
 |.pv p=>k p
 |.ref _=>er
theorem Go.onP(d:z.d dV a x)(h:∀ p,bE K.C z.X.W p x→Go z D (T x) (k p st)):Go z D (T x) (lH a k st):=by
 cases a with
 |pv p=>exact h p d
 |ref=>exact .no
noncomputable def gM(a:SV)(k:Int→M α)(e:M α):M α:=match a with
 |.pv (.int i)=>k i
 |_=>e
theorem Go.onI(d:z.d dV a x)(h:∀ i t,Go z D (T (.int i t)) (k i st))(h':Go z D (T x) (e st)):Go z D (T x) (gM a k e st):=by
 cases a with
 |pv p=>cases p with
  |int i=>cases d with | mk t=>exact h i t
  |_=>exact h'
 |ref=>exact h'
noncomputable def Ts(a:SV)(k:Bool→M α)(e:M α):M α:=match a with
 |.pv (.bool i)=>k i
 |_=>e
theorem Go.onO(d:z.d dV a x)(h:∀ b,Go z D (T (.bool b)) (k b st))(h':Go z D (T x) (e st)):Go z D (T x) (Ts a k e st):=by
 cases a with
 |pv p=>cases p with
  |bool i=>subst d;exact h i
  |_=>exact h'
 |ref=>exact h'
noncomputable def kQ(a:SV)(k:List Nat→M α)(e:M α):M α:=match a with
 |.pv (.bytes l)=>k l
 |_=>e
theorem Go.onB(d:z.d dV a x)(h:∀ b t,Go z D (T (.bytes b t)) (k (b.toList.map cH) st))(h':Go z D (T x) (e st)):Go z D (T x) (kQ a k e st):=by
 cases a with
 |pv p=>cases p with
  |bytes l=>cases d with | mk b t=>exact h b t
  |_=>exact h'
 |ref=>exact h'
noncomputable def zP(a:SV)(k:List Nat→M α)(e:M α):M α:=match a with
 |.pv (.str l)=>k l
 |_=>e
theorem Go.onS(d:z.d dV a x)(h:∀ b t,Go z D (T (.str b t)) (k b.cps.toList st))(h':Go z D (T x) (e st)):Go z D (T x) (zP a k e st):=by
 cases a with
 |pv p=>cases p with
  |str l=>cases d with | mk b t=>exact h b t
  |_=>exact h'
 |ref=>exact h'
noncomputable def CA(a:SV)(k:List PV→M α)(e:M α):M α:=match a with
 |.pv (.tup l)=>k l
 |_=>e
theorem Go.onT(d:z.d dV a x)(h:∀ xs l vs ep,z.X.W l=some (.fro (mG vs ep))→z.s.heap.get? l=some (mG vs ep)→bO K.C z.X xs vs→Go z D (T (.ref l)) (k xs st))(h':Go z D (T x) (e st)):Go z D (T x) (CA a k e st):=by
 cases a with
 |pv p=>cases p with
  |tup l=>cases d with | mk r vs ep hw hl=>exact h l r vs ep hw (z.R.val _ _ hw) (by rw [iC] at hl;exact hl)
  |_=>exact h'
 |ref=>exact h'
noncomputable def lZ(st:St):SV→Option (List PV)
 |.pv (.lst xs)=>some xs
 |.ref k=>match st.cells[k]? with
  |some (.list xs)=>some xs
  |_=>none
 |_=>none
noncomputable def iD(a:SV)(k:List PV→M α)(e:M α):M α:=fun st=>match lZ st a with
 |some xs=>k xs st
 |none=>e st
theorem Go.onL(d:z.d dV a x)(h:∀ xs l vs ep,z.s.heap.get? l=some (bY vs ep)→bO K.C z.X xs vs→Go z D (T (.ref l)) (k xs st))(h':Go z D (T x) (e st)):Go z D (T x) (iD a k e st):=by
 cases a with
 |pv p=>cases p with
  |lst l=>cases d with | mk r vs ep hw hl=>exact h l r vs ep (z.R.val _ _ hw) (by rw [iC] at hl;exact hl)
  |_=>exact h'
 |ref i=>
  unfold Mine.iD lZ;dsimp only
  cases q:st.cells[i]? with
  |none=>exact h'
  |some c=>cases c with
   |list xs=>cases z.R.cells _ _ q with | mk o hw ho r=>cases r with | mk vs ep hl=>cases d.2;exact h xs _ vs ep ho hl
   |_=>exact h'
noncomputable def qK(a:SV)(k:Nat→List PV→M α)(e:M α):M α:=fun st=>match a with
 |.ref i=>match st.cells[i]? with
  |some (.list xs)=>k i xs st
  |_=>e st
 |_=>e st
theorem Go.onC(d:z.d dV a x)(h:∀ i xs vs ep,z.X.W (z.X.ρ i)=some (.cell i)→z.s.heap.get? (z.X.ρ i)=some (bY vs ep)→bO K.C z.X xs vs→Go z D (T (.ref (z.X.ρ i))) (k i xs st))(h':Go z D (T x) (e st)):Go z D (T x) (qK a k e st):=by
 cases a with
 |pv=>exact h'
 |ref i=>
  unfold Mine.qK;dsimp only;split
  ·rename_i xs q
   cases z.R.cells _ _ q with | mk o hw ho r=>cases r with | mk vs ep hl=>cases d.2;exact h i xs vs ep hw ho hl
  ·exact h'
noncomputable def BC(st:St):SV→Option (KD×List PV×List PV)
 |.pv (.dct kd ks vs)=>some (kd,ks,vs)
 |.ref k=>match st.cells[k]? with
  |some (.dict kd ks vs)=>some (kd,ks,vs)
  |_=>none
 |_=>none
theorem Z.noSys(z:Z K A st){a:Addr}(h:z.X.W a=some (.cell k)):(a==rY)=false:=by
 obtain⟨o,ho⟩:=K.C.sysm
 exact beq_eq_false_iff_ne.mpr fun e=>by have:=z.R.base _ _ ho;rw [←e,h] at this;cases this
noncomputable def kF(a:SV)(k:KD→List PV→List PV→M α)(e:M α):M α:=fun st=>match BC st a with
 |some (kd,ks,vs)=>k kd ks vs st
 |none=>e st
theorem Go.onD{k:KD→List PV→List PV→M α}(d:z.d dV a x)(h:∀ kd ks vs l o,(l==rY)=false→z.s.heap.get? l=some o→iG K.C kd ks (bO K.C z.X ks) (bO K.C z.X vs) o→Go z D (T (.ref l)) (k kd ks vs st))(h':Go z D (T x) (e st)):Go z D (T x) (kF a k e st):=by
 cases a with
 |pv p=>cases p with
  |dct kd ks vs=>cases d with | mk r o hw ns d=>exact h kd ks vs r o ns (z.R.val _ _ hw) (by rw [iC,iC] at d;exact d)
  |_=>exact h'
 |ref i=>
  unfold Mine.kF BC;dsimp only
  cases q:st.cells[i]? with
  |none=>exact h'
  |some c=>cases c with
   |dict kd ks vs=>cases z.R.cells _ _ q with | mk o hw ho r=>cases d.2;exact h kd ks vs _ o (z.noSys hw) ho r
   |_=>exact h'
noncomputable def xI(a:SV)(k:Nat→KD→List PV→List PV→M α)(e:M α):M α:=fun st=>match a with
 |.ref i=>match st.cells[i]? with
  |some (.dict kd ks vs)=>k i kd ks vs st
  |_=>e st
 |_=>e st
theorem Go.onDC(d:z.d dV a x)(h:∀ i kd ks vs o,z.X.W (z.X.ρ i)=some (.cell i)→z.s.heap.get? (z.X.ρ i)=some o→iG K.C kd ks (bO K.C z.X ks) (bO K.C z.X vs) o→Go z D (T (.ref (z.X.ρ i))) (k i kd ks vs st))(h':Go z D (T x) (e st)):Go z D (T x) (xI a k e st):=by
 cases a with
 |pv=>exact h'
 |ref i=>
  unfold Mine.xI;dsimp only;split
  ·rename_i q
   cases z.R.cells _ _ q with | mk o hw ho r=>cases d.2;exact h i _ _ _ o hw ho r
  ·exact h'
noncomputable def BZ(a:SV)(k:Nat→KD→List PV→List SV→M α)(e:M α):M α:=fun st=>match a with
 |.ref i=>match st.cells[i]? with
  |some (.sdict kd ks vs)=>k i kd ks vs st
  |_=>e st
 |_=>e st
theorem Go.onSC(d:z.d dV a x)(h:∀ i kd ks vs o,z.X.W (z.X.ρ i)=some (.cell i)→z.s.heap.get? (z.X.ρ i)=some o→iG K.C kd ks (bO K.C z.X ks) (fM K.C z.X st.cells.length vs) o→Go z D (T (.ref (z.X.ρ i))) (k i kd ks vs st))(h':Go z D (T x) (e st)):Go z D (T x) (BZ a k e st):=by
 cases a with
 |pv=>exact h'
 |ref i=>
  unfold Mine.BZ;dsimp only;split
  ·rename_i q
   cases z.R.cells _ _ q with | mk o hw ho r=>cases d.2;exact h i _ _ _ o hw ho r
  ·exact h'
noncomputable def Ua(st:St):SV→Option (Nat×List SV)
 |.pv (.obj c fs)=>some (c,fs.map .pv)
 |.ref k=>match st.cells[k]? with
  |some (.inst c fs)=>some (c,fs)
  |_=>none
 |_=>none
inductive GX(K:KK)(z:Z K A st)(c:Nat)(fs:List SV):aB→Prop
 |mk (l dx:Addr) (o:Obj) (hi:z.s.heap.get? l=some (instObj (K.C.cls c) dx)) (ho:z.s.heap.get? dx=some o) (f:sD K.C c fs.length (fM K.C z.X st.cells.length fs) o):GX K z c fs (.ref l)
noncomputable def JZ(a:SV)(k:Nat→List SV→M α):M α:=fun st=>match Ua st a with
 |some (c,fs)=>k c fs st
 |none=>none
theorem Go.onO2(d:z.d dV a x)(h:∀ c fs,GX K z c fs x→Go z D (T x) (k c fs st)):Go z D (T x) (JZ a k st):=by
 cases a with
 |pv p=>cases p with
  |obj c fs=>cases d with | mk r dx o hw hd f=>exact h c _ (.mk r dx o (z.R.val _ _ hw) (z.R.val _ _ hd) (by rw [bQ];rw [iC] at f;exact f.imp (fun _ h=>bO.s h) o))
  |_=>exact .no
 |ref i=>
  unfold Mine.JZ Ua;dsimp only
  cases q:st.cells[i]? with
  |none=>exact .no
  |some c=>cases c with
   |inst c fs=>cases z.R.cells _ _ q with | mk o hw hw' ne hi ho f=>cases d.2;exact h c fs (.mk _ _ o hi ho f)
   |_=>exact .no
theorem qH{s:aG}(h:s.heap.get? l=some (bY vs ep)):s.TypeIs (.ref l) "list":=⟨_,h,rfl⟩
theorem RI{s:aG}(h:s.heap.get? l=some (mG vs ep)):s.TypeIs (.ref l) "tuple":=⟨_,h,rfl⟩
theorem aBB:1000000≤fO:=by unfold fO;decide
theorem vK(h:n < 64):n≤fO:=aP (DA h) (bT rfl)
theorem Be(h:n < 2):n≤fO:=vK (AK h (bT rfl))
theorem gH(h:n≤1000000):n≤fO:=aP h aBB
noncomputable def dM(n:Nat)(k:M α):M α:=gd (decide (n≤1000000)) k
theorem Go.fit(h:n≤1000000→Go z D w (k st)):Go z D w (Mine.dM n k st):=.gd fun q=>h (of_decide_eq_true q)
theorem Go.fitL{β β':Type}{P:β→β'→Prop}{xs:List β}{vs:List β'}(d:aS P xs vs)(h:(iU vs).size≤1000000→Go z D w (k st)):Go z D w (Mine.dM xs.length k st):=.fit fun q=>h (by rw [hZ,←d.len];exact q)
theorem Go.fitB{b:Array UInt8}(h:b.size≤1000000→Go z D w (k st)):Go z D w (Mine.dM (b.toList.map cH).length k st):=.fit fun q=>h (by rw [bQ,pY] at q;exact q)
end
end
section
set_option tactic.hygienic true
section
variable{M:jO}{A:aR}{Q:aB→aG→Prop}{E:aB→aG→Prop}{s:aG}{pos:Pos}
theorem fT{α:Type}{t:Sem α}{P P':α→aG→Prop}(h:aI M A t P E s)(k:∀ v s,P v s→P' v s):aI M A t P' E s:=nQ h k fun _ _ e=>e
theorem KZ{t:Sem aB}{P:List aB→aG→Prop}(h:aI M A t (fun v=>P [v]) E s):aI M A (pT [(false,t)]) P E s:=
 xW (fT h fun _ _ h=>SG h)
theorem Kc{id:String}{first:List aB}{t:Sem aB}(h:aI M A t (fun v=>aI M A (call (.builtin id) (first++[v])) Q E) E s):
  aI M A (oO pos (.builtin id) first [(false,t)] []) Q E s:=
 Gv rfl (SF (KZ h))
theorem NG{id:String}{first:List aB}{t u:Sem aB}(h:aI M A t (fun v=>aI M A u (fun w=>aI M A (call (.builtin id) (first++[v,w])) Q E) E) E s):
  aI M A (oO pos (.builtin id) first [(false,t),(false,u)] []) Q E s:=
 Gv rfl (SF (xW (fT h fun _ _ h=>KZ h)))
theorem aDu{id:String}{first:List aB}(h:aI M A (call (.builtin id) first) Q E s):aI M A (oO pos (.builtin id) first [] []) Q E s:=
 Gv rfl (PySem.evalArgs_none (by rw [gK];exact h))
theorem WU{T:String}{x:Sem aB}{r:List (Bool×Sem aB)}(hp:((false,x)::r).any (·.1)=false)(h:aI M A (pT ((false,x)::r)) (fun vs=>aI M A (call (.type T) vs) Q E) E s):
  aI M A (oO pos (.type T) [] ((false,x)::r) []) Q E s:=
 PySem.callWith_type hp (SF h)
theorem xV{env:Env}{id:Str}{p:Pos}{args:List Expr}{trees:List (Bool×Sem aB)}(ht:fZ pos (fL args env)=trees)
  (h:aI M A (eval (.Name id p) env) (fun f s₁=>aI M A (oO pos f [] trees []) Q E s₁) E s):aI M A (eval (.Call (.Name id p) args [] pos) env) Q E s:=by
 subst ht;exact wpAny_Call_Name_kw h
end
structure mJ(T:String)(name:Str)(id:String):Prop where
 pa:PlainAttrs T
 slot:Slot T name id
 ty:typeOf (.builtin id)=pure (.type "method_descriptor")
section
variable{K:KK}{A:aR}{st:St}{α β γ δ:Type}
theorem FU(a:PE K)(e:Expr)(pos:Pos):fZ pos (fL [a.r e] K.env)= [(false,eval (a.r e) K.env)]:=by rw [rX (a.hc e)];rfl
theorem Ew(a b:PE K)(e e':Expr)(pos:Pos):fZ pos (fL [a.r e,b.r e'] K.env)= [(false,eval (a.r e) K.env),(false,eval (b.r e') K.env)]:=by rw [rX (a.hc e),rX (b.hc e')];rfl
noncomputable def sM(K:KK)(T:String)(g:SV→M Unit):Prop:=∀ {A:aR} {st:St} (z:Z K A st) {a:SV} {x:aB},z.d dV a x→Go z dU (fun Q s=>s.TypeIs x T∧(∀ l,x= .ref l→∃ ob,s.heap.get? l=some ob∧ob.dict=none)∧Q () s) (g a st)
theorem ZN{T id:String}{name:Str}{g:SV→M Unit}{f:SV→M SV}{pos:Pos}{trees:List (Bool×Sem aB)}{z:Z K A st}{a:SV}{x:aB}(F:mJ T name id)(hg:sM K T g)(d:z.d dV a x)
  (hf:∀ {st₁:St} (z₁:Z K A st₁),z₁.d dV a x→Go z₁ dV (K.wp A (oO pos (.builtin id) [x] trees [])) (f a st₁)):
  Go z dV (fun Q s=>MethodOn K.C.prog K.C.w A name pos x trees Q nE s) (bd (g a) (fun _=>f a) st):=
 (hg z d).ru (u:=fun _=>K.wp A (oO pos (.builtin id) [x] trees [])) (fun Q q=>⟨T,id,F.pa,F.slot,F.ty,q.1,q.2.1,q.2.2⟩) fun z₁ l _=>hf z₁ (l.v d)
noncomputable def nI(e:Expr):Pos:={e.pos with line:=(xq e).endLine}
theorem EA(e:Expr):((xq e).endLine==(nI e).line)=true:=beq_self_eq_true _
noncomputable def wB{T id:String}{name:Str}{g:SV→M Unit}{f:SV→M SV}(F:mJ T name id)(hg:sM K T g)(hf:jW K (fun x=>call (.builtin id) [x]) f)(a:PE K)(h:bR a.c 2=false:=by rfl):PE K:=
 ⟨bd a.m fun x=>bd (g x) fun _=>f x,fun e=>.Call (.Attribute (a.r (x1 (x1 e))) name (xq e)) [] [] (nI e),4,fun _=>rfl,
  fun e _ _ z=>(a.ok _ z).ru (fun Q q=>wpAny_Call_method_late (a.ab h _ _ _) rfl (EA e) rfl q) fun z₁ l₁ dx=>ZN F hg dx fun z₂ dx=>(hf z₂ dx).imp fun Q q=>aDu q⟩
noncomputable def dT{T id:String}{name:Str}{g:SV→M Unit}{f:SV→SV→M SV}(F:mJ T name id)(hg:sM K T g)(hf:gA K (fun x y=>call (.builtin id) [x,y]) f)(a b:PE K)(h:bR a.c 2=false:=by rfl):PE K:=
 ⟨bd a.m fun x=>bd (g x) fun _=>bd b.m fun y=>f x y,fun e=>.Call (.Attribute (a.r (x1 (x1 e))) name (xq e)) [b.r (dR (xs e))] [] (nI e),4,fun _=>rfl,
  fun e _ _ z=>(a.ok _ z).ru (fun Q q=>wpAny_Call_method1_late (a.ab h _ _ _) (EA e) (FU b _ _) q) fun z₁ l₁ dx=>ZN (f:=fun x=>bd b.m fun y=>f x y) F hg dx fun z₂ dx=>(b.ok _ z₂).ru (fun Q q=>Kc q) fun z₃ l₃ dy=>hf z₃ (l₃.v dx) dy⟩
noncomputable def hd2(es:List Expr):Expr:=dR es.tail
noncomputable def ZR(es:List Expr):Expr:=dR es.tail.tail
noncomputable def HB{T id:String}{name:Str}{g:SV→M Unit}{f:SV→SV→SV→M SV}(F:mJ T name id)(hg:sM K T g)(hf:yH K (fun x y u=>call (.builtin id) [x,y,u]) f)(a b c:PE K)(h:bR a.c 2=false:=by rfl):PE K:=
 ⟨bd a.m fun x=>bd (g x) fun _=>bd b.m fun y=>bd c.m fun u=>f x y u,fun e=>.Call (.Attribute (a.r (x1 (x1 e))) name (xq e)) [b.r (dR (xs e)),c.r (hd2 (xs e))] [] (nI e),4,fun _=>rfl,
  fun e _ _ z=>(a.ok _ z).ru (fun Q q=>wpAny_Call_method2_late (a.ab h _ _ _) (EA e) (Ew b c _ _ _) q) fun z₁ l₁ dx=>ZN (f:=fun x=>bd b.m fun y=>bd c.m fun u=>f x y u) F hg dx fun z₂ dx=>(b.ok _ z₂).ru (fun Q q=>NG q) fun z₃ l₃ dy=>(c.ok _ z₃).bd fun z₄ l₄ du=>hf z₄ ((l₃.t l₄).v dx) (l₄.v dy) du⟩
noncomputable def iJ{id:String}{f:SV→M SV}(i:Nat)(g:Gl K.C (nm K.sl i) (.builtin id))(hf:jW K (fun v=>call (.builtin id) [v]) f)(a:PE K)(h:eH K.sl i .globalImplicit=true:=by rfl):PE K:=
 ⟨bd a.m f,fun e=>.Call (.Name (nm K.sl i) (xq e)) [a.r (dR (xs e))] [] e.pos,2,fun _=>rfl,fun e _ _ z=>(a.ok _ z).ru (fun Q q=>xV (FU a _ _) (nV h g (Kc q))) fun z₁ l₁ dx=>hf z₁ dx⟩
noncomputable def kL{T:String}{f:SV→M SV}(i:Nat)(g:Gl K.C (nm K.sl i) (.type T))(hf:jW K (fun v=>call (.type T) [v]) f)(a:PE K)(h:eH K.sl i .globalImplicit=true:=by rfl):PE K:=
 ⟨bd a.m f,fun e=>.Call (.Name (nm K.sl i) (xq e)) [a.r (dR (xs e))] [] e.pos,2,fun _=>rfl,fun e _ _ z=>(a.ok _ z).ru (fun Q q=>xV (FU a _ _) (nV h g (WU rfl (KZ q)))) fun z₁ l₁ dx=>hf z₁ dx⟩
noncomputable def WQ{id:String}{f:SV→SV→M SV}(i:Nat)(g:Gl K.C (nm K.sl i) (.builtin id))(hf:gA K (fun v w=>call (.builtin id) [v,w]) f)(a b:PE K)(h:eH K.sl i .globalImplicit=true:=by rfl):PE K:=
 ⟨bd a.m fun x=>bd b.m fun y=>f x y,fun e=>.Call (.Name (nm K.sl i) (xq e)) [a.r (dR (xs e)),b.r (hd2 (xs e))] [] e.pos,2,fun _=>rfl,fun e _ _ z=>(a.ok _ z).ru (fun Q q=>xV (Ew a b _ _ _) (nV h g (NG q))) fun z₁ l₁ dx=>(b.ok _ z₁).bd fun z₂ l₂ dy=>hf z₂ (l₂.v dx) dy⟩
noncomputable def WR{T:String}{f:SV→SV→M SV}(i:Nat)(g:Gl K.C (nm K.sl i) (.type T))(hf:gA K (fun v w=>call (.type T) [v,w]) f)(a b:PE K)(h:eH K.sl i .globalImplicit=true:=by rfl):PE K:=
 ⟨bd a.m fun x=>bd b.m fun y=>f x y,fun e=>.Call (.Name (nm K.sl i) (xq e)) [a.r (dR (xs e)),b.r (hd2 (xs e))] [] e.pos,2,fun _=>rfl,fun e _ _ z=>(a.ok _ z).ru (fun Q q=>xV (Ew a b _ _ _) (nV h g (WU rfl (xW (fT q fun _ _ h=>KZ h))))) fun z₁ l₁ dx=>(b.ok _ z₁).bd fun z₂ l₂ dy=>hf z₂ (l₂.v dx) dy⟩
structure kH(K:KK) where
 m:M (List SV)
 r:List Expr→List Expr
 k:Nat
 hk:∀ es,(r es).length=k
 st:∀ es,fL (r es) K.env=(r es).map fun e=>(false,eval e K.env)
 ok:∀(es:List Expr) (pos:Pos) {A:aR} {st:St} (z:Z K A st),Go z dL (K.wp A (pT (fZ pos (fL (r es) K.env)))) (m st)
noncomputable def HV(m:M SV)(ms:M (List SV)):M (List SV):=bd m fun a=>bd ms fun as=>rt (a::as)
noncomputable def aH:kH K:=⟨rt [],fun _=>[],0,fun _=>rfl,fun _=>rfl,fun _ _ _ _ z=>.rt (x:=[]) rfl fun Q q=>SG q⟩
noncomputable def aD(a:PE K)(as:kH K):kH K:=⟨HV a.m as.m,fun es=>a.r (dR es)::as.r es.tail,as.k+1,fun es=>congrArg lK (as.hk _),fun es=>(rX (a.hc _) _).trans (congrArg _ (as.st _)),
 fun es pos _ _ z=>by
  rw [rX (a.hc _)]
  exact(a.ok _ z).ru (fun Q q=>xW q) fun z₁ l₁ dx=>(as.ok _ pos z₁).ru (fun Q q=>q) fun z₂ l₂ ds=>.rt (.mk (l₂.v dx) ds) fun Q q=>q⟩
theorem kH.plain(as:kH K)(es:List Expr)(pos:Pos)(p:Bool×Sem aB)(h:p∈fZ pos (fL (as.r es) K.env)):p.1=false:=by
 rw [as.st] at h
 obtain⟨q,hq,rfl⟩:=List.mem_map.mp h
 obtain⟨e,_,rfl⟩:=List.mem_map.mp hq
 rfl
theorem kH.first(as:kH K)(es:List Expr)(pos:Pos)(t:Bool×Sem aB)(r:List (Bool×Sem aB))(h:fZ pos (fL (as.r es) K.env)=t::r):t.1=false:=as.plain es pos t (h▸ .head _)
theorem kH.noStar(as:kH K)(es:List Expr)(pos:Pos):(fZ pos (fL (as.r es) K.env)).any (·.1)=false:=by
 rw [List.any_eq_false];exact fun p h=>by rw [as.plain es pos p h];exact mV
theorem kH.few(as:kH K)(h:bV as.k 30=true)(es:List Expr)(pos:Pos):JK ((as.r es).length+([]:List Keyword).length) (fZ pos (fL (as.r es) K.env)) (backToKw pos (PK [] K.env))=true:=by
 unfold JK
 have h1:(fZ pos (fL (as.r es) K.env)).all (fun x=> !x.1)=true:=List.all_eq_true.mpr fun p h=>by rw [as.plain es pos p h];rfl
 have h2:(backToKw pos (PK [] K.env)).isEmpty=true:=rfl
 rw [h1,h2,as.hk]
 exact decide_eq_true (Nat.blt_eq.mp h)
noncomputable def pN:List SV→Option (List PV)
 | []=>some []
 |.pv x::r=>match pN r with
  |some xs=>some (x::xs)
  |none=>none
 |.ref _::_=>none
theorem MT{C:Cx}{X:Xt}{n:Nat}(vs:List SV){ws:List aB}(d:fM C X n vs ws):∀ xs,pN vs=some xs→bO C X xs ws:=by
 induction vs generalizing ws with
 |nil=>intro xs e;cases e;exact d
 |cons v vs ih=>
  cases v with
  |ref=>intro xs e;cases e
  |pv p=>
   cases d with | mk w ws a as=>
   intro xs e;unfold pN at e;cases q:pN vs with
   |none=>rw [q] at e;cases e
   |some ys=>rw [q] at e;cases e;exact .mk a (ih as ys q)
noncomputable def QN(vs:List SV)(k:List PV→M α):M α:=fun st=>match pN vs with
 |some xs=>dM xs.length (k xs) st
 |none=>none
theorem Go.plains{z:Z K A st}{D:Dn α δ}{w:WP δ}{vs:List SV}{ws:List aB}{k:List PV→M α}(d:z.d dL vs ws)(h:∀ xs,bO K.C z.X xs ws→(iU ws).size≤1000000→Go z D w (k xs st)):Go z D w (QN vs k st):=by
 unfold Mine.QN;split
 ·rename_i xs q;have dl:=MT vs d xs q;exact .fitL dl (h xs dl)
 ·exact .no
noncomputable def cM(vs:List SV):M SV:=QN vs fun xs=>rt (.pv (.tup xs))
noncomputable def kE(vs:List SV):M SV:=QN vs fun xs st=>some (.ref st.cells.length,⟨st.loc,st.cells++[.list xs]⟩)
noncomputable def eO(as:kH K):PE K:=⟨bd as.m cM,fun e=>.Tuple (as.r (xs e)) (xk e) e.pos,3,fun _=>rfl,fun e _ _ z=>(as.ok _ _ z).ru (fun Q q=>wpAny_Tuple q) fun z₁ l₁ ds=>.plains ds fun xs dl hz=>.newT z₁.s.toks dl fun Q q=>⟨gH hz,q⟩⟩
noncomputable def mL(as:kH K):PE K:=⟨bd as.m kE,fun e=>.List (as.r (xs e)) e.pos,3,fun _=>rfl,fun e _ _ z=>(as.ok _ _ z).ru (fun Q q=>wpAny_List q) fun z₁ l₁ ds=>.plains ds fun xs dl hz=>.newL z₁.s.toks dl fun Q q=>⟨gH hz,q⟩⟩
end
end
noncomputable abbrev Fn:=List SV→List SO→Option (SV×List SO)
structure Wd(C:Cx)(cells:List SO) where
 X:Xt
 s:aG
 R:RelC C X cells s
noncomputable def GoC(y:Wd C cells)(w:WP aB)(o:Option (SV×List SO)):Prop:=
 ∀(a:SV) (cells':List SO),o=some (a,cells')→∀ Q,(∀(y':Wd C cells') (x:aB),y.X.le cells.length y'.X cells'.length→fG C y'.X cells'.length a x→Q x y'.s)→w Q y.s
noncomputable def uT(C:Cx)(n:Nat)(w:aR→List aB→WP aB)(f:Fn):Prop:=
 ∀ {A:aR} {cells:List SO} (y:Wd C cells) {args:List SV} {vals:List aB},lC A n→fM C y.X cells.length args vals→GoC y (w A vals) (f args cells)
theorem lC.mono(h:m≤n)(r:lC A n):lC A m:=⟨r.handled,aP (oB (GU 20 h) _) r.depth,aP (lJ (oB (GU 100 h) _) _) r.units⟩
theorem uT.mono(h:m≤k)(r:uT C m w f):uT C k w f:=fun y _ _ hA d=>r y (hA.mono h) d
noncomputable def Xt.maskR(f:Obj→bS)(X:Xt)(ex:bS→Bool)(h:Heap):Xt:=⟨fun a=>match X.W a with
 |some r=>match ex r with
  |true=>(h.get? a).map f
  |false=>some r
 |none=>none,X.ρ,X.δ⟩
noncomputable abbrev Xt.mask(X:Xt)(ex:bS→Bool)(h:Heap):Xt:=X.maskR .held ex h
noncomputable def dr(ex:bS→Bool):Option bS→Option bS
 |some r=>match ex r with
  |true=>none
  |false=>some r
 |none=>none
noncomputable def Xt.unmask(X:Xt)(ex:bS→Bool)(Y:Xt)(ρ δ:Nat→Addr):Xt:=⟨fun a=>match X.W a with
 |some q=>match ex q with
  |true=>some q
  |false=>dr ex (Y.W a)
 |none=>dr ex (Y.W a),ρ,δ⟩
section
variable{ex:bS→Bool}{X Y:Xt}{h h':Heap}{ρ δ:Nat→Addr}{a:Addr}{r:bS}
theorem FF(e:X.W a=some r)(q:ex r=false):(X.maskR f ex h).W a=some r:=by
 show(match X.W a with | some r=>_ | none=>_)=_
 rw [e];show(match ex r with | true=>_ | false=>_)=_
 exact(q).symm▸rfl
theorem Bi(e:X.W a=some r)(q:ex r=true)(g:h.get? a=some o):(X.maskR f ex h).W a=some (f o):=by
 show(match X.W a with | some r=>_ | none=>_)=_
 rw [e];show(match ex r with | true=>_ | false=>_)=_
 rw [q,g];rfl
theorem aIe(hv:∀ o,h.get? a=some o→gU h a (f o))(e:(X.maskR f ex h).W a=some r):(X.W a=some r∧ex r=false)∨gU h a r:=by
 have e:(match X.W a with | some r=>(match ex r with | true=>(h.get? a).map f | false=>some r) | none=>none)=some r:=e
 cases q:X.W a with
 |none=>rw [q] at e;cases e
 |some p=>
  replace e:=(q)▸e
  have e:(match ex p with | true=>(h.get? a).map f | false=>some p)=some r:=e
  cases q':ex p with
  |false=>rw [q'] at e;cases e;exact .inl ⟨rfl,q'⟩
  |true=>rw [q'] at e;obtain⟨o,ho,rfl⟩:=Option.map_eq_some_iff.mp e;exact .inr (hv o ho)
theorem aEH(q:ex r=false):dr ex (some r)=some r:=by show(match ex r with | true=>_ | false=>_)=_;exact(q).symm▸rfl
theorem Ma(e:dr ex p=some r):p=some r:=by
 cases p with
 |none=>cases e
 |some p=>
  have e:(match ex p with | true=>none | false=>some p)=some r:=e
  cases q:ex p with
  |true=>rw [q] at e;cases e
  |false=>rw [q] at e;exact e
theorem Yk(e:X.W a=some r)(q:ex r=true):(X.unmask ex Y ρ δ).W a=some r:=by
 show(match X.W a with | some q=>_ | none=>_)=_
 rw [e];show(match ex r with | true=>_ | false=>_)=_
 exact(q).symm▸rfl
theorem Fp(q:ex r=false)(e:Y.W a=some r)(n:∀ p,X.W a=some p→ex p=false):(X.unmask ex Y ρ δ).W a=some r:=by
 have k:dr ex (Y.W a)=some r:=by rw [e];exact aEH q
 show(match X.W a with | some q=>(match ex q with | true=>some q | false=>dr ex (Y.W a)) | none=>dr ex (Y.W a))=_
 cases z:X.W a with
 |none=>exact k
 |some p=>show(match ex p with | true=>some p | false=>dr ex (Y.W a))=_;exact(n p z).symm▸k
theorem aPE(e:(X.unmask ex Y ρ δ).W a=some r):(X.W a=some r∧ex r=true)∨Y.W a=some r:=by
 have e:(match X.W a with | some q=>(match ex q with | true=>some q | false=>dr ex (Y.W a)) | none=>dr ex (Y.W a))=some r:=e
 cases z:X.W a with
 |none=>rw [z] at e;exact .inr (Ma e)
 |some p=>
  replace e:=(z)▸e
  have e:(match ex p with | true=>some p | false=>dr ex (Y.W a))=some r:=e
  cases q:ex p with
  |true=>rw [q] at e;cases e;exact .inl ⟨rfl,q⟩
  |false=>rw [q] at e;exact .inr (Ma e)
theorem Tr.maskR(n:Nat)(hf:∀ o,ex (.fro o)=false)(hv:∀ a o,h.get? a=some o→gU h a (f o)):Tr ex X h n (X.maskR f ex h) h n:=
 ⟨⟨fun a o e=>FF e (hf o),fun _ _=>rfl,cX _⟩,fun a r e q=>⟨FF e q,rfl⟩,fun a r e=>aIe (hv a) e⟩
theorem Tr.mask(n:Nat)(hf:∀ o,ex (.fro o)=false):Tr ex X h n (X.mask ex h) h n:=.maskR n hf fun _ _ h=>h
variable{m n':Nat}(v:∀ a r,X.W a=some r→gU h a r)(v':∀ a r,Y.W a=some r→gU h' a r)(le:(X.mask ex h).le m Y n')
include v le in
theorem PZ(e:X.W a=some r)(q:ex r=true):∃ o,h.get? a=some o∧Y.W a=some (.held o):=by
 obtain⟨o,ho⟩:=(v a r e).ex
 exact⟨o,ho,le.held a o (Bi e q ho)⟩
include v le in
theorem RK(e:Y.W a=some r)(q:ex r=false)(nh:∀ o,r≠ .held o):(X.unmask ex Y ρ δ).W a=some r:=
 Fp q e fun p ep=>by
  cases z:ex p with
  |false=>rfl
  |true=>obtain⟨o,_,hY⟩:=PZ v le ep z;rw [e] at hY;exact absurd (iW hY) (nh o)
include v v' le in
theorem Fo(h1:∀ o,ex (.fro o)=false)(h2:∀ o,ex (.held o)=false)(h3:∀ o,ex (.iter o)=false)(h4:ex .frame=true∨r≠ .frame)(h5:ex .fcell=true∨r≠ .fcell)(hc:∀ k,r≠ .cell k)(e:X.W a=some r):(X.unmask ex Y ρ δ).W a=some r∧h'.get? a=h.get? a:=by
 have old:∀ {o},ex r=false→Y.W a=some r→gU h' a r=(h'.get? a=some o)→gU h a r=(h.get? a=some o)→(X.unmask ex Y ρ δ).W a=some r∧h'.get? a=h.get? a:=fun {o} q y z1 z2=>
  ⟨Fp q y fun p ep=>by rw [e] at ep;exact(iW ep)▸q,(z1▸v' a r y:h'.get? a=some o).trans (z2▸v a r e:h.get? a=some o).symm⟩
 have new:ex r=true→(X.unmask ex Y ρ δ).W a=some r∧h'.get? a=h.get? a:=fun q=>by
  obtain⟨o,ho,hY⟩:=PZ v le e q
  exact⟨Yk e q,(v' a _ hY:h'.get? a=some o).trans ho.symm⟩
 cases r with
 |fro o=>exact old (h1 o) (le.low.fro a o (FF e (h1 o))) rfl rfl
 |held o=>exact old (h2 o) (le.held a o (FF e (h2 o))) rfl rfl
 |iter o=>exact old (h3 o) (le.iter a o (FF e (h3 o))) rfl rfl
 |cell k=>exact absurd rfl (hc k)
 |frame=>exact new (h4.elim id fun q=>absurd rfl q)
 |fcell=>exact new (h5.elim id fun q=>absurd rfl q)
include v v' le in
theorem Fq(e:(X.unmask ex Y ρ δ).W a=some r):gU h' a r:=
 (aPE e).elim (fun q=>let⟨o,ho,hY⟩:=PZ v le q.1 q.2;(v a r q.1).same ((v' a _ hY:h'.get? a=some o).trans ho.symm)) fun q=>v' a r q
end
noncomputable def NT:bS→Bool
 |.frame=>true
 |.fcell=>true
 |_=>false
noncomputable def Ml:bS→Bool
 |.cell _=>true
 |_=>false
noncomputable def lS(f:Fn)(args:List SV):M SV:=fun st=>match f args st.cells with
 |some (v,cells')=>some (v,⟨st.loc,cells'⟩)
 |none=>none
section
variable{K:KK}{A:aR}{st:St}{z:Z K A st}{n:Nat}
noncomputable def Z.hold(z:Z K A st):Wd K.C st.cells:=⟨z.X.mask NT z.s.heap,z.s,(Tr.mask _ fun _=>rfl).relC z.R.toRelC z.R.still (fun _=>rfl) fun _ _ e=>.inl ⟨e,rfl,rfl⟩⟩
theorem Z.holdLow(z:Z K A st):z.X.low st.cells.length z.hold.X st.cells.length:=(Tr.mask _ fun _=>rfl).low
theorem Nz(k:Nat)(e:bS.fro o= .cell k):False:=nomatch e
theorem Oa(p:Obj)(e:bS.fro o= .held p):False:=nomatch e
theorem Kk(p:Obj)(e:bS.cell k= .held p):False:=nomatch e
theorem aIV(q:Ml r=false)(k:Nat)(c:r= .cell k):False:=by subst c;cases q
noncomputable def Z.backX(z:Z K A st)(y:Wd K.C cells'):Xt:=z.X.unmask NT y.X y.X.ρ y.X.δ
theorem Z.backTr(z:Z K A st)(y:Wd K.C cells')(le:z.hold.X.le st.cells.length y.X cells'.length):Tr Ml z.X z.s.heap st.cells.length (z.backX y) y.s.heap cells'.length where
 low:=⟨fun a o e=>(Fo z.R.val y.R.val le (fun _=>rfl) (fun _=>rfl) (fun _=>rfl) (.inl rfl) (.inl rfl) Nz e).1,le.low.ρ,le.low.n⟩
 keep a r e q:=Fo z.R.val y.R.val le (fun _=>rfl) (fun _=>rfl) (fun _=>rfl) (.inl rfl) (.inl rfl) (aIV q) e
 new a r e:=.inr (Fq z.R.val y.R.val le e)
theorem Z.backLow(z:Z K A st)(y:Wd K.C cells')(le:z.hold.X.le st.cells.length y.X cells'.length):y.X.low cells'.length (z.backX y) cells'.length:=
 ⟨fun a o e=>RK z.R.val le e rfl Oa,fun _ _=>rfl,cX _⟩
noncomputable def Z.back(z:Z K A st)(y:Wd K.C cells')(le:z.hold.X.le st.cells.length y.X cells'.length):Z K A ⟨st.loc,cells'⟩:=
 ⟨z.backX y,y.s,z.hA,⟨y.R.still,fun b o e=>((z.backTr y le).keep b _ (z.R.base b o e) rfl).1,fun a r e=>Fq z.R.val y.R.val le e,fun k c e=>(y.R.cells k c e).tr (z.backLow y le) rfl rfl (fun a q=>⟨RK z.R.val le q rfl Kk,rfl⟩) c⟩,z.R.fr.tr (z.backTr y le) rfl rfl fun _=>rfl⟩
theorem IT(rf:uT K.C n w f)(hA:lC A' n)(d:z.d dL args vals):Go z dV (w A' vals) (lS f args st):=by
 intro a st' e Q q
 unfold lS at e
 cases c:f args st.cells with
 |none=>rw [c] at e;cases e
 |some p=>
  rw [c] at e;cases e
  exact rf z.hold hA (fM.mono z.holdLow d) _ _ c Q fun y' x le d=>q (z.back y' le) x ((z.backTr y' le).le (fun _=>rfl) fun _=>rfl) (fG.mono (z.backLow y' le) _ _ d)
end
noncomputable def uH(n:Nat):SV→Bool
 |.pv _=>true
 |.ref k=>bV k n
noncomputable def vP(n:Nat):List SV→Bool
 | []=>true
 |x::xs=>match uH n x with
  |true=>vP n xs
  |false=>false
noncomputable def KY(n:Nat):SO→Bool
 |.inst _ fs=>vP n fs
 |.sdict _ _ vs=>vP n vs
 |_=>true
noncomputable def qZ(n:Nat):List SO→Bool
 | []=>true
 |c::cs=>match KY n c with
  |true=>qZ n cs
  |false=>false
section
variable{C:Cx}{X:Xt}{m m':Nat}
theorem fG.shrink(h:uH m' x=true)(d:fG C X m x v):fG C X m' x v:=by
 cases x with
 |pv=>exact d
 |ref k=>exact⟨Nat.blt_eq.mp h,d.2⟩
theorem fM.shrink(xs:List SV):∀ {vs:List aB},vP m' xs=true→fM C X m xs vs→fM C X m' xs vs:=by
 induction xs with
 |nil=>exact fun _ d=>d
 |cons x xs ih=>
  intro vs h d
  cases d with | mk v ws a as=>
  have h:(match uH m' x with | true=>vP m' xs | false=>false)=true:=h
  cases q:uH m' x with
  |true=>rw [q] at h;exact .mk (a.shrink q) (ih h as)
  |false=>rw [q] at h;cases h
theorem jE.shrink(c:SO)(g:KY m' c=true)(x:jE C X m k h c):jE C X m' k h c:=by
 cases c with
 |inst c fs=>cases x with | mk o hw hw' ne hi ho f=>exact .mk o hw hw' ne hi ho (f.imp (fun _=>fM.shrink fs g) o)
 |sdict kd ks vs=>cases x with | mk o hw ho d=>exact .mk o hw ho (d.imp (fun _ h=>h) (fun _=>fM.shrink vs g) o)
 |_=>exact x
theorem aDF:∀ {cs:List SO},qZ m cs=true→∀ {k:Nat} {c:SO},cs[k]? =some c→KY m c=true:=by
 intro cs
 induction cs with
 |nil=>intro _ k c e;cases e
 |cons x xs ih=>
  intro h k c e
  have h:(match KY m x with | true=>qZ m xs | false=>false)=true:=h
  cases q:KY m x with
  |false=>rw [q] at h;cases h
  |true=>
   rw [q] at h
   cases k with
   |zero=>cases e;exact q
   |succ k=>exact ih h e
theorem RD{α:Type}{l:List α}(h:m≤l.length):(l.take m).length=m:=by rw [CU];exact MD h
theorem Xr{α:Type}{l:List α}{c:α}(e:(l.take m)[k]? =some c):k < m∧l[k]? =some c:=by
 rw [TG] at e;split at e
 ·rename_i h;exact⟨h,e⟩
 ·cases e
theorem RelC.take{cells:List SO}{s:aG}(R:RelC C X cells s)(hm:m≤cells.length)(hc:qZ m (cells.take m)=true):RelC C X (cells.take m) s:=
 ⟨R.still,R.base,R.val,fun k c e=>by rw [RD hm];exact(R.cells k c (Xr e).2).shrink c (aDF hc e)⟩
end
noncomputable def CN(v:SV)(n:Nat)(cells:List SO):List SO:=match uH n v,qZ n (cells.take n) with
 |true,true=>cells.take n
 |_,_=>cells
theorem aPq(v:SV)(n:Nat)(cells:List SO):(uH n v=true∧qZ n (cells.take n)=true∧CN v n cells=cells.take n)∨CN v n cells=cells:=by
 unfold CN;split
 ·rename_i a b;exact .inl ⟨a,b,rfl⟩
 ·exact .inr rfl
noncomputable def oX(f:Fn):Fn:=fun args cells=>match f args cells with
 |some (v,cells')=>some (v,CN v cells.length cells')
 |none=>none
theorem tQ(rf:uT C n w f):uT C n w (oX f):=by
 intro A cells y args vals hA d a cells' e Q q
 unfold oX at e
 cases c:f args cells with
 |none=>rw [c] at e;cases e
 |some p=>
  rw [c] at e;cases e
  refine rf y hA d _ _ c Q fun y' x le dx=> ?_
  rcases aPq p.1 cells.length p.2 with⟨h1,h2,t⟩ | t
  ·have hn:=RD le.low.n
   replace q:=(t)▸q
   exact q ⟨y'.X,y'.s,y'.R.take le.low.n h2⟩ x (by rw [hn];exact⟨⟨le.low.fro,le.low.ρ,cX _⟩,le.held,le.iter⟩) (by rw [hn];exact dx.shrink h1)
  ·rw [t] at q;exact q y' x le dx
noncomputable def zA(m:Nat):bS→Bool
 |.cell k=> !(bV k m)
 |_=>false
theorem Mn(h:k < m):zA m (.cell k)=false:=by show(!(bV k m))=false;rw [Nat.blt_eq.mpr h];rfl
theorem Mm(h:m≤k):zA m (.cell k)=true:=by
 show(!(bV k m))=true
 cases q:bV k m with
 |false=>rfl
 |true=>exact absurd (Nat.blt_eq.mp q) (Nat.not_lt.mpr h)
noncomputable def cI(m:Nat)(f:Fn):Fn:=fun args cells=>match qA m cells.length,vP m args,qZ m (cells.take m) with
 |true,true,true=>match f args (cells.take m) with
  |some (v,cells')=>match uH m v,qZ m (cells'.take m) with
   |true,true=>some (v,cells'.take m++cells.drop m)
   |_,_=>none
  |none=>none
 |_,_,_=>none
section
variable{C:Cx}{n m:Nat}
theorem aJy(e:cI m f args cells=some (v,cells')){P:Prop}
  (k:∀ cs,m≤cells.length→vP m args=true→qZ m (cells.take m)=true→f args (cells.take m)=some (v,cs)→uH m v=true→qZ m (cs.take m)=true→cells'=cs.take m++cells.drop m→P):P:=by
 unfold cI at e;split at e
 ·rename_i h1 h2 h3;split at e
  ·rename_i q;split at e
   ·rename_i h4 h5;cases e;exact k _ (bT h1) h2 h3 q h4 h5 rfl
   ·cases e
  ·cases e
 ·cases e
noncomputable def Wd.preX(y:Wd C cells)(y':Wd C cs)(m:Nat):Xt:=y.X.unmask (zA m) y'.X y.X.ρ fun k=>cond (bV k m) (y'.X.δ k) (y.X.δ k)
variable{cells cs:List SO}(y:Wd C cells)(y':Wd C cs)(hm:m≤cells.length)(hc:qZ m (cs.take m)=true)(le:(y.X.mask (zA m) y.s.heap).le m y'.X cs.length)
include le in
theorem Dg(hr:∀ k,r≠ .cell k)(h4:r≠ .frame)(h5:r≠ .fcell)(e:y.X.W a=some r):(y.preX y' m).W a=some r:=
 (Fo y.R.val y'.R.val le (fun _=>rfl) (fun _=>rfl) (fun _=>rfl) (.inr h4) (.inr h5) hr e).1
include le in
theorem Dh(hN:cells.length≤N):y.X.le cells.length (y.preX y' m) N:=
 ⟨⟨fun a o=>Dg y y' le Nz (fun e=>nomatch e) (fun e=>nomatch e),fun _ _=>rfl,hN⟩,fun a o=>Dg y y' le (fun _ e=>nomatch e) (fun e=>nomatch e) (fun e=>nomatch e),fun a o=>Dg y y' le (fun _ e=>nomatch e) (fun e=>nomatch e) (fun e=>nomatch e)⟩
include le in
theorem Uj(hN:m≤N):y'.X.low m (y.preX y' m) N:=
 ⟨fun a o e=>RK y.R.val le e rfl Oa,fun k hk=>(le.low.ρ k hk).symm,hN⟩
include hm hc le in
theorem aJz:(cs.take m++cells.drop m).length=cells.length∧RelC C (y.preX y' m) (cs.take m++cells.drop m) y'.s:=by
 have h1:=RD le.low.n
 have hl:(cs.take m++cells.drop m).length=cells.length:=by rw [fE,h1,TH];exact Nat.add_sub_of_le hm
 refine⟨hl,y'.R.still,fun b o e=>(Dh y y' le (cX _)).low.fro b o (y.R.base b o e),fun a r e=>Fq y.R.val y'.R.val le e,fun k c e=> ?_⟩
 refine(hl).symm▸?_
 rcases GS k m with hk | hk
 ·rw [LS (h1.symm▸hk)] at e
  have L:y'.X.low (cs.take m).length (y.preX y' m) cells.length:=by rw [h1];exact Uj y y' le hm
  refine((y'.R.take le.low.n hc).cells k c e).tr L (le.low.ρ k hk).symm ?_ (fun a q=>⟨RK y.R.val le q (Mn hk) Kk,rfl⟩) c
  show cond (bV k m) _ _=_
  rw [Nat.blt_eq.mpr hk];rfl
 ·rw [CT (h1.symm▸hk),h1,LU,Nat.add_sub_cancel' hk] at e
  refine(y.R.cells k c e).tr (Dh y y' le (cX _)).low rfl ?_ (fun a q=> ?_) c
  ·show cond (bV k m) _ _=_
   cases z:bV k m with
   |false=>rfl
   |true=>exact absurd (Nat.blt_eq.mp z) (Nat.not_lt.mpr hk)
  ·obtain⟨o,ho,hY⟩:=PZ y.R.val le q (Mm hk)
   exact⟨Yk q (Mm hk),(y'.R.val a _ hY).trans ho.symm⟩
end
theorem cS(m:Nat)(rf:uT C n w f):uT C n w (cI m f):=by
 intro A cells y args vals hA d a cells' e Q q
 refine aJy e fun cs hm h2 h3 qf h4 h5 ec=> ?_
 subst ec
 have ht:=RD hm
 have T:Tr (zA m) y.X y.s.heap (cells.take m).length (y.X.mask (zA m) y.s.heap) y.s.heap (cells.take m).length:=Tr.mask _ fun _=>rfl
 have R₁:=y.R.take hm h3
 refine rf ⟨_,y.s,T.relC R₁ R₁.still (fun _=>rfl) fun k c e=>.inl ⟨e,Mn (Xr e).1,rfl⟩⟩ hA (fM.mono T.low (ht.symm▸d.shrink args h2)) a cs qf Q fun y' x le dx=> ?_
 have le:(y.X.mask (zA m) y.s.heap).le m y'.X cs.length:=by
  have l:(y.X.mask (zA m) y.s.heap).le (cells.take m).length y'.X cs.length:=le
  rw [ht] at l;exact l
 have R':=aJz y y' hm h5 le
 have hN:=dQ R'.1.symm
 exact q ⟨_,y'.s,R'.2⟩ x (Dh y y' le hN) (fG.mono (Uj y y' le (aP hm hN)) _ _ (dx.shrink h4))
theorem Kl:∀(l:aL) (k:Nat) (acc:List (Str×Addr)) (x:Str),((x,NameKind.cell)∈l∨(acc.lookup x).isSome=true)→((cellsFrom k l acc).lookup x).isSome=true:=by
 intro l
 induction l with
 |nil=>intro k acc x h;exact h.elim (fun h=>nomatch h) id
 |cons p r ih=>
  intro k acc x h
  obtain⟨y,kd⟩:=p
  unfold cellsFrom
  split
  ·refine ih _ _ x ?_
   by_cases e:x=y
   ·right;subst e;simp [List.lookup]
   ·rcases h with h | h
    ·cases h with
     |head=>exact absurd rfl e
     |tail _ h=>exact .inl h
    ·right
     have:(x==y)=false:=beq_eq_false_iff_ne.mpr e
     simp only [List.lookup,this];exact h
  ·rename_i hk
   refine ih _ _ x (h.imp (fun h=> ?_) id)
   cases h with
   |head=>exact absurd rfl hk
   |tail _ h=>exact h
theorem Jj:∀ {binds:List (Str×aB)} {m:Str→Option aB},x∉binds.map (·.1)→bindL kd binds m x=m x∧bindC kd binds m x=m x:=by
 intro binds
 induction binds with
 |nil=>exact fun _=>⟨rfl,rfl⟩
 |cons p r ih=>
  intro m h
  obtain⟨y,v⟩:=p
  rw [iS,AI,not_or] at h
  unfold bindL bindC
  rw [(ih h.2).1,(ih h.2).2]
  split
  ·exact⟨if_neg h.1,rfl⟩
  ·exact⟨rfl,if_neg h.1⟩
theorem Ji:∀ {binds:List (Str×aB)} {m:Str→Option aB},(binds.map (·.1)).Nodup→(x,v)∈binds→(kd x=some .local→bindL kd binds m x=some v)∧(kd x≠some .local→bindC kd binds m x=some v):=by
 intro binds
 induction binds with
 |nil=>intro m _ h;cases h
 |cons p r ih=>
  intro m hn h
  obtain⟨y,w⟩:=p
  rw [iS,LZ] at hn
  unfold bindL bindC
  cases h with
  |head=>exact⟨fun hk=>by rw [(Jj hn.1).1,if_pos hk];exact if_pos rfl,fun hk=>by rw [(Jj hn.1).2,if_neg hk];exact if_pos rfl⟩
  |tail _ h=>exact⟨fun hk=>(ih hn.2 h).1 hk,fun hk=>(ih hn.2 h).2 hk⟩
theorem aBa:∀ {cs:List (Str×Addr)} {x y:Str} {c:Addr},cs.Pairwise (fun x y=>x.2≠y.2)→(x,c)∈cs→(y,c)∈cs→x=y:=by
 intro cs
 induction cs with
 |nil=>intro x y c _ h;cases h
 |cons p r ih=>
  intro x y c h hx hy
  rw [List.pairwise_cons] at h
  cases hx with
  |head=>cases hy with
   |head=>rfl
   |tail _ hy=>exact absurd rfl (h.1 (y,c) hy)
  |tail _ hx=>cases hy with
   |head=>exact absurd rfl (h.1 (x,c) hx)
   |tail _ hy=>exact ih h.2 hx hy
noncomputable def Xt.enter(X:Xt)(L:Addr)(sl:aL)(cs:List (Str×Addr)):Xt:=⟨fun a=>if a=L then some .frame else cond (sl.any fun p=>p.2== .cell && cs.lookup p.1==some a) (some .fcell) (X.W a),X.ρ,X.δ⟩
structure CS(C:Cx)(fa:Addr)(fd:qQ)(body:List Stmt):Prop where
 obj:∃ o,C.base.get? fa=some o∧o.data= .func fd
 cr:C.base.CodeRec fd.code fd.qualname
 body:fd.body= .stmts body
 clo:fd.closure= []
 glob:fd.globals=jU
 blt:fd.builtins=wL
 co:fd.scope.isCoroutine=false
 gen:fd.scope.isGenerator=false
 sc:xM fd.scope=true
noncomputable def AB(C:Cx)(fd:qQ)(names:List Str)(g:List SV→Option (List SV)):Prop:=
 ∀ {cells:List SO} (y:Wd C cells) {args args':List SV} {vals:List aB},g args=some args'→fM C y.X cells.length args vals→
  ∃ vals',BindsTo y.s fd ⟨vals,[]⟩ (names.zip vals')∧fM C y.X cells.length args' vals'∧names.length=args'.length
noncomputable def tH(sz:Nat)(args:List SV):List (Option SV):=args.map some++mW (sz - args.length) none
noncomputable def bG(sz:Nat)(g:List SV→Option (List SV))(body:M Fl):Fn:=fun args cells=>match g args with
 |some args'=>match body ⟨tH sz args',cells⟩ with
  |some (.ret v,st')=>some (v,st'.cells)
  |some (.next,st')=>some (.pv .none,st'.cells)
  |_=>none
 |none=>none
noncomputable def Cy(sl:aL)(k:Nat):Bool:=(sl.take k).all fun p=>p.2== .local || p.2== .cell
theorem aOP{sz i:Nat}(h:(tH sz args)[i]? =some (some sv)):args[i]? =some sv:=by
 unfold tH at h
 rcases GS i args.length with q | q
 ·rw [LS (by rw [bQ];exact q),iR] at h
  cases e:args[i]? with
  |none=>rw [e] at h;cases h
  |some y=>rw [e] at h;cases h;rfl
 ·rw [CT (by rw [bQ];exact q),List.getElem?_replicate] at h
  split at h <;> cases h
structure AN(sl:aL)(names:List Str):Prop where
 nm:(sl.take names.length).map (·.1)=names
 kinds:Cy sl names.length=true
theorem AN.kind(P:AN sl names)(h:x∈names):∃(i:Nat) (k:pI),sl[i]? =some (x,k)∧(k=NameKind.local∨k=NameKind.cell):=by
 replace h:=(P.nm).symm▸h
 obtain⟨p,hp,rfl⟩:=List.mem_map.mp h
 have hk:=List.all_eq_true.mp P.kinds p hp
 obtain⟨j,hj⟩:=List.mem_iff_getElem?.mp (TJ hp)
 exact⟨j,p.2,hj,by simpa using hk⟩
section
variable{C:Cx}{n:Nat}{fa:Addr}{fd:qQ}{body:List Stmt}{sl:aL}{names:List Str}{cells:List SO}{s₁:aG}{args:List SV}{vals:List aB}
theorem aEO(P:CS C fa fd body)(hsl:fd.scope.names=sl)(hp:AN sl names)(y:Wd C cells)(d:fM C y.X cells.length args vals)(hlen:names.length=args.length)
  {env:Env} (he:env=callEnvC fd y.s.heap.objs.size fa) (I:InCallC y.s env.locals (bindL env.kindOf (names.zip vals) fun _=>none) env.cells (bindC env.kindOf (names.zip vals) fun _=>none) s₁):
  Tr (fun _=>false) y.X y.s.heap cells.length (y.X.enter y.s.heap.objs.size sl env.cells) s₁.heap cells.length∧uU C (y.X.enter y.s.heap.objs.size sl env.cells) sl env ⟨tH sl.length args,cells⟩ s₁:=by
 obtain⟨h',tk,hs₁,hk⟩:=I.done
 have eL:env.locals=y.s.heap.objs.size:=by rw [he];rfl
 have eN:env.scope.names=sl:=by rw [he];exact hsl
 have eC:env.cells=cellsFrom (y.s.heap.objs.size+1) sl []:=by rw [he,←hsl];rfl
 have F:tN sl env:=⟨by rw [he];exact P.sc,eN,by rw [he];exact P.glob,by rw [he];exact P.blt,fun _ a b c h1 h2=>aBa I.apart (mem_of_lookup h1) (mem_of_lookup h2)⟩
 have abv:∀ {x c},env.cells.lookup x=some c→y.s.heap.objs.size < c:=fun h=>by rw [←eL];exact I.above _ _ (mem_of_lookup h)
 have any:∀ {a},(sl.any fun p=>p.2== .cell && env.cells.lookup p.1==some a)=true→∃ x,env.cells.lookup x=some a:=fun h=>by
  obtain⟨p,_,hp⟩:=List.any_eq_true.mp h
  simp only [hJ,beq_iff_eq] at hp
  exact⟨_,hp.2⟩
 have T:Tr (fun _=>false) y.X y.s.heap cells.length (y.X.enter y.s.heap.objs.size sl env.cells) s₁.heap cells.length:=by
  have old:∀ a r,y.X.W a=some r→(y.X.enter y.s.heap.objs.size sl env.cells).W a=some r:=fun a r e=>by
   obtain⟨o,ho⟩:=(y.R.val a r e).ex
   have hlt:=mI ho
   show(if a=_ then _ else cond _ _ _)=_
   rw [if_neg (qR hlt)]
   cases q:sl.any fun p=>p.2== .cell && env.cells.lookup p.1==some a with
   |false=>exact e
   |true=>obtain⟨x,hx⟩:=any q;exact absurd (DB hlt (abv hx)) (GR _)
  refine⟨⟨fun a o e=>old a _ e,fun _ _=>rfl,cX _⟩,fun a r e _=>⟨old a r e,?_⟩,fun a r e=> ?_⟩
  ·obtain⟨o,ho⟩:=(y.R.val a r e).ex
   rw [hs₁,ho];exact hk _ _ ho
  ·have e:(if a=y.s.heap.objs.size then some bS.frame else cond (sl.any fun p=>p.2== .cell && env.cells.lookup p.1==some a) (some .fcell) (y.X.W a))=some r:=e
   by_cases q:a=y.s.heap.objs.size
   ·rw [if_pos q] at e;cases e;obtain⟨o,_,_,ho,_⟩:=I.toInCall.ns;exact(q).symm▸(eL)▸ .inr ⟨o,ho⟩
   ·replace e:=(if_neg q)▸e
    cases z:sl.any fun p=>p.2== .cell && env.cells.lookup p.1==some a with
    |false=>rw [z] at e;exact .inl ⟨e,rfl⟩
    |true=>rw [z] at e;cases e;obtain⟨x,hx⟩:=any z;obtain⟨o,ho,_⟩:=I.cell _ _ hx;exact .inr ⟨o,ho⟩
 have hS:wI C s₁:=by rw [hs₁];exact y.R.still.to _ _
 have par:∀ {i x k sv},sl[i]? =some (x,k)→(tH sl.length args)[i]? =some (some sv)→∃ v,(x,v)∈names.zip vals∧fG C (y.X.enter y.s.heap.objs.size sl env.cells) cells.length sv v:=fun {i x k sv} hi ha=>by
  have ha:=aOP ha
  obtain⟨v,hv,dv⟩:=d.get ha
  have hi':i < names.length:=hlen▸(List.getElem?_eq_some_iff.mp ha).1
  have hn:names[i]? =some x:=by rw [←hp.nm,iR,TG,if_pos hi',hi];rfl
  exact⟨v,nZ (List.getElem?_zip_eq_some.mpr ⟨hn,hv⟩),fG.mono T.low _ _ dv⟩
 have hzip:(names.zip vals).map (·.1)=names:=List.map_fst_zip (by rw [hlen,d.len];exact cX _)
 have hnn:((names.zip vals).map (·.1)).Nodup:=by rw [hzip,←hp.nm,LX];exact F.facts.2.1.sublist (List.take_sublist _ _)
 refine⟨T,T.relC y.R hS (fun _=>rfl) fun _ _ e=>.inl ⟨e,rfl,rfl⟩,F,eL▸if_pos rfl,⟨_,I.toInCall.ns,fun i x sv hi ha=> ?_⟩,fun i x hi=> ?_,fun i x sv hi ha=> ?_⟩
 ·obtain⟨v,hm,dv⟩:=par hi ha
  exact⟨v,(Ji hnn hm).1 (F.kinds hi),dv⟩
 ·have hs:=Kl sl (y.s.heap.objs.size+1) [] x (.inl (nZ hi))
  rw [←eC] at hs
  obtain⟨c,hc⟩:=Option.isSome_iff_exists.mp hs
  refine⟨c,_,hc,.inl ?_,I.cell _ _ hc,fun sv ha=> ?_⟩
  ·show(if c=_ then _ else cond _ _ _)=_
   rw [if_neg (Nat.ne_of_gt (abv hc)),List.any_eq_true.mpr ⟨_,nZ hi,by simp [hc]⟩];rfl
  ·obtain⟨v,hm,dv⟩:=par hi ha
   exact⟨v,(Ji hnn hm).2 (by rw [F.kinds hi];intro q;cases q),dv⟩
 ·obtain⟨v,hm,dv⟩:=par hi ha
  have hx:x∈names:=by have:=LY (f:=Prod.fst) hm;rwa [show(names.zip vals).map Prod.fst=names from hzip] at this
  obtain⟨j,k,hj,hk⟩:=hp.kind hx
  cases ZV F.facts.2.1 hi hj
  cases hi.symm.trans hj
  rcases hk with hk | hk <;> cases hk
theorem Ow{m:M Fl}(P:CS C fa fd body)(hsl:fd.scope.names=sl)(hp:AN sl names)(y:Wd C cells)(hA:lC A (n+1))(d:fM C y.X cells.length args vals)(hlen:names.length=args.length)
  {env:Env} (he:env=callEnvC fd y.s.heap.objs.size fa) (I:InCallC y.s env.locals (bindL env.kindOf (names.zip vals) fun _=>none) env.cells (bindC env.kindOf (names.zip vals) fun _=>none) s₁)
  {w:WP Flow} (h:∀(z:Z ⟨C,n,sl,env⟩ (A.deeper env) ⟨tH sl.length args,cells⟩),Go z dF w (m ⟨tH sl.length args,cells⟩)) {a:SV} {cells':List SO}
  (e:(match m ⟨tH sl.length args,cells⟩ with | some (.ret v,st')=>some (v,st'.cells) | some (.next,st')=>some (.pv .none,st'.cells) | _=>none)=some (a,cells'))
  {Q:aB→aG→Prop} (q:∀(y':Wd C cells') (x:aB),y.X.le cells.length y'.X cells'.length→fG C y'.X cells'.length a x→Q x y'.s):w (fun f s'=>Q (match f with | .ret v=>v | _=>.none) s') s₁:=by
 obtain⟨T,R⟩:=aEO P hsl hp y d hlen he I
 have le:=T.le (fun _=>rfl) fun _=>rfl
 have hA':lC (A.deeper env) n:=⟨hA.handled,aP (show A.depth+1+20*n≤A.depth+20*(n+1) by rw [uR,vV 1];exact oB (oB (by decide) _) _) hA.depth,aP (lJ (show A.units+3+100*n≤A.units+100*(n+1) by rw [uR,vV 3];exact oB (oB (by decide) _) _) 200) hA.units⟩
 cases c:m ⟨tH sl.length args,cells⟩ with
 |none=>rw [c] at e;cases e
 |some p=>
  obtain⟨f,st'⟩:=p
  replace e:=(c)▸e
  refine h ⟨_,s₁,hA',R⟩ f st' c _ fun z' g l dg=> ?_
  cases f with
  |cont=>cases e
  |next=>cases e;subst dg;exact q ⟨_,z'.s,z'.R.toRelC⟩ .none (le.trans l) rfl
  |ret v=>cases e;cases dg with | mk x dx=>exact q ⟨_,z'.s,z'.R.toRelC⟩ x (le.trans l) dx
end
section
open Sem (wp)
noncomputable def sR:List String:=Builtin.Bytes.decodersThatHold++["bytearray.__contains__","bytearray.__mod__","bytearray.__rmod__","_struct.pack_into.held","bytearray.find.held"]
noncomputable def xD:Code→Bool
 |.builtin id _=> !sR.contains id
 |_=>true
noncomputable def ND(Γ:Ctx):Prop:=xD Γ.code=true∧∀ x∈Γ.below,xD x.1=true
noncomputable def bA{α:Type}(M:jO)(A:aR)(t:Sem α)(Q:α→aG→Prop)(s:aG):Prop:=
 ∀ Γ p,Γ.In A→ND Γ→wp M Γ t (fun a _ s'=>Q a s') (fun _ _ _=>False) p s
noncomputable def lT(M:jO)(A:aR)(c:Code)(R:Flow→aG→Prop)(s:aG):Prop:=
 ∀ Γ p,Γ.code=c→Γ.Below A→(∀ x∈Γ.below,xD x.1=true)→wpCode M Γ (fun r s'=>match r with | .ok f=>R f s' | .error _=>False) p s
section
variable{α β:Type}{M:jO}{A:aR}{s:aG}{env:Env}
theorem fR(h:aI M A t Q nE s):bA M A t Q s:=fun Γ p hΓ _=>h Γ p hΓ
theorem aDT(h:codeAny M A c (fun r s'=>match r with | .ok f=>R f s' | .error _=>False) s):lT M A c R s:=fun Γ p hc hΓ _=>h Γ p hc hΓ
theorem dA(h:Q a s):bA M A (pure a) Q s:=fun _ _ _ _=>h
theorem gZ(h:bA M A t Q s)(hQ:∀ a s,Q a s→Q' a s):bA M A t Q' s:=
 fun Γ p hΓ hN=>MM M Γ t (fun a _ s=>hQ a s) (fun _ _ _ x=>x) p s (h Γ p hΓ hN)
theorem bB(h:bA M A m (fun a s'=>bA M A (f a) Q s') s):bA M A (m >>= f) Q s:=fun Γ p hΓ hN=>by
 rw [Sem.wp_bind']
 exact MM M Γ m (fun a p' s' h'=>h' Γ p' hΓ hN) (fun _ _ _ h'=>h') p s (h Γ p hΓ hN)
theorem nR(h:bA M A m Q s):bA M A (holding vs m) Q s:=
 fun Γ p hΓ hN=>by rw [Sem.wp_holding];exact h Γ p hΓ hN
theorem CP(h:bA M A m Q s):bA M A (m.onRaise k) Q s:=fun Γ p hΓ hN=>by
 rw [Sem.wp_onRaise]
 exact MM M Γ m (fun _ _ _ h'=>h') (fun e p' s' h'=>h'.elim) p s (h Γ p hΓ hN)
theorem Za(h:bA M A m Q s):bA M A (m.keep vs) Q s:=fun Γ p hΓ hN=>by rw [Sem.wp_keep];exact h Γ p hΓ hN
theorem aQy(h:bA M A m Q s):bA M A (operate vs m) Q s:=fun Γ p hΓ hN=>by rw [Sem.wp_operate];exact h Γ p hΓ hN
theorem pE(h:Q () s):bA M A (standAt pos) Q s:=fun _ _ _ _=>h
theorem RR(h:Q () s):bA M A point Q s:=fun _ _ _ _=>h
theorem uJ(e:t=pure v)(h:Q v s):bA M A t Q s:=by rw [e];exact dA h
theorem Sx(hN:ND Γ)(c:Code)(h:Option aB)(p:Pos):∀ x∈(Γ.enter c h p).below,xD x.1=true:=fun x hx=>by
 cases hx with
 |head=>exact hN.1
 |tail _ hx=>exact hN.2 x hx
theorem Zd(hc:lT M A c Q s):bA M A (run c none) Q s:=
 fun Γ p hΓ hN=>by
  rw [Sem.wp_run]
  refine wpCode_mono (fun r s' hr=> ?_) (hc (Γ.enter c none p) p rfl (by simpa [Around.mark] using hΓ.enter c none p (by intro x;cases x)) (Sx hN c none p))
  cases r <;> exact hr
noncomputable abbrev Fw(Q:aB→aG→Prop):Flow→aG→Prop:=fun f s'=>match f with | .ret v=>Q v s' | _=>False
theorem RQ(hc:lT M A (.call f ⟨pos,[]⟩) (Fw Q) s):bA M A (call f pos []) Q s:=
 fun Γ p hΓ hN=>by
  rw [call,Sem.wp_runValue]
  refine wpCode_mono (fun r s' hr=> ?_) (hc (Γ.enter (.call f ⟨pos,[]⟩) none p) p rfl (by simpa [Around.mark] using hΓ.enter (.call f ⟨pos,[]⟩) none p (by intro x;cases x)) (Sx hN _ none p))
  cases r with
  |error e=>exact hr.elim
  |ok f=>cases f <;> exact hr
theorem AZ(hn:xD c=true)
  (h:bA M (A.under c) (M.den c) (fun fin s'=>match fin with | .done f=>R f s' | .again c'=>c'.quiet=true∧lT M A c' R s') s):lT M A c R s:=fun Γ p hc hΓ hB=>by
 rw [wpCode_iff_wp,hc]
 refine MM M Γ _ (fun fin p' s' h'=> ?_) (fun _ _ _ h'=>h'.elim) p s (h Γ p (hc▸hΓ.in) ⟨hc▸hn,hB⟩)
 cases fin with
 |done f=>exact h'
 |again c'=>exact⟨h'.1,h'.2 (Γ.goto c') p' rfl (hΓ.goto c') hB⟩
end
section
variable{prog:hO}{w:dW}{A:aR}{s:aG}
theorem vR{α:Type}{M:jO}{t:Sem α}{Q:α→aG→Prop}(h:aI M A t Q nE s):aI M A t Q E s:=nQ h (fun _ _ h=>h) fun _ _ e=>e.elim
theorem aDS(h:bA (aK prog w) (A.deeper env) (execs body env) (fun f s'=>R (.ret (match f with | .ret v=>v | _=>.none)) s') s):lT (aK prog w) A (.func body env) R s:=by
 refine AZ rfl ?_
 show bA _ (A.deeper env) (do point;match ←(execs body env).onRaise (leaving env) with | .ret v=>ret v | _=>ret .none) _ s
 refine bB (RR (bB (CP (gZ h fun f s' h'=> ?_))))
 cases f <;> exact dA h'
theorem aDQ(hroom:A.depth < recursionLimit)(ho:s.heap.get? a=some o)
  (hd':o.data= .func fd) (hco:fd.scope.isCoroutine=false) (hgen:fd.scope.isGenerator=false) (hbody:fd.body= .stmts body) (hcd:s.heap.CodeRec fd.code fd.qualname)
  (h:aI (aK prog w) A.in1 (bindArgs fd args) (fun binds s₁=>
   aI (aK prog w) A.in1 (newFunctionEnv fd.scope fd.globals fd.closure binds (fd.qualname++".<locals>.") (some a) fd.code none fd.builtins)
    (fun env s₂=>s₂.heap.NoLimit∧lT (aK prog w) A (.func body env) R s₂) nE s₁) nE s):
  lT (aK prog w) A (.call (.ref a) args) R s:=by
 refine AZ rfl (fR ?_)
 show aI _ A.in1 (callAny (.ref a) args) _ _ s
 refine aF (vS ho ?_)
 obtain⟨c,oc,vs,tq,hc,hoc,hdc,hq⟩:=hcd
 simp only [hd',callFunction,hco,hgen,hbody,hc]
 rw [hc] at h
 refine aF (wpAny_field hoc hdc hq (aF (bF ?_)))
 exact aF (fT h fun binds s₁ h₁=>aF (fT h₁ fun env s₂ h₂=>aF (wpAny_enterFrame h₂.1 hroom (bF (And.intro rfl h₂.2)))))
end
noncomputable def Lo(C:Cx)(fa:Addr)(A:aR)(vals:List aB):WP aB:=fun Q s=>codeAny (aK C.prog C.w) A (.call (.ref fa) ⟨vals,[]⟩) (fun r s'=>match r with | .ok f=>Fw Q f s' | .error _=>False) s
noncomputable def aEk(C:Cx)(fa:Addr)(A:aR)(vals:List aB):WP aB:=fun Q s=>lT (aK C.prog C.w) A (.call (.ref fa) ⟨vals,[]⟩) (Fw Q) s
theorem NM(h:Lo C fa A vals Q s)(k:∀ v s',Q v s'→R (.ok (.ret v)) s'):codeAny (aK C.prog C.w) A (.call (.ref fa) ⟨vals,[]⟩) R s:=
 codeAny_mono h fun r s' hr=>by
  cases r with
  |error=>exact hr.elim
  |ok f=>cases f <;> first | exact k _ _ hr | exact hr.elim
noncomputable abbrev RF(C:Cx)(n:Nat)(fa:Addr)(f:Fn):Prop:=uT C n (Lo C fa) f
noncomputable abbrev sL(C:Cx)(n:Nat)(fa:Addr)(f:Fn):Prop:=uT C n (aEk C fa) f
noncomputable abbrev KK.wpG{β:Type}(K:KK)(A:aR)(t:Sem β):WP β:=fun Q s=>Mine.bA (aK K.C.prog K.C.w) A t Q s
section
variable{C:Cx}{n:Nat}{fa:Addr}{fd:qQ}{body:List Stmt}{sl:aL}{names:List Str}{g:List SV→Option (List SV)}{m:M Fl}
theorem Kf(P:CS C fa fd body)(hsl:fd.scope.names=sl)(hp:AN sl names){A:aR}(y:Wd C cells)(hb:BindsTo y.s fd ⟨vals,[]⟩ (names.zip vals'))(d:fM C y.X cells.length args' vals')(hl:names.length=args'.length)
  {T:Env→aG→Prop} {E:aB→aG→Prop} (h:∀ env,env=callEnvC fd y.s.heap.objs.size fa→∀ s',InCallC y.s env.locals (bindL env.kindOf (names.zip vals') fun _=>none) env.cells (bindC env.kindOf (names.zip vals') fun _=>none) s'→T env s'):
  aI (aK C.prog C.w) A.in1 (bindArgs fd ⟨vals,[]⟩) (fun binds s₁=>aI (aK C.prog C.w) A.in1 (newFunctionEnv fd.scope fd.globals fd.closure binds (fd.qualname++".<locals>.") (some fa) fd.code none fd.builtins) (fun env s₂=>s₂.heap.NoLimit∧T env s₂) E s₁) E y.s:=by
 refine hb _ _ _ _ ?_
 refine(P.clo).symm▸?_
 have hsc:=P.sc
 simp only [xM,hsl,hJ,beq_iff_eq,decide_eq_true_eq] at hsc
 refine wpAny_newFunctionEnv_cells hsc.1.1 (fun x hx=> ?_) fun env he s' I=>⟨(C.lim.keeps y.R.keeps0).keeps I.toInCall.keep,h env he s' I⟩
 have hx:x.1∈names:=by
  have:=LY (f:=Prod.fst) hx
  rwa [List.map_fst_zip (by rw [hl,d.len];exact cX _)] at this
 obtain⟨i,k,hi,hk⟩:=hp.kind hx
 refine(hsl).symm▸(Bc hsc.1.2 hi).symm▸?_
 exact hk.imp (fun e=>by rw [e]) fun e=>⟨by rw [e],Kl sl _ [] x.1 (.inl (nZ (e▸hi)))⟩
theorem Vy(hA:lC A (n+1)):A.depth < recursionLimit:=sH (aP (oD _ _) hA.depth) (bT rfl)
theorem Wb(e:bG k g m args cells=some (a,cells')):∃ args',g args=some args'∧(match m ⟨tH k args',cells⟩ with | some (.ret v,st')=>some (v,st'.cells) | some (.next,st')=>some (.pv .none,st'.cells) | _=>none)=some (a,cells'):=by
 unfold bG at e
 cases c:g args with
 |none=>rw [c] at e;cases e
 |some args'=>rw [c] at e;exact⟨args',rfl,e⟩
theorem aAF(P:CS C fa fd body)(hsl:fd.scope.names=sl)(hp:AN sl names)(hb:AB C fd names g)
  (h:∀ env,env.scope=fd.scope→env.func.isSome=true→∀ {A:aR} {st:St} (z:Z ⟨C,n,sl,env⟩ A st),Go z dF (KK.wp ⟨C,n,sl,env⟩ A (execs body env)) (m st)):RF C (n+1) fa (bG sl.length g m):=by
 intro A cells y args vals hA d a cells' e Q q
 obtain⟨args',hg,e⟩:=Wb e
 obtain⟨vals',hbd,d',hl⟩:=hb y hg d
 obtain⟨o,ho,hd⟩:=P.obj
 refine codeAny_call_function (Vy hA) (y.R.keeps0 _ _ ho) hd P.co P.gen P.body (P.cr.keeps y.R.keeps0) (Kf P hsl hp y hbd d' hl fun env he s' I=>codeAny_func ?_)
 exact vR (Ow P hsl hp y hA d' hl he I (w:=KK.wp ⟨C,n,sl,env⟩ (A.deeper env) (execs body env)) (fun z=>h env (by rw [he];rfl) (by rw [he];rfl) z) e q)
theorem aAE(P:CS C fa fd body)(hsl:fd.scope.names=sl)(hp:AN sl names)(hb:AB C fd names g)
  (h:∀ env,env.scope=fd.scope→env.func.isSome=true→∀ {A:aR} {st:St} (z:Z ⟨C,n,sl,env⟩ A st),Go z dF (KK.wpG ⟨C,n,sl,env⟩ A (execs body env)) (m st)):sL C (n+1) fa (bG sl.length g m):=by
 intro A cells y args vals hA d a cells' e Q q
 obtain⟨args',hg,e⟩:=Wb e
 obtain⟨vals',hbd,d',hl⟩:=hb y hg d
 obtain⟨o,ho,hd⟩:=P.obj
 refine aDQ (Vy hA) (y.R.keeps0 _ _ ho) hd P.co P.gen P.body (P.cr.keeps y.R.keeps0) (Kf P hsl hp y hbd d' hl fun env he s' I=>aDS ?_)
 exact Ow P hsl hp y hA d' hl he I (w:=KK.wpG ⟨C,n,sl,env⟩ (A.deeper env) (execs body env)) (fun z=>h env (by rw [he];rfl) (by rw [he];rfl) z) e q
theorem Hx(h:RF C n fa f):sL C n fa f:=fun y _ _ hA d a c e Q q=>aDT (h y hA d a c e Q q)
end
structure kX(C:Cx)(a:Addr)(sc:Scope)(body:List Stmt)(names:List Str)(g:List SV→Option (List SV)):Prop where
 ex:∃ fd,CS C a fd body∧fd.scope=sc∧AB C fd names g
noncomputable def GL(C:Cx)(fa:Addr):Prop:=∃ o fd,C.base.get? fa=some o∧o.data= .func fd
theorem kX.is(P:kX C a sc body names g):GL C a:=by
 obtain⟨fd,P,_⟩:=P.ex
 obtain⟨o,ho,hd⟩:=P.obj
 exact⟨o,fd,ho,hd⟩
end
noncomputable def yP:Stmt→Expr×Expr×List Stmt×List Stmt
 |.Return (some e) _=>(e,e,[],[])
 |.Expr e _=>(e,e,[],[])
 |.Assign ts e _=>(e,dR ts,[],[])
 |.AugAssign t _ e _=>(e,t,[],[])
 |.If t a b _=>(t,t,a,b)
 |.While t a b _=>(t,t,a,b)
 |.For t e a b _=>(e,t,a,b)
 |_=>(dR [],dR [],[],[])
noncomputable def yE(t:Stmt):Expr:=(yP t).1
noncomputable def yT(t:Stmt):Expr:=(yP t).2.1
noncomputable def yB(t:Stmt):List Stmt:=(yP t).2.2.1
noncomputable def yO(t:Stmt):List Stmt:=(yP t).2.2.2
noncomputable def Pl:List Stmt→Stmt
 |t::_=>t
 | []=>.Pass default
structure P1(K:KK) where
 m:M Fl
 r:Stmt→Stmt
 ok:∀(t:Stmt) {A:aR} {st:St} (z:Z K A st),Go z dF (K.wp A (exec (r t) K.env)) (m st)
structure PS(K:KK) where
 m:M Fl
 r:List Stmt→List Stmt
 ok:∀(t:List Stmt) {A:aR} {st:St} (z:Z K A st),Go z dF (K.wp A (execs (r t) K.env)) (m st)
structure xZ(K:KK) where
 m:M Fl
 r:Stmt→Stmt
 ok:∀(t:Stmt) {A:aR} {st:St} (z:Z K A st),Go z dF (K.wpG A (exec (r t) K.env)) (m st)
structure DC(K:KK) where
 m:M Fl
 r:List Stmt→List Stmt
 ok:∀(t:List Stmt) {A:aR} {st:St} (z:Z K A st),Go z dF (K.wpG A (execs (r t) K.env)) (m st)
noncomputable def sq(a:M Fl)(b:M Fl):M Fl:=bd a fun f=>match f with
 |.next=>b
 |f=>rt f
section
variable{K:KK}{A:aR}{st:St}{z:Z K A st}{α β γ δ:Type}
theorem Pe{w w' w₂:WP Flow}{a b:M Fl}(h:∀ Q,w (fun f s'=>match f with | .next=>w₂ Q s' | f=>Q f s') z.s→w' Q z.s)(ha:Go z dF w (a st))(hb:∀ {st₁:St} (z₁:Z K A st₁),Go z₁ dF w₂ (b st₁)):Go z dF w' (sq a b st):=
 ha.ru (u:=fun f Q s'=>match f with | .next=>w₂ Q s' | f=>Q f s') h fun {f st₁ x} z₁ l d=>by
  cases f with
  |next=>subst d;exact hb z₁
  |cont=>subst d;exact .rt (x:=.cont) rfl fun Q q=>q
  |ret v=>cases d with | mk x dx=>exact .rt (x:=.ret x) (.mk x dx) fun Q q=>q
noncomputable def aE:PS K:=⟨rt .next,fun _=>[],fun _ _ _ z=>.rt (x:=.next) rfl fun Q q=>LJ q⟩
noncomputable def aC(a:P1 K)(as:PS K):PS K:=⟨sq a.m as.m,fun t=>a.r (Pl t)::as.r t.tail,fun t _ _ z=>Pe (fun Q q=>wpAny_execs_cons q) (a.ok _ z) fun z₁=>as.ok _ z₁⟩
noncomputable def pK:P1 K:=⟨er,fun t=>t,fun t _ _ z=>.no⟩
noncomputable def DE:P1 K:=⟨rt .cont,fun t=>.Continue t.pos,fun t _ _ z=>.rt (x:=.cont) rfl fun Q q=>wpAny_Continue q⟩
noncomputable def bP(a:PE K):P1 K:=⟨bd a.m fun v=>rt (.ret v),fun t=>.Return (some (a.r (yE t))) t.pos,fun t _ _ z=>(a.ok _ z).ru (u:=fun x Q=>Q (.ret x)) (fun Q q=>wpAny_Return_some q) fun z₁ l₁ dx=>.rt (x:=.ret _) (.mk _ dx) fun Q q=>q⟩
theorem Qb(z:Z K A st):interactive K.env=false:=by unfold interactive;rw [z.R.fr.st.kind];rfl
noncomputable def fY(a:PE K)(h:bR a.c 0=false:=by rfl):P1 K:=⟨bd a.m fun _=>rt .next,fun t=>.Expr (a.r (yE t)) t.pos,fun t _ _ z=>(a.ok _ z).ru (u:=fun _ Q=>Q .next) (fun Q q=>wpAny_Expr_any q (Qb z) (a.sw h _ _ _)) fun z₁ l₁ dx=>.rt (x:=.next) rfl fun Q q=>q⟩
noncomputable def cD(c:PT K)(a b:PS K):P1 K:=⟨bd c.m fun c=>match c with | true=>a.m | false=>b.m,fun t=>.If (c.r (yE t)) (a.r (yB t)) (b.r (yO t)) t.pos,fun t _ _ z=>(c.ok _ z).ruB (fun Q q=>wpAny_If q) fun z₁ l₁=>Pa (a.ok _ z₁) (b.ok _ z₁)⟩
noncomputable def bZ(i:Nat)(q:lM K i)(a:PE K)(h:bR a.c 0=false:=by rfl):P1 K:=⟨bd a.m fun v=>bd (sZ i v) fun _=>rt .next,fun t=>.Assign [.Name (nm K.sl i) (yT t).pos] (a.r (yE t)) t.pos,
 fun t _ _ z=>(a.ok _ z).ru (u:=fun x Q=>K.wp _ (storeName K.env (nm K.sl i) x) fun _=>Q .next) (fun Q k=>wpAny_Assign_Name k (a.sw h _ _ _)) fun z₁ l₁ dx=>IU q dx (rfl:dF _ _ _ Fl.next Flow.next) fun Q k=>k⟩
noncomputable def fl(b k:M Fl):M Fl:=bd b fun f=>match f with
 |.ret v=>rt (.ret v)
 |.next=>k
 |.cont=>k
theorem Nq{b k:M Fl}{wb:WP Flow}{f:Fl}{st':St}{Q:Flow→aG→Prop}{P B:aG→Prop}(hb:Go z dF wb (b st))(e:fl b k st=some (f,st'))(q:∀(z':Z K A st') x,z.le z'→z'.d dF f x→Q x z'.s)(p:∀ {st₁:St} (z₁:Z K A st₁),z.le z₁→k st₁=some (f,st')→P z₁.s):
  wb (fun g s=>match g with | .next | .cont=>P s | .brk=>B s | .ret v=>Q (.ret v) s) z.s:=
 lE e fun g st₁ e₁ e₂=>hb g st₁ e₁ _ fun z₁ x l d=>by
  cases g with
  |next=>subst d;exact p z₁ l e₂
  |cont=>subst d;exact p z₁ l e₂
  |ret v=>cases e₂;cases d with | mk y dy=>exact q z₁ _ l (.mk y dy)
noncomputable def kW:Nat→M Bool→M Fl→M Fl
 |0,_,_=>er
 |k+1,c,b=>bd c fun x=>match x with
  |true=>fl b (kW k c b)
  |false=>rt .next
inductive HH(z:Z K A st)(f:Nat→M Fl)(g:Fl)(st':St)(k:Nat):aG→Prop
 |mk {st₁:St} (z₁:Z K A st₁) (l:z.le z₁) (e:f k st₁=some (g,st')):HH z f g st' k z₁.s
theorem Yu{c:M Bool}{b:M Fl}{f:Fl}{st':St}{wt:WP Bool}{wb:WP Flow}{Q:Flow→aG→Prop}(q:∀(z':Z K A st') x,z.le z'→z'.d dF f x→Q x z'.s)(hc:∀ {st₁:St} (z₁:Z K A st₁),Go z₁ dB wt (c st₁))(hb:∀ {st₁:St} (z₁:Z K A st₁),Go z₁ dF wb (b st₁))(B:aG→Prop)(k:Nat)(s:aG)
  (h:HH z (fun k=>kW k c b) f st' k s):wt (fun x s₂=>if x=true then wb (fun f' s₃=>match f' with | .next | .cont=>∃ m,m < k∧HH z (fun k=>kW k c b) f st' m s₃ | .brk=>B s₃ | .ret v=>Q (.ret v) s₃) s₂ else Q .next s₂) s:=by
 cases h with | mk z₁ l e=>
 cases k with
 |zero=>cases e
 |succ k=>
  refine lE e fun x st₂ e₁ e₂=>hc z₁ x st₂ e₁ _ fun z₂ x' l₂ ex=> ?_
  cases (ex:x=x')
  cases x with
  |false=>cases e₂;exact q z₂ .next (l.t l₂) rfl
  |true=>exact Nq (hb z₂) e₂ (fun z' y l'=>q z' y ((l.t l₂).t l')) fun z₃ l₃ e₃=>⟨k,xY k,.mk z₃ ((l.t l₂).t l₃) e₃⟩
noncomputable def uS(k:Nat)(c:PT K)(b:PS K):P1 K:=⟨kW k c.m b.m,fun t=>.While (c.r (yE t)) (b.r (yB t)) [] t.pos,fun t A st z fl st' e Q q=>by
 refine wpAny_While (codeAny_whileLoop (HH z (fun k=>kW k c.m b.m) fl st') (fun k s h=>nQ (Yu q (fun z=>c.ok _ z) (fun z=>b.ok (yB t) z) (fun s=>Q .next s) k s h) (fun x s₂ h=> ?_) fun _ _ e=>e.elim) k (.mk z Z.le0 e))
 cases x with
 |true=>exact vR h
 |false=>exact LJ h⟩
end
section
open Sem (wp)
noncomputable def fJ:List PV→(PV→M Fl)→M Fl
 | [],_=>rt .next
 |x::xs,b=>fl (b x) (fJ xs b)
noncomputable def IJ(f:St→SV→Option (List PV))(src:M SV)(b:PV→M Fl):M Fl:=bd src fun a st=>match f st a with
 |some xs=>fJ xs b st
 |none=>none
noncomputable def mQ(nx:List SO→Nat→Option (Option PV))(b:PV→M Fl):Nat→Nat→M Fl
 |0,_=>er
 |n+1,i=>fun st=>match nx st.cells i with
  |some (some y)=>fl (b y) (mQ nx b n (i+1)) st
  |some none=>some (.next,st)
  |none=>none
noncomputable def lG(xs:List PV):List SO→Nat→Option (Option PV):=fun _ i=>some xs[i]?
theorem aFH(b:PV→M Fl)(xs:List PV):∀(ys:List PV) (i:Nat),xs.drop i=ys→fJ ys b=mQ (lG xs) b (ys.length+1) i:=by
 intro ys
 induction ys with
 |nil=>
  intro i h
  have:xs[i]? =none:=List.getElem?_eq_none_iff.mpr (List.drop_eq_nil_iff.mp h)
  funext st
  show _=(match lG xs st.cells i with | some (some y)=>fl (b y) (mQ (lG xs) b 0 (i+1)) st | some none=>some (.next,st) | none=>none)
  unfold lG;rw [this];rfl
 |cons y ys ih=>
  intro i h
  have e1:xs[i]? =some y:=by have:=congrArg (fun l=>l[0]?) h;simpa [LU] using this
  have e2:xs.drop (i+1)=ys:=by have:=congrArg List.tail h;rwa [List.tail_drop] at this
  funext st
  show fl (b y) (fJ ys b) st=(match lG xs st.cells i with | some (some y)=>fl (b y) (mQ (lG xs) b (ys.length+1) (i+1)) st | some none=>some (.next,st) | none=>none)
  unfold lG;rw [e1,ih (i+1) e2];rfl
noncomputable def Mo:bS→Bool
 |.iter _=>true
 |_=>false
noncomputable def Xt.put(X:Xt)(a:Addr)(r:Option bS):Xt:=⟨fun b=>if b=a then r else X.W b,X.ρ,X.δ⟩
section
variable{X Y:Xt}{a:Addr}{r:Option bS}{h h':Heap}{n:Nat}
theorem iN(h:b≠a):(X.put a r).W b=X.W b:=if_neg h
theorem kR:(X.put a r).W a=r:=if_pos rfl
noncomputable def MB(X:Xt)(a:Addr):Prop:=X.W a=none∨∃ o,X.W a=some (.iter o)
theorem MB.ne(l:MB X a)(e:X.W b=some q)(x:Mo q=false):b≠a:=fun z=>by
 rw [z] at e;rcases l with l | ⟨o,l⟩ <;> rw [l] at e <;> cases e
 cases x
theorem Tr.put(v:∀ a r,X.W a=some r→gU h a r)(l:MB X a)(g:lI a h h')(hr:∀ q,r=some q→gU h' a q):Tr Mo X h n (X.put a r) h' n:=by
 have hp:∀ b q,X.W b=some q→b≠a→h'.get? b=h.get? b:=fun b q e c=>let⟨o,ho⟩:=(v b q e).ex;(g b o c ho).trans ho.symm
 refine⟨⟨fun b o e=>(iN (l.ne e rfl)).trans e,fun _ _=>rfl,cX _⟩,fun b q e x=>⟨(iN (l.ne e x)).trans e,hp b q e (l.ne e x)⟩,fun b q e=> ?_⟩
 by_cases c:b=a
 ·rw [c] at e ⊢;rw [kR] at e;exact .inr (hr q e)
 ·rw [iN c] at e;exact .inr ((v b q e).same (hp b q e c))
theorem kO(le:X.le m Y m')(e:X.W a=none):X.le m (Y.put a r) m':=by
 have ne:∀ {b q},X.W b=some q→b≠a:=fun {b q} eb z=>by rw [z,e] at eb;cases eb
 exact⟨⟨fun b o eb=>(iN (ne eb)).trans (le.low.fro b o eb),le.low.ρ,le.low.n⟩,fun b o eb=>(iN (ne eb)).trans (le.held b o eb),fun b o eb=>(iN (ne eb)).trans (le.iter b o eb)⟩
end
structure pG(C:Cx)(it:Addr)(nx:List SO→Nat→Option (Option PV))(pi:Nat→Obj→Prop)(ok:Xt→Nat→Prop):Prop where
 mono:∀ {X n X' n'},X.low n X' n'→ok X n→ok X' n'
 item:∀ {A:aR} {cells:List SO} {i:Nat} {o:Obj} {p:PV} {Q:Option aB→aG→Prop} (y:Wd C cells),ok y.X cells.length→y.s.heap.get? it=some o→pi i o→nx cells i=some (some p)→
  (∀ v h' o' tk,bE C y.X.W p v→uM it y.s.heap h'→h'.get? it=some o'→pi (i+1) o'→Q (some v) {y.s with heap:=h',toks:=tk})→aI (aK C.prog C.w) A (pyNext (.ref it)) Q nE y.s
 fin:∀ {A:aR} {cells:List SO} {i:Nat} {o:Obj} {Q:Option aB→aG→Prop} (y:Wd C cells),A.handled=none→ok y.X cells.length→y.s.heap.get? it=some o→pi i o→nx cells i=some none→
  (∀ h' tk,lI it y.s.heap h'→Q none {y.s with heap:=h',toks:=tk})→aI (aK C.prog C.w) A (pyNext (.ref it)) Q nE y.s
 self:∀ {A:aR} {s:aG} {i:Nat} {o:Obj} {Q:aB→aG→Prop},s.heap.get? it=some o→pi i o→Q (.ref it) s→aI (aK C.prog C.w) A (pyIter (.ref it)) Q nE s
 lets:∀ {A:aR} {s:aG} {i:Nat} {o:Obj} {target:Expr} {v:aB} {Q:Unit→aG→Prop},s.heap.get? it=some o→pi i o→Q () s→aI (aK C.prog C.w) A (JE target (.ref it) v) Q nE s
structure PA(K:KK) where
 g:PV→M Unit
 r:Expr→Expr
 ok:∀(e:Expr) {A:aR} {st:St} (z:Z K A st) {p:PV} {v:aB},bE K.C z.X.W p v→Go z dU (K.wp A (qY (r e) K.env v)) (g p st)
section
variable{K:KK}{A:aR}{st:St}{z:Z K A st}
noncomputable def Z.wd(z:Z K A st):Wd K.C st.cells:=⟨z.X,z.s,z.R.toRelC⟩
noncomputable def Z.put(z:Z K A st)(a:Addr)(r:Option bS)(h':Heap)(t:Nat)(l:MB z.X a)(g:lI a z.s.heap h')(hr:∀ q,r=some q→gU h' a q):Z K A st:=
 ⟨z.X.put a r,{z.s with heap:=h',toks:=t},z.hA,(Tr.put z.R.val l g hr).rel z.R (z.R.still.to _ _) (fun _=>rfl) rfl rfl (fun _=>rfl) fun _ _ e=>.inl ⟨e,rfl,rfl⟩⟩
theorem rF(g:uM a h h'):lI a h h':=fun b o hb e=>(g.2 b hb).trans e
theorem rO(e:h.get? a=some o)(q:bS)(c:some (bS.iter o)=some q):gU h a q:=iW c▸(e:gU h a (.iter o))
inductive AD(z:Z K A st)(it:Addr)(nx:List SO→Nat→Option (Option PV))(pi:Nat→Obj→Prop)(ok:Xt→Nat→Prop)(b:PV→M Fl)(f:Fl)(st':St)(k:Nat):aG→Prop
 |mk {st₁:St} (z₁:Z K A st₁) (i:Nat) (o:Obj) (l:z.le z₁) (hW:z₁.X.W it=some (.iter o)) (hp:pi i o) (hok:ok z₁.X st₁.cells.length) (e:mQ nx b k i st₁=some (f,st')):AD z it nx pi ok b f st' k z₁.s
theorem ZI(I:pG K.C it nx pi ok)(hz:z.X.W it=none)(t:PA K)(te:Expr)(hb:∀ {st₁:St} (z₁:Z K A st₁),Go z₁ dF wb (m st₁)){Q:Flow→aG→Prop}
  (q:∀(z':Z K A st') x,z.le z'→z'.d dF f x→Q x z'.s) (B:aG→Prop) (k:Nat) (s:aG) (h:AD z it nx pi ok (fun x=>bd (t.g x) fun _=>m) f st' k s):
  aI (aK K.C.prog K.C.w) A (pyNext (.ref it)) (fun r s₁=>match r with
   |none=>Q .next s₁
   |some v=>aI (aK K.C.prog K.C.w) A (JE (t.r te) (.ref it) v) (fun _ s'=>aI (aK K.C.prog K.C.w) A (qY (t.r te) K.env v) (fun _ s₂=>wb (fun f' s₃=>match f' with
    |.next | .cont=>∃ m',m' < k∧AD z it nx pi ok (fun x=>bd (t.g x) fun _=>m) f st' m' s₃
    |.brk=>B s₃
    |.ret v=>Q (.ret v) s₃) s₂) nE s') nE s₁) nE s:=by
 cases h with | mk z₁ i o l hW hp hok e=>
 have ho:=z₁.R.val _ _ hW
 cases k with
 |zero=>cases e
 |succ k=>
  have e:(match nx _ i with | some (some y)=>fl (bd (t.g y) fun _=>m) (mQ nx (fun x=>bd (t.g x) fun _=>m) k (i+1)) _ | some none=>some (.next,_) | none=>none)=some (f,st'):=e
  cases c:nx _ i with
  |none=>rw [c] at e;cases e
  |some c'=>
   replace e:=(c)▸e
   cases c' with
   |none=>
    cases e
    exact I.fin z₁.wd z₁.hA.handled hok ho hp c fun h' tk ex=>q (z₁.put it none h' tk (.inr ⟨o,hW⟩) ex fun _ z=>nomatch z) .next (kO l hz) rfl
   |some y=>
    refine I.item z₁.wd hok ho hp c fun v h' o' tk dv sb ho' hp'=>I.lets ho' hp' ?_
    have le:=kO (r:=some (.iter o')) l hz
    have lw:=fun n=>(Tr.put (n:=n) (r:=some (bS.iter o')) z₁.R.val (.inr ⟨o,hW⟩) (rF sb) (rO ho')).low
    refine lE e fun fb st₃ e₁ e₂=>lE e₁ fun u st₂ e₃ e₄=>t.ok te (z₁.put it (some (.iter o')) h' tk (.inr ⟨o,hW⟩) (rF sb) (rO ho')) (bE.mono (lw 0).fro _ _ dv) u st₂ e₃ _ fun z₂ _ l₂ _=> ?_
    have L:z.le z₂:=Xt.le.trans le l₂
    exact Nq (b:=m) (hb z₂) (k:=mQ nx (fun x=>bd (t.g x) fun _=>m) k (i+1)) ((show fl m (mQ nx (fun x=>bd (t.g x) fun _=>m) k (i+1)) st₂=_ by unfold fl;unfold bd;exact(e₄).symm▸e₂)) (fun z' x l'=>q z' x (L.t l')) fun z₃ l₃ e₅=>⟨k,xY k,.mk z₃ (i+1) o' (L.t l₃) (l₃.iter _ _ (l₂.iter _ _ kR)) hp' (I.mono (((lw _).trans l₂.low).trans l₃.low) hok) e₅⟩
theorem Ku{M:jO}(hn:xD c=true)(hq:c.quiet=true)(I:Nat→aG→Prop)
  (turn:∀ n s,I n s→bA M (A.under c) (M.den c) (fun fin s'=>match fin with | .done f=>R f s' | .again c'=>(c'=c∧∃ m,m < n∧I m s')∨(c'.quiet=true∧lT M A c' R s')) s)
  (n:Nat) (h:I n s):lT M A c R s:=by
 induction n using Nat.strongRecOn generalizing s with
 |ind n ih=>
  refine AZ hn (gZ (turn n s h) fun fin s' hf=> ?_)
  cases fin with
  |done f=>exact hf
  |again c'=>
   rcases hf with⟨rfl,m,hm,hI⟩ | hf
   ·exact⟨hq,ih m hm hI⟩
   ·exact hf
theorem aDU{M:hO×dW}(I:Nat→aG→Prop)
  (turn:∀ n s,I n s→aI (aK M.1 M.2) A (isTrue test env (eval test env)) (fun b s₂=>
    if b then bA (aK M.1 M.2) A (execs body env) (fun f s₃=>match f with
      |.next | .cont=>∃ m,m < n∧I m s₃
      |.brk=>R .next s₃
      |.ret v=>R (.ret v) s₃) s₂
    else bA (aK M.1 M.2) A (execs orelse env) (fun f s₃=>R f s₃) s₂) nE s)
  (n:Nat) (h:I n s):lT (aK M.1 M.2) A (.whileLoop test body orelse env) R s:=by
 refine Ku rfl rfl I (fun n s hI=> ?_) n h
 show bA _ A ((whileTurn test body orelse env).onRaise (fun x=>do noteFrame x env;theTreesLotGoes x)) _ s
 refine CP ?_
 refine bB (fR (fT (turn n s hI) fun b s₂ h₂=> ?_))
 cases b with
 |false=>exact bB (gZ h₂ fun f s₃ h₃=>dA h₃)
 |true=>
  refine bB (gZ h₂ fun f s₃ h₃=> ?_)
  cases f with
  |next=>exact dA (.inl ⟨rfl,h₃⟩)
  |cont=>exact dA (.inl ⟨rfl,h₃⟩)
  |brk=>exact dA h₃
  |ret v=>exact dA h₃
theorem aDP{M:hO×dW}(h:bA (aK M.1 M.2) A (execs stmts env) (fun f s'=>R f s') s):lT (aK M.1 M.2) A (.block stmts env) R s:=by
 refine AZ rfl ?_
 exact bB (CP (gZ h fun f s' h'=>dA h'))
theorem aDR{M:hO×dW}(I:Nat→aG→Prop)
  (turn:∀ n s,I n s→aI (aK M.1 M.2) A (pyNext it) (fun r s₁=>match r with
   |none=>bA (aK M.1 M.2) A (execs orelse env) (fun f s₃=>R f s₃) s₁
   |some v=>aI (aK M.1 M.2) A (JE target it v) (fun _ s₁'=>
     aI (aK M.1 M.2) A (qY target env v) (fun _ s₂=>bA (aK M.1 M.2) A (execs body env) (fun f s₃=>match f with
      |.next | .cont=>∃ m,m < n∧I m s₃
      |.brk=>R .next s₃
      |.ret v=>R (.ret v) s₃) s₂) nE s₁') nE s₁) nE s)
  (n:Nat) (h:I n s):lT (aK M.1 M.2) A (.forLoop target it body orelse env) R s:=by
 refine Ku rfl rfl I (fun n s hI=> ?_) n h
 show bA _ A ((forTurn target it body orelse env).onRaise (fun x=>do noteFrame x env;theTreesLotGoes x)) _ s
 refine CP ?_
 refine bB (pE (bB (CP (fR (fT (turn n s hI) fun r s₁ h₁=> ?_)))))
 cases r with
 |none=>exact dA (.inr ⟨rfl,aDP h₁⟩)
 |some v=>
  refine bB (fR (fT h₁ fun _ s₁' h₁'=>bB (fR (fT h₁' fun _ s₂ h₂=>bB (gZ h₂ fun f s₃ h₃=> ?_)))))
  cases f with
  |next=>exact dA (.inl ⟨rfl,h₃⟩)
  |cont=>exact dA (.inl ⟨rfl,h₃⟩)
  |brk=>exact dA h₃
  |ret v=>exact dA h₃
theorem aQt{M:jO}(h:lT M A (.whileLoop test body orelse env) Q s):bA M A (exec (.While test body orelse pos) env) Q s:=by
 rw [exec_While];exact bB (pE (by unfold runOwn;exact CP (Zd h)))
theorem aQp{M:jO}(h:aI M A (eval iter env) (fun x s₁=>aI M A (pyIter x) (fun it s₂=>lT M A (.forLoop target it body orelse env) Q s₂) nE s₁) nE s)
  (hs:∀ x,foldedSetIterable iter env x=pure x):bA M A (exec (.For target iter body orelse pos) env) Q s:=by
 rw [exec_For]
 exact bB (pE (bB (fR (fT h fun x s₁ h₁=>bB (uJ (hs x) (bB (pE (bB (nR (fR (fT h₁ fun it s₂ h₂=>by unfold runOwn;exact CP (Zd h₂))))))))))))
noncomputable def jY(K:KK)(f:St→SV→Option (List PV)):Prop:=∀ {A:aR} {st:St} (z:Z K A st) {a:SV} {x:aB} {xs:List PV},f st a=some xs→z.d dV a x→∀ Q:aB→aG→Prop,
 (∀(z':Z K A st) it o pi ok,z.le z'→z'.X.W it=none→z'.s.heap.get? it=some o→pG K.C it (lG xs) pi ok→pi 0 o→ok z'.X st.cells.length→Q (.ref it) z'.s)→K.wp A (pyIter x) Q z.s
theorem ZH(I:pG K.C it nx pi ok)(hz:z.X.W it=none)(ho:z.s.heap.get? it=some o)(hp:pi 0 o)(hok:ok z.X st.cells.length)(e:mQ nx b k 0 st=some (f,st')):AD z it nx pi ok b f st' k z.s:=
 .mk (z.put it (some (.iter o)) z.s.heap z.s.toks (.inl hz) (fun _ _ _ e=>e) (rO ho)) 0 o (kO Z.le0 hz) kR hp (I.mono (Tr.put z.R.val (.inl hz) (fun _ _ _ e=>e) (rO ho)).low hok) e
theorem Nx{f:St→SV→Option (List PV)}(e:(match f st a with | some xs=>fJ xs b st | none=>none)=some (g,st')):∃ xs,f st a=some xs∧mQ (lG xs) b (xs.length+1) 0 st=some (g,st'):=by
 cases c:f st a with
 |none=>rw [c] at e;cases e
 |some xs=>rw [c] at e;exact⟨xs,rfl,(congrFun (aFH b xs xs 0 rfl) st).symm.trans e⟩
noncomputable def ZG(K:KK)(A:aR)(te:Expr)(b:List Stmt)(x:aB):WP Flow:=fun Q s₁=>aI (aK K.C.prog K.C.w) A (pyIter x) (fun it s₂=>codeAny (aK K.C.prog K.C.w) A (.forLoop te it b [] K.env) (fun r s'=>match r with | .ok f=>Q f s' | .error e=>cameBackBy (aK K.C.prog K.C.w) A K.env nE e s') s₂) nE s₁
noncomputable def hU{f:St→SV→Option (List PV)}(hf:jY K f)(a:PE K)(t:PA K)(b:PS K):P1 K:=⟨IJ f a.m fun x=>bd (t.g x) fun _=>b.m,fun s=>.For (t.r (yT s)) (a.r (yE s)) (b.r (yB s)) [] s.pos,fun s A st z=>by
 refine(a.ok _ z).ru (u:=ZG K A (t.r (yT s)) (b.r (yB s))) (fun Q q=>wpAny_For q (ON (a.hc _))) fun {x₁ st₁ x} z₁ l₁ dx g st' e Q q=> ?_
 obtain⟨xs,hx,e⟩:=Nx e
 refine hf z₁ hx dx _ fun z' it o pi ok l' hz ho I hp hok=>codeAny_forLoop_any (AD z' it (lG xs) pi ok (fun x=>bd (t.g x) fun _=>b.m) g st') (fun k s' h=> ?_) (xs.length+1) (ZH I hz ho hp hok e)
 refine nQ (ZI I hz t (yT s) (fun z=>b.ok (yB s) z) (fun z'' x l d=>q z'' x (l'.t l) d) (Q .next) k s' h) (fun r s₁ h=> ?_) fun _ _ e=>e.elim
 cases r with
 |none=>exact LJ h
 |some v=>exact nQ h (fun _ _ h=>nQ h (fun _ _ h=>vR h) fun _ _ e=>e.elim) fun _ _ e=>e.elim⟩
noncomputable def aAq{f:St→SV→Option (List PV)}(hf:jY K f)(a:PE K)(t:PA K)(b:DC K):xZ K:=⟨IJ f a.m fun x=>bd (t.g x) fun _=>b.m,fun s=>.For (t.r (yT s)) (a.r (yE s)) (b.r (yB s)) [] s.pos,fun s A st z=>by
 refine(a.ok _ z).ru (u:=fun x Q s₁=>aI (aK K.C.prog K.C.w) A (pyIter x) (fun it s₂=>lT (aK K.C.prog K.C.w) A (.forLoop (t.r (yT s)) it (b.r (yB s)) [] K.env) Q s₂) nE s₁) (fun Q q=>aQp q (ON (a.hc _))) fun {x₁ st₁ x} z₁ l₁ dx g st' e Q q=> ?_
 obtain⟨xs,hx,e⟩:=Nx e
 refine hf z₁ hx dx _ fun z' it o pi ok l' hz ho I hp hok=>aDR (M:=(K.C.prog,K.C.w)) (AD z' it (lG xs) pi ok (fun x=>bd (t.g x) fun _=>b.m) g st') (fun k s' h=> ?_) (xs.length+1) (ZH I hz ho hp hok e)
 refine fT (ZI I hz t (yT s) (fun z=>b.ok (yB s) z) (fun z'' x l d=>q z'' x (l'.t l) d) (Q .next) k s' h) fun r s₁ h=> ?_
 cases r with
 |none=>exact fR (LJ h)
 |some v=>exact h⟩
noncomputable def aAr(k:Nat)(c:PT K)(b:DC K):xZ K:=⟨kW k c.m b.m,fun t=>.While (c.r (yE t)) (b.r (yB t)) [] t.pos,fun t A st z fl st' e Q q=>by
 refine aQt (aDU (M:=(K.C.prog,K.C.w)) (HH z (fun k=>kW k c.m b.m) fl st') (fun k s h=>fT (Yu q (fun z=>c.ok _ z) (fun z=>b.ok (yB t) z) (Q .next) k s h) fun x s₂ h=> ?_) k (.mk z Z.le0 e))
 cases x with
 |true=>exact h
 |false=>exact fR (LJ h)⟩
noncomputable def xG(k:Nat):List SO→Nat→Option (Option PV):=fun cells i=>match cells[k]? with
 |some (.list ys)=>some ys[i]?
 |_=>none
noncomputable def Nv(k:Nat)(n i:Nat)(b:PV→M Fl):M Fl:=mQ (xG k) b n i
noncomputable def Nw(fuel:Nat)(src:M SV)(b:PV→M Fl):M Fl:=bd src fun a=>qK a (fun k _=>Nv k fuel 0 b) er
end
end
section
open Sem (wp)
theorem aHX{α:Type}{l:List α}{i:Nat}{v:α}(e:l[i]? =some v):i < l.length:=(List.getElem?_eq_some_iff.mp e).1
section
variable{K:KK}{A:aR}{st:St}{z:Z K A st}
theorem aFE{b:PV→M Fl}{k i:Nat}{r:Fl×St}:∀(n:Nat),mQ (xG k) b n i st=some r→k < st.cells.length:=fun n e=>by
 cases n with
 |zero=>cases e
 |succ n=>
  have e:(match xG k st.cells i with | some (some y)=>fl (b y) (mQ (xG k) b n (i+1)) st | some none=>some (.next,st) | none=>none)=some r:=e
  cases q:st.cells[k]? with
  |none=>unfold xG at e;rw [q] at e;cases e
  |some c=>exact aHX q
noncomputable def aAt(fuel:Nat)(a:PE K)(t:PA K)(b:PS K)(roit:∀ {A:aR} {st:St} (z:Z K A st) {i:Nat} {xs:List PV} {vs:List aB} {ep:Nat},i < st.cells.length→z.X.W (z.X.ρ i)=some (.cell i)→z.s.heap.get? (z.X.ρ i)=some (bY vs ep)→bO K.C z.X xs vs→∀ Q:aB→aG→Prop,
 (∀(z':Z K A st) it o pi ok,z.le z'→z'.X.W it=none→z'.s.heap.get? it=some o→pG K.C it (xG i) pi ok→pi 0 o→ok z'.X st.cells.length→Q (.ref it) z'.s)→K.wp A (pyIter (.ref (z.X.ρ i))) Q z.s):P1 K:=⟨Nw fuel a.m fun x=>bd (t.g x) fun _=>b.m,fun s=>.For (t.r (yT s)) (a.r (yE s)) (b.r (yB s)) [] s.pos,fun s A st z=>by
 refine(a.ok _ z).ru (u:=ZG K A (t.r (yT s)) (b.r (yB s))) (fun Q q=>wpAny_For q (ON (a.hc _))) fun {a₁ st₁ x} z₁ l₁ dx=> ?_
 refine .onC (T:=ZG K A (t.r (yT s)) (b.r (yB s))) dx (fun i xs vs ep hw ho hl g st' e Q q=> ?_) .er
 refine roit z₁ (aFE fuel e) hw ho hl _ fun z' it o pi ok l' hz ho' I hp hok=>codeAny_forLoop_any (AD z' it (xG i) pi ok (fun x=>bd (t.g x) fun _=>b.m) g st') (fun k s' h=> ?_) fuel (ZH I hz ho' hp hok e)
 refine nQ (ZI I hz t (yT s) (fun z=>b.ok (yB s) z) (fun z'' x l d=>q z'' x (l'.t l) d) (Q .next) k s' h) (fun r s₁ h=> ?_) fun _ _ e=>e.elim
 cases r with
 |none=>exact LJ h
 |some v=>exact nQ h (fun _ _ h=>nQ h (fun _ _ h=>vR h) fun _ _ e=>e.elim) fun _ _ e=>e.elim⟩
theorem aOx(t v:Expr)(l:Nat)(env:Env):swapsWithSole [t] v l env=FV v (some t) l env:=by unfold swapsWithSole;rfl
theorem OU{f:aB→Sem Unit}{i:Nat}{x:SV}{v:aB}(q:lM K i)(d:z.d dV x v)(h:∀ Q,aI (aK K.C.prog K.C.w) A (storeName K.env (nm K.sl i) v) Q nE z.s→aI (aK K.C.prog K.C.w) A (f v) Q nE z.s):Go z dU (K.wp A (f v)) (sZ i x st):=
 IU q d (show dU _ _ _ () () from trivial) fun Q k=>h Q k
noncomputable def MI(K:KK)(f:aB→Sem Unit)(i:Nat):Prop:=∀ {A:aR} {st:St} (z:Z K A st) {x:SV} {v:aB},z.d dV x v→Go z dU (K.wp A (f v)) (sZ i x st)
noncomputable def cY(i:Nat)(q:lM K i:=by exact .inl rfl):PA K:=⟨fun v=>sZ i (.pv v),fun e=>.Name (nm K.sl i) e.pos,fun e _ _ z _ _ d=>OU q (d:z.d dV (.pv _) _) fun Q h=>Yv h⟩
noncomputable def QU:List Nat→List SV→M Unit
 | [],vs=>fun st=>match vs with
  | []=>some ((),st)
  |_::_=>none
 |i::is,vs=>fun st=>match vs with
  |v::vs=>QU is vs {st with loc:=st.loc.set i (some v)}
  | []=>none
theorem aGC(fs:List (aB→Sem Unit)):∀ {st:St} {z:Z K A st} {is:List Nat} {vs:List SV} {ws:List aB},aS (MI K) fs is→z.d dL vs ws→Go z dU (K.wp A (MW fs ws)) (QU is vs st):=by
 induction fs with
 |nil=>intro st z is vs ws h d;subst h;cases vs with
  |nil=>subst d;exact .same trivial fun Q q=>assignInOrder_nil q
  |cons=>exact .no
 |cons f fs ih=>intro st z is vs ws h d;cases h with | mk i is a as=>cases vs with
  |nil=>exact .no
  |cons v vs=>cases d with | mk w ws dv ds=>exact Go.ru (m:=sZ i v) (f:=fun _=>QU is vs) (a z dv) (fun Q q=>assignInOrder_cons q) fun z₁ l _=>ih as (l.l ds)
noncomputable def tS(K:KK)(is:List Nat):Prop:=∀ i∈is,lM K i
theorem LB{is:List Nat}(h:(is.all fun i=>eH K.sl i .local)=true):tS K is:=fun i hi=>.inl (List.all_eq_true.mp h i hi)
theorem LA{is:List Nat}(hf:K.env.func.isSome=true)(h:(is.all fun i=>eH K.sl i .local || eH K.sl i .cell)=true):tS K is:=fun i hi=>
 (Bool.or_eq_true _ _▸List.all_eq_true.mp h i hi:eH K.sl i .local=true∨eH K.sl i .cell=true).imp id fun q=>⟨q,hf⟩
noncomputable def rN(sl:aL)(l:Nat):List Nat→List Expr→List Expr
 | [],_=>[]
 |i::is,es=>.Name (nm sl i) {(dR es).pos with line:=l}::rN sl l is es.tail
theorem Um(l:Nat)(is:List Nat):∀ es,(assignEach (rN K.sl l is es) K.env).length=is.length:=by
 induction is with
 |nil=>exact fun _=>rfl
 |cons i is ih=>exact fun es=>congrArg lK (ih _)
theorem Un(l:Nat)(is:List Nat):∀ es,(assignEach (rN K.sl l is es) K.env).findIdx? (·.1)=none:=by
 induction is with
 |nil=>exact fun _=>rfl
 |cons i is ih=>exact fun es=>by rw [show assignEach (rN K.sl l (i::is) es) K.env=(false,qY (.Name (nm K.sl i) {(dR es).pos with line:=l}) K.env)::assignEach (rN K.sl l is es.tail) K.env from rfl,List.findIdx?_cons,ih];rfl
theorem Ul(l:Nat)(is:List Nat)(q:tS K is):∀ es,aS (MI K) ((assignEach (rN K.sl l is es) K.env).map (·.2)) is:=by
 induction is with
 |nil=>exact fun _=>rfl
 |cons i is ih=>exact fun es=>.mk (fun z _ _ d=>OU (q i (.head _)) d fun Q h=>Yv h) (ih (fun i h=>q i (.tail _ h)) _)
theorem aBC(is:List Nat)(q:tS K is):aS (MI K) (is.map fun i v=>bindName K.env (nm K.sl i) v) is:=by
 induction is with
 |nil=>exact rfl
 |cons i is ih=>exact .mk (fun z _ _ d=>OU (q i (.head _)) d fun Q h=>wpAny_bindName h) (ih fun i h=>q i (.tail _ h))
noncomputable def vO(is:List Nat)(vs:List SV):M Unit:=gd (bR is.length vs.length) (QU is vs)
noncomputable def RG(is:List Nat)(v:PV):M Unit:=match v with
 |.tup xs=>vO is (xs.map .pv)
 |_=>er
theorem aHl{h h':Heap}(e:lI h.objs.size h h')(b:Addr)(o:Obj)(q:h.get? b=some o):h'.get? b=some o:=e b o (qR (mI q)) q
theorem ZO{t:Addr}{vs:List SV}{ws:List aB}{is:List Nat}{f:List (aB→Sem Unit)}{W:WP Unit}(hf:aS (MI K) f is)(d:z.d dL vs ws)
  (h:vs.length=is.length→∀ Q,(∀ h',lI z.s.heap.objs.size z.s.heap h'→aI (aK K.C.prog K.C.w) A (MW f ws) Q nE {z.s with heap:=h'})→W Q z.s):Go z dU W (vO is vs st):=
 .gd fun e a s e' Q q=>h (sG e).symm Q fun h' ex=>aGC (z:=z.to {z.s with heap:=h'} (z.R.still.to h' z.s.toks) (aHl ex)) f hf d a s e' Q fun z' x l=>q z' x l
theorem Fg{is:List Nat}{vs:List SV}{ws:List aB}(d:z.d dL vs ws)(h:vs.length=is.length):is.length=(iU ws).size:=by rw [hZ,←h];exact d.len
theorem Pg{is:List Nat}{p:PV}{v:aB}(q:tS K is)(d:bE K.C z.X.W p v)(l:Nat)(es:List Expr)(k:Nat)(pos:Pos):Go z dU (K.wp A (qY (.Tuple (rN K.sl l is es) k pos) K.env v)) (RG is p st):=by
 cases p with
 |tup xs=>
  cases d with | mk a vs ep hw hl=>
  have d:z.d dL (xs.map .pv) vs:=bO.s (by rw [iC] at hl;exact hl)
  exact ZO (t:=a) (Ul l is q es) d fun e Q k=>assign_Tuple_tuple z.hA.handled ⟨_,z.R.val _ _ hw,rfl,ep,rfl⟩ ((Um l is es).trans (Fg d e)) (Un l is es) k
 |_=>exact .no
noncomputable def aAo(l:Nat)(is:List Nat)(q:tS K is:=by exact LB rfl):PA K:=⟨RG is,fun e=>.Tuple (rN K.sl l is (xs e)) (xk e) e.pos,fun e _ _ z _ _ d=>Pg q d l _ _ _⟩
noncomputable def Fs(is:List Nat)(a:SV):M Unit:=lH a (RG is)
noncomputable def yF(l:Nat)(is:List Nat)(a:PE K)(q:tS K is:=by exact LB rfl)(h:bR a.c 0=false:=by rfl)(hw:∀(k:Nat) (p:Pos) (es:List Expr) (e:Expr),CM [.Tuple (rN K.sl l is es) k p] (a.r e) K.env=pure none:=by intro _ _ _ _;rfl):P1 K:=
 ⟨bd a.m fun v=>bd (Fs is v) fun _=>rt .next,fun t=>.Assign [.Tuple (rN K.sl l is (xs (yT t))) (xk (yT t)) (yT t).pos] (a.r (yE t)) t.pos,
  fun t A _ z=>(a.ok _ z).ru (u:=fun x Q=>K.wp A (qY (.Tuple (rN K.sl l is (xs (yT t))) (xk (yT t)) (yT t).pos) K.env x) fun _=>Q .next) (fun Q k=>Assign_Tuple k ((aOx _ _ _ _).trans (a.sw h _ _ _)) (hw _ _ _ _)) fun z₁ l₁ dx=>
   (Go.onP (T:=fun x=>K.wp A (qY (.Tuple (rN K.sl l is (xs (yT t))) (xk (yT t)) (yT t).pos) K.env x)) dx fun p dp=>Pg q dp l _ _ _).ru (u:=fun _ Q=>Q .next) (fun Q q=>q) fun z₂ l₂ _=>.rt (x:=.next) rfl fun Q q=>q⟩
noncomputable def QS(sc:Scope):Env:={scope:=sc,locals:=0,globals:=0,cells:=[]}
theorem Ey{ts:List Expr}{e:Expr}{env:Env}{sc:Scope}{r:Sem (Option (List Str))}(h:env.scope=sc)(q:CM ts e (QS sc)=r):CM ts e env=r:=by
 rw [←q];unfold CM Env.blockKind Env.kindOf;rw [h];rfl
theorem Yg(z:Z K A st)(ws:List aB):IsTup (z.s.heap.push (mG ws 0)) z.s.heap.objs.size ws.toArray:=⟨_,nY _ rfl,rfl,_,rfl⟩
theorem Xb{n k:Nat}(h:qA n 1000=true)(e:k=n):k≤fO:=e▸gH (aP (bT h) (by decide))
noncomputable def wA(l:Nat)(is:List Nat)(as:kH K){sc:Scope}(he:K.env.scope=sc)(q:tS K is:=by exact LB rfl)(hs:qA is.length 1000=true:=by rfl)
  (hw:∀(k k':Nat) (p p':Pos) (es es':List Expr),CM [.Tuple (rN K.sl l is es) k p] (.Tuple (as.r es') k' p') (QS sc)=pure none:=by intro _ _ _ _ _ _;rfl):P1 K:=
 ⟨bd as.m fun vs=>bd (vO is vs) fun _=>rt .next,fun t=>.Assign [.Tuple (rN K.sl l is (xs (yT t))) (xk (yT t)) (yT t).pos] (.Tuple (as.r (xs (yE t))) (xk (yE t)) (yE t).pos) t.pos,
  fun t A _ z=>(as.ok _ _ z).ru (u:=fun(ws:List aB) (Q:Flow→aG→Prop) s₁=>ws.length≤fO∧aI (aK K.C.prog K.C.w) A (qY (.Tuple (rN K.sl l is (xs (yT t))) (xk (yT t)) (yT t).pos) K.env (.ref s₁.heap.objs.size)) (fun _=>Q .next) nE {s₁ with heap:=s₁.heap.push (mG ws 0)}) (fun Q k=>Assign_Tuple (wpAny_Tuple k) rfl (Ey he (hw _ _ _ _ _ _))) fun {vs st₁ ws} z₁ l₁ ds=>
   .from (z₁.push (mG ws 0) z₁.s.toks) Z.le0 ((ZO (z:=z₁.push (mG ws 0) z₁.s.toks) (t:=z₁.s.heap.objs.size) (W:=fun Q s=>ws.length≤fO∧aI (aK K.C.prog K.C.w) A (qY (.Tuple (rN K.sl l is (xs (yT t))) (xk (yT t)) (yT t).pos) K.env (.ref z₁.s.heap.objs.size)) Q nE s) (Ul l is q _) ds
    fun e Q k=>⟨Xb hs ((aS.len ds).symm.trans e),assign_Tuple_tuple z₁.hA.handled (Yg z₁ ws) ((Um l is _).trans (Fg (z:=z₁) ds e)) (Un l is _) k⟩).ru (u:=fun _ Q=>Q .next) (w':=fun Q s=>ws.length≤fO∧aI (aK K.C.prog K.C.w) A (qY (.Tuple (rN K.sl l is (xs (yT t))) (xk (yT t)) (yT t).pos) K.env (.ref z₁.s.heap.objs.size)) (fun _=>Q .next) nE s) (fun Q q=>q) fun z₂ l₂ _=>.rt (x:=.next) rfl fun Q q=>q) fun Q q=>q⟩
theorem aPb{isr:List Nat}:(isr.reverse.map (nm K.sl)).reverse.map (fun n v=>bindName K.env n v)=isr.map fun i v=>bindName K.env (nm K.sl i) v:=by
 rw [List.map_reverse,iT,List.map_reverse,List.reverse_reverse];rfl
theorem Pf{isr:List Nat}{vs:List SV}{ws:List aB}(q:tS K isr)(hs:qA isr.length 1000=true)(ds:z.d dL vs ws):
  Go z dU (fun Q s₁=>ws.length≤fO∧aI (aK K.C.prog K.C.w) A (unpackItems (.ref s₁.heap.objs.size) (isr.reverse.map (nm K.sl)).length none) (fun items s₂=>aI (aK K.C.prog K.C.w) A (MW ((isr.reverse.map (nm K.sl)).reverse.map fun n=>bindName K.env n) items.reverse) Q nE s₂) nE {s₁ with heap:=s₁.heap.push (mG ws 0)}) (vO isr vs.reverse st):=
 .from (z.push (mG ws 0) z.s.toks) Z.le0 (ZO (z:=z.push (mG ws 0) z.s.toks) (t:=z.s.heap.objs.size) (W:=fun Q s=>ws.length≤fO∧aI (aK K.C.prog K.C.w) A (unpackItems (.ref z.s.heap.objs.size) (isr.reverse.map (nm K.sl)).length none) (fun items s₂=>aI (aK K.C.prog K.C.w) A (MW ((isr.reverse.map (nm K.sl)).reverse.map fun n=>bindName K.env n) items.reverse) Q nE s₂) nE s) (aBC isr q) (aS.rev ds) fun e Q k=>by
  replace e:=(List.length_reverse)▸e
  refine⟨Xb hs ((aS.len ds).symm.trans e),?_⟩
  rw [bQ,List.length_reverse,Fg (z:=z) ds e,show(List.map (fun n=>bindName K.env n) (isr.reverse.map (nm K.sl)).reverse)=_ from aPb]
  exact unpackItems_tuple z.hA.handled (Yg z ws) k) fun Q q=>q
noncomputable def yD(l:Nat)(isr:List Nat)(as:kH K){sc:Scope}(he:K.env.scope=sc)(q:tS K isr:=by exact LB rfl)(hs:qA isr.length 1000=true:=by rfl)
  (hw:∀(k k':Nat) (p p':Pos) (es es':List Expr),CM [.Tuple (rN K.sl l isr.reverse es) k p] (.Tuple (as.r es') k' p') (QS sc)=pure (some (isr.reverse.map (nm K.sl))):=by intro _ _ _ _ _ _;rfl):P1 K:=
 ⟨bd as.m fun vs=>bd (vO isr vs.reverse) fun _=>rt .next,fun t=>.Assign [.Tuple (rN K.sl l isr.reverse (xs (yT t))) (xk (yT t)) (yT t).pos] (.Tuple (as.r (xs (yE t))) (xk (yE t)) (yE t).pos) t.pos,
  fun t A _ z=>(as.ok _ _ z).ru (fun Q k=>Assign_Tuple_swapped (wpAny_Tuple k) rfl (Ey he (hw _ _ _ _ _ _))) fun z₁ l₁ ds=>
   (Pf q hs ds).ru (u:=fun _ Q=>Q .next) (fun Q q=>q) fun z₂ l₂ _=>.rt (x:=.next) rfl fun Q q=>q⟩
end
end
section
open Sem (wp)
structure GG(C:Cx)(c:Nat):Prop where
 ga:nJ C.K (.ref (C.cls c)) "__getattribute__"=some (some (.builtin "object.__getattribute__"))
 gk:nJ C.K (.ref (C.cls c)) "__getattr__"=some none
 sa:nJ C.K (.ref (C.cls c)) "__setattr__"=some (some (.builtin "object.__setattr__"))
 hd:hasDictIn C.K (C.cls c)=true
 over:plainOver C.K (C.cls c)=true
structure SN(C:Cx)(c:Nat)(name:Str)(i:Nat):Prop where
 cls:GG C c
 no:nJ C.K (.ref (C.cls c)) name=some none
 fld:(C.fld c)[i]? =some name
 first:name∉(C.fld c).take i
theorem QZ{name x:Str}(h:name≠x){v:aB}{t:Tok}(e:v= .str x t):v.isStr name=false:=by
 rw [e];show(x==name)=false;exact beq_eq_false_iff_ne.mpr h.symm
theorem aIy{name:Str}:∀ {ns:List Str} {es:List pZ} {i:Nat} {e:pZ},pJ ns (es.map (·.key))→ns[i]? =some name→name∉ns.take i→es[i]? =some e→es.find? (·.key.isStr name)=some e:=by
 intro ns
 induction ns with
 |nil=>intro es i e h hi;cases hi
 |cons x ns ih=>
  intro es i e h hi hf he
  cases es with
  |nil=>exact h.elim
  |cons y es=>
   obtain⟨⟨t,hk⟩,hr⟩:=h
   have hk:y.key= .str x t:=hk
   cases i with
   |zero=>cases hi;cases he;rw [List.find?_cons_of_pos];rw [hk];exact beq_self_eq_true name
   |succ i=>
    rw [Hk,AI,not_or] at hf
    rw [List.find?_cons_of_neg (by rw [QZ hf.1 hk];exact mV)]
    exact ih (i:=i) hr hi hf.2 he
theorem aIA{name:Str}:∀ {ns:List Str} {es:List pZ},pJ ns (es.map (·.key))→name∉ns→es.find? (·.key.isStr name)=none:=by
 intro ns
 induction ns with
 |nil=>intro es h _;cases es with
  |nil=>rfl
  |cons=>exact h.elim
 |cons x ns ih=>
  intro es h hn
  cases es with
  |nil=>exact h.elim
  |cons y es=>
   obtain⟨⟨t,hk⟩,hr⟩:=h
   rw [AI,not_or] at hn
   rw [List.find?_cons_of_neg (by rw [QZ hn.1 hk];exact mV)]
   exact ih hr hn.2
theorem Sv:∀ {ns:List Str} {es:List pZ},pJ ns (es.map (·.key))→es.any (·.refKey)=false:=by
 intro ns
 induction ns with
 |nil=>intro es h;cases es with
  |nil=>rfl
  |cons=>exact h.elim
 |cons x ns ih=>
  intro es h
  cases es with
  |nil=>exact h.elim
  |cons y es=>
   obtain⟨⟨t,hk⟩,hr⟩:=h
   have hk:y.key= .str x t:=hk
   rw [List.any_cons,ih hr,DictEntry.refKey,hk];rfl
theorem Xs{α:Type}{l:List α}{k i:Nat}{x:α}(h:l[i]? =some x)(hi:i < k):(l.take k)[i]? =some x:=by rw [TG,if_pos hi];exact h
theorem Tf{l:List Str}{k i:Nat}{x:Str}(h:x∉l.take i):x∉(l.take k).take i:=fun q=>h (by
 rw [List.take_take] at q;exact List.take_subset_take_left l (Nat.min_le_left ..) q)
section
variable{K:KK}{A:aR}{st:St}{z:Z K A st}
theorem aHN{C:Cx}{X:Xt}{n c i:Nat}{fs:List SV}{o:Obj}{name:Str}{x:SV}(f:sD C c fs.length (fM C X n fs) o)(F:SN C c name i)(e:fs[i]? =some x):∃ v,lookIn name o=some (some v)∧fG C X n x v:=by
 cases f with | mk es ep hc hd hk hv=>
 obtain⟨v,hv,dv⟩:=hv.get e
 refine⟨v,?_,dv⟩
 replace hv:=(iR)▸hv
 cases he:es.toList[i]? with
 |none=>rw [he] at hv;cases hv
 |some e'=>
  rw [he] at hv;cases hv
  unfold lookIn;rw [hd];dsimp only
  exact(aIy hk (Xs F.fld (List.getElem?_eq_some_iff.mp e).1) (Tf F.first) he).symm▸rfl
theorem Rq{C:Cx}{c k:Nat}{p:List aB→Prop}{o:Obj}{name:Str}(f:sD C c k p o)(hn:name∉C.fld c):lookIn name o=some none:=by
 cases f with | mk es ep hc hd hk hv=>
 unfold lookIn;rw [hd];dsimp only
 rw [aIA hk fun q=>hn (List.take_subset _ _ q)];dsimp only
 rw [Sv hk];rfl
theorem QT{x:SV}{v:aB}(d:z.d dV x v):handedIn v=true:=by
 cases x with
 |ref=>cases d.2;rfl
 |pv p=>cases p with
  |none=>subst d;rfl
  |bool=>subst d;rfl
  |_=>cases d <;> rfl
theorem ET{h:Heap}{l dx A:Addr}{o:Obj}(hi:h.get? l=some (instObj A dx))(ho:h.get? dx=some o):InstAt h l (instObj A dx) A (some o):=⟨hi,rfl,rfl,ho⟩
noncomputable def HG(C:Cx)(name:Str)(tab:List (Nat×Nat)):Prop:=∀ c i,tab.lookup c=some i→SN C c name i
theorem aQP{C:Cx}{name:Str}:HG C name []:=fun _ _ e=>nomatch e
noncomputable def qT(K:KK)(name:Str)(f:SV→M SV):Prop:=∀ {A:aR} {st:St} (z:Z K A st) {a:SV} {x:aB},z.d dV a x→Go z dV (K.wp A (getAttr x name true)) (f a st)
noncomputable def eW{α β:Type}(o:Option α)(k:α→M β):M β:=match o with
 |some a=>k a
 |none=>er
theorem Go.onSome{α β δ:Type}{D:Dn β δ}{w:WP δ}{o:Option α}{k:α→M β}(h:∀ a,o=some a→Go z D w (k a st)):Go z D w (eW o k st):=by
 cases o with
 |none=>exact .er
 |some a=>exact h a rfl
noncomputable def fP(tab:List (Nat×Nat))(a:SV):M SV:=JZ a fun c fs=>eW (tab.lookup c) fun i=>eW fs[i]? rt
theorem Vx{name:Str}{tab:List (Nat×Nat)}(T:HG K.C name tab):qT K name (fP tab):=fun z a x d=>
 .onO2 (T:=fun x=>K.wp _ (getAttr x name true)) d fun c fs o=>.onSome fun i qi=>.onSome fun v qv=>by
  cases o with | mk l dx o hi ho f=>
  have F:=T c i qi
  obtain⟨y,hy,dy⟩:=aHN f F qv
  exact .ret (z.tok (z.s.toks+1)) Z.le0 dy fun Q q=>get_value z.R.kIn (ET hi ho) F.cls.ga (findObj_own F.cls.hd F.no rfl hy) (QT (z:=z) dy) q
theorem aBr{e:Expr}{env:Env}{name:Str}{pos:Pos}(h:bR (sQ e) 3=false):eval (.Attribute e name pos) env=(do
   let o ←eval e env
   standAt pos.atName
   let r ←holding [o] (getAttr o name true)
   letTemporaryGo e o r
   pure r):=by
 rw [arm_eval_Attribute,Je h]
noncomputable def aM{name:Str}{f:SV→M SV}(hf:qT K name f)(a:PE K)(h:bR a.c 2=false:=by rfl):PE K:=⟨bd a.m f,fun e=>.Attribute (a.r (x1 e)) name e.pos,3,fun _=>rfl,
 fun e _ _ z=>(a.ok _ z).ru (fun Q q=>Attribute_any_ q (aBr (by rw [a.hc];exact h))) fun z₁ l₁ dx=>hf z₁ dx⟩
noncomputable def WI(c:Nat)(p:PV)(a:SV):M SV:=JZ a fun c' _=>gd (bR c c') (rt (.pv p))
theorem aLN{name:Str}{c:Nat}{v:aB}{p:PV}(F:GG K.C c)(hf:nJ K.C.K (.ref (K.C.cls c)) name=some (some v))(hg:specialIn K.C.K v "__get__"=some none)(hc:copiedNames.contains name=false)(hn:name∉K.C.fld c)(hd:∀ W,bE K.C W p v):qT K name (WI c p):=fun z a x d=>
 .onO2 (T:=fun x=>K.wp _ (getAttr x name true)) d fun c' fs o=>.gd fun qc=>by
  cases sG qc
  cases o with | mk l dx o hi ho f=>
  have dv:z.d dV (.pv p) v:=hd _
  exact .ret (z.tok (z.s.toks+1)) Z.le0 dv fun Q q=>get_value z.R.kIn (ET hi ho) F.ga (findObj_cls F.hd hf hg (QT dv) hc (Rq f hn)) (QT dv) q
theorem aLX{A:aR}{n:Nat}(hA:lC A (n+1)):lC A.in1 n:=⟨hA.handled,(hA.mono (oE n)).depth,aP (lJ (rm (k:=1) (bT rfl)) 200) hA.units⟩
noncomputable def Di(c:Nat)(f:Fn)(a:SV):M SV:=JZ a fun c' _=>gd (bR c c') (lS f [a])
theorem aLO{n:Nat}{name:Str}{c:Nat}{p fget:Addr}{rest:List aB}{f:Fn}(hn:n+1≤K.n)(F:GG K.C c)(ha:nJ K.C.K (.ref (K.C.cls c)) name=some (some (.ref p)))(hg:specialIn K.C.K (.ref p) "__get__"=some (some (.builtin "property.__get__")))(ht:takesIn K.C.K (.ref p)=some true)
  (hp:recIn K.C.K p "property"=some (.ref fget::rest)) (hf:RF K.C n fget f):qT K name (Di c f):=fun {A st} z a x d=>
 .onO2 (T:=fun x=>K.wp _ (getAttr x name true)) d fun c' fs o=>.gd fun qc=>by
  cases sG qc
  cases o with | mk l dx o hi ho f'=>
  have da:(z.tok (z.s.toks+1)).d dV a (.ref l):=d
  exact fun v s e Q q=>get_bind z.R.kIn (ET hi ho) F.ga (findObj_data (by have:=F.hd;unfold hasDictIn at this;obtain⟨cd,hc,_⟩:=any_some this;rw [hc];rfl) ha hg ht) F.gk (wpAny_call (prop_get (s:={z.s with toks:=z.s.toks+1}) z.R.kIn hp
   (NM (IT (z:=z.tok (z.s.toks+1)) hf (aLX (z.hA.mono hn)) (show(z.tok (z.s.toks+1)).d dL [a] [.ref l] from .one da) v s e (fun y s'=>aI (aK K.C.prog K.C.w) A (handedOut y) Q nE s') fun z' y l dy=>by rw [handedOut_of (QT dy)];exact bF (q z' y l dy)) fun v s' h=>h)))
theorem aQB{M:jO}{s:aG}{f:aB}{as:kH K}{es:List Expr}{pos:Pos}{Q:Args→aG→Prop}(h:aI M A (pT (fZ pos (fL (as.r es) K.env))) (fun vs s'=>Q ⟨vs,[]⟩ s') nE s):aI M A (evalArgs f true (fZ pos (fL (as.r es) K.env)) []) Q nE s:=by
 have hp:=as.first es pos
 cases q:fZ pos (fL (as.r es) K.env) with
 |nil=>
  rw [q] at h
  exact aF (fT h fun vs s' h'=>pD (aF (bF (aF (bF (bF h'))))))
 |cons t r=>
  obtain⟨b,x⟩:=t
  cases (show b=false from hp _ _ q)
  rw [q] at h;exact SF h
theorem ZM{as:kH K}{es:List Expr}{pos:Pos}{f:List SV→M SV}{fv:aB}{W:Args→WP aB}{w':WP aB}(hk:∀ Q,aI (aK K.C.prog K.C.w) A (evalArgs fv true (fZ pos (fL (as.r es) K.env)) []) (fun a s₁=>W a Q s₁) nE z.s→w' Q z.s)(h:∀ {st₁:St} {vs:List SV} {ws:List aB} (z₁:Z K A st₁),z.le z₁→z₁.d dL vs ws→Go z₁ dV (W ⟨ws,[]⟩) (f vs st₁)):Go z dV w' (bd as.m f st):=
 (as.ok es pos z).ru (u:=fun ws=>W ⟨ws,[]⟩) (fun Q q=>hk Q (aQB (as:=as) q)) fun z₁ l d=>h z₁ l d
theorem Oq{n:Nat}{fa:Addr}{f:Fn}{vs:List SV}{ws:List aB}(hn:n≤K.n)(hf:RF K.C n fa f)(d:z.d dL vs ws):Go z dV (K.wp A (call (.ref fa) ws)) (lS f vs st):=fun v s e Q q=>
 wpAny_call (NM (IT hf (z.hA.mono hn) d v s e Q q) fun _ _ h=>h)
noncomputable def cG{n:Nat}{fa:Addr}{f:Fn}(i:Nat)(g:Gl K.C (nm K.sl i) (.ref fa))(hi:GL K.C fa)(hf:RF K.C n fa f)(as:kH K)(hn:n≤K.n:=by exact bT rfl)(h:eH K.sl i .globalImplicit=true:=by rfl):PE K:=
 ⟨bd as.m fun vs=>lS f vs,fun e=>.Call (.Name (nm K.sl i) (xq e)) (as.r (xs e)) [] e.pos,2,fun _=>rfl,fun e A st z=>by
  obtain⟨o,fd,ho,hd⟩:=hi
  exact ZM (W:=fun a Q s₁=>(s₁.heap.get? fa=some o∧o.data= .func fd)∧aI (aK K.C.prog K.C.w) A (call (.ref fa) a.pos a.kw) Q nE s₁) (fun Q q=>xV rfl (nV h g (Calls.callWith_function (o:=o) (fd:=fd) (fT q fun a s₁ h=>h)))) fun z₁ l ds=>(Oq hn hf ds).imp fun Q q=>⟨⟨z₁.R.keeps0 _ _ ho,hd⟩,q⟩⟩
end
end
section
open Sem (wp)
structure CW(C:Cx)(c:Nat)(name:Str)(fa:Addr):Prop where
 cls:GG C c
 fn:nJ C.K (.ref (C.cls c)) name=some (some (.ref fa))
 ty:typeIn C.K (.ref fa)=some (.type "function")
 no:name∉C.fld c
 is:GL C fa
structure ME(C:Cx)(c:Nat)(fI:Addr):Prop where
 mkI:makesIn C.K (C.cls c)=true
 init:nJ C.K (.ref (C.cls c)) "__init__"=some (some (.ref fI))
 ty:typeIn C.K (.ref fI)=some (.type "function")
 keep:keepIn C.K (.ref (C.cls c))=true
noncomputable def IY(c:Nat)(a:SV):M Unit:=JZ a fun c' _=>gd (bR c c') (rt ())
section
variable{K:KK}{A:aR}{st:St}{z:Z K A st}{n c:Nat}{name:Str}{fa:Addr}{f:Fn}
theorem Oz(d:z.d dV a x):Go z dU (fun Q s=>(∃ fs,GX K z c fs x)∧s=z.s∧Q () s) (IY c a st):=
 .onO2 (T:=fun x Q s=>(∃ fs,GX K z c fs x)∧s=z.s∧Q () s) d fun c' fs o=>.gd fun q=>.same trivial fun Q q'=>⟨⟨fs,sG q▸o⟩,rfl,q'⟩
theorem Sk(h:(apos.endLine==pos.line)=true):methodCallPos true o env apos pos=pure pos:=by unfold methodCallPos;simp [h]
theorem aMm(F:CW K.C c name fa)(f:sD K.C c k p o):shadowIn (some o) name=some false:=by
 show(lookIn name o).map _=_
 rw [Rq f F.no];rfl
theorem aQD{M:jO}(hl:(apos.endLine==pos.line)=true)(hfew:JK k args kws=true)
  (hg:∀(pl:Sem Bool) (Q:aB×List aB→aG→Prop),Q (.ref fa,[x]) s→aI M A (getMethod x name pl) Q E s) (h:aI M A (oO pos (.ref fa) [x] args kws) Q E s):aI M A (JJ o name apos pos env x k args kws) Q E s:=by
 unfold JJ
 refine(hfew).symm▸?_
 exact aF (pD (hg _ _ (aF (dS (Sk hl) h))))
theorem Oj(F:CW K.C c name fa)(o:GX K z c fs x)(h:Q (.ref fa,[x]) z.s):aI (aK K.C.prog K.C.w) A (getMethod x name pl) Q nE z.s:=by
 cases o with | mk l dx o hi ho f'=>exact method_fn z.R.kIn (ET hi ho) F.cls.ga F.cls.gk F.fn F.ty (aMm F f') h
noncomputable def gT(F:CW K.C c name fa)(rf:RF K.C n fa f)(a:PE K)(as:kH K)(hn:n≤K.n:=by exact bT rfl)(h:bR a.c 2=false:=by rfl)(hk:bV as.k 30=true:=by rfl):PE K:=
 ⟨bd a.m fun x=>bd (IY c x) fun _=>bd as.m fun vs=>lS f (x::vs),fun e=>.Call (.Attribute (a.r (x1 (x1 e))) name (xq e)) (as.r (xs e)) [] (nI e),4,fun _=>rfl,fun e A st z=>by
  obtain⟨o,fd,ho,hd⟩:=F.is
  refine(a.ok _ z).ru (u:=fun x Q s=>aI (aK K.C.prog K.C.w) A (JJ (a.r (x1 (x1 e))) name (xq e) (nI e) K.env x _ (fZ (nI e) (fL (as.r (xs e)) K.env)) (backToKw (nI e) (PK [] K.env))) Q nE s)
   (fun Q q=>by rw [KK.wp,arm_eval_Call,a.ab h];exact aF (fT q fun x s q=>aF (Gh q))) fun {a₁ st₁ x} z₁ l₁ dx=> ?_
  refine(Oz dx).ru (u:=fun _=>K.wp A (oO (nI e) (.ref fa) [x] (fZ (nI e) (fL (as.r (xs e)) K.env)) [])) (fun Q q=>aQD (EA e) (as.few hk _ _) (fun pl Q k=>q.1.elim fun fs o=>Oj F o k) q.2.2) fun z₂ l₂ _=> ?_
  exact ZM (fun Q q=>Calls.callWith_function q) fun z₃ l₃ ds=>(Oq hn rf (z₃.cons ((l₂.t l₃).v dx) ds)).imp fun Q q=>⟨⟨z₃.R.keeps0 _ _ ho,hd⟩,q⟩⟩
noncomputable def QD(c:Nat)(f:Fn)(args:List SV):M SV:=fun st=>match lS f (.ref st.cells.length::args) {st with cells:=st.cells++[.inst c []]} with
 |some (.pv .none,st')=>some (.ref st.cells.length,st')
 |_=>none
noncomputable def Z.insX(z:Z K A st):Xt:=(z.X.add (sz z) (.cell st.cells.length) z.X.ρ z.X.δ).add (sz z+1) (.cell st.cells.length) (pV z.X.ρ st.cells.length (sz z+1)) (pV z.X.δ st.cells.length (sz z))
noncomputable def Z.insH(z:Z K A st)(c:Nat):Heap:=(z.s.heap.push emptyDict).push (instObj (K.C.cls c) (sz z))
theorem Z.insG(z:Z K A st)(c:Nat):(z.insH c).get? (sz z)=some emptyDict∧(z.insH c).get? (sz z+1)=some (instObj (K.C.cls c) (sz z)):=
 ⟨gR _ (nY _ rfl),by unfold Z.insH;rw [←Heap.size_push z.s.heap emptyDict];exact nY _ rfl⟩
theorem Tr.trans{X Y Z:Xt}(a:Tr ex X h n Y h' m)(b:Tr ex Y h' m Z h'' k):Tr ex X h n Z h'' k:=
 ⟨a.low.trans b.low,fun x r e q=>let p:=a.keep x r e q;let p':=b.keep x r p.1 q;⟨p'.1,p'.2.trans p.2⟩,fun x r e=>(b.new x r e).elim (fun q=>(a.new x r q.1).imp id fun v=>v.same (b.keep x r q.1 q.2).2) .inr⟩
theorem Z.insTr(z:Z K A st)(c:Nat):Tr (fun _=>false) z.X z.s.heap st.cells.length z.insX (z.insH c) (st.cells++[SO.inst c []]).length:=by
 have T:Tr (fun _=>false) z.X z.s.heap st.cells.length (z.X.add (sz z) (.cell st.cells.length) z.X.ρ z.X.δ) (z.s.heap.push emptyDict) st.cells.length:=
  .add z.R.val (z.R.fresh (cX _)) (fun _ _ e=>gR _ e) ⟨_,nY _ rfl⟩ (cX _) fun _ _=>rfl
 refine T.trans (.add (fun a r e=>(T.new a r e).elim (fun q=>(z.R.val a r q.1).same (T.keep a r q.1 q.2).2) id) ?_ (fun _ _ e=>gR _ e) ⟨_,(z.insG c).2⟩ (by rw [xA];exact oE _) RL)
 rw [HK (TP _)];exact z.R.fresh (oE _)
noncomputable def Z.ins(z:Z K A st)(c:Nat):Z K A ⟨st.loc,st.cells++[.inst c []]⟩:=⟨z.insX,{z.s with heap:=z.insH c},z.hA,(z.insTr c).rel z.R (z.R.still.to _ z.s.toks) (fun _=>rfl) rfl rfl (fun _=>rfl)
 (WY (fun _=>rfl) RL (.mk emptyDict (by show z.insX.W (pV _ _ _ _)=_;rw [pX];exact DI) (by show z.insX.W (pV _ _ _ _)=_;rw [pX];exact(HK (TP _).symm).trans DI) (by show pV _ _ _ _≠pV _ _ _ _;rw [pX,pX];exact TP _)
  (by show(z.insH c).get? (pV _ _ _ _)=some (instObj _ (pV _ _ _ _));rw [pX,pX];exact(z.insG c).2) (by show(z.insH c).get? (pV _ _ _ _)=_;rw [pX];exact(z.insG c).1) (.mk #[] 0 ⟨rfl,rfl,rfl⟩ rfl (trivial:pJ (List.take 0 _) []) rfl)))⟩
theorem aGn(hn:n+1≤K.n)(F:ME K.C c fI)(rf:RF K.C n fI f)(d:z.d dL vs ws):Go z dV (K.wp A (call (.ref (K.C.cls c)) ws)) (QD c f vs st):=by
 intro v s e Q q
 unfold QD at e
 cases ce:lS f (.ref st.cells.length::vs) {st with cells:=st.cells++[.inst c []]} with
 |none=>rw [ce] at e;cases e
 |some p=>
  obtain⟨r,st'⟩:=p
  rw [ce] at e
  have dself:(z.ins c).d dV (.ref st.cells.length) (.ref (sz z+1)):=⟨by show _ < (st.cells++[_]).length;rw [xA];exact xY _,congrArg qB pX.symm⟩
  have le:z.le (z.ins c):=(z.insTr c).le (fun _=>rfl) fun _=>rfl
  have hA:=z.hA.mono hn
  have hA':lC (A.under (.builtin "type.__call__" ⟨.ref (K.C.cls c)::ws,[]⟩)) n:=⟨hA.handled,aP (rm (bT rfl)) hA.depth,aP (lJ (rm (bT rfl)) 200) hA.units⟩
  refine wpAny_call (make_core (makes_of z.R.kIn F.mkI) (looks_findIn z.R.kIn F.init) (fun self=>bind_fn z.R.kIn self F.ty) (.inl rfl) (NM (IT rf hA' ((z.ins c).cons dself (le.l d)) r st' ce (fun y s'=>y= .none∧∀ _:y= .none,Q (.ref (sz z+1)) s') fun z' y l dy=> ?_) fun v s' h=> ?_))
  ·cases r with
   |ref=>cases e
   |pv p=>cases p with
    |none=>cases e;subst dy;exact⟨rfl,fun _=>q z' _ (le.t l) (l.v dself)⟩
    |_=>cases e
  ·exact⟨h.1,h.2 h.1⟩
noncomputable def mM(i:Nat)(g:Gl K.C (nm K.sl i) (.ref (K.C.cls c)))(F:ME K.C c fI)(rf:RF K.C n fI f)(as:kH K)(hn:n+1≤K.n:=by exact bT rfl)(h:eH K.sl i .globalImplicit=true:=by rfl):PE K:=
 ⟨bd as.m fun vs=>QD c f vs,fun e=>.Call (.Name (nm K.sl i) (xq e)) (as.r (xs e)) [] e.pos,2,fun _=>rfl,fun e A st z=>
  ZM (fun Q q=>xV rfl (nV h g (callWith_of (by rw [as.noStar];rfl) (keeps_K F.keep) q))) fun z₁ l ds=>(aGn hn F rf ds).imp fun Q q=>⟨z₁.R.kIn,q⟩⟩
end
end
section
open Sem (wp)
section
variable{K:KK}{A:aR}{st:St}{z:Z K A st}
theorem aFl(hc:o.ExactDict)(hd:o.data= .dict es ep):o=dictOf es.toList ep:=by
 obtain⟨c,d,dt,sl⟩:=o
 obtain⟨rfl,rfl,rfl⟩:=hc
 subst hd
 rfl
theorem aJj{C:Cx}{x Cl:Addr}(D:s.heap.get? dx=some (dictOf es ep))(X:C.K.In s.heap)
  (I:InstAt s.heap x ox Cl (some od)) (hdx:ox.dict=some dx) (hp:plainOver C.K Cl=true) (ht:takerIn C.K Cl name=some none) (hh:(clsIn C.K Cl).any (·.hasDict)=true)
  (href:es.any (·.refKey)=false) (e:GW name (yC C.w.params name) (.str name s.toks) v (dictOf es ep)=dictOf es' ep') (hz:es'.length≤1000)
  (h:R (.ok (.ret .none)) {s with heap:=s.heap.update dx (GW name (yC C.w.params name) (.str name s.toks) v),toks:=s.toks+1}):
  codeAny (aK C.prog C.w) A (.call (.builtin "object.__setattr__") ⟨[.ref x,.str name tk,v],[]⟩) R s:=by
 refine osa_open X I hp ht fun b=> ?_
 obtain⟨cd,hc,hd'⟩:=any_some hh
 obtain⟨hx,hcl,hn,-⟩:=I
 obtain⟨oc,odi,oda,osl⟩:=ox
 dsimp only at hcl hdx
 subst hcl hdx
 refine aF (bF (aF (aF (wpAny_loadPart hx (aF ((looks_clsIn X hc).here ?_))))))
 refine(hd').symm▸?_
 refine bF (aF (bF (aF ?_)))
 refine aF (aF (wpAny_askSetting (bF (aF (wpAny_mkText (aF (wpAny_loadPart D ?_)))))))
 dsimp only
 have c:(!es.toArray.any (·.key.isStr name) && es.toArray.any (·.refKey))=false:=by
  rw [←Array.any_toList,←Array.any_toList]
  simp only [href,RV]
 rw [aRefKeyMayBeTheName_at,c]
 refine wpAny_updatePart D ?_
 have D':(s.heap.update dx (GW name (yC C.w.params name) (.str name s.toks) v)).get? dx=some (dictOf es' ep'):=by
  rw [←e]
  exact uN _ D (by rw [e];rfl)
 refine aF (Gf D' (pastItsLine_dict (GQ (gH (ub hz rfl)))) ?_)
 exact bF h
noncomputable def OO(fs:List SV)(i:Nat)(v:SV):Option (List SV):=match bV i fs.length with
 |true=>some (fs.set i v)
 |false=>match bR i fs.length with
  |true=>some (fs++[v])
  |false=>none
theorem aJB:∀ {ns:List Str} {es:List pZ} {i:Nat},pJ ns (es.map (·.key))→ns[i]? =some name→name∉ns.take i→
  (putL name hsh key v es).map (·.key)=es.map (·.key)∧(putL name hsh key v es).map (·.val)=(es.map (·.val)).set i v:=by
 intro ns
 induction ns with
 |nil=>intro es i h hi;cases hi
 |cons x ns ih=>
  intro es i h hi hf
  cases es with
  |nil=>exact h.elim
  |cons y es=>
   obtain⟨⟨t,hk⟩,hr⟩:=h
   have hk:y.key= .str x t:=hk
   cases i with
   |zero=>cases hi;rw [putL,if_pos ((hk).symm▸beq_self_eq_true _)];exact⟨rfl,rfl⟩
   |succ i=>
    rw [Hk,AI,not_or] at hf
    obtain⟨a,b⟩:=ih hr hi hf.2
    rw [putL,if_neg (by rw [QZ hf.1 hk];exact mV)]
    exact⟨congrArg (y.key:: ·) a,congrArg (y.val:: ·) b⟩
theorem aJC:∀ {ns:List Str} {es:List pZ},pJ ns (es.map (·.key))→name∉ns→putL name hsh key v es=es++[⟨hsh,key,v⟩]:=by
 intro ns
 induction ns with
 |nil=>intro es h _;cases es with
  |nil=>rfl
  |cons=>exact h.elim
 |cons x ns ih=>
  intro es h hn
  cases es with
  |nil=>exact h.elim
  |cons y es=>
   obtain⟨⟨t,hk⟩,hr⟩:=h
   have hk:y.key= .str x t:=hk
   rw [AI,not_or] at hn
   rw [putL,if_neg (by rw [QZ hn.1 hk];exact mV),ih hr hn.2];rfl
theorem pJ.len:∀ {ns:List Str} {vs:List aB},pJ ns vs→ns.length=vs.length:=by
 intro ns
 induction ns with
 |nil=>intro vs h;cases vs with
  |nil=>rfl
  |cons=>exact h.elim
 |cons x ns ih=>intro vs h;cases vs with
  |nil=>exact h.elim
  |cons v vs=>exact congrArg lK (ih h.2)
theorem pJ.snoc:∀ {ns:List Str} {vs:List aB},pJ ns vs→pJ (ns++[x]) (vs++[.str x t]):=by
 intro ns
 induction ns with
 |nil=>intro vs h;cases vs with
  |nil=>exact⟨⟨t,rfl⟩,trivial⟩
  |cons=>exact h.elim
 |cons y ns ih=>intro vs h;cases vs with
  |nil=>exact h.elim
  |cons v vs=>exact⟨h.1,ih h.2⟩
theorem aJD{es:Array pZ}(F:SN C c name i)(hk:pJ ((C.fld c).take fs.length) (es.toList.map (·.key)))(hv:fM C X n fs (es.toList.map (·.val)))(e:OO fs i v=some fs')(d:fG C X n v y):
  pJ ((C.fld c).take fs'.length) ((putL name hsh (.str name t) y es.toList).map (·.key))∧fM C X n fs' ((putL name hsh (.str name t) y es.toList).map (·.val)):=by
 have e:(match bV i fs.length with | true=>some (fs.set i v) | false=>(match bR i fs.length with | true=>some (fs++[v]) | false=>none))=some fs':=e
 cases q:bV i fs.length with
 |true=>
  rw [q] at e;cases e
  have hlt:=Nat.blt_eq.mp q
  obtain⟨e1,e2⟩:=aJB hk (Xs F.fld hlt) (Tf F.first)
  refine(e1).symm▸(e2).symm▸(List.length_set).symm▸?_
  exact⟨hk,aS.set d i hv⟩
 |false=>
  replace e:=(q)▸e
  have e:(match bR i fs.length with | true=>some (fs++[v]) | false=>none)=some fs':=e
  cases q':bR i fs.length with
  |false=>rw [q'] at e;cases e
  |true=>
   rw [q'] at e;cases e
   have heq:=sG q'
   rw [aJC hk ((heq)▸F.first),cU,cU,fE]
   refine⟨?_,aS.app hv (.one d)⟩
   rw [show fs.length+ [v].length=fs.length+1 from rfl,Hi,←heq,F.fld,heq]
   exact hk.snoc
noncomputable def Cu{α:Type}(a:SV)(k:Nat→Nat→List SV→M α):M α:=fun st=>match a with
 |.ref i=>match st.cells[i]? with
  |some (.inst c fs)=>k i c fs st
  |_=>none
 |_=>none
theorem Go.onOC{α δ:Type}{D:Dn α δ}{T:aB→WP δ}{k:Nat→Nat→List SV→M α}(d:z.d dV a x)(h:∀ i c fs,Ha K.C z.X i c z.s.heap (sD K.C c fs.length (fM K.C z.X st.cells.length fs))→Go z D (T (.ref (z.X.ρ i))) (k i c fs st)):Go z D (T x) (Cu a k st):=by
 cases a with
 |pv=>exact .no
 |ref i=>
  unfold Mine.Cu;dsimp only
  cases q:st.cells[i]? with
  |none=>exact .no
  |some c=>cases c with
   |inst c fs=>cases d.2;exact h i c fs (z.R.cells _ _ q)
   |_=>exact .no
noncomputable def fK(tab:List (Nat×Nat))(a v:SV):M Unit:=Cu a fun k c fs=>eW (tab.lookup c) fun i=>eW (OO fs i v) fun fs' st=>some ((),fD st k (.inst c fs'))
noncomputable def ML(K:KK)(name:Str)(f:SV→SV→M Unit):Prop:=∀ {A:aR} {st:St} (z:Z K A st) {a b:SV} {x y:aB},z.d dV a x→z.d dV b y→Go z dU (K.wp A (setAttr x name y)) (f a b st)
theorem aMa{name:Str}{tab:List (Nat×Nat)}(T:HG K.C name tab)(hsz:∀ c,(K.C.fld c).length≤20):ML K name (fK tab):=fun {A st} z a b x y dx dy=>
 .onOC (T:=fun x=>K.wp A (setAttr x name y)) dx fun k c fs I=>.onSome fun i qi=>.onSome fun fs' qf=>by
  have F:=T c i qi
  cases I with | mk o hw hw' ne hi ho f=>
  cases f with | mk es ep hc hd hk hv=>
  obtain⟨h1,h2⟩:=aJD F hk hv qf dy
  have ho':=aFl hc hd▸ho
  have hput:GW name (yC K.C.w.params name) (.str name (z.s.toks+1)) y (dictOf es.toList ep)=dictOf (putL name (yC K.C.w.params name) (.str name (z.s.toks+1)) y es.toList) (putN name es.toList ep):=putName_dict ..
  have hlen:(putL name (yC K.C.w.params name) (.str name (z.s.toks+1)) y es.toList).length≤1000:=by
   have:=h1.len
   rw [CU,bQ] at this
   exact(this)▸aP (Nat.min_le_right ..) (aP (hsz c) (by decide))
  have D':(z.s.heap.update (z.X.δ k) (GW name (yC K.C.w.params name) (.str name (z.s.toks+1)) y)).get? (z.X.δ k)=some (dictOf (putL name (yC K.C.w.params name) (.str name (z.s.toks+1)) y es.toList) (putN name es.toList ep)):=by
   rw [←hput];exact uN _ ho' (by rw [hput];rfl)
  have sb:=sE z.s.heap (z.X.δ k) (GW name (yC K.C.w.params name) (.str name (z.s.toks+1)) y)
  have ht:takerIn K.C.K (K.C.cls c) name=some none:=by unfold takerIn;rw [F.no];rfl
  refine .setC (x:=()) _ (z.s.toks+1+1) hw' sb ⟨_,D'⟩ (.mk _ hw hw' ne ((sb.2 _ ne).trans hi) D' (.mk _ _ ⟨rfl,rfl,rfl⟩ rfl (by simpa using h1) (by simpa using h2))) trivial fun Q q=>set_plain z.R.kIn (ET hi ho) F.cls.sa ?_
  exact aJj ho' z.R.kIn (ET hi ho) rfl F.cls.over ht F.cls.hd (Sv hk) hput hlen q
noncomputable def eY(hf:ML K name f)(a o:PE K)(h:bR a.c 0=false:=by rfl):P1 K:=
 ⟨bd a.m fun c=>bd o.m fun x=>bd (f x c) fun _=>rt .next,fun t=>.Assign [.Attribute (o.r (x1 (yT t))) name (yT t).pos] (a.r (yE t)) t.pos,
  fun t _ _ z=>(a.ok _ z).ru (fun Q q=>plainObj_wpAny_Assign_Attribute q (a.sw h _ _ _)) fun z₁ l₁ dc=>(o.ok _ z₁).bd fun z₂ l₂ dx=>(hf z₂ dx (l₂.v dc)).ru (fun Q q=>q) fun z₃ l₃ _=>.rt rfl fun Q q=>q⟩
noncomputable def wD(K:KK)(f:SV→SV→SV→M Unit):Prop:=∀ {A:aR} {st:St} (z:Z K A st) {a b c:SV} {x y u:aB},z.d dV a x→z.d dV b y→z.d dV c u→Go z dU (K.wp A (rV x y u)) (f a b c st)
noncomputable def lL(hf:wD K f)(a o i:PE K)(h:bR a.c 0=false:=by rfl):P1 K:=
 ⟨bd a.m fun c=>bd o.m fun x=>bd i.m fun y=>bd (f x y c) fun _=>rt .next,fun t=>.Assign [.Subscript (o.r (x1 (yT t))) (i.r (x2 (yT t))) (yT t).pos] (a.r (yE t)) t.pos,
  fun t _ _ z=>(a.ok _ z).ru (fun Q q=>wpAny_Assign_Subscript q (a.sw h _ _ _)) fun z₁ l₁ dc=>(o.ok _ z₁).bd fun z₂ l₂ dx=>(i.ok _ z₂).bd fun z₃ l₃ dy=>(hf z₃ (l₃.v dx) dy ((l₂.t l₃).v dc)).ru (fun Q q=>q) fun z₄ l₄ _=>.rt rfl fun Q q=>q⟩
theorem aGl(q:lM K i):Go z dV (K.wp A (loadName K.env (nm K.sl i))) (aA i st):=
 .getLoc fun v hl=>by
  have F:=z.R.fr
  rcases q with q | ⟨q,_⟩
  ·obtain⟨m,hns,hs⟩:=F.ns
   obtain⟨y,hy,dy⟩:=hs i _ v (kC q) hl
   exact .same dy fun Q h=>wpAny_loadName_local F.st.kind (F.st.kinds (kC q)) hns hy h
  ·obtain⟨c,v₀,hc,hW,ic,hs⟩:=F.cell i _ (kC q)
   obtain⟨y,e,dy⟩:=hs v hl
   exact .same dy fun Q h=>wpAny_loadName_cell F.st.kind (F.st.kinds (kC q)) hc (e▸ic) h
noncomputable def mY(i:Nat)(hf:gA K (BO op) f)(a:PE K)(q:lM K i:=by exact .inl rfl):P1 K:=
 ⟨bd (aA i) fun x=>bd a.m fun y=>bd (f x y) fun c=>bd (sZ i c) fun _=>rt .next,fun t=>.AugAssign (.Name (nm K.sl i) (yT t).pos) op (a.r (yE t)) t.pos,
  fun t A _ z=>(aGl q).ru (fun Q h=>wpAny_AugAssign_Name h) fun z₁ l₁ dx=>(a.ok _ z₁).bd fun z₂ l₂ dy=>(hf z₂ (l₂.v dx) dy).ru (fun Q h=>h) fun z₃ l₃ dr=>IU q dr (rfl:dF _ _ _ Fl.next Flow.next) fun Q k=>k⟩
noncomputable def Ht(hg:qT K name g)(hk:ML K name k)(hf:gA K (BO op) f)(o a:PE K):P1 K:=
 ⟨bd o.m fun x=>bd (g x) fun y=>bd a.m fun b=>bd (f y b) fun c=>bd (k x c) fun _=>rt .next,fun t=>.AugAssign (.Attribute (o.r (x1 (yT t))) name (yT t).pos) op (a.r (yE t)) t.pos,
  fun t _ _ z=>(o.ok _ z).ru (fun Q h=>wpAny_AugAssign_AttributeAny h) fun z₁ l₁ dx=>(hg z₁ dx).bd fun z₂ l₂ dy=>(a.ok _ z₂).bd fun z₃ l₃ db=>(hf z₃ (l₃.v dy) db).bd fun z₄ l₄ dc=>(hk z₄ ((l₂.t (l₃.t l₄)).v dx) dc).ru (fun Q q=>q) fun z₅ l₅ _=>.rt rfl fun Q q=>q⟩
end
end
section
variable{K:KK}{A:aR}{st:St}{z:Z K A st}
theorem aIc(b c:Array UInt8):iQ (b.toList.map cH++c.toList.map cH)=iQ ((b++c).toList.map cH):=by rw [Array.toList_append,cU]
theorem Lh(b c:Str):lN (b.cps.toList++c.cps.toList)=lN (b++c).cps.toList:=by rw [Str.cps_append,Array.toList_append]
theorem aOZ{a b:Array UInt8}(h:(a.toList.map cH).length+(b.toList.map cH).length≤1000000):a.size+b.size≤16777216:=by
 rw [bQ,bQ,pY,pY] at h;exact aP h (by decide)
theorem Xo{a b:Str}(h:a.cps.toList.length+b.cps.toList.length≤1000000):a.length+b.length≤fO:=by
 rw [pY,pY] at h;exact gH h
theorem Ex{xs ys:List PV}{vs ws:List aB}(a:bO K.C z.X xs vs)(b:bO K.C z.X ys ws)(h:xs.length+ys.length≤1000000):(iU vs).size+(iU ws).size≤fO:=by
 exact(hZ).symm▸(hZ).symm▸(a.len)▸(b.len)▸gH h
theorem Te{xs:List PV}{vs:List aB}(a:bO K.C z.X xs vs)(h:xs.isEmpty=false):¬(iU vs).isEmpty=true:=by
 cases xs with
 |nil=>cases h
 |cons=>cases a;exact mV
theorem Iu{vs ws:List aB}:(iU vs++iU ws)=(vs++ws).toArray:=List.append_toArray ..
noncomputable def Ss(a b:List PV):Bool:=match a.isEmpty,b.isEmpty with
 |false,false=>true
 |_,_=>false
theorem Su{a b:List PV}(h:Ss a b=true):a.isEmpty=false∧b.isEmpty=false:=by
 cases a with
 |nil=>cases h
 |cons=>cases b with
  |nil=>cases h
  |cons=>exact⟨rfl,rfl⟩
noncomputable def bM(a b:SV):M SV:=
 gM a (fun i=>gM b (fun j=>rt (.pv (.int (i+j)))) er)
 (kQ a (fun l=>kQ b (fun m=>dM (l.length+m.length) (rt (.pv (.bytes (l++m))))) er)
 (zP a (fun l=>zP b (fun m=>dM (l.length+m.length) (rt (.pv (.str (l++m))))) er)
 (CA a (fun l=>CA b (fun m=>dM (l.length+m.length) (gd (Ss l m) (rt (.pv (.tup (l++m)))))) er)
 (iD a (fun l=>iD b (fun m=>dM (l.length+m.length) fun st=>some (.ref st.cells.length,⟨st.loc,st.cells++[.list (l++m)]⟩)) er) er))))
theorem cO:gA K (jR .Add) bM:=fun {A st} z a b x y dx dy=>
 .onI (T:=fun x=>K.wp A (jR .Add x y)) dx (fun i t=>.onI (T:=fun y=>K.wp A (jR .Add (.int i t) y)) dy (fun j u=>.tok (fun k=>jN.mk k) fun Q q=>by with_reducible exact add_int (q _ _)) .er)
 (.onB (T:=fun x=>K.wp A (jR .Add x y)) dx (fun b t=>.onB (T:=fun y=>K.wp A (jR .Add (.bytes b t) y)) dy (fun c u=>.fit fun h=>.tok (fun k=>show iQ _ _ from aIc b c▸iQ.mk (b++c) k) fun Q q=>by with_reducible exact KBy.add_bytes (aOZ h) fun t k=>q k t) .er)
 (.onS (T:=fun x=>K.wp A (jR .Add x y)) dx (fun b t=>.onS (T:=fun y=>K.wp A (jR .Add (.str b t) y)) dy (fun c u=>.fit fun h=>.tok (fun k=>show lN _ _ from Lh b c▸lN.mk (b++c) k) fun Q q=>by with_reducible exact add_str (fun t k=>q k t) (Xo h)) .er)
 (.onT (T:=fun x=>K.wp A (jR .Add x y)) dx (fun l a vs ep _ ha la=>.onT (T:=fun y=>K.wp A (jR .Add (.ref a) y)) dy (fun m b ws ep' _ hb lb=>.fit fun h=>.gd fun e=>.newT z.s.toks (la.app lb) fun Q q=>by
  with_reducible refine wpAny_binaryOp_concat (RI ha) (RI hb) noFill_tuple_add seq_tuple_add (mO F.slot_tuple_add (RI ha) F.entry_tuple_add (F.args_tuple_add_2 _ _) (AutoSeq1.tuple___add___tuple_tuple_2 _ _ ep _ _ ep' (Te la (Su e).1) (Te lb (Su e).2) (Ex la lb h)) ⟨ha,hb,?_⟩)
  rw [Iu];exact q) .er)
 (.onL (T:=fun x=>K.wp A (jR .Add x y)) dx (fun l a vs ep ha la=>.onL (T:=fun y=>K.wp A (jR .Add (.ref a) y)) dy (fun m b ws ep' hb lb=>.fit fun h=>.newL z.s.toks (la.app lb) fun Q q=>by
  with_reducible refine wpAny_binaryOp_concat (qH ha) (qH hb) noFill_list_add seq_list_add (mO F.slot_list_add (qH ha) F.entry_list_add (F.args_list_add_2 _ _) (AutoSeq1.list___add___list_list_0 _ _ ep _ _ ep' (Ex la lb h)) ⟨ha,hb,?_⟩)
  rw [Iu];exact q) .er) .er))))
noncomputable def bX(f:Int→Int→Option Int)(a b:SV):M SV:=gM a (fun i=>gM b (fun j=>eW (f i j) fun r=>rt (.pv (.int r))) er) er
theorem CI{t:aB→aB→Sem aB}{f:Int→Int→Option Int}(h:∀ {A:aR} {s:aG} {a b r:Int} {x y:Tok} {Q:aB→aG→Prop},f a b=some r→(∀ k,Q (.int r k) {s with toks:=s.toks+1})→aI (aK K.C.prog K.C.w) A (t (.int a x) (.int b y)) Q nE s):gA K t (bX f):=fun {A st} z a b x y dx dy=>
 .onI (T:=fun x=>K.wp A (t x y)) dx (fun i u=>.onI (T:=fun y=>K.wp A (t (.int i u) y)) dy (fun j v=>.onSome fun r e=>.tok (fun k=>jN.mk k) fun Q q=>h e (q _)) .er) .er
noncomputable def eM(a b:Int):Option Int:=some (a - b)
theorem gY:gA K (jR .Sub) (bX eM):=CI fun e h=>by cases e;with_reducible exact sub_int (h _)
noncomputable def FT(a:Int):Bool:=decide (-4611686018427387904 < a) && decide (a < 4611686018427387904)
theorem Et{a:Int}(h:FT a=true): -4611686018427387904 < a∧a < 4611686018427387904:=by
 have:=hJ _ _▸h;exact⟨of_decide_eq_true this.1,of_decide_eq_true this.2⟩
theorem aOv{a:Int}(h:FT a=true):Builtin.Int.intBits a≤64:=by
 exact intBits_le_64 (Int.lt_trans (by decide) (Et h).1) (Int.lt_trans (Et h).2 (by decide))
noncomputable def IW(b:Bool)(x:Int):Option Int:=match b with
 |true=>some x
 |false=>none
theorem OX{b:Bool}{x r:Int}(e:IW b x=some r):b=true∧x=r:=by
 cases b with
 |true=>cases e;exact⟨rfl,rfl⟩
 |false=>cases e
noncomputable def So(a b:Int):Option Int:=IW (FT b) (a*b)
theorem aIr{A:aR}{s:aG}{a b r:Int}{t u:Tok}{Q:aB→aG→Prop}(e:So a b=some r)(h:∀ k,Q (.int r k) {s with toks:=s.toks+1}):aI (aK K.C.prog K.C.w) A (jR .Mult (.int a t) (.int b u)) Q nE s:=by
 obtain⟨q,rfl⟩:=OX e;with_reducible exact mul_int (h _) (.of_right (aOv q))
noncomputable def mA(a b:Int):Option Int:=IW (!decide (b=0)) (a.fmod b)
theorem By{p:Prop}[Decidable p](h:(!decide p)=true):¬p:=by simpa using h
theorem sY:gA K (jR .Mod) (bX mA):=CI fun e h=>by obtain⟨q,rfl⟩:=OX e;with_reducible exact mod_int' (By q) (h _)
noncomputable def BJ(a b:Int):Option Int:=IW (!decide (b=0) && FT b) (a.fdiv b)
theorem Td{a b:Int}(h:FT b=true):Zj a b=false:=by
 have hb:b.natAbs < 2 ^ 63:=by
  have h:=Et h
  cases b with
  |ofNat n=>exact DB (Int.ofNat_lt.mp h.2) (bT rfl)
  |negSucc n=>exact DB (Int.ofNat_lt.mp (Int.lt_of_neg_lt_neg h.1)) (bT rfl)
 unfold Zj
 have:b.natAbs.log2≤63:=by
  by_cases z:b.natAbs=0
  ·rw [z];decide
  ·exact DA ((Nat.log2_lt z).mpr hb)
 have hd:¬((if (b==0)=true then 0 else b.natAbs.log2 / 30+1) > 300):=
  Nat.not_lt.mpr (iteInduction (motive:=(·≤300)) (fun _=>jP _) fun _=>aP (kZ (aP (Nat.div_le_self _ _) this)) (bT rfl))
 exact Bool.and_eq_false_iff.mpr (.inl (decide_eq_false hd))
theorem FO:gA K (jR .FloorDiv) (bX BJ):=CI fun e h=>by
 obtain⟨q,rfl⟩:=OX e
 have q:=hJ _ _▸q
 with_reducible exact floordiv_int (By q.1) (h _) (.inl (Td q.2))
noncomputable def Wq(a b:Int):Option Int:=IW (decide (0≤b)) (a.fdiv (2 ^ b.toNat))
theorem aLJ:gA K (jR .RShift) (bX Wq):=CI fun e h=>by obtain⟨q,rfl⟩:=OX e;with_reducible exact rshift_int (of_decide_eq_true q) (h _)
noncomputable def Ip(a b:Int):Option Int:=some (Builtin.bitAnd a b)
theorem aLd:gA K (jR .BitAnd) (bX Ip):=CI fun e h=>by cases e;with_reducible exact and_int (h _)
noncomputable def wQ(f:Int→Int→Bool)(a b:SV):M Bool:=gM a (fun i=>gM b (fun j=>rt (f i j)) er) er
theorem QQ{op:CmpOp}{f:Int→Int→Bool}(h:∀ {A:aR} {s:aG} {a b:Int} {t u:Tok} {Q:aB→aG→Prop},Q (.bool (f a b)) s→aI (aK K.C.prog K.C.w) A (eT op (.int a t) (.int b u)) Q nE s):jX K (eT op) (wQ f):=fun {A st} z a b x y dx dy=>
 .onI (T:=fun x=>K.wp A (eT op x y)) dx (fun i u=>.onI (T:=fun y=>K.wp A (eT op (.int i u) y)) dy (fun j v=>.rt rfl fun Q q=>h q) .er) .er
theorem nO:jX K (eT .Lt) (wQ fun a b=>decide (a < b)):=QQ fun h=>by with_reducible exact lt_int h
theorem aLq:jX K (eT .LtE) (wQ fun a b=>decide (a≤b)):=QQ fun h=>by with_reducible exact le_int h
theorem zR:jX K (eT .Gt) (wQ fun a b=>decide (b < a)):=QQ fun h=>by with_reducible exact gt_int h
theorem FP:jX K (eT .GtE) (wQ fun a b=>decide (b≤a)):=QQ fun h=>by with_reducible exact ge_int h
noncomputable def JY{α:Type}(a:SV)(k e:M α):M α:=match a with
 |.pv .none=>k
 |_=>e
theorem Go.onN{α δ:Type}{D:Dn α δ}{T:aB→WP δ}{a:SV}{x:aB}{k e:M α}(d:z.d dV a x)(h:Go z D (T .none) (k st))(h':(x==Value.none)=false→Go z D (T x) (e st)):Go z D (T x) (JY a k e st):=by
 cases a with
 |ref=>cases d.2;exact h' rfl
 |pv p=>cases p with
  |none=>subst d;exact h
  |bool=>subst d;exact h' rfl
  |_=>cases d <;> exact h' rfl
noncomputable def oS(a b:SV):M Bool:=JY b (JY a (rt true) (rt false)) er
noncomputable def qD(a b:SV):M Bool:=JY b (JY a (rt false) (rt true)) er
theorem rU:jX K (eT .Is) oS:=fun {A st} z a b x y dx dy=>
 .onN (T:=fun y=>K.wp A (eT .Is x y)) dy (.onN (T:=fun x=>K.wp A (eT .Is x .none)) dx (.rt rfl fun Q q=>is_none q) fun e=>.rt rfl fun Q q=>is_none (by rw [e];exact q)) fun _=>.er
theorem Qd{M:jO}{E:aB→aG→Prop}{s:aG}{v:aB}{Q:aB→aG→Prop}(h:Q (.bool (!(v==Value.none))) s):aI M A (eT .IsNot v .none) Q E s:=by
 cases v <;> exact fun Γ p hΓ=>h
theorem xK:jX K (eT .IsNot) qD:=fun {A st} z a b x y dx dy=>
 .onN (T:=fun y=>K.wp A (eT .IsNot x y)) dy (.onN (T:=fun x=>K.wp A (eT .IsNot x .none)) dx (.rt rfl fun Q q=>Qd q) fun e=>.rt rfl fun Q q=>Qd (by rw [e];exact q)) fun _=>.er
theorem PO{n:Nat}(h:n≤1000000):(n:Int) < 2 ^ 63:=Int.lt_of_lt_of_le (Int.ofNat_lt.mpr (TO h)) (by decide)
noncomputable def Ri(a:SV):M SV:=kQ a (fun l=>dM l.length (rt (.pv (.int l.length)))) (iD a (fun l=>dM l.length (rt (.pv (.int l.length)))) er)
end
section
variable{K:KK}{A:aR}{st:St}{z:Z K A st}
theorem Rj{b:Array UInt8}:((b.toList.map cH).length:Int)=b.size:=by rw [bQ,pY]
theorem aHG{xs:List PV}{vs:List aB}(d:bO K.C z.X xs vs):(xs.length:Int)=(iU vs).size:=by rw [hZ,←d.len]
theorem Az{n:Nat}(h:n≤1000000):n≤1099511627776:=aP h (by decide)
theorem EU{i j:Int}(e:i=j)(k:Tok):z.d dV (.pv (.int i)) (.int j k):=e▸jN.mk k
theorem aLt:jW K (fun v=>call (.builtin "len") [v]) Ri:=fun {A st} z a x dx=>
 .onB (T:=fun x=>K.wp A (call (.builtin "len") [x])) dx (fun b t=>.fitB fun h=>.tok (EU Rj) fun Q q=>PySem.W.len_bytes (Az h) (q _ _))
 (.onL (T:=fun x=>K.wp A (call (.builtin "len") [x])) dx (fun xs l vs ep hl dl=>.fitL dl fun h=>.tok (EU (aHG dl)) fun Q q=>call_len_list ⟨_,hl,rfl,_,rfl⟩ (PO h) (q _ _)) .er)
noncomputable def zX(a:SV):M Bool:=Ts a rt (kQ a (fun l=>dM l.length (rt (!l.isEmpty))) (iD a (fun l=>dM l.length (rt (!l.isEmpty))) er))
theorem aIG{b:Array UInt8}:(!(b.toList.map cH).isEmpty)=((b.size:Int) != 0):=by
 obtain⟨l⟩:=b
 cases l with
 |nil=>rfl
 |cons=>exact(bne_iff_ne.mpr fun e=>by cases e).symm
theorem aEL{xs:List PV}{vs:List aB}(d:bO K.C z.X xs vs):xs.isEmpty=(iU vs).isEmpty:=by
 cases xs with
 |nil=>subst d;rfl
 |cons=>cases d;rfl
theorem Go.bool{w:WP Bool}{b c:Bool}(e:b=c)(h:∀ Q,(∀ t,Q c {z.s with toks:=t})→w Q z.s):Go z dB w (Mine.rt b st):=Go.tok (x:=fun _=>c) (fun _=>(e:dB _ _ _ b c)) fun Q q=>h Q fun t=>q t 0
theorem jC:Hz K truthy zX:=fun {A st} z a x dx=>
 .onO (T:=fun x=>K.wp A (truthy x)) dx (fun b=>.rt rfl fun Q q=>uI q)
 (.onB (T:=fun x=>K.wp A (truthy x)) dx (fun b t=>.fitB fun h=>.bool aIG fun Q q=>truthy_bytes (Az h) (q _))
 (.onL (T:=fun x=>K.wp A (truthy x)) dx (fun xs l vs ep hl dl=>.fitL dl fun h=>.bool (congrArg _ (aEL dl)) fun Q q=>wpAny_truthy_list ⟨_,hl,rfl,_,rfl⟩ (PO h) (q _)) .er))
noncomputable def pC(K:KK)(A:aR)(x y:aB):WP aB:=fun Q s=>∃ T id,s.TypeIs x T∧xT (.type T) "__getitem__"=pure (some (.builtin id))∧aI (aK K.C.prog K.C.w) A (getItem x y) Q nE s
noncomputable def wF(K:KK)(f:SV→SV→M SV):Prop:=∀ {A:aR} {st:St} (z:Z K A st) {a b:SV} {x y:aB},z.d dV a x→z.d dV b y→Go z dV (pC K A x y) (f a b st)
noncomputable def cJ{f:SV→SV→M SV}(hf:wF K f)(a b:PE K):PE K:=⟨bd a.m fun x=>bd b.m fun y=>f x y,fun e=>.Subscript (a.r (x1 e)) (b.r (x2 e)) e.pos,3,fun _=>rfl,
 fun e A _ z=>(a.ok _ z).ru (fun Q q=>Subscript_ q) fun z₁ l₁ dx=>(b.ok _ z₁).bd fun z₂ l₂ dy=>(hf z₂ (l₂.v dx) dy).imp fun Q ⟨T,id,hT,hl,hg⟩=>tail_any hT hl hg (aOY (b.hc _) _ _)⟩
theorem Wh{k:Int}{m:Nat}(h0:0≤k)(h:k.toNat < m):seqIndex? k m=some k.toNat:=by
 unfold seqIndex?
 have h1:¬k < 0:=Int.not_lt.mpr h0
 have h2:k < (m:Int):=(Int.toNat_lt h0).mp h
 simp [h1,h2,h0]
noncomputable def ZU{α:Type}(i:Int)(k:Nat→M α):M α:=gd (decide (0≤i) && decide (i < 1000000)) (k i.toNat)
theorem Px{i:Int}(h:(decide (0≤i) && decide (i < 1000000))=true):0≤i∧i < 2 ^ 63:=by
 have h:=hJ _ _▸h
 exact⟨of_decide_eq_true h.1,Int.lt_trans (of_decide_eq_true h.2) (by decide)⟩
theorem Go.idx{α δ:Type}{D:Dn α δ}{w:WP δ}{i:Int}{k:Nat→M α}(h:0≤i→i < 2 ^ 63→Go z D w (k i.toNat st)):Go z D w (ZU i k st):=.gd fun q=>h (Px q).1 (Px q).2
theorem aBN{b:Array UInt8}{i v:Nat}(e:(b.toList.map cH)[i]? =some v):(b.toList.getD i 0).toNat=v:=by
 rw [iR] at e
 obtain⟨c,hc,rfl⟩:=Option.map_eq_some_iff.mp e
 rw [LQ,hc];rfl
theorem FE{α:Type}{l:List α}{i:Nat}{v:α}(e:l[i]? =some v):i < l.length:=(List.getElem?_eq_some_iff.mp e).1
theorem HL{l:List aB}{i:Nat}{v:aB}(e:l[i]? =some v):(iU l)[i]? =some v:=by rw [List.getElem?_toArray];exact e
noncomputable def IZ(a b:SV):M SV:=gM b (fun i=>ZU i fun k=>
 CA a (fun xs=>eW xs[k]? fun y=>rt (.pv y))
 (kQ a (fun l=>eW l[k]? fun y=>dM l.length (rt (.pv (.int y))))
 (iD a (fun xs=>eW xs[k]? fun y=>rt (.pv y)) er))) er
theorem aLl:wF K IZ:=fun {A st} z a b x y dx dy=>
 .onI (T:=fun y=>pC K A x y) dy (fun i u=>.idx fun h0 h1=>
  .onT (T:=fun x=>pC K A x (.int i u)) dx (fun xs l vs ep _ hl dl=>.onSome fun v e=>by
   obtain⟨w,hw,dw⟩:=dl.get e
   have hi:i.toNat < (iU vs).size:=by rw [hZ];exact FE hw
   exact .same dw fun Q q=>⟨"tuple",_,RI hl,F.slot_tuple_getitem.lookup,getItem_tuple (j:=i.toNat) (x:=w) ⟨_,hl,rfl,_,rfl⟩ (Int.le_trans (by decide) h0) h1 (Wh h0 hi) (HL hw) q⟩)
  (.onB (T:=fun x=>pC K A x (.int i u)) dx (fun b t=>.onSome fun v e=>.fitB fun h=>by
   have hlt:=FE e
   rw [bQ] at hlt
   exact .tok (fun k=>jN.mk k) fun Q q=>⟨"bytes",_,iE _ _ _,FB.slot_bytes_getitem.lookup,by
    have:=PySem.W.getItem_bytes (prog:=K.C.prog) (w:=K.C.w) (A:=A) (E:=nE) (s:=z.s) (l:=b.toList) (t:=t) (i:=i) (u:=u) (Q:=Q) (Az (by rw [pY];exact h)) h0 (by rw [←SR h0];exact Int.ofNat_lt.mpr hlt) ((aBN e).symm▸q _ _)
    simpa using this⟩)
  (.onL (T:=fun x=>pC K A x (.int i u)) dx (fun xs l vs ep hl dl=>.onSome fun v e=>by
   obtain⟨w,hw,dw⟩:=dl.get e
   exact .same dw fun Q q=>⟨"list",_,qH hl,F.slot_list_getitem.lookup,wpAny_getItem_list (x:=w) ⟨_,hl,rfl,_,rfl⟩ h0 h1 (HL hw) q⟩) .er))) .er
end
section
variable{K:KK}{A:aR}{st:St}{z:Z K A st}{α β:Type}{D:Dn α β}
theorem Bh(e:f vs.toArray=vs'.toArray):fX f (bY vs ep)=bY vs' (if vs'.toArray.size==vs.toArray.size then ep else ep+1):=by
 show({cls:=.type "list",data:=.seq (f vs.toArray) (if (f vs.toArray).size==vs.toArray.size then ep else ep+1)}:Obj)=_
 exact(e).symm▸rfl
theorem Go.updL(hw:z.X.W (z.X.ρ i)=some (.cell i))(ho:z.s.heap.get? (z.X.ρ i)=some (bY vs ep))(e:f vs.toArray=vs'.toArray)(hl:bO K.C z.X xs' vs')(t:Nat)
  (d:D K.C z.X st.cells.length b x) (h:∀ Q,Q x {z.s with heap:=z.s.heap.update (z.X.ρ i) (fX f),toks:=t}→w Q z.s):Go z D w (some (b,fD st i (.list xs'))):=by
 have g:(z.s.heap.update (z.X.ρ i) (fX f)).get? (z.X.ρ i)=some (bY vs' (if vs'.toArray.size==vs.toArray.size then ep else ep+1)):=by rw [←Bh e];exact uN _ ho rfl
 exact .setC _ t hw (sE ..) ⟨_,g⟩ (.mk _ hw g (.mk _ _ hl)) d h
theorem Ry(h:n≤1000000):n+1≤fO:=aP (kZ h) (by unfold fO;decide)
noncomputable def JS(k:Nat)(c:SO):M SV:=fun st=>some (.pv .none,fD st k c)
noncomputable def dD(a b:SV):M SV:=qK a (fun k xs=>lH b fun p=>dM xs.length (JS k (.list (xs++[p])))) er
theorem jB:gA K (fun x y=>call (.builtin "list.append") [x,y]) dD:=fun {A st} z a b x y dx dy=>
 .onC (T:=fun x=>K.wp A (call (.builtin "list.append") [x,y])) dx (fun i xs vs ep hw ho dl=>.onP (T:=fun y=>K.wp A (call (.builtin "list.append") [.ref (z.X.ρ i),y])) dy fun p dp=>.fitL dl fun h=>.updL hw ho (by rw [Hg]) (dl.app (.one dp)) _ rfl fun Q q=>
  mO Gx (qH ho) F.entry_list_append (F.args_list_append_2 _ _) (Zg _ vs.toArray ep y (gH h)) ⟨ho,q⟩) .er
noncomputable def aQM(a:SV):M SV:=qK a (fun k xs=>dM xs.length (JS k (.list xs.reverse))) er
noncomputable def Ar(a:SV):M SV:=qK a (fun k xs=>eW xs.getLast? fun y=>dM xs.length fun st=>some (.pv y,fD st k (.list xs.dropLast))) er
theorem Vv:jW K (fun x=>call (.builtin "list.pop") [x]) Ar:=fun {A st} z a x dx=>
 .onC (T:=fun x=>K.wp A (call (.builtin "list.pop") [x])) dx (fun i xs vs ep hw ho dl=>.onSome fun y e=>.fitL dl fun h=>by
  replace e:=(List.getLast?_eq_getElem?)▸e
  obtain⟨w,hw',dw⟩:=dl.get e
  replace hw':=(dl.len)▸hw'
  have hpos:0 < vs.length:=sH (jP _) (FE hw')
  refine .updL (vs':=vs.dropLast) (t:=z.s.toks) hw ho ?_ (by rw [Hd,Hd,dl.len];exact dl.take _) dw fun Q q=>
   mO F.slot_list_pop (qH ho) F.entry_list_pop (F.args_list_pop_1 _) (MeetsSeq.list_pop_last _ vs.toArray ep w (by simpa using hw') (gH h)) ⟨ho,q⟩
  simp only [hZ,List.eraseIdxIfInBounds_toArray]
  congr 1
  rw [Hd,List.eraseIdx_eq_take_drop_succ,Hn hpos,List.drop_length,gK]) .er
noncomputable def Qz(a b:SV):M SV:=qK a (fun k xs=>match xs with
 |y::xs=>gM b (fun i=>gd (decide (i=0) && decide (xs.length≤100000)) fun st=>some (.pv y,fD st k (.list xs))) er
 | []=>er) er
theorem aLB:gA K (fun x y=>call (.builtin "list.pop") [x,y]) Qz:=fun {A st} z a b x y dx dy=>
 .onC (T:=fun x=>K.wp A (call (.builtin "list.pop") [x,y])) dx (fun i xs vs ep hw ho dl=>by
  cases xs with
  |nil=>exact .er
  |cons p xs=>
   cases dl with | mk w ws dw dl=>
   refine .onI (T:=fun y=>K.wp A (call (.builtin "list.pop") [.ref (z.X.ρ i),y])) dy (fun j t=>.gd fun e=> ?_) .er
   have e:=hJ _ _▸e
   cases of_decide_eq_true e.1
   have hz:=of_decide_eq_true e.2
   rw [dl.len] at hz
   have hs:(iU (w::ws)).size=ws.length+1:=hZ
   exact .updL (t:=z.s.toks) hw ho (by simp) dl dw fun Q q=>
    mO F.slot_list_pop (qH ho) F.entry_list_pop (F.args_list_pop_2 _ _) (MeetsSeq.list_pop_at _ (w::ws).toArray ep 0 t 0 w (by kernel_rfl) (Wh (by decide) (by rw [hs];exact Nat.succ_pos _)) rfl (by rw [hs];exact Ry (aP hz (by decide)))) ⟨ho,q⟩) .er
noncomputable def BU(a b:SV):M SV:=qK a (fun k xs=>iD b (fun ys=>dM (xs.length+ys.length) (JS k (.list (xs++ys)))) er) er
theorem Vp:gA K (fun x y=>call (.builtin "list.extend") [x,y]) BU:=fun {A st} z a b x y dx dy=>
 .onC (T:=fun x=>K.wp A (call (.builtin "list.extend") [x,y])) dx (fun i xs vs ep hw ho dl=>.onL (T:=fun y=>K.wp A (call (.builtin "list.extend") [.ref (z.X.ρ i),y])) dy (fun ys l ws ep' hb db=>.fit fun h=>.updL (f:=fun a=>a++ws.toArray) hw ho (by simp) (dl.app db) _ rfl fun Q q=>by
  have hs:=Ex dl db h
  have hz:vs.length+ws.length≤1000000:=(dl.len)▸(db.len)▸h
  have hl:Builtin.List.listTooLong (vs.length+ws.length)=false:=decide_eq_false (Nat.not_lt.mpr (gH hz))
  refine mO F.slot_list_extend (qH ho) F.entry_list_extend (F.args_list_extend_2 _ _) (AutoSeq1.list_extend_list_list_0 _ vs.toArray ep _ ws.toArray ep' ?_ (aP (oD ..) hs) (GQ hs)) ⟨ho,hb,q⟩
  rw [hZ,hZ,hl,RV];exact mV) .er) .er
theorem aMh(ho:s.heap.get? l=some {cls:=.type "list",data:=.seq items ep})
  (h0:0≤k) (hfit:k < 2 ^ 63) (hj:k.toNat < items.size) (hQ:Q () {s with heap:=s.heap.update l (fX (·.setIfInBounds k.toNat v))}):
  aI (aK K.C.prog K.C.w) A (rV (.ref l) (.int k t) v) Q nE s:=by
 have hl:s.heap.IsList l items:=⟨_,ho,rfl,ep,rfl⟩
 unfold rV
 try with_reducible refine pD ?_
 first | refine aF (bF ?_) | skip
 refine aF (wpAny_sequenceKey hl.typeIs rfl ?_)
 refine aF (wpAny_callSpecial?_slot hl.typeIs slot_list_setitem
  (RM slot_list_setitem hl.typeIs entry_list_setitem ?_ (args_list_setitem _ _ _)))
 show aI _ _ (Builtin.List.listSubscript? (.int k t) >>= _) _ _ s
 refine aF (wpAny_listSubscript_int (fitsIndex_of h0 hfit) ?_)
 clear hfit
 obtain⟨j,rfl⟩:=SQ h0
 have hj:j < items.size:=hj
 refine aF (aF (wpAny_seqItemAt ho rfl (bF ?_)))
 refine(Array.getElem?_eq_getElem hj).symm▸?_
 refine aF (wpAny_setSeqItemAt ho rfl ?_)
 first
  |exact aF (bF (bF ⟨.none,rfl,bF hQ⟩))
  |exact bF ⟨.none,rfl,bF hQ⟩
noncomputable def Wl(a b c:SV):M Unit:=qK a (fun k xs=>gM b (fun i=>ZU i fun j=>lH c fun y=>gd (bV j xs.length) fun st=>some ((),fD st k (.list (xs.set j y)))) er) er
theorem aLE:wD K Wl:=fun {A st} z a b c x y u dx dy du=>
 .onC (T:=fun x=>K.wp A (rV x y u)) dx (fun k xs vs ep hw ho dl=>.onI (T:=fun y=>K.wp A (rV (.ref (z.X.ρ k)) y u)) dy (fun i t=>.idx fun h0 h1=>.onP (T:=fun u=>K.wp A (rV (.ref (z.X.ρ k)) (.int i t) u)) du fun p dp=>.gd fun e=>
  .updL (t:=z.s.toks) hw ho (by simp) (dl.set dp _) trivial fun Q q=>aMh ho h0 h1 (by rw [hZ,←dl.len];exact Nat.blt_eq.mp e) q) .er) .er
noncomputable def jJ(a b:SV):M SV:=gM a (fun i=>gM b (fun j=>rt (.pv (.int (i+j)))) er) (zP a (fun l=>zP b (fun m=>dM (l.length+m.length) (rt (.pv (.str (l++m))))) er) er)
theorem nN:gA K (BO .Add) jJ:=fun {A st} z a b x y dx dy=>
 .onI (T:=fun x=>K.wp A (BO .Add x y)) dx (fun i t=>.onI (T:=fun y=>K.wp A (BO .Add (.int i t) y)) dy (fun j u=>.tok (fun k=>jN.mk k) fun Q q=>by with_reducible exact iadd_int (q _ _)) .er)
 (.onS (T:=fun x=>K.wp A (BO .Add x y)) dx (fun b t=>.onS (T:=fun y=>K.wp A (BO .Add (.str b t) y)) dy (fun c u=>.fit fun h=>.tok (fun k=>show lN _ _ from Lh b c▸lN.mk (b++c) k) fun Q q=>by with_reducible exact P.iadd_str (PySem.SB.post_add (Xo h) fun t k=>q k t)) .er) .er)
theorem Vt:gA K (BO .Sub) (bX eM):=CI fun e h=>by cases e;with_reducible exact isub_int (h _)
noncomputable def cR(a:SV):M Unit:=qK a (fun _ _=>rt ()) er
theorem gP:sM K "list" cR:=fun {A st} z a x d=>
 .onC (T:=fun x Q s=>s.TypeIs x "list"∧(∀ l,x= .ref l→∃ ob,s.heap.get? l=some ob∧ob.dict=none)∧Q () s) d (fun i xs vs ep hw ho dl=>.same trivial fun Q q=>⟨qH ho,fun l e=>by cases e;exact⟨_,ho,rfl⟩,q⟩) .er
noncomputable def Ad(a:SV):M Unit:=zP a (fun _=>rt ()) er
theorem aJM:sM K "str" Ad:=fun {A st} z a x d=>
 .onS (T:=fun x Q s=>s.TypeIs x "str"∧(∀ l,x= .ref l→∃ ob,s.heap.get? l=some ob∧ob.dict=none)∧Q () s) d (fun b t=>.same trivial fun Q q=>⟨typeIs_str _ _ _,fun l e=>(nomatch e),q⟩) .er
theorem jA:mJ "list" "append" "list.append":=⟨SJ,Gx,F.type_list_append⟩
theorem Bl:mJ "list" "pop" "list.pop":=⟨SJ,F.slot_list_pop,F.type_list_pop⟩
theorem Sm:mJ "list" "extend" "list.extend":=⟨SJ,F.slot_list_extend,F.type_list_extend⟩
theorem aQN:mJ "list" "reverse" "list.reverse":=⟨SJ,F.slot_list_reverse,F.type_list_reverse⟩
end
section
variable{K:KK}{A:aR}{st:St}{z:Z K A st}
theorem BV{s:aG}{it:Addr}{o:Obj}{T:String}{target:Expr}{v:aB}{Q:Unit→aG→Prop}{prog:hO}{w:dW}{E:aB→aG→Prop}(ho:s.heap.get? it=some o)(hc:o.cls= .type T)
  (hT:(["enumerate","zip","dict_itemiterator","dict_reverseitemiterator","odict_iterator","itertools.zip_longest","itertools.pairwise"]:List String).contains T=false) (h:Q () s):aI (aK prog w) A (JE target (.ref it) v) Q E s:=by
 have key:aI (aK prog w) A (match (qB it,v) with
  |(.ref r,.ref a)=>do
   let o ←load r
   match o.cls,o.data with
   |.type n,.fields vs=>
    if (["enumerate","zip","dict_itemiterator","dict_reverseitemiterator","odict_iterator","itertools.zip_longest","itertools.pairwise"]:List String).contains n && vs[0]? ==some (rawInt a) then do
     rule "for.unpacks-the-owned-tuple"
     updateField r 0 .none
    else pure ()
   |_,_=>pure ()
  |_=>pure ()) Q E s:=by
  cases v with
  |ref a=>
   refine aF (vS ho ?_)
   refine(hc).symm▸?_
   cases o.data with
   |fields vs=>dsimp only;exact(hT).symm▸bF h
   |_=>exact bF h
  |_=>exact bF h
 cases target <;> first | exact bF h | exact key
noncomputable def BQ(T:String)(v:aB)(i:Nat)(o:Obj):Prop:=o.cls= .type T∧o.data= .fields #[v,.int i 0]
theorem BQ.at{T:String}{v:aB}{i:Nat}{o:Obj}{h:Heap}{it:Addr}(p:BQ T v i o)(ho:h.get? it=some o):∃ o,h.get? it=some o∧o.cls= .type T∧o.data= .fields #[v,.int i 0]:=⟨o,ho,p.1,p.2⟩
theorem Bx{P:PV→aB→Prop}{cells:List SO}{xs:List PV}{vs:List aB}{i:Nat}(d:aS P xs vs)(e:lG xs cells i=some none):(iU vs)[i]? =none:=by
 have:=List.getElem?_eq_none_iff.mp (iW e)
 rw [List.getElem?_toArray];exact List.getElem?_eq_none_iff.mpr (d.len▸this)
theorem aGU{C:Cx}{l it:Addr}{vs:List aB}{ep:Nat}{xs:List PV}:pG C it (lG xs) (BQ "list_iterator" (.ref l)) (fun X _=>X.W l=some (.fro (bY vs ep))∧bO C X xs vs) where
 mono l h:=⟨l.fro _ _ h.1,bO.mono l h.2⟩
 item y ok ho hp hx hq:=by
  obtain⟨v,hv,dv⟩:=ok.2.get (iW hx)
  exact Yx (hp.at ho) ⟨_,y.R.val _ _ ok.1,rfl,_,rfl⟩ (HL hv) fun h' ⟨o',ho',hc',hd'⟩ sb=>hq v h' o' _ dv sb ho' ⟨hc',hd'⟩
 fin y hh ok ho hp hx hq:=Yw hh (hp.at ho) ⟨_,y.R.val _ _ ok.1,rfl,_,rfl⟩ (Bx ok.2 hx) fun h' ex=>hq h' _ ex
 self ho hp hq:=wpAny_pyIter_listiter (hp.at ho) hq
 lets ho hp hq:=BV ho hp.1 (by decide+kernel) hq
theorem aGX{C:Cx}{l it:Addr}{vs:List aB}{ep:Nat}{xs:List PV}:pG C it (lG xs) (BQ "tuple_iterator" (.ref l)) (fun X _=>X.W l=some (.fro (mG vs ep))∧bO C X xs vs) where
 mono l h:=⟨l.fro _ _ h.1,bO.mono l h.2⟩
 item y ok ho hp hx hq:=by
  obtain⟨v,hv,dv⟩:=ok.2.get (iW hx)
  exact wpAny_pyNext_tuple_item (hp.at ho) ⟨_,y.R.val _ _ ok.1,rfl,_,rfl⟩ (HL hv) fun h' ⟨o',ho',hc',hd'⟩ sb=>hq v h' o' _ dv sb ho' ⟨hc',hd'⟩
 fin y hh ok ho hp hx hq:=wpAny_pyNext_tuple_end hh (hp.at ho) ⟨_,y.R.val _ _ ok.1,rfl,_,rfl⟩ (Bx ok.2 hx) fun h' ex=>hq h' _ ex
 self ho hp hq:=wpAny_pyIter_tupleiter (hp.at ho) hq
 lets ho hp hq:=BV ho hp.1 (by kernel_rfl) hq
theorem aGS{C:Cx}{k:Nat}{a it:Addr}:pG C it (xG k) (BQ "list_iterator" (.ref a)) (fun X n=>k < n∧X.ρ k=a) where
 mono l h:=⟨AK h.1 l.n,(l.ρ k h.1).trans h.2⟩
 item {A cells i o p Q} y ok ho hp hx hq:=by
  have hx:(match cells[k]? with | some (.list ys)=>some ys[i]? | _=>none)=some (some p):=hx
  cases q:cells[k]? with
  |none=>rw [q] at hx;cases hx
  |some c=>rw [q] at hx;cases c with
   |list ys=>cases y.R.cells _ _ q with | mk o hw ho' r=>cases r with | mk vs ep hl=>
    rw [ok.2] at ho'
    obtain⟨v,hv,dv⟩:=hl.get (iW hx)
    exact Yx (hp.at ho) ⟨_,ho',rfl,_,rfl⟩ (HL hv) fun h' ⟨o',ho',hc',hd'⟩ sb=>hq v h' o' _ dv sb ho' ⟨hc',hd'⟩
   |_=>cases hx
 fin {A cells i o Q} y hh ok ho hp hx hq:=by
  have hx:(match cells[k]? with | some (.list ys)=>some ys[i]? | _=>none)=some none:=hx
  cases q:cells[k]? with
  |none=>rw [q] at hx;cases hx
  |some c=>rw [q] at hx;cases c with
   |list ys=>cases y.R.cells _ _ q with | mk o hw ho' r=>cases r with | mk vs ep hl=>
    rw [ok.2] at ho'
    exact Yw hh (hp.at ho) ⟨_,ho',rfl,_,rfl⟩ (Bx (cells:=[]) hl hx) fun h' ex=>hq h' _ ex
   |_=>cases hx
 self ho hp hq:=wpAny_pyIter_listiter (hp.at ho) hq
 lets ho hp hq:=BV ho hp.1 (by decide+kernel) hq
noncomputable def NF(l:List Nat):List PV:=l.map fun x=>.int (x:Nat)
theorem aGR{C:Cx}{b:Array UInt8}{t:Tok}{it:Addr}:pG C it (lG (NF (b.toList.map cH))) (BQ "bytes_iterator" (.bytes b t)) (fun _ _=>True) where
 mono _ _:=trivial
 item y ok ho hp hx hq:=by
  have hx:=iW hx
  unfold NF at hx
  rw [iR,iR,Option.map_map] at hx
  obtain⟨c,hc,e⟩:=Option.map_eq_some_iff.mp hx
  subst e
  exact KBw.next_item (hp.at ho) (c:=c) ((FZ)▸hc) fun h' ⟨o',ho',hc',hd'⟩ sb=>hq _ h' o' _ (.mk _) sb ho' ⟨hc',hd'⟩
 fin y hh ok ho hp hx hq:=KBw.next_end hh (hp.at ho) (by
  have hx:=iW hx
  unfold NF at hx
  rw [←FZ];simpa using hx) fun h' ex=>hq h' _ ex
 self ho hp hq:=KBw.pyIter_self (hp.at ho) hq
 lets ho hp hq:=BV ho hp.1 (by kernel_rfl) hq
noncomputable def qL:Nat→Int→Int→List PV
 |0,_,_=>[]
 |k+1,x,c=>.int x::qL k (x+c) c
theorem Vn(a c:Int)(i:Nat):a+c+i*c=a+((i+1:Nat):Int)*c:=by
 rw [Int.natCast_add,Int.add_mul,Int.natCast_one,Int.one_mul,Int.add_assoc,Int.add_comm c]
theorem aLa(c:Int)(k:Nat):∀ {x:Int} {i:Nat} {y:PV},(qL k x c)[i]? =some y→i < k∧y= .int (x+i*c):=by
 induction k with
 |zero=>intro x i y h;cases h
 |succ k ih=>
  intro x i y h
  cases i with
  |zero=>cases h;exact⟨Nat.succ_pos _,by simp⟩
  |succ i=>obtain⟨a,rfl⟩:=ih (i:=i) h;exact⟨Nat.succ_lt_succ a,by rw [Vn]⟩
theorem aLb(c:Int)(k:Nat):∀ x,(qL k x c).length=k:=by
 induction k with
 |zero=>exact fun _=>rfl
 |succ k ih=>exact fun x=>congrArg lK (ih _)
noncomputable def aGN(a c:Int)(k:Int)(i:Nat)(o:Obj):Prop:=o= {cls:=.type "range_iterator",data:=.fields #[rawInt (a+i*c),rawInt (k - i),rawInt c]}
theorem aGV{C:Cx}{a c:Int}{k:Nat}{it:Addr}:pG C it (lG (qL k a c)) (aGN a c k) (fun _ _=>True) where
 mono _ _:=trivial
 item {A cells i o p Q} y ok ho hp hx hq:=by
  obtain⟨hi,rfl⟩:=aLa c k (iW hx)
  subst hp
  refine wpAny_pyNext_range_item ho (Hb (Int.ofNat_lt.mpr hi)) fun h' hi' sb=>hq _ h' _ _ (.mk _) sb hi' ?_
  have e1:a+(i:Int)*c+c=a+((i+1:Nat):Int)*c:=(Int.add_right_comm a _ c).trans (Vn a c i)
  have e2:(k:Int) - (i:Int) - 1=(k:Int) - ((i+1:Nat):Int):=Int.sub_sub _ _ _
  show _=_
  rw [e1,e2]
 fin {A cells i o Q} y hh ok ho hp hx hq:=by
  subst hp
  have:k≤i:=by have:=List.getElem?_eq_none_iff.mp (iW hx);rwa [aLb] at this
  exact wpAny_pyNext_range_end hh ho (Int.sub_nonpos_of_le (Int.ofNat_le.mpr this)) fun h' ex=>hq h' _ ex
 self ho hp hq:=by subst hp;exact wpAny_pyIter_rangeiter ho hq
 lets ho hp hq:=by subst hp;exact BV ho rfl (by decide+kernel) hq
noncomputable def Qj(_:St):SV→Option (List PV)
 |.pv (.lst xs)=>some xs
 |_=>none
theorem CD(z:Z K A st){o:Obj}(hf:o.isFreed=false){nx:List SO→Nat→Option (Option PV)}{pi:Nat→Obj→Prop}{ok:Xt→Nat→Prop}(I:pG K.C (sz z) nx pi ok)(hp:pi 0 o)(hok:ok z.X st.cells.length){Q:aB→aG→Prop}
  (q:∀(z':Z K A st) it o pi ok,z.le z'→z'.X.W it=none→z'.s.heap.get? it=some o→pG K.C it nx pi ok→pi 0 o→ok z'.X st.cells.length→Q (.ref it) z'.s):Q (.ref (sz z)) {z.s with heap:=z.s.heap.push o}:=
 q (z.push o z.s.toks) _ o pi ok Z.le0 (z.R.fresh (cX _)) (nY _ hf) I hp hok
theorem aLT:jY K Qj:=fun z a x xs hf d Q q=>by
 cases a with
 |ref=>cases hf
 |pv p=>cases p with
  |lst l=>cases hf;cases d with | mk r vs ep hw hl=>exact Gg ⟨_,z.R.val _ _ hw,rfl,_,rfl⟩ (CD z rfl aGU ⟨rfl,rfl⟩ ⟨hw,by rw [iC] at hl;exact hl⟩ q)
  |_=>cases hf
noncomputable def Ql(_:St):SV→Option (List PV)
 |.pv (.tup xs)=>some xs
 |_=>none
theorem aLW:jY K Ql:=fun z a x xs hf d Q q=>by
 cases a with
 |ref=>cases hf
 |pv p=>cases p with
  |tup l=>cases hf;cases d with | mk r vs ep hw hl=>exact wpAny_pyIter_tuple ⟨_,z.R.val _ _ hw,rfl,_,rfl⟩ (CD z rfl aGX ⟨rfl,rfl⟩ ⟨hw,by rw [iC] at hl;exact hl⟩ q)
  |_=>cases hf
noncomputable def Qh(_:St):SV→Option (List PV)
 |.pv (.bytes l)=>some (NF l)
 |_=>none
theorem aLQ:jY K Qh:=fun z a x xs hf d Q q=>by
 cases a with
 |ref=>cases hf
 |pv p=>cases p with
  |bytes l=>cases d with | mk b t=>cases hf;exact KBw.pyIter_bytes (CD z rfl aGR ⟨rfl,rfl⟩ trivial q)
  |_=>cases hf
noncomputable def Vm(a b c:Int):Option (List PV):=match Gs a b c with
 |true=>some (qL (Gr a b c).toNat a c)
 |false=>none
noncomputable def Ah(_:St):SV→Option (List PV)
 |.pv (.rng a b c)=>Vm a b c
 |_=>none
theorem aJI(a b c:Int):0≤Gr a b c:=by
 exact iteInduction (motive:=(0≤ ·)) (fun hc=>iteInduction (motive:=(0≤ ·)) (fun h=>Int.le_add_one (Int.ediv_nonneg (Int.le_sub_one_of_lt (Hb h)) (Int.le_of_lt hc))) fun _=>Int.le_refl 0)
  fun hc=>iteInduction (motive:=(0≤ ·)) (fun h=>Int.le_add_one (Int.ediv_nonneg (Int.le_sub_one_of_lt (Hb h)) (Int.neg_nonneg_of_nonpos (Int.not_lt.mp hc)))) fun _=>Int.le_refl 0
theorem aLU:jY K Ah:=fun z a x xs hf d Q q=>by
 cases a with
 |ref=>cases hf
 |pv p=>cases p with
  |rng a b c=>
   have hf:(match Gs a b c with | true=>some (qL (Gr a b c).toNat a c) | false=>none)=some xs:=hf
   cases hs:Gs a b c with
   |false=>rw [hs] at hf;cases hf
   |true=>
    rw [hs] at hf;cases hf
    cases d with | mk r t u w hw=>
    refine wpAny_pyIter_range (z.R.val _ _ hw) hs (CD z rfl aGV ?_ trivial q)
    show _=_
    simp [SR (aJI a b c)]
  |_=>cases hf
noncomputable def CG(a:SV):M SV:=gM a (fun b=>rt (.pv (.rng 0 b 1))) er
theorem QR:jW K (fun v=>call (.type "range") [v]) CG:=fun {A st} z a x dx=>
 .onI (T:=fun x=>K.wp A (call (.type "range") [x])) dx (fun i t=>.fro _ _ (fun _ e=>.mk _ _ _ _ e) fun Q q=>call_range_1 q) .er
noncomputable def QP(a b:SV):M SV:=gM a (fun i=>gM b (fun j=>rt (.pv (.rng i j 1))) er) er
theorem Ef:gA K (fun v w=>call (.type "range") [v,w]) QP:=fun {A st} z a b x y dx dy=>
 .onI (T:=fun x=>K.wp A (call (.type "range") [x,y])) dx (fun i t=>.onI (T:=fun y=>K.wp A (call (.type "range") [.int i t,y])) dy (fun j u=>.fro _ _ (fun _ e=>.mk _ _ _ _ e) fun Q q=>call_range_2 q) .er) .er
noncomputable def Dz(a b c:SV):M SV:=gM a (fun i=>gM b (fun j=>gM c (fun k=>gd (!decide (k=0) && FT k) (rt (.pv (.rng i j k)))) er) er) er
theorem Vw:yH K (fun v w u=>call (.type "range") [v,w,u]) Dz:=fun {A st} z a b c x y u dx dy du=>
 .onI (T:=fun x=>K.wp A (call (.type "range") [x,y,u])) dx (fun i t=>.onI (T:=fun y=>K.wp A (call (.type "range") [.int i t,y,u])) dy (fun j t'=>.onI (T:=fun u=>K.wp A (call (.type "range") [.int i t,.int j t',u])) du (fun k t''=>.gd fun e=>by
  have e:=hJ _ _▸e
  exact .fro _ _ (fun _ e=>.mk _ _ _ _ e) fun Q q=>call_range_3 (By e.1) q (.inl (Td e.2))) .er) .er) .er
end
noncomputable instance:DecidableEq PV:=fun a b=>SH (a=b)
noncomputable def eqL:List Nat→List Nat→Bool
 | [],[]=>true
 |a::as,b::bs=>match bR a b with
  |true=>eqL as bs
  |false=>false
 |_,_=>false
theorem jI{a b:List Nat}:eqL a b=true↔a=b:=by
 induction a generalizing b with
 |nil=>cases b with
  |nil=>exact⟨fun _=>rfl,fun _=>rfl⟩
  |cons=>exact⟨fun h=>(nomatch h),fun h=>nomatch h⟩
 |cons x a ih=>cases b with
  |nil=>exact⟨fun h=>(nomatch h),fun h=>nomatch h⟩
  |cons y b=>
   show(match bR x y with | true=>eqL a b | false=>false)=true↔_
   cases q:bR x y with
   |true=>cases sG q;exact ih.trans ⟨fun e=>e▸rfl,fun e=>(List.cons.inj e).2⟩
   |false=>exact⟨fun h=>(nomatch h),fun e=>absurd (List.cons.inj e).1 (Nat.ne_of_beq_eq_false q)⟩
noncomputable def eqI(a b:Int):Bool:=match a,b with
 |.ofNat a,.ofNat b=>bR a b
 |.negSucc a,.negSucc b=>bR a b
 |_,_=>false
theorem EB{a b:Int}:eqI a b=true↔a=b:=by
 cases a with
 |ofNat a=>cases b with
  |ofNat b=>exact⟨fun h=>congrArg Int.ofNat (sG h),fun h=>by cases h;exact CY a⟩
  |negSucc b=>exact⟨fun h=>absurd h mV,fun h=>Int.noConfusion h⟩
 |negSucc a=>cases b with
  |ofNat b=>exact⟨fun h=>absurd h mV,fun h=>Int.noConfusion h⟩
  |negSucc b=>exact⟨fun h=>congrArg Int.negSucc (sG h),fun h=>by cases h;exact CY a⟩
noncomputable def iZ(x y:PV):Bool:=match x with
 |.int a=>match y with
  |.int b=>eqI a b
  |_=>false
 |.bytes a=>match y with
  |.bytes b=>eqL a b
  |_=>false
 |.str a=>match y with
  |.str b=>eqL a b
  |_=>false
 |x=>match FJ x,FJ y with
  |some (a,b),some (c,d)=>match eqL b d with
   |true=>a==c
   |false=>false
  |_,_=>false
theorem OL{p:PV}(h:KD.int.fits p):∃ i,p= .int i:=by cases p <;> first | exact⟨_,rfl⟩ | exact nomatch h
theorem OK{p:PV}(h:KD.bytes.fits p):∃ i,p= .bytes i:=by cases p <;> first | exact⟨_,rfl⟩ | exact nomatch h
theorem OM{p:PV}(h:KD.str.fits p):∃ i,p= .str i:=by cases p <;> first | exact⟨_,rfl⟩ | exact nomatch h
theorem ZC{p:PV}(h:KD.pair.fits p):∃ b l,p= .tup [.bool b,.bytes l]:=by
 have h:(FJ p).isSome=true:=h
 unfold FJ at h;split at h
 ·exact⟨_,_,rfl⟩
 ·cases h
theorem ZX{α:Type}{f:α→PV}(hf:∀ a b,f a=f b→a=b){a b:α}{c:Bool}(h:c=true↔a=b):c=true↔f a=f b:=h.trans ⟨fun e=>e▸rfl,hf a b⟩
theorem aHm{kd:KD}{a b:PV}(ha:kd.fits a)(hb:kd.fits b):iZ a b=true↔a=b:=by
 cases kd with
 |int=>obtain⟨i,rfl⟩:=OL ha;obtain⟨j,rfl⟩:=OL hb;exact ZX (fun _ _=>PV.int.inj) EB
 |bytes=>obtain⟨i,rfl⟩:=OK ha;obtain⟨j,rfl⟩:=OK hb;exact ZX (fun _ _=>PV.bytes.inj) jI
 |str=>obtain⟨i,rfl⟩:=OM ha;obtain⟨j,rfl⟩:=OM hb;exact ZX (fun _ _=>PV.str.inj) jI
 |pair=>
  obtain⟨x,l,rfl⟩:=ZC ha;obtain⟨y,m,rfl⟩:=ZC hb
  show(match eqL l m with | true=>x==y | false=>false)=true↔_
  cases h:eqL l m with
  |true=>cases jI.mp h;exact beq_iff_eq.trans ⟨fun e=>e▸rfl,fun e=>by cases e;rfl⟩
  |false=>exact⟨fun h=>(nomatch h),fun e=>by cases e;rw [jI.mpr rfl] at h;cases h⟩
theorem PH{kd:KD}{a b:PV}(ha:kd.fits a)(hb:kd.fits b):iZ a b=decide (a=b):=by
 rw [qO,aHm ha hb,decide_eq_true_eq]
section
variable{α:Type}
noncomputable def dN:List PV→List α→PV→Option α
 |k::ks,v::vs,p=>match iZ k p with
  |true=>some v
  |false=>dN ks vs p
 |_,_,_=>none
noncomputable def dhas:List PV→PV→Bool
 |k::ks,p=>match iZ k p with
  |true=>true
  |false=>dhas ks p
 | [],_=>false
noncomputable def vD:List PV→List α→PV→α→List α
 |k::ks,v::vs,p,y=>match iZ k p with
  |true=>y::vs
  |false=>v::vD ks vs p y
 |_,vs,_,_=>vs
noncomputable def dY(ks:List PV)(vs:List α)(p:PV)(y:α):List PV×List α:=match dhas ks p with
 |true=>(ks,vD ks vs p y)
 |false=>(ks++[p],vs++[y])
end
structure KB(C:Cx)(kd:KD){K:Type}[DecidableEq K](κ:GY C.prog C.w K)(enc:K→PV):Prop where
 inj:∀ {a b:K},enc a=enc b→a=b
 den:∀ {W:Addr→Option bS} {k:K} {v:aB},bE C W (enc k) v↔κ.is k v=true
 ex:∀ {W:Addr→Option bS} {p:PV} {v:aB},kd.fits p→bE C W p v→∃ k,p=enc k
 hash:∀ k,zJ C kd (enc k)=κ.hash k
 fits:∀ k,kd.fits (enc k)
theorem PY(l:List UInt8):(l.map cH).map tU=l:=by
 rw [iT,show(tU∘cH)=id from funext fun x=>UInt8.ofNat_toNat,GO]
theorem JH{a b:List UInt8}(h:a.map cH=b.map cH):a=b:=by
 rw [←PY a,h,PY]
theorem xO(x:Str):(⟨x.cps.toList.toArray⟩:Str)=x:=by simp
theorem aHi(C:Cx):KB C .int (intKind C.prog C.w) PV.int where
 inj h:=PV.int.inj h
 den {W k v}:=⟨fun d=>by cases d;exact intKind_is ..,fun h=>by
  have h:v.isInt k=true:=h
  cases v with
  |int i t=>cases (show i=k by simpa [Value.isInt] using h);exact .mk t
  |_=>cases h⟩
 ex f _:=OL f
 hash _:=rfl
 fits _:=rfl
noncomputable def aEN(x:Str):PV:=.str x.cps.toList
noncomputable def aEM(l:List UInt8):PV:=.bytes (l.map cH)
theorem LC{l:List Nat}{v:aB}(d:lN l v):∃ x t,v= .str x t∧x.cps.toList=l:=by cases d with | mk x t=>exact⟨x,t,rfl,rfl⟩
theorem wM{l:List Nat}{v:aB}(d:iQ l v):∃ b t,v= .bytes b t∧b.toList.map cH=l:=by cases d with | mk b t=>exact⟨b,t,rfl,rfl⟩
theorem aHj(C:Cx):KB C .str (strKind C.prog C.w) aEN where
 inj {a b} h:=by rw [←xO a,←xO b,PV.str.inj h]
 den {W k v}:=⟨fun d=>by
  obtain⟨x,t,rfl,e⟩:=LC d
  cases (show x=k by rw [←xO x,←xO k,e]);exact strKind_is ..,fun h=>by obtain⟨t,rfl⟩:=Value.isStrOf_shape h;exact .mk k t⟩
 ex f d:=by
  obtain⟨l,rfl⟩:=OM f
  obtain⟨x,t,rfl,rfl⟩:=LC d
  exact⟨x,rfl⟩
 hash k:=by show(strKind C.prog C.w).hash ⟨k.cps.toList.toArray⟩=_;rw [xO]
 fits _:=rfl
theorem aHh(C:Cx):KB C .bytes (AX C.prog C.w) aEM where
 inj h:=JH (PV.bytes.inj h)
 den {W k v}:=⟨fun d=>by
  obtain⟨b,t,rfl,e⟩:=wM d
  cases JH e;show(b.toList==b.toList)=true;exact beq_self_eq_true _,fun h=>by
  obtain⟨t,rfl⟩:=PF h
  exact iQ.mk k.toArray t⟩
 ex f d:=by
  obtain⟨l,rfl⟩:=OK f
  obtain⟨b,t,rfl,rfl⟩:=wM d
  exact⟨b.toList,rfl⟩
 hash k:=by show(AX C.prog C.w).hash ((k.map cH).map tU)=_;rw [PY]
 fits _:=rfl
noncomputable abbrev W0:Addr→Option bS:=fun _=>none
noncomputable def NN(C:Cx)(kd:KD)(p:PV)(v:aB):Bool:=@decide (kd.fits p∧bE C W0 p v) (SH _)
theorem XN{C:Cx}{kd:KD}{p:PV}{v:aB}:NN C kd p v=true↔kd.fits p∧bE C W0 p v:=@decide_eq_true_iff _ (SH _)
theorem KB.key{C:Cx}{kd:KD}{K:Type}[DecidableEq K]{κ:GY C.prog C.w K}{enc:K→PV}(B:KB C kd κ enc){p:PV}{v:aB}(h:NN C kd p v=true):∃ k,p=enc k∧κ.is k v=true:=by
 have h:=XN.mp h
 obtain⟨k,rfl⟩:=B.ex h.1 h.2
 exact⟨k,rfl,B.den.mp h.2⟩
noncomputable def Dm{C:Cx}{kd:KD}{K:Type}[DecidableEq K]{κ:GY C.prog C.w K}{enc:K→PV}(B:KB C kd κ enc):GY C.prog C.w PV where
 is:=NN C kd
 hash:=zJ C kd
 inj v a b ha hb:=by
  obtain⟨k,rfl,h1⟩:=B.key ha
  obtain⟨k',rfl,h2⟩:=B.key hb
  exact(κ.inj v k k' h1 h2).symm▸rfl
 byValue p v h:=by obtain⟨k,rfl,h1⟩:=B.key h;exact κ.byValue k v h1
 pyHash {A E s p v Q} h q:=by obtain⟨k,rfl,h1⟩:=B.key h;rw [B.hash] at q;exact κ.pyHash h1 q
 eqBool {A E s a b u v Q} ha hb q:=by
  obtain⟨k,rfl,h1⟩:=B.key ha
  obtain⟨k',rfl,h2⟩:=B.key hb
  refine κ.eqBool h1 h2 ?_
  rwa [show decide (enc k=enc k')=decide (k=k') from decide_eq_decide.mpr ⟨B.inj,fun e=>e▸rfl⟩] at q
 «strs» p x t v h:=by
  obtain⟨k,rfl,h1⟩:=B.key h
  rw [←κ.strs k x t v h1,qO,XN,←B.den (W:=W0)]
  exact⟨fun h=>h.2,fun h=>⟨B.fits k,h⟩⟩
noncomputable def kk(C:Cx):KD→GY C.prog C.w PV
 |.bytes=>Dm (aHh C)
 |.str=>Dm (aHj C)
 |_=>Dm (aHi C)
noncomputable def gG:KD→Bool
 |.pair=>true
 |_=>false
theorem zK{C:Cx}{kd:KD}(h:gG kd=false){W:Addr→Option bS}{p:PV}{v:aB}:(kk C kd).is p v=true↔kd.fits p∧bE C W p v:=by
 have e:(kk C kd).is p v=NN C kd p v∧(kd.fits p→(bE C W0 p v↔bE C W p v)):=by
  cases kd with
  |int=>exact⟨rfl,fun f=>by obtain⟨i,rfl⟩:=OL f;exact Iff.rfl⟩
  |bytes=>exact⟨rfl,fun f=>by obtain⟨i,rfl⟩:=OK f;exact Iff.rfl⟩
  |str=>exact⟨rfl,fun f=>by obtain⟨i,rfl⟩:=OM f;exact Iff.rfl⟩
  |pair=>cases h
 rw [e.1,XN];exact and_congr_right e.2
theorem Qy{C:Cx}{kd:KD}(h:gG kd=false):(kk C kd).hash=zJ C kd:=by
 cases kd with
 |pair=>cases h
 |_=>rfl
section
variable{C:Cx}{kd:KD}{W:Addr→Option bS}{α:Type}{P:α→aB→Prop}
theorem aJp(h:gG kd=false)(es:List pZ):∀ {ks:List PV} {vs:List α},aS (bE C W) ks (es.map (·.key))→aS P vs (es.map (·.val))→(∀ k∈ks,kd.fits k)→Pairs (kk C kd) es (ks.zip (es.map (·.val)))∧ks.length=es.length:=by
 induction es with
 |nil=>intro ks vs hk hv hf;cases ks with
  |nil=>exact⟨.nil,rfl⟩
  |cons=>cases hk
 |cons e es ih=>intro ks vs hk hv hf;cases ks with
  |nil=>cases hk
  |cons k ks=>cases vs with
   |nil=>cases hv
   |cons v vs=>cases hk with | mk w ws d hk=>cases hv with | mk w' ws' _ hv=>
    obtain⟨a,b⟩:=ih hk hv fun k hm=>hf k (.tail _ hm)
    exact⟨.cons ((zK h).mpr ⟨hf _ (.head _),d⟩) rfl a,congrArg lK b⟩
theorem Aq{es:List pZ}{kvs:List (PV×aB)}(h:gG kd=false)(pr:Pairs (kk C kd) es kvs):aS (bE C W) (kvs.map (·.1)) (es.map (·.key))∧es.map (·.val)=kvs.map (·.2)∧(∀ k∈kvs.map (·.1),kd.fits k)∧(es.map (·.hash)=(kvs.map (·.1)).map (zJ C kd)↔∀ e∈es,∃ k,(kk C kd).is k e.key=true∧e.hash=(kk C kd).hash k):=by
 induction pr with
 |nil=>exact⟨rfl,rfl,fun _ h=>(nomatch h),fun _ _ h=>(nomatch h),fun _=>rfl⟩
 | @cons e kv es kvs a b _ ih=>
  obtain⟨h1,h2,h3,h4⟩:=ih
  have da:=(zK (W:=W) h).mp a
  refine⟨.mk da.2 h1,by rw [iS,iS,h2,b],fun k hk=> ?_,fun hh x hx=> ?_,fun hh=> ?_⟩
  ·cases hk with
   |head=>exact da.1
   |tail _ hk=>exact h3 k hk
  ·rw [iS,iS,iS] at hh
   injection hh with e1 e2
   cases hx with
   |head=>exact⟨_,a,by rw [e1,Qy h]⟩
   |tail _ hx=>exact h4.mp e2 x hx
  ·obtain⟨k,hk,he⟩:=hh e (.head _)
   rw [iS,iS,iS,h4.mpr fun x hx=>hh x (.tail _ hx),he,Qy h,(kk C kd).inj _ _ _ hk a]
theorem sC{ks:List PV}{vs:List aB}(h:ks.length=vs.length):(ks.zip vs).map (·.1)=ks:=List.map_fst_zip (dQ h)
theorem Gn{ks:List PV}{vs:List aB}(h:ks.length=vs.length):(ks.zip vs).map (·.2)=vs:=List.map_snd_zip (dQ h.symm)
theorem DX{hp:Heap}{a:Addr}{o:Obj}{ks:List PV}{vs:List α}(h:gG kd=false)(ho:hp.get? a=some o)(d:iG C kd ks (aS (bE C W) ks) (aS P vs) o):∃ vals,aS P vs vals∧ks.length=vals.length∧hp.DictOf (kk C kd) a (ks.zip vals):=by
 cases d with | mk es ep hc hd hk hv hh hf hn=>
 obtain⟨pr,hl⟩:=aJp h es.toList hk hv hf
 have hl:ks.length=(es.toList.map (·.val)).length:=by rw [bQ];exact hl
 refine⟨_,hv,hl,o,es,ep,ho,hc,hd,fun e he=>(Aq (W:=W) h pr).2.2.2.mp (by rw [sC hl];exact hh) e (Array.mem_toList_iff.mpr he),pr,by rw [sC hl];exact hn⟩
theorem Cn{hp:Heap}{a:Addr}{kvs:List (PV×aB)}{vs:List α}(h:gG kd=false)(x:hp.DictOf (kk C kd) a kvs)(d:aS P vs (kvs.map (·.2))):∃ o,hp.get? a=some o∧iG C kd (kvs.map (·.1)) (aS (bE C W) (kvs.map (·.1))) (aS P vs) o:=by
 obtain⟨o,es,ep,ho,hc,hd,hk,pr,hn⟩:=x
 obtain⟨h1,h2,h3,h4⟩:=Aq (W:=W) h pr
 exact⟨o,ho,.mk es ep hc hd h1 (h2▸d) (h4.mpr fun e he=>hk e (Array.mem_toList_iff.mp he)) h3 hn⟩
end
section
variable{α:Type}{P:α→aB→Prop}{kd:KD}{ks:List PV}{vs:List α}{vals:List aB}{p:PV}{y:α}{v:aB}
noncomputable def pF(P:α→aB→Prop):Option α→Option aB→Prop
 |some y,some v=>P y v
 |none,none=>True
 |_,_=>False
theorem pF.some(h:pF P (some y) o):∃ v,o=Option.some v∧P y v:=by
 cases o with
 |none=>exact h.elim
 |some v=>exact⟨v,rfl,h⟩
theorem pF.none(h:pF P none o):o=Option.none:=by
 cases o with
 |none=>rfl
 |some v=>exact h.elim
theorem pF.isSome(h:pF P r o):r.isSome=o.isSome:=by
 cases r with
 |none=>rw [h.none];rfl
 |some y=>obtain⟨v,rfl,_⟩:=h.some;rfl
noncomputable def CB(f:α→SV)(c:SV):Option α→SV
 |some y=>f y
 |none=>c
theorem pF.orD{P':SV→aB→Prop}(h:pF P r o)(hf:∀ y v,P y v→P' (f y) v)(hc:P' c w):P' (CB f c r) (o.getD w):=by
 cases r with
 |none=>exact(h.none).symm▸hc
 |some y=>obtain⟨v,rfl,d⟩:=h.some;exact hf _ _ d
theorem aPG:qN ((k,v)::r) p=if k=p then some v else qN r p:=by
 unfold qN;rw [List.find?_cons]
 by_cases h:k=p
 ·rw [if_pos h,decide_eq_true h];rfl
 ·rw [if_neg h,decide_eq_false h]
theorem Ly(hf:∀ k∈ks,kd.fits k)(hp:kd.fits p)(d:aS P vs vals)(hl:ks.length=vals.length):pF P (dN ks vs p) (qN (ks.zip vals) p):=by
 induction ks generalizing vs vals with
 |nil=>exact trivial
 |cons k ks ih=>cases vs with
  |nil=>subst d;cases hl
  |cons v vs=>cases d with | mk w ws a as=>
   rw [List.zip_cons_cons,aPG]
   show pF P (match iZ k p with | true=>some v | false=>dN ks vs p) _
   rw [PH (hf _ (.head _)) hp]
   by_cases h:k=p
   ·rw [if_pos h,decide_eq_true h];exact a
   ·rw [if_neg h,decide_eq_false h];exact ih (fun k hk=>hf k (.tail _ hk)) as (vW hl)
theorem aEr(hf:∀ k∈ks,kd.fits k)(hp:kd.fits p)(hl:ks.length=vals.length):(ks.zip vals).any (fun kv=>decide (kv.1=p))=dhas ks p:=by
 induction ks generalizing vals with
 |nil=>rfl
 |cons k ks ih=>cases vals with
  |nil=>cases hl
  |cons v vals=>
   show(decide (k=p) || (ks.zip vals).any _)=(match iZ k p with | true=>true | false=>dhas ks p)
   refine(PH (hf _ (.head _)) hp).symm▸(ih (fun k hk=>hf k (.tail _ hk)) (vW hl)).symm▸?_
   cases decide (k=p) <;> rfl
theorem aEG(hf:∀ k∈ks,kd.fits k)(hp:kd.fits p)(hl:ks.length=vals.length)(hn:ks.Nodup):(ks.zip vals).map (fun kv=>if kv.1=p then(kv.1,v) else kv)=ks.zip (vD ks vals p v):=by
 induction ks generalizing vals with
 |nil=>rfl
 |cons k ks ih=>cases vals with
  |nil=>cases hl
  |cons w vals=>
   have hn:=List.nodup_cons.mp hn
   have hl:=vW hl
   rw [List.zip_cons_cons,iS]
   show _=(k::ks).zip (match iZ k p with | true=>v::vals | false=>w::vD ks vals p v)
   rw [PH (hf _ (.head _)) hp]
   by_cases h:k=p
   ·rw [if_pos h,decide_eq_true h,map_store_of_not_mem _ _ _ ((sC hl).symm▸(h)▸hn.1)];rfl
   ·rw [if_neg h,decide_eq_false h,ih (fun k hk=>hf k (.tail _ hk)) hl hn.2];rfl
theorem aEF:∀ {ks:List PV} {vs:List α},(vD ks vs p y).length=vs.length:=by
 intro ks
 induction ks with
 |nil=>exact fun {vs}=>by cases vs <;> rfl
 |cons k ks ih=>intro vs;cases vs with
  |nil=>rfl
  |cons v vs=>
   show(match iZ k p with | true=>y::vs | false=>v::vD ks vs p y).length=_
   cases iZ k p with
   |true=>rfl
   |false=>exact congrArg lK ih
theorem aEE(dy:P y v)(ks:List PV):∀ {vs:List α} {vals:List aB},aS P vs vals→aS P (vD ks vs p y) (vD ks vals p v):=by
 induction ks with
 |nil=>intro vs vals d;cases vs with
  |nil=>subst d;exact rfl
  |cons=>cases d with | mk w ws a as=>exact .mk a as
 |cons k ks ih=>intro vs vals d;cases vs with
  |nil=>subst d;exact rfl
  |cons v' vs=>cases d with | mk w ws a as=>
   show aS P (match iZ k p with | true=>y::vs | false=>v'::vD ks vs p y) (match iZ k p with | true=>v::ws | false=>w::vD ks ws p v)
   cases iZ k p with
   |true=>exact .mk dy as
   |false=>exact .mk a (ih as)
theorem XO(hf:∀ k∈ks,kd.fits k)(hp:kd.fits p)(d:aS P vs vals)(hl:ks.length=vals.length)(hn:ks.Nodup)(dy:P y v):(dY ks vs p y).1=(pU (ks.zip vals) p v).map (·.1)∧aS P (dY ks vs p y).2 ((pU (ks.zip vals) p v).map (·.2)):=by
 have e:pU (ks.zip vals) p v=(dY ks vals p v).1.zip (dY ks vals p v).2∧(dY ks vals p v).1.length=(dY ks vals p v).2.length∧(dY ks vs p y).1=(dY ks vals p v).1∧aS P (dY ks vs p y).2 (dY ks vals p v).2:=by
  unfold pU dY;refine(aEr hf hp hl).symm▸?_
  cases dhas ks p with
  |true=>exact⟨aEG hf hp hl hn,hl.trans aEF.symm,rfl,aEE dy ks d⟩
  |false=>exact⟨by show ks.zip vals++[(p,v)]=(ks++[p]).zip (vals++[v]);rw [List.zip_append hl];rfl,by rw [fE,fE,hl];rfl,rfl,d.app (.one dy)⟩
 exact(e.1).symm▸(sC e.2.1).symm▸(Gn e.2.1).symm▸e.2.2
noncomputable def kD(kd:KD)(p:PV):Bool:=match gG kd with
 |true=>false
 |false=>kd.fitsB p
theorem JB(h:kD kd p=true):gG kd=false∧kd.fits p:=by
 unfold kD at h
 cases q:gG kd with
 |true=>rw [q] at h;cases h
 |false=>rw [q] at h;exact⟨rfl,h⟩
end
section
variable{K:KK}{A:aR}{st:St}{z:Z K A st}{α β:Type}{D:Dn α β}{T:aB→WP β}{a b:SV}{x y:aB}{P:α→aB→Prop}
theorem JA(q:kD kd p=true)(d:bE K.C z.X.W p y):(kk K.C kd).is p y=true:=(zK (JB q).1).mpr ⟨(JB q).2,d⟩
theorem JU{hp:Heap}(q:kD kd p=true)(ho:hp.get? l=some o)(d:iG K.C kd ks (bO K.C z.X ks) (aS P vs) o):
  ∃ vals,hp.DictOf (kk K.C kd) l (ks.zip vals)∧pF P (dN ks vs p) (qN (ks.zip vals) p)∧(ks.zip vals).length=ks.length∧∀ {v:α} {y:aB},P v y→(dY ks vs p v).1=(pU (ks.zip vals) p y).map (·.1)∧aS P (dY ks vs p v).2 ((pU (ks.zip vals) p y).map (·.2)):=by
 have hk:=JB q
 obtain⟨vals,d',hl,hd⟩:=DX hk.1 ho d
 cases d with | mk es ep hc hd' _ _ hh hf hn=>
 exact⟨vals,hd,Ly hf hk.2 d' hl,by rw [←bQ,sC hl],fun dy=>XO hf hk.2 d' hl hn dy⟩
theorem Dl{hp:Heap}(q:kD kd p=true){r:List PV×List α}(hd:hp.DictOf (kk K.C kd) l kvs)(e:r.1=kvs.map (·.1)∧aS P r.2 (kvs.map (·.2))):∃ o,hp.get? l=some o∧iG K.C kd r.1 (bO K.C z.X r.1) (aS P r.2) o:=by
 rw [e.1];exact Cn (JB q).1 hd e.2
noncomputable def JX(a b:SV)(k:Option PV→M α):M α:=kF a (fun kd ks vs=>lH b fun p=>gd (kD kd p) (k (dN ks vs p))) er
theorem Go.onF{k:Option PV→M α}(dx:z.d dV a x)(dy:z.d dV b y)(h:∀ kd p l kvs r,(kk K.C kd).is p y=true→(l==rY)=false→z.s.heap.DictOf (kk K.C kd) l kvs→pF (bE K.C z.X.W) r (qN kvs p)→Go z D (T (.ref l)) (k r st)):Go z D (T x) (JX a b k st):=
 .onD (T:=T) dx (fun kd ks vs l o ns ho d=>.onP (T:=fun _=>T (.ref l)) dy fun p dp=>.gd fun q=>by
  obtain⟨vals,hd,f,_⟩:=JU q ho d
  exact h kd p l _ _ (JA q dp) ns hd f) .er
noncomputable def QI(a b:SV)(k:Option SV→M α):M α:=BZ a (fun _ kd ks vs=>lH b fun p=>gd (kD kd p) (k (dN ks vs p))) er
theorem Go.onFS{k:Option SV→M α}(dx:z.d dV a x)(dy:z.d dV b y)(h:∀ kd p l kvs r,(kk K.C kd).is p y=true→(l==rY)=false→z.s.heap.DictOf (kk K.C kd) l kvs→pF (fG K.C z.X st.cells.length) r (qN kvs p)→Go z D (T (.ref l)) (k r st)):Go z D (T x) (QI a b k st):=
 .onSC (T:=T) dx (fun i kd ks vs o hw ho d=>.onP (T:=fun _=>T (.ref (z.X.ρ i))) dy fun p dp=>.gd fun q=>by
  obtain⟨vals,hd,f,_⟩:=JU q ho d
  exact h kd p _ _ _ (JA q dp) (z.noSys hw) hd f) .er
theorem Go.tok1{a:α}{x:β}(d:z.d D a x)(h:∀ Q,Q x {z.s with toks:=n}→w Q z.s):Go z D w (some (a,st)):=.ret (z.tok n) Z.le0 d h
noncomputable def cV(a:SV):M Unit:=kF a (fun _ _ _=>rt ()) er
theorem NU{s:aG}(ho:s.heap.get? l=some o)(d:iG K.C kd ks p q o):s.TypeIs (.ref l) "dict"∧∀ r,qB l= .ref r→∃ ob,s.heap.get? r=some ob∧ob.dict=none:=by
 cases d with | mk es ep hc hd=>exact⟨⟨_,ho,hc.1⟩,fun r e=>by cases e;exact⟨_,ho,hc.2.1⟩⟩
theorem oY:sM K "dict" cV:=fun {A st} z a x d=>
 .onD (T:=fun x Q s=>s.TypeIs x "dict"∧(∀ l,x= .ref l→∃ ob,s.heap.get? l=some ob∧ob.dict=none)∧Q () s) d (fun kd ks vs l o ns ho d=>.same trivial fun Q q=>⟨(NU ho d).1,(NU ho d).2,q⟩) .er
noncomputable def Ab(a:SV):M Unit:=BZ a (fun _ _ _ _=>rt ()) er
theorem Uq:sM K "dict" Ab:=fun {A st} z a x d=>
 .onSC (T:=fun x Q s=>s.TypeIs x "dict"∧(∀ l,x= .ref l→∃ ob,s.heap.get? l=some ob∧ob.dict=none)∧Q () s) d (fun i kd ks vs o hw ho d=>.same trivial fun Q q=>⟨(NU ho d).1,(NU ho d).2,q⟩) .er
theorem rQ:mJ "dict" "get" "dict.get":=⟨Gw,F.slot_dict_get,F.type_dict_get⟩
theorem aIn:mJ "dict" "setdefault" "dict.setdefault":=⟨Gw,F.slot_dict_setdefault,F.type_dict_setdefault⟩
theorem aFW{kvs:List (PV×aB)}{a:SV}(hk:(kk K.C kd).is p y=true)(ns:(l==rY)=false)(hd:z.s.heap.DictOf (kk K.C kd) l kvs)(d:z.d dV a ((qN kvs p).getD .none)):Go z dV (K.wp A (call (.builtin "dict.get") [.ref l,y])) (rt a st):=
 .tok1 d fun Q q=>NH F.slot_dict_get hd.typeIs F.entry_dict_get (F.args_dict_get_2 _ _) (meets_dict_get (kk K.C kd) l hk ns) ⟨_,hd.mapOf,q⟩
theorem Og{kvs:List (PV×aB)}{a:SV}(hk:(kk K.C kd).is p y=true)(ns:(l==rY)=false)(hd:z.s.heap.DictOf (kk K.C kd) l kvs)(d:z.d dV a ((qN kvs p).getD u)):Go z dV (K.wp A (call (.builtin "dict.get") [.ref l,y,u])) (rt a st):=
 .tok1 d fun Q q=>NH F.slot_dict_get hd.typeIs F.entry_dict_get (F.args_dict_get_3 _ _ _) (meets_dict_get_default (kk K.C kd) l hk ns u) ⟨_,hd.mapOf,q⟩
noncomputable def dX(a b:SV):M SV:=JX a b fun r=>rt (CB .pv (.pv .none) r)
theorem vL:gA K (fun x y=>call (.builtin "dict.get") [x,y]) dX:=fun {A st} z a b x y dx dy=>
 .onF (T:=fun x=>K.wp A (call (.builtin "dict.get") [x,y])) dx dy fun kd p l kvs r hk ns hd f=>aFW hk ns hd (f.orD (P':=z.d dV) (fun _ _ h=>h) rfl)
noncomputable def Lq(a b c:SV):M SV:=JX a b fun r=>rt (CB .pv c r)
theorem aLi:yH K (fun x y u=>call (.builtin "dict.get") [x,y,u]) Lq:=fun {A st} z a b c x y u dx dy du=>
 .onF (T:=fun x=>K.wp A (call (.builtin "dict.get") [x,y,u])) dx dy fun kd p l kvs r hk ns hd f=>Og hk ns hd (f.orD (P':=z.d dV) (fun _ _ h=>h) du)
noncomputable def Wc(a b c:SV):M SV:=QI a b fun r=>rt (CB id c r)
theorem aLI:yH K (fun x y u=>call (.builtin "dict.get") [x,y,u]) Wc:=fun {A st} z a b c x y u dx dy du=>
 .onFS (T:=fun x=>K.wp A (call (.builtin "dict.get") [x,y,u])) dx dy fun kd p l kvs r hk ns hd f=>Og hk ns hd (f.orD (P':=z.d dV) (fun _ _ h=>h) du)
theorem Qg{kvs:List (PV×aB)}{a:SV}(hk:(kk K.C kd).is p y=true)(hd:z.s.heap.DictOf (kk K.C kd) l kvs)(hv:qN kvs p=some v)(d:z.d dV a v):Go z dV (pC K A (.ref l) y) (rt a st):=
 .tok1 d fun Q q=>⟨"dict",_,hd.typeIs,F.slot_dict_getitem.lookup,wpAny_getItem_of hk hd.mapOf hv q⟩
noncomputable def Ae(a b:SV):M SV:=JX a b fun r=>eW r fun y=>rt (.pv y)
theorem aLm:wF K Ae:=fun {A st} z a b x y dx dy=>
 .onF (T:=fun x=>pC K A x y) dx dy fun kd p l kvs r hk ns hd f=>.onSome fun v e=>by subst e;obtain⟨w,hv,d⟩:=f.some;exact Qg hk hd hv d
noncomputable def Af(a b:SV):M SV:=QI a b fun r=>eW r fun y=>rt y
theorem aLo:wF K Af:=fun {A st} z a b x y dx dy=>
 .onFS (T:=fun x=>pC K A x y) dx dy fun kd p l kvs r hk ns hd f=>.onSome fun v e=>by subst e;obtain⟨w,hv,d⟩:=f.some;exact Qg hk hd hv d
theorem aGF{M:jO}(h:aI M A (BB c v) (fun b=>Q (.bool b)) E s):aI M A (eT .In v c) Q E s:=aF (fT h fun _ _ z=>bF z)
theorem aIU{M:jO}(h:aI M A (BB c v) (fun b=>Q (.bool (!b))) E s):aI M A (eT .NotIn v c) Q E s:=aF (fT h fun _ _ z=>bF z)
noncomputable def HC(K:KK)(f:SV→SV→M Bool):Prop:=∀ {A:aR} {st:St} (z:Z K A st) {a b:SV} {x y:aB},z.d dV a x→z.d dV b y→Go z dB (K.wp A (BB y x)) (f a b st)
theorem Ec{f:SV→SV→M Bool}(h:HC K f):jX K (eT .In) f:=fun z a b x y dx dy r s e Q q=>aGF (h z dx dy r s e _ fun z' x l d=>by cases (d:_=_);exact q z' _ l rfl)
noncomputable def sW(f:SV→SV→M Bool)(a b:SV):M Bool:=bd (f a b) fun r=>rt (!r)
theorem Ee{f:SV→SV→M Bool}(h:HC K f):jX K (eT .NotIn) (sW f):=fun z a b x y dx dy=>
 (h z dx dy).ruB (u:=fun r Q=>Q (.bool (!r))) (fun Q q=>aIU q) fun z₁ l₁=>.rt rfl fun Q q=>q
noncomputable def zI(a b:SV):M Bool:=JX b a fun r=>rt r.isSome
theorem Vr:HC K zI:=fun {A st} z a b x y dx dy=>
 .onF (T:=fun y=>K.wp A (BB y x)) dy dx fun kd p l kvs r hk ns hd f=>.tok1 (x:=(qN kvs p).isSome) (f.isSome:_=_) fun Q q=>
  Ga hd.typeIs SK (NH SK hd.typeIs F.entry_dict_contains (F.args_dict_contains_2 _ _) (meets_dict_contains (kk K.C kd) l hk ns) ⟨_,hd.mapOf,uI q⟩)
theorem ZA(q:(kD kd p && decide (n≤1000000))=true):kD kd p=true∧n≤fO:=by
 have q:=hJ _ _▸q;exact⟨q.1,gH (of_decide_eq_true q.2)⟩
noncomputable def Wj(a b c:SV):M Unit:=xI a (fun k kd ks vs=>lH b fun p=>lH c fun y=>gd (kD kd p && decide (ks.length≤1000000)) fun st=>some ((),fD st k (.dict kd (dY ks vs p y).1 (dY ks vs p y).2))) er
theorem aFk{h:Heap}{p:Obj→Prop}(x:∃ o,h.get? l=some o∧p o):∃ o,h.get? l=some o:=x.imp fun _ q=>q.1
theorem aBq(hw:X.W (X.ρ k)=some (.cell k))(x:∃ o,h.get? (X.ρ k)=some o∧p o):tJ X k h p:=x.elim fun o q=>.mk o hw q.1 q.2
theorem Go.on{δ:Type}{D:Dn α δ}{w:WP δ}(h:∀ Q:δ→aG→Prop,(∀ a st',o=some (a,st')→∀(z':Z K A st') x,z.le z'→z'.d D a x→Q x z'.s)→w Q z.s):Go z D w o:=fun a st' e Q q=>h Q fun a' s' e'=>by rw [e] at e';cases e';exact q
theorem Z.setD(z:Z K A st){b:α}{x:β}(hw:z.X.W (z.X.ρ k)=some (.cell k))(g:uM (z.X.ρ k) z.s.heap h')(hx:∃ o,h'.get? (z.X.ρ k)=some o∧p o)(hc:tJ z.X k h' p→jE K.C z.X st.cells.length k h' c)(d:D K.C z.X st.cells.length b x){Q:β→aG→Prop}(q:∀(z':Z K A (fD st k c)) x,z.le z'→z'.d D b x→Q x z'.s):Q x {z.s with heap:=h',toks:=t}:=
 Go.setC (z:=z) (D:=D) (w:=fun Q _=>Q x {z.s with heap:=h',toks:=t}) h' t hw g (aFk hx) (hc (aBq hw hx)) d (fun Q q=>q) b _ rfl Q q
theorem aLD:wD K Wj:=fun {A st} z a b c x y u dx dy du=>
 .onDC (T:=fun x=>K.wp A (rV x y u)) dx (fun k kd ks vs o hw ho d=>.onP (T:=fun y=>K.wp A (rV (.ref (z.X.ρ k)) y u)) dy fun p dp=>.onP (T:=fun u=>K.wp A (rV (.ref (z.X.ρ k)) y u)) du fun w dw=>.gd fun q=>by
  have q:=ZA q
  obtain⟨vals,hd,f,hl,pu⟩:=JU q.1 ho d
  exact .on fun Q q'=>wpAny_setItem_pairs (JA q.1 dp) hd (fun h' hd' sb=>z.setD (D:=dU) hw sb (Dl q.1 hd' (pu dw)) id trivial (q' _ _ rfl)) (by rw [hl];exact q.2)) .er
noncomputable def Ej(a b c:SV):M Unit:=BZ a (fun k kd ks vs=>lH b fun p=>gd (kD kd p && decide (ks.length≤1000000)) fun st=>some ((),fD st k (.sdict kd (dY ks vs p c).1 (dY ks vs p c).2))) er
theorem aLG:wD K Ej:=fun {A st} z a b c x y u dx dy du=>
 .onSC (T:=fun x=>K.wp A (rV x y u)) dx (fun k kd ks vs o hw ho d=>.onP (T:=fun y=>K.wp A (rV (.ref (z.X.ρ k)) y u)) dy fun p dp=>.gd fun q=>by
  have q:=ZA q
  obtain⟨vals,hd,f,hl,pu⟩:=JU (z:=z) q.1 ho d
  exact .on fun Q q'=>wpAny_setItem_pairs (JA q.1 dp) hd (fun h' hd' sb=>z.setD (D:=dU) hw sb (Dl q.1 hd' (pu du)) id trivial (q' _ _ rfl)) (by rw [hl];exact q.2)) .er
noncomputable def Wg(a b c:SV):M SV:=BZ a (fun k kd ks vs=>lH b fun p=>gd (kD kd p && decide (ks.length≤1000000)) (match dN ks vs p with
 |some y=>rt y
 |none=>fun st=>some (c,fD st k (.sdict kd (dY ks vs p c).1 (dY ks vs p c).2)))) er
theorem aLH:yH K (fun x y u=>call (.builtin "dict.setdefault") [x,y,u]) Wg:=fun {A st} z a b c x y u dx dy du=>
 .onSC (T:=fun x=>K.wp A (call (.builtin "dict.setdefault") [x,y,u])) dx (fun k kd ks vs o hw ho d=>.onP (T:=fun y=>K.wp A (call (.builtin "dict.setdefault") [.ref (z.X.ρ k),y,u])) dy fun p dp=>.gd fun q=>by
  have q:=ZA q
  obtain⟨vals,hd,f,hl,pu⟩:=JU (z:=z) q.1 ho d
  have go:∀ Q,(∀ v,qN (ks.zip vals) p=some v→Q v {z.s with toks:=z.s.toks+1})→(qN (ks.zip vals) p=none→∀ h',h'.DictOf (kk K.C kd) (z.X.ρ k) (pU (ks.zip vals) p u)→uM (z.X.ρ k) z.s.heap h'→Q u {z.s with heap:=h',toks:=z.s.toks+1})→K.wp A (call (.builtin "dict.setdefault") [.ref (z.X.ρ k),y,u]) Q z.s:=fun Q h1 h2=>
   NH F.slot_dict_setdefault hd.typeIs F.entry_dict_setdefault (F.args_dict_setdefault_3 _ _ _) (kt_meets_setdefault (kk K.C kd) _ (JA q.1 dp) (z.noSys hw) u) ⟨_,hd,by rw [hl];exact q.2,h1,h2⟩
  cases e:dN ks vs p with
  |some w=>
   rw [e] at f;obtain⟨w',hv,dw⟩:=f.some
   exact .tok1 dw fun Q q=>go Q (fun v hv'=>by rw [hv] at hv';cases hv';exact q) fun n=>by rw [hv] at n;cases n
  |none=>
   replace f:=(e)▸f
   exact .on fun Q q'=>go Q (fun v hv=>by rw [f.none] at hv;cases hv) fun _ h' hd' sb=>z.setD (D:=dV) hw sb (Dl q.1 hd' (pu du)) id du (q' _ _ rfl)) .er
noncomputable def Rh(a:SV):M SV:=kF a (fun kd ks vs=>gd (!gG kd && decide (ks.length≤1000000)) (rt (.pv (.int ks.length)))) er
theorem aLv:jW K (fun v=>call (.builtin "len") [v]) Rh:=fun {A st} z a x dx=>
 .onD (T:=fun x=>K.wp A (call (.builtin "len") [x])) dx (fun kd ks vs l o ns ho d=>.gd fun e=>by
  have e:=hJ _ _▸e
  obtain⟨vals,d',hl,hd⟩:=DX (by simpa using e.1) ho d
  have hz:(ks.zip vals).length=ks.length:=by rw [←bQ,sC hl]
  exact .ret (z.tok (z.s.toks+1+1)) Z.le0 (EU (congrArg Nat.cast hz.symm) _) fun Q q=>call_len_dict ns hd (by rw [hz];exact PO (of_decide_eq_true e.2)) q) .er
theorem Mc(a:p [])(b:q []):iG C kd [] p q {cls:=.type "dict",data:=.dict #[]}:=.mk #[] 0 ⟨rfl,rfl,rfl⟩ rfl a b rfl (fun _ h=>(nomatch h)) pH
noncomputable def uF(kd:KD):M SV:=fun st=>some (.ref st.cells.length,⟨st.loc,st.cells++[.dict kd [] []]⟩)
noncomputable def Sz(kd:KD):M SV:=fun st=>some (.ref st.cells.length,⟨st.loc,st.cells++[.sdict kd [] []]⟩)
noncomputable def wC(kd:KD):PE K:=⟨uF kd,fun e=>.Dict [] [] e.pos,3,fun _=>rfl,fun e _ _ z=>.newC _ z.s.toks (Bv rfl (Mc rfl rfl)) fun Q q=>wpAny_Dict_empty q⟩
noncomputable def aAB(kd:KD):PE K:=⟨Sz kd,fun e=>.Dict [] [] e.pos,3,fun _=>rfl,fun e _ _ z=>.newC _ z.s.toks (Bv rfl (Mc rfl rfl)) fun Q q=>wpAny_Dict_empty q⟩
end
noncomputable abbrev zW(C:Cx):HeapKind C.prog C.w (List AJ):=tupleKind (Bn C.prog C.w)
inductive MH(P:List AJ→Prop):PV→Prop
 |mk (b:Bool) (l:List UInt8) (h:P [.inl b,.inr l]):MH P (.tup [.bool b,.bytes (l.map cH)])
theorem MH.ex(h:MH P p):∃ b l,p= .tup [.bool b,.bytes (l.map cH)]∧P [.inl b,.inr l]:=by
 cases h with | mk b l h=>exact⟨b,l,rfl,h⟩
theorem aJm(C:Cx)(b:Bool)(l:List UInt8):zJ C .pair (.tup [.bool b,.bytes (l.map cH)])=(zW C).hash [.inl b,.inr l]:=by
 show tupleKeyHash (Bn C.prog C.w) [.inl b,.inr ((l.map cH).map tU)]=_
 rw [PY];rfl
noncomputable def xJ(C:Cx):HeapKind C.prog C.w PV where
 is h p a:=MH (fun k=>(zW C).is h k a) p
 hash:=zJ C .pair
 draws _:=3
 room:=(zW C).room
 inj hx hy:=by
  obtain⟨b,l,rfl,h⟩:=hx.ex
  obtain⟨b',l',rfl,h'⟩:=hy.ex
  cases (zW C).inj h h';rfl
 keeps x ho hd hs:=by cases x with | mk b l h=>exact .mk b l ((zW C).keeps h ho hd hs)
 pyHash hu hk q:=by cases hk with | mk b l h=>rw [aJm] at q;exact(zW C).pyHash hu h q
 eqBool {A E s x y a b Q} hu hx hy q:=by
  obtain⟨b,l,rfl,h⟩:=hx.ex
  obtain⟨b',l',rfl,h'⟩:=hy.ex
  refine(zW C).eqBool hu h h' ?_
  rwa [show decide (PV.tup [.bool b,.bytes (l.map cH)]= .tup [.bool b',.bytes (l'.map cH)])=decide (([.inl b,.inr l]:List AJ)= [.inl b',.inr l']) from decide_eq_decide.mpr ⟨fun e=>by injection e with e;injection e with e1 e2;injection e1 with e1;injection e2 with e2;injection e2 with e2;rw [e1,JH e2],fun e=>by cases e;rfl⟩] at q
 quiet hk q:=by cases hk with | mk b l h=>exact(zW C).quiet h q
theorem Cw(hf:KD.pair.fits p)(d:bE C W p v):∃ a,v= .ref a∧∀ h:Heap,(∀ a o,W a=some (.fro o)→h.get? a=some o)→(xJ C).is h p a:=by
 obtain⟨b,l,rfl⟩:=ZC hf
 cases d with | mk a vs ep hw hl=>
 cases hl with | mk v1 ws d1 hl=>
 cases hl with | mk v2 ws d2 hl=>
 subst d1;cases hl
 obtain⟨bb,t,rfl,rfl⟩:=wM d2
 exact⟨a,rfl,fun h fro=>.mk b bb.toList ⟨_,_,_,fro _ _ hw,rfl,rfl,.cons (by show(b==b)=true;exact beq_self_eq_true _) (.cons (beq_self_eq_true (a:=bb.toList):isBytes bb.toList (.bytes bb t)=true) .nil)⟩⟩
theorem aGO(x:(xJ C).is h p a):KD.pair.fits p:=by cases x;rfl
section
variable{C:Cx}{W:Addr→Option bS}{α:Type}{P:α→aB→Prop}
noncomputable abbrev zL(x:PV×Addr×aB):PV×aB:=(x.1,x.2.2)
theorem aJq(fro:∀ a o,W a=some (.fro o)→hp.get? a=some o)(es:List pZ):∀ {ks:List PV},aS (bE C W) ks (es.map (·.key))→es.map (·.hash)=ks.map (zJ C .pair)→(∀ k∈ks,KD.pair.fits k)→
  ∃ xs:List (PV×Addr×aB),xs.map (·.1)=ks∧es.map (·.val)=xs.map (·.2.2)∧es=xs.map (entryOfKey (xJ C))∧(∀ x∈xs,bE C W x.1 (.ref x.2.1))∧∀ x∈xs,(xJ C).is hp x.1 x.2.1:=by
 induction es with
 |nil=>intro ks hk _ _;cases ks with
  |nil=>exact⟨[],rfl,rfl,rfl,fun _ h=>(nomatch h),fun _ h=>(nomatch h)⟩
  |cons=>cases hk
 |cons e es ih=>intro ks hk hh hf;cases ks with
  |nil=>cases hk
  |cons k ks=>
   obtain⟨eh,ek,ev⟩:=e
   cases hk with | mk w ws d hk=>
   rw [iS,iS] at hh
   injection hh with h1 h2
   obtain⟨xs,e1,e2,e3,e4,e5⟩:=ih hk h2 fun k hm=>hf k (.tail _ hm)
   obtain⟨a,rfl,hi⟩:=Cw (hf _ (.head _)) d
   refine⟨(k,a,ev)::xs,congrArg _ e1,congrArg _ e2,?_,List.forall_mem_cons.mpr ⟨d,e4⟩,List.forall_mem_cons.mpr ⟨hi hp fro,e5⟩⟩
   rw [iS,←e3]
   exact congrArg (fun h=>(⟨h,.ref a,ev⟩:pZ)::es) h1
theorem aBp{xs:List (PV×Addr×aB)}:qN (xs.map zL) p=(atKey xs p).map (·.2):=by
 unfold qN atKey;rw [List.find?_map,Option.map_map,Option.map_map];rfl
theorem aOQ{xs:List (PV×Addr×aB)}:(storedH xs p a v).map zL=pU (xs.map zL) p v:=by
 unfold storedH pU
 have e:(atKey xs p).isSome=(xs.map zL).any fun kv=>decide (kv.1=p):=by
  unfold atKey;rw [Ho,List.isSome_find?,List.any_map];rfl
 refine(e).symm▸?_
 by_cases h:((xs.map zL).any fun kv=>decide (kv.1=p))=true
 ·rw [if_pos h,if_pos h,iT,iT]
  refine LW fun x _=> ?_
  show zL (putAt p v x)=if x.1=p then(x.1,v) else zL x
  unfold putAt
  by_cases q:x.1=p
  ·rw [if_pos q,if_pos q]
  ·rw [if_neg q,if_neg q]
 ·rw [if_neg h,if_neg h,cU];rfl
theorem aIh{xs:List (PV×Addr×aB)}{R:PV→Addr→Prop}(h:∀ x∈xs,R x.1 x.2.1)(h':R p a):∀ x∈storedH xs p a v,R x.1 x.2.1:=by
 intro x hx
 unfold storedH at hx
 by_cases q:(atKey xs p).isSome=true
 ·rw [if_pos q] at hx
  obtain⟨y,hy,rfl⟩:=List.mem_map.mp hx
  unfold putAt
  by_cases q:y.1=p
  ·rw [if_pos q];exact h y hy
  ·rw [if_neg q];exact h y hy
 ·rw [if_neg q,uO] at hx
  rcases hx with hx | hx
  ·exact h x hx
  ·cases List.mem_singleton.mp hx;exact h'
theorem aHq{xs:List (PV×Addr×aB)}(h:∀ x∈xs,bE C W x.1 (.ref x.2.1)):aS (bE C W) (xs.map (·.1)) (xs.map fun x=>.ref x.2.1):=by
 induction xs with
 |nil=>exact rfl
 |cons x xs ih=>exact .mk (h x (.head _)) (ih fun y hy=>h y (.tail _ hy))
theorem Ub{hp:Heap}(fro:∀ a o,W a=some (.fro o)→hp.get? a=some o)(q:KD.pair.fits p)(ho:hp.get? l=some o)(d:iG C .pair ks (aS (bE C W) ks) (aS P vs) o):
  ∃ xs,hp.DictOfH (xJ C) l xs∧pF P (dN ks vs p) ((atKey xs p).map (·.2))∧xs.length=ks.length∧(∀ x∈xs,bE C W x.1 (.ref x.2.1))∧∀ {v:α} {y:aB} {a:Addr},P v y→(dY ks vs p v).1=(storedH xs p a y).map (·.1)∧aS P (dY ks vs p v).2 ((storedH xs p a y).map (·.2.2)):=by
 cases d with | mk es ep hc hd hk hv hh hf hn=>
 obtain⟨xs,e1,e2,e3,e4,e5⟩:=aJq fro es.toList hk hh hf
 replace hv:=(e2)▸hv
 have hl:ks.length=(xs.map (·.2.2)).length:=by rw [←e1,bQ,bQ]
 have ez:ks.zip (xs.map (·.2.2))=xs.map zL:=by rw [←e1,List.zip_map']
 refine⟨xs,⟨o,es,ep,ho,hc,hd,e3,e5,e1▸hn⟩,?_,by rw [←e1,bQ],e4,fun {v y a} dy=> ?_⟩
 ·rw [←aBp,←ez];exact Ly hf q hv hl
 ·have:=XO hf q hv hl hn dy
  rw [ez,←aOQ,iT,iT] at this;exact this
theorem aJn{hp:Heap}{xs:List (PV×Addr×aB)}{r:List PV×List α}(hd:hp.DictOfH (xJ C) l xs)(e4:∀ x∈xs,bE C W x.1 (.ref x.2.1))(e:r.1=xs.map (·.1)∧aS P r.2 (xs.map (·.2.2))):∃ o,hp.get? l=some o∧iG C .pair r.1 (aS (bE C W) r.1) (aS P r.2) o:=by
 obtain⟨o,es,ep,ho,hc,hd,he,hi,hn⟩:=hd
 refine⟨o,ho,.mk es ep hc hd ?_ ?_ ?_ ?_ ?_⟩
 ·rw [e.1,he,iT];exact aHq e4
 ·rw [he,iT];exact e.2
 ·rw [e.1,he,iT,iT];rfl
 ·exact(e.1).symm▸fun k hk=>by obtain⟨x,hx,rfl⟩:=List.mem_map.mp hk;exact aGO (hi x hx)
 ·rw [e.1];exact hn
end
section
variable{K:KK}{A:aR}{st:St}{z:Z K A st}{α β:Type}{D:Dn α β}{T:aB→aB→WP β}{a b:SV}{x y:aB}
theorem Qc(h:(gG kd && KD.pair.fitsB p)=true):kd= .pair∧KD.pair.fits p:=by
 have h:=hJ _ _▸h
 cases kd with
 |pair=>exact⟨rfl,h.2⟩
 |_=>cases h.1
theorem Z.froG(z:Z K A st):∀ a o,z.X.W a=some (.fro o)→z.s.heap.get? a=some o:=fun a o q=>z.R.val _ _ q
noncomputable def Ct(a b:SV)(k:Option PV→M α):M α:=kF a (fun kd ks vs=>lH b fun p=>gd (gG kd && KD.pair.fitsB p) (k (dN ks vs p))) er
theorem Go.onFP{k:Option PV→M α}(dx:z.d dV a x)(dy:z.d dV b y)(h:∀ p l ka xs r,(xJ K.C).is z.s.heap p ka→(l==rY)=false→z.s.heap.DictOfH (xJ K.C) l xs→pF (bE K.C z.X.W) r ((atKey xs p).map (·.2))→Go z D (T (.ref l) (.ref ka)) (k r st)):Go z D (T x y) (Ct a b k st):=
 .onD (T:=fun x=>T x y) dx (fun kd ks vs l o ns ho d=>.onP dy fun p dp=>.gd fun q=>by
  obtain⟨rfl,q⟩:=Qc q
  obtain⟨ka,rfl,hi⟩:=Cw q dp
  obtain⟨xs,hd,f,_⟩:=Ub z.froG q ho d
  exact h p l ka xs _ (hi _ z.froG) ns hd f) .er
theorem Eg(hA:lC A K.n):(xJ K.C).room A.in1:=
 sH (kZ hA.lim) (bT rfl)
noncomputable def OZ(a b:SV):M Bool:=Ct b a fun r=>rt r.isSome
theorem Vs:HC K OZ:=fun {A st} z a b x y dx dy=>
 .onFP (T:=fun y x=>K.wp A (BB y x)) dy dx fun p l ka xs r hk ns hD f=>.tok1 (show _=_ from by rw [f.isSome,Ho]) fun Q q=>by
  refine Ga hD.typeIs SK (RM SK hD.typeIs F.entry_dict_contains ?_ (F.args_dict_contains_2 _ _))
  show aI _ _ (dictGet l (.ref ka) >>= _) _ _ z.s
  refine aF (wpAny_dictGet_heap (Eg z.hA) hk hD ?_)
  cases hf:atKey xs p with
  |some v=>
   rw [hf] at q
   exact bF ⟨_,rfl,uI q⟩
  |none=>
   rw [hf] at q
   exact aF (wpAny_pendingKey_other ns (bF ⟨_,rfl,uI q⟩))
noncomputable def Qf(a b:SV):M SV:=Ct a b fun r=>eW r fun y=>rt (.pv y)
theorem aLn:wF K Qf:=fun {A st} z a b x y dx dy=>
 .onFP dx dy fun p l ka xs r hk ns hD f=>.onSome fun v e=>by
  subst e;obtain⟨w,hv,d⟩:=f.some
  obtain⟨u,hu,rfl⟩:=Option.map_eq_some_iff.mp hv
  exact .tok1 (d:z.d dV (.pv v) u.2) fun Q q=>⟨"dict",_,hD.typeIs,F.slot_dict_getitem.lookup,wpAny_getItem_heap (Eg z.hA) hk hD hu q⟩
noncomputable def Wm(a b c:SV):M Unit:=xI a (fun k kd ks vs=>lH b fun p=>lH c fun y=>gd ((gG kd && KD.pair.fitsB p) && decide (ks.length≤1000000)) fun st=>some ((),fD st k (.dict kd (dY ks vs p y).1 (dY ks vs p y).2))) er
theorem aLF:wD K Wm:=fun {A st} z a b c x y u dx dy du=>
 .onDC (T:=fun x=>K.wp A (rV x y u)) dx (fun k kd ks vs o hw ho d=>.onP (T:=fun y=>K.wp A (rV (.ref (z.X.ρ k)) y u)) dy fun p dp=>.onP (T:=fun u=>K.wp A (rV (.ref (z.X.ρ k)) y u)) du fun w dw=>.gd fun q=>by
  have q:=hJ _ _▸q
  obtain⟨rfl,q1⟩:=Qc q.1
  obtain⟨ka,rfl,hi⟩:=Cw q1 dp
  obtain⟨xs,hd,f,hl,e4,pu⟩:=Ub z.froG q1 ho d
  exact .on fun Q q'=>wpAny_setItem_heap (Eg z.hA) (hi _ z.froG) hd (fun h' hd' sb=>z.setD hw sb (aJn hd' (aIh (R:=fun x a=>bE K.C z.X.W x (.ref a)) e4 dp) (pu dw)) id trivial (q' _ _ rfl)) (by rw [hl];exact gH (of_decide_eq_true q.2))) .er
end
section
variable{K:KK}{A:aR}{st st':St}{z:Z K A st}{α β γ δ:Type}
noncomputable def Z.frzX(z:Z K A st)(k:Nat):Xt:=z.X.maskR .fro (BD k) z.s.heap
theorem Z.frzTr(z:Z K A st)(k n:Nat):Tr (BD k) z.X z.s.heap n (z.frzX k) z.s.heap n:=.maskR n (fun _=>rfl) fun _ _ h=>h
noncomputable def Z.frz(z:Z K A st)(k:Nat):Z K A (fD st k .dead):=
 ⟨z.frzX k,z.s,z.hA,Tr.rel (by rw [CJ];exact z.frzTr k _) z.R z.R.still (fun _=>rfl) rfl rfl (fun _=>rfl) (by rw [CJ];exact Km trivial)⟩
theorem aFh(k:Nat):BD k (.cell k)=true:=CY k
theorem Go.frz(d:vU z.X.W (z.frzX k).W→(∀ a o,z.X.W a=some (.cell k)→z.s.heap.get? a=some o→(z.frzX k).W a=some (.fro o))→bE K.C (z.frzX k).W p x):Go z dV (fun Q s=>Q x s) (some (.pv p,fD st k .dead)):=
 .ret (z.frz k) (by show z.X.le _ (z.frzX k) (st.cells.set k .dead).length;rw [CJ];exact(z.frzTr k _).le (fun _=>rfl) fun _=>rfl) (d (z.frzTr k 0).low.fro fun a o e ho=>Bi e (aFh k) ho) fun Q q=>q
noncomputable def GI(K:KK)(f:SV→M SV):Prop:=∀ {A:aR} {st:St} (z:Z K A st) {a:SV} {x:aB},z.d dV a x→Go z dV (fun Q s=>Q x s) (f a st)
noncomputable def fF(g:GI K f)(a:PE K):PE K:=⟨bd a.m f,a.r,a.c,a.hc,fun e A st z=>(a.ok e z).ru (fun Q q=>q) fun z₁ l dx=>g z₁ dx⟩
noncomputable def OP(k:Nat)(c:SO):M SV:=fun st=>match c with
 |.list xs=>some (.pv (.lst xs),fD st k .dead)
 |.dict kd ks vs=>some (.pv (.dct kd ks vs),fD st k .dead)
 |.inst c fs=>match pN fs with
  |some xs=>some (.pv (.obj c xs),fD st k .dead)
  |none=>none
 |_=>none
noncomputable def cC(a:SV):M SV:=fun st=>match a with
 |.pv x=>some (.pv x,st)
 |.ref k=>match st.cells[k]? with
  |some c=>OP k c st
  |none=>none
noncomputable def aQK:SV→M SV:=cC
theorem fA:GI K cC:=fun {A st} z a x d=>by
 cases a with
 |pv p=>exact .same d fun Q q=>q
 |ref k=>
  obtain⟨_,rfl⟩:=d
  show Go z dV _ (match st.cells[k]? with | some c=>OP k c st | none=>none)
  cases q:st.cells[k]? with
  |none=>exact .no
  |some c=>
   have ck:=z.R.cells _ _ q
   cases c with
   |list xs=>cases ck with | mk o hw ho r=>cases r with | mk vs ep hl=>exact .frz fun l f=>oI.mk _ vs ep (f _ _ hw ho) (by rw [iC];exact aS.imp (bE.mono l) _ _ hl)
   |dict kd ks vs=>cases ck with | mk o hw ho r=>exact .frz fun l f=>tL.mk _ o (f _ _ hw ho) (z.noSys hw) (by rw [iC,iC];exact r.imp (aS.imp (bE.mono l) _) (aS.imp (bE.mono l) _) o)
   |inst c fs=>
    show Go z dV _ (match pN fs with | some xs=>some (.pv (.obj c xs),fD st k .dead) | none=>none)
    cases qa:pN fs with
    |none=>exact .no
    |some xs=>
     cases ck with | mk o hw hw' ne hi ho f=>
     cases f with | mk es ep hc hd hk hv=>
     have hx:=MT fs hv xs qa
     have hlen:xs.length=fs.length:=hx.len.trans (aS.len hv).symm
     exact .frz fun l f=>AL.mk _ _ o (f _ _ hw hi) (f _ _ hw' ho) (.mk es ep hc hd (hlen▸hk) (by rw [iC];exact aS.imp (bE.mono l) _ _ hx))
   |_=>exact .no
noncomputable def Z.adX(z:Z K A st)(a:Addr):Xt:=z.X.add a (.cell st.cells.length) (pV z.X.ρ st.cells.length a) z.X.δ
theorem Z.adTr(z:Z K A st)(a:Addr)(hn:z.X.W a=none)(hx:∃ o,z.s.heap.get? a=some o)(c:SO):Tr (fun _=>false) z.X z.s.heap st.cells.length (z.adX a) z.s.heap (st.cells++[c]).length:=
 .add z.R.val hn (fun _ _ e=>e) hx (by rw [xA];exact oE _) RL
noncomputable def Z.adC(z:Z K A st)(a:Addr)(hn:z.X.W a=none)(hx:∃ o,z.s.heap.get? a=some o)(c:SO)(hc:jE K.C (z.adX a) (st.cells++[c]).length st.cells.length z.s.heap c):Z K A ⟨st.loc,st.cells++[c]⟩:=
 ⟨z.adX a,z.s,z.hA,(z.adTr a hn hx c).rel z.R z.R.still (fun _=>rfl) rfl rfl (fun _=>rfl) (WY (ex:=fun _=>false) (fun _=>rfl) (fun _ _=>rfl) hc)⟩
theorem Ij(ho:z.s.heap.get? a=some o)(d:p o):tJ (z.adX a) st.cells.length z.s.heap p:=
 .mk o (by show(z.adX a).W (pV _ _ _ _)=_;rw [pX];exact DI) (by rw [show(z.adX a).ρ st.cells.length=a from pX];exact ho) d
theorem Go.adC(hn:z.X.W a=none)(ho:z.s.heap.get? a=some o)(d:z.X.low st.cells.length (z.adX a) (st.cells++[c]).length→p o)(hc:tJ (z.adX a) st.cells.length z.s.heap p→jE K.C (z.adX a) (st.cells++[c]).length st.cells.length z.s.heap c):Go z dV (fun Q s=>Q (.ref a) s) (some (.ref st.cells.length,⟨st.loc,st.cells++[c]⟩)):=
 .ret (z.adC a hn ⟨o,ho⟩ c (hc (Ij ho (d (z.adTr a hn ⟨o,ho⟩ c).low)))) ((z.adTr a hn ⟨o,ho⟩ c).le (fun _=>rfl) fun _=>rfl) ⟨by show _ < (st.cells++[c]).length;rw [xA];exact xY _,congrArg qB pX.symm⟩ fun Q q=>q
theorem aIi(kvs:List (PV×aB)):∀ acc:List (PV×aB),((acc++kvs).map (·.1)).Nodup→merged acc kvs=acc++kvs:=by
 induction kvs with
 |nil=>exact fun acc _=>(gK _).symm
 |cons kv kvs ih=>
  intro acc h
  have hx:pU acc kv.1 kv.2=acc++[kv]:=if_neg fun q=>by
   obtain⟨x,hx,e⟩:=List.any_eq_true.mp q
   rw [cU,List.nodup_append] at h
   exact h.2.2 _ (LY hx) _ (.head _) (of_decide_eq_true e)
  have e:acc++kv::kvs=(acc++[kv])++kvs:=by rw [gJ];rfl
  show merged (pU acc kv.1 kv.2) kvs=_
  rw [hx,ih _ (e▸h),e]
noncomputable def JR:List PV→Bool
 | []=>true
 |k::ks=>match dhas ks k with
  |true=>false
  |false=>JR ks
noncomputable def DJ(kd:KD):List PV→Bool
 | []=>true
 |k::ks=>match kd.fitsB k with
  |true=>DJ kd ks
  |false=>false
theorem aEs{kd:KD}(ks:List PV)(hf:∀ k∈ks,kd.fits k)(hp:kd.fits p)(h:dhas ks p=false):p∉ks:=by
 induction ks with
 |nil=>exact fun h=>nomatch h
 |cons x xs ih=>
  have h:(match iZ x p with | true=>true | false=>dhas xs p)=false:=h
  replace h:=(PH (hf _ (.head _)) hp)▸h
  by_cases q:x=p
  ·rw [decide_eq_true q] at h;cases h
  ·rw [decide_eq_false q] at h
   rw [AI,not_or];exact⟨fun e=>q e.symm,ih (fun k hk=>hf k (.tail _ hk)) h⟩
theorem Qw{kd:KD}(ks:List PV)(hf:DJ kd ks=true):(∀ k∈ks,kd.fits k)∧(JR ks=true→ks.Nodup):=by
 induction ks with
 |nil=>exact⟨fun _ h=>(nomatch h),fun _=>pH⟩
 |cons x xs ih=>
  have hf:(match kd.fitsB x with | true=>DJ kd xs | false=>false)=true:=hf
  cases q:kd.fitsB x with
  |false=>rw [q] at hf;cases hf
  |true=>
   replace hf:=(q)▸hf
   refine⟨List.forall_mem_cons.mpr ⟨q,(ih hf).1⟩,fun h=> ?_⟩
   have h:(match dhas xs x with | true=>false | false=>JR xs)=true:=h
   cases q':dhas xs x with
   |true=>rw [q'] at h;cases h
   |false=>rw [q'] at h;exact List.nodup_cons.mpr ⟨aEs xs (ih hf).1 q q',(ih hf).2 h⟩
noncomputable def dP(ks:List PV):Dn (List SV) (List (aB×aB)):=fun C X n vs ws=>bO C X ks (ws.map (·.1))∧fM C X n vs (ws.map (·.2))
structure PD(K:KK) where
 m:M (List SV)
 ks:List PV
 rk:List (Option Expr)→List (Option Expr)
 rv:List Expr→List Expr
 f:List (Option Expr)→List Expr→Pos→List (Sem aB×Sem aB)
 n:Nat
 shape:∀ es vs pos,(evalEachOpt (rk es) K.env).zip ((evalEach (rv vs) K.env).map fun v=>do let x ←v;standAt pos;pure x)=(f es vs pos).map fun p=>(some p.1,p.2)
 len:∀ es vs pos,(f es vs pos).length=n
 ok:∀ es vs pos {A:aR} {st:St} (z:Z K A st),Go z (dP ks) (K.wp A (evalPairs (f es vs pos))) (m st)
noncomputable def xo:Expr→List (Option Expr)
 |.Dict ks _ _=>ks
 |_=>[]
noncomputable def Pk:List (Option Expr)→Expr
 |some e::_=>e
 |_=>dR []
noncomputable def HF:PD K:=⟨rt [],[],fun _=>[],fun _=>[],fun _ _ _=>[],0,fun _ _ _=>rfl,fun _ _ _=>rfl,fun _ _ _ _ _ z=>.rt (x:=[]) ⟨rfl,rfl⟩ fun Q q=>evalPairs_nil q⟩
theorem aGo(b:PE K)(r:PD K)(e:Expr)(es:List (Option Expr))(vs:List Expr)(pos:Pos)(dx:bE K.C z.X.W k x):Go z (dP (k::r.ks)) (fun Q=>K.wp A (do let x ←eval (b.r e) K.env;standAt pos;pure x) fun y=>K.wp A (evalPairs (r.f es vs pos)) fun ws=>Q ((x,y)::ws)) (HV b.m r.m st):=
 (b.ok _ z).ru (fun Q q=>aF (fT q fun _ _ h=>aF (Gh (bF h)))) fun {_ _ y} z₂ l₂ dy=>(r.ok es vs pos z₂).ru (fun Q q=>q) fun {sv st₃ ws} z₃ l₃ d=>.rt (x:=(x,y)::ws) ⟨.mk (((l₂.t l₃).v dx:z₃.d dV (.pv k) x)) d.1,.mk (l₃.v dy) d.2⟩ fun Q q=>q
noncomputable def yI(a:PE K)(b:PE K)(r:PD K)(ha:a.m=rt (.pv k):=by rfl):PD K:=⟨HV b.m r.m,k::r.ks,fun es=>some (a.r (Pk es))::r.rk es.tail,fun vs=>b.r (dR vs)::r.rv vs.tail,
 fun es vs pos=>(eval (a.r (Pk es)) K.env,do let x ←eval (b.r (dR vs)) K.env;standAt pos;pure x)::r.f es.tail vs.tail pos,r.n+1,fun es vs pos=>congrArg (_:: ·) (r.shape es.tail vs.tail pos),fun es vs pos=>congrArg lK (r.len _ _ _),
 fun es vs pos A st z sv st' e Q q=>evalPairs_cons (a.ok _ z (.pv k) st (by rw [ha];rfl) _ fun z₁ x l dx=>aGo b r _ _ _ _ dx sv st' e Q fun z' x l' d=>q z' x (l.t l') d)⟩
theorem aDE(h:gG kd=false)(ws:List (aB×aB)):∀ {ks:List PV},aS (bE C W) ks (ws.map (·.1))→(∀ k∈ks,kd.fits k)→Carries (kk C kd) ws (ks.zip (ws.map (·.2)))∧ks.length=(ws.map (·.2)).length:=by
 induction ws with
 |nil=>intro ks d _;cases ks with
  |nil=>exact⟨trivial,rfl⟩
  |cons=>cases d
 |cons w ws ih=>intro ks d hf;cases ks with
  |nil=>cases d
  |cons k ks=>cases d with | mk v vs a as=>
   have:=ih as fun k hk=>hf k (.tail _ hk)
   exact⟨⟨(zK h).mpr ⟨hf _ (.head _),a⟩,rfl,this.1⟩,congrArg lK this.2⟩
noncomputable def JC(kd:KD)(ks:List PV):Bool:=match gG kd with
 |true=>false
 |false=>match DJ kd ks with
  |true=>JR ks
  |false=>false
theorem aHp(h:JC kd ks=true):gG kd=false∧(∀ k∈ks,kd.fits k)∧ks.Nodup:=by
 unfold JC at h
 cases q:gG kd with
 |true=>rw [q] at h;cases h
 |false=>
  rw [q] at h
  have h:(match DJ kd ks with | true=>JR ks | false=>false)=true:=h
  cases q':DJ kd ks with
  |false=>rw [q'] at h;cases h
  |true=>rw [q'] at h;exact⟨rfl,(Qw ks q').1,(Qw ks q').2 h⟩
theorem Of(e:gd b k st=some r){P:Prop}(h:b=true→k st=some r→P):P:=by
 cases b with
 |true=>exact h rfl e
 |false=>cases e
noncomputable abbrev yZ:Obj:={cls:=.type "dict",data:=.dict #[]}
theorem Ov(pd:PD K){f:List SV→M SV}(es:List (Option Expr))(vs:List Expr)(pos:Pos)(h0:bR pd.n 0=false)(hl:qA pd.n 15=true)(k:∀ {st₁:St} {sv:List SV} {D:Addr} {o:Obj} (z₂:Z K A st₁),z₂.X.W D=none→z₂.s.heap.get? D=some o→iG K.C kd pd.ks (bO K.C z₂.X pd.ks) (fM K.C z₂.X st₁.cells.length sv) o→Go z₂ dV (fun Q s=>Q (.ref D) s) (f sv st₁)):
  Go z dV (K.wp A (eval (.Dict (pd.rk es) (pd.rv vs) pos) K.env)) (bd pd.m (fun sv=>gd (JC kd pd.ks) (f sv)) st):=by
 intro a st' e Q q
 refine lE e fun sv st₁ e₁ e₂=>Of e₂ fun hb e₃=> ?_
 obtain⟨hp,hf,hn⟩:=aHp hb
 have hW:z.X.W (sz z)=none:=z.R.fresh (cX _)
 have ho:(z.s.heap.push yZ).get? (sz z)=some yZ:=nY _ rfl
 refine wpAny_Dict_pairs (knd:=kk K.C kd) (pd.shape es vs pos) (fun h=> ?_) (by rw [pd.len];exact bT hl) (pd.ok es vs pos ((z.push yZ z.s.toks).put (sz z) (some (.iter yZ)) _ z.s.toks (.inl hW) (fun _ _ _ e=>e) (rO ho)) sv st₁ e₁ _ fun z₁ ws l d=> ?_)
 ·have:=pd.len es vs pos;rw [h] at this;rw [←this] at h0;cases h0
 obtain⟨hc,hz⟩:=aDE hp ws d.1 hf
 have le:z.X.le st.cells.length z₁.X st₁.cells.length:=Xt.le.trans (kO Z.le0 hW) l
 have hWD:z₁.X.W (sz z)=some (.iter yZ):=l.iter _ _ kR
 refine⟨_,hc,⟨_,#[],0,z₁.R.val _ _ hWD,⟨rfl,rfl,rfl⟩,rfl,fun e he=>(by cases Array.mem_toList_iff.mpr he),.nil,pH⟩,fun h' hd' sb=> ?_⟩
 rw [aIi _ [] (by rw [oA,sC hz];exact hn),oA] at hd'
 obtain⟨o,h1,h2⟩:=Cn (W:=z₁.X.W) (P:=fG K.C z₁.X st₁.cells.length) (vs:=sv) hp hd' ((Gn hz).symm▸d.2)
 rw [sC hz] at h2
 have lw:z₁.X.low st₁.cells.length (z₁.X.put (sz z) none) st₁.cells.length:=(Tr.put (r:=none) z₁.R.val (.inr ⟨_,hWD⟩) (rF sb) fun _ z=>nomatch z).low
 exact k (z₁.put (sz z) none h' (z₁.s.toks+ws.length) (.inr ⟨_,hWD⟩) (rF sb) fun _ z=>nomatch z) kR h1 (h2.imp (fun _=>bO.mono lw) (fun _=>fM.mono lw) o) a st' e₃ Q fun z' x l' d=>q z' x (Xt.le.trans (kO le hW) l') d
noncomputable def Bo(kd:KD)(ks:List PV)(vs:List SV):M SV:=gd (JC kd ks) fun st=>some (.ref st.cells.length,⟨st.loc,st.cells++[.sdict kd ks vs]⟩)
noncomputable def QA(kd:KD)(ks:List PV)(vs:List SV):M SV:=gd (JC kd ks) fun st=>match pN vs with
 |some xs=>some (.ref st.cells.length,⟨st.loc,st.cells++[.dict kd ks xs]⟩)
 |none=>none
noncomputable def Hv(kd:KD)(pd:PD K)(h0:bR pd.n 0=false:=by rfl)(hl:qA pd.n 15=true:=by rfl):PE K:=⟨bd pd.m (Bo kd pd.ks),fun e=>.Dict (pd.rk (xo e)) (pd.rv (xs e)) e.pos,3,fun _=>rfl,fun e _ _ z=>Ov pd _ _ _ h0 hl fun z₂ hn ho d=>
 .adC hn ho (fun l=>d.imp (fun _=>bO.mono l) (fun _=>fM.mono l) _) id⟩
noncomputable def UC(kd:KD)(pd:PD K)(h0:bR pd.n 0=false:=by rfl)(hl:qA pd.n 15=true:=by rfl):PE K:=⟨bd pd.m (QA kd pd.ks),fun e=>.Dict (pd.rk (xo e)) (pd.rv (xs e)) e.pos,3,fun _=>rfl,fun e _ _ z=>Ov pd _ _ _ h0 hl fun {st₁ sv D o} z₂ hn ho d=>by
 cases q:pN sv with
 |none=>exact .no
 |some xs=>exact .adC hn ho (fun l=>d.imp (fun _=>bO.mono l) (fun _ dv=>bO.mono l (MT sv dv xs q)) _) id⟩
end
section
variable{K:KK}{A:aR}{st:St}{z:Z K A st}{α β:Type}{E:aB→aG→Prop}
noncomputable def pP{α:Type}(lo hi:Option Int)(xs:List α):List α:=(xs.drop (lo.elim 0 (clipAt xs.length))).take (hi.elim xs.length (clipAt xs.length) - lo.elim 0 (clipAt xs.length))
noncomputable def aEm:Dn (Option Int) aB:=fun _ _ _ v x=>IsPart x v
structure PP(K:KK) where
 m:M (Option Int)
 r:Option Expr→Option Expr
 ok:∀(e:Option Expr) {A:aR} {st:St} (z:Z K A st),Go z aEm (K.wp A (evalPart (r e) K.env)) (m st)
noncomputable def HE:PP K:=⟨rt none,fun _=>none,fun _ _ _ z=>.rt (x:=.none) IsPart.none fun Q q=>wpAny_evalPart_none q⟩
noncomputable def Iy(a:SV):M (Option Int):=gM a (fun i=>rt (some i)) er
noncomputable def hdP:Option Expr→Expr
 |some e=>e
 |none=>dR []
noncomputable def tR(a:PE K):PP K:=⟨bd a.m Iy,fun e=>some (a.r (hdP e)),fun e A st z=>(a.ok _ z).ru (u:=fun x Q=>Q x) (fun Q q=>wpAny_evalPart_some q) fun z₁ l₁ dx=>.onI (T:=fun x Q=>Q x) dx (fun i t=>.rt (x:=.int i t) (IsPart.int i t) fun Q q=>q) .er⟩
noncomputable def Zf:Expr→Option Expr
 |.Slice lo _ _ _=>lo
 |_=>none
noncomputable def Gk:Expr→Option Expr
 |.Slice _ hi _ _=>hi
 |_=>none
theorem aOs{E:aB→aG→Prop}{s:aG}{sl:Addr}{a b n:Nat}{u v:Tok}{Q:Int×Int×Nat→aG→Prop}(hs:s.heap.IsSliceOf sl (.int a u) (.int b v) .none)(hab:a≤b)(hb:b≤n)(h:Q ((a:Int),1,b - a) s):
  aI (aK K.C.prog K.C.w) A (Builtin.Slice.sliceApplied (.ref sl) (pure (n:Int))) Q E s:=by
 obtain⟨os,hos,hcs,hds⟩:=id hs
 refine aF (aF (wpAny_field hos hds (x:=.int a u) rfl (aF (wpAny_field hos hds (x:=.int b v) rfl (aF (wpAny_field hos hds (x:=.none) rfl (bF ?_)))))))
 refine aF (slicePart_none ?_)
 rw [if_neg (by decide)]
 refine aF (slicePart_int (aF (slicePart_int (aF (bF ?_)))))
 have e1:Gu (some (a:Int)) (some (b:Int)) 1 (n:Int)=((a:Int),(b:Int)):=by
  unfold Gu
  have h1:¬((1:Int) < 0):=by decide
  have h2:¬((a:Int) < 0):=Int.not_lt.mpr (GK a)
  have h3:¬((b:Int) < 0):=Int.not_lt.mpr (GK b)
  exact Prod.ext (Int.min_eq_left (Int.ofNat_le.mpr (aP hab hb))) (Int.min_eq_left (Int.ofNat_le.mpr hb))
 have e2:SA (a:Int) (b:Int) 1=b - a:=by
  unfold SA
  have h1:(1:Int) > 0:=by decide
  simp only [h1,if_true,Int.ediv_one]
  split
  ·rw [Int.sub_add_cancel];exact Int.toNat_sub b a
  ·rename_i h;exact(Nat.sub_eq_zero_of_le (Int.ofNat_le.mp (Int.not_lt.mp h))).symm
 show aI _ _ (match Gu (some (a:Int)) (some (b:Int)) 1 (n:Int) with | (lo,hi)=>pure (lo,(1:Int),SA lo hi 1)) _ _ s
 refine(e1).symm▸?_
 show aI _ _ (pure ((a:Int),(1:Int),SA (a:Int) (b:Int) 1)) _ _ s
 refine(e2).symm▸?_
 exact bF h
theorem aJv(xs:Array aB)(a k:Nat):((uQ k).filterMap fun(j:Nat)=>xs[((a:Int)+(j:Int)*1).toNat]?).toArray=((xs.toList.drop a).take k).toArray:=by
 have e:(fun(j:Nat)=>xs[((a:Int)+(j:Int)*1).toNat]?)=fun j=>xs[a+j]?:=by
  funext j
  have:((a:Int)+(j:Int)*1).toNat=a+j:=by rw [Int.mul_one];rfl
  rw [this]
 refine(e).symm▸?_
 have:=pick_run xs a k
 rw [List.filterMap_map] at this
 have e2:((fun x=>xs[x]?)∘fun x=>a+x)=fun j=>xs[a+j]?:=rfl
 rw [e2] at this
 rw [this]
theorem aFY{E:aB→aG→Prop}{s:aG}{t sl:Addr}{items:Array aB}{a b:Nat}{u v:Tok}{Q:aB→aG→Prop}(ht:IsTup s.heap t items)(hs:s.heap.IsSliceOf sl (.int a u) (.int b v) .none)(h1:1≤a)(hab:a≤b)(hb:b≤items.size)
  (h:Q (.ref s.heap.objs.size) {s with heap:=s.heap.push {cls:=.type "tuple",data:=.seq ((items.toList.drop a).take (b - a)).toArray}})
  (hsz:items.size≤fO):aI (aK K.C.prog K.C.w) A (getItem (.ref t) (.ref sl)) Q E s:=by
 have hdrop:sizeOk (.seq ((items.toList.drop a).take (b - a)).toArray):=by
  show((items.toList.drop a).take (b - a)).toArray.size≤fO
  rw [hZ,CU,TH,pY]
  exact aP (Nat.min_le_right ..) (aP (Nat.sub_le ..) hsz)
 obtain⟨os,hos,hcs,hds⟩:=id hs
 have hTs:s.TypeIs (.ref sl) "slice":=⟨os,hos,hcs⟩
 unfold getItem
 try with_reducible refine pD ?_
 first | refine aF (bF ?_) | skip
 refine aF (wpAny_sequenceKey ht.typeIs rfl ?_)
 refine aF (wpAny_callSpecial?_slot (name:=uV "__getitem__") ht.typeIs slot_tuple_getitem
  (RM slot_tuple_getitem ht.typeIs entry_tuple_getitem ?_ (args_tuple_getitem _ _)))
 show aI _ _ (Builtin.Tuple.tupleItemsOf (.ref t) >>= _) _ _ s
 refine aF (tupleItemsOf_ ht ?_)
 refine aF (LK hTs ?_)
 rw [if_pos (by decide)]
 refine aF (aOs hs hab hb ?_)
 have hno:¬(((a:Int)==0 && (1:Int)==1 && (b - a)==items.size)=true):=by
  have:((a:Int)==0)=false:=by rw [beq_eq_false_iff_ne];exact fun e=>absurd (Int.ofNat.inj e▸h1:1≤0) (by decide)
  rw [this];simp
 show aI _ _ (if ((a:Int)==0 && (1:Int)==1 && (b - a)==items.size)=true then _ else _) _ _ s
 rw [if_neg hno,aJv items a]
 first
  |exact aF (m:=SD _) (FY (bF ⟨_,rfl,bF h⟩) hdrop)
  |exact aF (m:=SD _) (FY (aF (bF (bF ⟨_,rfl,bF h⟩))) hdrop)
  |exact aF (aF (m:=SD _) (FY (bF (bF ⟨_,rfl,bF h⟩)) hdrop))
  |exact aF (aF (m:=SD _) (FY (bF ⟨_,rfl,bF h⟩) hdrop))
noncomputable def QH(i:Int)(n:Nat):Bool:=decide (1≤i) && decide (i≤n)
theorem Cq{i:Int}{n:Nat}(h:QH i n=true):1≤i∧i≤n:=by
 have h:=hJ _ _▸h;exact⟨of_decide_eq_true h.1,of_decide_eq_true h.2⟩
theorem Cr{i:Int}{n:Nat}(h:1≤i∧i≤n):(i.toNat:Int)=i∧1≤i.toNat∧i.toNat≤n:=
 have e:=SR (Int.le_trans (by decide) h.1)
 ⟨e,Int.ofNat_le.mp (show((1:Nat):Int)≤_ by rw [e];exact h.1),Int.ofNat_le.mp (by rw [e];exact h.2)⟩
noncomputable def Ll(xs:List PV)(lo hi:Option Int):M SV:=match lo with
 |some i=>match hi with
  |some j=>gd (QH i xs.length && (decide (i≤j) && QH j xs.length)) (rt (.pv (.tup ((xs.drop i.toNat).take (j.toNat - i.toNat)))))
  |none=>gd (QH i xs.length) (rt (.pv (.tup (xs.drop i.toNat))))
 |none=>er
noncomputable def QX(a:SV)(lo hi:Option Int):M SV:=kQ a (fun l=>dM l.length (rt (.pv (.bytes (pP lo hi l))))) (CA a (fun xs=>dM xs.length (Ll xs lo hi))
 (iD a (fun xs=>dM xs.length fun st=>some (.ref st.cells.length,⟨st.loc,st.cells++[.list (pP lo hi xs)]⟩)) er))
theorem aBV{b:Array UInt8}{lo hi:Option Int}{t:Tok}:z.d dV (.pv (.bytes (pP lo hi (b.toList.map cH)))) (.bytes (KBy.picked b lo hi) t):=by
 rw [KBc.picked_eq]
 have e:pP lo hi (b.toList.map cH)=(List.take (hi.elim b.size (clipAt b.size) - lo.elim 0 (clipAt b.size)) (List.drop (lo.elim 0 (clipAt b.size)) b.toList)).toArray.toList.map cH:=by
  unfold pP
  rw [bQ,pY,LX,List.map_drop]
 rw [e];exact iQ.mk _ t
theorem aGh{vl vu:aB}{lo hi:Option Int}{t sa:Addr}{xs:List PV}{vs:List aB}{ep:Nat}(pl:IsPart vl lo)(pu:IsPart vu hi)(hs:z.s.heap.IsSliceOf sa vl vu .none)(ht:z.s.heap.get? t=some (mG vs ep))(d:bO K.C z.X xs vs)(hz:(iU vs).size≤1000000):Go z dV (pC K A (.ref t) (.ref sa)) (Ll xs lo hi st):=by
 have hT:IsTup z.s.heap t vs.toArray:=⟨_,ht,rfl,_,rfl⟩
 have hl:xs.length=vs.toArray.size:=by rw [hZ];exact d.len
 cases pl with
 |none=>exact .er
 |int i u=>cases pu with
  |none=>
   exact .gd fun e=>by
    obtain⟨e1,e2,e3⟩:=Cr (Cq e)
    rw [hl] at e3
    exact .newT z.s.toks (d.drop i.toNat) fun Q q=>⟨"tuple",_,hT.typeIs,slot_tuple_getitem.lookup,getItem_tuple_from (a:=i.toNat) hT (by rw [e1];exact hs) e2 e3 q (gH hz)⟩
  |int j v=>
   exact .gd fun e=>by
    have e:=hJ _ _▸e
    have e':=hJ _ _▸e.2
    obtain⟨e1,e2,e3⟩:=Cr (Cq e.1)
    obtain⟨f1,f2,f3⟩:=Cr (Cq e'.2)
    rw [hl] at f3
    exact .newT z.s.toks ((d.drop i.toNat).take _) fun Q q=>⟨"tuple",_,hT.typeIs,slot_tuple_getitem.lookup,aFY (a:=i.toNat) (b:=j.toNat) hT ((e1).symm▸(f1).symm▸hs) e2 (Int.toNat_le_toNat (of_decide_eq_true e'.1)) f3 q (gH hz)⟩
theorem aLK{vl vu x:aB}{lo hi:Option Int}{sa:Addr}{a:SV}(pl:IsPart vl lo)(pu:IsPart vu hi)(hs:z.s.heap.IsSliceOf sa vl vu .none)(dx:z.d dV a x):Go z dV (pC K A x (.ref sa)) (QX a lo hi st):=
 .onB (T:=fun x=>pC K A x (.ref sa)) dx (fun b t=>.fitB fun h=>.tok (x:=fun k=>.bytes (KBy.picked b lo hi) k) (fun k=>aBV) fun Q q=>⟨"bytes","bytes.__getitem__",iE _ _ _,FB.slot_bytes_getitem.lookup,getItem_meets (iE _ _ _) rfl FB.slot_bytes_getitem FB.entry_bytes_getitem (FB.args_bytes_getitem_2 _ _) (KBc.meets_slice2 b t _ pl pu) ⟨hs,aP (KBc.size_picked_le b lo hi) (gH h),fun t' k=>q k t'⟩⟩)
 (.onT (T:=fun x=>pC K A x (.ref sa)) dx (fun xs l vs ep _ ht d=>.fitL d fun h=>aGh pl pu hs ht d h)
 (.onL (T:=fun x=>pC K A x (.ref sa)) dx (fun xs l vs ep hl d=>.fitL d fun h=>by
  have dc:bO K.C z.X (pP lo hi xs) (pP lo hi vs):=by unfold pP;exact(d.len).symm▸(d.drop _).take _
  refine .newL z.s.toks dc fun Q q=>⟨"list",_,qH hl,list_getitem_lookup,wpAny_getItem_list_slice ⟨_,hl,rfl,_,rfl⟩ hs pl pu .none (by decide) ?_ (gH h)⟩
  rw [slicePick_plain];exact q) .er))
noncomputable def yG(a:PE K)(l h:PP K):PE K:=⟨bd a.m fun a=>bd l.m fun l=>bd h.m fun u=>QX a l u,fun e=>.Subscript (a.r (x1 e)) (.Slice (l.r (Zf (x2 e))) (h.r (Gk (x2 e))) none (x2 e).pos) e.pos,3,fun _=>rfl,
 fun e A _ z=>(a.ok _ z).ru (u:=fun x Q=>K.wp A (eval (.Slice (l.r (Zf (x2 e))) (h.r (Gk (x2 e))) none (x2 e).pos) K.env) fun i s=>pC K A x i Q s) (fun Q q=>Subscript_ (fT q fun _ _ q=>fT q fun _ _ ⟨T,id,hT,hl,hg⟩=>tail_any hT hl hg rfl)) fun {_ _ x} z₁ l₁ dx=>(l.ok _ z₁).ru (u:=fun vl Q=>K.wp A (evalPart (h.r (Gk (x2 e))) K.env) fun vu s=>pC K A x (.ref s.heap.objs.size) Q {s with heap:=s.heap.push {cls:=.type "slice",data:=.fields #[vl,vu,.none]}})
  (fun Q q=>wpAny_Slice (fT q fun _ _ q=>fT q fun _ _ q=>wpAny_evalPart_none q)) fun {_ _ vl} z₂ l₂ pl=>(h.ok _ z₂).ru (u:=fun vu Q s=>pC K A x (.ref s.heap.objs.size) Q {s with heap:=s.heap.push {cls:=.type "slice",data:=.fields #[vl,vu,.none]}}) (fun Q q=>q) fun {_ _ vu} z₃ l₃ pu=>
   .from (z₃.push {cls:=.type "slice",data:=.fields #[vl,vu,.none]} z₃.s.toks) Z.le0 (aLK (z:=z₃.push {cls:=.type "slice",data:=.fields #[vl,vu,.none]} z₃.s.toks) pl pu (Heap.IsSliceOf.new ..) ((l₂.t l₃).v dx)) fun Q q=>q⟩
end
section
open PySem PySem.W PySem.Calls PyProof.Rows PySem.SeqAt
noncomputable def lU(f:PV→PV→Option Bool):List PV→List PV→Option Bool
 | [],ys=>match ys with
  | []=>some true
  |_::_=>some false
 |x::xs,ys=>match ys with
  | []=>some false
  |y::ys=>match f x y with
   |some a=>match lU f xs ys with
    |some b=>some (a && b)
    |none=>none
   |none=>none
noncomputable def Mj(f:PV→PV→Option Bool)(x y:PV):Option Bool:=match x with
 |.none=>match y with
  |.none=>some true
  |.tup _=>some false
  |_=>none
 |.bool a=>match y with
  |.bool b=>some (a==b)
  |_=>none
 |.int a=>match y with
  |.int b=>some (eqI a b)
  |_=>none
 |.str a=>match y with
  |.str b=>some (eqL a b)
  |_=>none
 |.bytes a=>match y with
  |.bytes b=>some (eqL a b)
  |_=>none
 |.tup xs=>match y with
  |.none=>some false
  |.tup ys=>lU f xs ys
  |_=>none
 |.lst xs=>match y with
  |.lst ys=>lU f xs ys
  |_=>none
 |_=>none
noncomputable def iX:Nat→PV→PV→Option Bool
 |0,_,_=>none
 |n+1,x,y=>Mj (iX n) x y
inductive uK(f:PV→PV→Option Bool):PV→PV→Bool→Prop
 |nn:uK f .none .none true
 |nt (xs:List PV):uK f .none (.tup xs) false
 |tn (xs:List PV):uK f (.tup xs) .none false
 |bb (a b:Bool):uK f (.bool a) (.bool b) (a==b)
 |ii (a b:Int):uK f (.int a) (.int b) (eqI a b)
 |ss (a b:List Nat):uK f (.str a) (.str b) (eqL a b)
 |yy (a b:List Nat):uK f (.bytes a) (.bytes b) (eqL a b)
 |tt (xs ys:List PV) (b:Bool) (h:lU f xs ys=some b):uK f (.tup xs) (.tup ys) b
 |ll (xs ys:List PV) (b:Bool) (h:lU f xs ys=some b):uK f (.lst xs) (.lst ys) b
theorem Mh(h:Mj f x y=some b):uK f x y b:=by
 cases x with
 |none=>cases y with
  |none=>cases h;exact .nn
  |tup=>cases h;exact .nt _
  |_=>cases h
 |bool=>cases y with
  |bool=>cases h;exact .bb _ _
  |_=>cases h
 |int=>cases y with
  |int=>cases h;exact .ii _ _
  |_=>cases h
 |str=>cases y with
  |str=>cases h;exact .ss _ _
  |_=>cases h
 |bytes=>cases y with
  |bytes=>cases h;exact .yy _ _
  |_=>cases h
 |tup=>cases y with
  |none=>cases h;exact .tn _
  |tup=>exact .tt _ _ _ h
  |_=>cases h
 |lst=>cases y with
  |lst=>exact .ll _ _ _ h
  |_=>cases h
 |_=>cases h
theorem Mg{xs ys:List PV}(h:lU f (x::xs) (y::ys)=some b):∃ a c,f x y=some a∧lU f xs ys=some c∧b=(a && c):=by
 have h:(match f x y with | some a=>(match lU f xs ys with | some b=>some (a && b) | none=>none) | none=>none)=some b:=h
 cases q:f x y with
 |none=>rw [q] at h;cases h
 |some a=>
  replace h:=(q)▸h
  have h:(match lU f xs ys with | some b=>some (a && b) | none=>none)=some b:=h
  cases q':lU f xs ys with
  |none=>rw [q'] at h;cases h
  |some c=>rw [q'] at h;cases h;exact⟨a,c,rfl,rfl,rfl⟩
noncomputable def KG(f:PV→PV→Option Bool)(xs ys:List PV)(j:Nat):Bool:=match xs[j]? with
 |some x=>match ys[j]? with
  |some y=>(f x y).getD false
  |none=>true
 |none=>true
theorem XS{f:PV→PV→Option Bool}(xs:List PV):∀ {ys:List PV} {b:Bool},lU f xs ys=some b→
  b=((uQ (min xs.length ys.length)).all (KG f xs ys) && xs.length==ys.length)∧∀ j x y,xs[j]? =some x→ys[j]? =some y→f x y=some (KG f xs ys j):=by
 induction xs with
 |nil=>intro ys b h;cases ys with
  |nil=>cases h;exact⟨rfl,fun _ _ _ e=>nomatch e⟩
  |cons=>cases h;exact⟨by rw [LV,Nat.zero_min];rfl,fun _ _ _ e=>nomatch e⟩
 |cons x xs ih=>intro ys b h;cases ys with
  |nil=>cases h;exact⟨by rw [LV,Nat.min_zero];rfl,fun _ _ _ _ e=>nomatch e⟩
  |cons y ys=>
   obtain⟨a,c,q,h1,rfl⟩:=Mg h
   obtain⟨rfl,h2⟩:=ih h1
   have p0:KG f (x::xs) (y::ys) 0=a:=by show(f x y).getD false=a;rw [q];rfl
   refine⟨?_,fun j x' y' e e'=> ?_⟩
   ·rw [show min (x::xs).length (y::ys).length=min xs.length ys.length+1 from Nat.succ_min_succ ..,show((x::xs).length==(y::ys).length)=(xs.length==ys.length) from by rw [qO,beq_iff_eq,beq_iff_eq];exact Nat.succ_inj,Hh,List.all_cons,List.all_map,p0,Bool.and_assoc];rfl
   ·cases j with
    |zero=>cases e;cases e';exact(p0).symm▸q
    |succ j=>exact h2 j x' y' e e'
theorem aAS{xs ys:List PV}(h:lU f xs ys=some b):(xs.length=ys.length→(uQ xs.length).all (KG f xs ys)=b)∧(xs.length≠ys.length→b=false):=by
 have e:=(XS xs h).1
 exact⟨fun q=>by rw [e,←q,Nat.min_self,beq_self_eq_true,Bool.and_true],fun q=>by rw [e,beq_eq_false_iff_ne.mpr q,RV]⟩
theorem Wi{f:List aB→Nat→Obj}(hf:∀ vs n,(f vs n).data= .seq vs.toArray n)(e:some (bS.fro (f vs n))=some (.fro (f ws m))):vs=ws:=by
 have e:=congrArg Obj.data (bS.fro.inj (iW e))
 rw [hf,hf] at e
 injection e with e;injection e
section
variable{C:Cx}{W:Addr→Option bS}
theorem aEq(n:Nat):∀ {x y:PV} {b:Bool} {v:aB},iX n x y=some b→bE C W x v→bE C W y v→b=true:=by
 induction n with
 |zero=>intro x y b v h;cases h
 |succ n ih=>
  have all:∀(xs:List PV) {ys:List PV} {b:Bool} {vs:List aB},lU (iX n) xs ys=some b→DenL C W xs vs→DenL C W ys vs→b=true:=by
   intro xs
   induction xs with
   |nil=>intro ys b vs h d d';cases ys with
    |nil=>cases h;rfl
    |cons=>subst d;cases d'
   |cons x xs ihx=>intro ys b vs h d d';cases ys with
    |nil=>subst d';cases d
    |cons y ys=>
     cases d with | mk v vs d ds=>
     cases d' with | mk v vs d' ds'=>
     obtain⟨a,c,q,h1,rfl⟩:=Mg h
     rw [ih q d d',ihx h1 ds ds'];rfl
  intro x y b v h d d'
  cases Mh h with
  |nn=>rfl
  |nt=>subst d;cases d'
  |tn=>subst d';cases d
  |bb=>subst d;cases d';exact beq_self_eq_true _
  |ii=>cases d;cases d';exact EB.mpr rfl
  |ss=>cases d;cases d';exact jI.mpr rfl
  |yy=>cases d;cases d';exact jI.mpr rfl
  |tt xs ys b h=>cases d with | mk a vs ep hw hl=>cases d' with | mk a vs' ep' hw' hl'=>cases Wi (fun _ _=>rfl) (hw.symm.trans hw');exact all xs h hl hl'
  |ll xs ys b h=>cases d with | mk a vs ep hw hl=>cases d' with | mk a vs' ep' hw' hl'=>cases Wi (f:=bY) (fun _ _=>rfl) (hw.symm.trans hw');exact all xs h hl hl'
theorem aFc(a b:Int):(a==b)=eqI a b:=by rw [qO,beq_iff_eq,EB]
theorem aFf(a b:Str):(a==b)=eqL a.cps.toList b.cps.toList:=by
 rw [qO,beq_iff_eq,jI]
 exact⟨fun e=>e▸rfl,fun h=>by rw [←xO a,←xO b,h]⟩
theorem aFd(b c:Array UInt8):(b.toList==c.toList)=eqL (b.toList.map cH) (c.toList.map cH):=by
 rw [qO,beq_iff_eq,jI]
 exact⟨fun h=>by rw [h],JH⟩
noncomputable def aGK:aB→Bool
 |.float ..=>true
 |_=>false
structure UI(A:aR)(s:aG)(v w:aB)(b:Bool):Prop where
 eq:RcAt A s v w b
 ne:RcNeAt A s v w (!b)
 nf:aGK v=false:=by rfl
theorem aEZ(hs:v=w→b=true)(h:UI A s v w b):EqAt A s v w b:=fun prog wd E Q q=>by
 refine pD (wpAny_ite_split (fun hab=> ?_) (fun _=> ?_))
 ·rw [hs (eq_of_beq hab)] at q
  exact aF (xU (bF q))
 ·have nf:=h.nf
  cases v with
  |float=>cases nf
  |_=>exact aF (h.eq prog wd E _ (uI q))
inductive wG(C:Cx)(W:Addr→Option bS)(h:Heap)(x:PV)(v:aB):Prop
 |den (d:bE C W x v)
 |lst (xs:List PV) (l:Addr) (vs:List aB) (hx:x= .lst xs) (hv:v= .ref l) (hl:h.IsList l vs.toArray) (d:aS (bE C W) xs vs)
theorem wG.plain(s:wG C W h x v)(n:∀ xs,x≠ .lst xs):bE C W x v:=by
 cases s with
 |den d=>exact d
 |lst xs l vs hx=>exact absurd hx (n xs)
variable{s:aG}(fro:∀ a o,W a=some (.fro o)→s.heap.get? a=some o)
include fro in
theorem wG.list{xs:List PV}(q:wG C W s.heap (.lst xs) v):∃ l vs,v= .ref l∧s.heap.IsList l (iU vs)∧aS (bE C W) xs vs:=by
 cases q with
 |den d=>cases d with | mk a vs ep hw hl=>exact⟨a,vs,rfl,⟨_,fro _ _ hw,rfl,ep,rfl⟩,iC xs▸hl⟩
 |lst ys l vs hx hv hl d=>cases hx;exact⟨l,vs,hv,hl,d⟩
include fro in
theorem RH{xs:List PV}(d:bE C W (.tup xs) v):∃ l vs,v= .ref l∧s.heap.IsTuple l (iU vs)∧aS (bE C W) xs vs:=by
 cases d with | mk a vs ep hw hl=>exact⟨a,vs,rfl,⟨_,fro _ _ hw,rfl,ep,rfl⟩,iC xs▸hl⟩
theorem QL{xs ys:List PV}(hf:∀ {x y:PV} {b:Bool} {v w:aB},iX n x y=some b→bE C W x v→bE C W y w→EqAt A s v w b)(h:lU (iX n) xs ys=some b)(d:aS (bE C W) xs vs)(d':aS (bE C W) ys ws)(j:Nat)(h1:j < vs.toArray.size)(h2:j < ws.toArray.size):EqAt A s vs.toArray[j] ws.toArray[j] (KG (iX n) xs ys j):=by
 have l1:j < xs.length:=d.len▸h1
 have l2:j < ys.length:=d'.len▸h2
 obtain⟨v,hv,dv⟩:=d.get (tO l1)
 obtain⟨w,hw,dw⟩:=d'.get (tO l2)
 rw [List.getElem_toArray,List.getElem_toArray,(List.getElem?_eq_some_iff.mp hv).2,(List.getElem?_eq_some_iff.mp hw).2]
 exact hf ((XS xs h).2 j _ _ (tO l1) (tO l2)) dv dw
include fro in
theorem Uo{A:aR}{n:Nat}{x y:PV}{v w:aB}{r:Bool}(hu:A.units < cLine)(sub:∀ {x y:PV} {b:Bool} {v w:aB},iX n x y=some b→bE C W x v→bE C W y w→EqAt A.in1 s v w b)(h:iX (n+1) x y=some r)(dv:wG C W s.heap x v)(dw:wG C W s.heap y w):UI A s v w r:=by
 cases Mh h with
 |nn=>cases dv.plain (fun _ e=>nomatch e);cases dw.plain (fun _ e=>nomatch e);exact⟨RcAt.none_none,RcNeAt.none_none,rfl⟩
 |nt=>cases dv.plain (fun _ e=>nomatch e);obtain⟨l,vs,rfl,hl,_⟩:=RH fro (dw.plain (fun _ e=>nomatch e));exact⟨RcAt.none_tuple hl hu,RcNeAt.none_tuple hl hu,rfl⟩
 |tn=>cases dw.plain (fun _ e=>nomatch e);obtain⟨l,vs,rfl,hl,_⟩:=RH fro (dv.plain (fun _ e=>nomatch e));exact⟨RcAt.tuple_none hl hu,RcNeAt.tuple_none hl hu,rfl⟩
 |bb=>cases dv.plain (fun _ e=>nomatch e);cases dw.plain (fun _ e=>nomatch e);exact⟨RcAt.bool_bool _ _,RcNeAt.bool_bool _ _,rfl⟩
 |ii=>cases dv.plain (fun _ e=>nomatch e);cases dw.plain (fun _ e=>nomatch e);rw [←aFc];exact⟨RcAt.int_int _ _ _ _,RcNeAt.int_int _ _ _ _,rfl⟩
 |ss=>
  obtain⟨p,t,rfl,rfl⟩:=LC (dv.plain (fun _ e=>nomatch e))
  obtain⟨q,u,rfl,rfl⟩:=LC (dw.plain (fun _ e=>nomatch e))
  rw [←aFf];exact⟨RcAt.str_str _ _ _ _,RcNeAt.str_str _ _ _ _,rfl⟩
 |yy=>
  obtain⟨p,t,rfl,rfl⟩:=wM (dv.plain (fun _ e=>nomatch e))
  obtain⟨q,u,rfl,rfl⟩:=wM (dw.plain (fun _ e=>nomatch e))
  rw [←aFd];exact⟨fun prog w E Q h=>eq_bytes h,fun prog w E Q h=>ne_bytes h,rfl⟩
 |tt xs ys r h=>
  obtain⟨l,vs,rfl,hl,d⟩:=RH fro (dv.plain (fun _ e=>nomatch e))
  obtain⟨l',vs',rfl,hl',d'⟩:=RH fro (dw.plain (fun _ e=>nomatch e))
  have e:=(XS xs h).1
  replace e:=(hZ).symm▸(hZ).symm▸(d'.len)▸(d.len)▸e
  rw [e];exact⟨RcAt.tuples hl hl' hu (QL sub h d d'),RcNeAt.tuples hl hl' hu (QL sub h d d'),rfl⟩
 |ll xs ys r h=>
  obtain⟨l,vs,rfl,hl,d⟩:=dv.list fro
  obtain⟨l',vs',rfl,hl',d'⟩:=dw.list fro
  have e:=aAS h
  replace e:=(hZ).symm▸(hZ).symm▸(d'.len)▸(d.len)▸e
  by_cases hs:(iU vs).size=(iU vs').size
  ·rw [←e.1 hs];exact⟨RcAt.lists hl hl' hs hu (QL sub h d d'),RcNeAt.lists hl hl' hs hu (QL sub h d d'),rfl⟩
  ·rw [e.2 hs];exact⟨RcAt.lists_lengths hl hl' (bne_iff_ne.mpr hs) hu,RcNeAt.lists_lengths hl hl' (bne_iff_ne.mpr hs) hu,rfl⟩
include fro in
theorem aEY(n:Nat):∀ {A:aR} {x y:PV} {b:Bool} {v w:aB},A.units+n < cLine→iX n x y=some b→bE C W x v→bE C W y w→EqAt A s v w b:=by
 induction n with
 |zero=>intro A x y b v w hu h;cases h
 |succ n ih=>
  intro A x y b v w hu h d d'
  exact aEZ (fun e=>by subst e;exact aEq _ h d d') (Uo fro (sH (oD ..) hu) (fun h d d'=>ih (by rw [show A.in1.units+n=A.units+(n+1) from Nat.add_right_comm ..];exact hu) h d d') h (.den d) (.den d'))
end
section
variable{K:KK}{A:aR}{st:St}{z:Z K A st}{α β δ:Type}{D:Dn α δ}{T:aB→WP δ}{a:SV}{x:aB}
noncomputable def aJF(st:St)(a:SV):Option PV:=match a with
 |.pv x=>some x
 |.ref k=>match st.cells[k]? with
  |some c=>match c with
   |.list xs=>some (.lst xs)
   |_=>none
  |none=>none
noncomputable def KC(a:SV)(k:PV→M α):M α:=fun st=>match aJF st a with
 |some x=>k x st
 |none=>none
theorem Go.onV(d:z.d dV a x)(h:∀ p,wG K.C z.X.W z.s.heap p x→Go z D w (k p st)):Go z D w (KC a k st):=by
 cases a with
 |pv p=>exact h p (.den d)
 |ref i=>
  show Go z D w (match (match st.cells[i]? with | some c=>(match c with | .list xs=>some (PV.lst xs) | _=>none) | none=>none) with | some x=>k x st | none=>none)
  cases q:st.cells[i]? with
  |none=>exact .no
  |some c=>cases c with
   |list xs=>cases z.R.cells _ _ q with | mk o hw ho r=>cases r with | mk vs ep hl=>exact h _ (.lst xs _ vs rfl d.2 ⟨_,ho,rfl,ep,rfl⟩ hl)
   |_=>exact .no
theorem Vz(h:lC A n):A.units+100 < cLine:=sH (lJ h.lim 100) (bT rfl)
theorem Z.sub(z:Z K A st){x y:PV}(h:iX 7 x y=some b)(d:bE K.C z.X.W x v)(d':bE K.C z.X.W y w):EqAt A.in1 z.s v w b:=
 aEY z.froG 7 (sH (oB (bT rfl:8≤100) A.units) (Vz z.hA)) h d d'
theorem Z.rc(z:Z K A st){x y:PV}(h:iX 8 x y=some r)(dv:wG K.C z.X.W z.s.heap x v)(dw:wG K.C z.X.W z.s.heap y w):UI A z.s v w r:=
 Uo z.froG (sH (oD ..) (Vz z.hA)) z.sub h dv dw
noncomputable def cK(a b:SV):M Bool:=KC a fun x=>KC b fun y=>eW (iX 8 x y) rt
noncomputable def oW(a b:SV):M Bool:=KC a fun x=>KC b fun y=>eW (iX 8 x y) fun r=>rt (!r)
theorem eX:jX K (eT .Eq) cK:=fun {A st} z a b x y dx dy=>.onV dx fun p sp=>.onV dy fun q sq=>.onSome fun r e=>Go.rt rfl fun Q h=>(z.rc e sp sq).eq _ _ _ _ h
theorem vM:jX K (eT .NotEq) oW:=fun {A st} z a b x y dx dy=>.onV dx fun p sp=>.onV dy fun q sq=>.onSome fun r e=>Go.rt rfl fun Q h=>(z.rc e sp sq).ne _ _ _ _ h
noncomputable def wK(n:Nat):List PV→PV→Option Bool
 | [],_=>some false
 |x::xs,p=>match iX n x p with
  |some a=>match wK n xs p with
   |some b=>some (a || b)
   |none=>none
  |none=>none
theorem aAX(xs:List PV):∀ {vs:List aB} {b:Bool},wK n xs p=some b→aS P xs vs→∃ L:List (aB×Bool),L.map (·.1)=vs∧b=L.any (·.2)∧∀ q∈L,∃ x,iX n x p=some q.2∧P x q.1:=by
 induction xs with
 |nil=>intro vs b h d;cases h;subst d;exact⟨[],rfl,rfl,fun _ h=>nomatch h⟩
 |cons x xs ih=>
  intro vs b h d
  cases d with | mk v vs d ds=>
  have h:(match iX n x p with | some a=>(match wK n xs p with | some b=>some (a || b) | none=>none) | none=>none)=some b:=h
  cases q:iX n x p with
  |none=>rw [q] at h;cases h
  |some a=>
   rw [q] at h
   have h:(match wK n xs p with | some b=>some (a || b) | none=>none)=some b:=h
   cases q':wK n xs p with
   |none=>rw [q'] at h;cases h
   |some c=>
    rw [q'] at h;cases h
    obtain⟨L,e1,e2,e3⟩:=ih q' ds
    exact⟨(v,a)::L,congrArg _ e1,by rw [e2];rfl,List.forall_mem_cons.mpr ⟨⟨x,q,d⟩,e3⟩⟩
theorem aAW{L:List (aB×Bool)}{P:aB→Bool→Prop}(h:∀ q∈L,P q.1 q.2):∃ e:aB→Bool,(∀ v∈L.map (·.1),P v (e v))∧(L.map (·.1)).any e=L.any (·.2):=by
 have hd:∀ v,Decidable ((v,true)∈L):=fun v=>SH _
 refine⟨fun v=>@decide _ (hd v),fun v hv=> ?_,?_⟩
 ·obtain⟨⟨v,c⟩,hq,rfl⟩:=List.mem_map.mp hv
  show P v (@decide _ (hd v))
  by_cases m:(v,true)∈L
  ·rw [decide_eq_true m];exact h _ m
  ·rw [decide_eq_false m]
   cases c with
   |true=>exact absurd hq m
   |false=>exact h _ hq
 ·rw [qO,List.any_eq_true,List.any_eq_true]
  refine⟨fun⟨v,_,e⟩=>⟨(v,true),of_decide_eq_true e,rfl⟩,fun⟨⟨v,c⟩,hq,e⟩=> ?_⟩
  cases (e:c=true)
  exact⟨v,LY hq,decide_eq_true hq⟩
noncomputable def Ic(s:aG)(l:Addr)(vs:List aB):Prop:=s.heap.IsTuple l vs.toArray∨s.heap.IsList l vs.toArray
noncomputable def Tt(a:SV)(k:List PV→M α):M α:=CA a k (iD a k er)
theorem Go.onR(d:z.d dV a x)(h:∀ xs l vs,Ic z.s l vs→bO K.C z.X xs vs→Go z D (T (.ref l)) (k xs st)):Go z D (T x) (Tt a k st):=
 .onT d (fun xs l vs ep _ hl dl=>h xs l vs (.inl ⟨_,hl,rfl,ep,rfl⟩) dl) (.onL d (fun xs l vs ep hl dl=>h xs l vs (.inr ⟨_,hl,rfl,ep,rfl⟩) dl) .er)
noncomputable def uA(a b:SV):M Bool:=lH a fun p=>Tt b fun xs=>eW (wK 7 xs p) rt
theorem aGG{p:PV}{xs:List PV}(dp:bE K.C z.X.W p y)(hl:Ic z.s l vs)(d:bO K.C z.X xs vs)(e:wK 7 xs p=some r):(∀ Q,Q (.bool r) z.s→K.wp A (eT .In y (.ref l)) Q z.s)∧∀ Q,Q (.bool (!r)) z.s→K.wp A (eT .NotIn y (.ref l)) Q z.s:=by
 obtain⟨L,rfl,rfl,h⟩:=aAX xs e d
 obtain⟨f,h1,h2⟩:=aAW (P:=fun v b=>EqAt A.in1 z.s v y b) fun q hq=>let⟨x,e,d⟩:=h q hq;z.sub e d dp
 have h1':∀ v,v∈(L.map (·.1)).toArray→EqAt A.in1 z.s v y (f v):=fun v hv=>h1 v (List.mem_toArray.mp hv)
 have h2':(L.map (·.1)).toArray.any f=L.any (·.2):=(h2)▸List.any_toArray
 refine(h2')▸?_
 rcases hl with hl | hl
 ·exact⟨fun Q q=>in_tupleAt f hl h1' q,fun Q q=>notIn_tupleAt f hl h1' q⟩
 ·exact⟨fun Q q=>in_listAt f hl h1' q,fun Q q=>notIn_listAt f hl h1' q⟩
theorem Oy{x y:aB}(dx:z.d dV a x)(dy:z.d dV b y):Go z dB (fun Q s=>∃ r,((∀ Q,Q (.bool r) s→K.wp A (eT .In x y) Q s)∧∀ Q,Q (.bool (!r)) s→K.wp A (eT .NotIn x y) Q s)∧Q r s) (uA a b st):=
 .onP (T:=fun _ Q s=>∃ r,((∀ Q,Q (.bool r) s→K.wp A (eT .In x y) Q s)∧∀ Q,Q (.bool (!r)) s→K.wp A (eT .NotIn x y) Q s)∧Q r s) dx fun p dp=>.onR (T:=fun y Q s=>∃ r,((∀ Q,Q (.bool r) s→K.wp A (eT .In x y) Q s)∧∀ Q,Q (.bool (!r)) s→K.wp A (eT .NotIn x y) Q s)∧Q r s) dy fun xs l vs hl d=>.onSome fun r e=>Go.rt (D:=dB) rfl fun Q q=>⟨r,aGG dp hl d e,q⟩
theorem aLj:jX K (eT .In) uA:=fun z a b x y dx dy r s' e Q q=>
 (Oy dx dy r s' e (fun v s=>Q (.bool v) s) fun z' v l d=>by cases (show r=v from d);exact q z' _ l rfl).elim fun r h=>h.1.1 _ h.2
theorem aLz:jX K (eT .NotIn) (sW uA):=fun z a b x y dx dy=>
 (Oy dx dy).ruB (fun Q q=>q.elim fun r h=>h.1.2 _ h.2) fun z₁ l=>.rt rfl fun Q q=>q
end
end
section
set_option tactic.hygienic true
open PySem PySem.W PySem.Calls PyProof.Rows PySem.Builtin PySem.Builtin.Bytes
theorem aBS:xT (.type "bytes") "__index__"=pure none:=by rw [mH,lR];kernel_rfl
section
variable{prog:hO}{w:dW}{A:aR}{E:aB→aG→Prop}{s:aG}
noncomputable def BK(b c:Array UInt8)(w:Option (Nat×Nat)):Int:=match w.bind (fun(x:Nat×Nat)=>find? b c x.1 x.2) with
 |some i=>(i:Int)
 |none=>-1
noncomputable def CO(n m:Nat)(lo:Option Int):Option (Nat×Nat):=
 if (Min.min (n:Int) (if (none:Option Int).getD (n:Int) < 0 then Max.max 0 ((none:Option Int).getD (n:Int)+(n:Int)) else(none:Option Int).getD (n:Int)) - if lo.getD 0 < 0 then Max.max 0 (lo.getD 0+(n:Int)) else lo.getD 0) < (m:Int) then none
 else some ((if lo.getD 0 < 0 then Max.max 0 (lo.getD 0+(n:Int)) else lo.getD 0).toNat,(Min.min (n:Int) (if (none:Option Int).getD (n:Int) < 0 then Max.max 0 ((none:Option Int).getD (n:Int)+(n:Int)) else(none:Option Int).getD (n:Int))).toNat)
theorem Np(b c:Array UInt8)(w':Option (Nat×Nat)):(w'.bind fun x=>if false=true then rfind? b c x.fst x.snd else find? b c x.fst x.snd)=w'.bind (fun(x:Nat×Nat)=>find? b c x.1 x.2):=by
 cases w' with
 |none=>rfl
 |some x=>simp
theorem aFx(b c:Array UInt8)(t u:Tok)
  (h:Q (.done (.ret (.int (BK b c (CO b.size c.size none)) s.toks))) {s with toks:=s.toks+1}):
  aI (aK prog w) A (Builtin.«bytes.find» ⟨[.bytes b t,.bytes c u],[]⟩) Q E s:=by
 refine aF (aF (dS rfl ?_))
 refine aF (dS rfl ?_)
 refine aF (dS rfl ?_)
 refine aF (dS LP ?_)
 refine aF (bF ?_)
 refine aF (dS rfl ?_)
 refine bF ?_
 unfold CO at h
 dsimp only
 rw [Np]
 unfold BK at h
 split
 ·rename_i i e
  rw [e] at h
  exact fun Γ p hΓ=>h
 ·rename_i e
  rw [e] at h
  exact aF (xU (by rw [if_neg mV];exact fun Γ p hΓ=>h))
theorem aBI(i:Int)(v:Tok):bound? (some (.int i v))=pure (some i):=rfl
theorem aFy(b c:Array UInt8)(t u v:Tok)(i:Int)
  (h:Q (.done (.ret (.int (BK b c (CO b.size c.size (some i))) s.toks))) {s with toks:=s.toks+1}):
  aI (aK prog w) A (Builtin.«bytes.find» ⟨[.bytes b t,.bytes c u,.int i v],[]⟩) Q E s:=by
 refine aF (aF (dS rfl ?_))
 refine aF (dS (aBI i v) ?_)
 refine aF (dS rfl ?_)
 refine aF (dS LP ?_)
 refine aF (bF ?_)
 refine aF (dS rfl ?_)
 refine bF ?_
 unfold CO at h
 dsimp only
 rw [Np]
 unfold BK at h
 split
 ·rename_i i e
  rw [e] at h
  exact fun Γ p hΓ=>h
 ·rename_i e
  rw [e] at h
  exact aF (xU (by rw [if_neg mV];exact fun Γ p hΓ=>h))
theorem aHS(b:Array UInt8)(t:Tok)(hz:b.size≤fO)(h:Q (.done (.ret (.bytes (b.toList.map toLower).toArray s.toks))) {s with toks:=s.toks+1}):
  aI (aK prog w) A (Builtin.«bytes.lower» ⟨[.bytes b t],[]⟩) Q E s:=by
 refine aF (dS rfl ?_)
 refine aF (dS rfl ?_)
 exact aF (wpAny_mkBytes (bF h) (by simpa using hz))
theorem aGH(b:Array UInt8)(t:Tok)(hh:A.handled=none)(h:∀ h' tk e,Heap.NewExc s.heap h' e "TypeError"→E (.ref e) {s with heap:=h',toks:=tk}):
  aI (aK prog w) A (asIndex (.bytes b t)) Q E s:=by
 refine aF (dS rfl ?_)
 refine aF ?_
 refine aF (zZ (iE s b t) aBS ?_)
 refine bF ?_
 refine aF (dS rfl ?_)
 exact wpAny_raiseErrorMade plainExc_TypeError hh h
theorem aGE(b c:Array UInt8)(t u:Tok)(hh:A.handled=none)
  (h:∀ h' tk,(∀ a o,s.heap.get? a=some o→h'.get? a=some o)→Q (.done (.ret (.bool (find? b c 0 b.size).isSome))) {s with heap:=h',toks:=tk}):
  aI (aK prog w) A (Builtin.«bytes.__contains__» ⟨[.bytes b t,.bytes c u],[]⟩) Q E s:=by
 refine aF (dS rfl ?_)
 refine aF ?_
 refine aF (Fz (aGH c u hh fun h' tk e ex=> ?_))
 refine aF (dS LP ?_)
 refine aF (dS LP ?_)
 exact aF (xU (bF (bF (h h' tk ex.keeps))))
theorem aGD(b:Array UInt8)(t:Tok)(i:Int)(u:Tok)(h0:0≤i)(h1:i < 256)(h:Q (.done (.ret (.bool (b.contains i.toNat.toUInt8)))) s):
  aI (aK prog w) A (Builtin.«bytes.__contains__» ⟨[.bytes b t,.int i u],[]⟩) Q E s:=by
 refine aF (dS rfl ?_)
 refine aF ?_
 refine aF (Fz (dS rfl ?_))
 refine aF (dS LP ?_)
 dsimp only
 exact Gb (decide_eq_false (Tj h0 h1)) (bF (bF h))
end
noncomputable def pos1(c:Nat):List Nat→Option Nat
 | []=>none
 |x::xs=>match bR x c with
  |true=>some 0
  |false=>match pos1 c xs with
   |some i=>some (i+1)
   |none=>none
theorem Uh(c:Nat):∀(xs:List Nat),(uQ xs.length).find? (fun i=>xs[i]? ==some c)=pos1 c xs
 | []=>rfl
 |x::xs=>by
  rw [tP,Hh,List.find?_cons,pos1]
  cases h:bR x c with
  |true=>
   have:=sG h
   subst this
   simp
  |false=>
   have hne:=Nat.ne_of_beq_eq_false h
   have e:(((x::xs)[0]?)==some c)=false:=by simpa using hne
   rw [e]
   simp only [List.find?_map]
   have:((fun i=>(x::xs)[i]? ==some c)∘lK)=fun i=>xs[i]? ==some c:=by funext i;simp
   rw [this,Uh c xs]
   cases pos1 c xs <;> rfl
theorem aFp(b:Array UInt8)(i:Nat)(c:UInt8):(b.extract i (i+1)== #[c])=(b[i]? ==some c):=by
 rw [qO,beq_iff_eq,beq_iff_eq]
 constructor
 ·intro h
  have h1:=congrArg (fun a=>a[0]?) h
  have h2:0 < Min.min (i+1) b.size - i∧b[i]? =some c:=by simpa [Array.getElem?_extract] using h1
  exact h2.2
 ·intro h
  refine Array.ext_getElem? fun j=> ?_
  obtain⟨hi,hv⟩:=Array.getElem?_eq_some_iff.mp h
  rw [Array.getElem?_extract,MD (a:=i+1) hi,Nat.add_sub_cancel_left]
  cases j with
  |zero=>exact(if_pos Nat.one_pos).trans h
  |succ j=>exact if_neg (Nat.not_lt.mpr (kZ (jP j)))
theorem Yb(x c:UInt8):(x==c)=bR x.toNat c.toNat:=by
 rw [qO,beq_iff_eq,Nat.beq_eq]
 exact⟨fun h=>by rw [h],fun h=>UInt8.toNat_inj.mp h⟩
theorem Nn(b:Array UInt8)(c:UInt8)(lo:Nat)(hlo:lo≤b.size):find? b #[c] lo b.size=(pos1 c.toNat ((b.toList.map cH).drop lo)).map (· +lo):=by
 unfold find?
 have hl:((b.toList.map cH).drop lo).length=b.size - lo:=by simp
 rw [←Uh,hl,List.find?_map]
 have e1:b.size+1 - (lo+ #[c].size)=b.size - lo:=by simp
 rw [e1]
 congr 1
 apply congrArg (fun p=>List.find? p (uQ (b.size - lo)))
 funext i
 show(b.extract (i+lo) (i+lo+1)== #[c])=_
 rw [aFp,LU,iR,FZ,vV i lo]
 cases b[lo+i]? with
 |none=>rfl
 |some x=>simp [Yb];rw [qO];simp
noncomputable def II(l:List Nat)(c:Nat)(lo:Nat):Int:=match pos1 c (l.drop lo) with
 |some i=>((i+lo:Nat):Int)
 |none=>-1
theorem Nl(b:Array UInt8)(c:UInt8)(lo:Nat)(hlo:lo≤b.size):BK b #[c] (CO b.size (#[c]:Array UInt8).size (some (lo:Int)))=II (b.toList.map cH) c.toNat lo:=by
 have hm:(if ((b.size:Nat):Int) < 0 then Max.max 0 (((b.size:Nat):Int)+(b.size:Int)) else((b.size:Nat):Int))=(b.size:Int):=if_neg (Int.not_lt.mpr (GK _))
 have hn:(if ((lo:Nat):Int) < 0 then Max.max 0 (((lo:Nat):Int)+(b.size:Int)) else((lo:Nat):Int))=(lo:Int):=if_neg (Int.not_lt.mpr (GK _))
 unfold CO
 simp only [Option.getD_none,Option.getD_some,hm,hn,Int.min_self]
 unfold BK II
 by_cases h:((b.size:Nat):Int) - (lo:Int) < ((#[c]:Array UInt8).size:Int)
 ·rw [if_pos h]
  have:lo=b.size:=TL hlo (Int.ofNat_le.mp (Int.le_of_sub_nonpos (Int.le_of_lt_add_one h)))
  subst this
  rw [List.drop_of_length_le (by simp)];rfl
 ·rw [if_neg h]
  simp only [Option.bind_some,Int.toNat_natCast]
  refine(Nn b c lo hlo).symm▸?_
  cases pos1 c.toNat ((b.toList.map cH).drop lo) <;> rfl
theorem aFz(b:Array UInt8)(c:UInt8):BK b #[c] (CO b.size (#[c]:Array UInt8).size none)=II (b.toList.map cH) c.toNat 0:=Nl b c 0 (jP _)
theorem Es:Slot "bytes" "find" "bytes.find":=
 .of (owner:="bytes") (n:="find") (by rw [mH,lR];kernel_rfl) (by kernel_rfl) (by decide+kernel) (by decide+kernel)
  (by first | exact .inl (by decide+kernel) | exact .inr (by kernel_rfl)) (by rw [qE];kernel_rfl)
theorem aPv:typeOf (.builtin "bytes.find")=pure (.type "method_descriptor"):=by show NB _=_;rw [NC];kernel_rfl
theorem Me:rE table "bytes.find"=some Builtin.«bytes.find»:=wU (by kernel_rfl)
theorem aBi(a b:aB):lQ "bytes.find" ⟨[a,b],[]⟩:=by unfold lQ;kernel_rfl
theorem aBj(a b c:aB):lQ "bytes.find" ⟨[a,b,c],[]⟩:=by unfold lQ;kernel_rfl
theorem Xa:Slot "bytes" "lower" "bytes.lower":=
 .of (owner:="bytes") (n:="lower") (by rw [mH,lR];kernel_rfl) (by kernel_rfl) (by decide+kernel) (by decide+kernel)
  (by first | exact .inl (by decide+kernel) | exact .inr (by kernel_rfl)) (by rw [qE];kernel_rfl)
theorem aPx:typeOf (.builtin "bytes.lower")=pure (.type "method_descriptor"):=by show NB _=_;rw [NC];kernel_rfl
theorem aEX:rE table "bytes.lower"=some Builtin.«bytes.lower»:=wU (by kernel_rfl)
theorem aBl(a:aB):lQ "bytes.lower" ⟨[a],[]⟩:=by unfold lQ;kernel_rfl
theorem Sn:mJ "bytes" "find" "bytes.find":=⟨Gy,Es,aPv⟩
theorem aIl:mJ "bytes" "lower" "bytes.lower":=⟨Gy,Xa,aPx⟩
end
section
variable{α β:Type}
noncomputable def lP(f:PV→Option β):List PV→Option (List β)
 | []=>some []
 |x::r=>match f x with
  |some b=>match lP f r with
   |some l=>some (b::l)
   |none=>none
  |none=>none
theorem DK(h:∀ x b v,f x=some b→P x v→R b v)(xs:List PV):∀ {vs:List aB} {l:List β},lP f xs=some l→aS P xs vs→aS R l vs:=by
 induction xs with
 |nil=>intro vs l e d;cases e;exact d
 |cons x r ih=>
  intro vs l e d
  have e:(match f x with | some b=>(match lP f r with | some l=>some (b::l) | none=>none) | none=>none)=some l:=e
  cases q:f x with
  |none=>rw [q] at e;cases e
  |some b=>
   replace e:=(q)▸e
   have e:(match lP f r with | some l=>some (b::l) | none=>none)=some l:=e
   cases q':lP f r with
   |none=>rw [q'] at e;cases e
   |some m=>rw [q'] at e;cases e;cases d with | mk v ws a as=>exact .mk (h _ _ _ q a) (ih q' as)
noncomputable def AV(p:PV):Option Int:=match p with
 |.int i=>some i
 |_=>none
noncomputable def qX(p:PV):Option (List Nat):=match p with
 |.bytes i=>some i
 |_=>none
noncomputable def WH(p:PV):Option (List Nat):=match p with
 |.str i=>some i
 |_=>none
theorem Iw(h:AV p=some i):p= .int i:=by cases p <;> first | exact congrArg _ (iW h) | cases h
theorem MV(h:qX p=some i):p= .bytes i:=by cases p <;> first | exact congrArg PV.bytes (iW h) | cases h
theorem aBn(h:WH p=some i):p= .str i:=by cases p <;> first | exact congrArg PV.str (iW h) | cases h
end
section
variable{K:KK}{A:aR}{st:St}{z:Z K A st}{α β:Type}{D:Dn α β}{w:WP β}
theorem Go.keeps(d:z.d D a x)(h:∀ Q,(∀ h' tk,(∀ b o,z.s.heap.get? b=some o→h'.get? b=some o)→Q x {z.s with heap:=h',toks:=tk})→w Q z.s):Go z D w (some (a,st)):=fun a' s' e Q q=>by
 cases e;exact h Q fun h' tk k=>q (z.to _ (z.R.still.to h' tk) k) x Z.le0 d
noncomputable def JM(i j:Int):Int:=match decide (j < i) with
 |true=>j
 |false=>i
theorem aIo:jN (JM i j) (if j < i then .int j u else .int i t):=by
 unfold JM
 by_cases h:j < i
 ·rw [if_pos h,decide_eq_true h];exact .mk u
 ·rw [if_neg h,decide_eq_false h];exact .mk t
noncomputable def JN(a b:SV):M SV:=gM a (fun i=>gM b (fun j=>rt (.pv (.int (JM i j)))) er) er
theorem Vu:gA K (fun v w=>call (.builtin "min") [v,w]) JN:=fun {A st} z a b x y dx dy=>
 .onI (T:=fun x=>K.wp A (call (.builtin "min") [x,y])) dx (fun i t=>.onI (T:=fun y=>K.wp A (call (.builtin "min") [.int i t,y])) dy (fun j u=>.keeps (aIo) fun Q q=>min_two_ints z.hA.handled q) .er) .er
noncomputable def Bj(i j:Int):Int:=match decide (i < j) with
 |true=>j
 |false=>i
theorem aIf:jN (Bj i j) (if i < j then .int j u else .int i t):=by
 unfold Bj
 by_cases h:i < j
 ·rw [if_pos h,decide_eq_true h];exact .mk u
 ·rw [if_neg h,decide_eq_false h];exact .mk t
noncomputable def Si(a b:SV):M SV:=gM a (fun i=>gM b (fun j=>rt (.pv (.int (Bj i j)))) er) er
theorem aLx:gA K (fun v w=>call (.builtin "max") [v,w]) Si:=fun {A st} z a b x y dx dy=>
 .onI (T:=fun x=>K.wp A (call (.builtin "max") [x,y])) dx (fun i t=>.onI (T:=fun y=>K.wp A (call (.builtin "max") [.int i t,y])) dy (fun j u=>.keeps (aIf) fun Q q=>max_two_ints z.hA.handled q) .er) .er
noncomputable def JW(l:List Nat)(k:Nat→M α):M α:=match l with
 | []=>er
 |c::r=>match r with
  | []=>k c
  |_::_=>er
theorem Go.on1(h:∀ c,l= [c]→Go z D w (k c st)):Go z D w (JW l k st):=by
 cases l with
 |nil=>exact .er
 |cons c r=>cases r with
  |nil=>exact h c rfl
  |cons=>exact .er
noncomputable def Tw(a:SV):M SV:=zP a (fun l=>JW l fun c=>rt (.pv (.int (c:Nat)))) er
theorem aLA:jW K (fun v=>call (.builtin "ord") [v]) Tw:=fun {A st} z a x dx=>
 .onS (T:=fun x=>K.wp A (call (.builtin "ord") [x])) dx (fun b t=>.on1 fun c e=>by
  cases (show b=⟨#[c]⟩ by rw [←xO b,e])
  exact .ret (z.tok (z.s.toks+1)) Z.le0 (jN.mk _) fun Q q=>PySem.P.ord_of_char q) .er
noncomputable def Xi(a:SV):M SV:=gM a (fun i=>gd (decide (0≤i) && decide (i < 1000000)) (rt (.pv (.str ((toString i:String):Str).cps.toList)))) er
theorem aOw{a:Int}(h0:0≤a)(h1:a < 1000000):a.natAbs.log2 < 20:=by
 by_cases z:a.natAbs=0
 ·rw [z];decide
 ·exact(Nat.log2_lt z).mpr (DB (Int.ofNat_lt.mp (Int.lt_of_le_of_lt (Int.le_of_eq (Int.natAbs_of_nonneg h0)) h1)) (bT rfl))
theorem aLL:jW K (fun v=>call (.type "str") [v]) Xi:=fun {A st} z a x dx=>
 .onI (T:=fun x=>K.wp A (call (.type "str") [x])) dx (fun i t=>.gd fun e=>by
  have e:=hJ _ _▸e
  exact .ret (z.tok (z.s.toks+1)) Z.le0 (lN.mk _ _) fun Q q=>PySem.P.str_of_int (AK (aOw (of_decide_eq_true e.1) (of_decide_eq_true e.2)) (by decide)) q) .er
noncomputable def PB(a:SV):M SV:=gM a (fun i=>rt (.pv (.int i))) er
theorem aLk:jW K (fun v=>call (.type "int") [v]) PB:=fun {A st} z a x dx=>
 .onI (T:=fun x=>K.wp A (call (.type "int") [x])) dx (fun i t=>.rt (jN.mk t) fun Q q=>call_int_int q) .er
noncomputable def Fj(a:SV):M SV:=CA a (fun xs=>rt (.pv (.tup xs))) er
theorem aLM:jW K (fun v=>call (.type "tuple") [v]) Fj:=fun {A st} z a x dx=>
 .onT (T:=fun x=>K.wp A (call (.type "tuple") [x])) dx (fun xs l vs ep hw hl d=>.rt (oI.mk l vs ep hw (by rw [iC];exact d)) fun Q q=>call_tuple_same ⟨_,hl,rfl,ep,rfl⟩ q) .er
noncomputable def JV(p:PV):Option Nat:=match AV p with
 |some i=>match decide (0≤i) && decide (i < 256) with
  |true=>some i.toNat
  |false=>none
 |none=>none
inductive TQ(n:Nat):aB→Prop
 |mk (i:Int) (t:Tok) (h:0≤i∧i < 256) (e:i.toNat=n):TQ n (.int i t)
theorem aJe(p:PV)(n:Nat)(v:aB)(h:JV p=some n)(d:bE C W p v):TQ n v:=by
 unfold JV at h
 cases q:AV p with
 |none=>rw [q] at h;cases h
 |some i=>
  rw [q] at h
  have h:(match decide (0≤i) && decide (i < 256) with | true=>some i.toNat | false=>none)=some n:=h
  cases q':decide (0≤i) && decide (i < 256) with
  |false=>rw [q'] at h;cases h
  |true=>
   rw [q'] at h;cases h
   have q':=hJ _ _▸q'
   cases Iw q;cases d with | mk t=>exact .mk i t ⟨of_decide_eq_true q'.1,of_decide_eq_true q'.2⟩ rfl
theorem aJf(l:List Nat):∀ {vs:List aB},aS TQ l vs→∃ ns:List Int,IntsAre vs ns∧(∀ n∈ns,0≤n∧n < 256)∧ns.map Int.toNat=l:=by
 induction l with
 |nil=>intro vs d;subst d;exact⟨[],.nil,fun _ h=>(nomatch h),rfl⟩
 |cons n l ih=>
  intro vs d
  cases d with | mk v ws a as=>
  cases a with | mk i t h e=>
  obtain⟨ns,h1,h2,rfl⟩:=ih as
  exact⟨i::ns,.cons i t h1,List.forall_mem_cons.mpr ⟨h,h2⟩,congrArg (·::_) e⟩
theorem aBU(h:∀ n∈ns,0≤n∧n < 256):(byteArr ns).toList.map cH=ns.map Int.toNat:=by
 unfold byteArr
 simp only [iT]
 refine LW fun n hn=> ?_
 exact Cj (h n hn).1 (h n hn).2
noncomputable def Ju(a:SV):M SV:=iD a (fun xs=>eW (lP JV xs) fun l=>dM xs.length (rt (.pv (.bytes l)))) er
theorem aLf:jW K (fun v=>call (.type "bytes") [v]) Ju:=fun {A st} z a x dx=>
 .onL (T:=fun x=>K.wp A (call (.type "bytes") [x])) dx (fun xs l vs ep hl d=>.onSome fun m e=>.fitL d fun h=>by
  obtain⟨ns,h1,h2,rfl⟩:=aJf m (DK aJe xs e d)
  refine fun a' s' e Q q=>call_bytes_ints ⟨_,hl,rfl,ep,rfl⟩ h1 h2 (gH h) z.hA.handled fun h' t k hk=> ?_
  cases e;exact q (z.to _ (z.R.still.to h' k) hk) _ Z.le0 (aBU h2▸iQ.mk (byteArr ns) t:iQ _ _)) .er
noncomputable def Bu(a:SV):M SV:=gM a (fun i=>rt (.pv (.int (-i)))) er
noncomputable def Hw(a:PE K):PE K:=⟨bd a.m Bu,fun e=>.UnaryOp .USub (a.r (x1 e)) e.pos,1,fun _=>rfl,fun e A _ z=>(a.ok _ z).ru (fun Q q=>wpAny_UnaryOp q) fun z₁ l₁ dx=>
 .onI (T:=fun x=>K.wp A (unaryOp .USub x)) dx (fun i t=>.ret (z₁.tok (z₁.s.toks+1)) Z.le0 (jN.mk _) fun Q q=>PySem.P.neg_int q) .er⟩
theorem aS.rep{xs:List α}(h:aS P xs vs)(k:Nat):aS P (mW k xs).flatten (mW k vs).flatten:=by
 induction k with
 |zero=>exact rfl
 |succ k ih=>rw [List.replicate_succ,List.replicate_succ,TB,TB];exact h.app ih
noncomputable def Sp(a b:SV):M SV:=iD a (fun xs=>gM b (fun k=>gd (decide (0≤k) && (decide (k≤10000) && decide (xs.length≤100))) fun st=>some (.ref st.cells.length,⟨st.loc,st.cells++[.list (mW k.toNat xs).flatten]⟩)) er) er
theorem aLy:gA K (jR .Mult) Sp:=fun {A st} z a b x y dx dy=>
 .onL (T:=fun x=>K.wp A (jR .Mult x y)) dx (fun xs l vs ep ho d=>.onI (T:=fun y=>K.wp A (jR .Mult (.ref l) y)) dy (fun k u=>.gd fun e=>by
  have e:=hJ _ _▸e
  have e':=hJ _ _▸e.2
  have h0:=of_decide_eq_true e.1
  have h1:=of_decide_eq_true e'.1
  have h2:=of_decide_eq_true e'.2
  rw [d.len] at h2
  have hsz':vs.toArray.size*k.toNat≤1000000:=Nat.mul_le_mul h2 (Int.toNat_le.mpr h1)
  refine .newL z.s.toks (d.rep k.toNat) fun Q q=>wpAny_binaryOp_repeat_ref rfl (qH ho) (fun s'=>typeIs_int s' k u) noFill_list_mul F.fills_int_mul F.slot_int_rmul repeat_list F.slot_int_index.lookup
    (mO F.slot_int_rmul (typeIs_int z.s k u) F.entry_int_rmul (F.args_int_rmul_2 _ _) (lm_int_rmul_list_any k u l vs.toArray ep none #[])
     ⟨ho,rfl,qH ho,mO F.slot_list_mul (qH ho) F.entry_list_mul (F.args_list_mul_2 _ _)
      (lm_list_mul_any l vs.toArray ep none #[] k u (nn (Bool.and_eq_true_iff.mpr ⟨decide_eq_true (Int.le_trans (by decide) h0),decide_eq_true (Int.lt_of_le_of_lt h1 (by decide))⟩)) (Nat.not_lt.mpr (aP hsz' (bT rfl))) (fun h=>Nat.not_lt.mpr (gH hsz') (of_decide_eq_true h)))
      ⟨ho,?_⟩⟩)
  rw [listMul_foldl_if];exact q) .er) .er
noncomputable def wY(a:SV):M Unit:=kQ a (fun _=>rt ()) er
theorem FK:sM K "bytes" wY:=fun {A st} z a x d=>
 .onB (T:=fun x Q s=>s.TypeIs x "bytes"∧(∀ l,x= .ref l→∃ ob,s.heap.get? l=some ob∧ob.dict=none)∧Q () s) d (fun b t=>.same trivial fun Q q=>⟨iE _ _ _,fun l e=>(nomatch e),q⟩) .er
theorem Cv(h:b.toList.map cH= [c]):∃ x:UInt8,b= #[x]∧x.toNat=c:=by
 obtain⟨l⟩:=b
 cases l with
 |nil=>cases h
 |cons x l=>cases l with
  |nil=>exact⟨x,rfl,(List.cons.inj h).1⟩
  |cons=>cases h
noncomputable def Nj(a b:SV):M SV:=kQ a (fun l=>kQ b (fun m=>JW m fun c=>rt (.pv (.int (II l c 0)))) er) er
theorem aLg:gA K (fun x y=>call (.builtin "bytes.find") [x,y]) Nj:=fun {A st} z a b x y dx dy=>
 .onB (T:=fun x=>K.wp A (call (.builtin "bytes.find") [x,y])) dx (fun b t=>.onB (T:=fun y=>K.wp A (call (.builtin "bytes.find") [.bytes b t,y])) dy (fun c u=>.on1 fun c' e=>by
  obtain⟨x,rfl,rfl⟩:=Cv e
  exact .ret (z.tok (z.s.toks+1)) Z.le0 (EU (aFz b x).symm z.s.toks) fun Q q=>mO Es (iE _ _ _) Me (aBi _ _) (.of_wp fun prog w A R s h=>aFx b #[x] t u ⟨_,rfl,h⟩) q) .er) .er
noncomputable def Nk(a b i:SV):M SV:=kQ a (fun l=>kQ b (fun m=>JW m fun c=>gM i (fun i=>gd (decide (0≤i) && decide (i≤l.length)) (rt (.pv (.int (II l c i.toNat))))) er) er) er
theorem aLh:yH K (fun x y z=>call (.builtin "bytes.find") [x,y,z]) Nk:=fun {A st} z a b c x y u dx dy du=>
 .onB (T:=fun x=>K.wp A (call (.builtin "bytes.find") [x,y,u])) dx (fun b t=>.onB (T:=fun y=>K.wp A (call (.builtin "bytes.find") [.bytes b t,y,u])) dy (fun c t'=>.on1 fun c' e=>.onI (T:=fun u=>K.wp A (call (.builtin "bytes.find") [.bytes b t,.bytes c t',u])) du (fun i p=>.gd fun e'=>by
  obtain⟨x,rfl,rfl⟩:=Cv e
  have e':=hJ _ _▸e'
  have h0:=of_decide_eq_true e'.1
  have h1:=of_decide_eq_true e'.2
  rw [bQ,pY] at h1
  have hw:=Nl b x i.toNat (Int.toNat_le.mpr h1)
  rw [SR h0] at hw
  exact .ret (z.tok (z.s.toks+1)) Z.le0 (EU hw.symm z.s.toks) fun Q q=>mO Es (iE _ _ _) Me (aBj _ _ _) (.of_wp fun prog w A R s h=>aFy b #[x] t t' p i ⟨_,rfl,h⟩) q) .er) .er) .er
noncomputable def PR(c:Nat):Nat:=match qA 65 c,qA c 90 with
 |true,true=>c+32
 |_,_=>c
theorem aHQ(c:UInt8):(Gq c).toNat=PR c.toNat:=by
 have:∀ i:Fin 256,(Gq (tU i.val)).toNat=PR (tU i.val).toNat:=by decide+kernel
 have h:=this ⟨c.toNat,c.toNat_lt⟩
 rwa [UInt8.ofNat_toNat] at h
noncomputable def Rr(a:SV):M SV:=kQ a (fun l=>dM l.length (rt (.pv (.bytes (l.map PR))))) er
theorem aHR{b:Array UInt8}:(b.toList.map cH).map PR=(b.toList.map Gq).toArray.toList.map cH:=by
 rw [iT,iT];exact LW fun c _=>(aHQ c).symm
theorem aLw:jW K (fun x=>call (.builtin "bytes.lower") [x]) Rr:=fun {A st} z a x dx=>
 .onB (T:=fun x=>K.wp A (call (.builtin "bytes.lower") [x])) dx (fun b t=>.fitB fun h=>.ret (z.tok (z.s.toks+1)) Z.le0 (aHR▸iQ.mk _ z.s.toks:iQ _ _) fun Q q=>
  mO Xa (iE _ _ _) aEX (aBl _) (.of_wp fun prog w A R s h'=>aHS b t (gH h) ⟨_,rfl,h'⟩) q) .er
noncomputable def IV:List Nat→Nat→Bool
 | [],_=>false
 |x::xs,c=>match bR x c with
  |true=>true
  |false=>IV xs c
theorem aGt(l:List UInt8)(c:UInt8):IV (l.map cH) c.toNat=l.contains c:=by
 induction l with
 |nil=>rfl
 |cons x l ih=>
  rw [iS,IV,List.contains_cons,←ih,show(c==x)=bR x.toNat c.toNat by rw [←Yb,qO,beq_iff_eq,beq_iff_eq];exact eq_comm]
  cases bR x.toNat c.toNat <;> rfl
noncomputable def ZY(a b:SV):M Bool:=kQ b (fun l=>kQ a (fun m=>JW m fun c=>rt (pos1 c l).isSome) (gM a (fun i=>gd (decide (0≤i) && decide (i < 256)) (rt (IV l i.toNat))) er)) er
theorem Vq:HC K ZY:=fun {A st} z a b x y dx dy=>
 .onB (T:=fun y=>K.wp A (BB y x)) dy (fun b t=>.onB (T:=fun x=>K.wp A (BB (.bytes b t) x)) dx (fun c u=>.on1 fun c' e=>by
  obtain⟨x,rfl,rfl⟩:=Cv e
  have:(pos1 x.toNat (b.toList.map cH)).isSome=(Builtin.Bytes.find? b #[x] 0 b.size).isSome:=by rw [Nn b x 0 (jP _),Ho,List.drop_zero]
  exact .keeps this fun Q q=>Ga (iE _ _ _) SM
   (mO SM (iE _ _ _) FB.entry_bytes_contains (FB.args_bytes_contains_2 _ _) (S:=fun A R s=>A.handled=none∧∀ h' tk,(∀ a o,s.heap.get? a=some o→h'.get? a=some o)→R (.ok (.ret (.bool (Builtin.Bytes.find? b #[x] 0 b.size).isSome))) {s with heap:=h',toks:=tk}) (.of_wp fun prog w A R s h=>aGE (A:=A.in1) b #[x] t u h.1 fun h' tk k=>⟨_,rfl,h.2 h' tk k⟩) ⟨z.hA.handled,fun h' tk k=>uI (q h' tk k)⟩))
  (.onI (T:=fun x=>K.wp A (BB (.bytes b t) x)) dx (fun i u=>.gd fun e=>by
   have e:=hJ _ _▸e
   have h0:=of_decide_eq_true e.1
   have h1:=of_decide_eq_true e.2
   have e1:(i.toNat.toUInt8).toNat=i.toNat:=Cj h0 h1
   have e2:IV (b.toList.map cH) i.toNat=b.contains i.toNat.toUInt8:=by rw [←e1,aGt,e1];simp
   exact .rt (e2:_=_) fun Q q=>Ga (iE _ _ _) SM
    (mO SM (iE _ _ _) FB.entry_bytes_contains (FB.args_bytes_contains_2 _ _) (.of_wp fun prog w A R s h=>aGD b t i u h0 h1 ⟨_,rfl,h⟩) (uI q))) .er)) .er
end
section
open PySem PySem.W PySem.Calls PyProof.Rows PySem.Builtin PySem.Builtin.Bytes
section
variable{prog:hO}{w:dW}{A:aR}{E:aB→aG→Prop}{s:aG}
theorem aPe{id:String}{b:Array UInt8}{t:Tok}:takeBufferQuiet? id (.bytes b t) 0=pure (some (b,none)):=by
 kernel_rfl
inductive nW:List aB→List (Array UInt8)→Prop
 |nil:nW [] []
 |cons (b:Array UInt8) (t:Tok) {vs:List aB} {bs:List (Array UInt8)} (h:nW vs bs):nW (.bytes b t::vs) (b::bs)
theorem nW.len{vs:List aB}{bs:List (Array UInt8)}(h:nW vs bs):vs.length=bs.length:=by
 induction h with
 |nil=>rfl
 |cons _ _ _ ih=>simp [ih]
theorem nW.at{vs:List aB}{bs:List (Array UInt8)}(h:nW vs bs):∀ {i:Nat},i < vs.length→∃ b t,vs[i]? =some (.bytes b t)∧bs[i]? =some b:=by
 induction h with
 |nil=>intro i hi;cases hi
 |cons b t _ ih=>
  intro i hi
  cases i with
  |zero=>exact⟨b,t,rfl,rfl⟩
  |succ i=>exact ih (by simpa using hi)
theorem nW.taken{vs:List aB}{bs:List (Array UInt8)}(h:nW vs bs):∀ i,(((vs.take i).map fun v=>(v,(none:Option aB))).any (·.1.onHeap))=false:=by
 induction h with
 |nil=>intro i;simp
 |cons b t _ ih=>
  intro i
  cases i with
  |zero=>rfl
  |succ i=>simp only [Hk,iS,List.any_cons,ih i];rfl
theorem Qo(keep:List aB){Q:Unit→aG→Prop}(h:Q () s):∀(l:List (aB×Option aB)),(∀ p∈l,p.2=none)→aI (aK prog w) A (joinLetGo l keep) Q E s
 | [],_=>bF h
 |(x,o)::r,hn=>by
  cases hn _ (.head _)
  refine aF (wpAny_letGo ?_)
  exact Qo keep h r fun p hp=>hn p (.tail _ hp)
theorem aQL{β:Type}(x:aB)(f:aB→β)(g:Array aB→β):joinM.match_1 (fun _=>β) [x].toArray f g=f x:=rfl
theorem aHb{β:Type}(items:Array aB)(f:aB→β)(g:Array aB→β)(h:items.size≠1):joinM.match_1 (fun _=>β) items f g=g items:=by
 unfold joinM.match_1
 rw [dif_neg h]
noncomputable def HQ:aB→Array UInt8
 |.bytes b _=>b
 |_=>#[]
theorem rg0(vs:List aB):xX ([:vs.toArray.size]:Std.Legacy.Range).start ([:vs.toArray.size]:Std.Legacy.Range).size ([:vs.toArray.size]:Std.Legacy.Range).step=xX 0 vs.length 1:=by simp [Std.Legacy.Range.size]
theorem Gi{α:Type}{m m':Sem α}{Q:α→aG→Prop}(e:m=m')(h:aI (aK prog w) A m' Q E s):aI (aK prog w) A m Q E s:=e▸h
inductive JI(s:aG)(vs:List aB)(bs:List (Array UInt8)):List Nat→Array (Array UInt8)×List (aB×Option aB)→aG→Prop
 |mk (i:Nat) (h:i≤vs.length):JI s vs bs ((xX 0 vs.length 1).drop i) ((bs.take i).toArray,(vs.take i).map fun v=>(v,none)) s
inductive JT(s:aG)(vs:List aB)(bs:List (Array UInt8))(x:aB)(rest:List Nat)(b:Array (Array UInt8)×List (aB×Option aB))(s':aG):Prop
 |mk (e:s'.heap=s.heap) (ok:decide ((Kind.bytes==Kind.bytearray || b.2.any (·.1.onHeap))=true)=false) (t:∀ id,takeBufferQuiet? id x 0=pure (some (HQ x,none))) (n:JI s vs bs rest (b.1.push (HQ x),b.2++[(x,none)]) s')
section
variable{vs:List aB}{bs:List (Array UInt8)}{x:aB}{rest:List Nat}{b:Array (Array UInt8)×List (aB×Option aB)}{s':aG}
theorem JT.e':JT s vs bs x rest b s'→s'.heap=s.heap | ⟨e,_,_,_⟩=>e
theorem JT.ok':JT s vs bs x rest b s'→decide ((Kind.bytes==Kind.bytearray || b.2.any (·.1.onHeap))=true)=false | ⟨_,e,_,_⟩=>e
theorem JT.t':JT s vs bs x rest b s'→∀ id,takeBufferQuiet? id x 0=pure (some (HQ x,none)) | ⟨_,_,e,_⟩=>e
theorem JT.n':JT s vs bs x rest b s'→JI s vs bs rest (b.1.push (HQ x),b.2++[(x,none)]) s' | ⟨_,_,_,e⟩=>e
end
theorem JI.turn{vs:List aB}{bs:List (Array UInt8)}(hb:nW vs bs)(i:Nat)(rest:List Nat)(b':Array (Array UInt8)×List (aB×Option aB))(s':aG)(h:JI s vs bs (i::rest) b' s'):JT s vs bs (vs.toArray.getD i .none) rest b' s':=by
 generalize e:i::rest=l at h
 cases h with
 |mk j hj=>
  have hlt:j < vs.length:=Nat.lt_of_le_of_ne hj fun q=>by rw [q,List.drop_of_length_le (by simp)] at e;cases e
  rw [aAl (by simpa using hlt)] at e
  simp only [List.getElem_range',kG,Nat.one_mul,SU] at e
  obtain⟨rfl,rfl⟩:=e
  obtain⟨c,u,hv,hc⟩:=hb.at hlt
  refine(show vs.toArray.getD i Value.none= .bytes c u by rw [Array.getD_eq_getD_getElem?];simp [hv]).symm▸?_
  refine⟨rfl,decide_eq_false (by rw [hb.taken i];decide),fun _=>aPe,?_⟩
  have:=JI.mk (s:=s) (bs:=bs) (i+1) hlt
  rw [Hi,Hi,hv,hc] at this
  simpa [HQ] using this
theorem JI.fin{vs:List aB}{bs:List (Array UInt8)}(hb:nW vs bs)(b':Array (Array UInt8)×List (aB×Option aB))(s':aG)(h:JI s vs bs [] b' s'):s=s'∧bs.toArray=b'.1∧∀ p∈b'.2,p.2=none:=by
 generalize e: []=l at h
 cases h with
 |mk j hj=>
  have:=congrArg AH e
  simp only [TH,List.length_range',LV] at this
  obtain rfl:=TL hj (Nat.sub_eq_zero_iff_le.mp this.symm)
  exact⟨rfl,by rw [hb.len,List.take_length],fun p hp=>by obtain⟨v,_,rfl⟩:=List.mem_map.mp hp;rfl⟩
theorem JI.end{bs:List (Array UInt8)}{b:Array UInt8}{b':Array (Array UInt8)×List (aB×Option aB)}{s':aG}{Q:AO→aG→Prop}(h:s=s'∧bs.toArray=b'.1∧∀ p∈b'.2,p.2=none)(h4:Q (.done (.ret (.bytes (joined b bs) s.toks))) {s with toks:=s.toks+1}):
  Q (.done (.ret (.bytes (joined b b'.1.toList) s'.toks))) {s' with toks:=s'.toks+1}:=by
 obtain⟨rfl,e,_⟩:=h
 refine(e)▸?_
 exact h4
theorem Qn{v:aB}{Q:aB→aG→Prop}(hT:s.TypeIs v "list")(h:Q v s):aI (aK prog w) A (joinItems v) Q E s:=
 aF (LK hT (Ge rfl (bF h)))
theorem JI.sz{bs:List (Array UInt8)}{b:Array UInt8}{b':Array (Array UInt8)×List (aB×Option aB)}{s':aG}(h:s=s'∧bs.toArray=b'.1∧∀ p∈b'.2,p.2=none)(h4:(joined b bs).size≤fO):(joined b b'.1.toList).size≤fO:=by
 exact(h.2.1)▸h4
theorem aHa(b:Array UInt8)(t:Tok)(l:Addr)(c:Array UInt8)(u:Tok)(ep:Nat)(ho:s.heap.get? l=some {cls:=.type "list",data:=.seq [MO c u].toArray ep})(hT:s.TypeIs (.ref l) "list"){Q:AO→aG→Prop}
  (h1:Q (.done (.ret (.bytes c u))) s):aI (aK prog w) A (Builtin.«bytes.join» ⟨[.bytes b t,.ref l],[]⟩) Q E s:=by
 refine aF (dS (a:=(MO b t,qB l)) rfl ?_)
 refine aF (Qn hT ?_)
 refine aF (RP ho rfl ?_)
 refine Ge rfl (aF (LK (iE s c u) ?_))
 exact Ge rfl (aF (xU (bF h1)))
theorem dne(n:Nat):decide ((n != n)=true)=false:=by simp
theorem aGZ(b:Array UInt8)(t:Tok)(l:Addr)(vs:List aB)(bs:List (Array UInt8))(hb:nW vs bs)(ep:Nat)(ho:s.heap.get? l=some {cls:=.type "list",data:=.seq vs.toArray ep})(hT:s.TypeIs (.ref l) "list"){Q:AO→aG→Prop}(hn:vs.toArray.size≠1)
  (h2:decide (tooLong (bs.toArray.foldl (· + ·.size) (b.size*(bs.toArray.size - 1)))=true)=false) (h3:(joined b bs).size≤fO) (h4:Q (.done (.ret (.bytes (joined b bs) s.toks))) {s with toks:=s.toks+1}):
  aI (aK prog w) A (Builtin.«bytes.join» ⟨[.bytes b t,.ref l],[]⟩) Q E s:=by
 refine aF (dS (a:=(MO b t,qB l)) rfl ?_)
 refine aF (Qn hT ?_)
 refine aF (RP ho rfl ?_)
 refine Ge rfl ?_
 refine Gi (aHb _ _ _ hn) (aF (Gi (Std.Legacy.Range.forIn_eq_forIn_range' ..) (Gi (congrArg (fun l=>forIn l _ _) (rg0 vs)) (wpAny_forIn_list _ (JI s vs bs) _ (fun i rest b' s' h=> ?_) (fun b' s' h=> ?_) _ _ (.mk 0 (jP _))))))
 ·have T:=JI.turn hb i rest b' s' h
  have ho':s'.heap.get? l=_:=T.e'▸ho
  refine aF (RP ho' rfl ?_)
  refine Gb T.ok' (aF (pD (dS (T.t' _) ?_)))
  refine aF (RP ho' rfl (Gb (dne _) (bF T.n')))
 ·have T:=JI.fin hb b' s' h
  refine aF (dS (a:=b) rfl (Gb (T.2.1▸h2) ?_))
  exact aF (wpAny_mkBytes (Q:=fun a s'=>aI _ _ (holding (a::_) point >>= _) _ _ s') (aF (pD (wpAny_point (aF (Qo _ (bF (JI.end T h4)) b'.2 T.2.2))))) (JI.sz T h3))
theorem nW.one{vs:List aB}{bs:List (Array UInt8)}(hb:nW vs bs){C:Prop}(m:vs.toArray.size≠1→C)(o:∀ c u,vs= [.bytes c u]→C):C:=by
 cases hb with
 |nil=>exact m (by decide)
 |cons c u hr=>cases hr with
  |nil=>exact o c u rfl
  |cons _ _ _=>exact m (by simp)
theorem aGY(b:Array UInt8)(t:Tok)(l:Addr)(vs:List aB)(bs:List (Array UInt8))(hb:nW vs bs)(ep:Nat)(ho:s.heap.get? l=some {cls:=.type "list",data:=.seq vs.toArray ep}){Q:AO→aG→Prop}
  (h1:∀ c u,vs= [.bytes c u]→Q (.done (.ret (.bytes c u))) s)
  (h2:tooLong (bs.toArray.foldl (· + ·.size) (b.size*(bs.toArray.size - 1)))=false) (h3:(joined b bs).size≤fO) (h4:Q (.done (.ret (.bytes (joined b bs) s.toks))) {s with toks:=s.toks+1}):
  aI (aK prog w) A (Builtin.«bytes.join» ⟨[.bytes b t,.ref l],[]⟩) Q E s:=by
 exact hb.one (fun hone=>aGZ b t l vs bs hb ep ho ⟨_,ho,rfl⟩ hone (by rw [h2];rfl) h3 h4) fun c u e=>aHa b t l c u ep (e▸ho) ⟨_,ho,rfl⟩ (h1 c u e)
end
theorem Qp:∀(bs:List (Array UInt8)),(joined #[] bs).toList=(bs.map GA).flatten:=by
 intro bs
 unfold joined
 have key:∀(l:List (Array UInt8×Nat)) (out:Array UInt8),(l.foldl (fun out (x:Array UInt8×Nat)=>(if x.2 > 0 then out++#[] else out)++x.1) out).toList=out.toList++(l.map (fun x=>x.1.toList)).flatten:=by
  intro l
  induction l with
  |nil=>intro out;simp
  |cons x l ih=>
   intro out
   rw [List.foldl_cons,ih]
   simp
 have:=key bs.zipIdx #[]
 rw [this]
 congr 1
 rw [show(fun(x:Array UInt8×Nat)=>x.1.toList)=GA∘Prod.fst from rfl,←iT]
 simp
theorem Wz:Slot "bytes" "join" "bytes.join":=
 .of (owner:="bytes") (n:="join") (by rw [mH,lR];kernel_rfl) (by kernel_rfl) (by decide+kernel) (by decide+kernel)
  (by first | exact .inl (by decide+kernel) | exact .inr (by kernel_rfl)) (by rw [qE];kernel_rfl)
theorem aPw:typeOf (.builtin "bytes.join")=pure (.type "method_descriptor"):=by show NB _=_;rw [NC];kernel_rfl
theorem aEW:rE table "bytes.join"=some Builtin.«bytes.join»:=wU (by kernel_rfl)
theorem aBk(a b:aB):lQ "bytes.join" ⟨[a,b],[]⟩:=by unfold lQ;kernel_rfl
theorem Bk:mJ "bytes" "join" "bytes.join":=⟨Gy,Wz,aPw⟩
theorem aIk:mJ "str" "join" "str.join":=⟨F.plainAttrs_str,F.slot_str_join,F.type_str_join⟩
theorem Nr(bs:List (Array UInt8)):(bs.map fun b=>b.toList.map cH).flatten=((bs.map GA).flatten).map cH:=by
 induction bs with
 |nil=>rfl
 |cons b bs ih=>simp [ih]
theorem aMs(bs:List (Array UInt8)):∀ k,(bs.toArray.foldl (fun x (y:Array UInt8)=>x+y.size) k)=k+(bs.map GA).flatten.length:=by
 induction bs with
 |nil=>intro k;simp
 |cons b bs ih=>intro k;have:=ih (k+b.size);simp at this ⊢;exact this.trans (uR ..)
theorem Om(ss:List DD):(LM ⟨#[]⟩ ss).cps.toList=(ss.map fun x=>x.cps.toList).flatten:=by
 have key:∀(l:List DD) (a:Array Nat),(l.foldl (fun acc p=>acc++(#[]:Array Nat)++p.cps) a).toList=a.toList++(l.map fun x=>x.cps.toList).flatten:=by
  intro l
  induction l with
  |nil=>intro a;simp
  |cons x l ih=>intro a;rw [List.foldl_cons,ih];simp
 cases ss with
 |nil=>rfl
 |cons x r=>
  have:=key r x.cps
  exact this
theorem aPa(ss:List DD):∀ k,(ss.toArray.foldl (fun x (y:DD)=>x+y.length+(⟨#[]⟩:DD).length) k)=k+(ss.map fun x=>x.cps.toList).flatten.length:=by
 induction ss with
 |nil=>intro k;simp
 |cons b bs ih=>
  intro k
  have:=ih (k+b.length)
  simp [PySem.Str.length] at this ⊢
  exact this.trans (uR ..)
theorem aBW(l:List (List Nat)):∀ {vs:List aB},aS iQ l vs→∃ bs,nW vs bs∧(bs.map fun b=>b.toList.map cH)=l:=by
 induction l with
 |nil=>intro vs d;subst d;exact⟨[],.nil,rfl⟩
 |cons n l ih=>
  intro vs d
  cases d with | mk v ws a as=>
  obtain⟨b,t,rfl,rfl⟩:=wM a
  obtain⟨bs,h1,rfl⟩:=ih as
  exact⟨b::bs,.cons b t h1,rfl⟩
theorem aOS(l:List (List Nat)):∀ {vs:List aB},aS lN l vs→∃ ss:List (DD×Tok),vs=strValues ss∧(ss.map fun p=>p.1.cps.toList)=l:=by
 induction l with
 |nil=>intro vs d;subst d;exact⟨[],rfl,rfl⟩
 |cons n l ih=>
  intro vs d
  cases d with | mk v ws a as=>
  obtain⟨b,t,rfl,rfl⟩:=LC a
  obtain⟨ss,rfl,rfl⟩:=ih as
  exact⟨(b,t)::ss,rfl,rfl⟩
section
variable{K:KK}{A:aR}{st:St}{z:Z K A st}{α β:Type}{D:Dn α β}{w:WP β}
noncomputable def Cs(l:List Nat)(k:M α):M α:=match l with
 | []=>k
 |_::_=>er
theorem Go.on0{l:List Nat}{k:M α}(h:l= []→Go z D w (k st)):Go z D w (Cs l k st):=by
 cases l with
 |nil=>exact h rfl
 |cons=>exact .er
theorem Jt{C:Cx}{W:Addr→Option bS}(x:PV)(b:List Nat)(v:aB)(h:qX x=some b)(d:bE C W x v):iQ b v:=by cases MV h;exact d
theorem aON{C:Cx}{W:Addr→Option bS}(x:PV)(b:List Nat)(v:aB)(h:WH x=some b)(d:bE C W x v):lN b v:=by cases aBn h;exact d
noncomputable def EW(a b:SV):M SV:=kQ a (fun l=>Cs l (iD b (fun xs=>eW (lP qX xs) fun ls=>dM ls.flatten.length (rt (.pv (.bytes ls.flatten)))) er)) er
theorem Ed:gA K (fun x y=>call (.builtin "bytes.join") [x,y]) EW:=fun {A st} z a b x y dx dy=>
 .onB (T:=fun x=>K.wp A (call (.builtin "bytes.join") [x,y])) dx (fun b t=>.on0 fun e=>.onL (T:=fun y=>K.wp A (call (.builtin "bytes.join") [.bytes b t,y])) dy (fun xs l vs ep hl d=>.onSome fun ls e'=>.fit fun hz=>by
  have eb:b= #[]:=by obtain⟨l⟩:=b;cases l with
   |nil=>rfl
   |cons=>cases e
  subst eb
  obtain⟨bs,hbs,rfl⟩:=aBW ls (DK Jt xs e' d)
  rw [Nr,bQ] at hz
  have hsz:(joined #[] bs).size≤1000000:=by rw [←pY,Qp];exact hz
  refine fun a' s' e Q q=>mO Wz (iE _ _ _) aEW (aBk _ _) (S:=fun A R s=>s.heap.get? l=some (bY vs ep)∧∀ c u k,c.toList=(bs.map GA).flatten→R (.ok (.ret (.bytes c u))) {s with toks:=k})
   (.of_wp fun prog w A R s h=>aGY #[] t l vs bs hbs ep h.1 (fun c u hv=>⟨_,rfl,?_⟩) ?_ (gH hsz) ⟨_,rfl,h.2 _ _ _ (Qp bs)⟩) ⟨hl,fun c u k hc=> ?_⟩
  ·refine h.2 c u s.toks ?_
   subst hv
   cases hbs with
   |cons _ _ hr=>cases hr;simp
  ·have:=aMs bs ((#[]:Array UInt8).size*(bs.toArray.size - 1))
   refine decide_eq_false ?_
   rw [this]
   simp only [hZ,LV,Nat.zero_mul,kG]
   exact Nat.not_lt.mpr (gH hz)
  ·cases e
   exact q (z.tok k) _ Z.le0 (show iQ _ _ by rw [Nr,←hc];exact iQ.mk c u)) .er) .er
noncomputable def Ai(a b:SV):M SV:=zP a (fun l=>Cs l (iD b (fun xs=>eW (lP WH xs) fun ls=>dM ls.flatten.length (rt (.pv (.str ls.flatten)))) er)) er
theorem aLp:gA K (fun x y=>call (.builtin "str.join") [x,y]) Ai:=fun {A st} z a b x y dx dy=>
 .onS (T:=fun x=>K.wp A (call (.builtin "str.join") [x,y])) dx (fun b t=>.on0 fun e=>.onL (T:=fun y=>K.wp A (call (.builtin "str.join") [.str b t,y])) dy (fun xs l vs ep hl d=>.onSome fun ls e'=>.fit fun hz=>by
  have ep:b=⟨#[]⟩:=by rw [←xO b,e]
  subst ep
  obtain⟨ss,rfl,rfl⟩:=aOS ls (DK aON xs e' d)
  rw [show ss.map (fun p=>p.1.cps.toList)=(ss.map (·.1)).map fun x=>x.cps.toList by rw [iT];rfl] at hz ⊢
  have hlen:(LM ⟨#[]⟩ (ss.map (·.1))).length≤fO:=by
   show(LM ⟨#[]⟩ (ss.map (·.1))).cps.size≤fO
   rw [←pY,Om];exact gH hz
  have ok:lN ((ss.map (·.1)).map fun x=>x.cps.toList).flatten (.str (LM ⟨#[]⟩ (ss.map (·.1))) z.s.toks):=by rw [←Om];exact .mk _ _
  refine fun a' s' e Q q=>mO F.slot_str_join (typeIs_str _ _ _) F.entry_str_join (F.args_str_join_2 _ _) (meets_str_join_list ⟨#[]⟩ t l ss ?_) ⟨⟨_,hl,rfl,_,rfl⟩,?_⟩
  ·have:=aPa (ss.map (·.1)) 0
   refine decide_eq_false ?_
   rw [this,kG]
   exact Nat.not_lt.mpr (gH hz)
  ·cases e
   have many:(Made.str (LM ⟨#[]⟩ (ss.map (·.1)))).post Q z.s:=⟨hlen,q (z.tok (z.s.toks+1)) _ Z.le0 ok⟩
   cases ss with
   |nil=>exact many
   |cons p r=>cases r with
    |nil=>exact q z _ Z.le0 (show lN _ _ by rw [show(([p].map (·.1)).map fun x:DD=>x.cps.toList).flatten=p.1.cps.toList from gK _];exact .mk _ _)
    |cons p' r'=>exact many) .er) .er
end
end
section
open PySem PySem.W PySem.Calls PyProof.Rows PySem.Builtin PySem.Builtin.Bytes
theorem aBR:xT (.type "bytes") "__bytes__"=pure (some (.builtin "bytes.__bytes__")):=by rw [mH,lR];kernel_rfl
theorem aBw:xT (.type "bytearray") "__bytes__"=pure none:=by rw [mH,lR];kernel_rfl
theorem aBx:xT (.type "bytearray") "__index__"=pure none:=by rw [mH,lR];kernel_rfl
theorem WJ:xT (.type "bytearray") "__buffer__"=pure (some (.builtin "bytearray.__buffer__")):=by rw [mH,lR];kernel_rfl
theorem aBz:xT (.type "bytearray") "__release_buffer__"=pure (some (.builtin "bytearray.__release_buffer__")):=by rw [mH,lR];kernel_rfl
theorem Jd:isSubtype (.type "bytearray") (.type "bytearray")=pure true:=by rw [qE];kernel_rfl
section
variable{prog:hO}{w:dW}{A:aR}{E:aB→aG→Prop}{s:aG}
theorem aIJ(b:Array UInt8)(t:Tok)(h:Q (.done (.ret (.bytes b t))) s):
  aI (aK prog w) A (Builtin.«bytes.__new__» ⟨[.type "bytes",.bytes b t],[]⟩) Q E s:=by
 refine aF (dS rfl ?_)
 refine DO rfl ?_
 refine aF (dS F.bm_sub ?_)
 refine DO rfl ?_
 refine aF (dS (F.bm_bind _) ?_)
 refine aF (dS rfl ?_)
 refine aF (dS rfl ?_)
 refine DO rfl ?_
 refine aF (zZ (iE s b t) aBR ?_)
 refine aF (xU ?_)
 refine aF (LK (iE s b t) ?_)
 refine bm_if_true rfl ?_
 exact dS rfl h
theorem aDA(b:Array UInt8)(t:Tok)(h:Q (.bytes b t) s):aI (aK prog w) A (call (.type "bytes") [.bytes b t]) Q E s:=
 callType_new F.bm_called (by decide) (F.bm_typeCall _) (F.bm_newCall _) (fun obj=>F.args_object_init_2 obj _) F.bm_entry
  (.of_wp fun prog w A R s h=>aIJ b t ⟨_,rfl,h⟩) ⟨iE _ _ _,h⟩
theorem aBy(hT:s.TypeIs (.ref a) "bytearray")(h:Q true s):aI (aK prog w) A (slotIsOwn (.ref a) "__buffer__") Q E s:=by
 have key:∀ x:String,x="bytearray"→aI (aK prog w) A (isInstance (.ref a) (.type x)) Q E s:=fun x hx=>by rw [hx];exact RN hT Jd h
 refine aF (zZ hT WJ ?_)
 dsimp only
 rw [if_neg (by decide+kernel)]
 exact key _ (by kernel_rfl)
theorem Jb(hT:s.TypeIs (.ref a) "bytearray")(h:Q true s):aI (aK prog w) A (slotIsOwn (.ref a) "__release_buffer__") Q E s:=by
 have key:∀ x:String,x="bytearray"→aI (aK prog w) A (isInstance (.ref a) (.type x)) Q E s:=fun x hx=>by rw [hx];exact RN hT Jd h
 refine aF (zZ hT aBz ?_)
 dsimp only
 rw [if_neg (by decide+kernel)]
 exact key _ (by kernel_rfl)
theorem aBt{id:String}(ho:s.heap.get? a=some o)(hc:o.cls= .type "bytearray")(hd:o.data= .bytearray b n)(h:Q (some b) s):
  aI (aK prog w) A (buffer? id (.ref a) full) Q E s:=by
 have hT:s.TypeIs (.ref a) "bytearray":=⟨o,ho,hc⟩
 refine aF (zZ hT WJ ?_)
 try dsimp only
 refine aF (aBy hT ?_)
 rw [if_neg (by decide)]
 refine aF (zZ hT WJ ?_)
 try dsimp only
 refine aF ?_
 refine aF (Jb hT (bF ?_))
 rw [if_neg (by decide)]
 refine aF ?_
 refine aF (aF (vS ho ?_))
 refine(hd).symm▸?_
 exact bF (bF (bF h))
theorem aII(a:Addr){n:Nat}(ho:s.heap.get? a=some o)(hc:o.cls= .type "bytearray")(hd:o.data= .bytearray b n)(hz:b.size≤fO)(h:Q (.done (.ret (.bytes b s.toks))) {s with toks:=s.toks+1}):
  aI (aK prog w) A (Builtin.«bytes.__new__» ⟨[.type "bytes",.ref a],[]⟩) Q E s:=by
 have hT:s.TypeIs (.ref a) "bytearray":=⟨o,ho,hc⟩
 refine aF (dS rfl ?_)
 refine DO rfl ?_
 refine aF (dS F.bm_sub ?_)
 refine DO rfl ?_
 refine aF (dS (F.bm_bind _) ?_)
 refine aF (dS rfl ?_)
 refine aF (dS rfl ?_)
 refine DO rfl ?_
 refine aF (zZ hT aBw ?_)
 refine aF (aF ?_)
 refine aF (vS ho ?_)
 refine(hd).symm▸?_
 refine bF (bF ?_)
 refine DO rfl ?_
 refine aF (zZ hT aBx ?_)
 refine bm_if_true rfl ?_
 first
  |show aI _ _ (Builtin.Bytes.buffer? "bytes.__new__" (.ref a) true >>= _) _ _ _
  |(refine aF ?_;show aI _ _ (Builtin.Bytes.buffer? "bytes.__new__" (.ref a) true >>= _) _ _ _)
 refine aF (aBt ho hc hd ?_)
 refine aF (xU (aF (wpAny_mkBytes ?_ hz)))
 first
  |exact dS rfl h
  |exact aF (dS rfl (bF h))
  |exact dS rfl (bF h)
end
theorem Wv:Slot "bytearray" "__len__" "bytearray.__len__":=
 .of (owner:="bytearray") (n:="__len__") (by rw [mH,lR];kernel_rfl) (by kernel_rfl) (by decide+kernel) (by decide+kernel)
  (by first | exact .inl (by kernel_rfl) | exact .inr (by decide+kernel)) (by rw [qE];kernel_rfl)
theorem aER:rE table "bytearray.__len__"=some Builtin.«bytearray.__len__»:=wU (by kernel_rfl)
theorem aBe(a:aB):lQ "bytearray.__len__" ⟨[a],[]⟩:=by unfold lQ;kernel_rfl
theorem Ww:Slot "bytearray" "reverse" "bytearray.reverse":=
 .of (owner:="bytearray") (n:="reverse") (by rw [mH,lR];kernel_rfl) (by kernel_rfl) (by decide+kernel) (by decide+kernel)
  (by first | exact .inl (by decide+kernel) | exact .inr (by kernel_rfl)) (by rw [qE];kernel_rfl)
theorem aPu:typeOf (.builtin "bytearray.reverse")=pure (.type "method_descriptor"):=by show NB _=_;rw [NC];kernel_rfl
theorem aET:rE table "bytearray.reverse"=some Builtin.«bytearray.reverse»:=wU (by kernel_rfl)
theorem aBf(a:aB):lQ "bytearray.reverse" ⟨[a],[]⟩:=by unfold lQ;kernel_rfl
theorem Ud:PlainAttrs "bytearray":=⟨⟨"bytearray.__getattribute__",by rw [mH,lR];kernel_rfl,by kernel_rfl⟩,by rw [mH,lR];kernel_rfl⟩
theorem aIm:mJ "bytearray" "reverse" "bytearray.reverse":=⟨Ud,Ww,aPu⟩
section
variable{K:KK}{A:aR}{st:St}{z:Z K A st}{α β δ:Type}{D:Dn α δ}{T:aB→WP δ}{a:SV}{x:aB}
noncomputable abbrev nG(b:Array UInt8):Obj:={cls:=.type "bytearray",data:=.bytearray b 0}
noncomputable def FI(a:SV)(k:Nat→List Nat→M α)(e:M α):M α:=fun st=>match a with
 |.ref i=>match st.cells[i]? with
  |some c=>match c with
   |.barr l=>k i l st
   |_=>e st
  |none=>e st
 |.pv _=>e st
theorem Go.onBA(d:z.d dV a x)(h:∀ i b,z.X.W (z.X.ρ i)=some (.cell i)→z.s.heap.get? (z.X.ρ i)=some (nG b)→Go z D (T (.ref (z.X.ρ i))) (k i (b.toList.map cH) st))(h':Go z D (T x) (e st)):Go z D (T x) (FI a k e st):=by
 cases a with
 |pv=>exact h'
 |ref i=>
  show Go z D (T x) (match st.cells[i]? with | some c=>(match c with | .barr l=>k i l st | _=>e st) | none=>e st)
  cases q:st.cells[i]? with
  |none=>exact h'
  |some c=>cases c with
   |barr l=>cases z.R.cells _ _ q with | mk o hw ho r=>cases r with | mk b e=>subst e;cases d.2;exact h i b hw ho
   |_=>exact h'
theorem MX{s:aG}(h:s.heap.get? l=some (nG b)):s.TypeIs (.ref l) "bytearray":=⟨_,h,rfl⟩
noncomputable def ZZ(a:SV):M Unit:=FI a (fun _ _=>rt ()) er
theorem Up:sM K "bytearray" ZZ:=fun {A st} z a x d=>
 .onBA (T:=fun x Q s=>s.TypeIs x "bytearray"∧(∀ l,x= .ref l→∃ ob,s.heap.get? l=some ob∧ob.dict=none)∧Q () s) d (fun i b hw ho=>.same trivial fun Q q=>⟨MX ho,fun l e=>by cases e;exact⟨_,ho,rfl⟩,q⟩) .er
noncomputable def Rg(a:SV):M SV:=FI a (fun _ l=>dM l.length (rt (.pv (.int l.length)))) er
theorem aLu:jW K (fun v=>call (.builtin "len") [v]) Rg:=fun {A st} z a x dx=>
 .onBA (T:=fun x=>K.wp A (call (.builtin "len") [x])) dx (fun i b hw ho=>.fitB fun hz=>.tok (EU Rj) fun Q q=>
  PyProof.Rows.call_len_slot (MX ho) Wv (fun Q' hq'=>mO Wv (MX ho) aER (aBe _) (S:=fun A R s=>s.heap.get? (z.X.ρ i)=some (nG b)∧R (.ok (.ret (.int b.size s.toks))) {s with toks:=s.toks+1}) (.of_wp fun prog w A R s h=>by
   refine aF (dS rfl ?_)
   refine aF ?_
   refine aF (aF (vS h.1 ?_))
   refine bF (bF ?_)
   exact fun Γ p hΓ=>⟨_,rfl,h.2⟩) ⟨ho,hq'⟩) (Int.not_lt.mpr (GK _)) (Int.not_le.mpr (PO hz)) (q _ _)) .er
theorem Jc:vY (·.reverse) (nG b)=nG b.reverse:=rfl
noncomputable def Us(a:SV):M SV:=FI a (fun k l=>dM l.length (JS k (.barr l.reverse))) er
theorem aLC:jW K (fun x=>call (.builtin "bytearray.reverse") [x]) Us:=fun {A st} z a x dx=>
 .onBA (T:=fun x=>K.wp A (call (.builtin "bytearray.reverse") [x])) dx (fun i b hw ho=>.fitB fun hz=>by
  have ho':(z.s.heap.update (z.X.ρ i) (vY (·.reverse))).get? (z.X.ρ i)=some (nG b.reverse):=by rw [←Jc];exact uN _ ho rfl
  exact .setC _ z.s.toks hw (sE ..) ⟨_,ho'⟩ (.mk _ hw ho' (.mk _ (by rw [Array.toList_reverse,List.map_reverse]))) rfl fun Q q=>
   mO Ww (MX ho) aET (aBf _) (S:=fun A R s=>s.heap.get? (z.X.ρ i)=some (nG b)∧R (.ok (.ret .none)) {s with heap:=s.heap.update (z.X.ρ i) (vY (·.reverse))}) (.of_wp fun prog w A R s h=>by
    refine aF (dS rfl ?_)
    refine aF ?_
    refine aF (vS h.1 ?_)
    refine aF (wpAny_update h.1 ?_)
    refine Gf (o:=nG b.reverse) (by rw [←Jc];exact uN _ h.1 rfl) ?_ (bF ⟨_,rfl,h.2⟩)
    exact if_neg (Nat.not_lt.mpr (aP (dQ Array.size_reverse) (gH hz)))) ⟨ho,q⟩) .er
noncomputable def yU(a:SV):M SV:=kQ a (fun l=>rt (.pv (.bytes l))) (FI a (fun _ l=>dM l.length (rt (.pv (.bytes l)))) (Ju a))
theorem CH:jW K (fun v=>call (.type "bytes") [v]) yU:=fun {A st} z a x dx=>
 .onB (T:=fun x=>K.wp A (call (.type "bytes") [x])) dx (fun b t=>.rt (iQ.mk b t) fun Q q=>aDA b t q)
 (.onBA (T:=fun x=>K.wp A (call (.type "bytes") [x])) dx (fun i b hw ho=>.fitB fun hz=>.ret (z.tok (z.s.toks+1)) Z.le0 (iQ.mk b _) fun Q q=>
  callType_new F.bm_called (by decide) (F.bm_typeCall _) (F.bm_newCall _) (fun obj=>F.args_object_init_2 obj _) F.bm_entry
   (S:=fun A R s=>s.heap.get? (z.X.ρ i)=some (nG b)∧R (.ok (.ret (.bytes b s.toks))) {s with toks:=s.toks+1})
   (.of_wp fun prog w A R s h=>aII (z.X.ρ i) h.1 rfl rfl (gH hz) ⟨_,rfl,h.2⟩) ⟨ho,iE _ _ _,q⟩) (aLf z dx))
end
end
noncomputable def pO(cap:List (Option Nat))(loc:List (Option SV)):List (Option SV):=cap.map fun c=>match c with
 |some j=>(loc[j]?).join
 |none=>none
noncomputable def iB(g:PV→M Unit)(t:M Bool)(m:M SV):List PV→M (List PV)
 | []=>rt []
 |x::xs=>bd (g x) fun _=>bd t fun ok=>match ok with
  |true=>bd m fun y=>lH y fun y=>bd (iB g t m xs) fun ys=>rt (y::ys)
  |false=>iB g t m xs
noncomputable def ES{α:Type}(cap:List (Option Nat))(k:M α):M α:=fun st=>match k ⟨pO cap st.loc,st.cells⟩ with
 |some (ys,st')=>some (ys,⟨st.loc,st'.cells⟩)
 |none=>none
noncomputable def BA(f:St→SV→Option (List PV))(cap:List (Option Nat))(g:PV→M Unit)(t:M Bool)(m:M SV)(a:SV):M (List PV):=fun st=>match f st a with
 |some xs=>dM xs.length (ES cap (iB g t m xs)) st
 |none=>none
noncomputable def eG(f:St→SV→Option (List PV))(src:M SV)(cap:List (Option Nat))(g:PV→M Unit)(t:M Bool)(m:M SV):M SV:=bd src fun a=>bd (BA f cap g t m a) fun ys=>rt (.pv (.lst ys))
noncomputable def NK(f:St→SV→Option (List PV))(src:M SV)(cap:List (Option Nat))(g:PV→M Unit)(t:M Bool)(m:M SV):M SV:=bd src fun a=>bd (BA f cap g t m a) fun ys st=>some (.ref st.cells.length,⟨st.loc,st.cells++[.list ys]⟩)
noncomputable def vB(cs:List (Str×Addr)):List (Str×pI)→List (Str×Addr)→List (Str×Addr)
 | [],acc=>acc
 |p::r,acc=>vB cs r (match p.2== .free with
  |true=>match cs.lookup p.1 with
   |some c=>(p.1,c)::acc
   |none=>acc
  |false=>acc)
theorem aDK(h:∀ x,(x,CX)∈scope.names→(env.cells.lookup x).isSome=true):closureFor scope env=pure (vB env.cells scope.names []):=by
 unfold closureFor
 have key:∀(l:List (Str×pI)) (acc:List (Str×Addr)),(∀ x,(x,CX)∈l→(env.cells.lookup x).isSome=true)→
   (forIn l acc fun(p:Str×pI) (cs:List (Str×Addr))=>(match p with
    |(name,kind)=>if kind== .free then do let c ←cellOf env name;pure (SP ((name,c)::cs)) else pure (SP cs):Sem (ForInStep (List (Str×Addr)))))=pure (vB env.cells l acc):=by
  intro l
  induction l with
  |nil=>intro acc _;rfl
  |cons p r ih=>
   intro acc hp
   obtain⟨x,k⟩:=p
   rw [List.forIn_cons]
   dsimp only [vB]
   cases hk:k==CX with
   |true=>
    cases (eq_of_beq hk)
    obtain⟨c,hc⟩:=Option.isSome_iff_exists.mp (hp x (.head _))
    refine(if_pos rfl).symm▸(hc).symm▸(show cellOf env x=pure c by unfold cellOf;rw [hc]).symm▸?_
    exact ih _ fun y hy=>hp y (.tail _ hy)
   |false=>
    rw [if_neg mV]
    exact ih _ fun y hy=>hp y (.tail _ hy)
 have:=key scope.names [] h
 simpa using this
noncomputable def HR(sl:aL)(c:Option Nat)(p:Str×pI):Bool:=match p.2 with
 |.free=>match c with
  |some j=>eH sl j .cell && nm sl j==p.1
  |none=>false
 |.cell=>false
 |_=>c.isNone
noncomputable def DQ(sl:aL):List (Option Nat)→aL→Bool
 |cap,[]=>cap.isEmpty
 |cap,p::ps=>match cap with
  |c::cs=>match HR sl c p with
   |true=>DQ sl cs ps
   |false=>false
  | []=>false
noncomputable def Fm(k:pI):pI:=match k with
 |.free=>.cell
 |k=>k
noncomputable def pR(nms:aL):aL:=nms.map fun p=>(p.1,Fm p.2)
noncomputable def jS(nms:aL):Scope:=⟨.function,nms,false,false,[]⟩
noncomputable def nH(sl:aL)(cap:List (Option Nat))(nms:aL):Bool:=match xM (jS (pR nms)) with
 |true=>DQ sl cap nms
 |false=>false
section
variable{sl nms:aL}{cap:List (Option Nat)}
theorem DT(h:nH sl cap nms=true):xM (jS (pR nms))=true∧DQ sl cap nms=true:=by
 unfold nH at h
 cases q:xM (jS (pR nms)) with
 |true=>rw [q] at h;exact⟨rfl,h⟩
 |false=>rw [q] at h;cases h
theorem NI(nms:aL):∀ {cap:List (Option Nat)},DQ sl cap nms=true→∀ {i:Nat} {p:Str×pI},nms[i]? =some p→∃ c,cap[i]? =some c∧HR sl c p=true:=by
 induction nms with
 |nil=>intro cap _ i p e;cases e
 |cons q ps ih=>
  intro cap h i p e
  cases cap with
  |nil=>cases h
  |cons c cs=>
   have h:(match HR sl c q with | true=>DQ sl cs ps | false=>false)=true:=h
   cases z:HR sl c q with
   |false=>rw [z] at h;cases h
   |true=>
    rw [z] at h
    cases i with
    |zero=>cases e;exact⟨c,rfl,z⟩
    |succ i=>exact ih h e
theorem ZJ{i:Nat}(e:(pR nms)[i]? =some (x,k)):∃ k',nms[i]? =some (x,k')∧Fm k'=k:=by
 unfold pR at e
 replace e:=(iR)▸e
 obtain⟨p,hp,e⟩:=Option.map_eq_some_iff.mp e
 cases e;exact⟨p.2,hp,rfl⟩
variable(h:DQ sl cap nms=true)
include h in
theorem Kg{i:Nat}(e:nms[i]? =some (x,.free)):∃ j,cap[i]? =some (some j)∧sl[j]? =some (x,.cell):=by
 obtain⟨c,hc,q⟩:=NI nms h e
 cases c with
 |none=>cases q
 |some j=>
  have q:(eH sl j .cell && nm sl j==x)=true:=q
  have q:=hJ _ _▸q
  exact⟨j,hc,eq_of_beq q.2▸kC q.1⟩
include h in
theorem Kh{x:Str}(e:(x,CX)∈nms):∃(i:Nat) (j:Nat),nms[i]? =some (x,.free)∧cap[i]? =some (some j)∧sl[j]? =some (x,.cell):=by
 obtain⟨i,hi⟩:=List.mem_iff_getElem?.mp e
 obtain⟨j,a,b⟩:=Kg h hi
 exact⟨i,j,hi,a,b⟩
include h in
theorem aDC{x:Str}{i:Nat}(e:(pR nms)[i]? =some (x,.cell)):nms[i]? =some (x,.free):=by
 obtain⟨k,hk,u⟩:=ZJ e
 obtain⟨c,_,q⟩:=NI nms h hk
 cases k with
 |free=>exact hk
 |cell=>cases q
 |_=>cases u
include h in
theorem aDD{i:Nat}(e:(pR nms)[i]? =some (x,.local))(hl:(pO cap loc)[i]? =some (some sv)):False:=by
 obtain⟨k,hk,u⟩:=ZJ e
 obtain⟨c,hc,q⟩:=NI nms h hk
 unfold pO at hl
 rw [iR,hc] at hl
 cases k with
 | «local»=>cases c with
  |none=>cases hl
  |some=>cases q
 |_=>cases u
theorem aIS{x:Str}{i:Nat}(e:(pR nms)[i]? =some (x,.free)):False:=by
 obtain⟨k,_,u⟩:=ZJ e
 cases k <;> cases u
theorem aDI(hc:cs.lookup x=some c):∀(l:aL) {acc:List (Str×Addr)},(x,CX)∈l∨acc.lookup x=some c→(vB cs l acc).lookup x=some c:=by
 intro l
 induction l with
 |nil=>intro acc h;exact h.elim (fun h=>nomatch h) id
 |cons p r ih=>
  intro acc h
  refine ih ?_
  cases hk:p.2==CX with
  |false=>exact h.imp (fun h=>by cases h with
    |head=>cases hk
    |tail _ h=>exact h) id
  |true=>
   by_cases hx:x=p.1
   ·right;rw [←hx,hc];show(match x==x with | true=>some c | false=>_)=_;rw [beq_self_eq_true]
   ·refine h.imp (fun h=>by cases h with
     |head=>exact absurd rfl hx
     |tail _ h=>exact h) fun h=> ?_
    cases cs.lookup p.1 with
    |none=>exact h
    |some d=>show(match x==p.1 with | true=>some d | false=>acc.lookup x)=_;exact(beq_eq_false_iff_ne.mpr hx).symm▸h
end
section
variable{K:KK}{A:aR}{st:St}{z:Z K A st}{nms:aL}{cap:List (Option Nat)}(h:nH K.sl cap nms=true)
include h in
theorem Ur(z:Z K A st):relabel (jS nms) K.env=jS (pR nms):=by
 show(⟨.function,nms.map _,false,false,[]⟩:Scope)=⟨.function,pR nms,false,false,[]⟩
 congr 1
 refine LW fun p hp=> ?_
 obtain⟨x,k⟩:=p
 show(if (k==CX && K.env.scope.kind== .function && K.env.kindOf x==some .cell)=true then(x,NameKind.cell) else(x,k))=(x,Fm k)
 by_cases q:k= .free
 ·subst q
  obtain⟨i,j,_,_,hj⟩:=Kh (DT h).2 hp
  rw [z.R.fr.st.kind,z.R.fr.st.kinds hj];rfl
 ·rw [if_neg ((beq_eq_false_iff_ne.mpr q).symm▸mV)]
  cases k <;> first | rfl | exact absurd rfl q
include h in
theorem aEa{Y:Xt}{cells:List SO}(hY:Y.W D=some .frame)(hn:h'.Ns D fun _=>none)(le:(z.X.mask NT z.s.heap).le st.cells.length Y cells.length)(g:∀ b o,z.s.heap.get? b=some o→h'.get? b=some o):
  GH K.C Y (pR nms) (compEnvC (jS nms) (vB K.env.cells nms []) D K.env) (pO cap st.loc) cells.length h':=by
 have hc:=(DT h).2
 have F:=z.R.fr
 have low:z.X.low st.cells.length Y cells.length:=z.holdLow.trans le.low
 refine⟨⟨?_,congrArg Scope.names (Ur h z),F.st.globals,F.st.builtins,fun q=>nomatch q⟩,hY,⟨_,hn,fun i x sv e hl=>(aDD hc e hl).elim⟩,fun i x e=> ?_,fun i x sv e hl=>(aIS e).elim⟩
 ·show xM (relabel (jS nms) K.env)=true
  rw [Ur h z];exact(DT h).1
 ·have hi:=aDC hc e
  obtain⟨j,hcj,hj⟩:=Kg hc hi
  obtain⟨c,v₀,a,b,⟨o,ho,hd⟩,t⟩:=F.cell j x hj
  have hW:∃ o',(z.X.mask NT z.s.heap).W c=some (.held o'):=b.elim (fun b=>⟨o,Bi b rfl ho⟩) fun⟨_,o',b⟩=>⟨o',FF b rfl⟩
  obtain⟨o',hW⟩:=hW
  refine⟨c,v₀,aDI a _ (.inl (nZ hi)),.inr ⟨rfl,o',le.held _ _ hW⟩,⟨o,g _ _ ho,hd⟩,fun sv hl=> ?_⟩
  unfold pO at hl
  rw [iR,hcj] at hl
  obtain⟨v,hv,d⟩:=t sv (by
   have hl:(st.loc[j]?).join=some sv:=iW hl
   cases q:st.loc[j]? with
   |none=>rw [q] at hl;cases hl
   |some y=>rw [q] at hl;exact congrArg some hl)
  exact⟨v,hv,fG.mono low _ _ d⟩
end
structure yN where
 g:PV→M Unit
 t:M Bool
 m:M SV
 rt:Expr→Expr
 ri:List Expr→List Expr
 re:Expr→Expr
noncomputable abbrev Fc(es:List Expr)(env:Env):Sem Bool:=forIn es true fun c r=>if r=true then do let ok ←isTrue c env (eval c env);pure (SP ok) else pure (SP r)
structure MF(K:KK)(T:yN):Prop where
 okg:∀(e:Expr) {A:aR} {st:St} (z:Z K A st) {p:PV} {v:aB},bE K.C z.X.W p v→Go z dU (K.wp A (qY (T.rt e) K.env v)) (T.g p st)
 okt:∀(es:List Expr) {A:aR} {st:St} (z:Z K A st),Go z dB (K.wp A (Fc (T.ri es) K.env)) (T.t st)
 okm:∀(e:Expr) {A:aR} {st:St} (z:Z K A st),Go z dV (K.wp A (eval (T.re e) K.env)) (T.m st)
 lets:∀(e:Expr) (it v:aB),JE (T.rt e) it v=pure ()
structure TS(K:KK) where
 m:M Bool
 r:List Expr→List Expr
 ok:∀(es:List Expr) {A:aR} {st:St} (z:Z K A st),Go z dB (K.wp A (Fc (r es) K.env)) (m st)
structure PI(K:KK) where
 T:yN
 ok:MF K T
section
variable{K:KK}{A:aR}{st st':St}{z:Z K A st}
noncomputable def oF:TS K:=⟨rt true,fun _=>[],fun _ _ _ z=>.rt (x:=true) rfl fun Q q=>wpAny_tests_nil q⟩
noncomputable def DF(a:PT K):TS K:=⟨a.m,fun es=>[a.r (dR es)],fun es _ _ z=>(a.ok _ z).imp fun Q q=>wpAny_tests_one q⟩
noncomputable def cP(g:PA K)(t:TS K)(a:PE K)(h:∀(e:Expr) (it v:aB),JE (g.r e) it v=pure ():=by intro _ _ _;rfl):PI K:=⟨⟨g.g,t.m,a.m,g.r,t.r,a.r⟩,g.ok,t.ok,a.ok,h⟩
theorem aEI{α:Type}{xs:List α}{i:Nat}(h:xs[i]? =none):xs.drop i= []:=List.drop_eq_nil_iff.mpr (List.getElem?_eq_none_iff.mp h)
theorem XQ{α:Type}{xs:List α}{i:Nat}{y:α}(h:xs[i]? =some y):xs.drop i=y::xs.drop (i+1):=by
 obtain⟨hi,rfl⟩:=List.getElem?_eq_some_iff.mp h
 exact aAl hi
inductive GF(K:KK)(A:aR)(X₀:Xt)(n0:Nat)(it D:Addr)(pi:Nat→Obj→Prop)(ok:Xt→Nat→Prop)(xs ys:List PV)(T:yN)(st':St):Nat→aG→Prop
 |mk {st₁:St} (z₁:Z K A st₁) (i:Nat) (o:Obj) (ds:List PV) (vs:List aB) (ep:Nat) (rest:List PV) (l:X₀.le n0 z₁.X st₁.cells.length) (hW:z₁.X.W it=some (.iter o)) (hp:pi i o) (hok:ok z₁.X st₁.cells.length) (hD:z₁.X.W D=some (.iter (bY vs ep)))
  (dl:bO K.C z₁.X ds vs) (hl:ds.length≤i) (e:iB T.g T.t T.m (xs.drop i) st₁=some (rest,st')) (hy:ds++rest=ys):GF K A X₀ n0 it D pi ok xs ys T st' (xs.drop i).length z₁.s
theorem Yh{xs:List PV}{i:Nat}{y:PV}(q:xs[i]? =some y):(xs.drop (i+1)).length < (xs.drop i).length:=by rw [XQ q];exact xY _
section
variable{T:yN}{xs rest ys ds:List PV}{i:Nat}{st₁ st':St}{γ:Type}
theorem aDZ{C:St→List PV→Prop}(q:xs[i]? =none)(e:iB T.g T.t T.m (xs.drop i) st₁=some (rest,st'))(hy:ds++rest=ys)(k:C st₁ ds):C st' ys:=by
 replace e:=(aEI q)▸e
 cases e
 rw [←hy,gK]
 exact k
theorem aGz{b b':Bool}{P Q:Prop}{f g:M γ}{r:γ×St}(e:(match b with | true=>f | false=>g) st₁=some r)(h:b=b')(kt:f st₁=some r→P)(kf:g st₁=some r→Q):if b'=true then P else Q:=by
 subst h
 cases b with
 |false=>exact kf e
 |true=>exact kt e
theorem aJg{y:SV}{f:PV→M γ}{r:γ×St}(e:lH y f st₁=some r){P:Prop}(k:∀ w,y= .pv w→f w st₁=some r→P):P:=by
 cases y with
 |ref=>cases e
 |pv w=>exact k w rfl e
theorem Wa{α:Type}{a b:α}(e:rt a st₁=some (b,st')):b=a∧st₁=st':=by cases e;exact⟨rfl,rfl⟩
end
theorem aEd{T:yN}(O:MF K T){X₀:Xt}{n0:Nat}{it D:Addr}{pi:Nat→Obj→Prop}{ok:Xt→Nat→Prop}{xs ys:List PV}(I:pG K.C it (lG xs) pi ok)(hbig:xs.length≤1000000)(hne:it≠D)(hit0:X₀.W it=none)(hD0:X₀.W D=none)(te ee:Expr)(es:List Expr){Fn:aG→Prop}{E:aB→aG→Prop}
  (hF:∀(z₁:Z K A st') o vs ep,X₀.le n0 z₁.X st'.cells.length→z₁.X.W it=some (.iter o)→z₁.X.W D=some (.iter (bY vs ep))→bO K.C z₁.X ys vs→∀ h' tk,lI it z₁.s.heap h'→Fn {z₁.s with heap:=h',toks:=tk}) (n:Nat) (s:aG) (h:GF K A X₀ n0 it D pi ok xs ys T st' n s):
  aI (aK K.C.prog K.C.w) A (pyNext (.ref it)) (fun r s₁=>match r with
   |none=>Fn s₁
   |some v=>aI (aK K.C.prog K.C.w) A (qY (T.rt te) K.env v) (fun _ s₂=>aI (aK K.C.prog K.C.w) A (Fc (T.ri es) K.env) (fun ok' s₃=>
     if ok'=true then aI (aK K.C.prog K.C.w) A (eval (T.re ee) K.env) (fun x s₄=>aI (aK K.C.prog K.C.w) A (call (.builtin "list.append") [.ref D,x]) (fun _ s₅=>∃ m,m < n∧GF K A X₀ n0 it D pi ok xs ys T st' m s₅) E s₄) E s₃
     else ∃ m,m < n∧GF K A X₀ n0 it D pi ok xs ys T st' m s₃) E s₂) E s₁) E s:=by
 cases h with | mk z₁ i o ds vs ep rest l hW hp hok hD dl hl e hy=>
 have ho:=z₁.R.val _ _ hW
 cases q:xs[i]? with
 |none=>exact vR (I.fin z₁.wd z₁.hA.handled hok ho hp (congrArg some q) fun h' tk ex=>aDZ (C:=fun st' ys=>(∀(z₁:Z K A st') o vs ep,X₀.le n0 z₁.X st'.cells.length→z₁.X.W it=some (.iter o)→z₁.X.W D=some (.iter (bY vs ep))→bO K.C z₁.X ys vs→∀ h' tk,lI it z₁.s.heap h'→Fn {z₁.s with heap:=h',toks:=tk})→Fn {z₁.s with heap:=h',toks:=tk}) q e hy (fun hF=>hF z₁ o vs ep l hW hD dl h' tk ex) hF)
 |some y=>
  have hi:=FE q
  rw [XQ q] at e
  refine vR (I.item z₁.wd hok ho hp (congrArg some q) fun v h' o' tk dv sb ho' hp'=> ?_)
  have lw:∀ n,z₁.X.low n (z₁.X.put it (some (.iter o'))) n:=fun n=>(Tr.put (n:=n) (r:=some (bS.iter o')) z₁.R.val (.inr ⟨o,hW⟩) (rF sb) (rO ho')).low
  refine lE e fun _ st₂ e₁ e₂=>lE e₂ fun b st₃ e₃ e₄=>vR (O.okg te (z₁.put it (some (.iter o')) h' tk (.inr ⟨o,hW⟩) (rF sb) (rO ho')) (bE.mono (lw 0).fro _ _ dv) _ st₂ e₁ _ fun z₃ _ l₃ _=>vR (O.okt es z₃ b st₃ e₃ _ fun z₄ b' l₄ eb=> ?_))
  have L:=(kO (r:=some (.iter o')) l hit0).trans (l₃.t l₄)
  have hW₄:=(l₃.t l₄).iter it o' kR
  have hD₄:=(l₃.t l₄).iter D (bY vs ep) ((iN hne.symm).trans hD)
  have lo:=(lw _).trans (l₃.t l₄).low
  refine aGz e₄ eb (fun e₄=>lE e₄ fun sv st₄ e₅ e₆=>aJg e₆ fun w hw e₆=>lE e₆ fun ys' st₅ e₇ e₈=>vR (O.okm ee z₄ _ st₄ e₅ _ fun z₅ x l₅ dx=> ?_)) fun e₄=>⟨_,Yh q,.mk z₄ (i+1) o' ds vs ep rest L hW₄ hp' (I.mono lo hok) hD₄ (bO.mono lo dl) (GQ hl) e₄ hy⟩
  have hD₅:=l₅.iter _ _ hD₄
  have hoD:=z₅.R.val _ _ hD₅
  have hz:(iU vs).size≤fO:=by rw [hZ,←dl.len];exact aP hl (aP (DA hi) (gH hbig))
  have g:(z₅.s.heap.update D (fX fun xs=>xs.push x)).get? D=some (bY (vs++[x]) _):=(uN _ hoD rfl).trans (congrArg some (Bh (Hg ..)))
  refine mO Gx (qH hoD) F.entry_list_append (F.args_list_append_2 _ _) (Zg _ vs.toArray ep x hz) ⟨hoD,?_⟩
  have sbD:=sE z₅.s.heap D (fX fun xs=>xs.push x)
  have lD:=(Tr.put (n:=st₄.cells.length) (r:=some (.iter (bY (vs++[x]) _))) z₅.R.val (.inr ⟨_,hD₅⟩) (rF sbD) (rO g)).low
  have lo₅:=lo.trans (l₅.low.trans lD)
  exact⟨_,Yh q,.mk (z₅.put D (some (.iter (bY (vs++[x]) _))) _ z₅.s.toks (.inr ⟨_,hD₅⟩) (rF sbD) (rO g)) (i+1) o' (ds++[w]) (vs++[x]) _ ys' (kO (L.trans l₅) hD0) ((iN hne).trans (l₅.iter _ _ hW₄)) hp' (I.mono lo₅ hok) kR
   (aS.app (bO.mono lo₅ dl) (.one (bE.mono lD.fro _ _ (by rw [hw] at dx;exact dx)))) (by rw [fE];exact kZ hl) ((Wa e₈).2▸e₇) (by rw [gJ];exact(congrArg (ds++ ·) (Wa e₈).1).symm.trans hy)⟩
end
noncomputable def Wd.add{C:Cx}{cells:List SO}(y:Wd C cells)(a:Addr)(r:bS)(hn:y.X.W a=none)(hr:gU y.s.heap a r):Wd C cells:=
 ⟨y.X.put a (some r),y.s,(Tr.add (n:=cells.length) (ρ:=y.X.ρ) (δ:=y.X.δ) y.R.val hn (fun _ _ e=>e) hr (cX _) fun _ _=>rfl).relC y.R y.R.still (fun _=>rfl) fun _ _ e=>.inl ⟨e,rfl,rfl⟩⟩
theorem xB{f:Obj→bS}{X:Xt}{ex:bS→Bool}{h:Heap}{a:Addr}(e:X.W a=none):(X.maskR f ex h).W a=none:=by
 show(match X.W a with | some r=>_ | none=>_)=_;rw [e]
section
variable{K:KK}{A:aR}{st st':St}{z:Z K A st}
theorem Z.adFTr(z:Z K A st)(a:Addr)(o:Obj)(hn:z.X.W a=none)(ho:z.s.heap.get? a=some o)(n:Nat):Tr (fun _=>false) z.X z.s.heap n (z.X.put a (some (.fro o))) z.s.heap n:=
 Tr.add (ρ:=z.X.ρ) (δ:=z.X.δ) z.R.val hn (fun _ _ e=>e) ho (cX _) fun _ _=>rfl
noncomputable def Z.adF(z:Z K A st)(a:Addr)(o:Obj)(hn:z.X.W a=none)(ho:z.s.heap.get? a=some o):Z K A st:=
 ⟨z.X.put a (some (.fro o)),z.s,z.hA,(z.adFTr a o hn ho _).rel z.R z.R.still (fun _=>rfl) rfl rfl (fun _=>rfl) fun _ _ e=>.inl ⟨e,rfl,rfl⟩⟩
inductive vT(z:Z K A st)(ys:List PV)(st':St)(D Ca:Addr):aG→Prop
 |mk (z₁:Z K A st) (z₂:Z K A st') (vs:List aB) (ep:Nat) (oC:Obj) (mC:Str→Option aB) (l1:z.le z₁) (hD0:z₁.X.W D=none) (hC0:z₁.X.W Ca=none) (l2:z₁.le z₂) (hD:z₂.X.W D=some (.iter (bY vs ep))) (hC:z₂.X.W Ca=some (.iter oC)) (hne:Ca≠D) (hn:z₂.s.heap.Ns Ca mC) (dl:bO K.C z₂.X ys vs):vT z ys st' D Ca z₂.s
inductive CQ(z:Z K A st)(v:SV)(st':St)(D Ca:Addr):aG→Prop
 |mk (z₁:Z K A st) (z₂:Z K A st') (oC:Obj) (mC:Str→Option aB) (l1:z.le z₁) (hC0:z₁.X.W Ca=none) (l2:z₁.le z₂) (hC:z₂.X.W Ca=some (.iter oC)) (hn:z₂.s.heap.Ns Ca mC) (d:z₂.d dV v (.ref D)):CQ z v st' D Ca z₂.s
theorem sV{h:Heap}{a:Addr}(q:bS)(e:none=some q):gU h a q:=nomatch e
noncomputable def Z.drop(z:Z K A st)(a:Addr){o:Obj}(h:z.X.W a=some (.iter o)):Z K A st:=z.put a none z.s.heap z.s.toks (.inr ⟨o,h⟩) (fun _ _ _ e=>e) sV
theorem Z.dropLow(z:Z K A st)(a:Addr){o:Obj}(h:z.X.W a=some (.iter o))(n:Nat):z.X.low n (z.X.put a none) n:=(Tr.put (r:=none) z.R.val (.inr ⟨o,h⟩) (fun _ _ _ e=>e) (sV (h:=z.s.heap))).low
theorem vT.fro{ys:List PV}{D Ca:Addr}{s:aG}(c:vT z ys st' D Ca s):CQ z (.pv (.lst ys)) st' D Ca s:=by
 cases c with | mk z₁ z₂ vs ep oC mC l1 hD0 hC0 l2 hD hC hne hn dl=>
 have ho:=z₂.R.val _ _ hD
 have T:=(z₂.drop D hD).adFTr D (bY vs ep) kR ho
 have lw:=(z₂.dropLow D hD st'.cells.length).trans (T _).low
 exact .mk z₁ ((z₂.drop D hD).adF D (bY vs ep) kR ho) oC mC l1 hC0 (Xt.le.trans (kO l2 hD0) ((T _).le (fun _=>rfl) fun _=>rfl)) ((iN hne).trans ((iN hne).trans hC)) hn (oI.mk (p:=DenL _ _ ys) D vs ep kR (by rw [iC];exact aS.imp (bE.mono lw.fro) _ _ dl))
theorem vT.cel{ys:List PV}{D Ca:Addr}{s:aG}(c:vT z ys st' D Ca s):CQ z (.ref st'.cells.length) ⟨st'.loc,st'.cells++[.list ys]⟩ D Ca s:=by
 cases c with | mk z₁ z₂ vs ep oC mC l1 hD0 hC0 l2 hD hC hne hn dl=>
 have ho:=z₂.R.val _ _ hD
 have T:=(z₂.drop D hD).adTr D kR ⟨_,ho⟩ (.list ys)
 have lw:=(z₂.dropLow D hD st'.cells.length).trans T.low
 exact .mk z₁ ((z₂.drop D hD).adC D kR ⟨_,ho⟩ (.list ys) (Ij (z:=z₂.drop D hD) ho (.mk vs ep (bO.mono lw dl)))) oC mC l1 hC0 (Xt.le.trans (kO l2 hD0) (T.le (fun _=>rfl) fun _=>rfl)) ((HK hne).trans ((iN hne).trans hC)) hn ⟨by show _ < (st'.cells++[_]).length;rw [xA];exact xY _,congrArg qB pX.symm⟩
theorem aGB{cap:List (Option Nat)}{k:M (List PV)}{ys:List PV}(e:ES cap k st=some (ys,st')):∃ st₂,k ⟨pO cap st.loc,st.cells⟩=some (ys,st₂)∧st'=⟨st.loc,st₂.cells⟩:=by
 unfold ES at e
 cases q:k ⟨pO cap st.loc,st.cells⟩ with
 |none=>rw [q] at e;cases e
 |some r=>rw [q] at e;cases e;exact⟨r.2,rfl,rfl⟩
theorem aDX{f:St→SV→Option (List PV)}{cap:List (Option Nat)}{g:PV→M Unit}{t:M Bool}{m:M SV}{a:SV}{ys:List PV}(e:BA f cap g t m a st=some (ys,st')){P:Prop}(k:∀ xs st₂,f st a=some xs→xs.length≤1000000→iB g t m xs ⟨pO cap st.loc,st.cells⟩=some (ys,st₂)→st'=⟨st.loc,st₂.cells⟩→P):P:=by
 have e:(match f st a with | some xs=>dM xs.length (ES cap (iB g t m xs)) st | none=>none)=some (ys,st'):=e
 cases q:f st a with
 |none=>rw [q] at e;cases e
 |some xs=>
  rw [q] at e
  exact Of e fun hz e=>(aGB e).elim fun st₂ e=>k xs st₂ q (of_decide_eq_true hz) e.1 e.2
noncomputable abbrev ER(K:KK)(nms:aL)(cenv:Env):KK:=⟨K.C,K.n,pR nms,cenv⟩
noncomputable def Kz(K:KK)(A:aR)(e:Expr)(nms:aL)(use:Option (aB→Sem Unit))(x:aB):WP aB:=fun Q s₁=>aI (aK K.C.prog K.C.w) A (pyIter x) (fun it s₂=>aI (aK K.C.prog K.C.w) A (newList []) (fun acc s₃=>aI (aK K.C.prog K.C.w) A (newFunctionEnv (jS nms) K.env.globals (vB K.env.cells nms []) [] K.env.qual none .none (some K.env)) (fun cenv s₄=>
 codeAny (aK K.C.prog K.C.w) A (.compStart e 0 it acc {cenv with scope:=relabel (jS nms) K.env}) (compPost (aK K.C.prog K.C.w) A nE use Q acc cenv.locals) s₄) nE s₃) nE s₂) nE s₁
inductive Zk(z:Z K A st)(nms:aL)(cap:List (Option Nat))(it D Ca:Addr)(o:Obj):Prop where
 |mk (zc:Z (ER K nms (compEnvC (jS nms) (vB K.env.cells nms []) Ca K.env)) A ⟨pO cap st.loc,st.cells⟩) (es:zc.s=z.s) (le:z.hold.X.le st.cells.length zc.X st.cells.length) (hit:zc.X.W it=some (.iter o)) (hD:zc.X.W D=some (.iter (bY [] 0)))
theorem aEb{nms:aL}{cap:List (Option Nat)}(h:nH K.sl cap nms=true){it D Ca:Addr}{o:Obj}(h1:it≠D)(h2:it≠Ca)(h3:Ca≠D)(w1:z.X.W it=none)(w2:z.X.W D=none)(w3:z.X.W Ca=none)(o1:z.s.heap.get? it=some o)(o2:z.s.heap.get? D=some (bY [] 0))(o3:z.s.heap.Ns Ca fun _=>none):Zk z nms cap it D Ca o:=by
 have v1:z.hold.X.W it=none:=xB w1
 have v2:(z.hold.X.put it (some (.iter o))).W D=none:=(iN h1.symm).trans (xB w2)
 have v3:((z.hold.X.put it (some (.iter o))).put D (some (.iter (bY [] 0)))).W Ca=none:=(iN h3).trans ((iN h2.symm).trans (xB w3))
 have l0:z.hold.X.le st.cells.length (((z.hold.X.put it (some (.iter o))).put D (some (.iter (bY [] 0)))).put Ca (some .frame)) st.cells.length:=kO (kO (kO (.refl ..) v1) (xB w2)) (xB w3)
 exact⟨⟨_,z.s,z.hA,⟨(((z.hold.add it (.iter o) v1 o1).add D (.iter (bY [] 0)) v2 o2).add Ca .frame v3 (let⟨o,_,_,q,_⟩:=o3;⟨o,q⟩)).R,aEa h kR o3 l0 fun _ _ e=>e⟩⟩,rfl,l0,(iN h2).trans ((iN h1).trans kR),(iN h3.symm).trans kR⟩
theorem Tr.unframe{X:Xt}{h:Heap}{n:Nat}{a:Addr}{o:Obj}(v:∀ a r,X.W a=some r→gU h a r)(hW:X.W a=some .frame)(ho:h.get? a=some o):Tr XW X h n (X.put a (some (.iter o))) h n:=by
 have ne:∀ {b r},X.W b=some r→XW r=false→b≠a:=fun {b r} e q c=>by rw [c,hW] at e;cases e;cases q
 refine⟨⟨fun b p e=>(iN (ne e rfl)).trans e,fun _ _=>rfl,cX _⟩,fun b r e q=>⟨(iN (ne e q)).trans e,rfl⟩,fun b r e=> ?_⟩
 by_cases c:b=a
 ·rw [c,kR] at e;cases e;rw [c];exact .inr ho
 ·rw [iN c] at e;exact .inr (v b r e)
theorem aEc{nms:aL}{cenv:Env}{it D Ca:Addr}{ys:List PV}{z₀:Z K A st}{st₂:St}(l0:z₀.le z)(hl:cenv.locals=Ca)(h1:it≠D)(h2:it≠Ca)(h3:Ca≠D)(w1:z.X.W it=none)(w2:z.X.W D=none)(w3:z.X.W Ca=none)
  (z₁:Z (ER K nms cenv) A st₂) {o:Obj} {vs:List aB} {ep:Nat} (l:z.hold.X.le st.cells.length z₁.X st₂.cells.length) (hW:z₁.X.W it=some (.iter o)) (hD:z₁.X.W D=some (.iter (bY vs ep))) (dl:bO K.C z₁.X ys vs) (h':Heap) (tk:Nat) (ex:lI it z₁.s.heap h'):vT z₀ ys ⟨st.loc,st₂.cells⟩ D Ca {z₁.s with heap:=h',toks:=tk}:=by
 subst hl
 have T1:=Tr.put (n:=st₂.cells.length) (r:=none) z₁.R.val (.inr ⟨o,hW⟩) ex sV
 have R2:=(z₁.put it none h' tk (.inr ⟨o,hW⟩) ex sV).R
 obtain⟨mC,hn,_⟩:=R2.fr.ns
 obtain⟨oC,hoC⟩:∃ oC,h'.get? cenv.locals=some oC:=let⟨o,_,_,q,_⟩:=hn;⟨o,q⟩
 have T2:=Tr.unframe (n:=st₂.cells.length) R2.val R2.fr.nsW hoC
 have le':z.hold.X.le st.cells.length ((z₁.X.put it none).put cenv.locals (some (.iter oC))) st₂.cells.length:=kO (kO l (xB w1)) (xB w3)
 have Y:∀(y:Wd K.C st₂.cells) (le:z.hold.X.le st.cells.length y.X st₂.cells.length),y.X=(z₁.X.put it none).put cenv.locals (some (.iter oC))→y.s= {z₁.s with heap:=h',toks:=tk}→vT z₀ ys ⟨st.loc,st₂.cells⟩ D cenv.locals y.s:=fun y le e1 e2=>by
  have back:∀ {a p},z.X.W a=none→y.X.W a=some (.iter p)→(z.backX y).W a=some (.iter p):=fun w q=>Fp rfl q fun p ep=>by rw [w] at ep;cases ep
  exact .mk z (z.back y le) vs ep oC mC l0 w2 w3 ((z.backTr y le).le (fun _=>rfl) fun _=>rfl) (back w2 (by rw [e1];exact(iN h3.symm).trans ((iN h1.symm).trans hD))) (back w3 (by rw [e1];exact kR)) h3 (show y.s.heap.Ns _ _ by rw [e2];exact hn) (bO.mono (z.backLow y le) (by rw [e1];exact bO.mono (T1.low.trans T2.low) dl))
 exact Y ⟨_,_,T2.relC R2.toRelC R2.still (fun _=>rfl) fun _ _ e=>.inl ⟨e,rfl,rfl⟩⟩ le' rfl rfl
theorem Ou{T:yN}{f:St→SV→Option (List PV)}{a:SV}{x:aB}{nms:aL}{cap:List (Option Nat)}{ys:List PV}(h:nH K.sl cap nms=true)(O:∀ cenv,MF (ER K nms cenv) T)(hf:jY K f)(dx:z.d dV a x)(e:BA f cap T.g T.t T.m a st=some (ys,st'))(te ie ee:Expr)(es:List Expr)(pos:Pos){use:Option (aB→Sem Unit)}{Q:aB→aG→Prop}
  (hq:∀ D Ca s,vT z ys st' D Ca s→compPost (aK K.C.prog K.C.w) A nE use Q (.ref D) Ca (.ok .next) s):Kz K A (.ListComp (T.re ee) [⟨T.rt te,ie,T.ri es,0⟩] (jS nms) pos) nms use x Q z.s:=by
 refine aDX e fun xs st₂ qf hz qP est=> ?_
 subst est
 refine hf z qf dx _ fun z₁ it o pi ok l hit ho I hp hok=>FY (wpAny_newFunctionEnv (fun p hp q=> ?_) (fun _ h=>nomatch h) (fun h₁ hns hsb=> ?_) rfl)
 ·obtain⟨i,hi⟩:=List.mem_iff_getElem?.mp hp
  obtain⟨c,_,q'⟩:=NI nms (DT h).2 hi
  unfold HR at q';rw [q] at q';cases q'
 have hlt:=mI ho
 have hCa:(z₁.s.heap.push (bY [] 0)).objs.size=sz z₁+1:=Heap.size_push ..
 have g:∀ b o,(z₁.s.heap.push (bY [] 0)).get? b=some o→h₁.get? b=some o:=fun b o q=>hsb.extBut b o (qR (mI q)) (gR _ q)
 have h1:it≠sz z₁:=qR hlt
 have h2:it≠(z₁.s.heap.push (bY [] 0)).objs.size:=by rw [hCa];exact qR (Nat.lt_succ_of_lt hlt)
 have h3:(z₁.s.heap.push (bY [] 0)).objs.size≠sz z₁:=by rw [hCa];exact TP _
 have w2:z₁.X.W (sz z₁)=none:=z₁.R.fresh (cX _)
 have w3:z₁.X.W (z₁.s.heap.push (bY [] 0)).objs.size=none:=z₁.R.fresh (by rw [hCa];exact oE _)
 have g0:∀ b o,z₁.s.heap.get? b=some o→h₁.get? b=some o:=fun b o q=>g b o (gR _ q)
 let zt:Z K A st:=z₁.to {z₁.s with heap:=h₁,toks:=z₁.s.toks+0} (z₁.R.still.to _ _) g0
 obtain⟨zc,ces,cle,chit,chD⟩:=aEb (z:=zt) h h1 h2 h3 hit w2 w3 (g0 _ _ ho) (g _ _ (nY _ rfl)) hns
 have low:zt.X.low st.cells.length zc.X st.cells.length:=zt.holdLow.trans cle.low
 have start:GF (ER K nms _) A _ st.cells.length it (sz z₁) pi ok xs ys T st₂ (xs.drop 0).length zc.s:=.mk zc 0 o [] [] 0 ys cle chit hp (I.mono low hok) chD rfl (cX _) qP rfl
 rw [ces] at start
 have loop:=codeAny_compLoop_tests (target:=T.rt te) (iter:=ie) (scope:=jS nms) (pos:=pos) (R:=compPost (aK K.C.prog K.C.w) A nE use Q (.ref (sz z₁)) _) _ (fun n s hs=>aEd (O _) I hz h1 (xB hit) (xB w2) te ee es (fun z₂ o' vs ep le hW hD dl h' tk ex=>hq _ _ _ (aEc (z:=zt) (cenv:=compEnvC (jS nms) (vB K.env.cells nms []) (z₁.s.heap.push (bY [] 0)).objs.size K.env) l rfl h1 h2 h3 hit w2 w3 z₂ le hW hD dl h' tk ex)) n s hs) _ start ((O default).lets te _)
 exact codeAny_compStart_list loop (vR (I.self (g0 _ _ ho) hp loop))
end
noncomputable def Ze:Expr→Expr×List SI
 |.ListComp e gs _ _=>(e,gs)
 |_=>(dR [],[])
noncomputable def hdC:List SI→SI
 |g::_=>g
 | []=>⟨dR [],dR [],[],0⟩
noncomputable def xce(e:Expr):Expr:=(Ze e).1
noncomputable def Gj(e:Expr):SI:=hdC (Ze e).2
section
variable{K:KK}{A:aR}{st st':St}{z:Z K A st}{nms:aL}{cap:List (Option Nat)}
theorem aIP(h:nH K.sl cap nms=true)(p:Str×pI)(hp:p∈nms)(hk:p.2= .local):nms.lookup p.1=some .local:=by
 obtain⟨i,hi⟩:=List.mem_iff_getElem?.mp hp
 have F:tN (pR nms) {scope:=jS (pR nms),locals:=0,globals:=jU,cells:=[],builtins:=wL}:=⟨(DT h).1,rfl,rfl,rfl,fun q=>nomatch q⟩
 have hn:=F.facts.2.1
 unfold pR at hn
 rw [iT] at hn
 exact hk▸Bc hn hi
theorem aDJ(h:nH K.sl cap nms=true)(z:Z K A st):closureFor (jS nms) K.env=pure (vB K.env.cells nms []):=aDK fun x hx=>by
 obtain⟨i,j,_,_,hj⟩:=Kh (DT h).2 hx
 obtain⟨c,v₀,a,_⟩:=z.R.fr.cell j x hj
 rw [a];rfl
noncomputable def GN(K:KK)(k:List PV→M SV):Prop:=∀ {A:aR} {st:St} {z:Z K A st} {ys:List PV} {st' st'':St} {v:SV} {D Ca:Addr} {s:aG},k ys st'=some (v,st'')→vT z ys st' D Ca s→CQ z v st'' D Ca s
theorem YX:GN K fun ys=>rt (.pv (.lst ys)):=fun e c=>by cases e;exact c.fro
theorem YY:GN K fun ys st=>some (.ref st.cells.length,⟨st.loc,st.cells++[.list ys]⟩):=fun e c=>by cases e;exact c.cel
theorem aFv(c:CQ z v st' D Ca s)(q:∀(z':Z K A st') x,z.le z'→z'.d dV v x→Q x z'.s):compPost (aK K.C.prog K.C.w) A nE none Q (.ref D) Ca (.ok .next) s:=by
 cases c with | mk z₁ z₂ oC mC l1 hC0 l2 hC hn d=>
 refine⟨mC,hn,fun h' sb=>q (z₂.put Ca none h' z₂.s.toks (.inr ⟨oC,hC⟩) (rF sb) sV) _ (Xt.le.trans l1 (kO l2 hC0)) (fG.mono (Tr.put z₂.R.val (.inr ⟨oC,hC⟩) (rF sb) sV).low _ _ d)⟩
theorem aFw(c:CQ z v st' D Ca s)(hs:lM K i)(q:∀(z':Z K A ⟨st'.loc.set i (some v),st'.cells⟩),z.le z'→Q z'.s):compPost (aK K.C.prog K.C.w) A nE (some (qY (.Name (nm K.sl i) p) K.env)) (fun _=>Q) (.ref D) Ca (.ok .next) s:=by
 cases c with | mk z₁ z₂ oC mC l1 hC0 l2 hC hn d=>
 refine OU hs d (fun Q h=>Yv h) () _ rfl _ fun z₃ _ l₃ _=> ?_
 have hC₃:=l₃.iter _ _ hC
 refine⟨mC,Bz ((z₃.R.val _ _ hC₃:_=some _).trans (z₂.R.val _ _ hC:_=some _).symm) hn,fun h' sb=>q (z₃.put Ca none h' z₃.s.toks (.inr ⟨oC,hC₃⟩) (rF sb) sV) (Xt.le.trans l1 (kO (l2.t l₃) hC0))⟩
theorem Le(h:nH K.sl cap nms=true)(a:PE K)(z:Z K A st)(q:K.wp A (eval (a.r ie) K.env) (fun x s=>Kz K A (.ListComp ee [⟨te,a.r ie,es,0⟩] (jS nms) pos) nms use x Q s) z.s):aI (aK K.C.prog K.C.w) A (comprehension (.ListComp ee [⟨te,a.r ie,es,0⟩] (jS nms) pos) (jS nms) K.env p (newList []) false (eval (a.r ie) K.env) use) Q nE z.s:=
 wpAny_comprehension_free rfl (ON (a.hc _)) (aDJ h z) rfl (fun x hx hl=>aIP h x hx hl) q
noncomputable def XH(k:List PV→M SV)(f:St→SV→Option (List PV))(src:M SV)(cap:List (Option Nat))(g:PV→M Unit)(t:M Bool)(m:M SV):M SV:=bd src fun a=>bd (BA f cap g t m a) k
noncomputable abbrev sI(K:KK)(nms:aL):=∀ cenv,PI (ER K nms cenv)
noncomputable def sI.T(I:sI K nms):yN:=(I default).T
noncomputable abbrev Dp(a:PE K)(T:yN)(nms:aL)(e:Expr)(pos:Pos):Expr:=.ListComp (T.re (xce e)) [⟨T.rt (Gj e).target,a.r (Gj e).iter,T.ri (Gj e).ifs,0⟩] (jS nms) pos
theorem Gz{I:sI K nms}(hI:∀ cenv,(I cenv).T=I.T)(cenv:Env):MF (ER K nms cenv) I.T:=hI cenv▸(I cenv).ok
noncomputable def UB(hk:GN K k)(hf:jY K f)(nms:aL)(cap:List (Option Nat))(a:PE K)(I:sI K nms)(h:nH K.sl cap nms=true)(hI:∀ cenv,(I cenv).T=I.T):PE K:=
 ⟨XH k f a.m cap I.T.g I.T.t I.T.m,fun e=>Dp a I.T nms e e.pos,0,fun _=>rfl,fun e A st z=>(a.ok _ z).ru (fun Q q=>by rw [KK.wp,eval_ListComp];exact Le h a z q) fun z₁ l₁ dx v st' e' Q q=>
  lE e' fun ys st₂ e₁ e₂=>Ou h (Gz hI) hf dx e₁ _ _ _ _ _ fun D Ca s c=>aFv (hk e₂ c) q⟩
noncomputable def mZ(hf:jY K f)(nms:aL)(cap:List (Option Nat))(a:PE K)(I:sI K nms)(h:nH K.sl cap nms=true:=by rfl)(hI:∀ cenv,(I cenv).T=I.T:=by intro _;rfl):PE K:=UB YX hf nms cap a I h hI
noncomputable def aAx(hf:jY K f)(nms:aL)(cap:List (Option Nat))(a:PE K)(I:sI K nms)(h:nH K.sl cap nms=true:=by rfl)(hI:∀ cenv,(I cenv).T=I.T:=by intro _;rfl):PE K:=UB YY hf nms cap a I h hI
noncomputable def xQ(sl:aL)(i:Nat)(nms:aL):Bool:=match eH sl i .local with
 |true=> !(nms.any fun p=>p.1==nm sl i && (p.2== .local || p.2== .cell))
 |false=>false
theorem Xp(q:lM K i)(z:Z K A st){pos p:Pos}:FV (.ListComp ee gs (jS nms) pos) (some (.Name (nm K.sl i) {p with line:=pos.line})) l K.env=pure (xQ K.sl i nms):=by
 have F:=z.R.fr.st
 show pure (K.env.blockKind== .function && K.env.kindOf (nm K.sl i)==some .local && pos.line==pos.line && !(nms.any _))=pure _
 rw [beq_self_eq_true,Bool.and_true,show K.env.blockKind= .function from by unfold Env.blockKind;rw [F.kind];rfl]
 unfold xQ
 rcases q with q | ⟨q,_⟩
 ·rw [F.kinds (kC q),q];rfl
 ·refine(F.kinds (kC q)).symm▸?_
  cases c:eH K.sl i .local with
  |false=>rfl
  |true=>have:=(kC q).symm.trans (kC c);cases this
noncomputable def We(t:Stmt):Pos:={(yT t).pos with line:=(yE t).pos.line}
theorem aQC(qs:lM K i)(hs:xQ K.sl i nms=true)(z:Z K A st){pos p tp:Pos}
  (q:aI (aK K.C.prog K.C.w) A (comprehension (.ListComp ee gs (jS nms) pos) (jS nms) K.env (firstIterPos gs pos) (newList []) (firstAsync gs) (firstIter gs K.env) (some (qY (.Name (nm K.sl i) {p with line:=pos.line}) K.env))) (fun _=>Q .next) nE z.s):K.wp A (exec (.Assign [.Name (nm K.sl i) {p with line:=pos.line}] (.ListComp ee gs (jS nms) pos) tp) K.env) Q z.s:=by
 refine(exec_Assign_Name_used _ _ _ _ ((Xp qs z).trans (congrArg pure hs))).symm▸?_
 exact aF (Gh (aF (aF (fT q fun _ _ h=>bF (bF h)))))
noncomputable def Hr(hk:GN K k)(i:Nat)(qs:lM K i)(hf:jY K f)(nms:aL)(cap:List (Option Nat))(a:PE K)(I:sI K nms)(h:nH K.sl cap nms=true)(hI:∀ cenv,(I cenv).T=I.T)(hs:xQ K.sl i nms=true):P1 K:=
 ⟨bd (XH k f a.m cap I.T.g I.T.t I.T.m) fun v=>bd (sZ i v) fun _=>rt .next,fun t=>.Assign [.Name (nm K.sl i) (We t)] (Dp a I.T nms (yE t) (yE t).pos) t.pos,fun t A st z fl st' e Q q=>by
  refine lE e fun v st₂ e₁ e₂=>lE e₁ fun x st₁ e₃ e₄=>lE e₄ fun ys st₃ e₅ e₆=> ?_
  refine aQC qs hs z (Le h a z ((a.ok _ z) _ _ e₃ _ fun z₁ x l₁ dx=>Ou h (Gz hI) hf dx e₅ _ _ _ _ _ fun D Ca s c=>aFw (Q:=Q .next) (hk e₆ c) qs fun z' l=> ?_))
  cases e₂
  exact q z' .next (l₁.t l) rfl⟩
noncomputable def TY(i:Nat)(q:lM K i)(hf:jY K f)(nms:aL)(cap:List (Option Nat))(a:PE K)(I:sI K nms)(h:nH K.sl cap nms=true:=by rfl)(hI:∀ cenv,(I cenv).T=I.T:=by intro _;rfl)(hs:xQ K.sl i nms=true:=by rfl):P1 K:=Hr YX i q hf nms cap a I h hI hs
noncomputable def aAs(i:Nat)(q:lM K i)(hf:jY K f)(nms:aL)(cap:List (Option Nat))(a:PE K)(I:sI K nms)(h:nH K.sl cap nms=true:=by rfl)(hI:∀ cenv,(I cenv).T=I.T:=by intro _;rfl)(hs:xQ K.sl i nms=true:=by rfl):P1 K:=Hr YY i q hf nms cap a I h hI hs
noncomputable def Hs(hk:GN K k)(i:Nat)(q:lM K i)(hf:jY K f)(nms:aL)(cap:List (Option Nat))(a:PE K)(I:sI K nms)(h:nH K.sl cap nms=true)(hI:∀ cenv,(I cenv).T=I.T)(hs:xQ K.sl i nms=false):P1 K:=
 ⟨bd (XH k f a.m cap I.T.g I.T.t I.T.m) fun v=>bd (sZ i v) fun _=>rt .next,fun t=>.Assign [.Name (nm K.sl i) (We t)] (Dp a I.T nms (yE t) (yE t).pos) t.pos,
  fun t _ _ z=>((UB hk hf nms cap a I h hI).ok (yE t) z).ru (u:=fun x Q=>K.wp _ (storeName K.env (nm K.sl i) x) fun _=>Q .next) (fun Q k=>wpAny_Assign_Name k ((Xp q z).trans (congrArg pure hs))) fun z₁ l₁ dx=>IU q dx (rfl:dF _ _ _ Fl.next Flow.next) fun Q k=>k⟩
noncomputable def aQI(i:Nat)(q:lM K i)(hf:jY K f)(nms:aL)(cap:List (Option Nat))(a:PE K)(I:sI K nms)(h:nH K.sl cap nms=true:=by rfl)(hI:∀ cenv,(I cenv).T=I.T:=by intro _;rfl)(hs:xQ K.sl i nms=false:=by rfl):P1 K:=Hs YX i q hf nms cap a I h hI hs
noncomputable def aQJ(i:Nat)(q:lM K i)(hf:jY K f)(nms:aL)(cap:List (Option Nat))(a:PE K)(I:sI K nms)(h:nH K.sl cap nms=true:=by rfl)(hI:∀ cenv,(I cenv).T=I.T:=by intro _;rfl)(hs:xQ K.sl i nms=false:=by rfl):P1 K:=Hs YY i q hf nms cap a I h hI hs
end
section
set_option tactic.hygienic true
noncomputable def nM:List Nat→List Nat→Bool
 | [],[]=>false
 | [],_::_=>true
 |_::_,[]=>false
 |x::xs,y::ys=>match bV x y with
  |true=>true
  |false=>match bV y x with
   |true=>false
   |false=>nM xs ys
theorem Rx:∀(b c:List UInt8),Builtin.Bytes.holds "__lt__" (RY b c)=nM (b.map cH) (c.map cH)
 | [],[]=>rfl
 | [],_::_=>rfl
 |_::_,[]=>rfl
 |x::xs,y::ys=>by
  rw [iS,iS,nM,RY]
  have e1:(x < y)↔bV x.toNat y.toNat=true:=by rw [Nat.blt_eq];exact VR
  have e2:(x > y)↔bV y.toNat x.toNat=true:=by rw [Nat.blt_eq];exact VR
  by_cases h:x < y
  ·rw [if_pos h,e1.mp h];rfl
  ·rw [if_neg h,(LL _).mp fun q=>h (e1.mpr q)]
   by_cases g:x > y
   ·rw [if_pos g,e2.mp g];rfl
   ·rw [if_neg g,(LL _).mp fun q=>g (e2.mpr q)]
    exact Rx xs ys
section
variable{prog:hO}{w:dW}{A:aR}{E:aB→aG→Prop}{s:aG}
theorem Wx:Slot "bytes" "__lt__" "bytes.__lt__":=
 .of (owner:="bytes") (n:="__lt__") (by rw [mH,lR];kernel_rfl) (by kernel_rfl) (by decide+kernel) (by decide+kernel)
  (by first | exact .inl (by kernel_rfl) | exact .inr (by decide+kernel)) (by rw [qE];kernel_rfl)
theorem aEV:rE table "bytes.__lt__"=some Builtin.«bytes.__lt__»:=wU (by kernel_rfl)
theorem aBh(a b:aB):lQ "bytes.__lt__" ⟨[a,b],[]⟩:=by unfold lQ;kernel_rfl
theorem aBT:isSubtype (.type "bytes") (.type "bytes")=pure true:=by rw [qE];kernel_rfl
theorem aDz(h:Q (.bool (nM (b.toList.map cH) (c.toList.map cH))) s):
  aI (aK prog w) A (call (.builtin "bytes.__lt__") [.bytes b t,.bytes c u]) Q E s:=by
 refine RM Wx (iE s b t) aEV ?_ (aBh _ _)
 have h1:=aBT
 rw [←Rx] at h
 obtain⟨hp,g,d,tk,os⟩:=s
 wp_walk
 exact⟨_,rfl,h⟩
theorem Tv(h:Q (nM (b.toList.map cH) (c.toList.map cH)) s):aI (aK prog w) A (oneLt' true (.bytes b t) (.bytes c u)) Q E s:=by
 rw [oneLt'_eq]
 refine aF (wpAny_cRoomFor_byValue rfl ?_)
 refine aF (wpAny_callSpecialIfBound?_slot (iE s b t) Wx (aDz ?_))
 exact uI h
noncomputable def uB{α:Type}(lt:Nat→Nat→Option Bool):KasT α→Option α
 |.ret a=>some a
 |.ask i j k=>match lt i j with
  |some b=>uB lt (k b)
  |none=>none
theorem An{α:Type}{I:aG→Prop}(hc:∀ i j b C s,lt i j=some b→I s→(∀ s',I s'→C b s')→cmp i j C s){Q:α→aG→Prop}:
  ∀ {t:KasT α} {a:α} {s:aG},uB lt t=some a→I s→(∀ s',I s'→Q a s')→t.kasWp cmp Q s
 |.ret a,b,s,h,hi,hq=>by
  cases h;exact hq s hi
 |.ask i j k,b,s,h,hi,hq=>by
  unfold uB at h
  split at h
  ·rename_i c q
   exact hc i j c _ s q hi fun s' hi'=>An hc h hi' hq
  ·cases h
theorem aOA{a:Addr}{n:Nat}{vs:List aB}{κ:SortKind}(ho:s.heap.get? a=some (fN "list" vs.toArray n))(h2:2≤vs.length)(h64:vs.length < 64)
  (hkind:∀(s':aG) (Q:SortKind→aG→Prop),lI a s.heap s'.heap→Q κ s'→aI (aK prog w) A (keyKind' vs.toArray) Q (fun _ _=>False) s')
  (hlt:∀(s':aG) (i j:Nat) (b:Bool) (C:Bool→aG→Prop),lt i j=some b→lI a s.heap s'.heap→C b s'→aI (aK prog w) A (keyLt' κ (vs.getD i Value.none) (vs.getD j Value.none)) C (fun _ _=>False) s')
  (hrun:uB lt (wZ vs.length)=some p)
  (h:∀ h' c,lI a s.heap h'→h'.get? a=some (fN "list" (iU (p.toList.map fun i=>vs.getD i Value.none)) c)→P (.done (.ret .none)) {s with heap:=h'}):
  aI (aK prog w) A (Builtin.«list.sort» ⟨[.ref a],[]⟩) P E s:=by
 have ha:a < s.heap.objs.size:=mI ho
 have s1:=sE s.heap a (fX fun _=>(#[]:Array aB))
 obtain⟨e1,ho1⟩:∃ e1,(s.heap.update a (fX fun _=>(#[]:Array aB))).get? a=some (fN "list" #[] e1):=⟨_,IP ho fun _=>#[]⟩
 generalize hH:((s.heap.update a (fX fun _=>(#[]:Array aB))).push (fN "tuple" vs.toArray 0)).push (fN "list" #[] 0)=H3
 have ext3:lI a s.heap H3:=fun b x hb e=>by
  refine(hH)▸?_
  exact gR _ (gR _ ((s1.2 b hb).trans e))
 have na3:H3.get? a=some (fN "list" #[] e1):=by
  rw [←hH];exact gR _ (gR _ ho1)
 rw [list_sort_plain]
 refine aF (listItems_at ho rfl ?_)
 refine aF (BW ho rfl ?_ (vK h64) (jP _))
 refine aF (KQ ho1 rfl ?_)
 refine aF (wpAny_newTuple ?_ (vK h64))
 refine aF (RO ?_ (jP _))
 refine pD ?_
 show aI (aK prog w) A _ P E {s with heap:=((s.heap.update a (fX fun _=>(#[]:Array aB))).push (fN "tuple" vs.toArray 0)).push (fN "list" #[] 0)}
 refine(hH).symm▸?_
 have hn2:¬vs.toArray.size < 2:=Nat.not_lt.mpr h2
 rw [if_neg hn2,if_neg hn2]
 refine aF (nQ (hkind {s with heap:=H3} (fun κ' s'=>κ'=κ∧s'= {s with heap:=H3}) ext3 ⟨rfl,rfl⟩) (fun κ' s' hk=> ?_) fun _ _ x=>x.elim)
 obtain⟨rfl,rfl⟩:=hk
 have ask:(wZ vs.length).kasWp (kas_ask prog w A κ' vs) (fun q s'=>q=p∧s'= {s with heap:=H3}) {s with heap:=H3}:=
  An (I:=fun s'=>s'= {s with heap:=H3}) (fun i j b C s' hb hs hC=>by
   subst hs
   exact hlt _ i j b C hb ext3 (hC _ rfl)) hrun rfl fun s' hs=>⟨rfl,hs⟩
 refine aF (nQ (kat_run (Q:=fun st' s'=>∃ q:Array Nat,q.size=vs.length∧arrOf st'=q.map (kas_item (vs.toArray.zip vs.toArray))∧failedOf st'=none∧q=p∧s'= {s with heap:=H3})
  rfl h2 h64 (fun p' st' s' a1 a2 a3 a4=>⟨p',a1,a2,a3,a4⟩) ask) ?_ fun _ _ e=>e)
 rintro⟨⟨⟩,st'⟩ s' ⟨q,hp,har,hf,rfl,rfl⟩
 dsimp only
 have hout:=kat_snds rfl har
 have hsz:(iU (q.toList.map fun i=>vs.getD i Value.none)).size=vs.length:=by rw [hZ,bQ,pY,hp]
 refine(hout).symm▸?_
 have s2:=sE H3 a (fX fun _=>iU (q.toList.map fun i=>vs.getD i Value.none))
 obtain⟨c2,hc2⟩:∃ c2,(H3.update a (fX fun _=>iU (q.toList.map fun i=>vs.getD i Value.none))).get? a=some (fN "list" (iU (q.toList.map fun i=>vs.getD i Value.none)) c2):=⟨_,IP na3 fun _=>iU (q.toList.map fun i=>vs.getD i Value.none)⟩
 refine aF (KQ na3 rfl ?_)
 refine aF (BW na3 rfl ?_ (jP _) (aP (dQ hsz) (GQ (vK h64))))
 refine(hf).symm▸?_
 simp only [bne_self_eq_false,GC,if_false]
 exact bF (h _ c2 (fun b x hb e=>(s2.2 b hb).trans (ext3 b x hb e)) hc2)
theorem aOC{vs:List aB}(ho:s.heap.get? a=some (fN "list" vs.toArray n))(h2:vs.length < 2)
  (h:∀ h' c,lI a s.heap h'→h'.get? a=some (fN "list" vs.toArray c)→P (.done (.ret .none)) {s with heap:=h'}):
  aI (aK prog w) A (Builtin.«list.sort» ⟨[.ref a],[]⟩) P E s:=by
 have ha:a < s.heap.objs.size:=mI ho
 have s1:=sE s.heap a (fX fun _=>(#[]:Array aB))
 obtain⟨e1,ho1⟩:∃ e1,(s.heap.update a (fX fun _=>(#[]:Array aB))).get? a=some (fN "list" #[] e1):=⟨_,IP ho fun _=>#[]⟩
 generalize hH:((s.heap.update a (fX fun _=>(#[]:Array aB))).push (fN "tuple" vs.toArray 0)).push (fN "list" #[] 0)=H3
 have ext3:lI a s.heap H3:=fun b x hb e=>by
  refine(hH)▸?_
  exact gR _ (gR _ ((s1.2 b hb).trans e))
 have na3:H3.get? a=some (fN "list" #[] e1):=by
  rw [←hH];exact gR _ (gR _ ho1)
 rw [list_sort_plain]
 refine aF (listItems_at ho rfl ?_)
 refine aF (BW ho rfl ?_ (Be h2) (jP _))
 refine aF (KQ ho1 rfl ?_)
 refine aF (wpAny_newTuple ?_ (Be h2))
 refine aF (RO ?_ (jP _))
 refine pD ?_
 show aI (aK prog w) A _ P E {s with heap:=((s.heap.update a (fX fun _=>(#[]:Array aB))).push (fN "tuple" vs.toArray 0)).push (fN "list" #[] 0)}
 refine(hH).symm▸?_
 dsimp only
 have hn2:vs.toArray.size < 2:=h2
 rw [if_pos hn2,if_pos hn2]
 refine aF (bF ?_)
 rw [StateT.run_pure]
 refine aF (bF ?_)
 dsimp only
 have hout:(arrOf (SortSt.mk' general' (vs.toArray.zip vs.toArray) #[] 7 none)).map (·.2)=vs.toArray:=by
  show(vs.toArray.zip vs.toArray).map (·.2)=vs.toArray
  apply Array.toList_inj.mp
  simp [List.map_snd_zip]
 refine(hout).symm▸?_
 have s2:=sE H3 a (fX fun _=>vs.toArray)
 obtain⟨c2,hc2⟩:∃ c2,(H3.update a (fX fun _=>vs.toArray)).get? a=some (fN "list" vs.toArray c2):=⟨_,IP na3 fun _=>vs.toArray⟩
 refine aF (KQ na3 rfl ?_)
 refine aF (BW na3 rfl ?_ (jP _) (GQ (Be h2)))
 simp only [bne_self_eq_false,GC,if_false]
 exact bF (h _ c2 (fun b x hb e=>(s2.2 b hb).trans (ext3 b x hb e)) hc2)
end
end
theorem aS.of_get{α β:Type}{P:α→β→Prop}(xs:List α):∀ {vs:List β},xs.length=vs.length→(∀(i:Nat) (x:α) (v:β),xs[i]? =some x→vs[i]? =some v→P x v)→aS P xs vs:=by
 induction xs with
 |nil=>intro vs h _;cases vs with
  |nil=>exact rfl
  |cons=>cases h
 |cons x xs ih=>intro vs h k;cases vs with
  |nil=>cases h
  |cons v vs=>exact .mk (k 0 x v rfl rfl) (ih (vW h) fun i x v a b=>k (i+1) x v a b)
noncomputable def rT(xs:List PV):List Nat→Option (List PV)
 | []=>some []
 |i::is=>match xs[i]? with
  |some x=>match rT xs is with
   |some r=>some (x::r)
   |none=>none
  |none=>none
noncomputable def zN(lt:PV→PV→Option Bool)(keys:List PV)(i j:Nat):Option Bool:=match keys[i]? with
 |some a=>match keys[j]? with
  |some b=>lt a b
  |none=>none
 |none=>none
noncomputable def tE(lt:PV→PV→Option Bool)(keys vals:List PV):Option (List PV):=match bV vals.length 2 with
 |true=>some vals
 |false=>match bV vals.length 64 with
  |true=>match uB (zN lt keys) (wZ vals.length) with
   |some p=>rT vals p.toList
   |none=>none
  |false=>none
noncomputable def FD(x y:PV):Option Bool:=match qX x with
 |some a=>match qX y with
  |some b=>some (nM a b)
  |none=>none
 |none=>none
theorem Uc{xs:List PV}(d:aS P xs vs)(is:List Nat):∀ {ys:List PV},rT xs is=some ys→aS P ys (is.map fun i=>vs.getD i Value.none):=by
 induction is with
 |nil=>intro ys h;cases h;exact rfl
 |cons i is ih=>
  intro ys h
  have h:(match xs[i]? with | some x=>(match rT xs is with | some r=>some (x::r) | none=>none) | none=>none)=some ys:=h
  cases q:xs[i]? with
  |none=>rw [q] at h;cases h
  |some x=>
   replace h:=(q)▸h
   have h:(match rT xs is with | some r=>some (x::r) | none=>none)=some ys:=h
   cases q':rT xs is with
   |none=>rw [q'] at h;cases h
   |some r=>
    rw [q'] at h;cases h
    obtain⟨v,hv,dv⟩:=d.get q
    exact .mk (show P x (vs.getD i Value.none) by rw [LQ,hv];exact dv) (ih q')
theorem Rw{xs:List PV}(d:aS P xs vs)(h:zN lt xs i j=some b):∃ x y,lt x y=some b∧P x (vs.getD i Value.none)∧P y (vs.getD j Value.none):=by
 have h:(match xs[i]? with | some a=>(match xs[j]? with | some b=>lt a b | none=>none) | none=>none)=some b:=h
 cases q:xs[i]? with
 |none=>rw [q] at h;cases h
 |some x=>
  rw [q] at h
  have h:(match xs[j]? with | some b=>lt x b | none=>none)=some b:=h
  cases q':xs[j]? with
  |none=>rw [q'] at h;cases h
  |some y=>
   rw [q'] at h
   obtain⟨v,hv,dv⟩:=d.get q
   obtain⟨w,hw,dw⟩:=d.get q'
   exact⟨x,y,h,by rw [LQ,hv];exact dv,by rw [LQ,hw];exact dw⟩
theorem Xh{ks xs ys:List PV}(h:tE lt ks xs=some ys){P:Prop}(k1:xs.length < 2→ys=xs→P)(k2:∀ p,2≤xs.length→xs.length < 64→uB (zN lt ks) (wZ xs.length)=some p→rT xs p.toList=some ys→P):P:=by
 unfold tE at h
 cases q:bV xs.length 2 with
 |true=>rw [q] at h;cases h;exact k1 (Nat.blt_eq.mp q) rfl
 |false=>
  rw [q] at h
  have h:(match bV xs.length 64 with | true=>(match uB (zN lt ks) (wZ xs.length) with | some p=>rT xs p.toList | none=>none) | false=>none)=some ys:=h
  cases q':bV xs.length 64 with
  |false=>rw [q'] at h;cases h
  |true=>
   rw [q'] at h
   have h:(match uB (zN lt ks) (wZ xs.length) with | some p=>rT xs p.toList | none=>none)=some ys:=h
   cases q'':uB (zN lt ks) (wZ xs.length) with
   |none=>rw [q''] at h;cases h
   |some p=>
    rw [q''] at h
    exact k2 p (Nat.le_of_not_lt fun h=>by rw [Nat.blt_eq.mpr h] at q;cases q) (Nat.blt_eq.mp q') q'' h
section
variable{K:KK}{A:aR}{st:St}{z:Z K A st}{α β:Type}{D:Dn α β}{T:aB→WP β}{a:SV}{x:aB}
noncomputable def UJ(z:Z K A st)(x:aB)(xs:List PV):Prop:=xs.length≤1000000→∀ {A':aR} {Q:List aB→aG→Prop},A'.handled=none→(∀ h' tk vs,(∀ b o,z.s.heap.get? b=some o→h'.get? b=some o)→bO K.C z.X xs vs→Q vs {z.s with heap:=h',toks:=tk})→aI (aK K.C.prog K.C.w) A' (collect x) Q nE z.s
theorem aOI{xs:List PV}(hl:z.s.heap.get? l=some (bY vs ep))(dl:bO K.C z.X xs vs):UJ z (.ref l) xs:=fun hz A' Q _ hQ=>by
 refine collect_list ⟨_,hl,rfl,ep,rfl⟩ (hQ _ z.s.toks vs (fun b o q=> ?_) dl) (by rw [←dl.len];exact gH hz)
 rw [Heap.get?_update_ne _ _ _ _ (qR (mI q))]
 exact gR _ q
theorem aOH(hp:gG kd=false)(ns:(l==rY)=false)(ho:z.s.heap.get? l=some o)(d:iG K.C kd ks (bO K.C z.X ks) (bO K.C z.X vs) o):UJ z (.ref l) ks:=fun hz A' Q hA hQ=>by
 obtain⟨vals,_,hl,o',es,ep,ha⟩:=DX hp ho d
 have hlen:(ks.zip vals).length=ks.length:=by rw [←bQ,sC hl]
 refine kdu_collect (kdl_dict ns) hA ⟨o',es,ha⟩ (by rw [hlen];exact gH hz) fun h' tk acc hk hacc=>hQ h' tk acc.toList hk (.of_get ks ?_ fun i x v hx hv=> ?_)
 ·exact(hlen)▸(hacc.1)▸Array.length_toList.symm
 ·obtain⟨k,w,e1,e2⟩:=hacc.2 i v ((FZ)▸hv)
  have:((ks.zip vals).map (·.1))[i]? =some k:=by rw [iR,e1];rfl
  replace this:=(hx)▸(sC hl)▸this
  cases this
  exact((zK hp).mp e2).2
noncomputable def KA(a:SV)(k:List PV→M α):M α:=iD a k (kF a (fun kd ks _=>gd (!gG kd) (k ks)) er)
theorem QE(e:(!gG kd)=true):gG kd=false:=by cases h:gG kd with
 |false=>rfl
 |true=>rw [h] at e;cases e
theorem Go.onSrc(d:z.d dV a x)(h:∀ y xs,UJ z y xs→Go z D (T y) (k xs st)):Go z D (T x) (KA a k st):=
 .onL d (fun xs l vs ep hl dl=>h _ xs (aOI hl dl)) (.onD (T:=T) d (fun kd ks vs l o ns ho dd=>.gd fun e=>h _ ks (aOH (QE e) ns ho dd)) .er)
theorem Z.listC(z:Z K A st){D:Addr}(g:∀ b o,z.s.heap.get? b=some o→h'.get? b=some o)(hD:z.X.W D=none)(ho:h'.get? D=some (bY ws c))(d:bO K.C z.X ys ws){Q:aB→aG→Prop}(q:∀(z':Z K A ⟨st.loc,st.cells++[.list ys]⟩) x,z.le z'→z'.d dV (.ref st.cells.length) x→Q x z'.s):Q (.ref D) {z.s with heap:=h',toks:=tk}:=
 Go.adC (z:=z.to {z.s with heap:=h',toks:=tk} (z.R.still.to h' tk) g) hD ho (fun l=>.mk ws c (bO.mono l d)) id _ _ rfl Q fun z' x l d=>q z' x l d
noncomputable def Bw(ys:List PV):M SV:=fun st=>some (.ref st.cells.length,⟨st.loc,st.cells++[.list ys]⟩)
noncomputable def nP(a:SV):M SV:=KA a fun xs=>dM xs.length (eW (lP qX xs) fun ls=>eW (tE FD xs xs) Bw)
theorem aBQ(d:aS iQ ls vs):∀ v∈vs,∃ b t,v= .bytes b t:=by
 induction ls generalizing vs with
 |nil=>subst d;exact fun _ h=>nomatch h
 |cons l ls ih=>cases d with | mk v ws a as=>cases a with | mk b t=>exact List.forall_mem_cons.mpr ⟨⟨b,t,rfl⟩,ih as⟩
theorem aHV{x y:PV}(h:FD x y=some b)(dx:bE C W x v)(dy:bE C W y w)(q:Q b s):aI (aK prog wd) A (oneLt' true v w) Q E s:=by
 unfold FD at h
 cases e:qX x with
 |none=>rw [e] at h;cases h
 |some l=>
  replace h:=(e)▸h
  have h:(match qX y with | some b=>some (nM l b) | none=>none)=some b:=h
  cases e':qX y with
  |none=>rw [e'] at h;cases h
  |some m=>
   rw [e'] at h;cases h
   cases MV e;cases MV e'
   obtain⟨b1,t1,rfl,rfl⟩:=wM dx
   obtain⟨b2,t2,rfl,rfl⟩:=wM dy
   exact Tv q
theorem KN:jW K (fun v=>call (.builtin "sorted") [v]) nP:=fun {A st} z a x dx=>
 .onSrc (T:=fun x=>K.wp A (call (.builtin "sorted") [x])) dx fun x xs S=>.fit fun hz=>.onSome fun ls hb=>.onSome fun ys hs r st' e Q q=>by
  cases e
  refine Calls.call_function_entry kind_sorted plain_sorted entry_sorted (args_sorted1 _) ?_
  refine aF (m:=checkCount "sorted" 1 1 _) (bF (aF (S hz (A':=A.in1) z.hA.handled fun h1 tk vs K1 dl=> ?_)))
  have hlen:vs.length≤fO:=by rw [←dl.len];exact gH hz
  refine aF (RO ?_ hlen)
  have hD:z.X.W h1.objs.size=none:=by
   cases e:z.X.W h1.objs.size with
   |none=>rfl
   |some r=>obtain⟨o,ho⟩:=(z.R.val _ _ e).ex;exact absurd (mI (K1 _ _ ho)) (GR _)
  have hoL:(h1.push (fN "list" vs.toArray 0)).get? h1.objs.size=some (fN "list" vs.toArray 0):=nY _ rfl
  refine aF (pD (RM slot_list_sort ⟨_,hoL,rfl⟩ entry_list_sort ?_ (args_list_sort _)))
  have fin:∀ h' c ws,lI h1.objs.size (h1.push (fN "list" vs.toArray 0)) h'→h'.get? h1.objs.size=some (bY ws c)→bO K.C z.X ys ws→
    (fun fin s'=>∃ v,fin=PySem.Fin.done (.ret v)∧aI (aK K.C.prog K.C.w) A.in1 (ret (.ref h1.objs.size)) (fun fin s'=>∃ v,fin= .done (.ret v)∧Q v s') nE s') (.done (.ret .none)) {z.s with heap:=h',toks:=tk}:=fun h' c ws ex ho d=>
   ⟨_,rfl,bF ⟨_,rfl,z.listC (fun b o e=>ex b o (qR (mI (K1 _ _ e))) (gR _ (K1 _ _ e))) hD ho d q⟩⟩
  refine Xh hs (fun h2 e=> ?_) fun p h2 h64 hrun hp=> ?_
  ·subst e
   exact aOC hoL ((dl.len)▸h2) fun h' c ex ho=>fin h' c vs ex ho dl
  ·rw [dl.len] at h2 h64 hrun
   refine aOA (s:={z.s with heap:=h1.push (fN "list" vs.toArray 0),toks:=tk}) (κ:=oneType') hoL h2 h64 (fun s' Q' _ hQ=>kas_kind (T:=.type "bytes") h2 (fun v hv=> ?_) rfl (by decide) hQ) (fun s' i j b C' hb' _ hC=> ?_) hrun fun h' c ex ho=>fin h' c _ ex ho (Uc dl _ hp)
   ·obtain⟨b,t,rfl⟩:=aBQ (DK Jt xs hb dl) v hv
    exact Looks.of_pure rfl
   ·obtain⟨y,w,q1,d1,d2⟩:=Rw dl hb'
    rw [keyLt'_oneType];exact aHV q1 d1 d2 hC
end
noncomputable def FA(f:Fn):List PV→M (List PV)
 | []=>rt []
 |x::xs=>bd (lS f [.pv x]) fun k=>lH k fun k=>bd (FA f xs) fun ks=>rt (k::ks)
noncomputable def RJ{α:Type}(l:List PV)(k:PV→PV→Option α):Option α:=match l with
 | []=>none
 |x::r=>match r with
  | []=>none
  |y::r=>match r with
   | []=>k x y
   |_::_=>none
theorem Yj{α:Type}{l:List PV}{k:PV→PV→Option α}{a:α}(h:RJ l k=some a):∃ x y,l= [x,y]∧k x y=some a:=by
 cases l with
 |nil=>cases h
 |cons x r=>cases r with
  |nil=>cases h
  |cons y r=>cases r with
   |nil=>exact⟨x,y,rfl,h⟩
   |cons=>cases h
noncomputable def sT(p:PV):Option (List Nat×Int):=match p with
 |.tup l=>RJ l fun x y=>match qX x with
  |some a=>match AV y with
   |some i=>some (a,i)
   |none=>none
  |none=>none
 |_=>none
inductive GB(W:Addr→Option bS):List Nat×Int→aB→Prop
 |mk (a:Addr) (b:Array UInt8) (t:Tok) (i:Int) (u:Tok) (ep:Nat) (hw:W a=some (.fro (mG [.bytes b t,.int i u] ep))):GB W (b.toList.map cH,i) (.ref a)
theorem Ao{C:Cx}{W:Addr→Option bS}(p:PV)(q:List Nat×Int)(v:aB)(h:sT p=some q)(d:bE C W p v):GB W q v:=by
 cases p with
 |tup l=>
  obtain⟨x,y,rfl,h1⟩:=Yj h
  have h:(match qX x with | some a=>(match AV y with | some i=>some (a,i) | none=>none) | none=>none)=some q:=h1
  cases e:qX x with
  |none=>rw [e] at h;cases h
  |some a=>
   replace h:=(e)▸h
   have h:(match AV y with | some i=>some (a,i) | none=>none)=some q:=h
   cases e':AV y with
   |none=>rw [e'] at h;cases h
   |some i=>
    rw [e'] at h;cases h
    cases MV e;cases Iw e'
    cases d with | mk r vs ep hw hl=>
    cases hl with | mk v1 ws d1 hl=>
    cases hl with | mk v2 ws d2 hl=>
    subst hl
    obtain⟨b,t,rfl,rfl⟩:=wM d1
    cases d2 with | mk u=>exact .mk r b t i u ep hw
 |_=>cases h
noncomputable def JG(a b:List Nat×Int):Bool:=match eqL a.1 b.1 with
 |true=>decide (a.2 < b.2)
 |false=>nM a.1 b.1
noncomputable def rP(x y:PV):Option Bool:=match sT x with
 |some a=>match sT y with
  |some b=>some (JG a b)
  |none=>none
 |none=>none
theorem aHg{W:Addr→Option bS}{h:Heap}(fro:∀ a o,W a=some (.fro o)→h.get? a=some o)(l:List (List Nat×Int)):∀ {ws:List aB},aS (GB W) l ws→∃ fs,KatTups h ws fs∧fs.length=ws.length∧∀ v∈fs,∃ b t,v= .bytes b t:=by
 induction l with
 |nil=>intro ws d;subst d;exact⟨[],.nil,rfl,fun _ h=>(nomatch h)⟩
 |cons k l ih=>
  intro ws d
  cases d with | mk w ws a as=>
  cases a with | mk a b t i u ep hw=>
  obtain⟨fs,h1,h2,h3⟩:=ih as
  exact⟨.bytes b t::fs,.cons (fro _ _ hw) rfl rfl rfl h1,congrArg lK h2,List.forall_mem_cons.mpr ⟨⟨b,t,rfl⟩,h3⟩⟩
theorem aHn{prog:hO}{wd:dW}{A:aR}{s:aG}{W:Addr→Option bS}(fro:∀ a o,W a=some (.fro o)→s.heap.get? a=some o){x y:List Nat×Int}{v w:aB}{Q:Bool→aG→Prop}{E:aB→aG→Prop}(dx:GB W x v)(dy:GB W y w)(hq:Q (JG x y) s):
  aI (aK prog wd) A (keyLt' (tuples' true) v w) Q E s:=by
 cases dx with | mk a b1 t i u ep hw=>
 cases dy with | mk a' b2 t' j u' ep' hw'=>
 refine kat_lt (fro _ _ hw) rfl (fro _ _ hw') rfl (kat_cons (eqBool_bytes ?_))
 unfold JG at hq
 cases q:eqL (b1.toList.map cH) (b2.toList.map cH) with
 |true=>
  dsimp only at hq
  rw [q] at hq
  rw [decide_eq_true (JH (jI.mp q))]
  refine kat_yes (kat_cons (wpAny_eqBool_int ?_))
  by_cases hij:i=j
  ·subst hij
   rw [beq_self_eq_true]
   refine kat_yes (kat_nil ?_)
   rwa [show decide (i < i)=decide ((#[MO b1 t,Value.int i u]:Array aB).size < (#[MO b2 t',Value.int i u']:Array aB).size) by simp] at hq
  ·refine(beq_eq_false_iff_ne.mpr hij).symm▸?_
   exact kat_no (kat_one _ _ (lt_int hq))
 |false=>
  dsimp only at hq
  rw [q] at hq
  rw [decide_eq_false (fun e:b1.toList=b2.toList=>by rw [e,jI.mpr rfl] at q;cases q)]
  exact kat_no (Tv hq)
section
variable{K:KK}{A:aR}{st st':St}{z:Z K A st}{n:Nat}
inductive Hc(z:Z K A st)(X₀:Xt)(n0:Nat)(f:Fn)(xs ks:List PV)(st':St)(kS a:Addr)(e1:Nat)(i:Nat):aG→Prop
 |mk {st₁:St} (z₁:Z K A st₁) (kA:List aB) (e:Nat) (ds rest:List PV) (l:X₀.le n0 z₁.X st₁.cells.length) (lw:z.X.low st.cells.length z₁.X st₁.cells.length) (hk:z₁.X.W kS=some (.iter (bY kA e))) (hD:z₁.X.W a=some (.iter (bY [] e1))) (dk:bO K.C z₁.X ds kA) (hm:FA f (xs.drop i) st₁=some (rest,st')) (hds:ds++rest=ks) (hdl:ds.length=i):Hc z X₀ n0 f xs ks st' kS a e1 i z₁.s
theorem aHr{A':aR}{fa:Addr}{f:Fn}{xs ks:List PV}{vs:List aB}{a kS:Addr}{e1:Nat}{P:AO→aG→Prop}{E:aB→aG→Prop}(hf:RF K.C n fa f)(hA:lC A' n)(hm:FA f xs st=some (ks,st'))(dl:bO K.C z.X xs vs)(h64:vs.length < 64)
  (hk:z.X.W kS=some (.iter (bY [] 0))) (hD:z.X.W a=some (.iter (bY [] e1))) (hne:kS≠a) {X₀:Xt} {n0:Nat} (l0:X₀.le n0 z.X st.cells.length) (h0:X₀.W kS=none)
  (h:∀(z':Z K A st') kA e,X₀.le n0 z'.X st'.cells.length→z.X.low st.cells.length z'.X st'.cells.length→z'.X.W kS=some (.iter (bY kA e))→z'.X.W a=some (.iter (bY [] e1))→bO K.C z'.X ks kA→ks.length=xs.length→aI (aK K.C.prog K.C.w) A' (ksk_end a false vs.toArray e1 (.ref kS) kA.toArray) P E z'.s):
  aI (aK K.C.prog K.C.w) A' (ksk_rest a (.ref fa) false vs.toArray e1 (.ref kS)) P E z.s:=by
 refine aF (xU ?_)
 first
  |rw [List.forIn_toArray]
  |(rw [←Array.forIn_toList];simp only [List.toList_toArray])
  |rw [←Array.forIn_toList]
 refine aF (ksk_fold (Hc z X₀ n0 f xs ks st' kS a e1) vs 0 z.s (.mk z [] 0 [] ks l0 Z.le0.low hk hD rfl hm rfl rfl) ?step ?done)
 case step=>
  intro j x s' hx c
  rw [kG] at c ⊢
  cases c with | mk z₁ kA e ds rest l lw hk hD dk hm hds hdl=>
  have hj:=FE hx
  obtain⟨y,hy⟩:∃ y,xs[j]? =some y:=⟨_,tO (dl.len▸hj)⟩
  obtain⟨v,hv,dv⟩:=dl.get hy
  rw [hx] at hv;cases hv
  replace hm:=(XQ hy)▸hm
  refine lE hm fun k st₂ q₁ hm=> ?_
  cases k with
  |ref=>cases hm
  |pv k=>
   refine lE hm fun ks' st₃ q₂ hm=> ?_
   cases hm
   refine aF (Fz (wpAny_call (NM (IT (z:=z₁) hf hA (show z₁.d dL [.pv y] [x] from .one (bE.mono lw.fro _ _ dv)) _ _ q₁ (fun r s=>aI (aK K.C.prog K.C.w) A' _ _ E s) fun z₂ r l₂ dr=> ?_) fun _ _ h=>h)))
   have hk1:=l₂.iter _ _ hk
   have nk:=z₂.R.val _ _ hk1
   have s1:=sE z₂.s.heap kS (fX (·.push r))
   obtain⟨c2,hc2⟩:∃ c2,(z₂.s.heap.update kS (fX (·.push r))).get? kS=some (bY (kA++[r]) c2):=⟨_,(uN _ nk rfl).trans (congrArg some (Bh (Hg ..)))⟩
   have hz:kA.toArray.size < 64:=by rw [hZ,←dk.len,hdl];exact DB hj h64
   refine aF (BW nk rfl ?_ (vK hz) (aP (dQ (Array.size_push ..)) (kZ (vK hz))))
   have lp:=(Tr.put (n:=st₂.cells.length) (r:=some (.iter (bY (kA++[r]) c2))) z₂.R.val (.inr ⟨_,hk1⟩) (rF s1) (rO hc2)).low
   have lo:=l₂.low.trans lp
   exact bF ⟨rfl,.mk (z₂.put kS (some (.iter (bY (kA++[r]) c2))) _ z₂.s.toks (.inr ⟨_,hk1⟩) (rF s1) (rO hc2)) (kA++[r]) c2 (ds++[k]) ks' (kO (l.trans l₂) h0) (lw.trans lo) kR ((iN hne.symm).trans (l₂.iter _ _ hD)) (aS.app (bO.mono lo dk) (.one (bE.mono lp.fro _ _ dr))) q₂ (by rw [gJ];exact hds) (by rw [fE,hdl];rfl)⟩
 case done=>
  intro s' c
  cases c with | mk z₁ kA e ds rest l lw hk hD dk hm hds hdl=>
  rw [kG] at hm hdl
  replace hm:=(List.drop_length)▸(dl.len).symm▸hm
  cases hm
  rw [gK] at hds
  subst hds
  try dsimp only
  exact aF (listItems_at (z₁.R.val _ _ hk) rfl (h z₁ kA e l lw hk hD dk (hdl.trans dl.len.symm)))
theorem Xc{s:aG}{st:SortSt}{a kS:Addr}{e e1:Nat}{keys:Array aB}{out:List aB}{P:AO→aG→Prop}{E:aB→aG→Prop}(nk:s.heap.get? kS=some (fN "list" keys e))(na:s.heap.get? a=some (fN "list" #[] e1))(hne:kS≠a)(hz:keys.size < 64)(hz2:out.length < 64)
  (hout:(arrOf st).map (·.2)=out.toArray) (hf:failedOf st=none)
  (h:∀ h1 h2 c,lI kS s.heap h1→lI a h1 h2→h2.get? a=some (fN "list" out.toArray c)→P (.done (.ret .none)) {s with heap:=h2}):
  aI (aK K.C.prog K.C.w) A (ksk_tail a false e1 (.ref kS) st) P E s:=by
 have s1:=sE s.heap kS (fX fun _=>(#[]:Array aB))
 have na1:(s.heap.update kS (fX fun _=>(#[]:Array aB))).get? a=some (fN "list" #[] e1):=(s1.2 a hne.symm).trans na
 have s2:=sE (s.heap.update kS (fX fun _=>(#[]:Array aB))) a (fX fun _=>out.toArray)
 obtain⟨c2,hc2⟩:∃ c2,((s.heap.update kS (fX fun _=>(#[]:Array aB))).update a (fX fun _=>out.toArray)).get? a=some (fN "list" out.toArray c2):=
  ⟨_,IP na1 fun _=>out.toArray⟩
 unfold ksk_tail
 try dsimp only
 refine aF (BW nk rfl ?_ (vK hz) (jP _))
 refine aF (wpAny_letGo ?_)
 refine aF (KQ na1 rfl ?_)
 rw [hout]
 simp only [GC,if_false]
 refine aF (BW na1 rfl ?_ (jP _) (GQ (vK hz2)))
 rw [hf]
 simp only [bne_self_eq_false,GC,if_false]
 exact bF (h _ _ c2 (fun b o hb ho=>(s1.2 b hb).trans ho) (fun b o hb ho=>(s2.2 b hb).trans ho) hc2)
end
section
variable{K:KK}{A:aR}{st st':St}{z:Z K A st}{n:Nat}
theorem aHW{x y:PV}{b:Bool}(h:rP x y=some b):∃ p q,sT x=some p∧sT y=some q∧b=JG p q:=by
 unfold rP at h
 cases e:sT x with
 |none=>rw [e] at h;cases h
 |some p=>
  rw [e] at h
  have h:(match sT y with | some b=>some (JG p b) | none=>none)=some b:=h
  cases e':sT y with
  |none=>rw [e'] at h;cases h
  |some q=>rw [e'] at h;cases h;exact⟨p,q,rfl,rfl,rfl⟩
theorem aOy{A':aR}{a kS:Addr}{e e1:Nat}{kv vs:List aB}{ks xs ys:List PV}{l:List (List Nat×Int)}{P:AO→aG→Prop}{E:aB→aG→Prop}(nk:z.s.heap.get? kS=some (bY kv e))(na:z.s.heap.get? a=some (bY [] e1))(hne:kS≠a)(h64:vs.length < 64)
  (dk:bO K.C z.X ks kv) (dl:bO K.C z.X xs vs) (hlen:kv.length=vs.length) (hall:lP sT ks=some l) (hs:tE rP ks xs=some ys)
  (h:∀ h1 h2 c out,lI kS z.s.heap h1→lI a h1 h2→h2.get? a=some (bY out c)→bO K.C z.X ys out→P (.done (.ret .none)) {z.s with heap:=h2}):
  aI (aK K.C.prog K.C.w) A' (ksk_end a false vs.toArray e1 (.ref kS) kv.toArray) P E z.s:=by
 have hz:kv.toArray.size < 64:=by rw [hZ,hlen];exact h64
 unfold ksk_end
 simp only [GC,if_false]
 refine Xh hs (fun hlt e=> ?_) fun p h2 _ hrun hp=> ?_
 ·subst e
  have h2:vs.toArray.size < 2:=by rw [hZ,←dl.len];exact hlt
  rw [if_pos h2,if_pos h2]
  refine aF (bF ?_)
  rw [StateT.run_pure]
  refine aF (bF ?_)
  refine Xc nk na hne hz h64 ?_ rfl fun h1 h2 c x1 x2 x3=>h h1 h2 c vs x1 x2 x3 dl
  show(kv.toArray.zip vs.toArray).map (·.2)=vs.toArray
  apply Array.toList_inj.mp
  simp [List.map_snd_zip,hlen]
 ·rw [dl.len] at h2 hrun
  have hn2:¬vs.toArray.size < 2:=by rw [hZ];exact Nat.not_lt.mpr h2
  rw [if_neg hn2,if_neg hn2]
  obtain⟨fs,t1,t2,t3⟩:=aHg z.froG l (DK Ao ks hall dk)
  refine aF (kat_kind (T:=.type "bytes") t1 (by rw [t2,hlen];exact AK Nat.zero_lt_two h2) (fun v hv=> ?_) rfl ?_)
  ·obtain⟨b,t,rfl⟩:=t3 v hv
   exact Looks.of_pure rfl
  ·have hT:(HI "bytes" != HI "tuple")=true:=rfl
   refine(hT).symm▸?_
   have ask:(wZ vs.length).kasWp (kas_ask K.C.prog K.C.w A' (tuples' true) kv) (fun q s'=>q=p∧s'=z.s) z.s:=
    An (I:=fun s'=>s'=z.s) (fun i j b C' s' hb hs' hC=>by
     subst hs'
     obtain⟨x,y,hxy,d1,d2⟩:=Rw dk hb
     obtain⟨p1,p2,e1,e2,rfl⟩:=aHW hxy
     exact aHn z.froG (Ao _ _ _ e1 d1) (Ao _ _ _ e2 d2) (hC _ rfl)) hrun rfl fun s' hs'=>⟨rfl,hs'⟩
   refine aF (nQ (kat_run (Q:=fun st' s'=>∃ q:Array Nat,q.size=vs.length∧arrOf st'=q.map (kas_item (kv.toArray.zip vs.toArray))∧failedOf st'=none∧q=p∧s'=z.s)
    hlen h2 h64 (fun p' st' s' a1 a2 a3 a4=>⟨p',a1,a2,a3,a4⟩) ask) ?_ fun _ _ e=>e)
   rintro⟨⟨⟩,st'⟩ s' ⟨q,hq,har,hf,rfl,rfl⟩
   exact Xc nk na hne hz (by rw [bQ,pY,hq];exact h64) (kat_snds hlen har) hf fun h1 h2 c x1 x2 x3=>h h1 h2 c _ x1 x2 x3 (Uc dl _ hp)
noncomputable def CL(f:Fn)(a:SV):M SV:=KA a fun xs=>gd (bV xs.length 60) (bd (FA f xs) fun ks=>eW (lP sT ks) fun _=>eW (tE rP ks xs) Bw)
theorem Tu{α β:Type}{o:Option α}{k:α→M β}{r:β×St}(e:eW o k st=some r){P:Prop}(h:∀ x,o=some x→k x st=some r→P):P:=by
 cases o with
 |none=>cases e
 |some x=>exact h x rfl e
theorem aHo{A':aR}{fa:Addr}{f:Fn}{xs ks ys:List PV}{l:List (List Nat×Int)}{vs:List aB}{H1:Heap}{D:Addr}{tk:Nat}{P:AO→aG→Prop}{Q:aB→aG→Prop}{E:aB→aG→Prop}(hf:RF K.C n fa f)(hA:lC A' n)(K2:∀ b o,z.s.heap.get? b=some o→H1.get? b=some o)(D0:z.X.W D=none)(hoL:H1.get? D=some (bY vs 0))(dl:bO K.C z.X xs vs)(h60:vs.length < 60)
  (hm:FA f xs st=some (ks,st')) (hall:lP sT ks=some l) (hs:tE rP ks xs=some ys) (q:∀(z':Z K A ⟨st'.loc,st'.cells++[.list ys]⟩) x,z.le z'→z'.d dV (.ref st'.cells.length) x→Q x z'.s) (hD:∀ b o,z.s.heap.get? b=some o→b≠D) (hP:∀ s',Q (.ref D) s'→P (.done (.ret .none)) s'):
  aI (aK K.C.prog K.C.w) A' (Builtin.«list.sort» ⟨[.ref D],[(uV "key",.ref fa)]⟩) P E {z.s with heap:=H1,toks:=tk}:=by
 have h64:vs.length < 64:=DB h60 (by decide)
 have hz:vs.length≤fO:=vK h64
 rw [ksk_t1]
 have s1:=sE H1 D (fX fun _=>(#[]:Array aB))
 obtain⟨e1,ho1⟩:∃ e1,(H1.update D (fX fun _=>(#[]:Array aB))).get? D=some (fN "list" #[] e1):=⟨_,IP hoL fun _=>#[]⟩
 refine aF (listItems_at hoL rfl (aF (BW hoL rfl ?_ (by rw [hZ];exact hz) (jP _))))
 refine aF (KQ ho1 rfl (aF (wpAny_newTuple (aF (RO (pD ?_) (jP _))) hz)))
 have K3:∀ b o,z.s.heap.get? b=some o→((H1.update D (fX fun _=>(#[]:Array aB))).push (fN "tuple" vs.toArray 0)).get? b=some o:=fun b o e=>gR _ ((s1.2 b (hD b o e)).trans (K2 _ _ e))
 have hDH:((H1.update D (fX fun _=>(#[]:Array aB))).push (fN "tuple" vs.toArray 0)).get? D=some (bY [] e1):=gR _ ho1
 show aI _ _ (ksk_rest D (.ref fa) false vs.toArray e1 (.ref ((H1.update D (fX fun _=>(#[]:Array aB))).push (fN "tuple" vs.toArray 0)).objs.size)) _ _ {z.s with heap:=((H1.update D (fX fun _=>(#[]:Array aB))).push (fN "tuple" vs.toArray 0)).push (fN "list" #[] 0),toks:=tk}
 generalize (H1.update D (fX fun _=>(#[]:Array aB))).push (fN "tuple" vs.toArray 0)=H2 at K3 hDH ⊢
 have hne:H2.objs.size≠D:=(qR (mI hDH)).symm
 have hK:z.X.W H2.objs.size=none:=by
  cases e:z.X.W H2.objs.size with
  |none=>rfl
  |some r=>obtain⟨o,ho⟩:=(z.R.val _ _ e).ex;exact absurd (mI (K3 _ _ ho)) (GR _)
 have hoK:(H2.push (bY [] 0)).get? H2.objs.size=some (bY [] 0):=nY _ rfl
 have hoD:(H2.push (bY [] 0)).get? D=some (bY [] e1):=gR _ hDH
 have lX:z.X.le st.cells.length ((z.X.put D (some (.iter (bY [] e1)))).put H2.objs.size (some (.iter (bY [] 0)))) st.cells.length:=kO (kO (.refl ..) D0) hK
 refine aHr (z:=((z.to {z.s with heap:=H2.push (bY [] 0),toks:=tk} (z.R.still.to _ _) fun b o e=>gR _ (K3 b o e)).put D (some (.iter (bY [] e1))) (H2.push (bY [] 0)) tk (.inl D0) (fun _ _ _ e=>e) (rO hoD)).put H2.objs.size (some (.iter (bY [] 0))) (H2.push (bY [] 0)) tk (.inl ((iN hne).trans hK)) (fun _ _ _ e=>e) (rO hoK))
  (X₀:=z.X) hf hA hm (bO.mono lX.low dl) h64 kR ((iN hne.symm).trans kR) hne lX hK fun z' kA e l low hk hDZ dk hlen=> ?_
 refine aOy (z:=z') (z'.R.val _ _ hk) (z'.R.val _ _ hDZ) hne h64 dk (bO.mono (lX.low.trans low) dl) (by rw [←dk.len,hlen,dl.len]) hall hs fun h2 h3 c out x1 x2 x3 do'=>hP _ ?_
 have hD1:(z'.X.put H2.objs.size none).W D=some (.iter (bY [] e1)):=(iN hne.symm).trans hDZ
 have l1:=(Tr.put (n:=st'.cells.length) (r:=none) z'.R.val (.inr ⟨_,hk⟩) x1 sV).low
 have l2:=(Tr.put (n:=st'.cells.length) (r:=none) (z'.put H2.objs.size none h2 z'.s.toks (.inr ⟨_,hk⟩) x1 sV).R.val (.inr ⟨_,hD1⟩) x2 sV).low
 exact((z'.put H2.objs.size none h2 z'.s.toks (.inr ⟨_,hk⟩) x1 sV).put D none h3 z'.s.toks (.inr ⟨_,hD1⟩) x2 sV).listC (tk:=z'.s.toks) (fun _ _ e=>e) kR x3 (bO.mono (l1.trans l2) do') fun z'' x l' d=>q z'' x (Xt.le.trans (kO (kO l hK) D0) l') d
theorem aLY(hA:lC A (n+1)):lC A.in1.in1 n:=⟨hA.handled,(hA.mono (oE n)).depth,aP (lJ (rm (k:=2) (bT rfl)) 200) hA.units⟩
theorem aGq{fa:Addr}{f:Fn}{a:SV}{x:aB}(hn:n+1≤K.n)(hf:RF K.C n fa f)(dx:z.d dV a x):Go z dV (K.wp A (call (.builtin "sorted") [x] [(uV "key",.ref fa)])) (CL f a st):=
 .onSrc (T:=fun x=>K.wp A (call (.builtin "sorted") [x] [(uV "key",.ref fa)])) dx fun x xs S=>.gd fun hz r st' e Q q=>by
  refine lE e fun ks st₁ hm e=>Tu e fun l hall e=>Tu e fun ys hs e=> ?_
  cases e
  have hz':xs.length < 60:=Nat.blt_eq.mp hz
  refine call_function_entry_kw kind_sorted plain_sorted entry_sorted (ksk_s1 _ _) ?_
  refine aF (m:=checkCount "sorted" 1 1 _) (bF (aF (S (aP (DA hz') (bT rfl)) (A':=A.in1) z.hA.handled fun h1 tk vs K1 dl=> ?_)))
  have h60:vs.length < 60:=by rw [←dl.len];exact hz'
  refine aF (RO ?_ (vK (DB h60 (bT rfl))))
  have hoL:(h1.push (fN "list" vs.toArray 0)).get? h1.objs.size=some (fN "list" vs.toArray 0):=nY _ rfl
  have D0:z.X.W h1.objs.size=none:=by
   cases e:z.X.W h1.objs.size with
   |none=>rfl
   |some r=>obtain⟨o,ho⟩:=(z.R.val _ _ e).ex;exact absurd (mI (K1 _ _ ho)) (GR _)
  refine aF (pD (wpAny_call_entry_kw slot_list_sort ⟨_,hoL,rfl⟩ entry_list_sort ?_ (ksk_l1 _ _)))
  exact aHo (A':=A.in1.in1) hf (aLY (z.hA.mono hn)) (fun b o e=>gR _ (K1 _ _ e)) D0 hoL dl h60 hm hall hs q (fun b o e=>qR (mI (K1 _ _ e))) fun s' h=>⟨_,rfl,bF ⟨_,rfl,h⟩⟩
noncomputable def Gm:Expr→List Keyword
 |.Call _ _ ks _=>ks
 |_=>[]
noncomputable def ZS:List Keyword→Keyword
 |k::_=>k
 | []=>⟨none,dR [],default⟩
noncomputable def UD{fa:Addr}{f:Fn}(i j:Nat)(g:Gl K.C (nm K.sl i) (.builtin "sorted"))(gf:Gl K.C (nm K.sl j) (.ref fa))(hf:RF K.C n fa f)(a:PE K)(hn:n+1≤K.n:=by exact bT rfl)(h:eH K.sl i .globalImplicit=true:=by rfl)(h':eH K.sl j .globalImplicit=true:=by rfl):PE K:=
 ⟨bd a.m (CL f),fun e=>.Call (.Name (nm K.sl i) (xq e)) [a.r (dR (xs e))] [⟨some (uV "key"),.Name (nm K.sl j) (ZS (Gm e)).value.pos,(ZS (Gm e)).pos⟩] e.pos,2,fun _=>rfl,fun e A st z=>
  (a.ok _ z).ru (u:=fun x Q s=>K.wp A (eval (.Name (nm K.sl j) (ZS (Gm e)).value.pos) K.env) (fun f=>K.wp A (call (.builtin "sorted") [x] [(uV "key",f)]) Q) s) (fun Q q=>wpAny_Call_Name_kw (nV h g (callWith_kw (he:=FU a _ _) (hplain:=by rw [FU a];rfl) (by rw [FU a];exact xW (fT q fun _ _ q=>SG (kws_cons (fT q fun _ _ q=>kws_nil q))))))) fun z₁ l₁ dx=>(aGq hn hf dx).imp fun Q q=>nV h' gf q⟩
end
section
variable{K:KK}{A:aR}{st st':St}{z:Z K A st}{n:Nat}
noncomputable def KW(l:List Nat):List PV:=l.map fun c=>.str [c]
theorem Wu{x:Str}{i:Nat}{cells:List SO}{r:Option PV}(h:lG (KW x.cps.toList) cells i=some r):r=(x.cps[i]?).map fun c=>.str [c]:=by
 have h:=iW h
 unfold KW at h
 rw [iR,FZ] at h;exact h.symm
theorem aGW{C:Cx}{x:Str}{t:Tok}{it:Addr}:pG C it (lG (KW x.cps.toList)) (BQ "str_ascii_iterator" (.str x t)) (fun _ _=>True) where
 mono _ _:=trivial
 item y ok ho hp hx hq:=by
  obtain⟨c,hc,e⟩:=Option.map_eq_some_iff.mp (Wu hx).symm
  subst e
  exact wpAny_pyNext_ascii_item (hp.at ho) (c:=c) hc fun h' ⟨o',ho',hc',hd'⟩ sb=>hq _ h' o' _ (lN.mk ⟨#[c]⟩ _) sb ho' ⟨hc',hd'⟩
 fin y hh ok ho hp hx hq:=wpAny_pyNext_ascii_end hh (hp.at ho) (Option.map_eq_none_iff.mp (Wu hx).symm) fun h' ex=>hq h' _ ex
 self ho hp hq:=wpAny_pyIter_striter_ascii (hp.at ho) hq
 lets ho hp hq:=BV ho hp.1 (by kernel_rfl) hq
noncomputable def DL:List Nat→Bool
 | []=>true
 |c::cs=>match bV c 128 with
  |true=>DL cs
  |false=>false
theorem aAQ(l:List Nat)(h:DL l=true):l.all (· < 128)=true:=by
 induction l with
 |nil=>rfl
 |cons c cs ih=>
  have h:(match bV c 128 with | true=>DL cs | false=>false)=true:=h
  cases q:bV c 128 with
  |false=>rw [q] at h;cases h
  |true=>rw [q] at h;rw [List.all_cons,decide_eq_true (Nat.blt_eq.mp q),ih h];rfl
noncomputable def sgL(l:List Nat):Option (List PV):=match DL l with
 |true=>some (KW l)
 |false=>none
noncomputable def Qk(_:St):SV→Option (List PV)
 |.pv (.str l)=>sgL l
 |_=>none
theorem aLV:jY K Qk:=fun z a x xs hf d Q q=>by
 cases a with
 |ref=>cases hf
 |pv p=>cases p with
  |str l=>
   cases d with | mk x t=>
   have hf:(match DL x.cps.toList with | true=>some (KW x.cps.toList) | false=>none)=some xs:=hf
   cases h:DL x.cps.toList with
   |false=>rw [h] at hf;cases hf
   |true=>rw [h] at hf;cases hf;exact wpAny_pyIter_ascii ((Array.all_toList)▸aAQ _ h) (CD z rfl aGW ⟨rfl,rfl⟩ trivial q)
  |_=>cases hf
noncomputable def aGM(d:Addr)(k ep:Nat)(i:Nat)(o:Obj):Prop:=o.cls= .type "dict_keyiterator"∧o.data= .fields #[.ref d,.int i 0,.int k 0,.int ep 0]
theorem aGT{C:Cx}{kd:KD}(hp:gG kd=false){d it:Addr}{o:Obj}{kvs:List (PV×aB)}{ep:Nat}(hat:∀ h:Heap,h.get? d=some o→h.DictAt (kk C kd) d kvs ep):pG C it (lG (kvs.map (·.1))) (aGM d kvs.length ep) (fun X _=>X.W d=some (.fro o)) where
 mono l h:=l.fro _ _ h
 item y ok ho hp' hx hq:=by
  have hx:=iW hx
  replace hx:=(iR)▸hx
  obtain⟨p,q,rfl⟩:=Option.map_eq_some_iff.mp hx
  exact wpAny_pyNext_dict_item ⟨_,ho,hp'.1,hp'.2⟩ (hat _ (y.R.val _ _ ok)) (k:=p.1) (v:=p.2) q fun key h' hk ⟨o',ho',hc',hd'⟩ sb=>hq _ h' o' _ ((zK hp).mp hk).2 sb ho' ⟨hc',hd'⟩
 fin y hh ok ho hp' hx hq:=by
  have hx:=iW hx
  rw [iR] at hx
  exact wpAny_pyNext_dict_end hh ⟨_,ho,hp'.1,hp'.2⟩ (hat _ (y.R.val _ _ ok)) (Option.map_eq_none_iff.mp hx) fun h' ex=>hq h' _ ex
 self ho hp hq:=wpAny_pyIter_keyiter ⟨_,ho,hp.1,hp.2⟩ hq
 lets ho hp hq:=BV ho hp.1 (by kernel_rfl) hq
noncomputable def kyL(kd:KD)(ks:List PV):Option (List PV):=match gG kd with
 |false=>some ks
 |true=>none
noncomputable def Qi(_:St):SV→Option (List PV)
 |.pv (.dct kd ks _)=>kyL kd ks
 |_=>none
theorem aLS:jY K Qi:=fun z a x xs hf d Q q=>by
 cases a with
 |ref=>cases hf
 |pv p=>cases p with
  |dct kd ks vs=>
   have hf:(match gG kd with | false=>some ks | true=>none)=some xs:=hf
   cases hp:gG kd with
   |true=>rw [hp] at hf;cases hf
   |false=>
    rw [hp] at hf;cases hf
    cases d with | mk l o hw ns dd=>
    rw [iC,iC] at dd
    have hob:=z.R.val _ _ hw
    obtain⟨vals,_,hl,o',es,ep,ho',rest⟩:=DX (hp:=z.s.heap) hp hob dd
    cases iW ((hob:z.s.heap.get? l=some o).symm.trans ho')
    have I:=aGT (it:=sz z) hp (d:=l) (o:=o) (kvs:=xs.zip vals) (ep:=ep) fun h e=>⟨o,es,e,rest⟩
    replace I:=(sC hl)▸I
    exact wpAny_pyIter_dict ns ⟨o,es,hob,rest⟩ (CD z rfl I ⟨rfl,rfl⟩ hw q)
  |_=>cases hf
noncomputable def Aa(a:SV):M SV:=kQ a (fun _=>rt (.pv (.bool true))) er
noncomputable def Ac(a:SV):M SV:=kQ a (fun _=>rt (.pv (.bool false))) er
theorem Xl:isSubtype (.type "bytes") (.type "str")=pure false:=by rw [qE];kernel_rfl
theorem aOW:isSubtype (.type "bytes") (.type "bytes")=pure true:=by rw [qE];kernel_rfl
theorem aAV{b:Array UInt8}{t:Tok}:AnswersAll (fun s=>s.TypeIs (.bytes b t) "bytes") (.bytes b t) [.type "bytes",.type "str"] [true,false]:=
 ⟨.of_true F.isi_meta_bytes aOW,⟨fun _ _ _ _ _ _ s hs=>by
  obtain⟨h,g,d,t,os⟩:=s
  exact isinstance_nested_false_bytes (by decide) F.isi_meta_str Xl (hs.2 (t+1)),trivial⟩⟩
noncomputable def EV(K:KK)(A:aR)(e:Expr)(x:aB):WP aB:=fun Q s=>K.wp A (eval e K.env) (fun y=>K.wp A (call (.builtin "isinstance") [x,y]) Q) s
theorem aGk{k:Nat}{p:Pos}{a:SV}{x:aB}(gs:Gl K.C (nm K.sl k) (.type "str"))(h:eH K.sl k .globalImplicit=true)(dx:z.d dV a x):Go z dV (EV K A (.Name (nm K.sl k) p) x) (Ac a st):=
 .onB (T:=EV K A (.Name (nm K.sl k) p)) dx (fun b t=>.ret (z.tok (z.s.toks+1)) (x:=.bool false) Z.le0 rfl fun Q q=>nV h gs (call_isinstance (S:=fun _ R s=>R (.ok (.ret (.bool false))) {s with toks:=s.toks+1}) (fun _ _ _ _ s hs=>by
  obtain⟨h,g,d,t,os⟩:=s
  exact isinstance_outer (isinstance_nested_false_bytes (by decide) F.isi_meta_str Xl hs)) q)) .er
theorem aGj{j k:Nat}{p q tp:Pos}{tk:Nat}{a:SV}{x:aB}(gb:Gl K.C (nm K.sl j) (.type "bytes"))(gs:Gl K.C (nm K.sl k) (.type "str"))(h:eH K.sl j .globalImplicit=true)(h':eH K.sl k .globalImplicit=true)(dx:z.d dV a x):Go z dV (EV K A (.Tuple [.Name (nm K.sl j) p,.Name (nm K.sl k) q] tk tp) x) (Aa a st):=
 .onB (T:=EV K A (.Tuple [.Name (nm K.sl j) p,.Name (nm K.sl k) q] tk tp)) dx (fun b t=>.on fun Q hq=>wpAny_Tuple (xW (nV h gb (xW (nV h' gs (SG ⟨bT rfl,call_isinstance (isinstance_tuple aAV) ⟨iE _ _ _,nY _ rfl,fun tk=>hq _ _ rfl (z.push (mG [.type "bytes",.type "str"] 0) tk) (.bool true) Z.le0 rfl⟩⟩)))):aI (aK K.C.prog K.C.w) A (pT [(false,eval (.Name (nm K.sl j) p) K.env),(false,eval (.Name (nm K.sl k) q) K.env)]) _ nE z.s)) .er
noncomputable def aAA(i k:Nat)(g:Gl K.C (nm K.sl i) (.builtin "isinstance"))(gs:Gl K.C (nm K.sl k) (.type "str"))(a:PE K)(h:eH K.sl i .globalImplicit=true:=by rfl)(h':eH K.sl k .globalImplicit=true:=by rfl):PE K:=
 ⟨bd a.m Ac,fun e=>.Call (.Name (nm K.sl i) (xq e)) [a.r (dR (xs e)),.Name (nm K.sl k) (hd2 (xs e)).pos] [] e.pos,2,fun _=>rfl,fun e A _ z=>
  (a.ok _ z).ru (u:=EV K A (.Name (nm K.sl k) (hd2 (xs e)).pos)) (fun Q q=>xV (congrArg (fZ _) (rX (a.hc _) _)) (nV h g (NG q))) fun z₁ l₁ dx=>aGk gs h' dx⟩
noncomputable def aAz(i j k:Nat)(g:Gl K.C (nm K.sl i) (.builtin "isinstance"))(gb:Gl K.C (nm K.sl j) (.type "bytes"))(gs:Gl K.C (nm K.sl k) (.type "str"))(a:PE K)(h:eH K.sl i .globalImplicit=true:=by rfl)(h':eH K.sl j .globalImplicit=true:=by rfl)(h'':eH K.sl k .globalImplicit=true:=by rfl):PE K:=
 ⟨bd a.m Aa,fun e=>.Call (.Name (nm K.sl i) (xq e)) [a.r (dR (xs e)),.Tuple [.Name (nm K.sl j) (dR (xs (hd2 (xs e)))).pos,.Name (nm K.sl k) (hd2 (xs (hd2 (xs e)))).pos] (xk (hd2 (xs e))) (hd2 (xs e)).pos] [] e.pos,2,fun _=>rfl,fun e A _ z=>
  (a.ok _ z).ru (u:=EV K A (.Tuple [.Name (nm K.sl j) (dR (xs (hd2 (xs e)))).pos,.Name (nm K.sl k) (hd2 (xs (hd2 (xs e)))).pos] (xk (hd2 (xs e))) (hd2 (xs e)).pos)) (fun Q q=>xV (congrArg (fZ _) (rX (a.hc _) _)) (nV h g (NG q))) fun z₁ l₁ dx=>aGj gb gs h' h'' dx⟩
noncomputable def Iv(p:PV):Option Bool:=match p with
 |.bool b=>some b
 |_=>none
theorem aBH{C:Cx}{W:Addr→Option bS}(p:PV)(b:Bool)(v:aB)(h:Iv p=some b)(d:bE C W p v):Value.bool b=v:=by
 cases p <;> first | exact(iW h)▸d | cases h
noncomputable def WG:List Bool→Bool
 | []=>false
 |b::r=>match b with
  |true=>true
  |false=>WG r
theorem aAZ(bs:List Bool):(uQ bs.length).any (fun i=>bs.getD i false)=WG bs:=by
 induction bs with
 |nil=>rfl
 |cons b bs ih=>
  rw [tP,Hh,List.any_cons,List.any_map,show((fun i=>(b::bs).getD i false)∘lK)=fun i=>bs.getD i false from rfl,ih]
  cases b <;> rfl
noncomputable def MU(a:SV):M SV:=match a with
 |.pv (.lst xs)=>eW (lP Iv xs) fun bs=>rt (.pv (.bool (WG bs)))
 |_=>er
theorem aLe:jW K (fun v=>call (.builtin "any") [v]) MU:=fun {A st} z a x dx=>by
 cases a with
 |ref=>exact .er
 |pv p=>cases p with
  |lst xs=>
   cases dx with | mk l vs ep hw hl=>
   rw [iC] at hl
   refine .onSome fun bs hb=>.on fun Q q=> ?_
   have ds:=DK aBH xs hb hl
   have ho:=z.R.val _ _ hw
   refine call_any_walk (Gg ⟨_,ho,rfl,_,rfl⟩ ⟨_,_,_,_,_,_,fun i=>bs.getD i false,rfl,Walks.list (A:=A.in1) z.hA.handled z.s.heap.objs.size l (qR (mI ho)) vs.toArray,⟨⟨_,nY _ rfl,rfl,rfl⟩,⟨_,gR _ ho,rfl,_,rfl⟩⟩,?_,?_⟩)
   ·intro i v s' Q' E' hP hQ
    have hv:vs[i]? =some v:=by simpa using hP
    obtain⟨b,hb⟩:∃ b,bs[i]? =some b:=⟨_,tO (by rw [ds.len];exact FE hv)⟩
    obtain⟨v',hv',e⟩:=ds.get hb
    rw [hv] at hv';cases hv';subst e
    have hQ':Q' (bs.getD i false) s':=hQ
    rw [LQ,hb] at hQ'
    exact uI hQ'
   ·intro h' tk hk
    rw [show vs.toArray.size=bs.length from by rw [hZ,ds.len],aAZ]
    exact q _ _ rfl (z.to _ (z.R.still.to h' tk) fun b o e=>hk b o (by simp;exact qR (mI e)) (gR _ e)) (.bool _) Z.le0 rfl
  |_=>exact .er
end
section
variable{prog:hO}{w:dW}{A:aR}{E:aB→aG→Prop}{s:aG}
theorem aFX{a:Addr}{xs:Array aB}{k:Nat}{name:Str}{Q:Option aB→aG→Prop}
  (hx:s.heap.get? a=some {cls:=.type "list",data:=.seq xs k}) (hmiss:xT (.type "list") name=pure none) (hname:(["__module__","__name__","__qualname__","__doc__","__annotations__"]:List Str).contains name=false) (hA:A.handled=none)
  (h:∀ h' tk,(∀ b o,s.heap.get? b=some o→h'.get? b=some o)→Q none {s with heap:=h',toks:=tk}) (hsz:name.length+100≤fO:=by size_fits):
  aI (aK prog w) A (getAttr? (.ref a) name) Q E s:=by
 obtain⟨hp,g,d,tk,os⟩:=s
 have hT:∀ tk',(⟨hp,g,d,tk',os⟩:aG).TypeIs (.ref a) "list":=fun _=>⟨_,hx,rfl⟩
 have f1:=sub_AttributeError
 have f3:=F.slot_list_getattribute.lookup
 have f4:=F.slot_list_getattribute.bind (.ref a)
 have f5:=am_list_getattr_none
 have key:∀ tk t,aI (aK prog w) A (getAttrBy (.ref a) (.str name t) false) (fun _ _=>False) (fun e s'=>∃ e' h' tk',e= .ref e'∧s'=⟨h',g,d,tk',os⟩∧Heap.NewExcOf hp h' e' "AttributeError") ⟨hp,g,d,tk,os⟩:=by
  intro tk t
  unfold getAttrBy
  repeat (any_goals (first | assumption | exact hT _ | ((with_reducible show aI _ _ (call (Value.builtin "list.__getattribute__") _ _) _ _ _);refine mO F.slot_list_getattribute (hT _) am_entry_list_getattribute (F.args_list_getattribute_2 _ _) (meets_getattribute_miss_list a xs k #[] name _ hmiss hname hsz) ⟨hx,hA,fun h' tk' e hx'=> ?_⟩) | wp_step))
  obtain⟨t',u',he⟩:=hx'.there
  unfold getattributeRaised
  repeat (any_goals (first | assumption | wp_step))
  exact⟨_,_,_,rfl,rfl,hx'.of⟩
 refine aF (wpAny_mkText (aF (Fz (nQ (key _ _) (fun _ _ x=>x.elim) ?_))))
 rintro e s' ⟨e',h',tk',rfl,rfl,hn⟩
 obtain⟨ob,vs,he,hc,_⟩:=hn.there
 refine aF (RN (T:="AttributeError") (b:=true) ⟨_,he,hc⟩ f1 ?_)
 exact bF (h _ _ hn.keeps)
end
theorem QM:plainId "dict.update.loop"=true:=by kernel_rfl
theorem Mf:rE table "dict.update.loop"=some Builtin.«dict.update.loop»:=wU (by kernel_rfl)
theorem aHJ:xT (.type "list") "keys"=pure none:=by rw [mH,lR];kernel_rfl
section
variable{K:KK}{A:aR}{st st':St}{z:Z K A st}{n:Nat}
theorem JL:mJ "dict" "items" "dict.items":=⟨Gw,F.slot_dict_items,F.type_dict_items⟩
noncomputable def qF(a:SV):M SV:=match a with
 |.pv (.dct kd ks vs)=>gd (!gG kd) (rt (.pv (.itv kd ks vs)))
 |_=>er
theorem KJ:jW K (fun x=>call (.builtin "dict.items") [x]) qF:=fun {A st} z a x dx=>by
 cases a with
 |ref=>exact .er
 |pv p=>cases p with
  |dct kd ks vs=>
    refine .gd fun hp=> ?_
    have hp:=QE hp
    cases dx with | mk l o hw ns dd=>
    obtain⟨vals,_,_,hd⟩:=DX (hp:=z.s.heap) (W:=z.X.W) (P:=bE K.C z.X.W) hp (z.R.val _ _ hw) (by rw [iC,iC] at dd;exact dd)
    exact .fro _ z.s.toks (fun le e=>AE.mk (p:=tL _ (iG _ kd ks (DenL _ _ ks) (DenL _ _ vs))) _ l e (bE.mono le (.dct kd ks vs) _ (tL.mk (p:=iG _ kd ks (DenL _ _ ks) (DenL _ _ vs)) l o hw ns dd))) fun Q q=>
     NH F.slot_dict_items hd.typeIs F.entry_dict_items (F.args_dict_items_1 _) (meets_dict_items (kk K.C kd) l ns) ⟨⟨_,hd⟩,q⟩
  |_=>exact .er
noncomputable def Xt.adopt(X:Xt)(h:Heap)(as:List Addr):Xt:=⟨fun b=>match decide (b∈as) with
 |true=>(h.get? b).map .fro
 |false=>X.W b,X.ρ,X.δ⟩
theorem Ik{X:Xt}{h:Heap}{as:List Addr}{a:Addr}(ha:a∈as):(X.adopt h as).W a=(h.get? a).map .fro:=by
 show(match decide (a∈as) with | true=>_ | false=>_)=_;rw [decide_eq_true ha]
theorem WD{X:Xt}{h:Heap}{as:List Addr}{a:Addr}(ha:a∉as):(X.adopt h as).W a=X.W a:=by
 show(match decide (a∈as) with | true=>_ | false=>_)=_;rw [decide_eq_false ha]
theorem Tr.adopt{X:Xt}{h:Heap}{as:List Addr}(n:Nat)(h0:∀ a∈as,X.W a=none):Tr (fun _=>false) X h n (X.adopt h as) h n:=by
 have k:∀ a r,X.W a=some r→(X.adopt h as).W a=some r:=fun a r e=>(WD fun q=>by rw [h0 a q] at e;cases e).trans e
 refine⟨⟨fun a o e=>k a _ e,fun _ _=>rfl,cX _⟩,fun a r e _=>⟨k a r e,rfl⟩,fun a r e=> ?_⟩
 by_cases q:a∈as
 ·rw [Ik q] at e;obtain⟨o,ho,rfl⟩:=Option.map_eq_some_iff.mp e;exact .inr ho
 ·rw [WD q] at e;exact .inl ⟨e,rfl⟩
noncomputable def Z.adopt(z:Z K A st)(as:List Addr)(h0:∀ a∈as,z.X.W a=none):Z K A st:=⟨z.X.adopt z.s.heap as,z.s,z.hA,(Tr.adopt _ h0).rel z.R z.R.still (fun _=>rfl) rfl rfl (fun _=>rfl) fun _ _ e=>.inl ⟨e,rfl,rfl⟩⟩
noncomputable def QK:List PV→List PV→List PV
 |k::ks,vs=>match vs with
  |v::vs=>.tup [k,v]::QK ks vs
  | []=>[]
 | [],_=>[]
theorem aJo{C:Cx}{W:Addr→Option bS}(ks:List PV):∀ {vs:List PV} {as:List Addr},ks.length=as.length→vs.length=as.length→(∀(i:Nat) (k v:PV) (a:Addr),ks[i]? =some k→vs[i]? =some v→as[i]? =some a→∃ key x,bE C W k key∧bE C W v x∧W a=some (.fro (mG [key,x] 0)))→aS (bE C W) (QK ks vs) (as.map qB):=by
 induction ks with
 |nil=>intro vs as h _ _;cases as with
  |nil=>exact rfl
  |cons=>cases h
 |cons k ks ih=>intro vs as h h' p;cases as with
  |nil=>cases h
  |cons a as=>cases vs with
   |nil=>cases h'
   |cons v vs=>
    obtain⟨key,x,d1,d2,hw⟩:=p 0 k v a rfl rfl rfl
    exact .mk (oI.mk (p:=DenL C W [k,v]) a [key,x] 0 hw (.mk _ _ d1 (.mk _ _ d2 rfl))) (ih (vW h) (vW h') fun i k v a e1 e2 e3=>p (i+1) k v a e1 e2 e3)
noncomputable def qG(a:SV):M SV:=match a with
 |.pv (.itv kd ks vs)=>gd (!gG kd && decide (ks.length≤1000000)) (Bw (QK ks vs))
 |_=>er
theorem KL:jW K (fun v=>call (.type "list") [v]) qG:=fun {A st} z a x dx=>by
 cases a with
 |ref=>exact .er
 |pv p=>cases p with
  |itv kd ks vs=>
    refine .gd fun e=>.on fun Q q=> ?_
    have e:=hJ _ _▸e
    have hp:=QE e.1
    cases dx with | mk r l hr dd=>
    cases dd with | mk _ o hw ns dd=>
    rw [iC,iC] at dd
    obtain⟨vals,dv,hl,o',es,ep,ho',hc,hd',hk,pr,hn⟩:=DX (hp:=z.s.heap) hp (z.R.val _ _ hw) dd
    have hlen:(ks.zip vals).length=ks.length:=by rw [←bQ (f:=Prod.fst),sC hl]
    refine kdx_call (knd:=kk K.C kd) (kvs:=ks.zip vals) (ep:=ep) z.hA.handled ⟨_,z.R.val _ _ hr,rfl,rfl⟩ ⟨o',es,ho',hc,hd',hk,pr,hn⟩ (by rw [hlen];exact gH (of_decide_eq_true e.2)) fun h' tk acc c as Kp hS hl' hG hacc=> ?_
    rw [hlen] at hl'
    have hG0:∀ a∈as,z.X.W a=none:=fun a h=>z.R.fresh (DA (hG.above a h))
    have zt:=z.to {z.s with heap:=h',toks:=tk} (z.R.still.to h' tk) Kp
    have fl:=(Tr.adopt (X:=z.X) (h:=h') st.cells.length hG0).low.fro
    have dL:aS (bE K.C (z.X.adopt h' as).W) (QK ks vs) (as.map qB):=aJo ks hl'.symm (dv.len.trans (hl.symm.trans hl'.symm)) fun i k v a e1 e2 e3=>by
     obtain⟨key,k',x,f1,f2,f3⟩:=hG.pairs i a e3
     have g1:((ks.zip vals).map (·.1))[i]? =some k':=by rw [iR,f1];rfl
     have g2:((ks.zip vals).map (·.2))[i]? =some x:=by rw [iR,f1];rfl
     rw [sC hl,e1] at g1;cases g1
     replace g2:=(Gn hl)▸g2
     obtain⟨y,hy,dy⟩:=dv.get e2
     rw [g2] at hy;cases hy
     exact⟨key,x,((zK hp).mp f2).2,bE.mono fl _ _ dy,by rw [Ik (nZ e3),f3];rfl⟩
    replace hS:=(show acc=(as.map qB).toArray by rw [←hacc,Array.toArray_toList])▸hS
    have hno:z.s.heap.objs.size∉as:=fun h=>GR _ (hG.above _ h)
    exact((z.to {z.s with heap:=h',toks:=tk} (z.R.still.to h' tk) Kp).adopt as hG0).listC (h':=h') (tk:=tk) (fun _ _ e=>e) ((WD hno).trans (z.R.fresh (cX _))) hS dL fun z'' x l d=>q _ _ rfl z'' x (Xt.le.trans ((Tr.adopt (X:=z.X) (h:=h') _ hG0).le (fun _=>rfl) fun _=>rfl) l) d
  |_=>exact .er
end
noncomputable def jV(kd:KD):List PV→List PV→List PV→Option (List PV×List PV)
 | [],ks,vs=>some (ks,vs)
 |x::r,ks,vs=>match asTup x with
  |some l=>RJ l fun k v=>match kD kd k with
   |true=>jV kd r (dY ks vs k v).1 (dY ks vs k v).2
   |false=>none
  |none=>none
where asTup (x:PV):Option (List PV):=match x with
 |.tup l=>some l
 |_=>none
theorem aBo{x:PV}{l:List PV}(h:jV.asTup x=some l):x= .tup l:=by cases x <;> first | exact congrArg _ (iW h) | cases h
theorem aJA{kd:KD}{x:PV}{r ks vs:List PV}{o:List PV×List PV}(h:jV kd (x::r) ks vs=some o):∃ k v,x= .tup [k,v]∧kD kd k=true∧jV kd r (dY ks vs k v).1 (dY ks vs k v).2=some o:=by
 have h:(match jV.asTup x with | some l=>RJ l (fun k v=>match kD kd k with | true=>jV kd r (dY ks vs k v).1 (dY ks vs k v).2 | false=>none) | none=>none)=some o:=h
 cases q:jV.asTup x with
 |none=>rw [q] at h;cases h
 |some l=>
  rw [q] at h
  obtain⟨k,v,rfl,h1⟩:=Yj h
  cases q':kD kd k with
  |false=>rw [q'] at h1;cases h1
  |true=>rw [q'] at h1;exact⟨k,v,aBo q,q',h1⟩
theorem aOR(kvs:List (PV×aB))(k:PV)(v:aB):(pU kvs k v).length≤kvs.length+1:=by
 unfold pU
 split
 ·rw [bQ];exact oE _
 ·rw [fE];exact cX _
theorem aQH{kvs:List (PV×aB)}:(kvs.map (·.1)).zip (kvs.map (·.2))=kvs:=by rw [List.zip_map'];exact GO _
section
variable{C:Cx}{W:Addr→Option bS}
theorem aED{kd:KD}{kvs:List (PV×aB)}{ws:List PV}{k v:PV}{x:aB}{h:Heap}{d:Addr}(hp:gG kd=false)(hk:kd.fits k)(hd:h.DictOf (kk C kd) d kvs)(dw:aS (bE C W) ws (kvs.map (·.2)))(dv:bE C W v x):(dY (kvs.map (·.1)) ws k v).1=(pU kvs k x).map (·.1)∧aS (bE C W) (dY (kvs.map (·.1)) ws k v).2 ((pU kvs k x).map (·.2)):=by
 obtain⟨o,es,ep,ho,hc,hd',hko,pr,hn⟩:=hd
 have:=XO (Aq (W:=W) hp pr).2.2.1 hk dw (by rw [bQ,bQ]) hn dv
 rwa [aQH] at this
theorem aPF{kd:KD}(hp:gG kd=false){A:aR}{h0:Heap}{l it d:Addr}{all:Array aB}{R:Result→aG→Prop}(hA:A.handled=none)(fro:∀ a o,W a=some (.fro o)→h0.get? a=some o)
  (hl0:h0.IsList l all) (hit0:h0.objs.size≤it) (hd0:h0.objs.size≤d) (hne:it≠d) (xs:List PV):
  ∀(vs:List aB) (i:Nat) (s:aG) (kvs:List (PV×aB)) (ws ks' vs':List PV),all.toList.drop i=vs→aS (bE C W) xs vs→jV kd xs (kvs.map (·.1)) ws=some (ks',vs')→aS (bE C W) ws (kvs.map (·.2))→kvs.length+xs.length≤1000000→
   (∀ b o,h0.get? b=some o→s.heap.get? b=some o)→s.heap.IsListIter it l i→s.heap.DictOf (kk C kd) d kvs→
   (∀ h' tk kvs',(∀ b o,h0.get? b=some o→h'.get? b=some o)→h'.DictOf (kk C kd) d kvs'→ks'=kvs'.map (·.1)→aS (bE C W) vs' (kvs'.map (·.2))→R (.ok (.ret .none)) {s with heap:=h',toks:=tk})→
   codeAny (aK C.prog C.w) A (.builtin "dict.update.loop" ⟨[.ref d,.ref it,rawInt i,.none],[]⟩) R s:=by
 have no:∀ {a:Addr},h0.objs.size≤a→∀ b o,h0.get? b=some o→b≠a:=fun h b o e q=>absurd (mI e) ((q).symm▸Nat.not_lt.mpr h)
 have at_:∀ {vs:List aB} {i:Nat},all.toList.drop i=vs→all[i]? =vs[0]?:=fun hv=>by rw [←hv,LU,Nat.add_zero,FZ]
 induction xs with
 |nil=>
  intro vs i s kvs ws ks' vs' hv dl hpt dw hz hk hit hd hR
  subst dl;cases hpt
  refine codeAny_builtin Mf ?_
  refine(RT QM _).symm▸?_
  exact aF (Yw hA hit (let⟨o,ho,r⟩:=hl0;⟨o,hk _ _ ho,r⟩) (at_ hv) fun h' ex=>aF (bF (bF (hR h' s.toks kvs (fun b o e=>ex b o (no hit0 b o e) (hk _ _ e)) (let⟨o,es,ep,ho,r⟩:=hd;⟨o,es,ep,ex _ _ hne.symm ho,r⟩) rfl dw))))
 |cons x xs ih=>
  intro vs i s kvs ws ks' vs' hv dl hpt dw hz hk hit hd hR
  obtain⟨k,v,rfl,q,hpt⟩:=aJA hpt
  have q:=JB q
  cases dl with | mk w ws' dx dr=>
  cases dx with | mk a tv m hw ht=>
  cases ht with | mk vk _ dk ht=>
  cases ht with | mk vv _ dv ht=>
  subst ht
  have hdr:all.toList.drop (i+1)=ws':=by have:=congrArg (List.drop 1) hv;rwa [List.drop_drop] at this
  have hot:=fro _ _ hw
  refine codeAny_builtin Mf ?_
  refine(RT QM _).symm▸?_
  refine aF (Yx hit (let⟨o,ho,r⟩:=hl0;⟨o,hk _ _ ho,r⟩) (at_ hv) fun h' hit' sb=> ?_)
  have hd':h'.DictOf (kk C kd) d kvs:=let⟨o,es,ep,ho,r⟩:=hd;⟨o,es,ep,(sb.2 _ hne.symm).trans ho,r⟩
  have K':∀ b o,h0.get? b=some o→h'.get? b=some o:=fun b o e=>(sb.2 b (no hit0 b o e)).trans (hk _ _ e)
  have hot':=K' _ _ hot
  refine aF (pD (aF (wpAny_tryCatch ?_)))
  refine aF (LK (T:="tuple") ⟨_,hot',rfl⟩ ?_)
  rw [if_pos (by decide)]
  refine aF (RP hot' rfl (bF ?_))
  refine pD (wpAny_dictSet_pairs ((zK hp).mpr ⟨q.2,dk⟩) hd' (fun h2 hd2 sb2=> ?_) (by rw [sizeLine_eq];exact aP (TM hz) (by decide)))
  obtain⟨e1,e2⟩:=aED hp q.2 hd' dw dv
  rw [e1] at hpt
  exact bF ⟨De QM _,ih ws' (i+1) {s with heap:=h2,toks:=s.toks+1} (pU kvs k vv) _ ks' vs' hdr dr hpt e2 (aP (lJ (aOR kvs k vv) _) (aP (dQ (vX _ _)) hz))
   (fun b o e=>(sb2.2 b (no hd0 b o e)).trans (K' _ _ e)) (let⟨o,ho,r⟩:=hit';⟨o,(sb2.2 _ hne).trans ho,r⟩) hd2 fun h3 tk kvs' a1 a2 a3 a4=>hR h3 tk kvs' a1 a2 a3 a4⟩
end
section
variable{K:KK}{A:aR}{st st':St}{z:Z K A st}{n:Nat}
noncomputable def yY(kd:KD)(a:SV):M SV:=iD a (fun xs=>gd (!gG kd && decide (xs.length≤1000000)) (eW (jV kd xs [] []) fun r st=>some (.ref st.cells.length,⟨st.loc,st.cells++[.dict kd r.1 r.2]⟩))) er
theorem Vo(kd:KD):jW K (fun v=>call (.type "dict") [v]) (yY kd):=fun {A st} z a x dx=>
 .onL (T:=fun x=>K.wp A (call (.type "dict") [x])) dx (fun xs l ws ep hol dl=>.gd fun e=>.onSome fun r hput=>.on fun Q q=>by
  have e:=hJ _ _▸e
  have hp:=QE e.1
  refine callType_codes (Q₁:=fun obj s₁=>obj= .ref z.s.heap.objs.size∧s₁= {z.s with heap:=z.s.heap.push yZ}) F.kt_called_dict (F.kt_typeCall_dict_1 _) F.entry_dict_init (kt_code_dict_new _ ⟨rfl,rfl⟩) ?_
  rintro obj s₁ ⟨rfl,rfl⟩
  have hnew:(z.s.heap.push yZ).DictOf (kk K.C kd) z.s.heap.objs.size []:=Heap.DictOf.new z.s.heap
  have hl1:(z.s.heap.push yZ).get? l=some (bY ws ep):=gR _ hol
  refine⟨hnew.typeIs,F.args_dict_init_2 _ _,?_⟩
  refine aF ?_
  refine aF (wpAny_notOrdered_dict hnew.typeIs ?_)
  refine bF ?_
  show aI _ _ (Builtin.Dict.updateFrom "dict.__init__" z.s.heap.objs.size (.ref l) [] .none) _ _ _
  refine aF (LK (T:="list") ⟨_,hl1,rfl⟩ ?_)
  rw [if_pos (by decide)]
  refine aF (aFX hl1 aHJ (by kernel_rfl) z.hA.handled fun h2 tk K2=> ?_)
  refine aF (xU (aF (Gg ⟨_,K2 _ _ hl1,rfl,_,rfl⟩ ?_)))
  have hnew2:h2.DictOf (kk K.C kd) z.s.heap.objs.size []:=let⟨o,es,ep,ho,r⟩:=hnew;⟨o,es,ep,K2 _ _ ho,r⟩
  have hlt:z.s.heap.objs.size < h2.objs.size:=let⟨o,es,ep,ho,r⟩:=hnew2;mI ho
  refine bF ⟨De QM _,aPF hp (A:=A.in1) (W:=z.X.W) (h0:=z.s.heap) (all:=ws.toArray) z.hA.handled z.froG ⟨_,hol,rfl,_,rfl⟩ (DA hlt) (cX _) (Nat.ne_of_gt hlt) xs ws 0 _ [] [] r.1 r.2 rfl dl hput rfl (by rw [LV,kG];exact of_decide_eq_true e.2)
    (fun b o e=>gR _ (K2 _ _ (gR _ e))) ⟨_,nY _ rfl,rfl,rfl⟩ (let⟨o,es,ep,ho,r⟩:=hnew2;⟨o,es,ep,gR _ ho,r⟩) fun h' tk' kvs' K' hd' e1 d'=>⟨rfl,?_⟩⟩
  obtain⟨o',ho',ok'⟩:=Cn (W:=z.X.W) hp hd' d'
  rw [←e1] at ok'
  exact Go.adC (z:=z.to {z.s with heap:=h',toks:=tk'} (z.R.still.to h' tk') K') (c:=.dict kd r.1 r.2) (z.R.fresh (cX _)) ho' (fun l=>ok'.imp (fun _=>bO.mono l) (fun _=>bO.mono l) _) id _ _ rfl Q fun z'' x l d=>q _ _ rfl z'' x l d) .er
end
noncomputable def RA(j:Nat)(p:PV):SV→SV
 |.ref i=>match bR i j with
  |true=>.pv p
  |false=>.ref i
 |.pv v=>.pv v
noncomputable def YZ:List SV→Option Nat
 | []=>none
 |x::r=>match x with
  |.ref j=>some j
  |.pv _=>YZ r
section
variable{K:KK}{A:aR}{st st':St}{z:Z K A st}{n:Nat}
theorem aOT{C:Cx}{X:Xt}{m j:Nat}{p:PV}(h:bE C X.W p (.ref (X.ρ j)))(x:SV)(v:aB)(d:fG C X m x v):fG C X m (RA j p x) v:=by
 cases x with
 |pv q=>exact d
 |ref i=>
  show fG C X m (match bR i j with | true=>.pv p | false=>.ref i) v
  cases q:bR i j with
  |false=>exact d
  |true=>obtain⟨_,rfl⟩:=d;cases sG q;exact h
theorem Xj{C:Cx}{X:Xt}{m j:Nat}{p:PV}(h:bE C X.W p (.ref (X.ρ j)))(xs:List SV)(vs:List aB)(d:fM C X m xs vs):fM C X m (xs.map (RA j p)) vs:=aS.map xs vs (aS.imp (aOT h) xs vs d)
noncomputable def LO(K:KK)(m:M Unit):Prop:=∀ {A:aR} {st:St} (z:Z K A st),Go z dU (fun Q s=>Q () s) (m st)
noncomputable def aJr(c:SO):Option (List SV):=match c with
 |.inst _ fs=>some fs
 |.sdict _ _ vs=>some vs
 |.dict ..=>some []
 |_=>none
noncomputable def Dj(k j:Nat)(p:PV):M Unit:=fun st=>match st.cells[k]? with
 |some c=>match c with
  |.inst c fs=>some ((),fD st k (.inst c (fs.map (RA j p))))
  |.sdict kd ks vs=>some ((),fD st k (.sdict kd ks (vs.map (RA j p))))
  |_=>none
 |none=>none
noncomputable def Oc(k:Nat):M Unit:=fun st=>eW (st.cells[k]?) (fun c=>eW (aJr c) fun fs=>match YZ fs with
 |some j=>bd (cC (.ref j)) fun v=>lH v fun p=>Dj k j p
 |none=>rt ()) st
theorem aFN{j:Nat}{v:SV}(h:cC (.ref j) st=some (v,st')):j < st.cells.length:=by
 have h:(match st.cells[j]? with | some c=>OP j c st | none=>none)=some (v,st'):=h
 cases q:st.cells[j]? with
 |none=>rw [q] at h;cases h
 |some c=>exact(List.getElem?_eq_some_iff.mp q).1
theorem Eh(a:Addr)(h:Heap):uM a h h:=⟨rfl,fun _ _=>rfl⟩
theorem aGp{k j:Nat}{p:PV}(d:bE K.C z.X.W p (.ref (z.X.ρ j))):Go z dU (fun Q s=>Q () s) (Dj k j p st):=by
 unfold Dj
 cases q:st.cells[k]? with
 |none=>exact .no
 |some c=>
  have ck:=z.R.cells _ _ q
  cases c with
  |inst c fs=>cases ck with | mk o hw hw' ne hi ho f=>exact .setC (D:=dU) (x:=()) z.s.heap z.s.toks hw (Eh _ _) ⟨_,hi⟩ (.mk o hw hw' ne hi ho (by rw [bQ];exact f.imp (Xj d fs) o)) trivial fun Q q=>q
  |sdict kd ks vs=>cases ck with | mk o hw ho f=>exact .setC (D:=dU) (x:=()) z.s.heap z.s.toks hw (Eh _ _) ⟨_,ho⟩ (.mk o hw ho (f.imp (fun _ h=>h) (Xj d vs) o)) trivial fun Q q=>q
  |_=>exact .no
theorem Ox{j:Nat}{k:PV→M Unit}(h:∀ {st₁:St} (z₁:Z K A st₁) p,z.le z₁→cC (.ref j) st=some (.pv p,st₁)→bE K.C z₁.X.W p (.ref (z₁.X.ρ j))→Go z₁ dU (fun Q s=>Q () s) (k p st₁)):Go z dU (fun Q s=>Q () s) (bd (cC (.ref j)) (fun v=>lH v k) st):=fun a s e Q q=>lE e fun v st₁ e₁ e₂=>by
 have hj:=aFN e₁
 refine fA z (a:=.ref j) (x:=.ref (z.X.ρ j)) ⟨hj,rfl⟩ v st₁ e₁ (fun y s=>y= .ref (z.X.ρ j)→Q () s) (fun z₁ y l d ey=> ?_) rfl
 subst ey
 cases v with
 |ref=>cases e₂
 |pv p=>exact h z₁ p l e₁ (by rw [l.low.ρ j hj];exact d) a s e₂ Q fun z' x l'=>q z' x (l.t l')
theorem aGb{k:Nat}:LO K (Oc k):=fun z=>.onSome fun c _=>.onSome fun fs _=>by
 cases YZ fs with
 |none=>exact .rt (D:=dU) (x:=()) trivial fun Q q=>q
 |some j=>exact Ox fun z₁ p _ _ d=>aGp d
noncomputable def OQ:Nat→Nat→M Unit
 |0,_=>rt ()
 |m+1,k=>bd (Oc k) fun _=>OQ m k
theorem Ol(m:Nat){k:Nat}:LO K (OQ m k):=by
 induction m with
 |zero=>exact fun z=>.rt (D:=dU) (x:=()) trivial fun Q q=>q
 |succ m ih=>exact fun z=>(aGb z).ru (u:=fun _ Q s=>Q () s) (fun Q q=>q) fun z₁ l _=>ih z₁
noncomputable def Ob(m:Nat)(a:SV):M SV:=match a with
 |.ref k=>bd (OQ m k) fun _=>cC (.ref k)
 |.pv x=>rt (.pv x)
theorem aGa{m:Nat}:GI K (Ob m):=fun {A st} z a x d=>by
 cases a with
 |pv p=>exact .same d fun Q q=>q
 |ref k=>exact(Ol m z).ru (u:=fun _ Q s=>Q x s) (fun Q q=>q) fun z₁ l _=>fA z₁ (l.v d)
noncomputable def Od(m:Nat)(a:SV):M SV:=match a with
 |.ref k=>bd (OQ m k) fun _ st=>eW (st.cells[k]?) (fun c=>match c with
  |.sdict kd ks vs=>eW (pN vs) fun xs st=>some (.ref k,fD st k (.dict kd ks xs))
  |.dict ..=>rt (.ref k)
  |_=>er) st
 |.pv x=>rt (.pv x)
theorem aGc{m:Nat}:GI K (Od m):=fun {A st} z a x d=>by
 cases a with
 |pv p=>exact .same d fun Q q=>q
 |ref k=>
  refine(Ol m z).ru (u:=fun _ Q s=>Q x s) (fun Q q=>q) fun {_ st₁ _} z₁ l _=>.onSome fun c q=> ?_
  have d₁:=l.v d
  have ck:=z₁.R.cells _ _ q
  cases c with
  |sdict kd ks vs=>cases ck with | mk o hw ho f=>exact .onSome fun xs e=>.setC (D:=dV) (x:=x) z₁.s.heap z₁.s.toks hw (Eh _ _) ⟨_,ho⟩ (.mk o hw ho (f.imp (fun _ h=>h) (fun ws dv=>MT vs dv xs e) o)) d₁ fun Q q=>q
  |dict=>exact .same d₁ fun Q q=>q
  |_=>exact .er
noncomputable def kP(vs:List SV):M SV:=QN vs fun xs=>rt (.pv (.lst xs))
noncomputable def nA(as:kH K):PE K:=⟨bd as.m kP,fun e=>.List (as.r (xs e)) e.pos,3,fun _=>rfl,fun e _ _ z=>(as.ok _ _ z).ru (fun Q q=>wpAny_List q) fun {_ _ ws} z₁ l₁ ds=>.plains ds fun xs dl hz=>.fro (bY ws 0) z₁.s.toks (fun l e=>oI.mk (p:=DenL _ _ xs) _ ws 0 e (by rw [iC];exact aS.imp (bE.mono l) _ _ dl)) fun Q q=>⟨gH hz,q⟩⟩
noncomputable def ZK(i:Nat):M Unit:=fun st=>match st.loc[i]? with
 |some o=>match o with
  |some v=>match v with
   |.ref k=>bd (cC (.ref k)) (fun v=>lH v fun p st=>some ((),⟨st.loc.set i (some (.pv p)),st.cells⟩)) st
   |.pv _=>some ((),st)
  |none=>some ((),st)
 |none=>some ((),st)
theorem aFM{j:Nat}{v:SV}(h:cC (.ref j) st=some (v,st')):st'.loc=st.loc:=by
 have h:(match st.cells[j]? with | some c=>OP j c st | none=>none)=some (v,st'):=h
 cases q:st.cells[j]? with
 |none=>rw [q] at h;cases h
 |some c=>
  replace h:=(q)▸h
  cases c with
  |list=>cases h;rfl
  |dict=>cases h;rfl
  |inst c fs=>
   have h:(match pN fs with | some xs=>some (SV.pv (.obj c xs),fD st j .dead) | none=>none)=some (v,st'):=h
   cases q':pN fs with
   |none=>rw [q'] at h;cases h
   |some xs=>rw [q'] at h;cases h;rfl
  |_=>cases h
theorem Z.setVarAs(z:Z K A st){i:Nat}{a b:SV}(hl:st.loc[i]? =some (some a))(conv:∀ v,fG K.C z.X st.cells.length a v→fG K.C z.X st.cells.length b v):uU K.C z.X K.sl K.env ⟨st.loc.set i (some b),st.cells⟩ z.s:=by
 have F:=z.R.fr
 have get:∀ {j:Nat} {sv:SV},(st.loc.set i (some b))[j]? =some (some sv)→∃ sw,st.loc[j]? =some (some sw)∧∀ v,fG K.C z.X st.cells.length sw v→fG K.C z.X st.cells.length sv v:=fun {j sv} e=>(zU e).elim (fun q=>⟨a,by rw [q.1];exact hl,by cases q.2;exact conv⟩) fun q=>⟨sv,q.2,fun _ h=>h⟩
 refine⟨z.R.toRelC,F.st,F.nsW,?_,fun j x e=> ?_,fun j x sv e e'=> ?_⟩
 ·obtain⟨m,hm,hs⟩:=F.ns
  exact⟨m,hm,fun j x sv e e'=>let⟨sw,g,k⟩:=get e';let⟨v,hv,dv⟩:=hs j x sw e g;⟨v,hv,k v dv⟩⟩
 ·obtain⟨c,v₀,a1,a2,a3,a4⟩:=F.cell j x e
  exact⟨c,v₀,a1,a2,a3,fun sv e'=>let⟨sw,g,k⟩:=get e';let⟨v,hv,dv⟩:=a4 sw g;⟨v,hv,k v dv⟩⟩
 ·obtain⟨sw,g,k⟩:=get e'
  obtain⟨c,o,v,a1,a2,a3,dv⟩:=F.free j x sw e g
  exact⟨c,o,v,a1,a2,a3,k v dv⟩
theorem aGd{i:Nat}:LO K (ZK i):=fun {A st} z=>by
 unfold ZK
 cases hl:st.loc[i]? with
 |none=>exact .same (D:=dU) (x:=()) trivial fun Q q=>q
 |some o=>cases o with
  |none=>exact .same (D:=dU) (x:=()) trivial fun Q q=>q
  |some v=>cases v with
   |pv=>exact .same (D:=dU) (x:=()) trivial fun Q q=>q
   |ref k=>exact Ox fun {st₁} z₁ p l e d=>.ret (st':=⟨st₁.loc.set i (some (.pv p)),st₁.cells⟩) (D:=dU) (x:=()) ⟨z₁.X,z₁.s,z₁.hA,z₁.setVarAs (a:=.ref k) (b:=.pv p) ((aFM e).symm▸hl) fun v h=>by obtain⟨_,rfl⟩:=h;exact d⟩ Z.le0 trivial fun Q q=>q
noncomputable def aAy{u:M Unit}(g:LO K u)(a:PE K):PE K:=⟨bd u fun _=>a.m,a.r,a.c,a.hc,fun e A st z=>(g z).ru (u:=fun _=>K.wp A (eval (a.r e) K.env)) (fun Q q=>q) fun z₁ l _=>a.ok e z₁⟩
end
section
variable{prog:hO}{w:dW}{A:aR}{E:aB→aG→Prop}{s:aG}
theorem aOu:Slot "bytes" "__le__" "bytes.__le__":=
 .of (owner:="bytes") (n:="__le__") (by rw [mH,lR];kernel_rfl) (by kernel_rfl) (by decide+kernel) (by decide+kernel)
  (by first | exact .inl (by kernel_rfl) | exact .inr (by decide+kernel)) (by rw [qE];kernel_rfl)
theorem aEU:rE table "bytes.__le__"=some Builtin.«bytes.__le__»:=wU (by kernel_rfl)
theorem aBg(a b:aB):lQ "bytes.__le__" ⟨[a,b],[]⟩:=by unfold lQ;kernel_rfl
theorem Tx:∀(b c:List UInt8),Builtin.Bytes.holds "__le__" (RY b c)= !nM (c.map cH) (b.map cH)
 | [],[]=>rfl
 | [],_::_=>rfl
 |_::_,[]=>rfl
 |x::xs,y::ys=>by
  rw [iS,iS,nM,RY]
  have e1:(x < y)↔bV x.toNat y.toNat=true:=by rw [Nat.blt_eq];exact VR
  have e2:(x > y)↔bV y.toNat x.toNat=true:=by rw [Nat.blt_eq];exact VR
  by_cases h:x < y
  ·have h':¬x > y:=fun g=>Nat.lt_asymm (UInt8.lt_iff_toNat_lt.mp h) (UInt8.lt_iff_toNat_lt.mp g)
   rw [if_pos h,(LL _).mp fun q=>h' (e2.mpr q),e1.mp h];rfl
  ·rw [if_neg h]
   by_cases g:x > y
   ·rw [if_pos g,e2.mp g];rfl
   ·rw [if_neg g,(LL _).mp fun q=>g (e2.mpr q),(LL _).mp fun q=>h (e1.mpr q)]
    exact Tx xs ys
theorem aGe(b c:Array UInt8)(t u:Tok):Gives (Builtin.«bytes.__le__» ⟨[.bytes b t,.bytes c u],[]⟩) (.val (.bool (!nM (c.toList.map cH) (b.toList.map cH)))):=by
 refine .of_wp fun M A E s Q hq=> ?_
 show aI M A (isInstance (.bytes c u) (.type "bytes") >>= fun r=>_) _ E s
 refine aF (RN (iE s c u) F.sub_bytes_bytes ?_)
 exact bF ⟨_,rfl,by rw [←Tx] at hq;exact hq⟩
theorem aHD{b c:Array UInt8}{t u:Tok}{Q:aB→aG→Prop}(h:Q (.bool (!nM (c.toList.map cH) (b.toList.map cH))) s):aI (aK prog w) A (eT .LtE (.bytes b t) (.bytes c u)) Q E s:=
 compareOp_gives (op:=.LtE) (iE s b t) (iE s c u) aOu aEU (aBg _ _) (aGe b c t u) (fun e=>nomatch e) h
end
section
variable{K:KK}{A:aR}{st st':St}{z:Z K A st}{n:Nat}
noncomputable def Rf(a b:SV):M Bool:=kQ a (fun x=>kQ b (fun y=>rt (!nM y x)) er) er
theorem aLs:jX K (eT .LtE) Rf:=fun {A st} z a b x y dx dy=>
 .onB (T:=fun x=>K.wp A (eT .LtE x y)) dx (fun b t=>.onB (T:=fun y=>K.wp A (eT .LtE (.bytes b t) y)) dy (fun c u=>.rt rfl fun Q q=>aHD q) .er) .er
noncomputable def al{α:Type}(m m':M α):M α:=fun st=>match m st with
 |some r=>some r
 |none=>m' st
theorem Go.al{α δ:Type}{D:Dn α δ}{w:WP δ}{m m':M α}(h:Go z D w (m st))(h':Go z D w (m' st)):Go z D w (al m m' st):=by
 unfold Mine.al
 cases q:m st with
 |some r=>rw [q] at h;exact h
 |none=>exact h'
noncomputable def uX(f g:St→SV→Option (List PV))(st:St)(a:SV):Option (List PV):=match f st a with
 |some r=>some r
 |none=>g st a
theorem HD{f g:St→SV→Option (List PV)}(h:jY K f)(h':jY K g):jY K (uX f g):=fun {A st} z a x xs e=>by
 have e:(match f st a with | some r=>some r | none=>g st a)=some xs:=e
 cases q:f st a with
 |some r=>rw [q] at e;exact h z (q.trans e)
 |none=>rw [q] at e;exact h' z e
theorem AP{t:aB→aB→Sem aB}{f g:SV→SV→M Bool}(h:jX K t f)(h':jX K t g):jX K t fun a b=>al (f a b) (g a b):=fun z _ _ _ _ d e=>.al (h z d e) (h' z d e)
theorem UH{f g:SV→SV→M SV}(h:wF K f)(h':wF K g):wF K fun a b=>al (f a b) (g a b):=fun z _ _ _ _ d e=>.al (h z d e) (h' z d e)
theorem UG{f g:SV→SV→SV→M Unit}(h:wD K f)(h':wD K g):wD K fun a b c=>al (f a b c) (g a b c):=fun z _ _ _ _ _ _ d e e'=>.al (h z d e e') (h' z d e e')
theorem aAG{name:Str}{f g:SV→M SV}(h:qT K name f)(h':qT K name g):qT K name fun a=>al (f a) (g a):=fun z _ _ d=>.al (h z d) (h' z d)
noncomputable def Ba(a b:SV):M Bool:=al (wQ (fun a b=>decide (a≤b)) a b) (Rf a b)
theorem aLr:jX K (eT .LtE) Ba:=AP aLq aLs
noncomputable def aV(a b:SV):M SV:=al (IZ a b) (al (Ae a b) (al (Af a b) (Qf a b)))
theorem cN:wF K aV:=UH aLl (UH aLm (UH aLo aLn))
noncomputable def vH(a b:SV):M Bool:=al (uA a b) (al (ZY a b) (al (zI a b) (OZ a b)))
theorem zS:jX K (eT .In) vH:=AP aLj (AP (Ec Vq) (AP (Ec Vr) (Ec Vs)))
noncomputable def fB(a b:SV):M Bool:=al (sW uA a b) (al (sW ZY a b) (al (sW zI a b) (sW OZ a b)))
theorem oZ:jX K (eT .NotIn) fB:=AP aLz (AP (Ee Vq) (AP (Ee Vr) (Ee Vs)))
noncomputable def iL(a:SV):M SV:=al (Ri a) (al (Rh a) (Rg a))
theorem mE:jW K (fun v=>call (.builtin "len") [v]) iL:=fun z _ _ d=>.al (aLt z d) (.al (aLv z d) (aLu z d))
noncomputable def zF(a b c:SV):M SV:=al (Lq a b c) (Wc a b c)
theorem Eb:yH K (fun x y u=>call (.builtin "dict.get") [x,y,u]) zF:=fun z _ _ _ _ _ _ d e e'=>.al (aLi z d e e') (aLI z d e e')
noncomputable def IX(a:SV):M Unit:=al (cV a) (Ab a)
theorem Dq:sM K "dict" IX:=fun z _ _ d=>.al (oY z d) (Uq z d)
noncomputable def fQ(a b c:SV):M Unit:=al (Wj a b c) (al (Wl a b c) (al (Ej a b c) (Wm a b c)))
theorem mF:wD K fQ:=UG aLD (UG aLE (UG aLG aLF))
noncomputable def qJ(a b:SV):M SV:=al (bX So a b) (Sp a b)
theorem zT:gA K (jR .Mult) qJ:=fun z _ _ _ _ d e=>.al (CI aIr z d e) (aLy z d e)
noncomputable def dK:St→SV→Option (List PV):=uX Qj (uX Ql (uX Ah (uX Qh (uX Qk Qi))))
theorem cZ:jY K dK:=HD aLT (HD aLW (HD aLU (HD aLQ (HD aLV aLS))))
end
section
open Sem (wp)
section
variable{M:jO}{A:aR}{s:aG}{env:Env}
theorem aQn{l r:Expr}{op:Operator}{pos:Pos}{Q:aB→aG→Prop}(h:bA M A (eval l env) (fun a s₁=>bA M A (eval r env) (fun b s₂=>bA M A (jR op a b) Q s₂) s₁) s):bA M A (eval (.BinOp l op r pos) env) Q s:=by
 rw [eval_BinOp]
 exact bB (gZ h fun a s₁ h₁=>bB (nR (gZ h₁ fun b s₂ h₂=>bB (pE (aQy h₂)))))
theorem aQr{e:Expr}{pos:Pos}{Q:Flow→aG→Prop}(h:bA M A (eval e env) (fun v=>Q (.ret v)) s):bA M A (exec (.Return (some e) pos) env) Q s:=by
 rw [exec_Return_some]
 exact bB (pE (bB (gZ h fun v s₁ h₁=>dA h₁)))
theorem aQm{x:Str}{pos':Pos}{value:Expr}{pos:Pos}{Q:Flow→aG→Prop}(h:bA M A (eval value env) (fun v s₁=>aI M A (storeName env x v) (fun _=>Q .next) (fun _ _=>False) s₁) s)
  (hs:FV value (some (.Name x pos')) pos.line env=pure false:=by rfl):bA M A (exec (.Assign [.Name x pos'] value pos) env) Q s:=by
 rw [exec_Assign_Name env x pos' value pos hs]
 exact bB (pE (bB (gZ h fun v s₁ h₁=>bB (pE (bB (fR (wpAny_bindName (nQ h₁ (fun _ _ x=>dA x) fun _ _ x=>x))))))))
theorem aQv{st:Stmt}{rest:List Stmt}{Q:Flow→aG→Prop}(h:bA M A (exec st env) (fun f s'=>match f with | .next=>bA M A (execs rest env) Q s' | f=>Q f s') s):bA M A (execs (st::rest) env) Q s:=by
 rw [execs_cons]
 refine bB (gZ h fun f s' h'=> ?_)
 cases f <;> first | exact h' | exact dA h'
theorem aQq{elts:List Expr}{pos:Pos}{Q:aB→aG→Prop}
  (h:bA M A (pT (fZ pos (fL elts env))) (fun vs s₁=>vs.length≤fO∧Q (.ref s₁.heap.objs.size) {s₁ with heap:=s₁.heap.push {cls:=.type "list",data:=.seq vs.toArray}}) s):bA M A (eval (.List elts pos) env) Q s:=by
 rw [arm_eval_List]
 exact bB (pE (bB (gZ h fun vs s₁ h₁=>fR (FY h₁.2 (by show vs.toArray.size≤fO;rw [hZ];exact h₁.1)))))
theorem aQs{elts:List Expr}{k:Nat}{pos:Pos}{Q:aB→aG→Prop}
  (h:bA M A (pT (fZ pos (fL elts env))) (fun vs s₁=>vs.length≤fO∧Q (.ref s₁.heap.objs.size) {s₁ with heap:=s₁.heap.push {cls:=.type "tuple",data:=.seq vs.toArray}}) s):bA M A (eval (.Tuple elts k pos) env) Q s:=by
 rw [arm_eval_Tuple]
 exact bB (pE (bB (gZ h fun vs s₁ h₁=>fR (FY h₁.2 (by show vs.toArray.size≤fO;rw [hZ];exact h₁.1)))))
theorem Eu{Q:List aB→aG→Prop}(h:Q [] s):bA M A (pT []) Q s:=dA h
theorem Xg{x:Sem aB}{rest:List (Bool×Sem aB)}{Q:List aB→aG→Prop}
  (h:bA M A x (fun v s₁=>bA M A (pT rest) (fun vs s₂=>Q (v::vs) s₂) s₁) s):bA M A (pT ((false,x)::rest)) Q s:=by
 rw [pT]
 refine bB (gZ h fun v s₁ h₁=> ?_)
 exact bB (dA (bB (nR (gZ h₁ fun vs s₂ h₂=>dA h₂))))
theorem aBb{f:aB}{pos:Pos}{es:List Expr}{Q:Args→aG→Prop}(h:bA M A (pT (fZ pos (fL es env))) (fun vs s'=>Q ⟨vs,[]⟩ s') s)(hp:∀ t r,fZ pos (fL es env)=t::r→t.1=false):
  bA M A (evalArgs f true (fZ pos (fL es env)) []) Q s:=by
 cases q:fZ pos (fL es env) with
 |nil=>
  rw [q] at h
  refine bB (gZ h fun vs s' h'=> ?_)
  refine nR ?_
  exact bB (dA (bB (dA (dA h'))))
 |cons t r=>
  obtain⟨b,x⟩:=t
  have:=hp _ _ q
  dsimp only at this
  subst this
  rw [q] at h
  refine bB (gZ h fun vs s' h'=> ?_)
  refine nR ?_
  exact bB (dA (bB (dA (dA h'))))
theorem aQw{α:Type}{M:jO}{c:Prop}{d:Decidable c}{a b:Sem α}{Q:α→aG→Prop}(h:bA M A a Q s)(h':bA M A b Q s):bA M A (if c then a else b) Q s:=by
 by_cases e:c
 ·rw [if_pos e];exact h
 ·rw [if_neg e];exact h'
theorem Ke{pos:Pos}{a:Addr}{o:Obj}{fd:qQ}{first:List aB}{args:List (Bool×Sem aB)}{Q:aB→aG→Prop}
  (h:bA M A (evalArgs (.ref a) true args []) (fun x s₁=>(s₁.heap.get? a=some o∧o.data= .func fd)∧bA M A (call (.ref a) (first++x.pos) x.kw) Q s₁) s):bA M A (oO pos (.ref a) first args []) Q s:=by
 refine bB (nR (gZ h fun x s₁ h₁=>bB (pE ?_)))
 have tail:∀ {t:Sem aB},bA M A t Q s₁→bA M A (t >>= fun r=>holding [r] point >>= fun _=>pure r) Q s₁:=
  fun ht=>bB (gZ ht fun r s₂ hr=>bB (nR (RR (dA hr))))
 have hk:∀ {β:Type} {k:Keeper→Sem β} {Q':β→aG→Prop},bA M A (k .frame) Q' s₁→bA M A (keeperOf (.ref a) >>= k) Q' s₁:=fun hk=>by
  refine bB (fR ?_)
  refine aF (vS h₁.1.1 ?_)
  refine(h₁.1.2).symm▸?_
  exact bF hk
 refine hk ?_
 generalize (args.any (·.1) || _)=b
 cases b with
 |true=>exact tail (Za h₁.2)
 |false=>exact aQw (tail h₁.2) (tail (Za h₁.2))
theorem aDv{Q:aB→aG→Prop}{pos:Pos}{id:String}{first:List aB}{t:Sem aB}(h:bA M A t (fun v s₁=>bA M A (call (.builtin id) (first++[v])) Q s₁) s):
  bA M A (oO pos (.builtin id) first [(false,t)] []) Q s:=
 bB (nR (bB (m:=pT [(false,t)]) (Xg (gZ h fun v s₁ h₁=>Eu (bB (dA (nR (bB (dA (bB (dA (dA
  (bB (pE (bB (dA (bB (gZ h₁ fun r s₂ hr=>bB (nR (RR (dA hr)))))))))))))))))))))
theorem Yy{Q:aB→aG→Prop}{id:Str}{p pos:Pos}{args:List Expr}(h:bA M A (eval (.Name id p) env) (fun f s₁=>bA M A (oO pos f [] (fZ pos (fL args env)) []) Q s₁) s):bA M A (eval (.Call (.Name id p) args [] pos) env) Q s:=by
 rw [arm_eval_Call_Name']
 exact bB h
theorem aQu{Q:aB→aG→Prop}{pos:Pos}{T:String}(h:bA M A (call (.type T) []) Q s):bA M A (oO pos (.type T) [] [] []) Q s:=by
 refine bB (nR (bB (m:=pT []) (Eu (bB (dA (nR (bB (dA (bB (dA (dA ?_)))))))))))
 exact bB (pE (bB (dA (bB (gZ h fun r s₂ hr=>bB (nR (RR (dA hr))))))))
end
section
variable{prog:hO}{w:dW}{A:aR}{s:aG}
theorem aIQ{id:String}{args:Args}(h:sR.contains id=false):xD (.builtin id args)=true:=by show(!sR.contains id)=true;rw [h];rfl
theorem Kt{id:String}{args:Args}{b:Builtin}{R:Flow→aG→Prop}(hb:rE table id=some b)(hn:sR.contains id=false)
  (h:bA (aK prog w) (A.under (.builtin id args)) (b args) (fun fin s'=>match fin with | .done f=>R f s' | .again c'=>c'.quiet=true∧lT (aK prog w) A c' R s') s):
  lT (aK prog w) A (.builtin id args) R s:=by
 refine AZ (aIQ hn) ?_
 show bA _ _ (match rE table id with | some b=>b args | none=>unsupported ((withoutEnding? id "#data").getD id)) _ s
 exact(hb).symm▸h
theorem AA{α:Type}{M:jO}{c:Prop}[Decidable c]{a b:Sem α}{Q:α→aG→Prop}(hc:¬c)(h:bA M A b Q s):bA M A (if c then a else b) Q s:=by rw [if_neg hc];exact h
theorem aQQ{α:Type}{M:jO}{c:Prop}[Decidable c]{a b:Sem α}{Q:α→aG→Prop}(hc:c)(h:bA M A a Q s):bA M A (if c then a else b) Q s:=by rw [if_pos hc];exact h
theorem aDy{T newId initId:String}{args:List aB}{Q Q₁:aB→aG→Prop}(ft:TypeCalled T newId initId)(hct:checkTypeCall T ⟨args,[]⟩=pure ()){c:aB}{tl:List aB}(hmro:mroOf (.type T)=pure (c::tl))
  (hnew:aI (aK prog w) A.in1 (call (.builtin newId) (.type T::args)) Q₁ (fun _ _=>False) s)
  (hnext:∀ obj s₁,Q₁ obj s₁→s₁.TypeIs obj T∧bA (aK prog w) A.in1 (call (.builtin initId) (obj::args)) (fun r s₂=>r= .none∧Q obj s₂) s₁):
  bA (aK prog w) A (call (.type T) args) Q s:=by
 refine RQ (AZ rfl (dA ⟨Code.quiet_builtin _ (by kernel_rfl),Kt F.entry_type_call (by decide+kernel) ?_⟩))
 refine(Around.under_plain (weight_type_call_type T args []) (units_type_call_type T args [])).symm▸?_
 refine AA (c:=(HI T==HI "type")=true) (by rw [ft.notType];decide) ?_
 refine AA (by rw [ft.canCreate];decide) ?_
 refine bB (uJ hct (bB (uJ hmro (AA mV ?_))))
 refine bB (uJ ft.made (bB (dA ?_)))
 refine bB (nR (fR (nQ hnew (fun obj s₁ ho=> ?_) fun _ _ x=>x)))
 refine bB (fR (RN (hnext obj s₁ ho).1 ft.sub (AA mV ?_)))
 refine bB (nR (bB (fR (zZ (hnext obj s₁ ho).1 ft.init.lookup ?_))))
 refine nR (bB (uJ (ft.init.bind obj) (bB (gZ (hnext obj s₁ ho).2 fun r s₂ hr=>dA ?_))))
 exact AA (by rw [hr.1];decide) (dA hr.2)
end
theorem Bp:mroOf (.type "bytearray")=pure [.type "bytearray",.type "object"]:=by rw [mroOf_type];kernel_rfl
theorem aHP:xT (.type "bytearray") "__new__"=pure (some (.builtin "bytearray.__new__")):=by rw [mH,lR];kernel_rfl
theorem Er:Slot "bytearray" "__init__" "bytearray.__init__":=
 .of (owner:="bytearray") (n:="__init__") (by rw [mH,lR];kernel_rfl) (by kernel_rfl) (by decide+kernel) (by decide+kernel)
  (by first | exact .inl (by kernel_rfl) | exact .inr (by decide+kernel)) (by rw [qE];kernel_rfl)
theorem Xk:isSubtype (.type "bytearray") (.type "bytearray")=pure true:=by rw [qE];kernel_rfl
theorem aDB:TypeCalled "bytearray" "bytearray.__new__" "bytearray.__init__":=
 ⟨by kernel_rfl,by decide+kernel,⟨_,_,Bp⟩,madeBy_type Bp aHP (by decide+kernel),by decide+kernel,Xk,Er⟩
theorem aPs:checkTypeCall "bytearray" ⟨[],[]⟩=pure ():=by kernel_rfl
theorem aIH:checkBuiltinCall "bytearray.__new__" ⟨[.type "bytearray"],[]⟩=pure ():=by kernel_rfl
theorem aES:rE table "bytearray.__new__"=some Builtin.«list.__new__»:=entryFor_alias (id':="list.__new__") (by rw [fastTable_eq_tree];kernel_rfl) (by kernel_rfl) (by decide+kernel) (by rw [fastTable_eq_tree];kernel_rfl)
theorem Ue:plainId "bytearray.__new__"=true:=by decide+kernel
theorem aEQ:rE table "bytearray.__init__"=some Builtin.«bytearray.__init__»:=wU (by kernel_rfl)
theorem aBd(a:aB):lQ "bytearray.__init__" ⟨[a],[]⟩:=by unfold lQ;kernel_rfl
set_option maxRecDepth 1000000 in
set_option maxHeartbeats 4000000 in
theorem aJl:("bytearray.__new__".splitOn ".__new__").headD ""="bytearray":=by simp+decide [String.splitOn,String.splitOnAux]
section
open PySem.Builtin PySem.Builtin.Bytes
variable{prog:hO}{w:dW}{A:aR}{s:aG}{E:aB→aG→Prop}
theorem aDV{Q₁:aB→aG→Prop}
  (h:Q₁ (.ref s.heap.objs.size) {s with heap:=s.heap.push {cls:=.type "bytearray",data:=.bytearray #[]}}):
  codeAny (aK prog w) A (.call (.builtin "bytearray.__new__") ⟨[.type "bytearray"],[]⟩) (wants Q₁ E) s:=by
 refine codeAny_of_tree ?_
 refine aF (dS aIH (bF ⟨De Ue _,codeAny_builtin_stack aES rfl fun p st=> ?_⟩))
 refine(RT Ue _).symm▸?_
 have hsub:=Xk
 have hown:=aJl
 obtain⟨hp,g,d,tk,os⟩:=s
 simp only [hown]
 wp_walk
 exact h
theorem aBv{Q₁:aB→aG→Prop}(h:Q₁ (.ref s.heap.objs.size) {s with heap:=s.heap.push {cls:=.type "bytearray",data:=.bytearray #[]}}):
  aI (aK prog w) A (call (.builtin "bytearray.__new__") [.type "bytearray"]) Q₁ E s:=by
 refine wpAny_call (codeAny_mono (aDV (E:=E) h) fun r s' hr=> ?_)
 cases r with
 |error e=>exact hr
 |ok f=>cases f <;> exact hr
end
section
variable{prog:hO}{w:dW}{A:aR}{s:aG}
noncomputable def HZ(self:aB):Code×Pos→Bool:=fun
  |(.builtin "bytearray.__contains__" ⟨v::_,_⟩,_) | (.builtin "bytearray.__mod__" ⟨v::_,_⟩,_)
  |(.builtin "bytearray.__rmod__" ⟨_::v::_,_⟩,_) | (.builtin "_struct.pack_into.held" ⟨v::_,_⟩,_)=>RZ v self
  |(.builtin "bytearray.find.held" ⟨_::_::held,_⟩,_)=>held.any (RZ self)
  |(.builtin id ⟨v::_,_⟩,_)=>RZ v self && Builtin.Bytes.decodersThatHold.contains id
  |_=>false
theorem aFo(self:aB):RX self=stack >>= fun st=>pure (st.any (HZ self)):=rfl
theorem aIT{id:String}{args:Args}(h:xD (.builtin id args)=true):sR.contains id=false:=by
 have:(!sR.contains id)=true:=h
 simpa using this
theorem aIR{id:String}(h:sR.contains id=false):Builtin.Bytes.decodersThatHold.contains id=false:=by
 unfold sR at h
 rw [List.contains_eq_mem,decide_eq_false_iff_not,uO,not_or] at h
 rw [List.contains_eq_mem,decide_eq_false_iff_not]
 exact h.1
theorem JO{id x:String}(h:sR.contains id=false)(hx:sR.contains x=true):id≠x:=fun e=>by rw [e,hx] at h;cases h
theorem aFg(self:aB)(id:String)(args:Args)(q:Pos)(h:sR.contains id=false):HZ self (.builtin id args,q)=false:=by
 obtain⟨pos,kw⟩:=args
 unfold HZ
 delta HZ.match_1
 dsimp only
 refine(dif_neg (JO (x:="bytearray.__contains__") h (by kernel_rfl))).trans ((dif_neg (JO (x:="bytearray.__mod__") h (by decide+kernel))).trans ((dif_neg (JO (x:="bytearray.__rmod__") h (by decide+kernel))).trans
  ((dif_neg (JO (x:="_struct.pack_into.held") h (by kernel_rfl))).trans ((dif_neg (JO (x:="bytearray.find.held") h (by decide+kernel))).trans ?_))))
 cases pos with
 |nil=>rfl
 |cons v l=>exact(congrArg (RZ v self && ·) (aIR h)).trans (RV _)
theorem Yz{M:jO}{self:aB}{Q:Bool→aG→Prop}(h:Q false s):bA M A (RX self) Q s:=by
 intro Γ p hΓ hN
 rw [aFo,Sem.wp_bind']
 show Sem.wp M Γ stack _ _ p s
 unfold stack
 rw [Sem.wp_stack]
 show Q (((Γ.code,p)::Γ.below).any (HZ self)) s
 rw [List.any_eq_false.mpr]
 ·exact h
 ·intro x hx
  have hn:xD x.1=true:=by
   cases hx with
   |head=>exact hN.1
   |tail _ hx=>exact hN.2 x hx
  obtain⟨c,q⟩:=x
  cases c with
  |builtin id args=>exact Bool.eq_false_iff.mp (aFg self id args q (aIT hn))
  |_=>exact mV
theorem Kd{id:String}{args:Args}{b:Builtin}{Q:aB→aG→Prop}(hq:plainId id=true)(hn:sR.contains id=false)(hb:rE table id=some b)
  (h:aI (aK prog w) A.in1 (checkBuiltinCall id args) (fun _ s₁=>bA (aK prog w) A.in1 (b args) (fun fin s'=>∃ v,fin= .done (.ret v)∧Q v s') s₁) (fun _ _=>False) s) (hk:args.kw= []):
  bA (aK prog w) A (call (.builtin id) args.pos) Q s:=by
 obtain⟨ps,kw⟩:=args
 dsimp only at hk;subst hk
 refine RQ (AZ rfl ?_)
 show bA _ A.in1 (do checkBuiltinCall id ⟨ps,[]⟩;again (.builtin id ⟨ps,[]⟩)) _ s
 refine bB (fR (nQ h (fun _ s₁ h₁=>dA ⟨De hq _,Kt hb hn ?_⟩) fun _ _ x=>x))
 refine(RT hq _).symm▸?_
 refine gZ h₁ fun fin s' hf=> ?_
 obtain⟨v,rfl,hv⟩:=hf
 exact hv
theorem aBu{a:Addr}{Q:aB→aG→Prop}(ho:s.heap.get? a=some {cls:=.type "bytearray",data:=.bytearray #[] 0})(h:Q .none {s with heap:=s.heap.update a (vY fun _=>#[])}):
  bA (aK prog w) A (call (.builtin "bytearray.__init__") [.ref a]) Q s:=by
 have hT:s.TypeIs (.ref a) "bytearray":=⟨_,ho,rfl⟩
 refine Kd (args:=⟨[.ref a],[]⟩) Er.plain (by kernel_rfl) aEQ (Er.check _ _ _ _ _ _ _ _ hT (aBd _) ?_) rfl
 refine bB (m:=Builtin.Bytes.ownRelease _) (fR (aF (Jb hT (bF ?_))))
 refine AA (by decide) ?_
 refine bB (uJ (v:=[none,none,none]) (by rfl) ?_)
 refine bB (uJ (v:=()) rfl (bB (uJ (v:=()) rfl ?_)))
 refine bB (bB (m:=RX (.ref a)) (Yz (bB (m:=Gp (.ref a)) (fR (aF (vS ho (bF ?_)))))))
 refine dA (AA (by decide) ?_)
 exact bB (m:=Builtin.Bytes.write (.ref a) fun _=>#[]) (fR (aF (vS ho (aF (wpAny_update ho (Gf (uN _ ho rfl) rfl (dA ⟨_,rfl,h⟩)))))))
end
theorem Ep:Slot "bytearray" "append" "bytearray.append":=
 .of (owner:="bytearray") (n:="append") (by rw [mH,lR];kernel_rfl) (by kernel_rfl) (by decide+kernel) (by decide+kernel)
  (by first | exact .inl (by decide+kernel) | exact .inr (by kernel_rfl)) (by rw [qE];kernel_rfl)
theorem aPt:typeOf (.builtin "bytearray.append")=pure (.type "method_descriptor"):=by show NB _=_;rw [NC];kernel_rfl
theorem aEP:rE table "bytearray.append"=some Builtin.«bytearray.append»:=wU (by kernel_rfl)
theorem aBc(a b:aB):lQ "bytearray.append" ⟨[a,b],[]⟩:=by unfold lQ;kernel_rfl
theorem aIj:mJ "bytearray" "append" "bytearray.append":=⟨Ud,Ep,aPt⟩
section
variable{prog:hO}{w:dW}{A:aR}{s:aG}
theorem aBs{a:Addr}{b:Array UInt8}{i:Int}{t:Tok}{Q:aB→aG→Prop}(ho:s.heap.get? a=some {cls:=.type "bytearray",data:=.bytearray b 0})(h0:0≤i)(h1:i < 256)(hz:b.size+1≤fO)
  (h:Q .none {s with heap:=s.heap.update a (vY (·.push i.toNat.toUInt8))}):
  bA (aK prog w) A (call (.builtin "bytearray.append") [.ref a,.int i t]) Q s:=by
 have hT:s.TypeIs (.ref a) "bytearray":=⟨_,ho,rfl⟩
 refine Kd (args:=⟨[.ref a,.int i t],[]⟩) Ep.plain (by kernel_rfl) aEP (Ep.check _ _ _ _ _ _ _ _ hT (aBc _ _) ?_) rfl
 show bA _ _ (Builtin.«bytearray.append» ⟨[.ref a,.int i t],[]⟩) _ s
 refine bB (uJ (v:=(.ref a,.int i t)) (by rfl) ?_)
 have hb:Zi (.int i t)=pure i.toNat.toUInt8:=by
  have ha:asIndex (.int i t)=pure i:=rfl
  unfold Zi
  rw [ha,pure_bind]
  have hc:¬((decide (i < 0) || decide (i≥256))=true):=Tj h0 h1
  dsimp only
  rw [if_neg hc]
 refine bB (uJ hb ?_)
 have hx:aI (aK prog w) A.in1 (Gp (.ref a)) (fun n s'=>n=0∧s'=s) (fun _ _=>False) s:=by
  exact aF (vS ho (bF ⟨rfl,rfl⟩))
 refine bB ?_
 refine bB (m:=RX (.ref a) <||> (do return (←Gp (.ref a)) > 0)) ?_
 refine bB (Yz ?_)
 refine bB (fR (nQ hx (fun n s' hn=> ?_) fun _ _ x=>x))
 obtain⟨rfl,rfl⟩:=hn
 refine dA (AA (by decide) (dA ?_))
 have hw:aI (aK prog w) A.in1 (Builtin.Bytes.write (.ref a) (·.push i.toNat.toUInt8)) (fun _ s''=>s''= {s' with heap:=s'.heap.update a (vY (·.push i.toNat.toUInt8))}) (fun _ _=>False) s':=by
  refine aF (vS ho ?_)
  refine aF (wpAny_update ho ?_)
  refine Gf (uN _ ho rfl) ?_ rfl
  exact if_neg (Nat.not_lt.mpr (aP (dQ (Array.size_push ..)) hz))
 refine bB (fR (nQ hw (fun _ s'' hs=> ?_) fun _ _ x=>x))
 subst hs
 exact dA ⟨_,rfl,h⟩
end
end
section
variable{K:KK}{A:aR}{st st':St}{z:Z K A st}{n:Nat}
noncomputable def cE(m ms:M Bool):M Bool:=bd m fun x=>match x with
 |true=>ms
 |false=>rt false
noncomputable def gW(m ms:M Bool):M Bool:=bd m fun x=>match x with
 |true=>rt true
 |false=>ms
structure AM(K:KK)(op:BoolOp) where
 m:M Bool
 r:List Expr→List Expr
 ok:∀(es:List Expr) {A:aR} {st:St} (z:Z K A st),Go z dB (K.wp A (allTrue op (r es) K.env)) (m st)
noncomputable def oG:AM K .And:=⟨rt true,fun _=>[],fun _ _ _ z=>.rt (x:=true) rfl fun Q q=>wpAny_allTrue_And_nil q⟩
noncomputable def yK:AM K .Or:=⟨rt false,fun _=>[],fun _ _ _ z=>.rt (x:=false) rfl fun Q q=>wpAny_allTrue_Or_nil q⟩
theorem Pb{D:Dn Bool Bool}{w w':WP Bool}{m m':M Bool}{b:Bool}(h:Go z D w (m st))(h':Go z D w' (m' st)):Go z D (fun Q s=>if b=true then w Q s else w' Q s) ((match b with | true=>m | false=>m':M Bool) st):=by
 cases b with
 |true=>exact h.imp fun Q q=>q
 |false=>exact h'.imp fun Q q=>q
noncomputable def eE(a:PT K)(as:AM K .And):AM K .And:=⟨cE a.m as.m,fun es=>a.r (dR es)::as.r es.tail,fun es _ _ z=>(a.ok _ z).ruB (u:=fun b Q s=>if b=true then K.wp _ (allTrue .And (as.r es.tail) K.env) Q s else Q false s) (fun Q q=>wpAny_allTrue_And_cons q) fun z₁ l=>Pb (w':=fun Q=>Q false) (as.ok _ z₁) (.rt (x:=false) rfl fun Q q=>q)⟩
noncomputable def oH(a:PT K)(as:AM K .Or):AM K .Or:=⟨gW a.m as.m,fun es=>a.r (dR es)::as.r es.tail,fun es _ _ z=>(a.ok _ z).ruB (u:=fun b Q s=>if b=true then Q true s else K.wp _ (allTrue .Or (as.r es.tail) K.env) Q s) (fun Q q=>wpAny_allTrue_Or_cons q) fun z₁ l=>Pb (w:=fun Q=>Q true) (.rt (x:=true) rfl fun Q q=>q) (as.ok _ z₁)⟩
noncomputable def jF{op:BoolOp}(as:AM K op):PT K:=⟨as.m,fun e=>.BoolOp op (as.r (xs e)) e.pos,fun e _ _ z=>(as.ok _ z).imp fun Q q=>wpAny_isTrue_BoolOp q⟩
theorem Pd{w w':WP aB}{m m':M SV}{b:Bool}(h:Go z dV w (m st))(h':Go z dV w' (m' st)):Go z dV (fun Q s=>if b=true then w Q s else w' Q s) ((match b with | true=>m | false=>m':M SV) st):=by
 cases b with
 |true=>exact h.imp fun Q q=>q
 |false=>exact h'.imp fun Q q=>q
noncomputable def aAD(a b:PE K):PE K:=⟨bd a.m fun x=>bd (zX x) fun t=>match t with | true=>rt x | false=>b.m,fun e=>.BoolOp .Or [a.r (dR (xs e)),b.r (hd2 (xs e))] e.pos,1,fun _=>rfl,fun e A _ z=>
 (a.ok _ z).ru (u:=fun x Q s=>K.wp A (truthy x) (fun t s=>if t=true then Q x s else K.wp A (eval (b.r (hd2 (xs e))) K.env) Q s) s) (fun Q q=>wpAny_Or2 q) fun {_ _ x} z₁ l₁ dx=>(jC z₁ dx).ruB (fun Q q=>q) fun z₂ l₂=>Pd (w:=fun Q=>Q x) (.rt (l₂.v dx) fun Q q=>q) (b.ok _ z₂)⟩
structure MG(K:KK) where
 m:M SV
 rh:List Expr→Expr
 rl:List Expr→List Expr
 ok:∀(es:List Expr) (pos:Pos) {A:aR} {st:St} (z:Z K A st),Go z dV (K.wp A (boolOp pos .And (evalEach (rh es::rl es) K.env))) (m st)
noncomputable def TZ(a:PE K):MG K:=⟨a.m,fun es=>a.r (dR es),fun _=>[],fun _ _ _ _ z=>a.ok _ z⟩
theorem aQA{M:jO}{pos:Pos}{env:Env}{x y:Expr}{es:List Expr}{Q:aB→aG→Prop}{s:aG}(h:aI M A (eval x env) (fun v s=>aI M A (truthy v) (fun t s=>if t=true then aI M A (boolOp pos .And (evalEach (y::es) env)) Q nE s else Q v s) nE s) nE s):aI M A (boolOp pos .And (evalEach (x::y::es) env)) Q nE s:=by
 show aI _ A (do
  let v ←eval x env
  standAt pos
  let t ←holding [v] (truthy v)
  match BoolOp.And,t with
  |.And,false | .Or,true=>pure v
  |_,_=>boolOp pos .And (evalEach (y::es) env)) Q nE s
 refine aF (fT h fun v s q=>aF (Gh (aF (pD (fT q fun t s q=> ?_)))))
 cases t with
 |true=>exact q
 |false=>exact bF q
noncomputable def GZ(a:PE K)(as:MG K):MG K:=⟨bd a.m fun x=>bd (zX x) fun t=>match t with | true=>as.m | false=>rt x,fun es=>a.r (dR es),fun es=>as.rh es.tail::as.rl es.tail,fun es pos A _ z=>
 (a.ok _ z).ru (u:=fun x Q s=>K.wp A (truthy x) (fun t s=>if t=true then K.wp A (boolOp pos .And (evalEach (as.rh es.tail::as.rl es.tail) K.env)) Q s else Q x s) s) (fun Q q=>aQA q) fun {_ _ x} z₁ l₁ dx=>(jC z₁ dx).ruB (fun Q q=>q) fun z₂ l₂=>Pd (w':=fun Q=>Q x) (as.ok _ _ z₂) (.rt (l₂.v dx) fun Q q=>q)⟩
noncomputable def UA(as:MG K):PE K:=⟨as.m,fun e=>.BoolOp .And (as.rh (xs e)::as.rl (xs e)) e.pos,1,fun _=>rfl,fun e _ _ z=>as.ok _ _ z⟩
noncomputable def aAC(a:PE K):PE K:=⟨bd a.m fun x=>bd (zX x) fun b=>rt (.pv (.bool (!b))),fun e=>.UnaryOp .Not (a.r (x1 e)) e.pos,1,fun _=>rfl,fun e A _ z=>
 (a.ok _ z).ru (u:=fun x=>K.wp A (unaryOp .Not x)) (fun Q q=>wpAny_UnaryOp q) fun z₁ l₁ dx=>(jC z₁ dx).ruB (u:=fun b Q=>Q (.bool (!b))) (fun Q q=>not_of q) fun {b _} z₂ l₂=>.rt (x:=.bool (!b)) rfl fun Q q=>q⟩
theorem aDx{M:jO}{T:String}{t u v:Sem aB}{pos:Pos}{Q:aB→aG→Prop}{s:aG}(h:aI M A t (fun x s=>aI M A u (fun y s=>aI M A v (fun w s=>aI M A (call (.type T) [x,y,w]) Q nE s) nE s) nE s) nE s):aI M A (oO pos (.type T) [] [(false,t),(false,u),(false,v)] []) Q nE s:=
 WU rfl (xW (fT h fun _ _ h=>xW (fT h fun _ _ h=>KZ h)))
theorem aOO(a b c:PE K)(e e' e'':Expr)(pos:Pos):fZ pos (fL [a.r e,b.r e',c.r e''] K.env)= [(false,eval (a.r e) K.env),(false,eval (b.r e') K.env),(false,eval (c.r e'') K.env)]:=by rw [rX (a.hc e),rX (b.hc e'),rX (c.hc e'')];rfl
noncomputable def Jw{T:String}{f:SV→SV→SV→M SV}(i:Nat)(g:Gl K.C (nm K.sl i) (.type T))(hf:yH K (fun v w u=>call (.type T) [v,w,u]) f)(a b c:PE K)(h:eH K.sl i .globalImplicit=true:=by rfl):PE K:=
 ⟨bd a.m fun x=>bd b.m fun y=>bd c.m fun u=>f x y u,fun e=>.Call (.Name (nm K.sl i) (xq e)) [a.r (dR (xs e)),b.r (hd2 (xs e)),c.r (ZR (xs e))] [] e.pos,2,fun _=>rfl,fun e _ _ z=>(a.ok _ z).ru (fun Q q=>xV (aOO a b c _ _ _ _) (nV h g (aDx q))) fun z₁ l₁ dx=>(b.ok _ z₁).bd fun z₂ l₂ dy=>(c.ok _ z₂).bd fun z₃ l₃ du=>hf z₃ ((l₂.t l₃).v dx) (l₃.v dy) du⟩
structure mX(K:KK) where
 m:M SV
 r:Expr→Expr
 c:Nat
 hc:∀ e,sQ (r e)=c+1
 ok:∀(e:Expr) {A:aR} {st:St} (z:Z K A st),Go z dV (K.wpG A (eval (r e) K.env)) (m st)
noncomputable def lA(a:PE K):mX K:=⟨a.m,a.r,a.c,a.hc,fun e _ _ z=>(a.ok e z).imp fun Q q=>fR q⟩
noncomputable def jQ(a:P1 K):xZ K:=⟨a.m,a.r,fun e _ _ z=>(a.ok e z).imp fun Q q=>fR q⟩
noncomputable def yJ(a:PS K):DC K:=⟨a.m,a.r,fun e _ _ z=>(a.ok e z).imp fun Q q=>fR q⟩
theorem gA.g{t:aB→aB→Sem aB}{f:SV→SV→M SV}(h:gA K t f)(z:Z K A st){a b:SV}{x y:aB}(d:z.d dV a x)(e:z.d dV b y):Go z dV (K.wpG A (t x y)) (f a b st):=(h z d e).imp fun Q q=>fR q
noncomputable def UE(K:KK)(t:aB→aB→Sem aB)(f:SV→SV→M SV):Prop:=∀ {A:aR} {st:St} (z:Z K A st) {a b:SV} {x y:aB},z.d dV a x→z.d dV b y→Go z dV (K.wpG A (t x y)) (f a b st)
theorem Hy{t:aB→aB→Sem aB}{f:SV→SV→M SV}(h:gA K t f):UE K t f:=fun z _ _ _ _ d e=>(h z d e).imp fun Q q=>fR q
noncomputable def fS(a:xZ K)(as:DC K):DC K:=⟨sq a.m as.m,fun t=>a.r (Pl t)::as.r t.tail,fun t _ _ z=>Pe (w₂:=K.wpG _ (execs (as.r t.tail) K.env)) (fun Q q=>aQv q) (a.ok _ z) fun z₁=>as.ok _ z₁⟩
noncomputable def TX(a:mX K):xZ K:=⟨bd a.m fun v=>rt (.ret v),fun t=>.Return (some (a.r (yE t))) t.pos,fun t _ _ z=>(a.ok _ z).ru (u:=fun x Q=>Q (.ret x)) (fun Q q=>aQr q) fun z₁ l₁ dx=>.rt (x:=.ret _) (.mk _ dx) fun Q q=>q⟩
theorem mX.sw(a:mX K)(h:bR a.c 0=false)(e:Expr)(t:Option Expr)(l:Nat):FV (a.r e) t l K.env=pure false:=by
 obtain⟨m,r,c,hc,ok⟩:=a
 cases c with
 |zero=>cases h
 |succ c=>exact Xq (hc e) t l
theorem aQo{prog:hO}{wd:dW}{env:Env}{e:Expr}{pos:Pos}{s:aG}{Q:Flow→aG→Prop}(hi:interactive env=false)(hs:FV e none pos.line env=pure false)(h:bA (aK prog wd) A (eval e env) (fun _=>Q .next) s):bA (aK prog wd) A (exec (.Expr e pos) env) Q s:=by
 rw [exec_Expr env e pos hi hs]
 exact bB (pE (bB (gZ h fun _ _ q=>fR (wpAny_dropValue q))))
noncomputable def Hp(a:mX K)(h:bR a.c 0=false:=by rfl):xZ K:=⟨bd a.m fun _=>rt .next,fun t=>.Expr (a.r (yE t)) t.pos,fun t _ _ z=>(a.ok _ z).ru (u:=fun _ Q=>Q .next) (fun Q q=>aQo (Qb z) (a.sw h _ _ _) q) fun z₁ l₁ dx=>.rt (x:=.next) rfl fun Q q=>q⟩
noncomputable def aAp(i:Nat)(q:lM K i)(a:mX K)(h:bR a.c 0=false:=by rfl):xZ K:=⟨bd a.m fun v=>bd (sZ i v) fun _=>rt .next,fun t=>.Assign [.Name (nm K.sl i) (yT t).pos] (a.r (yE t)) t.pos,
 fun t _ _ z=>(a.ok _ z).ru (u:=fun x Q=>K.wp _ (storeName K.env (nm K.sl i) x) fun _=>Q .next) (fun Q k=>aQm k (a.sw h _ _ _)) fun z₁ l₁ dx=>IU q dx (rfl:dF _ _ _ Fl.next Flow.next) fun Q k=>k⟩
noncomputable def MJ{op:Operator}{f:SV→SV→M SV}(h:gA K (jR op) f)(a b:mX K):mX K:=⟨bd a.m fun x=>bd b.m fun y=>f x y,fun e=>.BinOp (a.r (x1 e)) op (b.r (x2 e)) e.pos,3,fun _=>rfl,
 fun _ _ _ z=>(a.ok _ z).ru (fun Q=>aQn) fun z₁ l₁ dx=>(b.ok _ z₁).bd fun z₂ l₂ dy=>Hy h z₂ (l₂.v dx) dy⟩
structure yA(K:KK) where
 m:M (List SV)
 r:List Expr→List Expr
 k:Nat
 hk:∀ es,(r es).length=k
 st:∀ es,fL (r es) K.env=(r es).map fun e=>(false,eval e K.env)
 ok:∀(es:List Expr) (pos:Pos) {A:aR} {st:St} (z:Z K A st),Go z dL (K.wpG A (pT (fZ pos (fL (r es) K.env)))) (m st)
noncomputable def sJ:yA K:=⟨rt [],fun _=>[],0,fun _=>rfl,fun _=>rfl,fun _ _ _ _ z=>.rt (x:=[]) rfl fun Q q=>Eu q⟩
noncomputable def kJ(a:mX K)(as:yA K):yA K:=⟨HV a.m as.m,fun es=>a.r (dR es)::as.r es.tail,as.k+1,fun es=>congrArg lK (as.hk _),fun es=>(rX (a.hc _) _).trans (congrArg _ (as.st _)),
 fun es pos _ _ z=>by
  rw [rX (a.hc _)]
  exact(a.ok _ z).ru (fun Q q=>Xg q) fun z₁ l₁ dx=>(as.ok _ pos z₁).ru (fun Q q=>q) fun z₂ l₂ ds=>.rt (.mk (l₂.v dx) ds) fun Q q=>q⟩
theorem Ug{es:List Expr}{env:Env}(h:fL es env=es.map fun e=>(false,eval e env))(pos:Pos)(p:Bool×Sem aB)(hp:p∈fZ pos (fL es env)):p.1=false:=by
 rw [h] at hp
 obtain⟨q,hq,rfl⟩:=List.mem_map.mp hp
 obtain⟨e,_,rfl⟩:=List.mem_map.mp hq
 rfl
theorem Ni{es:List Expr}{env:Env}(h:fL es env=es.map fun e=>(false,eval e env))(hk:es.length < 30)(pos:Pos):JK (es.length+([]:List Keyword).length) (fZ pos (fL es env)) (backToKw pos (PK [] env))=true:=by
 unfold JK
 refine(show(fZ pos (fL es env)).all (fun x=> !x.1)=true from List.all_eq_true.mpr fun p q=>by rw [Ug h pos p q];rfl).symm▸?_
 exact decide_eq_true hk
noncomputable def aAv(as:yA K):mX K:=⟨bd as.m kE,fun e=>.List (as.r (xs e)) e.pos,3,fun _=>rfl,fun e _ _ z=>(as.ok _ _ z).ru (fun Q q=>aQq q) fun z₁ l₁ ds=>.plains ds fun xs dl hz=>.newL z₁.s.toks dl fun Q q=>⟨gH hz,q⟩⟩
noncomputable def aAu{f:SV→M SV}(g:GI K f)(a:mX K):mX K:=⟨bd a.m f,a.r,a.c,a.hc,fun e A st z=>(a.ok e z).ru (u:=fun x Q s=>Q x s) (fun Q q=>q) fun z₁ l dx=>g z₁ dx⟩
theorem Ot{fa:Addr}{f:Fn}{vs:List SV}{ws:List aB}(hn:n≤K.n)(hf:sL K.C n fa f)(d:z.d dL vs ws):Go z dV (K.wpG A (call (.ref fa) ws)) (lS f vs st):=fun v s e Q q=>RQ (IT hf (z.hA.mono hn) d v s e Q q)
theorem Oo{as:yA K}{es:List Expr}{pos:Pos}{f:List SV→M SV}{fv:aB}{W:Args→WP aB}{w':WP aB}(hk:∀ Q,bA (aK K.C.prog K.C.w) A (evalArgs fv true (fZ pos (fL (as.r es) K.env)) []) (fun a s₁=>W a Q s₁) z.s→w' Q z.s)(h:∀ {st₁:St} {vs:List SV} {ws:List aB} (z₁:Z K A st₁),z.le z₁→z₁.d dL vs ws→Go z₁ dV (W ⟨ws,[]⟩) (f vs st₁)):Go z dV w' (bd as.m f st):=
 (as.ok es pos z).ru (u:=fun ws=>W ⟨ws,[]⟩) (fun Q q=>hk Q (aBb q fun t r e=>Ug (as.st _) pos t (by rw [e];exact .head _))) fun z₁ l d=>h z₁ l d
noncomputable def Nu(K:KK)(A:aR)(fa:Addr)(o:Obj)(fd:qQ)(first:List aB)(a:Args):WP aB:=fun Q s₁=>(s₁.heap.get? fa=some o∧o.data= .func fd)∧bA (aK K.C.prog K.C.w) A (call (.ref fa) (first++a.pos) a.kw) Q s₁
noncomputable def HA{fa:Addr}{f:Fn}(i:Nat)(g:Gl K.C (nm K.sl i) (.ref fa))(hi:GL K.C fa)(hf:sL K.C n fa f)(as:yA K)(hn:n≤K.n:=by exact bT rfl)(h:eH K.sl i .globalImplicit=true:=by rfl):mX K:=
 ⟨bd as.m fun vs=>lS f vs,fun e=>.Call (.Name (nm K.sl i) (xq e)) (as.r (xs e)) [] e.pos,2,fun _=>rfl,fun e A st z=>by
  obtain⟨o,fd,ho,hd⟩:=hi
  exact Oo (W:=Nu K A fa o fd []) (fun Q q=>Yy (fR (nV h g (Ke q)))) fun z₁ l ds=>(Ot hn hf ds).imp fun Q q=>⟨⟨z₁.R.keeps0 _ _ ho,hd⟩,q⟩⟩
theorem Zb{M:jO}{o:Expr}{env:Env}{apos pos:Pos}{x f:aB}{first:List aB}{name:Str}{k:Nat}{args:List (Bool×Sem aB)}{kws:List (Option Str×Sem aB)}{Q:aB→aG→Prop}{s:aG}(hl:(apos.endLine==pos.line)=true)(hfew:JK k args kws=true)
  (hg:∀(pl:Sem Bool) (Q:aB×List aB→aG→Prop),Q (f,first) s→aI M A (getMethod x name pl) Q nE s) (h:bA M A (oO pos f first args kws) Q s):bA M A (JJ o name apos pos env x k args kws) Q s:=by
 unfold JJ
 refine(hfew).symm▸?_
 exact bB (nR (fR (hg _ _ (bB (uJ (Sk hl) h)))))
noncomputable abbrev Bq(K:KK)(A:aR)(a:Expr)(name:Str)(apos pos:Pos)(es:List Expr)(x:aB):WP aB:=fun Q s=>bA (aK K.C.prog K.C.w) A (JJ a name apos pos K.env x (es.length+([]:List Keyword).length) (fZ pos (fL es K.env)) (backToKw pos (PK [] K.env))) Q s
theorem Zc(a:PE K)(h:bR a.c 2=false)(e:Expr){name:Str}{apos pos:Pos}{es:List Expr}{Q:aB→aG→Prop}(q:K.wp A (eval (a.r e) K.env) (fun x s=>Bq K A (a.r e) name apos pos es x Q s) z.s):K.wpG A (eval (.Call (.Attribute (a.r e) name apos) es [] pos) K.env) Q z.s:=by
 rw [arm_eval_Call,a.ab h]
 exact bB (fR (fT q fun x s q=>bB (pE q)))
noncomputable def MK{c:Nat}{name:Str}{fa:Addr}{f:Fn}(F:CW K.C c name fa)(rf:sL K.C n fa f)(a:PE K)(as:yA K)(hn:n≤K.n:=by exact bT rfl)(h:bR a.c 2=false:=by rfl)(hk:bV as.k 30=true:=by rfl):mX K:=
 ⟨bd a.m fun x=>bd (IY c x) fun _=>bd as.m fun vs=>lS f (x::vs),fun e=>.Call (.Attribute (a.r (x1 (x1 e))) name (xq e)) (as.r (xs e)) [] (nI e),4,fun _=>rfl,fun e A st z=>by
  obtain⟨o,fd,ho,hd⟩:=F.is
  refine(a.ok _ z).ru (u:=Bq K A (a.r (x1 (x1 e))) name (xq e) (nI e) (as.r (xs e))) (fun Q q=>Zc a h _ q) fun {a₁ st₁ x} z₁ l₁ dx=> ?_
  refine(Oz (c:=c) dx).ru (u:=fun _=>K.wpG A (oO (nI e) (.ref fa) [x] (fZ (nI e) (fL (as.r (xs e)) K.env)) [])) (fun Q q=>Zb (EA e) (Ni (as.st _) (by rw [as.hk];exact Nat.blt_eq.mp hk) _) (fun pl Q k=>q.1.elim fun fs o=>Oj F o k) q.2.2) fun z₂ l₂ _=> ?_
  exact Oo (W:=Nu K A fa o fd [x]) (fun Q q=>Ke q) fun z₃ l₃ ds=>(Ot hn rf (z₃.cons ((l₂.t l₃).v dx) ds)).imp fun Q q=>⟨⟨z₃.R.keeps0 _ _ ho,hd⟩,q⟩⟩
noncomputable def Hu{T id:String}{name:Str}{g:SV→M Unit}{f:SV→SV→M SV}(F:mJ T name id)(hg:sM K T g)(hf:UE K (fun x y=>call (.builtin id) [x,y]) f)(a:PE K)(b:mX K)(h:bR a.c 2=false:=by rfl):mX K:=
 ⟨bd a.m fun x=>bd (g x) fun _=>bd b.m fun y=>f x y,fun e=>.Call (.Attribute (a.r (x1 (x1 e))) name (xq e)) [b.r (dR (xs e))] [] (nI e),4,fun _=>rfl,fun e A st z=>by
  have ht:fL [b.r (dR (xs e))] K.env= [(false,eval (b.r (dR (xs e))) K.env)]:=rX (b.hc _) []
  refine(a.ok _ z).ru (u:=Bq K A (a.r (x1 (x1 e))) name (xq e) (nI e) [b.r (dR (xs e))]) (fun Q q=>Zc a h _ q) fun {a₁ st₁ x} z₁ l₁ dx=> ?_
  refine(hg z₁ dx).ru (u:=fun _=>K.wpG A (oO (nI e) (.builtin id) [x] [(false,eval (b.r (dR (xs e))) K.env)] [])) (fun Q q=>Zb (EA e) (Ni ht (show 1 < 30 by decide) _) (fun pl Q k=>getMethod_builtin q.1 F.pa F.slot F.ty q.2.1 k) ((ht).symm▸q.2.2)) fun z₂ l₂ _=> ?_
  exact(b.ok _ z₂).ru (fun Q q=>aDv q) fun z₃ l₃ dy=>hf z₃ ((l₂.t l₃).v dx) dy⟩
theorem aQz{M:jO}{env:Env}{s:aG}{elts es:List Expr}{k k':Nat}{tpos vpos pos:Pos}{names:List Str}{Q:Flow→aG→Prop}(hw:CM [.Tuple elts k tpos] (.Tuple es k' vpos) env=pure (some names))
  (h:bA M A (pT (fZ vpos (fL es env))) (fun ws s₁=>ws.length≤fO∧aI M A (unpackItems (.ref s₁.heap.objs.size) names.length none) (fun items s₂=>aI M A (MW (names.reverse.map fun n=>bindName env n) items.reverse) (fun _=>Q .next) nE s₂) nE {s₁ with heap:=s₁.heap.push (mG ws 0)}) s):bA M A (exec (.Assign [.Tuple elts k tpos] (.Tuple es k' vpos) pos) env) Q s:=by
 rw [exec_Assign]
 refine bB (pE ?_)
 refine(show swapsWithSole [.Tuple elts k tpos] (.Tuple es k' vpos) pos.line env=pure false from rfl).symm▸?_
 refine bB (dA ?_)
 rw [if_neg (by decide)]
 refine bB (aQs (gZ h fun ws s₁ q=>⟨q.1,?_⟩))
 rw [hw]
 refine bB (dA ?_)
 exact fR (aF (xU (aF (fT q.2 fun _ _ q=>aF (fT q fun _ _ q=>bF q)))))
noncomputable def Hq(l:Nat)(isr:List Nat)(as:yA K){sc:Scope}(he:K.env.scope=sc)(q:tS K isr:=by exact LB rfl)(hs:qA isr.length 1000=true:=by rfl)
  (hw:∀(k k':Nat) (p p':Pos) (es es':List Expr),CM [.Tuple (rN K.sl l isr.reverse es) k p] (.Tuple (as.r es') k' p') (QS sc)=pure (some (isr.reverse.map (nm K.sl))):=by intro _ _ _ _ _ _;rfl):xZ K:=
 ⟨bd as.m fun vs=>bd (vO isr vs.reverse) fun _=>rt .next,fun t=>.Assign [.Tuple (rN K.sl l isr.reverse (xs (yT t))) (xk (yT t)) (yT t).pos] (.Tuple (as.r (xs (yE t))) (xk (yE t)) (yE t).pos) t.pos,
  fun t A _ z=>(as.ok _ _ z).ru (fun Q k=>aQz (Ey he (hw _ _ _ _ _ _)) k) fun z₁ l₁ ds=>
   (Pf q hs ds).ru (u:=fun _ Q=>Q .next) (fun Q q=>q) fun z₂ l₂ _=>.rt (x:=.next) rfl fun Q q=>q⟩
noncomputable def Sy:M SV:=fun st=>some (.ref st.cells.length,⟨st.loc,st.cells++[.barr []]⟩)
noncomputable def aAw(i:Nat)(g:Gl K.C (nm K.sl i) (.type "bytearray"))(h:eH K.sl i .globalImplicit=true:=by rfl):mX K:=⟨Sy,fun e=>.Call (.Name (nm K.sl i) (xq e)) [] [] e.pos,2,fun _=>rfl,fun e A st z=>.on fun Q q=>Yy (fR (nV h g (by
 refine aQu (aDy aDB aPs Bp (Q₁:=fun v s₁=>v= .ref z.s.heap.objs.size∧s₁= {z.s with heap:=z.s.heap.push (nG #[])}) (aBv ⟨rfl,rfl⟩) fun obj s₁ h=> ?_)
 obtain⟨rfl,rfl⟩:=h
 have ho:(z.s.heap.push (nG #[])).get? z.s.heap.objs.size=some (nG #[]):=nY _ rfl
 refine⟨⟨_,ho,rfl⟩,aBu ho ⟨rfl,?_⟩⟩
 have Kp:∀ b o,z.s.heap.get? b=some o→((z.s.heap.push (nG #[])).update z.s.heap.objs.size (vY fun _=>#[])).get? b=some o:=fun b o q=>by
  rw [Heap.get?_update_ne _ _ _ _ (qR (mI q))]
  exact gR _ q
 have ho':((z.s.heap.push (nG #[])).update z.s.heap.objs.size (vY fun _=>#[])).get? z.s.heap.objs.size=some (nG #[]):=uN _ ho rfl
 exact Go.adC (z:=z.to {z.s with heap:=(z.s.heap.push (nG #[])).update z.s.heap.objs.size (vY fun _=>#[])} (z.R.still.to _ _) Kp) (c:=.barr []) (p:=RU []) (z.R.fresh (cX _)) ho' (fun _=>.mk #[] rfl) id _ _ rfl Q fun z' x l d=>q _ _ rfl z' x l d)))⟩
noncomputable def Iq(a b:SV):M SV:=FI a (fun k l=>gM b (fun i=>gd ((decide (0≤i) && decide (i < 256)) && decide (l.length≤100000)) (JS k (.barr (l++[i.toNat])))) er) er
theorem aLP:UE K (fun x y=>call (.builtin "bytearray.append") [x,y]) Iq:=fun {A st} z a b x y dx dy=>
 .onBA (T:=fun x=>K.wpG A (call (.builtin "bytearray.append") [x,y])) dx (fun k b hw ho=>.onI (T:=fun y=>K.wpG A (call (.builtin "bytearray.append") [.ref (z.X.ρ k),y])) dy (fun i t=>.gd fun e=>by
  have e:=hJ _ _▸e
  have e':=hJ _ _▸e.1
  have h0:=of_decide_eq_true e'.1
  have h1:=of_decide_eq_true e'.2
  have hz:=of_decide_eq_true e.2
  rw [bQ,pY] at hz
  have ho':(z.s.heap.update (z.X.ρ k) (vY (·.push i.toNat.toUInt8))).get? (z.X.ρ k)=some (nG (b.push i.toNat.toUInt8)):=uN _ ho rfl
  exact .setC (D:=dV) (x:=Value.none) _ z.s.toks hw (sE ..) ⟨_,ho'⟩ (.mk _ hw ho' (.mk _ (by
   rw [Array.toList_push,cU]
   exact congrArg (fun x=>_++[x]) (Cj h0 h1)))) rfl fun Q q=>aBs ho h0 h1 (Ry (aP hz (bT rfl))) q) .er) .er
end
noncomputable abbrev kN:M SV:=rt (.pv .none)
noncomputable abbrev kB(b:Bool):M SV:=rt (.pv (.bool b))
noncomputable abbrev kI(i:Int):M SV:=rt (.pv (.int i))
noncomputable abbrev kS(l:List Nat):M SV:=rt (.pv (.str l))
noncomputable abbrev kY(l:List Nat):M SV:=rt (.pv (.bytes l))
noncomputable abbrev b2(m₁ m₂:M SV)(f:SV→SV→M SV):M SV:=bd m₁ fun a=>bd m₂ fun b=>f a b
noncomputable abbrev b3(m₁ m₂ m₃:M SV)(f:SV→SV→SV→M SV):M SV:=bd m₁ fun a=>bd m₂ fun b=>bd m₃ fun c=>f a b c
noncomputable abbrev c2(m₁ m₂:M SV)(f:SV→SV→M Bool):M SV:=bd m₁ fun a=>bd m₂ fun b=>bd (f a b) fun r=>rt (.pv (.bool r))
noncomputable abbrev t2(m₁ m₂:M SV)(f:SV→SV→M Bool):M Bool:=bd m₁ fun a=>bd m₂ fun b=>f a b
noncomputable abbrev tn(m:M Bool):M Bool:=bd m fun b=>rt (!b)
noncomputable abbrev tv(m:M SV):M Bool:=bd m zX
noncomputable abbrev vn(m:M SV):M SV:=bd m fun a=>bd (zX a) fun b=>rt (.pv (.bool (!b)))
noncomputable abbrev vor(m₁ m₂:M SV):M SV:=bd m₁ fun a=>bd (zX a) fun t=>match t with | true=>rt a | false=>m₂
noncomputable abbrev zY(m ms:M SV):M SV:=bd m fun a=>bd (zX a) fun t=>match t with | true=>ms | false=>rt a
noncomputable abbrev iY(mt:M Bool)(mb mo:M SV):M SV:=bd mt fun c=>match c with | true=>mb | false=>mo
noncomputable abbrev cf(f:Fn)(ms:M (List SV)):M SV:=bd ms fun as=>lS f as
noncomputable abbrev nw(c:Nat)(f:Fn)(ms:M (List SV)):M SV:=bd ms fun as=>QD c f as
noncomputable abbrev mR(g:SV→M Unit)(f:SV→M SV)(m₀:M SV):M SV:=bd m₀ fun a=>bd (g a) fun _=>f a
noncomputable abbrev bK(g:SV→M Unit)(f:SV→SV→M SV)(m₀ m₁:M SV):M SV:=bd m₀ fun a=>bd (g a) fun _=>bd m₁ fun b=>f a b
noncomputable abbrev BX(g:SV→M Unit)(f:SV→SV→SV→M SV)(m₀ m₁ m₂:M SV):M SV:=bd m₀ fun a=>bd (g a) fun _=>bd m₁ fun b=>bd m₂ fun c=>f a b c
noncomputable abbrev mc(c:Nat)(f:Fn)(m₀:M SV)(ms:M (List SV)):M SV:=bd m₀ fun a=>bd (IY c a) fun _=>bd ms fun as=>lS f (a::as)
noncomputable abbrev pS(m:M SV)(ml mh:M (Option Int)):M SV:=bd m fun a=>bd ml fun l=>bd mh fun u=>QX a l u
noncomputable abbrev aZ(i:Nat)(m:M SV):M Fl:=bd m fun v=>bd (sZ i v) fun _=>rt .next
noncomputable abbrev eQ(f:SV→SV→M Unit)(me mo:M SV):M Fl:=bd me fun c=>bd mo fun a=>bd (f a c) fun _=>rt .next
noncomputable abbrev gB(f:SV→SV→SV→M Unit)(me mo mi:M SV):M Fl:=bd me fun c=>bd mo fun a=>bd mi fun b=>bd (f a b c) fun _=>rt .next
noncomputable abbrev nF(is:List Nat)(ms:M (List SV)):M Fl:=bd ms fun vs=>bd (vO is vs) fun _=>rt .next
noncomputable abbrev oN(is:List Nat)(ms:M (List SV)):M Fl:=bd ms fun vs=>bd (vO is vs.reverse) fun _=>rt .next
noncomputable abbrev uY(is:List Nat)(m:M SV):M Fl:=bd m fun v=>bd (Fs is v) fun _=>rt .next
noncomputable abbrev au(i:Nat)(f:SV→SV→M SV)(m:M SV):M Fl:=bd (aA i) fun a=>bd m fun b=>bd (f a b) fun c=>bd (sZ i c) fun _=>rt .next
noncomputable abbrev Ja(g:SV→M SV)(f:SV→SV→M SV)(k:SV→SV→M Unit)(mo m:M SV):M Fl:=bd mo fun x=>bd (g x) fun a=>bd m fun b=>bd (f a b) fun c=>bd (k x c) fun _=>rt .next
noncomputable abbrev fo(src:M SV)(g:PV→M Unit)(m:M Fl):M Fl:=IJ dK src fun x=>bd (g x) fun _=>m
noncomputable abbrev foC(src:M SV)(g:PV→M Unit)(m:M Fl):M Fl:=Nw 100 src fun x=>bd (g x) fun _=>m
noncomputable abbrev nT(i:Nat):PV→M Unit:=fun v=>sZ i (.pv v)
noncomputable abbrev bH(mt:M Bool)(mb mo:M Fl):M Fl:=bd mt fun c=>match c with | true=>mb | false=>mo
noncomputable abbrev re(m:M SV):M Fl:=bd m fun v=>rt (.ret v)
noncomputable abbrev ex(m:M SV):M Fl:=bd m fun _=>rt .next
noncomputable abbrev pa(m:M SV):M (Option Int):=bd m Iy
noncomputable abbrev ge(f:SV→M SV)(m:M SV):M SV:=bd m f
noncomputable abbrev gu(u:M Unit)(m:M SV):M SV:=bd u fun _=>m
noncomputable def ar:List (M SV)→M (List SV)
 | []=>rt []
 |m::ms=>HV m (ar ms)
noncomputable def bl:List (M Fl)→M Fl
 | []=>rt .next
 |m::ms=>sq m (bl ms)
noncomputable abbrev aY(ms:M (List SV))(f:List SV→M SV):M SV:=bd ms f
noncomputable abbrev lY:=wQ fun a b=>decide (a < b)
noncomputable abbrev sP:=wQ fun a b=>decide (b < a)
noncomputable abbrev rK:=wQ fun a b=>decide (b≤a)
section
variable{C:Cx}{n:Nat}{sl:aL}{a:Addr}{sc:Scope}{body:List Stmt}{names:List Str}{g:List SV→Option (List SV)}{m:M Fl}{k:Nat}
theorem bU(P:kX C a sc body names g)(pk:∀ env:Env,env.scope=sc→env.func.isSome=true→PS ⟨C,n,sl,env⟩)(hm:∀ env he hf,(pk env he hf).m=m:=by intro _ _ _;kernel_rfl)(hr:∀ env he hf,(pk env he hf).r body=body:=by intro _ _ _;kernel_rfl)
  (hsl:sc.names=sl:=by rfl) (hnm:(sl.take names.length).map (·.1)=names:=by rfl) (hpk:Cy sl names.length=true:=by rfl) (hk:sl.length=k:=by rfl):RF C (n+1) a (bG k g m):=by
 obtain⟨fd,P1,hs,hb⟩:=P.ex
 subst hs;subst hk
 exact aAF P1 hsl ⟨hnm,hpk⟩ hb fun env he hf A st z=>by rw [←hr env he hf,←hm env he hf];exact(pk env he hf).ok body z
theorem DG(P:kX C a sc body names g)(pk:∀ env:Env,env.scope=sc→env.func.isSome=true→DC ⟨C,n,sl,env⟩)(hm:∀ env he hf,(pk env he hf).m=m:=by intro _ _ _;kernel_rfl)(hr:∀ env he hf,(pk env he hf).r body=body:=by intro _ _ _;kernel_rfl)
  (hsl:sc.names=sl:=by rfl) (hnm:(sl.take names.length).map (·.1)=names:=by rfl) (hpk:Cy sl names.length=true:=by rfl) (hk:sl.length=k:=by rfl):sL C (n+1) a (bG k g m):=by
 obtain⟨fd,P1,hs,hb⟩:=P.ex
 subst hs;subst hk
 exact aAE P1 hsl ⟨hnm,hpk⟩ hb fun env he hf A st z=>by rw [←hr env he hf,←hm env he hf];exact(pk env he hf).ok body z
end
theorem aLR{K:KK}{A:aR}{st:St}(z:Z K A st){i:Nat}{xs:List PV}{vs:List aB}{ep:Nat}(hi:i < st.cells.length)(hw:z.X.W (z.X.ρ i)=some (.cell i))(ho:z.s.heap.get? (z.X.ρ i)=some (bY vs ep))(d:bO K.C z.X xs vs)(Q:aB→aG→Prop)
  (q:∀(z':Z K A st) it o pi ok,z.le z'→z'.X.W it=none→z'.s.heap.get? it=some o→pG K.C it (xG i) pi ok→pi 0 o→ok z'.X st.cells.length→Q (.ref it) z'.s):K.wp A (pyIter (.ref (z.X.ρ i))) Q z.s:=
 Gg ⟨_,ho,rfl,_,rfl⟩ (CD z rfl aGS ⟨rfl,rfl⟩ ⟨hi,rfl⟩ q)
theorem Sl{K:KK}{i:Nat}(e:eH K.sl i .local=true:=by rfl):lM K i:=.inl e
theorem Sc{K:KK}{i:Nat}(h:K.env.func.isSome=true)(e:eH K.sl i .cell=true:=by rfl):lM K i:=.inr ⟨e,h⟩
noncomputable def gN(k:Nat)(as:List SV):Option (List SV):=match bR as.length k with
 |true=>some as
 |false=>none
noncomputable def gD(k:Nat)(ds:List PV)(as:List SV):Option (List SV):=match bR as.length k with
 |true=>some (as++ds.map .pv)
 |false=>none
noncomputable def gO(f g:List SV→Option (List SV))(as:List SV):Option (List SV):=match f as with
 |some r=>some r
 |none=>g as
section
noncomputable def aX(l:List Stmt)(i:Nat):Stmt:=match l[i]? with
 |some s=>s
 |none=>.Pass default
noncomputable def pQ:Stmt→Arguments
 |.FunctionDef _ p _ _ _ _ _ _ _ _=>p
 |_=>default
noncomputable def rI:Stmt→List Stmt
 |.FunctionDef _ _ b _ _ _ _ _ _ _=>b
 |_=>[]
noncomputable def rJ:Stmt→Scope
 |.FunctionDef _ _ _ _ _ _ s _ _ _=>s
 |_=>default
noncomputable def eR:Stmt→List Stmt
 |.ClassDef _ _ _ b _ _ _ _ _ _ _=>b
 |_=>[]
noncomputable def fH(s:Stmt):List Str:=(pQ s).args.map (·.arg)
noncomputable abbrev pB:List Stmt:=PySem.Challenge.pw_nt0314_01.main.body
noncomputable def tg{α:Type}(d:α)(l:List α)(i:Nat):α:=match l[i]? with
 |some r=>r
 |none=>d
noncomputable abbrev fu(a i:Nat):Addr×Stmt:=(a,aX pB i)
noncomputable abbrev me(a i j:Nat):Addr×Stmt:=(a,aX (eR (aX pB i)) j)
noncomputable def tF:List (Addr×Stmt):=[fu 354 39,me 610 54 1,me 799 71 0,me 383 41 1,fu 1000 84,fu 931 73,fu 938 74,fu 945 75,fu 950 76,fu 955 77,fu 976 80,fu 983 81,fu 988 82,fu 995 83,me 687 63 0,fu 95 17,me 124 19 1,fu 83 15,fu 785 69,me 806 71 1,fu 722 64,me 708 63 3,me 750 66 1,me 694 63 1,fu 673 62,fu 666 61,fu 729 65,fu 771 67,fu 778 68,me 820 71 3,me 743 66 0,me 813 71 2,fu 962 78,fu 969 79,fu 1007 85,me 520 50 3,me 534 50 5,me 555 51 0,me 862 71 9,me 883 71 12,me 890 71 13,me 513 50 2,me 562 51 1,fu 442 42,me 603 54 0,fu 456 44,fu 463 45,fu 470 46,me 897 71 14,fu 449 43,fu 477 47,fu 361 40,fu 622 55,me 636 56 0,me 187 22 0,me 194 22 1,me 199 22 2,me 220 23 0,me 145 21 0,me 248 23 4,fu 311 24,me 255 23 5,me 241 23 3,me 234 23 2,me 262 23 6,me 227 23 1,fu 325 26,fu 347 29,fu 102 18,fu 650 57,fu 589 53,fu 1012 86]
noncomputable def tC:List (Str×PV):=[(("ADDED":Str),.str [65]),(("BLOB":Str),.bytes [98,108,111,98]),(("DIR":Str),.int 16384),(("EXEC":Str),.int 33261),(("FILE":Str),.int 33188),(("FOLDER":Str),.str [102,111,108,100,101,114]),(("GONE":Str),.str [68]),(("LINK":Str),.int 40960),(("MODULE":Str),.str [109,111,100,117,108,101]),(("OTHER":Str),.str [77]),(("OTHER_KIND":Str),.str [84]),(("PLAIN":Str),.str [102,105,108,101]),(("POINTER":Str),.str [108,105,110,107]),(("SUB":Str),.int 57344),(("TREE":Str),.bytes [116,114,101,101])]
noncomputable def tB:List (Str×aB):=[(("any":Str),.builtin "any"),(("bytearray":Str),.type "bytearray"),(("bytes":Str),.type "bytes"),(("dict":Str),.type "dict"),(("int":Str),.type "int"),(("isinstance":Str),.builtin "isinstance"),(("len":Str),.builtin "len"),(("list":Str),.type "list"),(("max":Str),.builtin "max"),(("min":Str),.builtin "min"),(("ord":Str),.builtin "ord"),(("range":Str),.type "range"),(("sorted":Str),.builtin "sorted"),(("str":Str),.type "str"),(("tuple":Str),.type "tuple")]
noncomputable def tG:List (Str×Addr):=[(("big_endian":Str),95),(("broken":Str),584),(("by":Str),347),(("check_tree":Str),778),(("combined":Str),622),(("diff_trees":Str),483),(("_law_broken":Str),1000),(("_law_deck":Str),931),(("_law_draw":Str),938),(("_law_file":Str),950),(("_law_is_text":Str),976),(("_law_line":Str),945),(("_law_lines":Str),983),(("_law_next":Str),955),(("_law_numbers":Str),988),(("_law_row":Str),995),(("_law_tree":Str),969),(("_law_version":Str),962),(("_law_word":Str),1007),(("line_further":Str),311),(("lines_of":Str),102),(("myers":Str),325),(("object_are_all":Str),673),(("object_by_eights":Str),722),(("object_has_sign":Str),666),(("object_name_fault":Str),729),(("object_octets":Str),785),(("octets_of":Str),83),(("tree_faults":Str),771),(("treediff_added":Str),456),(("treediff_beside":Str),470),(("treediff_content":Str),650),(("treediff_entries":Str),449),(("treediff_gone":Str),463),(("treediff_is_alike":Str),477),(("treediff_is_binary":Str),491),(("treediff_joined":Str),361),(("treediff_kind":Str),354),(("treediff_numbers":Str),658),(("treediff_order":Str),442),(("treediff_rejoined":Str),589)]
noncomputable def tK:List Str:=[("CountingHasher":Str),("Change":Str),("LineNumbers":Str),("LineSheet":Str),("PathChange":Str),("Spans":Str),("TreediffContents":Str),("CombinedChange":Str),("TreediffNumbers":Str),("Entry":Str),("Tree":Str),("MemoryStore":Str)]
noncomputable def tM:List (Nat×Str×Addr):=[(7,("words":Str),610),(0,("digest":Str),124),(9,("octets":Str),708),(9,("sort_key":Str),694),(2,("number_of":Str),194),(2,("numbers_of":Str),199),(3,("changes":Str),248),(3,("halved":Str),255),(3,("mark":Str),241),(3,("mark_fewest":Str),262),(3,("trimmed":Str),234),(3,("whole":Str),227),(11,("blob":Str),890),(11,("keep":Str),806),(11,("of_kind":Str),883),(11,("row_of":Str),862),(11,("tree":Str),897),(11,("write":Str),813),(11,("write_tree":Str),820),(4,("new_half":Str),414),(4,("old_half":Str),406),(5,("percent_gone":Str),534),(5,("put":Str),513),(5,("shared":Str),520),(10,("octets":Str),750),(6,("spans":Str),562)]
noncomputable def tI:List Addr:=[117,145,187,220,376,506,555,603,636,687,743,799]
noncomputable def VN:List (Nat×Nat):=[(0,0),(5,0)]
noncomputable def UZ:List (Nat×Nat):=[(0,1),(2,0)]
noncomputable def UL:List (Nat×Nat):=[(1,0)]
noncomputable def UM:List (Nat×Nat):=[(1,1)]
noncomputable def UO:List (Nat×Nat):=[(1,2)]
noncomputable def UP:List (Nat×Nat):=[(1,3)]
noncomputable def Ie:List (Nat×Nat):=[(2,1)]
noncomputable def US:List (Nat×Nat):=[(2,2)]
noncomputable def UK:List (Nat×Nat):=[(3,0)]
noncomputable def UN:List (Nat×Nat):=[(3,1)]
noncomputable def UW:List (Nat×Nat):=[(3,2)]
noncomputable def UR:List (Nat×Nat):=[(3,3)]
noncomputable def VQ:List (Nat×Nat):=[(4,0)]
noncomputable def VH:List (Nat×Nat):=[(4,1)]
noncomputable def VG:List (Nat×Nat):=[(4,2)]
noncomputable def VI:List (Nat×Nat):=[(4,3)]
noncomputable def VD:List (Nat×Nat):=[(4,4),(7,2)]
noncomputable def VC:List (Nat×Nat):=[(4,5),(7,3)]
noncomputable def VE:List (Nat×Nat):=[(4,6)]
noncomputable def VM:List (Nat×Nat):=[(4,7)]
noncomputable def UT:List (Nat×Nat):=[(5,1)]
noncomputable def VO:List (Nat×Nat):=[(6,0)]
noncomputable def UQ:List (Nat×Nat):=[(6,1)]
noncomputable def VK:List (Nat×Nat):=[(7,0),(8,0)]
noncomputable def VJ:List (Nat×Nat):=[(7,1)]
noncomputable def VL:List (Nat×Nat):=[(8,1)]
noncomputable def VP:List (Nat×Nat):=[(8,2)]
noncomputable def VA:List (Nat×Nat):=[(9,0)]
noncomputable def VB:List (Nat×Nat):=[(9,1)]
noncomputable def VF:List (Nat×Nat):=[(9,2)]
noncomputable def UU:List (Nat×Nat):=[(10,0)]
noncomputable def UX:List (Nat×Nat):=[(11,0)]
noncomputable def UY:List (Nat×Nat):=[(11,1)]
noncomputable def tA:List (Str×List (Nat×Nat)):=[(("size":Str),VN),(("known":Str),UZ),(("a_from":Str),UL),(("a_to":Str),UM),(("b_from":Str),UO),(("b_to":Str),UP),(("strange":Str),Ie),(("count":Str),US),(("a":Str),UK),(("b":Str),UN),(("gone":Str),UW),(("come":Str),UR),(("word":Str),VQ),(("old_mode":Str),VH),(("old_id":Str),VG),(("old_path":Str),VI),(("new_mode":Str),VD),(("new_id":Str),VC),(("new_path":Str),VE),(("score":Str),VM),(("counts":Str),UT),(("store":Str),VO),(("by_id":Str),UQ),(("path":Str),VK),(("olds":Str),VJ),(("put_in":Str),VL),(("taken_out":Str),VP),(("mode":Str),VA),(("name":Str),VB),(("oid":Str),VF),(("entries":Str),UU),(("hasher":Str),UX),(("kept":Str),UY)]
noncomputable def vG:Nat→Addr×Stmt:=tg (0,.Pass default) tF
noncomputable def EM:Nat→Str×PV:=tg ("",.none) tC
noncomputable def IM:Nat→Str×aB:=tg ("",.none) tB
noncomputable def IS:Nat→Str×Addr:=tg ("",0) tG
noncomputable def ZL:Nat→Str:=tg "" tK
noncomputable def FG:Nat→Nat×Str×Addr:=tg (0,"",0) tM
noncomputable def QF:Nat→Addr:=tg 0 tI
noncomputable def xS:Nat→Str×List (Nat×Nat):=tg ("",[]) tA
structure bL(C:Cx):Prop where
 fn:∀ i,bV i 72=true→kX C (vG i).1 (rJ (vG i).2) (rI (vG i).2) (fH (vG i).2) (gN (fH (vG i).2).length)
 gc:∀ i,bV i 15=true→GJ C (EM i).1 (EM i).2
 gb:∀ i,bV i 15=true→Gl C (IM i).1 (IM i).2
 gf:∀ i,bV i 41=true→Gl C (IS i).1 (.ref (IS i).2)
 gk:∀ i,bV i 12=true→Gl C (ZL i) (.ref (C.cls i))
 mt:∀ i,bV i 26=true→CW C (FG i).1 (FG i).2.1 (FG i).2.2
 nw:∀ i,bV i 12=true→ME C i (QF i)
 tb:∀ i,bV i 33=true→HG C (xS i).1 (xS i).2
 p_CountingHasher_I:kX C 117 (rJ (aX (eR (aX pB 19)) 0)) (rI (aX (eR (aX pB 19)) 0)) (fH (aX (eR (aX pB 19)) 0)) (gN 2)
 p_PathChange_I:kX C 376 (rJ (aX (eR (aX pB 41)) 0)) (rI (aX (eR (aX pB 41)) 0)) (fH (aX (eR (aX pB 41)) 0)) (gO (gN 9) (gD 8 [.none]))
 p_PathChange_new_half:kX C 414 (rJ (aX (eR (aX pB 41)) 5)) (rI (aX (eR (aX pB 41)) 5)) (fH (aX (eR (aX pB 41)) 5)) (gN 2)
 p_PathChange_old_half:kX C 406 (rJ (aX (eR (aX pB 41)) 4)) (rI (aX (eR (aX pB 41)) 4)) (fH (aX (eR (aX pB 41)) 4)) (gN 2)
 p_treediff_is_binary:kX C 491 (rJ (aX pB 49)) (rI (aX pB 49)) (fH (aX pB 49)) (gD 1 [.int 8000])
 p_Spans_I:kX C 506 (rJ (aX (eR (aX pB 50)) 1)) (rI (aX (eR (aX pB 50)) 1)) (fH (aX (eR (aX pB 50)) 1)) (gD 2 [.int 64])
 p_broken:kX C 584 (rJ (aX pB 52)) (rI (aX pB 52)) (fH (aX pB 52)) (gN 4)
 p_diff_trees:kX C 483 (rJ (aX pB 48)) (rI (aX pB 48)) (fH (aX pB 48)) (gD 3 [.bytes [],.bool true])
 p_treediff_numbers:kX C 658 (rJ (aX pB 58)) (rI (aX pB 58)) (fH (aX pB 58)) (gD 2 [.str [109,121,101,114,115]])
 g_OBJECT_MODES:GJ C "OBJECT_MODES" (.tup [.int 33188,.int 33261,.int 40960,.int 16384,.int 57344])
 fsz:∀ c,(C.fld c).length≤20
 a_WRAP:∀ {n sl env},qT ⟨C,n,sl,env⟩ "WRAP" (WI 5 (.int 2147483647))
 a_path:∀ {n m sl env f},n+1≤m→RF C n 383 f→qT ⟨C,m,sl,env⟩ "path" (Di 4 f)
variable{C:Cx}{n:Nat}{sl:aL}{env:Env}
theorem aQ(H:bL C)(i:Nat)(h:bV i 33=true):qT ⟨C,n,sl,env⟩ (xS i).1 (fP (xS i).2):=Vx (H.tb i h)
theorem eP(H:bL C)(i:Nat)(h:bV i 33=true):ML ⟨C,n,sl,env⟩ (xS i).1 (fK (xS i).2):=aMa (H.tb i h) H.fsz
noncomputable abbrev qW:SV→M SV:=fP VN
noncomputable abbrev Fv:SV→SV→M Unit:=fK VN
noncomputable abbrev uW:SV→M SV:=fP UZ
noncomputable abbrev Yn:SV→SV→M Unit:=fK UZ
noncomputable abbrev VT:SV→M SV:=fP UL
noncomputable abbrev aPL:SV→SV→M Unit:=fK UL
noncomputable abbrev VU:SV→M SV:=fP UM
noncomputable abbrev aPM:SV→SV→M Unit:=fK UM
noncomputable abbrev VV:SV→M SV:=fP UO
noncomputable abbrev aPO:SV→SV→M Unit:=fK UO
noncomputable abbrev VW:SV→M SV:=fP UP
noncomputable abbrev aPP:SV→SV→M Unit:=fK UP
noncomputable abbrev aQi:SV→SV→M Unit:=fK Ie
noncomputable abbrev Ih:SV→M SV:=fP US
noncomputable abbrev Ym:SV→SV→M Unit:=fK US
noncomputable abbrev AQ:SV→M SV:=fP UK
noncomputable abbrev w_a:SV→SV→M Unit:=fK UK
noncomputable abbrev AR:SV→M SV:=fP UN
noncomputable abbrev w_b:SV→SV→M Unit:=fK UN
noncomputable abbrev Ii:SV→M SV:=fP UW
noncomputable abbrev aPU:SV→SV→M Unit:=fK UW
noncomputable abbrev Ig:SV→M SV:=fP UR
noncomputable abbrev aPR:SV→SV→M Unit:=fK UR
noncomputable abbrev wJ:SV→M SV:=fP VQ
noncomputable abbrev aQk:SV→SV→M Unit:=fK VQ
noncomputable abbrev qV:SV→M SV:=fP VH
noncomputable abbrev aQc:SV→SV→M Unit:=fK VH
noncomputable abbrev oM:SV→M SV:=fP VG
noncomputable abbrev aQb:SV→SV→M Unit:=fK VG
noncomputable abbrev MR:SV→M SV:=fP VI
noncomputable abbrev aQd:SV→SV→M Unit:=fK VI
noncomputable abbrev oL:SV→M SV:=fP VD
noncomputable abbrev Yp:SV→SV→M Unit:=fK VD
noncomputable abbrev lO:SV→M SV:=fP VC
noncomputable abbrev Yo:SV→SV→M Unit:=fK VC
noncomputable abbrev HJ:SV→M SV:=fP VE
noncomputable abbrev aPZ:SV→SV→M Unit:=fK VE
noncomputable abbrev WA:SV→M SV:=fP VM
noncomputable abbrev aQg:SV→SV→M Unit:=fK VM
noncomputable abbrev AU:SV→M SV:=fP UT
noncomputable abbrev aPS:SV→SV→M Unit:=fK UT
noncomputable abbrev aAK:SV→M SV:=fP VO
noncomputable abbrev aQh:SV→SV→M Unit:=fK VO
noncomputable abbrev VX:SV→M SV:=fP UQ
noncomputable abbrev aPQ:SV→SV→M Unit:=fK UQ
noncomputable abbrev Yq:SV→SV→M Unit:=fK VK
noncomputable abbrev VY:SV→M SV:=fP VJ
noncomputable abbrev aQe:SV→SV→M Unit:=fK VJ
noncomputable abbrev VZ:SV→M SV:=fP VL
noncomputable abbrev aQf:SV→SV→M Unit:=fK VL
noncomputable abbrev WB:SV→M SV:=fP VP
noncomputable abbrev aQj:SV→SV→M Unit:=fK VP
noncomputable abbrev oJ:SV→M SV:=fP VA
noncomputable abbrev aPX:SV→SV→M Unit:=fK VA
noncomputable abbrev tV:SV→M SV:=fP VB
noncomputable abbrev aPY:SV→SV→M Unit:=fK VB
noncomputable abbrev qU:SV→M SV:=fP VF
noncomputable abbrev aQa:SV→SV→M Unit:=fK VF
noncomputable abbrev MP:SV→M SV:=fP UU
noncomputable abbrev aPT:SV→SV→M Unit:=fK UU
noncomputable abbrev aAJ:SV→M SV:=fP UX
noncomputable abbrev aPV:SV→SV→M Unit:=fK UX
noncomputable abbrev MQ:SV→M SV:=fP UY
noncomputable abbrev aPW:SV→SV→M Unit:=fK UY
noncomputable abbrev a_WRAP:SV→M SV:=WI 5 (.int 2147483647)
theorem aJH(H:bL C):qT ⟨C,n,sl,env⟩ "WRAP" a_WRAP:=H.a_WRAP
noncomputable abbrev EX:M SV:=rt (.pv (.str [65]))
noncomputable abbrev Ak:M SV:=rt (.pv (.bytes [98,108,111,98]))
noncomputable abbrev EY:M SV:=rt (.pv (.int 16384))
noncomputable abbrev Al:M SV:=rt (.pv (.int 33261))
noncomputable abbrev PG:M SV:=rt (.pv (.int 33188))
noncomputable abbrev Qq:M SV:=rt (.pv (.str [102,111,108,100,101,114]))
noncomputable abbrev BR:M SV:=rt (.pv (.str [68]))
noncomputable abbrev aHc:M SV:=rt (.pv (.int 40960))
noncomputable abbrev Am:M SV:=rt (.pv (.str [109,111,100,117,108,101]))
noncomputable abbrev EZ:M SV:=rt (.pv (.str [77]))
noncomputable abbrev Qs:M SV:=rt (.pv (.str [84]))
noncomputable abbrev BS:M SV:=rt (.pv (.str [102,105,108,101]))
noncomputable abbrev aHd:M SV:=rt (.pv (.str [108,105,110,107]))
noncomputable abbrev aHe:M SV:=rt (.pv (.int 57344))
noncomputable abbrev Qt:M SV:=rt (.pv (.bytes [116,114,101,101]))
noncomputable abbrev Qr:M SV:=rt (.pv (.tup [.int 33188,.int 33261,.int 40960,.int 16384,.int 57344]))
end
section
variable{C:Cx}
noncomputable def aMX:aL:=[("self",.local)]
noncomputable def aCy:M Fl:=(bl [(re (iY (t2 (ge HJ (aA 0)) kN oS) (ge MR (aA 0)) (ge HJ (aA 0))))])
noncomputable def Mx:Fn:=(cI 0 (bG 1 (gN 1) aCy))
theorem aKn(H:bL C):RF C 1 383 Mx:=
 (cS 0 (bU (sl:=aMX) (H.fn 3 rfl) (fun env he hf=>
 (aC (bP (lB (aU rU (aM (aQ H 18 rfl) (L 0)) Kn) (aM (aQ H 15 rfl) (L 0)) (aM (aQ H 18 rfl) (L 0)))) aE))))
noncomputable abbrev a_path:SV→M SV:=fun a=>al (fP VK a) (Di 4 Mx a)
theorem zQ(H:bL C)(hn:1+1≤n):qT ⟨C,n,sl,env⟩ "path" a_path:=aAG (Vx (H.tb 23 rfl)) (H.a_path hn (aKn H))
noncomputable def aOn:aL:=[("mode",.local),("DIR",.globalImplicit),("FOLDER",.globalImplicit),("LINK",.globalImplicit),("POINTER",.globalImplicit),("SUB",.globalImplicit),("MODULE",.globalImplicit),("PLAIN",.globalImplicit)]
noncomputable def aDq:M Fl:=(bl [(bH (t2 (aA 0) EY cK) (bl [(re Qq)]) (bl [])),
 (bH (t2 (aA 0) aHc cK) (bl [(re aHd)]) (bl [])),
 (re (iY (t2 (aA 0) aHe cK) Am BS))])
noncomputable def rH:Fn:=(cI 0 (bG 8 (gN 1) aDq))
theorem CE(H:bL C):RF C 1 354 rH:=
 (cS 0 (bU (sl:=aOn) (H.fn 0 rfl) (fun env he hf=>
 (aC (cD (aU eX (L 0) (Gc 1 (H.gc 2 rfl))) (aC (bP (Gc 2 (H.gc 5 rfl))) aE) aE) (aC (cD (aU eX (L 0) (Gc 3 (H.gc 7 rfl))) (aC (bP (Gc 4 (H.gc 12 rfl))) aE) aE) (aC (bP (lB (aU eX (L 0) (Gc 5 (H.gc 13 rfl))) (Gc 6 (H.gc 8 rfl)) (Gc 7 (H.gc 11 rfl)))) aE))))))
noncomputable def aMv:aL:=[("self",.local),("found",.local),("mode",.local),("oid",.local),("ADDED",.globalImplicit),("GONE",.globalImplicit),("treediff_kind",.globalImplicit),("OTHER",.globalImplicit),("OTHER_KIND",.globalImplicit)]
noncomputable def aBZ:M Fl:=(bl [(aZ 1 (kS [])),
 (fo (ge VY (aA 0)) (RG [2,3]) (bl [(bH (t2 (aA 3) kN oS) (bl [(au 1 jJ EX)]) (bl [(bH (t2 (ge lO (aA 0)) kN oS) (bl [(au 1 jJ BR)]) (bl [(au 1 jJ (iY (t2 (cf rH (ar [(aA 2)])) (cf rH (ar [(ge oL (aA 0))])) cK) EZ Qs))]))]))])),
 (re (aA 1))])
noncomputable def XY:Fn:=(cI 0 (bG 9 (gN 1) aBZ))
theorem aJS(H:bL C):RF C 2 610 XY:=
 (cS 0 (bU (sl:=aMv) (H.fn 1 rfl) (fun env he hf=>
 (aC (bZ 1 Sl (Ks "" [])) (aC (hU cZ (aM (aQ H 24 rfl) (L 0)) (aAo 484 [2,3]) (aC (cD (aU rU (L 3) Kn) (aC (mY 1 nN (Gc 4 (H.gc 0 rfl))) aE) (aC (cD (aU rU (aM (aQ H 17 rfl) (L 0)) Kn) (aC (mY 1 nN (Gc 5 (H.gc 6 rfl))) aE) (aC (mY 1 nN (lB (aU eX (cG 6 (H.gf 37 rfl) (H.fn 0 rfl).is (CE H) (aD (L 2) aH)) (cG 6 (H.gf 37 rfl) (H.fn 0 rfl).is (CE H) (aD (aM (aQ H 16 rfl) (L 0)) aH))) (Gc 7 (H.gc 9 rfl)) (Gc 8 (H.gc 10 rfl)))) aE)) aE)) aE)) (aC (bP (L 1)) aE))))))
noncomputable def aMw:aL:=[("self",.local),("size",.local)]
noncomputable def aCa:M Fl:=(bl [(eQ Fv (aA 1) (aA 0)),
 (eQ Yn (uF .bytes) (aA 0))])
noncomputable def Mr:Fn:=(bG 2 (gN 2) aCa)
theorem aJT(H:bL C):RF C 1 117 Mr:=
 (bU (sl:=aMw) H.p_CountingHasher_I (fun env he hf=>
 (aC (eY (eP H 0 rfl) (L 1) (L 0)) (aC (eY (eP H 1 rfl) (wC .bytes) (L 0)) aE))))
noncomputable def aMM:aL:=[("self",.local),("hasher",.local)]
noncomputable def aCn:M Fl:=(bl [(eQ aPV (aA 1) (aA 0)),
 (eQ aPW (uF .bytes) (aA 0))])
noncomputable def Mw:Fn:=(bG 2 (gN 2) aCn)
theorem aKg(H:bL C):RF C 1 799 Mw:=
 (bU (sl:=aMM) (H.fn 2 rfl) (fun env he hf=>
 (aC (eY (eP H 31 rfl) (L 1) (L 0)) (aC (eY (eP H 32 rfl) (wC .bytes) (L 0)) aE))))
noncomputable def aNC:aL:=[(".0",.local),("line",.local),("far",.free)]
noncomputable def aNB:aL:=[("rows",.local),("old",.local),("new",.local),("least",.local),("found",.local),("row",.local),("gone",.local),("near",.local),("far",.cell),("len",.globalImplicit)]
noncomputable def aCM:M Fl:=(bl [(aZ 4 (aY (ar []) kE)),
 (fo (aA 0) (nT 5) (bl [(aZ 6 (kI 0)),
 (bH (t2 (b2 (aA 5) (kI 0) aV) (kS [77]) cK) (bl [(nF [7,8] (ar [(b2 (b2 (aA 1) (b2 (aA 5) (kI 3) aV) aV) (kI 1) aV),(b2 (b2 (aA 2) (b2 (aA 5) (kI 6) aV) aV) (kI 1) aV)])),
 (aZ 6 (b2 (kI 10) (ge iL (eG dK (aA 7) [none,none,some 8] (nT 1) (t2 (aA 1) (aA 2) fB) (aA 1))) qJ))]) (bl [])),
 (bH (cE (t2 (b2 (aA 5) (kI 0) aV) (kS [77]) cK) (cE (t2 (aA 6) (aA 3) rK) (rt true))) (bl [(ex (bK cR BU (aA 4) (aY (ar [(b2 (b2 (aY (ar [(kS [68])]) cM) (pS (aA 5) (pa (kI 1)) (pa (kI 4))) bM) (aY (ar [(kI 0),kN,kN]) cM) bM),(b2 (aY (ar [(kS [65]),(kI 0),kN,kN]) cM) (pS (aA 5) (pa (kI 4)) (rt none)) bM)]) kP)))]) (bl [(ex (bK cR dD (aA 4) (aA 5)))]))])),
 (re (ge cC (aA 4)))])
noncomputable def YL:Fn:=(cI 0 (bG 10 (gN 4) aCM))
theorem aKB(H:bL C):RF C 1 1000 YL:=
 (cS 0 (bU (sl:=aNB) (H.fn 4 rfl) (fun env he hf=>
 (aC (bZ 4 Sl (mL aH)) (aC (hU cZ (L 0) (cY 5) (aC (bZ 6 Sl (Ki 0)) (aC (cD (aU eX (cJ cN (L 5) (Ki 0)) (Ks "M" [77])) (aC (wA 749 [7,8] (aD (cJ cN (cJ cN (L 1) (cJ cN (L 5) (Ki 3))) (Ki 1)) (aD (cJ cN (cJ cN (L 2) (cJ cN (L 5) (Ki 6))) (Ki 1)) aH)) he (q:=LA hf rfl)) (aC (bZ 6 Sl (aW zT (Ki 10) (iJ 9 (H.gb 6 rfl) mE (mZ cZ aNC [none,none,some 8] (L 7) (fun _=>cP (cY 1) (DF (aU oZ (L 1) (Lc 2))) (L 1)))))) aE)) aE) (aC (cD (jF (eE (aU eX (cJ cN (L 5) (Ki 0)) (Ks "M" [77])) (eE (aU FP (L 6) (L 3)) oG))) (aC (fY (dT Sm gP Vp (L 4) (nA (aD (aW cO (aW cO (eO (aD (Ks "D" [68]) aH)) (yG (L 5) (tR (Ki 1)) (tR (Ki 4)))) (eO (aD (Ki 0) (aD Kn (aD Kn aH))))) (aD (aW cO (eO (aD (Ks "A" [65]) (aD (Ki 0) (aD Kn (aD Kn aH))))) (yG (L 5) (tR (Ki 4)) HE)) aH))))) aE) (aC (fY (dT jA gP jB (L 4) (L 5))) aE)) aE)))) (aC (bP (fF fA (L 4))) aE))))))
noncomputable def aNE:aL:=[(".0",.local),("cell",.local),("int",.globalImplicit)]
noncomputable def aND:aL:=[("script",.local),("cell",.local),("left",.local),("mixed",.local)]
noncomputable def aCN:M Fl:=(bl [(oN [3,2] (ar [(NK dK (ge cC (pS (aA 0) (rt none) (pa (kI 24)))) [none,none,none] (nT 1) (rt true) (b2 (ge PB (aA 1)) (kI 1000003) (bX mA))),(kI 6363)])),
 (foC (aA 2) (nT 1) (bl [(aZ 3 (b2 (b2 (b2 (b2 (aA 3) (kI 31) qJ) (aA 1) bM) (kI 1) bM) (kI 1000003) (bX mA)))])),
 (re (aY (ar [(aA 2),(aA 3)]) (Bo .str [.str [108,101,102,116],.str [109,105,120,101,100]])))])
noncomputable def YM:Fn:=(bG 4 (gN 1) aCN)
theorem aKC(H:bL C):RF C 1 931 YM:=
 (bU (sl:=aND) (H.fn 5 rfl) (fun env he hf=>
 (aC (yD 692 [3,2] (aD (aAx cZ aNE [none,none,none] (fF fA (yG (L 0) HE (tR (Ki 24)))) (fun _=>cP (cY 1) oF (aW sY (kL 2 (H.gb 4 rfl) aLk (L 1)) (Ki 1000003)))) (aD (Ki 6363) aH)) he) (aC (aAt 100 (L 2) (cY 1) (aC (bZ 3 Sl (aW sY (aW cO (aW cO (aW zT (L 3) (Ki 31)) (L 1)) (Ki 1)) (Ki 1000003))) aE) aLR) (aC (bP (Hv .str (yI (Ks "left" [108,101,102,116]) (L 2) (yI (Ks "mixed" [109,105,120,101,100]) (L 3) HF)))) aE)))))
noncomputable def aNF:aL:=[("deck",.local),("many",.local)]
noncomputable def aCO:M Fl:=(bl [(bH (t2 (b2 (aA 0) (kS [108,101,102,116]) aV) (aY (ar []) kP) oW) (bl [(re (b2 (bK cR Qz (b2 (aA 0) (kS [108,101,102,116]) aV) (kI 0)) (aA 1) (bX mA)))]) (bl [])),
 (gB fQ (b2 (b2 (b2 (b2 (aA 0) (kS [109,105,120,101,100]) aV) (kI 4801) qJ) (kI 97) bM) (kI 1000003) (bX mA)) (aA 0) (kS [109,105,120,101,100])),
 (re (b2 (b2 (b2 (aA 0) (kS [109,105,120,101,100]) aV) (kI 7) (bX BJ)) (aA 1) (bX mA)))])
noncomputable def wV:Fn:=(cI 8 (bG 2 (gN 2) aCO))
theorem QO(H:bL C):RF C 1 938 wV:=
 (cS 8 (bU (sl:=aNF) (H.fn 6 rfl) (fun env he hf=>
 (aC (cD (aU vM (cJ cN (L 0) (Ks "left" [108,101,102,116])) (nA aH)) (aC (bP (aW sY (dT Bl gP aLB (cJ cN (L 0) (Ks "left" [108,101,102,116])) (Ki 0)) (L 1))) aE) aE) (aC (lL mF (aW sY (aW cO (aW zT (cJ cN (L 0) (Ks "mixed" [109,105,120,101,100])) (Ki 4801)) (Ki 97)) (Ki 1000003)) (L 0) (Ks "mixed" [109,105,120,101,100])) (aC (bP (aW sY (aW FO (cJ cN (L 0) (Ks "mixed" [109,105,120,101,100])) (Ki 7)) (L 1))) aE))))))
noncomputable def aNJ:aL:=[("w",.local),("bytes",.globalImplicit)]
noncomputable def aCR:M Fl:=(bl [(gB fQ (b2 (b2 (aA 0) (kS [99,111,117,110,116]) aV) (kI 1) bM) (aA 0) (kS [99,111,117,110,116])),
 (re (ge yU (aY (ar [(b2 (kI 65) (b2 (b2 (b2 (aA 0) (kS [99,111,117,110,116]) aV) (kI 100) (bX BJ)) (kI 10) (bX mA)) bM),(b2 (kI 48) (b2 (b2 (b2 (aA 0) (kS [99,111,117,110,116]) aV) (kI 10) (bX BJ)) (kI 10) (bX mA)) bM),(b2 (kI 48) (b2 (b2 (aA 0) (kS [99,111,117,110,116]) aV) (kI 10) (bX mA)) bM),(kI 10)]) kP)))])
noncomputable def BG:Fn:=(cI 8 (bG 2 (gN 1) aCR))
theorem Ve(H:bL C):RF C 1 945 BG:=
 (cS 8 (bU (sl:=aNJ) (H.fn 7 rfl) (fun env he hf=>
 (aC (lL mF (aW cO (cJ cN (L 0) (Ks "count" [99,111,117,110,116])) (Ki 1)) (L 0) (Ks "count" [99,111,117,110,116])) (aC (bP (kL 1 (H.gb 2 rfl) CH (nA (aD (aW cO (Ki 65) (aW sY (aW FO (cJ cN (L 0) (Ks "count" [99,111,117,110,116])) (Ki 100)) (Ki 10))) (aD (aW cO (Ki 48) (aW sY (aW FO (cJ cN (L 0) (Ks "count" [99,111,117,110,116])) (Ki 10)) (Ki 10))) (aD (aW cO (Ki 48) (aW sY (cJ cN (L 0) (Ks "count" [99,111,117,110,116])) (Ki 10))) (aD (Ki 10) aH))))))) aE)))))
noncomputable def aNH:aL:=[(".0",.local),("k",.local),("_law_line",.globalImplicit),("w",.free)]
noncomputable def aNG:aL:=[("deck",.local),("w",.cell),("lines",.local),("range",.globalImplicit),("_law_draw",.globalImplicit),("FILE",.globalImplicit)]
noncomputable def aCP:M Fl:=(bl [(aZ 2 (NK dK (ge CG (kI 10)) [none,none,none,some 1] (nT 1) (rt true) (cf BG (ar [(aA 3)])))),
 (bH (t2 (cf wV (ar [(aA 0),(kI 4)])) (kI 3) cK) (bl [(gB fQ (b2 (kY [0]) (pS (b2 (aA 2) (kI 0) aV) (pa (kI 1)) (rt none)) bM) (aA 2) (kI 0))]) (bl [])),
 (re (aY (ar [PG,(ge cC (aA 2))]) cM))])
noncomputable def EE:Fn:=(cI 8 (bG 6 (gN 2) aCP))
theorem Ds(H:bL C):RF C 2 950 EE:=
 (cS 8 (bU (sl:=aNG) (H.fn 8 rfl) (fun env he hf=>
 (aC (aAs 2 Sl cZ aNH [none,none,none,some 1] (kL 3 (H.gb 11 rfl) QR (Ki 10)) (fun _=>cP (cY 1) oF (cG 2 (H.gf 11 rfl) (H.fn 7 rfl).is (Ve H) (aD (Lc 3) aH)))) (aC (cD (aU eX (cG 4 (H.gf 8 rfl) (H.fn 6 rfl).is (QO H) (aD (L 0) (aD (Ki 4) aH))) (Ki 3)) (aC (lL mF (aW cO (Ky [0] [0]) (yG (cJ cN (L 2) (Ki 0)) (tR (Ki 1)) HE)) (L 2) (Ki 0)) aE) aE) (aC (bP (eO (aD (Gc 5 (H.gc 4 rfl)) (aD (fF fA (L 2)) aH)))) aE))))))
end
section
variable{C:Cx}
noncomputable def aNM:aL:=[(".0",.local),("k",.local),("_law_line",.globalImplicit),("w",.free)]
noncomputable def aNL:aL:=[("deck",.local),("w",.cell),("sheet",.local),("found",.local),("path",.local),("way",.local),("old",.local),("many",.local),("_law_draw",.globalImplicit),("_law_file",.globalImplicit),("range",.globalImplicit),("FILE",.globalImplicit),("EXEC",.globalImplicit)]
noncomputable def aCT:M Fl:=(bl [(aZ 3 (uF .bytes)),
 (fo (aY (ar [(kY [97]),(kY [98]),(kY [99])]) cM) (nT 4) (bl [(oN [6,5] (ar [(cf wV (ar [(aA 0),(kI 8)])),(bK cV dX (aA 2) (aA 4))])),
 (bH (t2 (aA 6) kN oS) (bl [(bH (t2 (aA 5) (kI 4) lY) (bl [(gB fQ (cf EE (ar [(aA 0),(aA 1)])) (aA 3) (aA 4))]) (bl []))]) (bl [(bH (t2 (aA 5) (kI 4) lY) (bl [(aZ 7 (cf wV (ar [(aA 0),(kI 11)]))),
 (gB fQ (aY (ar [(b2 (aA 6) (kI 0) aV),(ge cC (b2 (pS (b2 (aA 6) (kI 1) aV) (rt none) (pa (b2 (kI 10) (aA 7) (bX eM)))) (eG dK (ge CG (aA 7)) [none,none,none,some 1] (nT 1) (rt true) (cf BG (ar [(aA 3)]))) bM))]) cM) (aA 3) (aA 4))]) (bl [(bH (t2 (aA 5) (kI 4) cK) (bl [(gB fQ (aY (ar [(b2 (b2 PG Al bM) (b2 (aA 6) (kI 0) aV) (bX eM)),(b2 (aA 6) (kI 1) aV)]) cM) (aA 3) (aA 4))]) (bl [(bH (t2 (aA 5) (kI 5) sP) (bl [(gB fQ (aA 6) (aA 3) (aA 4))]) (bl []))]))]))]))])),
 (re (ge cC (aA 3)))])
noncomputable def OG:Fn:=(cI 8 (bG 13 (gN 3) aCT))
theorem Vg(H:bL C):RF C 3 955 OG:=
 (cS 8 (bU (sl:=aNL) (H.fn 9 rfl) (fun env he hf=>
 (aC (bZ 3 Sl (wC .bytes)) (aC (hU cZ (eO (aD (Ky [97] [97]) (aD (Ky [98] [98]) (aD (Ky [99] [99]) aH)))) (cY 4) (aC (yD 712 [6,5] (aD (cG 8 (H.gf 8 rfl) (H.fn 6 rfl).is (QO H) (aD (L 0) (aD (Ki 8) aH))) (aD (dT rQ oY vL (L 2) (L 4)) aH)) he) (aC (cD (aU rU (L 6) Kn) (aC (cD (aU nO (L 5) (Ki 4)) (aC (lL mF (cG 9 (H.gf 9 rfl) (H.fn 8 rfl).is (Ds H) (aD (L 0) (aD (Lc 1) aH))) (L 3) (L 4)) aE) aE) aE) (aC (cD (aU nO (L 5) (Ki 4)) (aC (bZ 7 Sl (cG 8 (H.gf 8 rfl) (H.fn 6 rfl).is (QO H) (aD (L 0) (aD (Ki 11) aH)))) (aC (lL mF (eO (aD (cJ cN (L 6) (Ki 0)) (aD (fF fA (aW cO (yG (cJ cN (L 6) (Ki 1)) HE (tR (aW gY (Ki 10) (L 7)))) (mZ cZ aNM [none,none,none,some 1] (kL 10 (H.gb 11 rfl) QR (L 7)) (fun _=>cP (cY 1) oF (cG 2 (H.gf 11 rfl) (H.fn 7 rfl).is (Ve H) (aD (Lc 3) aH)))))) aH))) (L 3) (L 4)) aE)) (aC (cD (aU eX (L 5) (Ki 4)) (aC (lL mF (eO (aD (aW gY (aW cO (Gc 11 (H.gc 4 rfl)) (Gc 12 (H.gc 3 rfl))) (cJ cN (L 6) (Ki 0))) (aD (cJ cN (L 6) (Ki 1)) aH))) (L 3) (L 4)) aE) (aC (cD (aU zR (L 5) (Ki 5)) (aC (lL mF (L 6) (L 3) (L 4)) aE) aE) aE)) aE)) aE)) aE))) (aC (bP (fF fA (L 3))) aE))))))
noncomputable def aNI:aL:=[("version",.local)]
noncomputable def aCQ:M Fl:=(bl [(re (vor (c2 (aA 0) kN oS) (c2 (kY [0]) (bK wY EW (kY []) (b2 (aA 0) (kI 1) aV)) fB)))])
noncomputable def EF:Fn:=(cI 0 (bG 1 (gN 1) aCQ))
theorem Vd(H:bL C):RF C 1 976 EF:=
 (cS 0 (bU (sl:=aNI) (H.fn 10 rfl) (fun env he hf=>
 (aC (bP (aAD (qS rU (L 0) Kn) (qS oZ (Ky [0] [0]) (dT Bk FK Ed (Ky [] []) (cJ cN (L 0) (Ki 1)))))) aE))))
noncomputable def aNK:aL:=[("version",.local)]
noncomputable def aCS:M Fl:=(bl [(re (iY (t2 (aA 0) kN oS) (aY (ar []) kP) (b2 (aA 0) (kI 1) aV)))])
noncomputable def OF:Fn:=(cI 0 (bG 1 (gN 1) aCS))
theorem Vf(H:bL C):RF C 1 983 OF:=
 (cS 0 (bU (sl:=aNK) (H.fn 11 rfl) (fun env he hf=>
 (aC (bP (lB (aU rU (L 0) Kn) (nA aH) (cJ cN (L 0) (Ki 1)))) aE))))
noncomputable def aNO:aL:=[(".0",.local),("line",.local),("far",.free)]
noncomputable def aNP:aL:=[(".0",.local),("line",.local),("near",.free)]
noncomputable def aNN:aL:=[("old",.local),("new",.local),("near",.cell),("far",.cell),("_law_is_text",.globalImplicit),("_law_lines",.globalImplicit),("len",.globalImplicit)]
noncomputable def aCU:M Fl:=(bl [(bH (gW (tn (tv (cf EF (ar [(aA 0)])))) (gW (tn (tv (cf EF (ar [(aA 1)])))) (rt false))) (bl [(re (aY (ar [kN,kN]) cM))]) (bl [])),
 (nF [2,3] (ar [(cf OF (ar [(aA 0)])),(cf OF (ar [(aA 1)]))])),
 (re (aY (ar [(ge iL (eG dK (aA 3) [none,none,some 2] (nT 1) (t2 (aA 1) (aA 2) fB) (aA 1))),(ge iL (eG dK (aA 2) [none,none,some 3] (nT 1) (t2 (aA 1) (aA 2) fB) (aA 1)))]) cM))])
noncomputable def IF:Fn:=(cI 0 (bG 7 (gN 2) aCU))
theorem aKD(H:bL C):RF C 2 988 IF:=
 (cS 0 (bU (sl:=aNN) (H.fn 12 rfl) (fun env he hf=>
 (aC (cD (jF (oH (Ia (jZ jC (cG 4 (H.gf 10 rfl) (H.fn 10 rfl).is (Vd H) (aD (L 0) aH)))) (oH (Ia (jZ jC (cG 4 (H.gf 10 rfl) (H.fn 10 rfl).is (Vd H) (aD (L 1) aH)))) yK))) (aC (bP (eO (aD Kn (aD Kn aH)))) aE) aE) (aC (wA 739 [2,3] (aD (cG 5 (H.gf 12 rfl) (H.fn 11 rfl).is (Vf H) (aD (L 0) aH)) (aD (cG 5 (H.gf 12 rfl) (H.fn 11 rfl).is (Vf H) (aD (L 1) aH)) aH)) he (q:=LA hf rfl)) (aC (bP (eO (aD (iJ 6 (H.gb 6 rfl) mE (mZ cZ aNP [none,none,some 2] (Lc 3) (fun _=>cP (cY 1) (DF (aU oZ (L 1) (Lc 2))) (L 1)))) (aD (iJ 6 (H.gb 6 rfl) mE (mZ cZ aNO [none,none,some 3] (Lc 2) (fun _=>cP (cY 1) (DF (aU oZ (L 1) (Lc 2))) (L 1)))) aH)))) aE))))))
noncomputable def aNQ:aL:=[("change",.local),("old",.local)]
noncomputable def aCV:M Fl:=(bl [(aZ 1 (aY (ar [(ge qV (aA 0)),(ge oM (aA 0)),(ge MR (aA 0))]) cM)),
 (re (b2 (b2 (aY (ar [(ge wJ (aA 0))]) cM) (aA 1) bM) (aY (ar [(ge oL (aA 0)),(ge lO (aA 0)),(ge HJ (aA 0))]) cM) bM))])
noncomputable def BH:Fn:=(cI 0 (bG 2 (gN 1) aCV))
theorem Dt(H:bL C):RF C 1 995 BH:=
 (cS 0 (bU (sl:=aNQ) (H.fn 13 rfl) (fun env he hf=>
 (aC (bZ 1 Sl (eO (aD (aM (aQ H 13 rfl) (L 0)) (aD (aM (aQ H 14 rfl) (L 0)) (aD (aM (aQ H 15 rfl) (L 0)) aH))))) (aC (bP (aW cO (aW cO (eO (aD (aM (aQ H 12 rfl) (L 0)) aH)) (L 1)) (eO (aD (aM (aQ H 16 rfl) (L 0)) (aD (aM (aQ H 17 rfl) (L 0)) (aD (aM (aQ H 18 rfl) (L 0)) aH)))))) aE)))))
noncomputable def aMy:aL:=[("self",.local),("mode",.local),("name",.local),("oid",.local)]
noncomputable def aCc:M Fl:=(bl [(eQ aPX (aA 1) (aA 0)),
 (eQ aPY (aA 2) (aA 0)),
 (eQ aQa (aA 3) (aA 0))])
noncomputable def XZ:Fn:=(bG 4 (gN 4) aCc)
theorem aJV(H:bL C):RF C 1 687 XZ:=
 (bU (sl:=aMy) (H.fn 14 rfl) (fun env he hf=>
 (aC (eY (eP H 27 rfl) (L 1) (L 0)) (aC (eY (eP H 28 rfl) (L 2) (L 0)) (aC (eY (eP H 29 rfl) (L 3) (L 0)) aE)))))
noncomputable def aNi:aL:=[(".0",.local),("at",.local),("many",.free),("number",.free)]
noncomputable def aNh:aL:=[("number",.cell),("many",.cell),("bytes",.globalImplicit),("range",.globalImplicit)]
noncomputable def Jz:M Fl:=(bl [(re (ge yU (eG dK (ge CG (aA 1)) [none,none,some 1,some 0] (nT 1) (rt true) (b2 (b2 (aA 3) (b2 (kI 8) (b2 (b2 (aA 2) (kI 1) (bX eM)) (aA 1) (bX eM)) qJ) (bX Wq)) (kI 255) (bX Ip)))))])
noncomputable def YI:Fn:=(cI 0 (bG 4 (gN 2) Jz))
theorem aKu(H:bL C):RF C 1 95 YI:=
 (cS 0 (bU (sl:=aNh) (H.fn 15 rfl) (fun env he hf=>
 (aC (bP (kL 2 (H.gb 2 rfl) CH (mZ cZ aNi [none,none,some 1,some 0] (kL 3 (H.gb 11 rfl) QR (Lc 1)) (fun _=>cP (cY 1) oF (aW aLd (aW aLJ (Lc 3) (aW zT (Ki 8) (aW gY (aW gY (Lc 2) (Ki 1)) (L 1)))) (Ki 255)))))) aE))))
noncomputable def aMx:aL:=[("self",.local),("octets",.local),("content",.local),("bytes",.globalImplicit),("len",.globalImplicit),("big_endian",.globalImplicit)]
noncomputable def aCb:M Fl:=(bl [(aZ 2 (ge yU (aA 1))),
 (bH (t2 (aA 2) (ge uW (aA 0)) fB) (bl [(gB fQ (b2 (ge iL (ge uW (aA 0))) (kI 1) bM) (ge uW (aA 0)) (aA 2))]) (bl [])),
 (re (cf YI (ar [(b2 (ge uW (aA 0)) (aA 2) aV),(ge qW (aA 0))])))])
noncomputable def NV:Fn:=(cI 8 (bG 6 (gN 2) aCb))
theorem aJU(H:bL C):RF C 2 124 NV:=
 (cS 8 (bU (sl:=aMx) (H.fn 16 rfl) (fun env he hf=>
 (aC (bZ 2 Sl (kL 3 (H.gb 2 rfl) CH (L 1))) (aC (cD (aU oZ (L 2) (aM (aQ H 1 rfl) (L 0))) (aC (lL mF (aW cO (iJ 4 (H.gb 6 rfl) mE (aM (aQ H 1 rfl) (L 0))) (Ki 1)) (aM (aQ H 1 rfl) (L 0)) (L 2)) aE) aE) (aC (bP (cG 5 (H.gf 0 rfl) (H.fn 15 rfl).is (aKu H) (aD (cJ cN (aM (aQ H 1 rfl) (L 0)) (L 2)) (aD (aM (aQ H 0 rfl) (L 0)) aH)))) aE))))))
noncomputable def aOd:aL:=[(".0",.local),("sign",.local),("ord",.globalImplicit)]
noncomputable def aOc:aL:=[("text",.local),("numbers",.local),("number",.local),("BadObject",.globalImplicit),("bytes",.globalImplicit)]
noncomputable def aDg:M Fl:=(bl [(aZ 1 (eG dK (aA 0) [none,none,none] (nT 1) (rt true) (ge Tw (aA 1)))),
 (fo (aA 1) (nT 2) (bl [(bH (t2 (aA 2) (kI 255) sP) (bl [er]) (bl []))])),
 (re (ge yU (aA 1)))])
noncomputable def Nd:Fn:=(cI 0 (bG 5 (gN 1) aDg))
theorem aKN(H:bL C):RF C 1 83 Nd:=
 (cS 0 (bU (sl:=aOc) (H.fn 17 rfl) (fun env he hf=>
 (aC (TY 1 Sl cZ aOd [none,none,none] (L 0) (fun _=>cP (cY 1) oF (iJ 2 (H.gb 10 rfl) aLA (L 1)))) (aC (hU cZ (L 1) (cY 2) (aC (cD (aU zR (L 2) (Ki 255)) (aC pK aE) aE) aE)) (aC (bP (kL 4 (H.gb 2 rfl) CH (L 1))) aE))))))
noncomputable def aOb:aL:=[("kind",.local),("content",.local),("octets_of",.globalImplicit),("str",.globalImplicit),("len",.globalImplicit)]
noncomputable def aDf:M Fl:=(bl [(re (b2 (b2 (b2 (b2 (aA 0) (kY [32]) bM) (cf Nd (ar [(ge Xi (ge iL (aA 1)))])) bM) (kY [0]) bM) (aA 1) bM))])
noncomputable def EG:Fn:=(cI 0 (bG 5 (gN 2) aDf))
theorem aKM(H:bL C):RF C 2 785 EG:=
 (cS 0 (bU (sl:=aOb) (H.fn 18 rfl) (fun env he hf=>
 (aC (bP (aW cO (aW cO (aW cO (aW cO (L 0) (Ky [32] [32])) (cG 2 (H.gf 27 rfl) (H.fn 17 rfl).is (aKN H) (aD (kL 3 (H.gb 13 rfl) aLL (iJ 4 (H.gb 6 rfl) mE (L 1))) aH))) (Ky [0] [0])) (L 1))) aE))))
end
section
variable{C:Cx}
noncomputable def aMO:aL:=[("self",.local),("kind",.local),("content",.local),("thing",.local),("oid",.local),("object_octets",.globalImplicit)]
noncomputable def aCp:M Fl:=(bl [(aZ 4 (mc 0 NV (ge aAJ (aA 0)) (ar [(cf EG (ar [(aA 1),(aA 2)]))]))),
 (bH (t2 (aA 4) (ge MQ (aA 0)) fB) (bl [(gB fQ (aY (ar [(aA 1),(aA 3)]) cM) (ge MQ (aA 0)) (aA 4))]) (bl [])),
 (re (aA 4))])
noncomputable def IB:Fn:=(cI 8 (bG 6 (gN 4) aCp))
theorem Uw(H:bL C):RF C 3 806 IB:=
 (cS 8 (bU (sl:=aMO) (H.fn 19 rfl) (fun env he hf=>
 (aC (bZ 4 Sl (gT (H.mt 1 rfl) (aJU H) (aM (aQ H 31 rfl) (L 0)) (aD (cG 5 (H.gf 26 rfl) (H.fn 18 rfl).is (aKM H) (aD (L 1) (aD (L 2) aH))) aH))) (aC (cD (aU oZ (L 4) (aM (aQ H 32 rfl) (L 0))) (aC (lL mF (eO (aD (L 1) (aD (L 3) aH))) (aM (aQ H 32 rfl) (L 0)) (L 4)) aE) aE) (aC (bP (L 4)) aE))))))
noncomputable def aNY:aL:=[("number",.local),("digits",.local),("bytearray",.globalImplicit),("len",.globalImplicit),("bytes",.globalImplicit)]
noncomputable def aDc:M Fl:=(bl [(aZ 1 Sy),
 (kW 64 (gW (t2 (aA 0) (kI 0) sP) (gW (t2 (ge iL (aA 1)) (kI 0) cK) (rt false))) (bl [(ex (bK ZZ Iq (aA 1) (b2 (kI 48) (b2 (aA 0) (kI 8) (bX mA)) bM))),
 (aZ 0 (b2 (aA 0) (kI 8) (bX BJ)))])),
 (ex (mR ZZ Us (aA 1))),
 (re (ge yU (aA 1)))])
noncomputable def Na:Fn:=(cI 0 (bG 5 (gN 1) aDc))
theorem aKJ(H:bL C):sL C 1 722 Na:=
 (cS 0 (DG (sl:=aNY) (H.fn 20 rfl) (fun env he hf=>
 (fS (aAp 1 Sl (aAw 2 (H.gb 1 rfl))) (fS (aAr 64 (jF (oH (aU zR (L 0) (Ki 0)) (oH (aU eX (iJ 3 (H.gb 6 rfl) mE (L 1)) (Ki 0)) yK))) (fS (Hp (Hu aIj Up aLP (L 1) (lA (aW cO (Ki 48) (aW sY (L 0) (Ki 8)))))) (fS (jQ (bZ 0 Sl (aW FO (L 0) (Ki 8)))) (yJ aE)))) (fS (jQ (fY (wB aIm Up aLC (L 1)))) (fS (jQ (bP (kL 4 (H.gb 2 rfl) CH (L 1)))) (yJ aE))))))))
noncomputable def aMz:aL:=[("self",.local),("object_by_eights",.globalImplicit)]
noncomputable def aCd:M Fl:=(bl [(re (b2 (b2 (b2 (b2 (cf Na (ar [(ge oJ (aA 0))])) (kY [32]) bM) (ge tV (aA 0)) bM) (kY [0]) bM) (ge qU (aA 0)) bM))])
noncomputable def Ms:Fn:=(cI 0 (bG 2 (gN 1) aCd))
theorem aJW(H:bL C):sL C 2 708 Ms:=
 (cS 0 (DG (sl:=aMz) (H.fn 21 rfl) (fun env he hf=>
 (fS (TX (MJ cO (MJ cO (MJ cO (MJ cO (HA 1 (H.gf 23 rfl) (H.fn 20 rfl).is (aKJ H) (kJ (lA (aM (aQ H 27 rfl) (L 0))) sJ)) (lA (Ky [32] [32]))) (lA (aM (aQ H 28 rfl) (L 0)))) (lA (Ky [0] [0]))) (lA (aM (aQ H 29 rfl) (L 0))))) (yJ aE)))))
noncomputable def aNd:aL:=[("self",.local),("parts",.local),("entry",.local)]
noncomputable def aCD:M Fl:=(bl [(aZ 1 (aY (ar []) kE)),
 (fo (ge MP (aA 0)) (nT 2) (bl [(ex (bK cR dD (aA 1) (mc 9 Ms (aA 2) (ar []))))])),
 (re (bK wY EW (kY []) (aA 1)))])
noncomputable def YH:Fn:=(cI 0 (bG 3 (gN 1) aCD))
theorem aKs(H:bL C):sL C 3 750 YH:=
 (cS 0 (DG (sl:=aNd) (H.fn 22 rfl) (fun env he hf=>
 (fS (jQ (bZ 1 Sl (mL aH))) (fS (aAq cZ (aM (aQ H 30 rfl) (L 0)) (cY 2) (fS (Hp (Hu jA gP (Hy jB) (L 1) (MK (H.mt 2 rfl) (aJW H) (L 2) sJ))) (yJ aE))) (fS (jQ (bP (dT Bk FK Ed (Ky [] []) (L 1)))) (yJ aE)))))))
noncomputable def aMA:aL:=[("self",.local),("DIR",.globalImplicit)]
noncomputable def aCe:M Fl:=(bl [(re (iY (t2 (ge oJ (aA 0)) EY cK) (b2 (ge tV (aA 0)) (kY [47]) bM) (ge tV (aA 0))))])
noncomputable def IA:Fn:=(cI 0 (bG 2 (gN 1) aCe))
theorem Ut(H:bL C):RF C 1 694 IA:=
 (cS 0 (bU (sl:=aMA) (H.fn 23 rfl) (fun env he hf=>
 (aC (bP (lB (aU eX (aM (aQ H 27 rfl) (L 0)) (Gc 1 (H.gc 2 rfl))) (aW cO (aM (aQ H 28 rfl) (L 0)) (Ky [47] [47])) (aM (aQ H 28 rfl) (L 0)))) aE))))
noncomputable def aNX:aL:=[("octets",.local),("signs",.local),("sign",.local)]
noncomputable def Ka:M Fl:=(bl [(fo (aA 0) (nT 2) (bl [(bH (t2 (aA 2) (aA 1) fB) (bl [(re (kB false))]) (bl []))])),
 (re (kB true))])
noncomputable def OH:Fn:=(cI 0 (bG 3 (gN 2) Ka))
theorem aKI(H:bL C):RF C 1 673 OH:=
 (cS 0 (bU (sl:=aNX) (H.fn 24 rfl) (fun env he hf=>
 (aC (hU cZ (L 0) (cY 2) (aC (cD (aU oZ (L 2) (L 1)) (aC (bP (Kb false)) aE) aE) aE)) (aC (bP (Kb true)) aE)))))
noncomputable def aNZ:aL:=[("octets",.local),("signs",.local),("sign",.local),("bytes",.globalImplicit)]
noncomputable def aDd:M Fl:=(bl [(fo (aA 1) (nT 2) (bl [(bH (t2 (bK wY Nj (aA 0) (ge yU (aY (ar [(aA 2)]) kP))) (kI 0) rK) (bl [(re (kB true))]) (bl []))])),
 (re (kB false))])
noncomputable def Nc:Fn:=(cI 0 (bG 4 (gN 2) aDd))
theorem aKK(H:bL C):RF C 1 666 Nc:=
 (cS 0 (bU (sl:=aNZ) (H.fn 25 rfl) (fun env he hf=>
 (aC (hU cZ (L 1) (cY 2) (aC (cD (aU FP (dT Sn FK aLg (L 0) (kL 3 (H.gb 2 rfl) CH (nA (aD (L 2) aH)))) (Ki 0)) (aC (bP (Kb true)) aE) aE) aE)) (aC (bP (Kb false)) aE)))))
noncomputable def aOa:aL:=[("name",.local),("object_has_sign",.globalImplicit)]
noncomputable def aDe:M Fl:=(bl [(bH (t2 (aA 0) (kY []) cK) (bl [(re (kS [97,110,32,101,109,112,116,121,32,110,97,109,101]))]) (bl [])),
 (bH (t2 (aA 0) (aY (ar [(kY [46]),(kY [46,46])]) cM) vH) (bl [(re (kS [97,32,110,97,109,101,32,111,102,32,100,111,116,115]))]) (bl [])),
 (bH (t2 (mR wY Rr (aA 0)) (kY [46,103,105,116]) cK) (bl [(re (kS [116,104,101,32,110,97,109,101,32,111,102,32,116,104,101,32,115,116,111,114,101,32,105,116,115,101,108,102]))]) (bl [])),
 (bH (tv (cf Nc (ar [(aA 0),(kY [47,0])]))) (bl [(re (kS [97,32,110,97,109,101,32,119,105,116,104,32,97,32,115,116,114,111,107,101,32,111,114,32,97,32,110,111,117,103,104,116]))]) (bl [])),
 (re kN)])
noncomputable def YR:Fn:=(cI 0 (bG 2 (gN 1) aDe))
theorem aKL(H:bL C):RF C 2 729 YR:=
 (cS 0 (bU (sl:=aOa) (H.fn 26 rfl) (fun env he hf=>
 (aC (cD (aU eX (L 0) (Ky [] [])) (aC (bP (Ks "an empty name" [97,110,32,101,109,112,116,121,32,110,97,109,101])) aE) aE) (aC (cD (aU zS (L 0) (eO (aD (Ky [46] [46]) (aD (Ky [46,46] [46,46]) aH)))) (aC (bP (Ks "a name of dots" [97,32,110,97,109,101,32,111,102,32,100,111,116,115])) aE) aE) (aC (cD (aU eX (wB aIl FK aLw (L 0)) (Ky [46,103,105,116] [46,103,105,116])) (aC (bP (Ks "the name of the store itself" [116,104,101,32,110,97,109,101,32,111,102,32,116,104,101,32,115,116,111,114,101,32,105,116,115,101,108,102])) aE) aE) (aC (cD (jZ jC (cG 1 (H.gf 24 rfl) (H.fn 25 rfl).is (aKK H) (aD (L 0) (aD (Ky [47,0] [47,0]) aH)))) (aC (bP (Ks "a name with a stroke or a nought" [97,32,110,97,109,101,32,119,105,116,104,32,97,32,115,116,114,111,107,101,32,111,114,32,97,32,110,111,117,103,104,116])) aE) aE) (aC (bP Kn) aE))))))))
noncomputable def aOe:aL:=[("tree",.local),("found",.local),("known",.local),("ahead",.local),("entry",.local),("odd",.local),("OBJECT_MODES",.globalImplicit),("object_name_fault",.globalImplicit),("object_are_all",.globalImplicit)]
noncomputable def aDh:M Fl:=(bl [(oN [3,2,1] (ar [(aY (ar []) kE),(uF .bytes),kN])),
 (fo (ge MP (aA 0)) (nT 4) (bl [(bH (t2 (ge oJ (aA 4)) Qr fB) (bl [(ex (bK cR dD (aA 1) (kS [97,32,109,111,100,101,32,116,104,97,116,32,105,115,32,110,111,110,101])))]) (bl [])),
 (aZ 5 (cf YR (ar [(ge tV (aA 4))]))),
 (bH (t2 (aA 5) kN qD) (bl [(ex (bK cR dD (aA 1) (aA 5)))]) (bl [])),
 (bH (t2 (ge tV (aA 4)) (aA 2) vH) (bl [(ex (bK cR dD (aA 1) (kS [97,32,110,97,109,101,32,116,119,105,99,101])))]) (bl [(bH (cE (t2 (aA 3) kN qD) (cE (t2 (mc 9 IA (aA 4) (ar [])) (aA 3) Ba) (rt true))) (bl [(ex (bK cR dD (aA 1) (kS [101,110,116,114,105,101,115,32,111,117,116,32,111,102,32,111,114,100,101,114])))]) (bl []))])),
 (bH (tv (cf OH (ar [(ge qU (aA 4)),(kY [0])]))) (bl [(ex (bK cR dD (aA 1) (kS [97,110,32,105,100,32,111,102,32,110,111,117,103,104,116,115])))]) (bl [])),
 (gB fQ (kB true) (aA 2) (ge tV (aA 4))),
 (aZ 3 (mc 9 IA (aA 4) (ar [])))])),
 (re (ge cC (aA 1)))])
noncomputable def YS:Fn:=(cI 0 (bG 9 (gN 1) aDh))
theorem aKP(H:bL C):RF C 3 771 YS:=
 (cS 0 (bU (sl:=aOe) (H.fn 27 rfl) (fun env he hf=>
 (aC (yD 599 [3,2,1] (aD (mL aH) (aD (wC .bytes) (aD Kn aH))) he) (aC (hU cZ (aM (aQ H 30 rfl) (L 0)) (cY 4) (aC (cD (aU oZ (aM (aQ H 27 rfl) (L 4)) (Gc 6 H.g_OBJECT_MODES)) (aC (fY (dT jA gP jB (L 1) (Ks "a mode that is none" [97,32,109,111,100,101,32,116,104,97,116,32,105,115,32,110,111,110,101]))) aE) aE) (aC (bZ 5 Sl (cG 7 (H.gf 25 rfl) (H.fn 26 rfl).is (aKL H) (aD (aM (aQ H 28 rfl) (L 4)) aH))) (aC (cD (aU xK (L 5) Kn) (aC (fY (dT jA gP jB (L 1) (L 5))) aE) aE) (aC (cD (aU zS (aM (aQ H 28 rfl) (L 4)) (L 2)) (aC (fY (dT jA gP jB (L 1) (Ks "a name twice" [97,32,110,97,109,101,32,116,119,105,99,101]))) aE) (aC (cD (jF (eE (aU xK (L 3) Kn) (eE (aU aLr (gT (H.mt 3 rfl) (Ut H) (L 4) aH) (L 3)) oG))) (aC (fY (dT jA gP jB (L 1) (Ks "entries out of order" [101,110,116,114,105,101,115,32,111,117,116,32,111,102,32,111,114,100,101,114]))) aE) aE) aE)) (aC (cD (jZ jC (cG 8 (H.gf 22 rfl) (H.fn 24 rfl).is (aKI H) (aD (aM (aQ H 29 rfl) (L 4)) (aD (Ky [0] [0]) aH)))) (aC (fY (dT jA gP jB (L 1) (Ks "an id of noughts" [97,110,32,105,100,32,111,102,32,110,111,117,103,104,116,115]))) aE) aE) (aC (lL mF (Kb true) (L 2) (aM (aQ H 28 rfl) (L 4))) (aC (bZ 3 Sl (gT (H.mt 3 rfl) (Ut H) (L 4) aH)) aE)))))))) (aC (bP (fF fA (L 1))) aE))))))
noncomputable def aNl:aL:=[("tree",.local),("found",.local),("tree_faults",.globalImplicit),("len",.globalImplicit),("BadObject",.globalImplicit)]
noncomputable def aCI:M Fl:=(bl [(aZ 1 (cf YS (ar [(aA 0)]))),
 (bH (t2 (ge iL (aA 1)) (kI 0) sP) (bl [er]) (bl []))])
noncomputable def YJ:Fn:=(cI 0 (bG 5 (gN 1) aCI))
theorem aKy(H:bL C):RF C 4 778 YJ:=
 (cS 0 (bU (sl:=aNl) (H.fn 28 rfl) (fun env he hf=>
 (aC (bZ 1 Sl (cG 2 (H.gf 28 rfl) (H.fn 27 rfl).is (aKP H) (aD (L 0) aH))) (aC (cD (aU zR (iJ 3 (H.gb 6 rfl) mE (L 1)) (Ki 0)) (aC pK aE) aE) aE)))))
end
section
variable{C:Cx}
noncomputable def aMT:aL:=[("self",.local),("tree",.local),("check_tree",.globalImplicit),("TREE",.globalImplicit)]
noncomputable def aCu:M Fl:=(bl [(ex (cf YJ (ar [(aA 1)]))),
 (re (mc 11 IB (aA 0) (ar [Qt,(mc 10 YH (aA 1) (ar [])),(aA 1)])))])
noncomputable def YF:Fn:=(cI 8 (bG 4 (gN 2) aCu))
theorem aKk(H:bL C):sL C 5 820 YF:=
 (cS 8 (DG (sl:=aMT) (H.fn 29 rfl) (fun env he hf=>
 (fS (jQ (fY (cG 2 (H.gf 3 rfl) (H.fn 28 rfl).is (aKy H) (aD (L 1) aH)))) (fS (TX (MK (H.mt 13 rfl) (Hx (Uw H)) (L 0) (kJ (lA (Gc 3 (H.gc 14 rfl))) (kJ (MK (H.mt 24 rfl) (aKs H) (L 1) sJ) (kJ (lA (L 1)) sJ))))) (yJ aE))))))
noncomputable def aNc:aL:=[("self",.local),("entries",.local)]
noncomputable def aCC:M Fl:=(bl [(eQ aPT (aA 1) (aA 0))])
noncomputable def YG:Fn:=(bG 2 (gN 2) aCC)
theorem aKr(H:bL C):RF C 1 743 YG:=
 (bU (sl:=aNc) (H.fn 30 rfl) (fun env he hf=>
 (aC (eY (eP H 30 rfl) (L 1) (L 0)) aE)))
noncomputable def aMS:aL:=[("self",.local),("kind",.local),("content",.local),("BLOB",.globalImplicit),("BadObject",.globalImplicit),("bytes",.globalImplicit)]
noncomputable def aCt:M Fl:=(bl [(bH (t2 (aA 1) Ak oW) (bl [er]) (bl [])),
 (re (mc 11 IB (aA 0) (ar [Ak,(aA 2),(ge yU (aA 2))])))])
noncomputable def OA:Fn:=(cI 8 (bG 6 (gN 3) aCt))
theorem aKj(H:bL C):RF C 4 813 OA:=
 (cS 8 (bU (sl:=aMS) (H.fn 31 rfl) (fun env he hf=>
 (aC (cD (aU vM (L 1) (Gc 3 (H.gc 1 rfl))) (aC pK aE) aE) (aC (bP (gT (H.mt 13 rfl) (Uw H) (L 0) (aD (Gc 3 (H.gc 1 rfl)) (aD (L 2) (aD (kL 5 (H.gb 2 rfl) CH (L 2)) aH))))) aE)))))
noncomputable def aNS:aL:=[("w",.local),("version",.local)]
noncomputable def aCX:M Fl:=(bl [(re (iY (t2 (aA 1) kN oS) (aY (ar [(kI 0),kN]) cM) (aY (ar [(b2 (aA 1) (kI 0) aV),(mc 11 OA (b2 (aA 0) (kS [115,116,111,114,101]) aV) (ar [(kY [98,108,111,98]),(bK wY EW (kY []) (b2 (aA 1) (kI 1) aV))]))]) cM)))])
noncomputable def rG:Fn:=(cI 8 (bG 2 (gN 2) aCX))
theorem Dv(H:bL C):RF C 5 962 rG:=
 (cS 8 (bU (sl:=aNS) (H.fn 32 rfl) (fun env he hf=>
 (aC (bP (lB (aU rU (L 1) Kn) (eO (aD (Ki 0) (aD Kn aH))) (eO (aD (cJ cN (L 1) (Ki 0)) (aD (gT (H.mt 17 rfl) (aKj H) (cJ cN (L 0) (Ks "store" [115,116,111,114,101])) (aD (Ky [98,108,111,98] [98,108,111,98]) (aD (dT Bk FK Ed (Ky [] []) (cJ cN (L 1) (Ki 1))) aH))) aH))))) aE))))
noncomputable def aNR:aL:=[("w",.local),("sheet",.local),("entries",.local),("path",.local),("mode",.local),("oid",.local),("sorted",.globalImplicit),("_law_version",.globalImplicit),("Entry",.globalImplicit),("Tree",.globalImplicit)]
noncomputable def aCW:M Fl:=(bl [(aZ 2 (aY (ar []) kE)),
 (fo (ge cC (ge nP (aA 1))) (nT 3) (bl [(uY [4,5] (cf rG (ar [(aA 0),(b2 (aA 1) (aA 3) aV)]))),
 (ex (bK cR dD (aA 2) (ge cC (nw 9 XZ (ar [(aA 4),(aA 3),(aA 5)])))))])),
 (re (mc 11 YF (b2 (aA 0) (kS [115,116,111,114,101]) aV) (ar [(ge cC (nw 10 YG (ar [(ge cC (aA 2))])))])))])
noncomputable def IG:Fn:=(cI 8 (bG 10 (gN 2) aCW))
theorem Du(H:bL C):sL C 6 969 IG:=
 (cS 8 (DG (sl:=aNR) (H.fn 33 rfl) (fun env he hf=>
 (fS (jQ (bZ 2 Sl (mL aH))) (fS (jQ (hU cZ (fF fA (iJ 6 (H.gb 12 rfl) KN (L 1))) (cY 3) (aC (yF 729 [4,5] (cG 7 (H.gf 17 rfl) (H.fn 32 rfl).is (Dv H) (aD (L 0) (aD (cJ cN (L 1) (L 3)) aH)))) (aC (fY (dT jA gP jB (L 2) (fF fA (mM 8 (H.gk 9 rfl) (H.nw 9 rfl) (aJV H) (aD (L 4) (aD (L 3) (aD (L 5) aH))))))) aE)))) (fS (TX (MK (H.mt 18 rfl) (aKk H) (cJ cN (L 0) (Ks "store" [115,116,111,114,101])) (kJ (lA (fF fA (mM 9 (H.gk 10 rfl) (H.nw 10 rfl) (aKr H) (aD (fF fA (L 2)) aH)))) sJ))) (yJ aE)))))))
noncomputable def aNT:aL:=[("old",.local),("new",.local)]
noncomputable def aCY:M Fl:=(bl [(re (iY (t2 (aA 0) kN oS) (kS [65]) (iY (t2 (aA 1) kN oS) (kS [68]) (kS [77]))))])
noncomputable def YN:Fn:=(cI 0 (bG 2 (gN 2) aCY))
theorem aKE(H:bL C):RF C 1 1007 YN:=
 (cS 0 (bU (sl:=aNT) (H.fn 34 rfl) (fun env he hf=>
 (aC (bP (lB (aU rU (L 0) Kn) (Ks "A" [65]) (lB (aU rU (L 1) Kn) (Ks "D" [68]) (Ks "M" [77])))) aE))))
noncomputable def aMU:aL:=[("self",.local),("word",.local),("old_mode",.local),("old_id",.local),("old_path",.local),("new_mode",.local),("new_id",.local),("new_path",.local),("score",.local)]
noncomputable def aCv:M Fl:=(bl [(eQ aQk (aA 1) (aA 0)),
 (eQ aQc (aA 2) (aA 0)),
 (eQ aQb (aA 3) (aA 0)),
 (eQ aQd (aA 4) (aA 0)),
 (eQ Yp (aA 5) (aA 0)),
 (eQ Yo (aA 6) (aA 0)),
 (eQ aPZ (aA 7) (aA 0)),
 (eQ aQg (aA 8) (aA 0))])
noncomputable def BE:Fn:=(bG 9 (gO (gN 9) (gD 8 [.none])) aCv)
theorem FL(H:bL C):RF C 1 376 BE:=
 (bU (sl:=aMU) H.p_PathChange_I (fun env he hf=>
 (aC (eY (eP H 12 rfl) (L 1) (L 0)) (aC (eY (eP H 13 rfl) (L 2) (L 0)) (aC (eY (eP H 14 rfl) (L 3) (L 0)) (aC (eY (eP H 15 rfl) (L 4) (L 0)) (aC (eY (eP H 16 rfl) (L 5) (L 0)) (aC (eY (eP H 17 rfl) (L 6) (L 0)) (aC (eY (eP H 18 rfl) (L 7) (L 0)) (aC (eY (eP H 19 rfl) (L 8) (L 0)) aE))))))))))
noncomputable def aMV:aL:=[("self",.local),("score",.local),("PathChange",.globalImplicit),("ADDED",.globalImplicit)]
noncomputable def aCw:M Fl:=(bl [(re (ge cC (nw 4 BE (ar [EX,(kI 0),kN,kN,(ge oL (aA 0)),(ge lO (aA 0)),(ge HJ (aA 0)),(aA 1)]))))])
noncomputable def OB:Fn:=(cI 0 (bG 4 (gN 2) aCw))
theorem aKl(H:bL C):RF C 3 414 OB:=
 (cS 0 (bU (sl:=aMV) H.p_PathChange_new_half (fun env he hf=>
 (aC (bP (fF fA (mM 2 (H.gk 4 rfl) (H.nw 4 rfl) (FL H) (aD (Gc 3 (H.gc 0 rfl)) (aD (Ki 0) (aD Kn (aD Kn (aD (aM (aQ H 16 rfl) (L 0)) (aD (aM (aQ H 17 rfl) (L 0)) (aD (aM (aQ H 18 rfl) (L 0)) (aD (L 1) aH))))))))))) aE))))
noncomputable def aMW:aL:=[("self",.local),("score",.local),("PathChange",.globalImplicit),("GONE",.globalImplicit)]
noncomputable def aCx:M Fl:=(bl [(re (ge cC (nw 4 BE (ar [BR,(ge qV (aA 0)),(ge oM (aA 0)),(ge MR (aA 0)),(kI 0),kN,kN,(aA 1)]))))])
noncomputable def OC:Fn:=(cI 0 (bG 4 (gN 2) aCx))
theorem aKm(H:bL C):RF C 3 406 OC:=
 (cS 0 (bU (sl:=aMW) H.p_PathChange_old_half (fun env he hf=>
 (aC (bP (fF fA (mM 2 (H.gk 4 rfl) (H.nw 4 rfl) (FL H) (aD (Gc 3 (H.gc 6 rfl)) (aD (aM (aQ H 13 rfl) (L 0)) (aD (aM (aQ H 14 rfl) (L 0)) (aD (aM (aQ H 15 rfl) (L 0)) (aD (Ki 0) (aD Kn (aD Kn (aD (L 1) aH))))))))))) aE))))
noncomputable def aNb:aL:=[("self",.local),("other",.local),("found",.local),("number",.local),("min",.globalImplicit)]
noncomputable def aCB:M Fl:=(bl [(aZ 2 (kI 0)),
 (fo (ge AU (aA 0)) (nT 3) (bl [(au 2 jJ (b2 (b2 (ge AU (aA 0)) (aA 3) aV) (BX IX zF (ge AU (aA 1)) (aA 3) (kI 0)) JN))])),
 (re (aA 2))])
noncomputable def IE:Fn:=(cI 0 (bG 5 (gN 2) aCB))
theorem aKq(H:bL C):RF C 1 520 IE:=
 (cS 0 (bU (sl:=aNb) (H.fn 35 rfl) (fun env he hf=>
 (aC (bZ 2 Sl (Ki 0)) (aC (hU cZ (aM (aQ H 20 rfl) (L 0)) (cY 3) (aC (mY 2 nN (WQ 4 (H.gb 9 rfl) Vu (cJ cN (aM (aQ H 20 rfl) (L 0)) (L 3)) (HB rQ Dq Eb (aM (aQ H 20 rfl) (L 1)) (L 3) (Ki 0)))) aE)) (aC (bP (L 2)) aE))))))
end
section
variable{C:Cx}
noncomputable def aMZ:aL:=[("self",.local),("other",.local),("min",.globalImplicit)]
noncomputable def aCA:M Fl:=(bl [(re (iY (t2 (ge qW (aA 0)) (kI 0) cK) (kI 0) (b2 (b2 (b2 (ge qW (aA 0)) (b2 (ge qW (aA 0)) (mc 5 IE (aA 0) (ar [(aA 1)])) JN) (bX eM)) (kI 100) qJ) (ge qW (aA 0)) (bX BJ))))])
noncomputable def ID:Fn:=(cI 0 (bG 3 (gN 2) aCA))
theorem aKp(H:bL C):RF C 2 534 ID:=
 (cS 0 (bU (sl:=aMZ) (H.fn 36 rfl) (fun env he hf=>
 (aC (bP (lB (aU eX (aM (aQ H 0 rfl) (L 0)) (Ki 0)) (Ki 0) (aW FO (aW zT (aW gY (aM (aQ H 0 rfl) (L 0)) (WQ 2 (H.gb 9 rfl) Vu (aM (aQ H 0 rfl) (L 0)) (gT (H.mt 23 rfl) (aKq H) (L 0) (aD (L 1) aH)))) (Ki 100)) (aM (aQ H 0 rfl) (L 0))))) aE))))
noncomputable def aNe:aL:=[("self",.local),("store",.local)]
noncomputable def aCE:M Fl:=(bl [(eQ aQh (aA 1) (aA 0)),
 (eQ aPQ (uF .bytes) (aA 0))])
noncomputable def My:Fn:=(bG 2 (gN 2) aCE)
theorem aKt(H:bL C):RF C 1 555 My:=
 (bU (sl:=aNe) (H.fn 37 rfl) (fun env he hf=>
 (aC (eY (eP H 21 rfl) (L 1) (L 0)) (aC (eY (eP H 22 rfl) (wC .bytes) (L 0)) aE))))
noncomputable def aMQ:aL:=[("self",.local),("oid",.local),("MissingObject",.globalImplicit)]
noncomputable def aCr:M Fl:=(bl [(bH (t2 (aA 1) (ge MQ (aA 0)) fB) (bl [er]) (bl [])),
 (re (b2 (ge MQ (aA 0)) (aA 1) aV))])
noncomputable def YE:Fn:=(cI 8 (bG 3 (gN 2) aCr))
theorem aKh(H:bL C):RF C 1 862 YE:=
 (cS 8 (bU (sl:=aMQ) (H.fn 38 rfl) (fun env he hf=>
 (aC (cD (aU oZ (L 1) (aM (aQ H 32 rfl) (L 0))) (aC pK aE) aE) (aC (bP (cJ cN (aM (aQ H 32 rfl) (L 0)) (L 1))) aE)))))
noncomputable def aMP:aL:=[("self",.local),("oid",.local),("kind",.local),("told",.local),("thing",.local),("BadObject",.globalImplicit),("hex_of",.globalImplicit)]
noncomputable def aCq:M Fl:=(bl [(uY [3,4] (mc 11 YE (aA 0) (ar [(aA 1)]))),
 (bH (t2 (aA 3) (aA 2) oW) (bl [er]) (bl [])),
 (re (aA 4))])
noncomputable def NY:Fn:=(cI 8 (bG 7 (gN 3) aCq))
theorem Ux(H:bL C):RF C 2 883 NY:=
 (cS 8 (bU (sl:=aMP) (H.fn 39 rfl) (fun env he hf=>
 (aC (yF 671 [3,4] (gT (H.mt 15 rfl) (aKh H) (L 0) (aD (L 1) aH))) (aC (cD (aU vM (L 3) (L 2)) (aC pK aE) aE) (aC (bP (L 4)) aE))))))
noncomputable def aMN:aL:=[("self",.local),("oid",.local),("BLOB",.globalImplicit)]
noncomputable def aCo:M Fl:=(bl [(re (mc 11 NY (aA 0) (ar [(aA 1),Ak])))])
noncomputable def NX:Fn:=(cI 8 (bG 3 (gN 2) aCo))
theorem Uv(H:bL C):RF C 3 890 NX:=
 (cS 8 (bU (sl:=aMN) (H.fn 40 rfl) (fun env he hf=>
 (aC (bP (gT (H.mt 14 rfl) (Ux H) (L 0) (aD (L 1) (aD (Gc 2 (H.gc 1 rfl)) aH)))) aE))))
noncomputable def aNa:aL:=[("self",.local),("number",.local),("many",.local)]
noncomputable def Jy:M Fl:=(bl [(Ja qW jJ Fv (aA 0) (aA 2)),
 (gB fQ (b2 (BX IX zF (ge AU (aA 0)) (aA 1) (kI 0)) (aA 2) bM) (ge AU (aA 0)) (aA 1))])
noncomputable def BF:Fn:=(oX (bG 3 (gN 3) Jy))
theorem Uy(H:bL C):RF C 1 513 BF:=
 (tQ (bU (sl:=aNa) (H.fn 41 rfl) (fun env he hf=>
 (aC (Ht (aQ H 0 rfl) (eP H 0 rfl) nN (L 0) (L 2)) (aC (lL mF (aW cO (HB rQ Dq Eb (aM (aQ H 20 rfl) (L 0)) (L 1) (Ki 0)) (L 2)) (aM (aQ H 20 rfl) (L 0)) (L 1)) aE)))))
noncomputable def aOl:aL:=[("octets",.local),("look",.local)]
noncomputable def aDo:M Fl:=(bl [(re (c2 (kY [0]) (pS (aA 0) (rt none) (pa (aA 1))) vH))])
noncomputable def vF:Fn:=(cI 0 (bG 2 (gD 1 [.int 8000]) aDo))
theorem Dx(H:bL C):RF C 1 491 vF:=
 (cS 0 (bU (sl:=aOl) H.p_treediff_is_binary (fun env he hf=>
 (aC (bP (qS zS (Ky [0] [0]) (yG (L 0) HE (tR (L 1))))) aE))))
noncomputable def aMY:aL:=[("self",.local),("octets",.local),("longest",.local),("is_text",.local),("number",.local),("many",.local),("at",.local),("octet",.local),("treediff_is_binary",.globalImplicit),("range",.globalImplicit),("len",.globalImplicit)]
noncomputable def aCz:M Fl:=(bl [(eQ Fv (kI 0) (aA 0)),
 (eQ aPS (uF .int) (aA 0)),
 (aZ 3 (vn (cf vF (ar [(aA 1)])))),
 (nF [4,5] (ar [(kI 0),(kI 0)])),
 (fo (ge CG (ge iL (aA 1))) (nT 6) (bl [(aZ 7 (b2 (aA 1) (aA 6) aV)),
 (bH (cE (tv (aA 3)) (cE (t2 (aA 7) (kI 13) cK) (cE (t2 (pS (aA 1) (pa (b2 (aA 6) (kI 1) bM)) (pa (b2 (aA 6) (kI 2) bM))) (kY [10]) cK) (rt true)))) (bl [(rt .cont)]) (bl [])),
 (aZ 4 (b2 (b2 (b2 (b2 (aA 4) (kI 1009) qJ) (aA 7) bM) (kI 1) bM) (ge a_WRAP (aA 0)) (bX mA))),
 (au 5 jJ (kI 1)),
 (bH (gW (t2 (aA 7) (kI 10) cK) (gW (t2 (aA 5) (aA 2) cK) (rt false))) (bl [(ex (mc 5 BF (aA 0) (ar [(aA 4),(aA 5)]))),
 (nF [4,5] (ar [(kI 0),(kI 0)]))]) (bl []))])),
 (bH (t2 (aA 5) (kI 0) sP) (bl [(ex (mc 5 BF (aA 0) (ar [(aA 4),(aA 5)])))]) (bl []))])
noncomputable def IC:Fn:=(bG 11 (gD 2 [.int 64]) aCz)
theorem aKo(H:bL C):RF C 2 506 IC:=
 (bU (sl:=aMY) H.p_Spans_I (fun env he hf=>
 (aC (eY (eP H 0 rfl) (Ki 0) (L 0)) (aC (eY (eP H 20 rfl) (wC .int) (L 0)) (aC (bZ 3 Sl (aAC (cG 8 (H.gf 35 rfl) H.p_treediff_is_binary.is (Dx H) (aD (L 1) aH)))) (aC (wA 405 [4,5] (aD (Ki 0) (aD (Ki 0) aH)) he) (aC (hU cZ (kL 9 (H.gb 11 rfl) QR (iJ 10 (H.gb 6 rfl) mE (L 1))) (cY 6) (aC (bZ 7 Sl (cJ cN (L 1) (L 6))) (aC (cD (jF (eE (jZ jC (L 3)) (eE (aU eX (L 7) (Ki 13)) (eE (aU eX (yG (L 1) (tR (aW cO (L 6) (Ki 1))) (tR (aW cO (L 6) (Ki 2)))) (Ky [10] [10])) oG)))) (aC DE aE) aE) (aC (bZ 4 Sl (aW sY (aW cO (aW cO (aW zT (L 4) (Ki 1009)) (L 7)) (Ki 1)) (aM (aJH H) (L 0)))) (aC (mY 5 nN (Ki 1)) (aC (cD (jF (oH (aU eX (L 7) (Ki 10)) (oH (aU eX (L 5) (L 2)) yK))) (aC (fY (gT (H.mt 22 rfl) (Uy H) (L 0) (aD (L 4) (aD (L 5) aH)))) (aC (wA 414 [4,5] (aD (Ki 0) (aD (Ki 0) aH)) he) aE)) aE) aE)))))) (aC (cD (aU zR (L 5) (Ki 0)) (aC (fY (gT (H.mt 22 rfl) (Uy H) (L 0) (aD (L 4) (aD (L 5) aH)))) aE) aE) aE))))))))
noncomputable def aNf:aL:=[("self",.local),("oid",.local),("Spans",.globalImplicit)]
noncomputable def WT:M Fl:=(bl [(bH (t2 (aA 1) (ge VX (aA 0)) fB) (bl [(gB fQ (ge (Ob 2) (nw 5 IC (ar [(mc 11 NX (ge aAK (aA 0)) (ar [(aA 1)]))]))) (ge VX (aA 0)) (aA 1))]) (bl [])),
 (re (b2 (ge VX (aA 0)) (aA 1) aV))])
noncomputable def zC:Fn:=(oX (bG 3 (gN 2) WT))
theorem Uz(H:bL C):RF C 4 562 zC:=
 (tQ (bU (sl:=aNf) (H.fn 42 rfl) (fun env he hf=>
 (aC (cD (aU oZ (L 1) (aM (aQ H 22 rfl) (L 0))) (aC (lL mF (fF (aGa (m:=2)) (mM 2 (H.gk 5 rfl) (H.nw 5 rfl) (aKo H) (aD (gT (H.mt 12 rfl) (Uv H) (aM (aQ H 21 rfl) (L 0)) (aD (L 1) aH)) aH))) (aM (aQ H 22 rfl) (L 0)) (L 1)) aE) aE) (aC (bP (cJ cN (aM (aQ H 22 rfl) (L 0)) (L 1))) aE)))))
noncomputable def aOp:aL:=[("change",.local),("GONE",.globalImplicit)]
noncomputable def aDs:M Fl:=(bl [(re (aY (ar [(ge a_path (aA 0)),(iY (t2 (ge wJ (aA 0)) BR cK) (kI 0) (kI 1))]) cM))])
noncomputable def BI:Fn:=(cI 0 (bG 2 (gN 1) aDs))
theorem Dy(H:bL C):RF C 3 442 BI:=
 (cS 0 (bU (sl:=aOp) (H.fn 43 rfl) (fun env he hf=>
 (aC (bP (eO (aD (aM (zQ H (bT rfl)) (L 0)) (aD (lB (aU eX (aM (aQ H 12 rfl) (L 0)) (Gc 1 (H.gc 6 rfl))) (Ki 0) (Ki 1)) aH)))) aE))))
end
section
variable{C:Cx}
noncomputable def aNj:aL:=[("store",.local),("changes",.local),("least",.local),("smallest",.local),("contents",.local),("found",.local),("change",.local),("kinds",.local),("old",.local),("new",.local),("gone",.local),("TreediffContents",.globalImplicit),("treediff_kind",.globalImplicit),("OTHER",.globalImplicit),("PLAIN",.globalImplicit),("sorted",.globalImplicit),("treediff_order",.globalImplicit)]
noncomputable def aCG:M Fl:=(bl [(aZ 4 (nw 6 My (ar [(aA 0)]))),
 (aZ 5 (aY (ar []) kE)),
 (fo (aA 1) (nT 6) (bl [(aZ 7 (aY (ar [(cf rH (ar [(ge qV (aA 6))])),(cf rH (ar [(ge oL (aA 6))]))]) cM)),
 (bH (cE (t2 (ge wJ (aA 6)) EZ cK) (cE (t2 (aA 7) (aY (ar [BS,BS]) cM) cK) (cE (t2 (ge oM (aA 6)) (ge lO (aA 6)) oW) (rt true)))) (bl [(oN [9,8] (ar [(mc 6 zC (aA 4) (ar [(ge oM (aA 6))])),(mc 6 zC (aA 4) (ar [(ge lO (aA 6))]))])),
 (aZ 10 (mc 5 ID (aA 8) (ar [(aA 9)]))),
 (bH (cE (t2 (ge qW (aA 8)) (aA 3) rK) (cE (t2 (ge qW (aA 8)) (kI 0) sP) (cE (t2 (aA 10) (aA 2) rK) (rt true)))) (bl [(ex (bK cR dD (aA 5) (mc 4 OC (aA 6) (ar [(aA 10)])))),
 (ex (bK cR dD (aA 5) (mc 4 OB (aA 6) (ar [(aA 10)])))),
 (rt .cont)]) (bl []))]) (bl [])),
 (ex (bK cR dD (aA 5) (aA 6)))])),
 (re (ge cC (ge (CL BI) (aA 5))))])
noncomputable def OD:Fn:=(cI 8 (bG 17 (gN 4) aCG))
theorem Vb(H:bL C):RF C 5 584 OD:=
 (cS 8 (bU (sl:=aNj) H.p_broken (fun env he hf=>
 (aC (bZ 4 Sl (mM 11 (H.gk 6 rfl) (H.nw 6 rfl) (aKt H) (aD (L 0) aH))) (aC (bZ 5 Sl (mL aH)) (aC (hU cZ (L 1) (cY 6) (aC (bZ 7 Sl (eO (aD (cG 12 (H.gf 37 rfl) (H.fn 0 rfl).is (CE H) (aD (aM (aQ H 13 rfl) (L 6)) aH)) (aD (cG 12 (H.gf 37 rfl) (H.fn 0 rfl).is (CE H) (aD (aM (aQ H 16 rfl) (L 6)) aH)) aH)))) (aC (cD (jF (eE (aU eX (aM (aQ H 12 rfl) (L 6)) (Gc 13 (H.gc 9 rfl))) (eE (aU eX (L 7) (eO (aD (Gc 14 (H.gc 11 rfl)) (aD (Gc 14 (H.gc 11 rfl)) aH)))) (eE (aU vM (aM (aQ H 14 rfl) (L 6)) (aM (aQ H 17 rfl) (L 6))) oG)))) (aC (yD 452 [9,8] (aD (gT (H.mt 25 rfl) (Uz H) (L 4) (aD (aM (aQ H 14 rfl) (L 6)) aH)) (aD (gT (H.mt 25 rfl) (Uz H) (L 4) (aD (aM (aQ H 17 rfl) (L 6)) aH)) aH)) he) (aC (bZ 10 Sl (gT (H.mt 21 rfl) (aKp H) (L 8) (aD (L 9) aH))) (aC (cD (jF (eE (aU FP (aM (aQ H 0 rfl) (L 8)) (L 3)) (eE (aU zR (aM (aQ H 0 rfl) (L 8)) (Ki 0)) (eE (aU FP (L 10) (L 2)) oG)))) (aC (fY (dT jA gP jB (L 5) (gT (H.mt 20 rfl) (aKm H) (L 6) (aD (L 10) aH)))) (aC (fY (dT jA gP jB (L 5) (gT (H.mt 19 rfl) (aKl H) (L 6) (aD (L 10) aH)))) (aC DE aE))) aE) aE))) aE) (aC (fY (dT jA gP jB (L 5) (L 6))) aE)))) (aC (bP (fF fA (UD 15 16 (H.gb 12 rfl) (H.gf 39 rfl) (Dy H) (L 5)))) aE)))))))
noncomputable def aMu:aL:=[("self",.local),("path",.local),("olds",.local),("new_mode",.local),("new_id",.local)]
noncomputable def aBY:M Fl:=(bl [(eQ Yq (aA 1) (aA 0)),
 (eQ aQe (aA 2) (aA 0)),
 (eQ Yp (aA 3) (aA 0)),
 (eQ Yo (aA 4) (aA 0))])
noncomputable def XX:Fn:=(bG 5 (gN 5) aBY)
theorem aJR(H:bL C):RF C 1 603 XX:=
 (bU (sl:=aMu) (H.fn 44 rfl) (fun env he hf=>
 (aC (eY (eP H 23 rfl) (L 1) (L 0)) (aC (eY (eP H 24 rfl) (L 2) (L 0)) (aC (eY (eP H 16 rfl) (L 3) (L 0)) (aC (eY (eP H 17 rfl) (L 4) (L 0)) aE))))))
noncomputable def aOf:aL:=[("path",.local),("entry",.local),("PathChange",.globalImplicit),("ADDED",.globalImplicit)]
noncomputable def aDi:M Fl:=(bl [(re (ge cC (nw 4 BE (ar [EX,(kI 0),kN,kN,(ge oJ (aA 1)),(ge qU (aA 1)),(aA 0)]))))])
noncomputable def Nf:Fn:=(cI 0 (bG 4 (gN 2) aDi))
theorem aKQ(H:bL C):RF C 3 456 Nf:=
 (cS 0 (bU (sl:=aOf) (H.fn 45 rfl) (fun env he hf=>
 (aC (bP (fF fA (mM 2 (H.gk 4 rfl) (H.nw 4 rfl) (FL H) (aD (Gc 3 (H.gc 0 rfl)) (aD (Ki 0) (aD Kn (aD Kn (aD (aM (aQ H 27 rfl) (L 1)) (aD (aM (aQ H 29 rfl) (L 1)) (aD (L 0) aH)))))))))) aE))))
noncomputable def aOj:aL:=[("path",.local),("entry",.local),("PathChange",.globalImplicit),("GONE",.globalImplicit)]
noncomputable def aDm:M Fl:=(bl [(re (ge cC (nw 4 BE (ar [BR,(ge oJ (aA 1)),(ge qU (aA 1)),(aA 0),(kI 0),kN,kN]))))])
noncomputable def Ng:Fn:=(cI 0 (bG 4 (gN 2) aDm))
theorem aKS(H:bL C):RF C 3 463 Ng:=
 (cS 0 (bU (sl:=aOj) (H.fn 46 rfl) (fun env he hf=>
 (aC (bP (fF fA (mM 2 (H.gk 4 rfl) (H.nw 4 rfl) (FL H) (aD (Gc 3 (H.gc 6 rfl)) (aD (aM (aQ H 27 rfl) (L 1)) (aD (aM (aQ H 29 rfl) (L 1)) (aD (L 0) (aD (Ki 0) (aD Kn (aD Kn aH)))))))))) aE))))
noncomputable def aOg:aL:=[("path",.local),("old",.local),("new",.local),("kinds",.local),("word",.local),("treediff_added",.globalImplicit),("treediff_gone",.globalImplicit),("treediff_kind",.globalImplicit),("FOLDER",.globalImplicit),("OTHER",.globalImplicit),("OTHER_KIND",.globalImplicit),("PathChange",.globalImplicit)]
noncomputable def aDj:M Fl:=(bl [(bH (t2 (aA 1) kN oS) (bl [(re (iY (t2 (aA 2) kN oS) (aY (ar []) kP) (aY (ar [(cf Nf (ar [(aA 0),(aA 2)]))]) kP)))]) (bl [])),
 (bH (t2 (aA 2) kN oS) (bl [(re (aY (ar [(cf Ng (ar [(aA 0),(aA 1)]))]) kP))]) (bl [])),
 (aZ 3 (aY (ar [(cf rH (ar [(ge oJ (aA 1))])),(cf rH (ar [(ge oJ (aA 2))]))]) cM)),
 (bH (cE (t2 Qq (aA 3) vH) (cE (t2 (b2 (aA 3) (kI 0) aV) (b2 (aA 3) (kI 1) aV) oW) (rt true))) (bl [er]) (bl [])),
 (aZ 4 (iY (t2 (b2 (aA 3) (kI 0) aV) (b2 (aA 3) (kI 1) aV) cK) EZ Qs)),
 (re (aY (ar [(ge cC (nw 4 BE (ar [(aA 4),(ge oJ (aA 1)),(ge qU (aA 1)),(aA 0),(ge oJ (aA 2)),(ge qU (aA 2)),(aA 0)])))]) kP))])
noncomputable def OI:Fn:=(cI 0 (bG 12 (gN 3) aDj))
theorem aKR(H:bL C):RF C 4 470 OI:=
 (cS 0 (bU (sl:=aOg) (H.fn 47 rfl) (fun env he hf=>
 (aC (cD (aU rU (L 1) Kn) (aC (bP (lB (aU rU (L 2) Kn) (nA aH) (nA (aD (cG 5 (H.gf 29 rfl) (H.fn 45 rfl).is (aKQ H) (aD (L 0) (aD (L 2) aH))) aH)))) aE) aE) (aC (cD (aU rU (L 2) Kn) (aC (bP (nA (aD (cG 6 (H.gf 33 rfl) (H.fn 46 rfl).is (aKS H) (aD (L 0) (aD (L 1) aH))) aH))) aE) aE) (aC (bZ 3 Sl (eO (aD (cG 7 (H.gf 37 rfl) (H.fn 0 rfl).is (CE H) (aD (aM (aQ H 27 rfl) (L 1)) aH)) (aD (cG 7 (H.gf 37 rfl) (H.fn 0 rfl).is (CE H) (aD (aM (aQ H 27 rfl) (L 2)) aH)) aH)))) (aC (cD (jF (eE (aU zS (Gc 8 (H.gc 5 rfl)) (L 3)) (eE (aU vM (cJ cN (L 3) (Ki 0)) (cJ cN (L 3) (Ki 1))) oG))) (aC pK aE) aE) (aC (bZ 4 Sl (lB (aU eX (cJ cN (L 3) (Ki 0)) (cJ cN (L 3) (Ki 1))) (Gc 9 (H.gc 9 rfl)) (Gc 10 (H.gc 10 rfl)))) (aC (bP (nA (aD (fF fA (mM 11 (H.gk 4 rfl) (H.nw 4 rfl) (FL H) (aD (L 4) (aD (aM (aQ H 27 rfl) (L 1)) (aD (aM (aQ H 29 rfl) (L 1)) (aD (L 0) (aD (aM (aQ H 27 rfl) (L 2)) (aD (aM (aQ H 29 rfl) (L 2)) (aD (L 0) aH))))))))) aH))) aE)))))))))
noncomputable def aMR:aL:=[("self",.local),("oid",.local),("TREE",.globalImplicit)]
noncomputable def aCs:M Fl:=(bl [(re (mc 11 NY (aA 0) (ar [(aA 1),Qt])))])
noncomputable def NZ:Fn:=(cI 8 (bG 3 (gN 2) aCs))
theorem aKi(H:bL C):RF C 3 897 NZ:=
 (cS 8 (bU (sl:=aMR) (H.fn 48 rfl) (fun env he hf=>
 (aC (bP (gT (H.mt 14 rfl) (Ux H) (L 0) (aD (L 1) (aD (Gc 2 (H.gc 14 rfl)) aH)))) aE))))
noncomputable def aOi:aL:=[("store",.local),("tree",.local),("found",.local),("entry",.local)]
noncomputable def aDl:M Fl:=(bl [(aZ 2 (uF .bytes)),
 (bH (t2 (aA 1) kN qD) (bl [(fo (ge MP (mc 11 NZ (aA 0) (ar [(aA 1)]))) (nT 3) (bl [(gB fQ (aA 3) (aA 2) (ge tV (aA 3)))]))]) (bl [])),
 (re (ge cC (aA 2)))])
noncomputable def EH:Fn:=(cI 8 (bG 4 (gN 2) aDl))
theorem Vl(H:bL C):RF C 4 449 EH:=
 (cS 8 (bU (sl:=aOi) (H.fn 49 rfl) (fun env he hf=>
 (aC (bZ 2 Sl (wC .bytes)) (aC (cD (aU xK (L 1) Kn) (aC (hU cZ (aM (aQ H 30 rfl) (gT (H.mt 16 rfl) (aKi H) (L 0) (aD (L 1) aH))) (cY 3) (aC (lL mF (L 3) (L 2) (aM (aQ H 28 rfl) (L 3))) aE)) aE) aE) (aC (bP (fF fA (L 2))) aE))))))
noncomputable def aOk:aL:=[("old",.local),("new",.local)]
noncomputable def aDn:M Fl:=(bl [(re (zY (c2 (aA 0) kN qD) (zY (c2 (aA 1) kN qD) (zY (c2 (ge oJ (aA 0)) (ge oJ (aA 1)) cK) (c2 (ge qU (aA 0)) (ge qU (aA 1)) cK)))))])
noncomputable def IH:Fn:=(cI 0 (bG 2 (gN 2) aDn))
theorem aKT(H:bL C):RF C 1 477 IH:=
 (cS 0 (bU (sl:=aOk) (H.fn 50 rfl) (fun env he hf=>
 (aC (bP (UA (GZ (qS xK (L 0) Kn) (GZ (qS xK (L 1) Kn) (GZ (qS eX (aM (aQ H 27 rfl) (L 0)) (aM (aQ H 27 rfl) (L 1))) (TZ (qS eX (aM (aQ H 29 rfl) (L 0)) (aM (aQ H 29 rfl) (L 1))))))))) aE))))
noncomputable def aOm:aL:=[("folder",.local),("name",.local)]
noncomputable def aDp:M Fl:=(bl [(re (iY (tv (aA 0)) (b2 (b2 (aA 0) (kY [47]) bM) (aA 1) bM) (aA 1)))])
noncomputable def YT:Fn:=(cI 0 (bG 2 (gN 2) aDp))
theorem aKU(H:bL C):RF C 1 361 YT:=
 (cS 0 (bU (sl:=aOm) (H.fn 51 rfl) (fun env he hf=>
 (aC (bP (lB (jZ jC (L 0)) (aW cO (aW cO (L 0) (Ky [47] [47])) (L 1)) (L 1))) aE))))
noncomputable def aNp:aL:=[(".0",.local),("name",.local)]
noncomputable def aNq:aL:=[(".0",.local),("name",.local),("olds",.free)]
noncomputable def aNo:aL:=[("store",.local),("one",.local),("other",.local),("prefix",.local),("deep",.local),("found",.local),("waiting",.local),("left",.local),("right",.local),("here",.local),("olds",.cell),("news",.local),("name",.local),("names",.local),("old",.local),("new",.local),("path",.local),("was_folder",.local),("is_folder",.local),("treediff_entries",.globalImplicit),("sorted",.globalImplicit),("treediff_is_alike",.globalImplicit),("treediff_joined",.globalImplicit),("DIR",.globalImplicit),("treediff_beside",.globalImplicit),("treediff_order",.globalImplicit)]
noncomputable def aCK:M Fl:=(bl [(aZ 5 (aY (ar []) kE)),
 (aZ 6 (aY (ar [(aY (ar [(aA 1),(aA 2),(aA 3)]) cM)]) kE)),
 (kW 64 (tv (aA 6)) (bl [(uY [7,8,9] (mR cR Ar (aA 6))),
 (bH (t2 (aA 7) (aA 8) cK) (bl [(rt .cont)]) (bl [])),
 (nF [10,11] (ar [(cf EH (ar [(aA 0),(aA 7)])),(cf EH (ar [(aA 0),(aA 8)]))])),
 (aZ 13 (ge cC (ge nP (b2 (eG dK (aA 10) [none,none] (nT 1) (rt true) (aA 1)) (eG dK (aA 11) [none,none,some 10] (nT 1) (t2 (aA 1) (aA 2) fB) (aA 1)) bM)))),
 (fo (aA 13) (nT 12) (bl [(oN [15,14] (ar [(bK cV dX (aA 10) (aA 12)),(bK cV dX (aA 11) (aA 12))])),
 (bH (tv (cf IH (ar [(aA 14),(aA 15)]))) (bl [(rt .cont)]) (bl [])),
 (aZ 16 (cf YT (ar [(aA 9),(aA 12)]))),
 (bH (tv (aA 4)) (bl [(aZ 17 (zY (c2 (aA 14) kN qD) (c2 (ge oJ (aA 14)) EY cK))),
 (aZ 18 (zY (c2 (aA 15) kN qD) (c2 (ge oJ (aA 15)) EY cK))),
 (bH (gW (tv (aA 17)) (gW (tv (aA 18)) (rt false))) (bl [(ex (bK cR dD (aA 6) (aY (ar [(iY (tv (aA 17)) (ge qU (aA 14)) kN),(iY (tv (aA 18)) (ge qU (aA 15)) kN),(aA 16)]) cM)))]) (bl [])),
 (aZ 14 (iY (tv (aA 17)) kN (aA 14))),
 (aZ 15 (iY (tv (aA 18)) kN (aA 15)))]) (bl [])),
 (ex (bK cR BU (aA 5) (cf OI (ar [(aA 16),(aA 14),(aA 15)]))))]))])),
 (re (ge cC (ge (CL BI) (aA 5))))])
noncomputable def ED:Fn:=(cI 8 (bG 26 (gD 3 [.bytes [],.bool true]) aCK))
theorem Vc(H:bL C):RF C 5 483 ED:=
 (cS 8 (bU (sl:=aNo) H.p_diff_trees (fun env he hf=>
 (aC (bZ 5 Sl (mL aH)) (aC (bZ 6 Sl (mL (aD (eO (aD (L 1) (aD (L 2) (aD (L 3) aH)))) aH))) (aC (uS 64 (jZ jC (L 6)) (aC (yF 377 [7,8,9] (wB Bl gP Vv (L 6))) (aC (cD (aU eX (L 7) (L 8)) (aC DE aE) aE) (aC (wA 380 [10,11] (aD (cG 19 (H.gf 32 rfl) (H.fn 49 rfl).is (Vl H) (aD (L 0) (aD (L 7) aH))) (aD (cG 19 (H.gf 32 rfl) (H.fn 49 rfl).is (Vl H) (aD (L 0) (aD (L 8) aH))) aH)) he (q:=LA hf rfl)) (aC (bZ 13 Sl (fF fA (iJ 20 (H.gb 12 rfl) KN (aW cO (mZ cZ aNp [none,none] (Lc 10) (fun _=>cP (cY 1) oF (L 1))) (mZ cZ aNq [none,none,some 10] (L 11) (fun _=>cP (cY 1) (DF (aU oZ (L 1) (Lc 2))) (L 1))))))) (aC (hU cZ (L 13) (cY 12) (aC (yD 383 [15,14] (aD (dT rQ oY vL (Lc 10) (L 12)) (aD (dT rQ oY vL (L 11) (L 12)) aH)) he) (aC (cD (jZ jC (cG 21 (H.gf 34 rfl) (H.fn 50 rfl).is (aKT H) (aD (L 14) (aD (L 15) aH)))) (aC DE aE) aE) (aC (bZ 16 Sl (cG 22 (H.gf 36 rfl) (H.fn 51 rfl).is (aKU H) (aD (L 9) (aD (L 12) aH)))) (aC (cD (jZ jC (L 4)) (aC (bZ 17 Sl (UA (GZ (qS xK (L 14) Kn) (TZ (qS eX (aM (aQ H 27 rfl) (L 14)) (Gc 23 (H.gc 2 rfl))))))) (aC (bZ 18 Sl (UA (GZ (qS xK (L 15) Kn) (TZ (qS eX (aM (aQ H 27 rfl) (L 15)) (Gc 23 (H.gc 2 rfl))))))) (aC (cD (jF (oH (jZ jC (L 17)) (oH (jZ jC (L 18)) yK))) (aC (fY (dT jA gP jB (L 6) (eO (aD (lB (jZ jC (L 17)) (aM (aQ H 29 rfl) (L 14)) Kn) (aD (lB (jZ jC (L 18)) (aM (aQ H 29 rfl) (L 15)) Kn) (aD (L 16) aH)))))) aE) aE) (aC (bZ 14 Sl (lB (jZ jC (L 17)) Kn (L 14))) (aC (bZ 15 Sl (lB (jZ jC (L 18)) Kn (L 15))) aE))))) aE) (aC (fY (dT Sm gP Vp (L 5) (cG 24 (H.gf 30 rfl) (H.fn 47 rfl).is (aKR H) (aD (L 16) (aD (L 14) (aD (L 15) aH)))))) aE)))))) aE)))))) (aC (bP (fF fA (UD 20 25 (H.gb 12 rfl) (H.gf 39 rfl) (Dy H) (L 5)))) aE)))))))
end
section
variable{C:Cx}
noncomputable def aNn:aL:=[(".0",.local),("row",.local),("path",.free)]
noncomputable def aNm:aL:=[("store",.local),("parents",.local),("tree",.local),("by_parent",.local),("parent",.local),("row",.local),("change",.local),("found",.local),("path",.cell),("olds",.local),("diff_trees",.globalImplicit),("sorted",.globalImplicit),("any",.globalImplicit),("CombinedChange",.globalImplicit)]
noncomputable def aCJ:M Fl:=(bl [(aZ 3 (aY (ar []) kE)),
 (fo (aA 1) (nT 4) (bl [(aZ 5 (uF .bytes)),
 (fo (cf ED (ar [(aA 0),(aA 4),(aA 2)])) (nT 6) (bl [(gB fQ (aA 6) (aA 5) (ge a_path (aA 6)))])),
 (ex (bK cR dD (aA 3) (ge cC (aA 5))))])),
 (aZ 7 (aY (ar []) kE)),
 (fo (iY (tv (gu (ZK 3) (aA 3))) (ge cC (ge nP (b2 (aA 3) (kI 0) aV))) (aY (ar []) kP)) (nT 8) (bl [(bH (tv (ge MU (eG dK (aA 3) [none,none,some 8] (nT 1) (rt true) (c2 (aA 2) (aA 1) fB)))) (bl [(rt .cont)]) (bl [])),
 (aZ 9 (aY (ar []) kE)),
 (fo (aA 3) (nT 5) (bl [(aZ 6 (b2 (aA 5) (aA 8) aV)),
 (ex (bK cR dD (aA 9) (aY (ar [(ge qV (aA 6)),(ge oM (aA 6))]) cM)))])),
 (aZ 6 (b2 (b2 (aA 3) (kI 0) aV) (aA 8) aV)),
 (ex (bK cR dD (aA 7) (ge cC (nw 7 XX (ar [(aA 8),(ge cC (aA 9)),(ge oL (aA 6)),(ge lO (aA 6))])))))])),
 (re (ge cC (aA 7)))])
noncomputable def YK:Fn:=(cI 8 (bG 14 (gN 3) aCJ))
theorem aKz(H:bL C):RF C 6 622 YK:=
 (cS 8 (bU (sl:=aNm) (H.fn 52 rfl) (fun env he hf=>
 (aC (bZ 3 Sl (mL aH)) (aC (hU cZ (L 1) (cY 4) (aC (bZ 5 Sl (wC .bytes)) (aC (hU cZ (cG 10 (H.gf 5 rfl) H.p_diff_trees.is (Vc H) (aD (L 0) (aD (L 4) (aD (L 2) aH)))) (cY 6) (aC (lL mF (L 6) (L 5) (aM (zQ H (bT rfl)) (L 6))) aE)) (aC (fY (dT jA gP jB (L 3) (fF fA (L 5)))) aE)))) (aC (bZ 7 Sl (mL aH)) (aC (hU cZ (lB (jZ jC (aAy (aGd (i:=3)) (L 3))) (fF fA (iJ 11 (H.gb 12 rfl) KN (cJ cN (L 3) (Ki 0)))) (nA aH)) (cY 8 (Sc hf)) (aC (cD (jZ jC (iJ 12 (H.gb 0 rfl) aLe (mZ cZ aNn [none,none,some 8] (L 3) (fun _=>cP (cY 1) oF (qS oZ (Lc 2) (L 1)))))) (aC DE aE) aE) (aC (bZ 9 Sl (mL aH)) (aC (hU cZ (L 3) (cY 5) (aC (bZ 6 Sl (cJ cN (L 5) (Lc 8))) (aC (fY (dT jA gP jB (L 9) (eO (aD (aM (aQ H 13 rfl) (L 6)) (aD (aM (aQ H 14 rfl) (L 6)) aH))))) aE))) (aC (bZ 6 Sl (cJ cN (cJ cN (L 3) (Ki 0)) (Lc 8))) (aC (fY (dT jA gP jB (L 7) (fF fA (mM 13 (H.gk 7 rfl) (H.nw 7 rfl) (aJR H) (aD (Lc 8) (aD (fF fA (L 9)) (aD (aM (aQ H 16 rfl) (L 6)) (aD (aM (aQ H 17 rfl) (L 6)) aH)))))))) aE)))))) (aC (bP (fF fA (L 7))) aE))))))))
noncomputable def aNg:aL:=[("self",.local),("path",.local),("put_in",.local),("taken_out",.local)]
noncomputable def aCF:M Fl:=(bl [(eQ Yq (aA 1) (aA 0)),
 (eQ aQf (aA 2) (aA 0)),
 (eQ aQj (aA 3) (aA 0))])
noncomputable def zD:Fn:=(bG 4 (gN 4) aCF)
theorem Va(H:bL C):RF C 1 636 zD:=
 (bU (sl:=aNg) (H.fn 53 rfl) (fun env he hf=>
 (aC (eY (eP H 23 rfl) (L 1) (L 0)) (aC (eY (eP H 25 rfl) (L 2) (L 0)) (aC (eY (eP H 26 rfl) (L 3) (L 0)) aE)))))
noncomputable def aMB:aL:=[("self",.local)]
noncomputable def aCf:M Fl:=(bl [(eQ Yn (uF .pair) (aA 0)),
 (eQ aQi (aY (ar []) kE) (aA 0)),
 (eQ Ym (kI 0) (aA 0))])
noncomputable def YA:Fn:=(bG 1 (gN 1) aCf)
theorem aJX(H:bL C):RF C 1 187 YA:=
 (bU (sl:=aMB) (H.fn 54 rfl) (fun env he hf=>
 (aC (eY (eP H 1 rfl) (wC .pair) (L 0)) (aC (eY (eP H 6 rfl) (mL aH) (L 0)) (aC (eY (eP H 7 rfl) (Ki 0) (L 0)) aE)))))
noncomputable def aMC:aL:=[("self",.local),("line",.local),("key",.local),("number",.local),("other",.local),("isinstance",.globalImplicit),("bytes",.globalImplicit),("str",.globalImplicit)]
noncomputable def WS:M Fl:=(bl [(bH (tv (ge Aa (aA 1))) (bl [(aZ 2 (aY (ar [(ge Ac (aA 1)),(aA 1)]) cM)),
 (bH (t2 (aA 2) (ge uW (aA 0)) fB) (bl [(gB fQ (ge Ih (aA 0)) (ge uW (aA 0)) (aA 2)),
 (Ja Ih jJ Ym (aA 0) (kI 1))]) (bl [])),
 (re (b2 (ge uW (aA 0)) (aA 2) aV))]) (bl [])),
 er,
 er,
 er,
 er])
noncomputable def EC:Fn:=(oX (bG 8 (gN 2) WS))
theorem aJY(H:bL C):RF C 1 194 EC:=
 (tQ (bU (sl:=aMC) (H.fn 55 rfl) (fun env he hf=>
 (aC (cD (jZ jC (aAz 5 6 7 (H.gb 5 rfl) (H.gb 2 rfl) (H.gb 13 rfl) (L 1))) (aC (bZ 2 Sl (eO (aD (aAA 5 7 (H.gb 5 rfl) (H.gb 13 rfl) (L 1)) (aD (L 1) aH)))) (aC (cD (aU oZ (L 2) (aM (aQ H 1 rfl) (L 0))) (aC (lL mF (aM (aQ H 7 rfl) (L 0)) (aM (aQ H 1 rfl) (L 0)) (L 2)) (aC (Ht (aQ H 7 rfl) (eP H 7 rfl) nN (L 0) (Ki 1)) aE)) aE) (aC (bP (cJ cN (aM (aQ H 1 rfl) (L 0)) (L 2))) aE))) aE) (aC pK (aC pK (aC pK (aC pK aE))))))))
noncomputable def aME:aL:=[(".0",.local),("line",.local),("self",.free)]
noncomputable def aMD:aL:=[("self",.cell),("lines",.local)]
noncomputable def Jx:M Fl:=(bl [(re (eG dK (aA 1) [none,none,some 0] (nT 1) (rt true) (mc 2 EC (aA 2) (ar [(aA 1)]))))])
noncomputable def zB:Fn:=(oX (bG 2 (gN 2) Jx))
theorem Uu(H:bL C):RF C 2 199 zB:=
 (tQ (bU (sl:=aMD) (H.fn 56 rfl) (fun env he hf=>
 (aC (bP (mZ cZ aME [none,none,some 0] (L 1) (fun _=>cP (cY 1) oF (gT (H.mt 4 rfl) (aJY H) (Lc 2) (aD (L 1) aH))))) aE))))
noncomputable def aMF:aL:=[("self",.local),("a",.local),("b",.local),("numbers",.local),("LineNumbers",.globalImplicit),("len",.globalImplicit)]
noncomputable def aCg:M Fl:=(bl [(aZ 3 (nw 2 YA (ar []))),
 (eQ w_a (mc 2 zB (aA 3) (ar [(aA 1)])) (aA 0)),
 (eQ w_b (mc 2 zB (aA 3) (ar [(aA 2)])) (aA 0)),
 (eQ aPU (b2 (aY (ar [(kB false)]) kP) (ge iL (aA 1)) qJ) (aA 0)),
 (eQ aPR (b2 (aY (ar [(kB false)]) kP) (ge iL (aA 2)) qJ) (aA 0))])
noncomputable def NW:Fn:=(bG 6 (gN 3) aCg)
theorem aJZ(H:bL C):RF C 3 220 NW:=
 (bU (sl:=aMF) (H.fn 57 rfl) (fun env he hf=>
 (aC (bZ 3 Sl (mM 4 (H.gk 2 rfl) (H.nw 2 rfl) (aJX H) aH)) (aC (eY (eP H 8 rfl) (gT (H.mt 5 rfl) (Uu H) (L 3) (aD (L 1) aH)) (L 0)) (aC (eY (eP H 9 rfl) (gT (H.mt 5 rfl) (Uu H) (L 3) (aD (L 2) aH)) (L 0)) (aC (eY (eP H 10 rfl) (aW zT (nA (aD (Kb false) aH)) (iJ 5 (H.gb 6 rfl) mE (L 1))) (L 0)) (aC (eY (eP H 11 rfl) (aW zT (nA (aD (Kb false) aH)) (iJ 5 (H.gb 6 rfl) mE (L 2))) (L 0)) aE)))))))
noncomputable def aMt:aL:=[("self",.local),("a_from",.local),("a_to",.local),("b_from",.local),("b_to",.local)]
noncomputable def aBX:M Fl:=(bl [(eQ aPL (aA 1) (aA 0)),
 (eQ aPM (aA 2) (aA 0)),
 (eQ aPO (aA 3) (aA 0)),
 (eQ aPP (aA 4) (aA 0))])
noncomputable def Mq:Fn:=(bG 5 (gN 5) aBX)
theorem aJQ(H:bL C):RF C 1 145 Mq:=
 (bU (sl:=aMt) (H.fn 58 rfl) (fun env he hf=>
 (aC (eY (eP H 2 rfl) (L 1) (L 0)) (aC (eY (eP H 3 rfl) (L 2) (L 0)) (aC (eY (eP H 4 rfl) (L 3) (L 0)) (aC (eY (eP H 5 rfl) (L 4) (L 0)) aE))))))
noncomputable def aMG:aL:=[("self",.local),("found",.local),("at",.local),("far",.local),("a_from",.local),("b_from",.local),("len",.globalImplicit),("Change",.globalImplicit)]
noncomputable def aCh:M Fl:=(bl [(aZ 1 (aY (ar []) kE)),
 (nF [2,3] (ar [(kI 0),(kI 0)])),
 (kW 64 (gW (t2 (aA 2) (ge iL (ge AQ (aA 0))) lY) (gW (t2 (aA 3) (ge iL (ge AR (aA 0))) lY) (rt false))) (bl [(oN [5,4] (ar [(aA 2),(aA 3)])),
 (kW 64 (cE (t2 (aA 2) (ge iL (ge AQ (aA 0))) lY) (cE (tv (b2 (ge Ii (aA 0)) (aA 2) aV)) (rt true))) (bl [(au 2 jJ (kI 1))])),
 (kW 64 (cE (t2 (aA 3) (ge iL (ge AR (aA 0))) lY) (cE (tv (b2 (ge Ig (aA 0)) (aA 3) aV)) (rt true))) (bl [(au 3 jJ (kI 1))])),
 (bH (gW (t2 (aA 2) (aA 4) sP) (gW (t2 (aA 3) (aA 5) sP) (rt false))) (bl [(ex (bK cR dD (aA 1) (ge cC (nw 1 Mq (ar [(aA 4),(aA 2),(aA 5),(aA 3)])))))]) (bl [(au 2 jJ (kI 1)),
 (au 3 jJ (kI 1))]))])),
 (re (ge cC (aA 1)))])
noncomputable def YB:Fn:=(oX (bG 8 (gN 1) aCh))
theorem aKa(H:bL C):RF C 3 248 YB:=
 (tQ (bU (sl:=aMG) (H.fn 59 rfl) (fun env he hf=>
 (aC (bZ 1 Sl (mL aH)) (aC (wA 129 [2,3] (aD (Ki 0) (aD (Ki 0) aH)) he) (aC (uS 64 (jF (oH (aU nO (L 2) (iJ 6 (H.gb 6 rfl) mE (aM (aQ H 8 rfl) (L 0)))) (oH (aU nO (L 3) (iJ 6 (H.gb 6 rfl) mE (aM (aQ H 9 rfl) (L 0)))) yK))) (aC (yD 131 [5,4] (aD (L 2) (aD (L 3) aH)) he) (aC (uS 64 (jF (eE (aU nO (L 2) (iJ 6 (H.gb 6 rfl) mE (aM (aQ H 8 rfl) (L 0)))) (eE (jZ jC (cJ cN (aM (aQ H 10 rfl) (L 0)) (L 2))) oG))) (aC (mY 2 nN (Ki 1)) aE)) (aC (uS 64 (jF (eE (aU nO (L 3) (iJ 6 (H.gb 6 rfl) mE (aM (aQ H 9 rfl) (L 0)))) (eE (jZ jC (cJ cN (aM (aQ H 11 rfl) (L 0)) (L 3))) oG))) (aC (mY 3 nN (Ki 1)) aE)) (aC (cD (jF (oH (aU zR (L 2) (L 4)) (oH (aU zR (L 3) (L 5)) yK))) (aC (fY (dT jA gP jB (L 1) (fF fA (mM 7 (H.gk 1 rfl) (H.nw 1 rfl) (aJQ H) (aD (L 4) (aD (L 2) (aD (L 5) (aD (L 3) aH)))))))) aE) (aC (mY 2 nN (Ki 1)) (aC (mY 3 nN (Ki 1)) aE))) aE))))) (aC (bP (fF fA (L 1))) aE)))))))
noncomputable def aNU:aL:=[("reach",.local),("lane",.local),("max",.globalImplicit)]
noncomputable def aCZ:M Fl:=(bl [(bH (t2 (b2 (aA 1) (kI 1) (bX eM)) (aA 0) fB) (bl [(re (b2 (aA 0) (b2 (aA 1) (kI 1) bM) aV))]) (bl [])),
 (bH (t2 (b2 (aA 1) (kI 1) bM) (aA 0) fB) (bl [(re (b2 (b2 (aA 0) (b2 (aA 1) (kI 1) (bX eM)) aV) (kI 1) bM))]) (bl [])),
 (re (b2 (b2 (b2 (aA 0) (b2 (aA 1) (kI 1) (bX eM)) aV) (kI 1) bM) (b2 (aA 0) (b2 (aA 1) (kI 1) bM) aV) Si))])
noncomputable def YO:Fn:=(oX (bG 3 (gN 2) aCZ))
theorem Vh(H:bL C):RF C 1 311 YO:=
 (tQ (bU (sl:=aNU) (H.fn 60 rfl) (fun env he hf=>
 (aC (cD (aU oZ (aW gY (L 1) (Ki 1)) (L 0)) (aC (bP (cJ cN (L 0) (aW cO (L 1) (Ki 1)))) aE) aE) (aC (cD (aU oZ (aW cO (L 1) (Ki 1)) (L 0)) (aC (bP (aW cO (cJ cN (L 0) (aW gY (L 1) (Ki 1))) (Ki 1))) aE) aE) (aC (bP (WQ 2 (H.gb 8 rfl) aLx (aW cO (cJ cN (L 0) (aW gY (L 1) (Ki 1))) (Ki 1)) (cJ cN (L 0) (aW cO (L 1) (Ki 1))))) aE))))))
noncomputable def aMH:aL:=[("self",.local),("part",.local),("a_low",.local),("a_high",.local),("b_low",.local),("b_high",.local),("wide",.local),("tall",.local),("slant",.local),("ahead",.local),("behind",.local),("many",.local),("lane",.local),("at",.local),("range",.globalImplicit),("line_further",.globalImplicit),("BadState",.globalImplicit)]
noncomputable def aCi:M Fl:=(bl [(uY [2,3,4,5] (aA 1)),
 (oN [7,6] (ar [(b2 (aA 3) (aA 2) (bX eM)),(b2 (aA 5) (aA 4) (bX eM))])),
 (aZ 8 (b2 (aA 6) (aA 7) (bX eM))),
 (oN [10,9] (ar [(aY (ar [(kI 0)]) (QA .int [.int 0])),(aY (ar [(kI 0)]) (QA .int [.int 0]))])),
 (fo (b2 (kI 1) (b2 (b2 (b2 (b2 (aA 6) (aA 7) bM) (kI 1) bM) (kI 2) (bX BJ)) (kI 1) bM) QP) (nT 11) (bl [(fo (b3 (ge Bu (aA 11)) (b2 (aA 11) (kI 1) bM) (kI 2) Dz) (nT 12) (bl [(aZ 13 (cf YO (ar [(aA 9),(aA 12)]))),
 (kW 64 (cE (t2 (aA 13) (aA 6) lY) (cE (t2 (b2 (aA 13) (aA 12) (bX eM)) (aA 7) lY) (cE (t2 (b2 (ge AQ (aA 0)) (b2 (aA 2) (aA 13) bM) aV) (b2 (ge AR (aA 0)) (b2 (b2 (aA 4) (aA 13) bM) (aA 12) (bX eM)) aV) cK) (rt true)))) (bl [(au 13 jJ (kI 1))])),
 (gB fQ (aA 13) (aA 9) (aA 12)),
 (bH (cE (t2 (b2 (aA 8) (kI 2) (bX mA)) (kI 1) cK) (cE (t2 (b2 (aA 8) (aA 12) (bX eM)) (aA 10) vH) (cE (t2 (b2 (aA 13) (b2 (aA 10) (b2 (aA 8) (aA 12) (bX eM)) aV) bM) (aA 6) rK) (rt true)))) (bl [(re (aY (ar [(b2 (aA 2) (aA 13) bM),(b2 (b2 (aA 4) (aA 13) bM) (aA 12) (bX eM))]) cM))]) (bl []))])),
 (fo (b3 (ge Bu (aA 11)) (b2 (aA 11) (kI 1) bM) (kI 2) Dz) (nT 12) (bl [(aZ 13 (cf YO (ar [(aA 10),(aA 12)]))),
 (kW 64 (cE (t2 (aA 13) (aA 6) lY) (cE (t2 (b2 (aA 13) (aA 12) (bX eM)) (aA 7) lY) (cE (t2 (b2 (ge AQ (aA 0)) (b2 (b2 (aA 3) (kI 1) (bX eM)) (aA 13) (bX eM)) aV) (b2 (ge AR (aA 0)) (b2 (b2 (b2 (aA 5) (kI 1) (bX eM)) (aA 13) (bX eM)) (aA 12) bM) aV) cK) (rt true)))) (bl [(au 13 jJ (kI 1))])),
 (gB fQ (aA 13) (aA 10) (aA 12)),
 (bH (cE (t2 (b2 (aA 8) (kI 2) (bX mA)) (kI 0) cK) (cE (t2 (b2 (aA 8) (aA 12) (bX eM)) (aA 9) vH) (cE (t2 (b2 (aA 13) (b2 (aA 9) (b2 (aA 8) (aA 12) (bX eM)) aV) bM) (aA 6) rK) (rt true)))) (bl [(re (aY (ar [(b2 (aA 3) (aA 13) (bX eM)),(b2 (b2 (aA 5) (aA 13) (bX eM)) (aA 12) bM)]) cM))]) (bl []))]))])),
 er])
noncomputable def Mt:Fn:=(oX (bG 17 (gN 2) aCi))
theorem aKb(H:bL C):RF C 2 255 Mt:=
 (tQ (bU (sl:=aMH) (H.fn 61 rfl) (fun env he hf=>
 (aC (yF 144 [2,3,4,5] (L 1)) (aC (yD 145 [7,6] (aD (aW gY (L 3) (L 2)) (aD (aW gY (L 5) (L 4)) aH)) he) (aC (bZ 8 Sl (aW gY (L 6) (L 7))) (aC (yD 147 [10,9] (aD (UC .int (yI (Ki 0) (Ki 0) HF)) (aD (UC .int (yI (Ki 0) (Ki 0) HF)) aH)) he) (aC (hU cZ (WR 14 (H.gb 11 rfl) Ef (Ki 1) (aW cO (aW FO (aW cO (aW cO (L 6) (L 7)) (Ki 1)) (Ki 2)) (Ki 1))) (cY 11) (aC (hU cZ (Jw 14 (H.gb 11 rfl) Vw (Hw (L 11)) (aW cO (L 11) (Ki 1)) (Ki 2)) (cY 12) (aC (bZ 13 Sl (cG 15 (H.gf 19 rfl) (H.fn 60 rfl).is (Vh H) (aD (L 9) (aD (L 12) aH)))) (aC (uS 64 (jF (eE (aU nO (L 13) (L 6)) (eE (aU nO (aW gY (L 13) (L 12)) (L 7)) (eE (aU eX (cJ cN (aM (aQ H 8 rfl) (L 0)) (aW cO (L 2) (L 13))) (cJ cN (aM (aQ H 9 rfl) (L 0)) (aW gY (aW cO (L 4) (L 13)) (L 12)))) oG)))) (aC (mY 13 nN (Ki 1)) aE)) (aC (lL mF (L 13) (L 9) (L 12)) (aC (cD (jF (eE (aU eX (aW sY (L 8) (Ki 2)) (Ki 1)) (eE (aU zS (aW gY (L 8) (L 12)) (L 10)) (eE (aU FP (aW cO (L 13) (cJ cN (L 10) (aW gY (L 8) (L 12)))) (L 6)) oG)))) (aC (bP (eO (aD (aW cO (L 2) (L 13)) (aD (aW gY (aW cO (L 4) (L 13)) (L 12)) aH)))) aE) aE) aE))))) (aC (hU cZ (Jw 14 (H.gb 11 rfl) Vw (Hw (L 11)) (aW cO (L 11) (Ki 1)) (Ki 2)) (cY 12) (aC (bZ 13 Sl (cG 15 (H.gf 19 rfl) (H.fn 60 rfl).is (Vh H) (aD (L 10) (aD (L 12) aH)))) (aC (uS 64 (jF (eE (aU nO (L 13) (L 6)) (eE (aU nO (aW gY (L 13) (L 12)) (L 7)) (eE (aU eX (cJ cN (aM (aQ H 8 rfl) (L 0)) (aW gY (aW gY (L 3) (Ki 1)) (L 13))) (cJ cN (aM (aQ H 9 rfl) (L 0)) (aW cO (aW gY (aW gY (L 5) (Ki 1)) (L 13)) (L 12)))) oG)))) (aC (mY 13 nN (Ki 1)) aE)) (aC (lL mF (L 13) (L 10) (L 12)) (aC (cD (jF (eE (aU eX (aW sY (L 8) (Ki 2)) (Ki 0)) (eE (aU zS (aW gY (L 8) (L 12)) (L 9)) (eE (aU FP (aW cO (L 13) (cJ cN (L 9) (aW gY (L 8) (L 12)))) (L 6)) oG)))) (aC (bP (eO (aD (aW gY (L 3) (L 13)) (aD (aW cO (aW gY (L 5) (L 13)) (L 12)) aH)))) aE) aE) aE))))) aE))) (aC pK aE)))))))))
end
section
variable{C:Cx}
noncomputable def aMI:aL:=[("self",.local),("part",.local),("a_low",.local),("a_high",.local),("b_low",.local),("b_high",.local),("place",.local),("range",.globalImplicit)]
noncomputable def aCj:M Fl:=(bl [(uY [2,3,4,5] (aA 1)),
 (fo (b2 (aA 2) (aA 3) QP) (nT 6) (bl [(gB fQ (kB true) (ge Ii (aA 0)) (aA 6))])),
 (fo (b2 (aA 4) (aA 5) QP) (nT 6) (bl [(gB fQ (kB true) (ge Ig (aA 0)) (aA 6))]))])
noncomputable def Mu:Fn:=(oX (bG 8 (gN 2) aCj))
theorem aKc(H:bL C):RF C 1 241 Mu:=
 (tQ (bU (sl:=aMI) (H.fn 62 rfl) (fun env he hf=>
 (aC (yF 121 [2,3,4,5] (L 1)) (aC (hU cZ (WR 7 (H.gb 11 rfl) Ef (L 2) (L 3)) (cY 6) (aC (lL mF (Kb true) (aM (aQ H 10 rfl) (L 0)) (L 6)) aE)) (aC (hU cZ (WR 7 (H.gb 11 rfl) Ef (L 4) (L 5)) (cY 6) (aC (lL mF (Kb true) (aM (aQ H 11 rfl) (L 0)) (L 6)) aE)) aE))))))
noncomputable def aMK:aL:=[("self",.local),("part",.local),("a_low",.local),("a_high",.local),("b_low",.local),("b_high",.local)]
noncomputable def aCl:M Fl:=(bl [(uY [2,3,4,5] (aA 1)),
 (kW 64 (cE (t2 (aA 2) (aA 3) lY) (cE (t2 (aA 4) (aA 5) lY) (cE (t2 (b2 (ge AQ (aA 0)) (aA 2) aV) (b2 (ge AR (aA 0)) (aA 4) aV) cK) (rt true)))) (bl [(au 2 jJ (kI 1)),
 (au 4 jJ (kI 1))])),
 (kW 64 (cE (t2 (aA 2) (aA 3) lY) (cE (t2 (aA 4) (aA 5) lY) (cE (t2 (b2 (ge AQ (aA 0)) (b2 (aA 3) (kI 1) (bX eM)) aV) (b2 (ge AR (aA 0)) (b2 (aA 5) (kI 1) (bX eM)) aV) cK) (rt true)))) (bl [(au 3 (bX eM) (kI 1)),
 (au 5 (bX eM) (kI 1))])),
 (re (aY (ar [(aA 2),(aA 3),(aA 4),(aA 5)]) cM))])
noncomputable def Mv:Fn:=(oX (bG 6 (gN 2) aCl))
theorem aKe(H:bL C):RF C 1 234 Mv:=
 (tQ (bU (sl:=aMK) (H.fn 63 rfl) (fun env he hf=>
 (aC (yF 111 [2,3,4,5] (L 1)) (aC (uS 64 (jF (eE (aU nO (L 2) (L 3)) (eE (aU nO (L 4) (L 5)) (eE (aU eX (cJ cN (aM (aQ H 8 rfl) (L 0)) (L 2)) (cJ cN (aM (aQ H 9 rfl) (L 0)) (L 4))) oG)))) (aC (mY 2 nN (Ki 1)) (aC (mY 4 nN (Ki 1)) aE))) (aC (uS 64 (jF (eE (aU nO (L 2) (L 3)) (eE (aU nO (L 4) (L 5)) (eE (aU eX (cJ cN (aM (aQ H 8 rfl) (L 0)) (aW gY (L 3) (Ki 1))) (cJ cN (aM (aQ H 9 rfl) (L 0)) (aW gY (L 5) (Ki 1)))) oG)))) (aC (mY 3 Vt (Ki 1)) (aC (mY 5 Vt (Ki 1)) aE))) (aC (bP (eO (aD (L 2) (aD (L 3) (aD (L 4) (aD (L 5) aH)))))) aE)))))))
noncomputable def aMJ:aL:=[("self",.local),("part",.local),("waiting",.local),("a_low",.local),("a_high",.local),("b_low",.local),("b_high",.local),("at",.local),("far",.local)]
noncomputable def aCk:M Fl:=(bl [(aZ 2 (aY (ar [(aA 1)]) kE)),
 (kW 64 (t2 (aA 2) (aY (ar []) kP) oW) (bl [(uY [3,4,5,6] (mc 3 Mv (aA 0) (ar [(mR cR Ar (aA 2))]))),
 (bH (gW (t2 (aA 3) (aA 4) cK) (gW (t2 (aA 5) (aA 6) cK) (rt false))) (bl [(ex (mc 3 Mu (aA 0) (ar [(aY (ar [(aA 3),(aA 4),(aA 5),(aA 6)]) cM)])))]) (bl [(uY [7,8] (mc 3 Mt (aA 0) (ar [(aY (ar [(aA 3),(aA 4),(aA 5),(aA 6)]) cM)]))),
 (ex (bK cR dD (aA 2) (aY (ar [(aA 3),(aA 7),(aA 5),(aA 8)]) cM))),
 (ex (bK cR dD (aA 2) (aY (ar [(aA 7),(aA 4),(aA 8),(aA 6)]) cM)))]))]))])
noncomputable def YC:Fn:=(oX (bG 9 (gN 2) aCk))
theorem aKd(H:bL C):RF C 3 262 YC:=
 (tQ (bU (sl:=aMJ) (H.fn 64 rfl) (fun env he hf=>
 (aC (bZ 2 Sl (mL (aD (L 1) aH))) (aC (uS 64 (aU vM (L 2) (nA aH)) (aC (yF 168 [3,4,5,6] (gT (H.mt 10 rfl) (aKe H) (L 0) (aD (wB Bl gP Vv (L 2)) aH))) (aC (cD (jF (oH (aU eX (L 3) (L 4)) (oH (aU eX (L 5) (L 6)) yK))) (aC (fY (gT (H.mt 8 rfl) (aKc H) (L 0) (aD (eO (aD (L 3) (aD (L 4) (aD (L 5) (aD (L 6) aH))))) aH))) aE) (aC (yF 172 [7,8] (gT (H.mt 7 rfl) (aKb H) (L 0) (aD (eO (aD (L 3) (aD (L 4) (aD (L 5) (aD (L 6) aH))))) aH))) (aC (fY (dT jA gP jB (L 2) (eO (aD (L 3) (aD (L 7) (aD (L 5) (aD (L 8) aH))))))) (aC (fY (dT jA gP jB (L 2) (eO (aD (L 7) (aD (L 4) (aD (L 8) (aD (L 6) aH))))))) aE)))) aE))) aE)))))
noncomputable def aML:aL:=[("self",.local),("len",.globalImplicit)]
noncomputable def aCm:M Fl:=(bl [(re (aY (ar [(kI 0),(ge iL (ge AQ (aA 0))),(kI 0),(ge iL (ge AR (aA 0)))]) cM))])
noncomputable def YD:Fn:=(oX (bG 2 (gN 1) aCm))
theorem aKf(H:bL C):RF C 1 227 YD:=
 (tQ (bU (sl:=aML) (H.fn 65 rfl) (fun env he hf=>
 (aC (bP (eO (aD (Ki 0) (aD (iJ 1 (H.gb 6 rfl) mE (aM (aQ H 8 rfl) (L 0))) (aD (Ki 0) (aD (iJ 1 (H.gb 6 rfl) mE (aM (aQ H 9 rfl) (L 0))) aH)))))) aE))))
noncomputable def aNW:aL:=[("a",.local),("b",.local),("sheet",.local),("LineSheet",.globalImplicit)]
noncomputable def aDb:M Fl:=(bl [(aZ 2 (nw 3 NW (ar [(aA 0),(aA 1)]))),
 (ex (mc 3 YC (aA 2) (ar [(mc 3 YD (aA 2) (ar []))]))),
 (re (mc 3 YB (aA 2) (ar [])))])
noncomputable def YQ:Fn:=(cI 0 (bG 4 (gN 2) aDb))
theorem aKG(H:bL C):RF C 5 325 YQ:=
 (cS 0 (bU (sl:=aNW) (H.fn 66 rfl) (fun env he hf=>
 (aC (bZ 2 Sl (mM 3 (H.gk 3 rfl) (H.nw 3 rfl) (aJZ H) (aD (L 0) (aD (L 1) aH)))) (aC (fY (gT (H.mt 9 rfl) (aKd H) (L 2) (aD (gT (H.mt 11 rfl) (aKf H) (L 2) aH) aH))) (aC (bP (gT (H.mt 6 rfl) (aKa H) (L 2) aH)) aE))))))
noncomputable def aNk:aL:=[("how",.local),("a",.local),("b",.local),("myers",.globalImplicit),("patience",.globalImplicit),("histogram",.globalImplicit),("BadState",.globalImplicit)]
noncomputable def aCH:M Fl:=(bl [(bH (t2 (aA 0) (kS [109,121,101,114,115]) cK) (bl [(re (cf YQ (ar [(aA 1),(aA 2)])))]) (bl [])),
 er,
 er,
 er])
noncomputable def tY:Fn:=(cI 0 (bG 7 (gN 3) aCH))
theorem aKw(H:bL C):RF C 6 347 tY:=
 (cS 0 (bU (sl:=aNk) (H.fn 67 rfl) (fun env he hf=>
 (aC (cD (aU eX (L 0) (Ks "myers" [109,121,101,114,115])) (aC (bP (cG 3 (H.gf 21 rfl) (H.fn 66 rfl).is (aKG H) (aD (L 1) (aD (L 2) aH)))) aE) aE) (aC pK (aC pK (aC pK aE)))))))
noncomputable def aNV:aL:=[("octets",.local),("found",.local),("begun",.local),("ended",.local),("len",.globalImplicit)]
noncomputable def aDa:M Fl:=(bl [(aZ 1 (aY (ar []) kE)),
 (aZ 2 (kI 0)),
 (kW 64 (t2 (aA 2) (ge iL (aA 0)) lY) (bl [(aZ 3 (BX wY Nk (aA 0) (kY [10]) (aA 2))),
 (aZ 3 (iY (t2 (aA 3) (kI 0) lY) (ge iL (aA 0)) (b2 (aA 3) (kI 1) bM))),
 (ex (bK cR dD (aA 1) (pS (aA 0) (pa (aA 2)) (pa (aA 3))))),
 (aZ 2 (aA 3))])),
 (re (ge cC (aA 1)))])
noncomputable def vE:Fn:=(cI 0 (bG 5 (gN 1) aDa))
theorem Vi(H:bL C):RF C 1 102 vE:=
 (cS 0 (bU (sl:=aNV) (H.fn 68 rfl) (fun env he hf=>
 (aC (bZ 1 Sl (mL aH)) (aC (bZ 2 Sl (Ki 0)) (aC (uS 64 (aU nO (L 2) (iJ 4 (H.gb 6 rfl) mE (L 0))) (aC (bZ 3 Sl (HB Sn FK aLh (L 0) (Ky [10] [10]) (L 2))) (aC (bZ 3 Sl (lB (aU nO (L 3) (Ki 0)) (iJ 4 (H.gb 6 rfl) mE (L 0)) (aW cO (L 3) (Ki 1)))) (aC (fY (dT jA gP jB (L 1) (yG (L 0) (tR (L 2)) (tR (L 3))))) (aC (bZ 2 Sl (L 3)) aE))))) (aC (bP (fF fA (L 1))) aE)))))))
noncomputable def aOh:aL:=[("store",.local),("mode",.local),("oid",.local),("treediff_kind",.globalImplicit),("MODULE",.globalImplicit),("octets_of",.globalImplicit),("hex_of",.globalImplicit)]
noncomputable def aDk:M Fl:=(bl [(bH (t2 (aA 2) kN oS) (bl [(re (kY []))]) (bl [])),
 (bH (t2 (cf rH (ar [(aA 1)])) Am cK) (bl [er]) (bl [])),
 (re (mc 11 NX (aA 0) (ar [(aA 2)])))])
noncomputable def wW:Fn:=(cI 8 (bG 7 (gN 3) aDk))
theorem Vk(H:bL C):RF C 4 650 wW:=
 (cS 8 (bU (sl:=aOh) (H.fn 69 rfl) (fun env he hf=>
 (aC (cD (aU rU (L 2) Kn) (aC (bP (Ky [] [])) aE) aE) (aC (cD (aU eX (cG 3 (H.gf 37 rfl) (H.fn 0 rfl).is (CE H) (aD (L 1) aH)) (Gc 4 (H.gc 8 rfl))) (aC pK aE) aE) (aC (bP (gT (H.mt 12 rfl) (Uv H) (L 0) (aD (L 2) aH))) aE))))))
noncomputable def aOo:aL:=[("store",.local),("changes",.local),("how",.local),("found",.local),("change",.local),("old",.local),("new",.local),("put_in",.local),("taken_out",.local),("part",.local),("treediff_content",.globalImplicit),("treediff_is_binary",.globalImplicit),("TreediffNumbers",.globalImplicit),("by",.globalImplicit),("lines_of",.globalImplicit)]
noncomputable def aDr:M Fl:=(bl [(aZ 3 (aY (ar []) kE)),
 (fo (aA 1) (nT 4) (bl [(aZ 5 (cf wW (ar [(aA 0),(ge qV (aA 4)),(ge oM (aA 4))]))),
 (aZ 6 (cf wW (ar [(aA 0),(ge oL (aA 4)),(ge lO (aA 4))]))),
 (bH (gW (tv (cf vF (ar [(aA 5)]))) (gW (tv (cf vF (ar [(aA 6)]))) (rt false))) (bl [(ex (bK cR dD (aA 3) (ge cC (nw 8 zD (ar [(ge a_path (aA 4)),kN,kN]))))),
 (rt .cont)]) (bl [])),
 (nF [7,8] (ar [(kI 0),(kI 0)])),
 (fo (cf tY (ar [(aA 2),(cf vE (ar [(aA 5)])),(cf vE (ar [(aA 6)]))])) (nT 9) (bl [(au 7 jJ (b2 (ge VW (aA 9)) (ge VV (aA 9)) (bX eM))),
 (au 8 jJ (b2 (ge VU (aA 9)) (ge VT (aA 9)) (bX eM)))])),
 (ex (bK cR dD (aA 3) (ge cC (nw 8 zD (ar [(ge a_path (aA 4)),(aA 7),(aA 8)])))))])),
 (re (ge cC (aA 3)))])
noncomputable def YU:Fn:=(cI 8 (bG 15 (gD 2 [.str [109,121,101,114,115]]) aDr))
theorem aKV(H:bL C):RF C 7 658 YU:=
 (cS 8 (bU (sl:=aOo) H.p_treediff_numbers (fun env he hf=>
 (aC (bZ 3 Sl (mL aH)) (aC (hU cZ (L 1) (cY 4) (aC (bZ 5 Sl (cG 10 (H.gf 31 rfl) (H.fn 69 rfl).is (Vk H) (aD (L 0) (aD (aM (aQ H 13 rfl) (L 4)) (aD (aM (aQ H 14 rfl) (L 4)) aH))))) (aC (bZ 6 Sl (cG 10 (H.gf 31 rfl) (H.fn 69 rfl).is (Vk H) (aD (L 0) (aD (aM (aQ H 16 rfl) (L 4)) (aD (aM (aQ H 17 rfl) (L 4)) aH))))) (aC (cD (jF (oH (jZ jC (cG 11 (H.gf 35 rfl) H.p_treediff_is_binary.is (Dx H) (aD (L 5) aH))) (oH (jZ jC (cG 11 (H.gf 35 rfl) H.p_treediff_is_binary.is (Dx H) (aD (L 6) aH))) yK))) (aC (fY (dT jA gP jB (L 3) (fF fA (mM 12 (H.gk 8 rfl) (H.nw 8 rfl) (Va H) (aD (aM (zQ H (bT rfl)) (L 4)) (aD Kn (aD Kn aH))))))) (aC DE aE)) aE) (aC (wA 530 [7,8] (aD (Ki 0) (aD (Ki 0) aH)) he) (aC (hU cZ (cG 13 (H.gf 2 rfl) (H.fn 67 rfl).is (aKw H) (aD (L 2) (aD (cG 14 (H.gf 20 rfl) (H.fn 68 rfl).is (Vi H) (aD (L 5) aH)) (aD (cG 14 (H.gf 20 rfl) (H.fn 68 rfl).is (Vi H) (aD (L 6) aH)) aH)))) (cY 9) (aC (mY 7 nN (aW gY (aM (aQ H 5 rfl) (L 9)) (aM (aQ H 4 rfl) (L 9)))) (aC (mY 8 nN (aW gY (aM (aQ H 3 rfl) (L 9)) (aM (aQ H 2 rfl) (L 9)))) aE))) (aC (fY (dT jA gP jB (L 3) (fF fA (mM 12 (H.gk 8 rfl) (H.nw 8 rfl) (Va H) (aD (aM (zQ H (bT rfl)) (L 4)) (aD (L 7) (aD (L 8) aH))))))) aE))))))) (aC (bP (fF fA (L 3))) aE))))))
noncomputable def aOr:aL:=[(".0",.local),("half",.local),("ADDED",.globalImplicit)]
noncomputable def aOq:aL:=[("changes",.local),("halves",.local),("change",.local),("found",.local),("both",.local),("new",.local),("ADDED",.globalImplicit),("GONE",.globalImplicit),("len",.globalImplicit),("PathChange",.globalImplicit),("OTHER",.globalImplicit),("sorted",.globalImplicit),("treediff_order",.globalImplicit)]
noncomputable def aDt:M Fl:=(bl [(aZ 1 (Sz .bytes)),
 (fo (aA 0) (nT 2) (bl [(bH (cE (t2 (ge wJ (aA 2)) (aY (ar [EX,BR]) cM) vH) (cE (t2 (ge WA (aA 2)) kN qD) (rt true))) (bl [(ex (bK cR dD (BX Ab Wg (aA 1) (ge a_path (aA 2)) (aY (ar []) kE)) (aA 2)))]) (bl []))])),
 (aZ 3 (aY (ar []) kE)),
 (fo (aA 0) (nT 2) (bl [(aZ 4 (iY (cE (t2 (ge wJ (aA 2)) (aY (ar [EX,BR]) cM) vH) (cE (t2 (ge WA (aA 2)) kN qD) (rt true))) (BX IX zF (ge (Od 8) (aA 1)) (ge a_path (aA 2)) (aY (ar []) kP)) (aY (ar []) kP))),
 (bH (t2 (ge iL (aA 4)) (kI 2) lY) (bl [(ex (bK cR dD (aA 3) (aA 2)))]) (bl [(bH (t2 (ge wJ (aA 2)) BR cK) (bl [(aZ 5 (b2 (eG dK (aA 4) [none,none,none] (nT 1) (t2 (ge wJ (aA 1)) EX cK) (aA 1)) (kI 0) aV)),
 (ex (bK cR dD (aA 3) (ge cC (nw 4 BE (ar [EZ,(ge qV (aA 2)),(ge oM (aA 2)),(ge MR (aA 2)),(ge oL (aA 5)),(ge lO (aA 5)),(ge HJ (aA 5)),(ge WA (aA 2))])))))]) (bl []))]))])),
 (re (ge cC (ge (CL BI) (aA 3))))])
noncomputable def EI:Fn:=(cI 0 (bG 13 (gN 1) aDt))
theorem aKW(H:bL C):RF C 5 589 EI:=
 (cS 0 (bU (sl:=aOq) (H.fn 70 rfl) (fun env he hf=>
 (aC (bZ 1 Sl (aAB .bytes)) (aC (hU cZ (L 0) (cY 2) (aC (cD (jF (eE (aU zS (aM (aQ H 12 rfl) (L 2)) (eO (aD (Gc 6 (H.gc 0 rfl)) (aD (Gc 7 (H.gc 6 rfl)) aH)))) (eE (aU xK (aM (aQ H 19 rfl) (L 2)) Kn) oG))) (aC (fY (dT jA gP jB (HB aIn Uq aLH (L 1) (aM (zQ H (bT rfl)) (L 2)) (mL aH)) (L 2))) aE) aE) aE)) (aC (bZ 3 Sl (mL aH)) (aC (hU cZ (L 0) (cY 2) (aC (bZ 4 Sl (lB (jF (eE (aU zS (aM (aQ H 12 rfl) (L 2)) (eO (aD (Gc 6 (H.gc 0 rfl)) (aD (Gc 7 (H.gc 6 rfl)) aH)))) (eE (aU xK (aM (aQ H 19 rfl) (L 2)) Kn) oG))) (HB rQ Dq Eb (fF (aGc (m:=8)) (L 1)) (aM (zQ H (bT rfl)) (L 2)) (nA aH)) (nA aH))) (aC (cD (aU nO (iJ 8 (H.gb 6 rfl) mE (L 4)) (Ki 2)) (aC (fY (dT jA gP jB (L 3) (L 2))) aE) (aC (cD (aU eX (aM (aQ H 12 rfl) (L 2)) (Gc 7 (H.gc 6 rfl))) (aC (bZ 5 Sl (cJ cN (mZ cZ aOr [none,none,none] (L 4) (fun _=>cP (cY 1) (DF (aU eX (aM (aQ H 12 rfl) (L 1)) (Gc 2 (H.gc 0 rfl)))) (L 1))) (Ki 0))) (aC (fY (dT jA gP jB (L 3) (fF fA (mM 9 (H.gk 4 rfl) (H.nw 4 rfl) (FL H) (aD (Gc 10 (H.gc 9 rfl)) (aD (aM (aQ H 13 rfl) (L 2)) (aD (aM (aQ H 14 rfl) (L 2)) (aD (aM (aQ H 15 rfl) (L 2)) (aD (aM (aQ H 16 rfl) (L 5)) (aD (aM (aQ H 17 rfl) (L 5)) (aD (aM (aQ H 18 rfl) (L 5)) (aD (aM (aQ H 19 rfl) (L 2)) aH)))))))))))) aE)) aE) aE)) aE))) (aC (bP (fF fA (UD 11 12 (H.gb 12 rfl) (H.gf 39 rfl) (Dy H) (L 3)))) aE))))))))
end
section
variable{C:Cx}
noncomputable def aNs:aL:=[(".0",.local),("change",.local),("_law_row",.globalImplicit)]
noncomputable def aNt:aL:=[(".0",.local),("path",.local),("_law_numbers",.globalImplicit),("new",.free),("old",.free)]
noncomputable def aNu:aL:=[(".0",.local),("told",.local)]
noncomputable def aNv:aL:=[(".0",.local),("change",.local),("_law_row",.globalImplicit)]
noncomputable def aNw:aL:=[(".0",.local),("change",.local),("_law_row",.globalImplicit)]
noncomputable def aNx:aL:=[(".0",.local),("side",.local),("_law_word",.globalImplicit),("here",.free)]
noncomputable def aNy:aL:=[(".0",.local),("side",.local),("_law_version",.globalImplicit),("w",.free)]
noncomputable def aNz:aL:=[(".0",.local),("side",.local),("tuple",.globalImplicit)]
noncomputable def aNA:aL:=[(".0",.local),("row",.local)]
noncomputable def aNr:aL:=("script",.local)::("deck",.local)::("w",.cell)::("old",.cell)::("new",.cell)::("least",.local)::("store",.local)::("one",.local)::("other",.local)::("changes",.local)::("rows",.local)::("paths",.local)::("path",.local)::("due",.local)::("told",.local)::("parted",.local)::("some",.local)::("mate",.local)::("sides",.local)::("here",.cell)::("words",.local)::("_law_deck",.globalImplicit)::("MemoryStore",.globalImplicit)::("CountingHasher",.globalImplicit)::("_law_file",.globalImplicit)::("_law_next",.globalImplicit)::("_law_draw",.globalImplicit)::("_law_tree",.globalImplicit)::("diff_trees",.globalImplicit)::("sorted",.globalImplicit)::("dict",.globalImplicit)::("list",.globalImplicit)::("treediff_numbers",.globalImplicit)::("broken",.globalImplicit)::("_law_broken",.globalImplicit)::("treediff_rejoined",.globalImplicit)::("combined",.globalImplicit)::("_law_version",.globalImplicit)::[]
noncomputable def aCL:M Fl:=(bl [(nF [1,2] (ar [(cf YM (ar [(aA 0)])),(aY (ar [(nw 11 Mw (ar [(nw 0 Mr (ar [(kI 4)]))])),(kI 0)]) (Bo .str [.str [115,116,111,114,101],.str [99,111,117,110,116]]))])),
 (aZ 3 (ge cC (aY (ar [(cf EE (ar [(aA 1),(aA 2)])),(cf EE (ar [(aA 1),(aA 2)]))]) (QA .bytes [.bytes [97],.bytes [98]])))),
 (aZ 4 (cf OG (ar [(aA 1),(aA 2),(aA 3)]))),
 (aZ 5 (b2 (aY (ar [(kI 10),(kI 60),(kI 100)]) kP) (cf wV (ar [(aA 1),(kI 3)])) aV)),
 (oN [8,7,6] (ar [(b2 (aA 2) (kS [115,116,111,114,101]) aV),(cf IG (ar [(aA 2),(aA 3)])),(cf IG (ar [(aA 2),(aA 4)]))])),
 (aZ 9 (cf ED (ar [(aA 6),(aA 7),(aA 8)]))),
 (aZ 10 (eG dK (aA 9) [none,none,none] (nT 1) (rt true) (cf BH (ar [(aA 1)])))),
 (aZ 11 (ge cC (ge nP (ge (yY .bytes) (b2 (ge qG (mR cV qF (aA 3))) (ge qG (mR cV qF (aA 4))) bM))))),
 (aZ 13 (eG dK (aA 11) [none,none,none,some 4,some 3] (nT 1) (t2 (bK cV dX (aA 4) (aA 1)) (bK cV dX (aA 3) (aA 1)) oW) (b2 (aY (ar [(aA 1)]) cM) (cf IF (ar [(bK cV dX (aA 4) (aA 1)),(bK cV dX (aA 3) (aA 1))])) bM))),
 (bH (t2 (eG dK (cf YU (ar [(aA 6),(aA 9)])) [none,none] (nT 1) (rt true) (aY (ar [(ge a_path (aA 1)),(ge VZ (aA 1)),(ge WB (aA 1))]) cM)) (aA 13) oW) (bl [(re (kB false))]) (bl [])),
 (aZ 15 (cf OD (ar [(aA 6),(aA 9),(aA 5),(kI 40)]))),
 (bH (t2 (eG dK (aA 15) [none,none,none] (nT 1) (rt true) (cf BH (ar [(aA 1)]))) (cf YL (ar [(aA 10),(aA 3),(aA 4),(aA 5)])) oW) (bl [(re (kB false))]) (bl [])),
 (fo (aY (ar [(cf EI (ar [(aA 15)])),(aA 9),(cf OD (ar [(aA 6),(aA 9),(aA 5),(kI 41)]))]) cM) (nT 16) (bl [(bH (t2 (eG dK (aA 16) [none,none,none] (nT 1) (rt true) (cf BH (ar [(aA 1)]))) (aA 10) oW) (bl [(re (kB false))]) (bl []))])),
 (aZ 17 (cf OG (ar [(aA 1),(aA 2),(aA 3)]))),
 (oN [13,14] (ar [(cf YK (ar [(aA 6),(ge cC (aY (ar [(aA 7),(cf IG (ar [(aA 2),(aA 17)]))]) kE)),(aA 8)])),(aY (ar []) kE)])),
 (fo (ge cC (ge nP (ge (yY .bytes) (b2 (b2 (ge qG (mR cV qF (aA 3))) (ge qG (mR cV qF (aA 4))) bM) (ge qG (mR cV qF (aA 17))) bM)))) (nT 12) (bl [(nF [18,19] (ar [(aY (ar [(bK cV dX (aA 3) (aA 12)),(bK cV dX (aA 17) (aA 12))]) kP),(bK cV dX (aA 4) (aA 12))])),
 (bH (t2 (aA 19) (aA 18) fB) (bl [(aZ 20 (bK Ad Ai (kS []) (eG dK (aA 18) [none,none,none,some 19] (nT 1) (rt true) (cf YN (ar [(aA 1),(aA 3)]))))),
 (ex (bK cR dD (aA 13) (b2 (b2 (aY (ar [(aA 12),(eG dK (aA 18) [none,none,none,some 2] (nT 1) (rt true) (cf rG (ar [(aA 3),(aA 1)])))]) cM) (cf rG (ar [(aA 2),(aA 19)])) bM) (aY (ar [(aA 20)]) cM) bM)))]) (bl []))])),
 (re (c2 (eG dK (aA 14) [none,none] (nT 1) (rt true) (aY (ar [(ge a_path (aA 1)),(eG dK (ge VY (aA 1)) [none,none,none] (nT 1) (rt true) (ge Fj (aA 1))),(ge oL (aA 1)),(ge lO (aA 1)),(mc 7 XY (aA 1) (ar []))]) cM)) (aA 13) cK))])
noncomputable def Mz:Fn:=(bG 38 (gN 1) aCL)
theorem aKA(H:bL C):sL C 8 1012 Mz:=
 (DG (sl:=aNr) (H.fn 71 rfl) (fun env he hf=>
 (fS (jQ (wA 759 [1,2] (aD (cG 21 (H.gf 7 rfl) (H.fn 5 rfl).is (aKC H) (aD (L 0) aH)) (aD (Hv .str (yI (Ks "store" [115,116,111,114,101]) (mM 22 (H.gk 11 rfl) (H.nw 11 rfl) (aKg H) (aD (mM 23 (H.gk 0 rfl) (H.nw 0 rfl) (aJT H) (aD (Ki 4) aH)) aH)) (yI (Ks "count" [99,111,117,110,116]) (Ki 0) HF))) aH)) he (q:=LA hf rfl))) (fS (jQ (bZ 3 (Sc hf) (fF fA (UC .bytes (yI (Ky [97] [97]) (cG 24 (H.gf 9 rfl) (H.fn 8 rfl).is (Ds H) (aD (L 1) (aD (Lc 2) aH))) (yI (Ky [98] [98]) (cG 24 (H.gf 9 rfl) (H.fn 8 rfl).is (Ds H) (aD (L 1) (aD (Lc 2) aH))) HF)))))) (fS (jQ (bZ 4 (Sc hf) (cG 25 (H.gf 13 rfl) (H.fn 9 rfl).is (Vg H) (aD (L 1) (aD (Lc 2) (aD (Lc 3) aH)))))) (fS (jQ (bZ 5 Sl (cJ cN (nA (aD (Ki 10) (aD (Ki 60) (aD (Ki 100) aH)))) (cG 26 (H.gf 8 rfl) (H.fn 6 rfl).is (QO H) (aD (L 1) (aD (Ki 3) aH)))))) (fS (Hq 763 [8,7,6] (kJ (lA (cJ cN (Lc 2) (Ks "store" [115,116,111,114,101]))) (kJ (HA 27 (H.gf 16 rfl) (H.fn 33 rfl).is (Du H) (kJ (lA (Lc 2)) (kJ (lA (Lc 3)) sJ))) (kJ (HA 27 (H.gf 16 rfl) (H.fn 33 rfl).is (Du H) (kJ (lA (Lc 2)) (kJ (lA (Lc 4)) sJ))) sJ))) he) (fS (jQ (bZ 9 Sl (cG 28 (H.gf 5 rfl) H.p_diff_trees.is (Vc H) (aD (L 6) (aD (L 7) (aD (L 8) aH)))))) (fS (jQ (TY 10 Sl cZ aNs [none,none,none] (L 9) (fun _=>cP (cY 1) oF (cG 2 (H.gf 15 rfl) (H.fn 13 rfl).is (Dt H) (aD (L 1) aH))))) (fS (jQ (bZ 11 Sl (fF fA (iJ 29 (H.gb 12 rfl) KN (kL 30 (H.gb 3 rfl) (Vo .bytes) (aW cO (kL 31 (H.gb 7 rfl) KL (wB JL oY KJ (Lc 3))) (kL 31 (H.gb 7 rfl) KL (wB JL oY KJ (Lc 4))))))))) (fS (jQ (TY 13 Sl cZ aNt [none,none,none,some 4,some 3] (L 11) (fun _=>cP (cY 1) (DF (aU vM (dT rQ oY vL (Lc 4) (L 1)) (dT rQ oY vL (Lc 3) (L 1)))) (aW cO (eO (aD (L 1) aH)) (cG 2 (H.gf 14 rfl) (H.fn 12 rfl).is (aKD H) (aD (dT rQ oY vL (Lc 4) (L 1)) (aD (dT rQ oY vL (Lc 3) (L 1)) aH))))))) (fS (jQ (cD (aU vM (mZ cZ aNu [none,none] (cG 32 (H.gf 38 rfl) H.p_treediff_numbers.is (aKV H) (aD (L 6) (aD (L 9) aH))) (fun _=>cP (cY 1) oF (eO (aD (aM (zQ H (bT rfl)) (L 1)) (aD (aM (aQ H 25 rfl) (L 1)) (aD (aM (aQ H 26 rfl) (L 1)) aH)))))) (L 13)) (aC (bP (Kb false)) aE) aE)) (fS (jQ (bZ 15 Sl (cG 33 (H.gf 1 rfl) H.p_broken.is (Vb H) (aD (L 6) (aD (L 9) (aD (L 5) (aD (Ki 40) aH))))))) (fS (jQ (cD (aU vM (mZ cZ aNv [none,none,none] (L 15) (fun _=>cP (cY 1) oF (cG 2 (H.gf 15 rfl) (H.fn 13 rfl).is (Dt H) (aD (L 1) aH)))) (cG 34 (H.gf 6 rfl) (H.fn 4 rfl).is (aKB H) (aD (L 10) (aD (Lc 3) (aD (Lc 4) (aD (L 5) aH)))))) (aC (bP (Kb false)) aE) aE)) (fS (jQ (hU cZ (eO (aD (cG 35 (H.gf 40 rfl) (H.fn 70 rfl).is (aKW H) (aD (L 15) aH)) (aD (L 9) (aD (cG 33 (H.gf 1 rfl) H.p_broken.is (Vb H) (aD (L 6) (aD (L 9) (aD (L 5) (aD (Ki 41) aH))))) aH)))) (cY 16) (aC (cD (aU vM (mZ cZ aNw [none,none,none] (L 16) (fun _=>cP (cY 1) oF (cG 2 (H.gf 15 rfl) (H.fn 13 rfl).is (Dt H) (aD (L 1) aH)))) (L 10)) (aC (bP (Kb false)) aE) aE) aE))) (fS (jQ (bZ 17 Sl (cG 25 (H.gf 13 rfl) (H.fn 9 rfl).is (Vg H) (aD (L 1) (aD (Lc 2) (aD (Lc 3) aH)))))) (fS (Hq 777 [13,14] (kJ (HA 36 (H.gf 4 rfl) (H.fn 52 rfl).is (Hx (aKz H)) (kJ (lA (L 6)) (kJ (aAu fA (aAv (kJ (lA (L 7)) (kJ (HA 27 (H.gf 16 rfl) (H.fn 33 rfl).is (Du H) (kJ (lA (Lc 2)) (kJ (lA (L 17)) sJ))) sJ)))) (kJ (lA (L 8)) sJ)))) (kJ (lA (mL aH)) sJ)) he) (fS (jQ (hU cZ (fF fA (iJ 29 (H.gb 12 rfl) KN (kL 30 (H.gb 3 rfl) (Vo .bytes) (aW cO (aW cO (kL 31 (H.gb 7 rfl) KL (wB JL oY KJ (Lc 3))) (kL 31 (H.gb 7 rfl) KL (wB JL oY KJ (Lc 4)))) (kL 31 (H.gb 7 rfl) KL (wB JL oY KJ (L 17))))))) (cY 12) (aC (wA 779 [18,19] (aD (nA (aD (dT rQ oY vL (Lc 3) (L 12)) (aD (dT rQ oY vL (L 17) (L 12)) aH))) (aD (dT rQ oY vL (Lc 4) (L 12)) aH)) he (q:=LA hf rfl)) (aC (cD (aU oZ (Lc 19) (L 18)) (aC (bZ 20 Sl (dT aIk aJM aLp (Ks "" []) (mZ cZ aNx [none,none,none,some 19] (L 18) (fun _=>cP (cY 1) oF (cG 2 (H.gf 18 rfl) (H.fn 34 rfl).is (aKE H) (aD (L 1) (aD (Lc 3) aH))))))) (aC (fY (dT jA gP jB (L 13) (aW cO (aW cO (eO (aD (L 12) (aD (mZ cZ aNy [none,none,none,some 2] (L 18) (fun _=>cP (cY 1) oF (cG 2 (H.gf 17 rfl) (H.fn 32 rfl).is (Dv H) (aD (Lc 3) (aD (L 1) aH))))) aH))) (cG 37 (H.gf 17 rfl) (H.fn 32 rfl).is (Dv H) (aD (Lc 2) (aD (Lc 19) aH)))) (eO (aD (L 20) aH))))) aE)) aE) aE)))) (fS (jQ (bP (qS eX (mZ cZ aNA [none,none] (L 14) (fun _=>cP (cY 1) oF (eO (aD (aM (zQ H (bT rfl)) (L 1)) (aD (mZ cZ aNz [none,none,none] (aM (aQ H 24 rfl) (L 1)) (fun _=>cP (cY 1) oF (kL 2 (H.gb 14 rfl) aLM (L 1)))) (aD (aM (aQ H 16 rfl) (L 1)) (aD (aM (aQ H 17 rfl) (L 1)) (aD (gT (H.mt 0 rfl) (aJS H) (L 1) aH) aH)))))))) (L 13)))) (yJ aE))))))))))))))))))))
end
section
open Sem (wp)
noncomputable abbrev VS(q:hO)(loose:List Str)(XP:(Str→Option aB)→Heap→Prop)(YP:dW→Heap→Prop)(r:RowW)(d:DefRec)(kwd:List (Str×Expr))(run:aB→List aB→Sem aB):Prop:=
 ∀(w:dW) (s₀ s₁:aG) (mg mb:Str→Option aB),Ground q loose r.records XP w s₀ mg mb s₁.heap→YP w s₁.heap→∀(a:Addr) (o:Obj) (pm cd doc dV kV:aB),s₁.heap.get? a=some o→
  o.data= .func {docDef d.name d.params d.body d.scope pm cd doc with defaults:=dV,kwdefaults:=kV}→s₁.heap.CodeRec cd d.name→Dflts mg s₁.heap d.params kwd dV kV→mg d.name=some (.ref a)→s₁.gens= #[]→
  ∀(args:List WData) (vals:List aB) (as:List Addr),r.claim.pre args=true→WData.layableAll args=true→ReadsAllW r.records (classAt s₀.heap) s₁.heap vals args as→WellAll w.params s₁.heap vals args→(∀ a∈as,(a==rY)=false)→
   bA (aK r.prog w) callerA (run (.ref a) vals) (fun v s'=>GoodWG r.claim (classAt s₀.heap) (ExcName.means s₀.heap) args s₁ (.ok (.ret v)) s') s₁
theorem aIF:ND ⟨.builtin "claim.caller" {},none,none,[],none⟩:=⟨by kernel_rfl,fun _ h=>(nomatch h)⟩
theorem aPk{prog:hO}{w:dW}{t:Sem Fin}{s:aG}{R:Result→aG→Prop}(hreg:s.asleep)
  (h:bA (aK prog w) callerA t (fun fin s'=>∃ f,fin= .done f∧(R (.ok f) s'∧leftWithCleanup s'.gens=false)) s):
  ∃ n r s' s'',runN (denote table) prog w n s ⟨t,.builtin "claim.caller" {},default,[]⟩= .halted (outcomeOf r) s'∧
   schedN (denote table) prog w n (.single s ⟨t,.builtin "claim.caller" {},default,[]⟩)= .halted (outcomeOf r) s'∧s'.forget=s''.forget∧R r s'':=by
 have h0:wp (aK prog w) ⟨.builtin "claim.caller" {},none,none,[],none⟩ t (Sem.finPost (aK prog w) ⟨.builtin "claim.caller" {},none,none,[],none⟩ fun r s'=>R r s'∧leftWithCleanup s'.gens=false) (fun e _ s'=>R (.error e) s'∧leftWithCleanup s'.gens=false) default s:=by
  refine MM _ _ t (fun fin p' s' h'=> ?_) (fun _ _ _ h'=>h'.elim) default s (h _ default caller_in aIF)
  obtain⟨f,rfl,hf⟩:=h'
  exact hf
 obtain⟨n,r,s₁,s₂,hs,hn,hfo,hR⟩:=wp_halts_full (M:=aK prog w) (R:=R) hreg h0
 exact⟨n,r,s₂,s₁,hn,hs,hfo,hR⟩
theorem aDw{c:ClaimW}{tree:List aB→Sem Fin}{w:dW}{s:aG}{free:Addr→Prop}{gens:Prop}{kept:Heap→Prop}(hz:s.asleep)(hgens:s.gens= #[])
  (hspec:∀ args,c.pre args=true→WData.layableAll args=true→
   ∀ ord:List pZ→List pZ,(∀ l,(ord l).Perm l)→
   ∃ vs s₁,layAllW c.records (classAt s.heap) w.params ord args s=some (vs,s₁)∧
    bA (aK c.prog w) callerA (tree vs) (fun fin s'=>∃ f,fin= .done f∧(c.Ends s args vs s₁ (.ok f) s'∧s'.os=s.os∧AllBare s'.gens∧kept s'.heap)) s₁):
  c.CallFrom (fun vs=>⟨tree vs,.builtin "claim.caller" {},default,[]⟩) w free gens kept s:=by
 intro args hpre hlay ord hord
 obtain⟨vs,s₁,hlaid,sQ⟩:=hspec args hpre hlay ord hord
 have hal:=layAllW_rest _ _ _ hlaid
 obtain⟨k,r,s',s'',hrun,hsched,hfo,hcase,hos,hkp⟩:=aPk (prog:=c.prog) (w:=w) (t:=tree vs) (s:=s₁)
  (R:=fun r s'=>c.Ends s args vs s₁ r s'∧s'.os=s.os∧kept s'.heap)
  (Shared.asleep_of_life hal.2.2.2 hz)
  (gZ sQ (by
   rintro fin s' ⟨f,e,h1,h2,h3,h4⟩
   exact⟨f,e,⟨h1,h2,h4⟩,leftWithCleanup_false_of_bare h3⟩))
 obtain⟨eh,_,_,eo,_⟩:=Shared.forget_eq hfo
 have hcase:=hcase.congr eh
 have hkp:kept s'.heap:=by first | exact eh▸hkp | (rw [eh] at hkp;exact hkp) | (rw [←eh] at hkp;exact hkp)
 rw [←eo] at hos
 have hlife:s'.heap.life=s.heap.life:=(runN_life _ _ _ hrun).trans hal.2.2.2
 refine⟨vs,s₁,hlaid,k,_,s',hsched,?_,(fun _ i x hx=>by rw [hgens] at hx;simp at hx),hkp,by rw [hlife],Shared.rest_eq hos⟩
 rcases hcase with⟨v,h⟩ | ⟨e,ob,cls,h⟩
 ·exact .inl ⟨v,congrArg outcomeOf h.1,h.2.1,h.2.2.1,h.2.2.2.1,fun b o y _=>h.2.2.2.2.1 b o y,h.2.2.2.2.2⟩
 ·exact .inr ⟨e,ob,cls,congrArg outcomeOf h.1,h.2.1,h.2.2.1,h.2.2.2.1,h.2.2.2.2.1,fun b o y _=>h.2.2.2.2.2 b o y⟩
theorem aJi{r:RowW}{run:aB→List aB→Sem aB}{tree:List aB→Sem Fin}{q:hO}{loose defs kps:List Str}{writes:Bool}{Xt:aG→Bool}{XP:(Str→Option aB)→Heap→Prop}{α:Type}{Yf:aG→α}{Ya:dW→α}{YP:dW→Heap→Prop}{N:Nat}
  (left:LeftO r.prog q loose Xt Yf Ya N) (hY:∀ w s,Yf s=Ya w→YP w s.heap) (hYk:∀ w h h',YP w h→(∀ b o,h.get? b=some o→h'.get? b=some o)→YP w h') (hX:∀ s,Xt s=true→XP (s.heap.nsMap jU) s.heap) (hXk:∀ mg h h',XP mg h→(∀ b o,h.get? b=some o→h'.get? b=some o)→XP mg h')
  (hRf:∀ s,Xt s=true→RecFacts r.records s.heap) (hwr:(!writes || r.records.isEmpty)=true) (ok:(chainsOk q && opensWell r.prog && (PySem.W.frees r && r.within.isEmpty))=true) (hb:r.prog.bare) (hw:r.promised)
  (ht:∀ vs (w:dW) (s:aG) mg f (Q:Fin→aG→Prop),s.heap.Ns jU mg→mg r.name=some f→bA (aK r.prog w) callerA (run f vs) (fun v s'=>Q (.done (.ret v)) s') s→bA (aK r.prog w) callerA (tree vs) Q s)
  (pin:∀ w s,s.heap.isNs jU=true→Ground q loose [] XP w s (s.heap.nsMap jU) (s.heap.nsMap wL) s.heap→∀ n∈defs,isTheDefsW r.prog s.heap n)
  (call:∀(w:dW) (s₀ s₁:aG) (mg mb:Str→Option aB),Ground q loose r.records XP w s₀ mg mb s₁.heap→YP w s₁.heap→∀(args:List WData) (vs:List aB) (as:List Addr),
   r.claim.pre args=true→WData.layableAll args=true→Laid r.records w s₀ s₁ args vs as→rY < s₀.heap.objs.size→∃ f,mg r.name=some f∧
    bA (aK r.prog w) callerA (run f vs) (fun v s'=>GoodWG r.claim (classAt s₀.heap) (ExcName.means s₀.heap) args s₁ (.ok (.ret v)) s') s₁):r.claim.HoldsOpenBy (fun vs=>⟨tree vs,.builtin "claim.caller" {},default,[]⟩) defs kps writes:=by
 obtain⟨ok,k5⟩:=Bool.and_eq_true_iff.mp ok
 obtain⟨hch,o1⟩:=Bool.and_eq_true_iff.mp ok
 obtain⟨k5,k6⟩:=Bool.and_eq_true_iff.mp k5
 obtain⟨hsame,hu,ha,hap,hm⟩:=frees_parts k5
 refine⟨⟨hb,o1,by show r.makers.map _= [];rw [hm];rfl⟩,hw.witness,fun w=>⟨(left.behind hX hch w).1,fun s' hs'=> ?_⟩⟩
 obtain⟨s₀,hf,hg0,s,hT,hz,hgens,hg,G00,y⟩:=(left.behind (XP:=fun mg h=>XP mg h∧RecFacts r.records h) (fun s hs=>⟨hX s hs,hRf s hs⟩) hch w).2 s' hs'
 have G0:Ground q loose [] XP w s (s.heap.nsMap jU) (s.heap.nsMap wL) s.heap:=⟨G00.T,G00.B,G00.D,G00.TE,G00.TD,G00.W,G00.X.1,G00.cls,G00.has,G00.apart,G00.once,G00.K⟩
 have RF:=G00.X.2
 have hT':=hT
 refine⟨s₀,hf,hg0,s,hT,pin w s hg G0,RF.1,RF.2.1,?_⟩
 have hgens:s.gens= #[]:=Array.eq_empty_of_size_eq_zero (beq_iff_eq.mp hgens)
 have G:Ground q loose r.records XP w s _ _ s.heap:=RF.ground G0
 refine aDw (c:=r.claim) hz hgens fun args hpre hlay ord hord=> ?_
 obtain⟨⟨vs,s₁⟩,hlaid⟩:=Option.isSome_iff_exists.mp (layAllW_isSome (P:=w.params) (ord:=ord) G.has args r.args s (pre_splitW hpre).1)
 have keeps:=layAllW_keeps _ _ _ hlaid
 have hal:=layAllW_rest _ _ _ hlaid
 obtain⟨as,hrd,hin,hold⟩:=reads_layAllW hord _ _ _ hlaid hlay s₁.heap (fun _ _ e=>e)
 have L:Laid r.records w s s₁ args vs as:=⟨⟨ord,hord,hlaid⟩,hrd,hin,hold,keeps,hal.1.trans hgens,hal.2.2.1⟩
 have G₁:=G.keeps hXk keeps
 obtain⟨f,hf,h⟩:=call w s s₁ _ _ G₁ (hYk _ _ _ (hY w s y) keeps) args vs as hpre hlay L G.low
 have hi:=ident_freeW hu ha hap
 have hwi:r.claim.within= []:=List.isEmpty_iff.mp k6
 exact⟨vs,s₁,hlaid,ht vs w s₁ _ f _ G₁.T.g hf (gZ h (fun v s' g=>⟨_,rfl,have z:=g.laid (c:=r.claim) hsame hwi hi L;⟨z.1,z.2.1,z.2.2,fun q=>⟨namesKept_of hT' hg kps keeps g.2.1.old,noTable hwr q⟩⟩⟩))⟩
theorem aQx{M:jO}{A:aR}{s:aG}{Q:Option aB→aG→Prop}{a:Addr}{m:Str→Option aB}{x:Str}(hg:s.heap.Ns a m)(h:Q (m x) s):bA M A (nsGet a x) Q s:=fR (wpAny_nsGet hg h)
theorem aGw{r:OpenRow}{q:hO}{loose:List Str}{Xt:aG→Bool}{XP:(Str→Option aB)→Heap→Prop}{α:Type}{Yf:aG→α}{Ya:dW→α}{YP:dW→Heap→Prop}{d:DefRec}{kwd:List (Str×Expr)}{N:Nat}
  (left:LeftO r.prog q loose Xt Yf Ya N) (hY:∀ w s,Yf s=Ya w→YP w s.heap) (hYk:∀ w h h',YP w h→(∀ b o,h.get? b=some o→h'.get? b=some o)→YP w h')
  (hX:∀ s,Xt s=true→XP (s.heap.nsMap jU) s.heap) (hXk:∀ mg h h',XP mg h→(∀ b o,h.get? b=some o→h'.get? b=some o)→XP mg h')
  (hdef:defOf q r.name=some (d,kwd)) (hp:r.prog.theDef r.name=some (d.params,d.body,d.scope)) (hk:kwWritten? d.params.kwonlyargs d.params.kw_defaults=some kwd) (hRf:∀ s,Xt s=true→RecFacts r.records s.heap) (hwr:(!r.writes || r.records.isEmpty)=true)
  (k1:r.wellSaid=true) (ok:(chainsOk q && opensWell r.prog && (PySem.W.frees r.toRowW && r.within.isEmpty))=true) (hb:r.prog.bare) (hw:r.toRowW.promised)
  (call:VS q loose XP YP r.toRowW d kwd fun f vs=>PySem.call f vs):r.Holds:=by
 refine⟨k1,hw,aJi (r:=r.toRowW) (run:=fun f vs=>PySem.call f vs) (tree:=fun vs=>do match ←nsGet mainNs r.name with
   |some f=>do ret (←PySem.call f vs)
   |none=>unsupported "claim.caller:no-such-global") left hY hYk hX hXk hRf hwr ok hb hw
  (fun vs w s mg f Q hg hf h=>bB (aQx hg (by rw [hf];exact bB (gZ h (fun _ _ x=>dA x)))))
  (fun w s hg G n hn=> ?_) fun w s₀ s₁ mg mb G Y args vs as hpre hlay L low=> ?_⟩
 ·obtain rfl:n=r.name:=by split at hn <;> simp_all
  exact pinned_of_view hg G hdef hp hk
 ·obtain⟨a,o,pm,cd,doc,dV,kV,h1,h2,h3,h4,h5⟩:=G.fn hdef
  exact⟨.ref a,h1,call w s₀ s₁ mg mb G Y a o pm cd doc dV kV h2 h3 h4 h5 (defOf_name hdef▸h1) L.gens args vs as hpre hlay L.reads L.well (L.low low)⟩
end
noncomputable abbrev pW:hO:=PySem.Challenge.pw_nt0314_01
noncomputable def vw:hO:={pW with main:={pW.main with body:=[aX pB 86]}}
noncomputable def lo:List Str:=(["_wall","BLOB","TREE","COMMIT","FILE","EXEC","LINK","DIR","SUB","HEX_SIGNS","GitError","BadObject","MissingObject","BadState","octets_of","hex_of","big_endian","lines_of","CountingHasher","Change","LineNumbers","LineSheet","line_further","line_rising","myers","patience","histogram","by","ADDED","GONE","OTHER","OTHER_KIND","PLAIN","POINTER","MODULE","FOLDER","treediff_kind","treediff_joined","PathChange","treediff_order","treediff_entries","treediff_added","treediff_gone","treediff_beside","treediff_is_alike","diff_trees","treediff_is_binary","Spans","TreediffContents","broken","treediff_rejoined","CombinedChange","combined","TreediffNumbers","treediff_content","treediff_numbers","OBJECT_MODES","object_has_sign","object_are_all","Entry","object_by_eights","object_name_fault","Tree","tree_faults","check_tree","object_octets","MemoryStore","_law_deck","_law_draw","_law_line","_law_file","_law_next","_law_version","_law_tree","_law_is_text","_law_lines","_law_numbers","_law_row","_law_broken","_law_word"]:List String).map uV
noncomputable def PX:List (Str×WData):=[]
noncomputable def rW:RowW:=PySem.Challenge.rw_nt0314_01.row.toRowW
noncomputable def RS(s:aG):Bool:=xlAt vw PX s && recOk (RowW.records rW) s
theorem aMf:PySem.Challenge.rw_nt0314_01.wellSaid=true:=by
 unfold OpenLaw.wellSaid OpenRow.wellSaid OpenRow.partSaid looksOpen
 repeat' (with_reducible refine look_both ?_ ?_)
 all_goals decide+kernel
section
variable{α:Type}(Yf:aG→α)(Ya:dW→α)(YP:dW→Heap→Prop)
theorem hdo(left:LeftO pW vw lo RS Yf Ya 14300)(hY:∀ w s,Yf s=Ya w→YP w s.heap)(hYk:∀ w h h',YP w h→(∀ b o,h.get? b=some o→h'.get? b=some o)→YP w h')
  (call:∀ d kwd,d.name=("law":Str)→VS vw lo (XL vw PX) YP rW d kwd fun f vs=>PySem.call f vs):PySem.Challenge.rw_nt0314_01.Holds:=by
 w_on
 refine holds_law aMf fun said=> ?_
 refine aGw (q:=vw) (loose:=lo) (Xt:=RS) (XP:=XL vw PX) (Yf:=Yf) (Ya:=Ya) (YP:=YP) (N:=14300) left hY hYk (fun s e=>xl_of s (Bool.and_eq_true_iff.mp e).1) XL.keeps (by rfl) (by rfl) (by rfl) (fun s e=>recFacts_of (Bool.and_eq_true_iff.mp e).2) (by rfl) (by assumption) (by decide+kernel) ⟨rfl,rfl,rfl,rfl,rfl,by decide+kernel⟩ ?hw ?hc
 case hw=>w_witness2
 refine call _ _ ?_
 rfl
end
noncomputable def LG(ok:Thread→Bool)(st:wH→Thread→Option (wH×Thread)):Nat→wH→Thread→Option wH
 |0,_,_=>none
 |n+1,s,t=>match through t with
  |true=>some s
  |false=>match ok t with
   |false=>none
   |true=>match st s t with
    |some (s',t')=>LG ok st n s' t'
    |none=>none
theorem Yd{tb:String→Option Builtin}{p:hO}{w:dW}{n₀:Nat}{ann:Option aB}:∀ {n:Nat} {s s':wH} {t:Thread},LG (stepOk n₀ ann) (stepT (denote tb) p w) n s t=some s'→topRun tb p w n₀ ann n s.abs t=some s'.abs
 |0,_,_,_,h=>by cases h
 |n+1,s,s',t,h=>by
  unfold LG at h
  unfold topRun
  cases ht:through t with
  |true=>rw [ht] at h;cases h;rfl
  |false=>
   replace h:=(ht)▸h
   dsimp only at h ⊢
   cases hk:stepOk n₀ ann t with
   |false=>rw [hk] at h;cases h
   |true=>
    replace h:=(hk)▸h
    dsimp only at h ⊢
    cases hs:stepT (denote tb) p w s t with
    |none=>rw [hs] at h;cases h
    |some x=>
     obtain⟨s₁,t₁⟩:=x
     rw [hs] at h
     rw [stepT_spec hs]
     exact Yd h
noncomputable def Pz:BT→Nat→List Obj→BT
 |t,_,[]=>t
 |t,i,o::os=>Pz (t.ins i o) (i+1) os
noncomputable def S0(P:Params)(os:OsState):wH:={tree:=Pz .nil 0 (yS P).objs.toList,n:=(yS P).objs.size,life:=(yS P).life,gens:=#[],drawn:=boot_drawn,toks:=boot_toks,os:=os}
theorem aAH(P:Params)(os:OsState):(S0 P os).abs=⟨yS P,#[],boot_drawn,boot_toks,os⟩:=by kernel_rfl
noncomputable def WE:Option aB:=some (.ref 6)
section
variable{p q:hO}{loose:List Str}{Xt:aG→Bool}{α:Type}{Yf:aG→α}{Ya:dW→α}{N n₀:Nat}{ann:Option aB}{H:Params→Heap}{g:Array GenState}{d:Drawn}{k:Nat}
theorem aHF{S:Params→OsState→wH}(hS:∀ P os,(S P os).abs=⟨H P,g,d,k,os⟩)
  (open_:∀ w:dW,(fencedOpening treeTable p w N).map (fun s=>(s.heap,s.gens,s.drawn,s.toks))=some (H w.params,g,d,k))
  (size:∀ P,((H P).isNs jU && g.size==0,(H P).objs.size,(H P).nsMap jU "__annotations__")=(true,n₀,ann))
  (run:∀(w:dW) (os:OsState),(LG (stepOk n₀ ann) (stepT (denote treeTable) p w) N (S w.params os) (topStub p)).map (fun s=>(staticsOk (OY p.main.body) (H w.params) s.abs.heap && namesBound p s.abs.heap && gensDone s.abs && laidKept (H w.params) s.abs.heap,openSeen q loose (OY p.main.body) Xt true s.abs,Yf s.abs))=some (true,openGood q loose,Ya w)):LeftO p q loose Xt Yf Ya N:=fun w=>by
 obtain⟨⟨h,gs,d',k',os⟩,e,e'⟩:=Option.map_eq_some_iff.mp (open_ w)
 obtain⟨rfl,rfl,rfl,rfl⟩:h=H w.params∧gs=g∧d'=d∧k'=k:=by simpa using e'
 obtain⟨z1,z2,z3⟩:_∧_∧_:=by simpa only [TU] using size w.params
 obtain⟨s,hs,hl⟩:=Option.map_eq_some_iff.mp (run w os)
 obtain⟨l1,l2,l3⟩:_∧_∧_:=by simpa only [TU] using hl
 have r:=Yd hs
 rw [hS] at r
 have t:topFrom treeTable p w N ⟨H w.params,gs,d',k',os⟩=some s.abs:=by
  unfold topFrom
  refine(z1).symm▸(z2).symm▸(z3).symm▸(r).symm▸?_
  show(match staticsOk (OY p.main.body) (H w.params) s.abs.heap && namesBound p s.abs.heap && gensDone s.abs && laidKept (H w.params) s.abs.heap with | true=>_ | false=>_)=_
  rw [l1]
 unfold openEnds
 rw [e]
 show(topFrom treeTable p w N _).map _=_
 rw [t]
 exact congrArg some (Prod.ext l2 l3)
end
theorem aMr(P:Params):((yS P).isNs jU && (#[]:Array GenState).size==0,(yS P).objs.size,(yS P).nsMap jU "__annotations__")=(true,11,WE):=by kernel_rfl
theorem aJh:opening pW=plainProg pW.main.scope.names:=by kernel_rfl
theorem aFu(s:aG):fenceModules? pW s=some s:=by kernel_rfl
noncomputable def Nt:Data→Option qQ
 |.func fd=>some fd
 |_=>none
theorem aFB(h:Nt d=some fd):d= .func fd:=by
 cases d <;> cases h
 rfl
noncomputable def OJ(K:Frag)(a:Addr):Option qQ:=match K.lookup a with
 |some o=>Nt o.data
 |none=>none
noncomputable def jT(K:Frag)(a:Addr):qQ:=match OJ K a with
 |some fd=>fd
 |none=>default
noncomputable def YV(K:Frag)(fd:qQ):Bool:=fd.closure.isEmpty && fd.globals==jU && fd.builtins==wL && !fd.scope.isCoroutine && !fd.scope.isGenerator && xM fd.scope && codeIn K fd.code fd.qualname
noncomputable def EK(K:Frag)(a:Addr):Bool:=match OJ K a with
 |some fd=>YV K fd
 |none=>false
theorem Nh{K:Frag}(h:EK K a=true):∃ o,K.lookup a=some o∧o.data= .func (jT K a)∧YV K (jT K a)=true:=by
 unfold EK at h
 unfold jT
 cases q:OJ K a with
 |none=>rw [q] at h;cases h
 |some fd=>
  rw [q] at h
  unfold OJ at q
  cases r:K.lookup a with
  |none=>rw [r] at q;cases q
  |some o=>
   rw [r] at q
   exact⟨o,rfl,aFB q,h⟩
section
variable{C:Cx}{a:Addr}{sc:Scope}{body:List Stmt}{names:List Str}{g f:List SV→Option (List SV)}
theorem aFr(h:EK C.K a=true)(hb:(jT C.K a).body= .stmts body)(hs:(jT C.K a).scope=sc)(B:AB C (jT C.K a) names g):kX C a sc body names g:=by
 obtain⟨o,ho,hd,h⟩:=Nh h
 simp only [YV,hJ,RW,List.isEmpty_iff,beq_iff_eq] at h
 obtain⟨⟨⟨⟨⟨⟨h1,h2⟩,h3⟩,h4⟩,h5⟩,h6⟩,h7⟩:=h
 exact⟨_,⟨⟨o,C.kin _ _ ho,hd⟩,codeRec_of C.kin h7,hb,h1,h2,h3,h4,h5,h6⟩,hs,B⟩
theorem aGL(h:EK C.K a=true):GL C a:=by
 obtain⟨o,ho,hd,_⟩:=Nh h
 exact⟨o,_,C.kin _ _ ho,hd⟩
theorem aFQ(h:gN k as=some bs):bs=as∧as.length=k:=by
 unfold gN at h
 cases q:bR as.length k <;> rw [q] at h <;> cases h
 exact⟨rfl,sG q⟩
theorem aFP(h:gD k ds as=some bs):bs=as++ds.map .pv∧as.length=k:=by
 unfold gD at h
 cases q:bR as.length k <;> rw [q] at h <;> cases h
 exact⟨rfl,sG q⟩
theorem bN(hb:∀ {cells:List SO} (y:Wd C cells) (vals:List aB),vals.length=k→BindsTo y.s fd ⟨vals,[]⟩ (names.zip vals))(hk:names.length=k):AB C fd names (gN k):=fun y args args' vals h d=>by
 obtain⟨rfl,hl⟩:=aFQ h
 exact⟨vals,hb y vals (d.len▸hl),d,hk.trans hl.symm⟩
theorem bD(dv:List aB)(hb:∀ {cells:List SO} (y:Wd C cells) (vals:List aB),vals.length=k→BindsTo y.s fd ⟨vals,[]⟩ (names.zip (vals++dv)))(hk:names.length=k+ds.length)(hd:∀ W,DenL C W ds dv):AB C fd names (gD k ds):=fun y args args' vals h d=>by
 obtain⟨rfl,hl⟩:=aFP h
 exact⟨vals++dv,hb y vals (d.len▸hl),d.app (bO.s (cast (congrFun (iC ds) dv) (hd y.X.W))),by rw [hk,fE,bQ,hl]⟩
theorem aFq(h:kX C a sc body names f)(h':kX C a sc body names g):kX C a sc body names (gO f g):=by
 obtain⟨fd,P,hs,B⟩:=h.ex
 obtain⟨fd',P',_,B'⟩:=h'.ex
 obtain⟨o,ho,hd⟩:=P.obj
 obtain⟨o',ho',hd'⟩:=P'.obj
 cases ho.symm.trans ho'
 cases hd.symm.trans hd'
 refine⟨fd,P,hs,fun y args args' vals e d=> ?_⟩
 unfold gO at e
 cases q:f args with
 |some r=>rw [q] at e;cases e;exact B y q d
 |none=>rw [q] at e;exact B' y e d
end
noncomputable def AY:Nat→Addr:=tg 0 [127,169,202,300,431,537,572,613,639,711,760,922]
noncomputable def ZF:List (List Str):=[["size","known"],["a_from","a_to","b_from","b_to"],["known","strange","count"],["a","b","gone","come"],["word","old_mode","old_id","old_path","new_mode","new_id","new_path","score"],["size","counts"],["store","by_id"],["path","olds","new_mode","new_id"],["path","put_in","taken_out"],["mode","name","oid"],["entries"],["hasher","kept"]]
noncomputable def EJ:Nat→List Str:=tg [] ZF
noncomputable def tD:List (Addr×Stmt×aB):=[((117:Addr),(aX (eR (aX pB 19)) 0),.ref 110),((376:Addr),(aX (eR (aX pB 41)) 0),.ref 369),((414:Addr),(aX (eR (aX pB 41)) 5),.ref 407),((406:Addr),(aX (eR (aX pB 41)) 4),.ref 399),((491:Addr),(aX pB 49),.ref 484),((506:Addr),(aX (eR (aX pB 50)) 1),.ref 499),((584:Addr),(aX pB 52),.ref 577),((483:Addr),(aX pB 48),.ref 478),((658:Addr),(aX pB 58),.ref 651)]
noncomputable def tT:List (Addr×Obj):=[(110,⟨.type "tuple",none,.seq #[.int 4 335] 0,#[]⟩),(369,⟨.type "tuple",none,.seq #[.none] 0,#[]⟩),(399,⟨.type "tuple",none,.seq #[.none] 0,#[]⟩),(407,⟨.type "tuple",none,.seq #[.none] 0,#[]⟩),(478,⟨.type "tuple",none,.seq #[.bytes #[] 909,.bool true] 0,#[]⟩),(484,⟨.type "tuple",none,.seq #[.int 8000 916] 0,#[]⟩),(499,⟨.type "tuple",none,.seq #[.int 64 939] 0,#[]⟩),(577,⟨.type "tuple",none,.seq #[.int 60 1047,.int 0 1048] 0,#[]⟩),(651,⟨.type "tuple",none,.seq #[.str (uV "myers") 1165] 0,#[]⟩),(659,⟨.type "tuple",none,.seq #[.int 33188 202,.int 33261 204,.int 40960 206,.int 16384 208,.int 57344 210] 0,#[]⟩)]
noncomputable def Ff:Option (Option aB)→Tok
 |some (some v)=>match v with
  |.int _ t=>t
  |_=>0
 |_=>0
noncomputable def CK:Option (Option aB)→Option (Option aB)
 |some (some v)=>match v with
  |.int i _=>some (some (.int i 0))
  |.str i _=>some (some (.str i 0))
  |.bytes i _=>some (some (.bytes i 0))
  |v=>some (some v)
 |x=>x
noncomputable def Fh:PV→aB
 |.int i=>.int i 0
 |.str l=>.str ⟨l.toArray⟩ 0
 |.bytes l=>.bytes (l.map tU).toArray 0
 |_=>.ref 659
noncomputable abbrev xE(K:Frag)(x:Str):Option (Option aB):=CK (nsIn K jU x)
noncomputable abbrev iP(v:aB):Option (Option aB):=some (some v)
noncomputable def EP(K:Frag)(r:Addr×Stmt×aB):=(EK K r.1,(jT K r.1).body,(jT K r.1).scope,(jT K r.1).params,(jT K r.1).defaults)
noncomputable def zH(r:Addr×Stmt×aB):=(true,FuncBody.stmts (rI r.2.1),rJ r.2.1,pQ r.2.1,r.2.2)
noncomputable abbrev OV(r:Addr×Stmt):Addr×Stmt×aB:=(r.1,r.2,.none)
noncomputable def ZQ(K:Frag)(A:Nat→Addr)(c:Nat):=let a:=A c;(nJ K (.ref a) "__getattribute__",nJ K (.ref a) "__getattr__",nJ K (.ref a) "__setattr__",hasDictIn K a,plainOver K a,makesIn K a,nJ K (.ref a) "__init__",typeIn K (.ref (QF c)),keepIn K (.ref a),xE K (ZL c))
noncomputable def ZP(A:Nat→Addr)(c:Nat):=(iP (.builtin "object.__getattribute__"),some (none:Option aB),iP (.builtin "object.__setattr__"),true,true,true,iP (.ref (QF c)),some (HI "function"),true,iP (.ref (A c)))
noncomputable def Po(K:Frag)(A:Nat→Addr)(r:Nat×Str×Addr):=(nJ K (.ref (A r.1)) r.2.1,typeIn K (.ref r.2.2),EK K r.2.2)
noncomputable def Pn(r:Nat×Str×Addr):=(iP (.ref r.2.2),some (HI "function"),true)
noncomputable def Pj(K:Frag)(A:Nat→Addr)(r:Str×List (Nat×Nat)):=r.2.map fun p=>nJ K (.ref (A p.1)) r.1
noncomputable def Ph(r:Str×List (Nat×Nat)):=r.2.map fun _=>some (none:Option aB)
noncomputable def Pt(K:Frag)(A:Nat→Addr):=(CK (nJ K (.ref (A 5)) "WRAP"),specialIn K (.int 2147483647 (Ff (nJ K (.ref (A 5)) "WRAP"))) "__get__",nJ K (.ref (A 4)) "path",specialIn K (.ref 384) "__get__",takesIn K (.ref 384),(match recIn K 384 "property" with | some (qB a::_)=>some a | _=>none:Option Addr),xE K "law",xE K "OBJECT_MODES")
noncomputable def Pr:Option (Option aB)×Option (Option aB)×Option (Option aB)×Option (Option aB)×Option Bool×Option Addr×Option (Option aB)×Option (Option aB):=(iP (.int 2147483647 0),some none,iP (.ref 384),iP (.builtin "property.__get__"),some true,some 383,iP (.ref 1012),iP (.ref 659))
noncomputable def Ce(K:Frag):=(tF.map fun r=>EP K (OV r),tD.map (EP K),tT.map fun r=>K.lookup r.1)
noncomputable def Cf:=(tF.map fun r=>zH (OV r),tD.map zH,tT.map fun r=>some r.2)
noncomputable def Cg(K:Frag)(A:Nat→Addr):=((uQ 12).map (ZQ K A),tM.map (Po K A),tA.map (Pj K A),tC.map fun r=>xE K r.1,tB.map fun r=>xE K r.1,tG.map fun r=>xE K r.1,Pt K A)
noncomputable def Ci(A:Nat→Addr):=((uQ 12).map (ZP A),tM.map Pn,tA.map Ph,tC.map fun r=>iP (Fh r.2),tB.map fun _=>some (none:Option aB),tG.map fun r=>iP (.ref r.2),Pr)
structure CR(K:Frag)(A:Nat→Addr):Prop where
 f:tF.map (fun r=>EP K (OV r))=tF.map fun r=>zH (OV r)
 d:tD.map (EP K)=tD.map zH
 t:(tT.map fun r=>K.lookup r.1)=tT.map fun r=>some r.2
 k:(uQ 12).map (ZQ K A)=(uQ 12).map (ZP A)
 m:tM.map (Po K A)=tM.map Pn
 a:tA.map (Pj K A)=tA.map Ph
 c:(tC.map fun r=>xE K r.1)=tC.map fun r=>iP (Fh r.2)
 b:(tB.map fun r=>xE K r.1)=tB.map fun _=>some (none:Option aB)
 g:(tG.map fun r=>xE K r.1)=tG.map fun r=>iP (.ref r.2)
 x:Pt K A=Pr
theorem aFs{K:Frag}{A:Nat→Addr}(h:Ce K=Cf)(h':Cg K A=Ci A):CR K A:=
 ⟨congrArg (fun x=>x.1) h,congrArg (fun x=>x.2.1) h,congrArg (fun x=>x.2.2) h,congrArg (fun x=>x.1) h',congrArg (fun x=>x.2.1) h',congrArg (fun x=>x.2.2.1) h',congrArg (fun x=>x.2.2.2.1) h',congrArg (fun x=>x.2.2.2.2.1) h',congrArg (fun x=>x.2.2.2.2.2.1) h',congrArg (fun x=>x.2.2.2.2.2.2) h'⟩
noncomputable def AS:List Nat:=[3,127,126,169,168,202,201,300,299,431,430,537,536,572,571,613,612,639,638,711,710,760,759,922,921,82,83,94,95,101,102,110,116,117,123,124,144,145,186,187,193,194,198,199,219,220,226,227,233,234,240,241,247,248,254,255,261,262,310,311,324,325,346,347,353,354,360,361,369,375,376,382,383,384,399,405,406,407,413,414,441,442,448,449,455,456,462,463,469,470,476,477,478,482,483,484,490,491,499,505,506,512,513,519,520,533,534,554,555,561,562,577,583,584,588,589,602,603,609,610,621,622,635,636,649,650,651,657,658,659,665,666,672,673,686,687,693,694,707,708,721,722,728,729,742,743,749,750,770,771,777,778,784,785,798,799,805,806,812,813,819,820,861,862,882,883,889,890,896,897,930,931,937,938,944,945,949,950,954,955,961,962,968,969,975,976,982,983,987,988,994,995,999,1000,1006,1007,1011,1012]
noncomputable def EL(h:Heap):Frag:=AS.filterMap fun a=>(h.get? a).map fun o=>(a,o)
theorem aFL{h:Heap}{a:Addr}{o:Obj}(l:List Nat):(l.filterMap fun a=>(h.get? a).map fun o=>(a,o)).lookup a=some o→h.get? a=some o:=by
 induction l with
 |nil=>exact fun e=>nomatch e
 |cons b l ih=>
  rw [List.filterMap_cons]
  cases q:h.get? b with
  |none=>exact ih
  |some ob=>
   show(((b,ob)::_).lookup a)=_→_
   rw [List.lookup_cons]
   cases z:(a==b) with
   |true=>exact fun e=>by cases e;rw [beq_iff_eq.mp z];exact q
   |false=>exact ih
theorem aFK(h:Heap):(EL h).In h:=fun _ _ e=>aFL _ e
section
open PySem.W.Fast
noncomputable def Ez:Thread→Bool:=tw6613529449190102663 11 WE
noncomputable def Fb(w:dW):wH→Thread→Option (wH×Thread):=tw10156331382660048174 (tw11892475500146522536 tw14364793385576792824) pW w
theorem aPc:stepOk 11 WE=Ez:=by unfold Ez;rw [te6613529449190102663]
theorem aPd(w:dW):stepT (denote treeTable) pW w=Fb w:=by unfold Fb;rw [te10156331382660048174,te11892475500146522536,te14364793385576792824]
noncomputable def RB(w:dW)(os:OsState):Option wH:=LG Ez (Fb w) 14300 (S0 w.params os) (topStub pW)
theorem aMc(w:dW)(os:OsState):(RB w os).map (fun s=>(staticsOk (OY pW.main.body) (yS w.params) s.abs.heap && namesBound pW s.abs.heap && gensDone s.abs && laidKept (yS w.params) s.abs.heap,tw4187177175401517315 vw lo (OY pW.main.body) RS true s.abs))=some (true,openGood vw lo):=by kernel_rfl
theorem aMd(w:dW)(os:OsState):(RB w os).map (fun s=>Ce (EL s.abs.heap))=some Cf:=by kernel_rfl
theorem aMe(w:dW)(os:OsState):(RB w os).map (fun s=>Cg (EL s.abs.heap) AY)=some (Ci AY):=by kernel_rfl
theorem Jp{α β γ:Type}{o:Option α}{f:α→β}{g:α→γ}{x:β}{y:γ}(h:o.map f=some x)(h':o.map g=some y):o.map (fun s=>(f s,g s))=some (x,y):=by
 cases o with
 |none=>cases h
 |some s=>cases h;cases h';rfl
theorem aHE:LeftO pW vw lo RS (fun s=>(Ce (EL s.heap),Cg (EL s.heap) AY)) (fun _=>(Cf,Ci AY)) 14300:=
 aHF aAH (boot_open aJh (by decide) aFu) aMr fun w os=>by
  rw [aPc,aPd,te4187177175401517315]
  have h:=Jp (aMc w os) (Jp (aMd w os) (aMe w os))
  unfold RB at h
  obtain⟨s,hs,e⟩:=Option.map_eq_some_iff.mp h
  rw [hs]
  simp only [TU] at e
  obtain⟨⟨e1,e2⟩,e3,e4⟩:=e
  simp only [Option.map_some,e1,e2,e3,e4]
theorem hd0(call:∀ d kwd,d.name=("law":Str)→VS vw lo (XL vw PX) (fun _ h=>∃ K:Frag,K.In h∧CR K AY) rW d kwd fun f vs=>PySem.call f vs):PySem.Challenge.rw_nt0314_01.Holds:=
 hdo _ _ _ aHE (fun _ s e=>⟨EL s.heap,aFK _,aFs (congrArg (·.1) e) (congrArg (·.2) e)⟩) (fun _ _ _ ⟨K,i,f⟩ k=>⟨K,i.keeps k,f⟩) call
end
theorem FW{α:Type}{d:α}{l:List α}{i:Nat}(h:bV i l.length=true):l[i]? =some (tg d l i):=by
 have h:=tO (bT h:i < l.length)
 unfold tg;rw [h]
theorem at_{α β:Type}{d:α}{l:List α}{f g:α→β}(h:l.map f=l.map g){i:Nat}(e:bV i l.length=true):f (tg d l i)=g (tg d l i):=by
 exact List.map_inj_left.mp h _ (nZ (FW e))
theorem KV{x:Option (Option aB)}{v:Option (Option aB)}(h:CK x=v):x=v∨∃ w,x=iP w∧((∃ i t,w= .int i t∧v=iP (.int i 0))∨(∃ i t,w= .str i t∧v=iP (.str i 0))∨∃ i t,w= .bytes i t∧v=iP (.bytes i 0)):=by
 cases x with
 |none=>exact .inl h
 |some x=>cases x with
  |none=>exact .inl h
  |some w=>cases w with
   |int i t=>exact .inr ⟨_,rfl,.inl ⟨i,t,rfl,h.symm⟩⟩
   |str i t=>exact .inr ⟨_,rfl,.inr (.inl ⟨i,t,rfl,h.symm⟩)⟩
   |bytes i t=>exact .inr ⟨_,rfl,.inr (.inr ⟨i,t,rfl,h.symm⟩)⟩
   |_=>exact .inl h
theorem QW{x:Option (Option aB)}{a:Addr}(h:CK x=iP (.ref a)):x=iP (.ref a):=
 (KV h).elim id fun⟨_,_,e⟩=>e.elim (fun⟨_,_,_,e⟩=>nomatch e) fun e=>e.elim (fun⟨_,_,_,e⟩=>nomatch e) fun⟨_,_,_,e⟩=>nomatch e
theorem aMq{x:Option (Option aB)}(h:CK x=some none):x=some none:=
 (KV h).elim id fun⟨_,_,e⟩=>e.elim (fun⟨_,_,_,e⟩=>nomatch e) fun e=>e.elim (fun⟨_,_,_,e⟩=>nomatch e) fun⟨_,_,_,e⟩=>nomatch e
theorem aJL{x:Option (List aB)}{a:Addr}(h:(match x with | some (qB a::_)=>some a | _=>none:Option Addr)=some a):∃ r,x=some (.ref a::r):=by
 cases x with
 |none=>cases h
 |some l=>cases l with
  |nil=>cases h
  |cons v r=>cases v <;> first | (cases h;exact⟨r,rfl⟩) | cases h
theorem Ws{x:Option (Option aB)}{i:Int}(h:CK x=iP (.int i 0)):x=iP (.int i (Ff x)):=
 (KV h).elim (fun e=>by cases e;rfl) fun⟨_,q,e⟩=>e.elim (fun⟨_,_,r,e⟩=>by cases e;cases r;cases q;rfl) fun e=>e.elim (fun⟨_,_,_,e⟩=>nomatch e) fun⟨_,_,_,e⟩=>nomatch e
noncomputable def Tp:PV→Bool
 |.int _=>true
 |.str _=>true
 |.bytes l=>l.all (bV · 256)
 |_=>false
theorem aMp{x:Option (Option aB)}{p:PV}(hp:Tp p=true)(h:CK x=iP (Fh p)):∃ v,x=iP v∧∀ C W,bE C W p v:=by
 cases p with
 |int i=>exact⟨_,Ws h,fun _ _=>.mk _⟩
 |str l=>
  obtain⟨t,e⟩:∃ t,x=iP (.str ⟨l.toArray⟩ t):=(KV h).elim (fun e=>⟨_,e⟩) fun⟨_,q,e⟩=>e.elim (fun⟨_,_,_,e⟩=>nomatch e) fun e=>e.elim (fun⟨_,t,r,e⟩=>⟨t,by cases e;cases r;exact q⟩) fun⟨_,_,_,e⟩=>nomatch e
  exact⟨_,e,fun _ _=>lN.mk ⟨l.toArray⟩ t⟩
 |bytes l=>
  obtain⟨t,e⟩:∃ t,x=iP (.bytes (l.map tU).toArray t):=(KV h).elim (fun e=>⟨_,e⟩) fun⟨_,q,e⟩=>e.elim (fun⟨_,_,_,e⟩=>nomatch e) fun e=>e.elim (fun⟨_,_,_,e⟩=>nomatch e) fun⟨_,t,r,e⟩=>⟨t,by cases e;cases r;exact q⟩
  have q:(l.map tU).map cH=l:=by
   rw [iT]
   exact(LW fun n hn=>Nat.mod_eq_of_lt (bT (List.all_eq_true.mp hp n hn))).trans (GO l)
  exact⟨_,e,fun _ _=>cast (congrArg (fun m=>iQ m _) q) (iQ.mk (l.map tU).toArray t)⟩
 |_=>cases hp
noncomputable def qC(fd:qQ)(P:Arguments)(d:aB):qQ:={fd with params:=P,defaults:=d}
noncomputable def LN:Nat→(List aB→Prop)→Prop
 |0,F=>F []
 |k+1,F=>∀ a,LN k fun l=>F (a::l)
theorem Lj(k:Nat):∀ {F:List aB→Prop},LN k F→∀ l,l.length=k→F l:=by
 induction k with
 |zero=>exact fun h l e=>aAm e▸h
 |succ k ih=>
  intro F h l e
  cases l with
  |nil=>cases e
  |cons a l=>exact ih (h a) l (vW e)
noncomputable def BP(r:Addr×Stmt):Prop:=∀ fd,LN (fH r.2).length fun vals=>bindArgs (qC fd (pQ r.2) .none) ⟨vals,[]⟩=pure ((fH r.2).zip vals)
noncomputable def Jh:{k:qQ→List aB→Option (Array aB)→Sem (List (Str×aB)) // ∀ fd vals,bindArgs fd ⟨vals,[]⟩=seqItems? fd.defaults >>= k fd vals}:=⟨_,fun _ _=>rfl⟩
theorem bW{r:Addr×Stmt}{l:List (Addr×Stmt)}(h:BP r)(hs:∀ r∈l,BP r):∀ x∈r::l,BP x:=List.forall_mem_cons.mpr ⟨h,hs⟩
theorem aBJ:∀ r∈tF,BP r:=bW (fun _ _=>rfl) <| bW (fun _ _=>rfl) <| bW (fun _ _ _=>rfl) <| bW (fun _ _=>rfl) <| bW (fun _ _ _ _ _=>rfl) <| bW (fun _ _=>rfl) <| bW (fun _ _ _=>rfl) <| bW (fun _ _=>rfl) <| bW (fun _ _ _=>rfl) <| bW (fun _ _ _ _=>rfl) <| bW (fun _ _=>rfl) <| bW (fun _ _=>rfl) <| bW (fun _ _ _=>rfl) <| bW (fun _ _=>rfl) <| bW (fun _ _ _ _ _=>rfl) <| bW (fun _ _ _=>rfl) <| bW (fun _ _ _=>rfl) <| bW (fun _ _=>rfl) <| bW (fun _ _ _=>rfl) <| bW (fun _ _ _ _ _=>rfl) <| bW (fun _ _=>rfl) <| bW (fun _ _=>rfl) <| bW (fun _ _=>rfl) <| bW (fun _ _=>rfl) <| bW (fun _ _ _=>rfl) <| bW (fun _ _ _=>rfl) <| bW (fun _ _=>rfl) <| bW (fun _ _=>rfl) <| bW (fun _ _=>rfl) <| bW (fun _ _ _=>rfl) <| bW (fun _ _ _=>rfl) <| bW (fun _ _ _ _=>rfl) <| bW (fun _ _ _=>rfl) <| bW (fun _ _ _=>rfl) <| bW (fun _ _ _=>rfl) <| bW (fun _ _ _=>rfl) <| bW (fun _ _ _=>rfl) <| bW (fun _ _ _=>rfl) <| bW (fun _ _ _=>rfl) <| bW (fun _ _ _ _=>rfl) <| bW (fun _ _ _=>rfl) <| bW (fun _ _ _ _=>rfl) <| bW (fun _ _ _=>rfl) <| bW (fun _ _=>rfl) <| bW (fun _ _ _ _ _ _=>rfl) <| bW (fun _ _ _=>rfl) <| bW (fun _ _ _=>rfl) <| bW (fun _ _ _ _=>rfl) <| bW (fun _ _ _=>rfl) <| bW (fun _ _ _=>rfl) <| bW (fun _ _ _=>rfl) <| bW (fun _ _ _=>rfl) <| bW (fun _ _ _ _=>rfl) <| bW (fun _ _ _ _ _=>rfl) <| bW (fun _ _=>rfl) <| bW (fun _ _ _=>rfl) <| bW (fun _ _ _=>rfl) <| bW (fun _ _ _ _=>rfl) <| bW (fun _ _ _ _ _ _=>rfl) <| bW (fun _ _=>rfl) <| bW (fun _ _ _=>rfl) <| bW (fun _ _ _=>rfl) <| bW (fun _ _ _=>rfl) <| bW (fun _ _ _=>rfl) <| bW (fun _ _ _=>rfl) <| bW (fun _ _=>rfl) <| bW (fun _ _ _=>rfl) <| bW (fun _ _ _ _=>rfl) <| bW (fun _ _=>rfl) <| bW (fun _ _ _ _=>rfl) <| bW (fun _ _=>rfl) <| bW (fun _ _=>rfl) <| fun _ h=>nomatch h
section
variable{C:Cx}{a:Addr}{st:Stmt}{k:Nat}
theorem tZ{d:aB}{g:List SV→Option (List SV)}(h:EP C.K (a,st,d)=zH (a,st,d))(B:AB C (qC (jT C.K a) (pQ st) d) (fH st) g):kX C a (rJ st) (rI st) (fH st) g:=by
 have h4:=congrArg (fun x=>x.2.2.2.1) h
 have h5:=congrArg (fun x=>x.2.2.2.2) h
 refine aFr (congrArg (fun x=>x.1) h) (congrArg (fun x=>x.2.1) h) (congrArg (fun x=>x.2.2.1) h) ?_
 have e:jT C.K a=qC (jT C.K a) (pQ st) d:=by
  show _=qC _ (zH (a,st,d)).2.2.2.1 (zH (a,st,d)).2.2.2.2
  rw [←h4,←h5];rfl
 rw [e];exact @B
theorem vA{s:aG}{fd:qQ}{vals:List aB}{b:List aB→List (Str×aB)}{k:Nat}{T:Addr}{items:Array aB}(ho:s.heap.get? T=some ⟨.type "tuple",none,.seq items 0,#[]⟩)(hd:fd.defaults= .ref T)(h:LN k fun vals=>Jh.1 fd vals (some items)=pure (b vals))(hl:vals.length=k):BindsTo s fd ⟨vals,[]⟩ (b vals):=.of_defaults hd ho rfl (Jh.2 fd vals) (Lj k h vals hl)
theorem vN{cells:List SO}(y:Wd C cells){T:Addr}{o:Obj}(h:C.K.lookup T=some o):y.s.heap.get? T=some o:=y.R.keeps0 _ _ (C.kin _ _ h)
end
section
variable{C:Cx}{mg mb:Str→Option aB}(hF:CR C.K C.cls)
include hF
theorem vC{i:Nat}(h:bV i 9=true):EP C.K (tg default tD i)=zH (tg default tD i):=at_ hF.d h
theorem tup{i:Nat}(h:bV i 10=true):C.K.lookup (tg default tT i).1=some (tg default tT i).2:=have e:=at_ (d:=default) hF.t h;e
theorem XE{c:Nat}(h:bV c 12=true):ZQ C.K C.cls c=ZP C.cls c:=by
 have:=at_ (d:=0) hF.k (i:=c) (by rw [List.length_range];exact h)
 rwa [show tg 0 (uQ 12) c=c by unfold tg;rw [List.getElem?_range (bT h)]] at this
theorem NJ{c:Nat}(h:bV c 12=true):GG C c:=
 have e:=XE hF h
 ⟨congrArg (fun x=>x.1) e,congrArg (fun x=>x.2.1) e,congrArg (fun x=>x.2.2.1) e,congrArg (fun x=>x.2.2.2.1) e,congrArg (fun x=>x.2.2.2.2.1) e⟩
end
theorem aFV:tC.all (fun r=>Tp r.2)=true:=by kernel_rfl
theorem aFT:(tB.map fun r=>bootBuiltins r.1)=tB.map fun r=>some r.2:=by kernel_rfl
theorem aFS:tB.all (fun r=> !(r.1=="__name__"))=true:=by kernel_rfl
section
variable{C:Cx}{mg mb:Str→Option aB}(hg:C.base.Ns jU mg)
include hg
theorem OT{x:Str}{v:aB}(e:nsIn C.K jU x=some (some v)):Gl C x v:=.inl ⟨mg,hg,mg_of C.kin hg e⟩
variable(hF:CR C.K C.cls)
include hF
theorem aGf{c:Nat}(h:bV c 12=true):Gl C (ZL c) (.ref (C.cls c)):=OT hg (QW (congrArg (fun x=>x.2.2.2.2.2.2.2.2.2) (XE hF h)))
theorem aFZ{i:Nat}(h:bV i 41=true):Gl C (IS i).1 (.ref (IS i).2):=OT hg (QW (x:=nsIn C.K jU (IS i).1) (at_ (d:=(("":Str),(0:Addr))) hF.g h))
theorem aFU{i:Nat}(h:bV i 15=true):GJ C (EM i).1 (EM i).2:=
 have e:=at_ (d:=(("":Str),PV.none)) hF.c h
 let⟨v,e,d⟩:=aMp (x:=nsIn C.K jU (EM i).1) (p:=(EM i).2) (List.all_eq_true.mp aFV _ (nZ (FW (d:=(("":Str),PV.none)) h))) e
 ⟨v,OT hg e,fun W _=>d C W⟩
theorem aFR(hb:C.base.Ns wL mb)(hbb:∀ x:Str,x≠"__name__"→mb x=bootBuiltins x){i:Nat}(h:bV i 15=true):Gl C (IM i).1 (IM i).2:=
 have e:=at_ (d:=(("":Str),Value.none)) hF.b h
 have e':=at_ (d:=(("":Str),Value.none)) aFT h
 .inr ⟨mg,mb,hg,mg_none_of C.kin hg (aMq (x:=nsIn C.K jU (IM i).1) e),hb,(hbb _ fun e=>by
  have:=List.all_eq_true.mp aFS _ (nZ (FW (d:=(("":Str),Value.none)) h))
  rw [show(tg (("":Str),Value.none) tB i).1=("__name__":Str) from e] at this
  cases this).trans e'⟩
end
theorem aHO{c j:Nat}{l:List (Nat×Nat)}(h:l.lookup c=some j):(c,j)∈l:=by
 induction l with
 |nil=>cases h
 |cons p l ih=>
  rw [show p::l=(p.1,p.2)::l from rfl,List.lookup_cons] at h
  cases q:(c==p.1) with
  |true=>rw [q] at h;cases h;rw [beq_iff_eq.mp q];exact .head _
  |false=>rw [q] at h;exact .tail _ (ih h)
theorem aIq:tM.all (fun r=>bV r.1 12 && !(EJ r.1).contains r.2.1)=true:=by kernel_rfl
theorem aPg:tA.all (fun r=>r.2.all fun p=>bV p.1 12 && ((EJ p.1)[p.2]? ==some r.1 && !((EJ p.1).take p.2).contains r.1))=true:=by kernel_rfl
theorem aPj{α:Type}(d:α)(l:List α)(i:Nat):tg d l i=d∨tg d l i∈l:=by
 unfold tg
 cases q:l[i]? with
 |none=>exact .inl rfl
 |some r=>exact .inr (nZ q)
theorem aFA:(ZF.all fun l=>qA l.length 20)=true:=by kernel_rfl
theorem Tc{l:List Str}{x:Str}(h:(!l.contains x)=true):x∉l:=fun hm=>by rw [List.contains_iff_mem.mpr hm] at h;cases h
section
variable{C:Cx}{mg mb:Str→Option aB}(hF:CR C.K C.cls)(eF:C.fld=EJ)(hg:C.base.Ns jU mg)(hb:C.base.Ns wL mb)(hbb:∀ x:Str,x≠"__name__"→mb x=bootBuiltins x)
include hF
theorem aFC{i:Nat}(h:bV i 72=true):kX C (vG i).1 (rJ (vG i).2) (rI (vG i).2) (fH (vG i).2) (gN (fH (vG i).2).length):=
 tZ (d:=.none) (at_ (d:=((0:Addr),Stmt.Pass default)) hF.f h) (bN (fun y vals e=>BindsTo.of_eq (Lj _ (aBJ _ (nZ (FW (d:=((0:Addr),Stmt.Pass default)) h)) _) vals e)) rfl)
theorem aIZ{c:Nat}(h:bV c 12=true):ME C c (QF c):=
 have e:=XE hF h
 ⟨congrArg (fun x=>x.2.2.2.2.2.1) e,congrArg (fun x=>x.2.2.2.2.2.2.1) e,congrArg (fun x=>x.2.2.2.2.2.2.2.1) e,congrArg (fun x=>x.2.2.2.2.2.2.2.2.1) e⟩
include eF
theorem aIp{i:Nat}(h:bV i 26=true):CW C (FG i).1 (FG i).2.1 (FG i).2.2:=
 have e:=at_ (d:=(0,("":Str),0)) hF.m h
 have k:=Bool.and_eq_true_iff.mp (List.all_eq_true.mp aIq _ (nZ (FW (d:=(0,("":Str),0)) h)))
 ⟨NJ hF k.1,congrArg (fun x=>x.1) e,congrArg (fun x=>x.2.1) e,eF▸Tc k.2,aGL (congrArg (fun x=>x.2.2) e)⟩
theorem aPf{i:Nat}(h:bV i 33=true):HG C (xS i).1 (xS i).2:=fun c j e=>by
 have hm:(c,j)∈(xS i).2:=aHO e
 have e:=List.map_inj_left.mp (at_ (d:=(("":Str),[])) hF.a h) _ hm
 have k:=Bool.and_eq_true_iff.mp (List.all_eq_true.mp (List.all_eq_true.mp aPg _ (nZ (FW (d:=(("":Str),[])) h))) _ hm)
 have k':=Bool.and_eq_true_iff.mp k.2
 exact⟨NJ hF k.1,e,eF▸beq_iff_eq.mp k'.1,eF▸Tc k'.2⟩
include hg hb hbb
theorem aGx:bL C where
 fn:=fun _=>aFC hF
 gc:=fun _=>aFU hg hF
 gb:=fun _=>aFR hg hF hb hbb
 gf:=fun _=>aFZ hg hF
 gk:=fun _=>aGf hg hF
 mt:=fun _=>aIp hF eF
 nw:=fun _=>aIZ hF
 tb:=fun _=>aPf hF eF
 p_CountingHasher_I:=tZ (vC hF (i:=0) rfl) (bN (names:=fH (aX (eR (aX pB 19)) 0)) (k:=2) (fun y vals hl=>vA (k:=2) (fd:=qC (jT C.K 117) (pQ (aX (eR (aX pB 19)) 0)) (.ref 110)) (b:=fun vals=>(fH (aX (eR (aX pB 19)) 0)).zip vals) (vN y (tup hF (i:=0) rfl)) rfl (fun _ _=>rfl) hl) rfl)
 p_PathChange_I:=aFq (tZ (vC hF (i:=1) rfl) (bN (names:=fH (aX (eR (aX pB 41)) 0)) (k:=9) (fun y vals hl=>vA (k:=9) (fd:=qC (jT C.K 376) (pQ (aX (eR (aX pB 41)) 0)) (.ref 369)) (b:=fun vals=>(fH (aX (eR (aX pB 41)) 0)).zip vals) (vN y (tup hF (i:=1) rfl)) rfl (fun _ _ _ _ _ _ _ _ _=>rfl) hl) rfl)) (tZ (vC hF (i:=1) rfl) (bD (names:=fH (aX (eR (aX pB 41)) 0)) (ds:=[.none]) [.none] (fun y vals hl=>vA (k:=8) (fd:=qC (jT C.K 376) (pQ (aX (eR (aX pB 41)) 0)) (.ref 369)) (b:=fun vals=>(fH (aX (eR (aX pB 41)) 0)).zip (vals++([.none]:List aB))) (vN y (tup hF (i:=1) rfl)) rfl (fun _ _ _ _ _ _ _ _=>rfl) hl) rfl fun _=>(jM.mk _ _ (rfl) rfl)))
 p_PathChange_new_half:=tZ (vC hF (i:=2) rfl) (bN (names:=fH (aX (eR (aX pB 41)) 5)) (k:=2) (fun y vals hl=>vA (k:=2) (fd:=qC (jT C.K 414) (pQ (aX (eR (aX pB 41)) 5)) (.ref 407)) (b:=fun vals=>(fH (aX (eR (aX pB 41)) 5)).zip vals) (vN y (tup hF (i:=3) rfl)) rfl (fun _ _=>rfl) hl) rfl)
 p_PathChange_old_half:=tZ (vC hF (i:=3) rfl) (bN (names:=fH (aX (eR (aX pB 41)) 4)) (k:=2) (fun y vals hl=>vA (k:=2) (fd:=qC (jT C.K 406) (pQ (aX (eR (aX pB 41)) 4)) (.ref 399)) (b:=fun vals=>(fH (aX (eR (aX pB 41)) 4)).zip vals) (vN y (tup hF (i:=2) rfl)) rfl (fun _ _=>rfl) hl) rfl)
 p_treediff_is_binary:=tZ (vC hF (i:=4) rfl) (bD (names:=fH (aX pB 49)) (ds:=[.int 8000]) [.int 8000 916] (fun y vals hl=>vA (k:=1) (fd:=qC (jT C.K 491) (pQ (aX pB 49)) (.ref 484)) (b:=fun vals=>(fH (aX pB 49)).zip (vals++([.int 8000 916]:List aB))) (vN y (tup hF (i:=5) rfl)) rfl (fun _=>rfl) hl) rfl fun _=>(jM.mk _ _ (jN.mk _) rfl))
 p_Spans_I:=tZ (vC hF (i:=5) rfl) (bD (names:=fH (aX (eR (aX pB 50)) 1)) (ds:=[.int 64]) [.int 64 939] (fun y vals hl=>vA (k:=2) (fd:=qC (jT C.K 506) (pQ (aX (eR (aX pB 50)) 1)) (.ref 499)) (b:=fun vals=>(fH (aX (eR (aX pB 50)) 1)).zip (vals++([.int 64 939]:List aB))) (vN y (tup hF (i:=6) rfl)) rfl (fun _ _=>rfl) hl) rfl fun _=>(jM.mk _ _ (jN.mk _) rfl))
 p_broken:=tZ (vC hF (i:=6) rfl) (bN (names:=fH (aX pB 52)) (k:=4) (fun y vals hl=>vA (k:=4) (fd:=qC (jT C.K 584) (pQ (aX pB 52)) (.ref 577)) (b:=fun vals=>(fH (aX pB 52)).zip vals) (vN y (tup hF (i:=7) rfl)) rfl (fun _ _ _ _=>rfl) hl) rfl)
 p_diff_trees:=tZ (vC hF (i:=7) rfl) (bD (names:=fH (aX pB 48)) (ds:=[.bytes [],.bool true]) [.bytes #[] 909,.bool true] (fun y vals hl=>vA (k:=3) (fd:=qC (jT C.K 483) (pQ (aX pB 48)) (.ref 478)) (b:=fun vals=>(fH (aX pB 48)).zip (vals++([.bytes #[] 909,.bool true]:List aB))) (vN y (tup hF (i:=4) rfl)) rfl (fun _ _ _=>rfl) hl) rfl fun _=>(jM.mk _ _ (iQ.mk #[] 909) (jM.mk _ _ (rfl) rfl)))
 p_treediff_numbers:=tZ (vC hF (i:=8) rfl) (bD (names:=fH (aX pB 58)) (ds:=[.str [109,121,101,114,115]]) [.str (uV "myers") 1165] (fun y vals hl=>vA (k:=2) (fd:=qC (jT C.K 658) (pQ (aX pB 58)) (.ref 651)) (b:=fun vals=>(fH (aX pB 58)).zip (vals++([.str (uV "myers") 1165]:List aB))) (vN y (tup hF (i:=8) rfl)) rfl (fun _ _=>rfl) hl) rfl fun _=>(jM.mk _ _ (lN.mk (uV "myers") 1165) rfl))
 g_OBJECT_MODES:=⟨.ref 659,OT hg (QW (congrArg (fun x=>x.2.2.2.2.2.2.2) hF.x)),fun W hW=>oI.mk 659 [.int 33188 202,.int 33261 204,.int 40960 206,.int 16384 208,.int 57344 210] 0 (hW _ _ (C.kin _ _ (tup hF (i:=9) rfl))) (jM.mk _ _ (jN.mk _) (jM.mk _ _ (jN.mk _) (jM.mk _ _ (jN.mk _) (jM.mk _ _ (jN.mk _) (jM.mk _ _ (jN.mk _) rfl)))))⟩
 fsz:=fun c=>by
  rw [eF]
  rcases aPj [] ZF c with e | e
  ·rw [show EJ c= [] from e];exact jP _
  ·exact bT (List.all_eq_true.mp aFA _ e)
 a_WRAP:=aLN (p:=.int 2147483647) (v:=.int 2147483647 (Ff (nJ C.K (.ref (C.cls 5)) "WRAP"))) (NJ hF rfl) (Ws (congrArg (fun x=>x.1) hF.x)) (congrArg (fun x=>x.2.1) hF.x) rfl (by rw [eF];decide+kernel) (fun _=>jN.mk _)
 a_path:=fun hn rf=>by
  obtain⟨r,hr⟩:∃ r,recIn C.K 384 "property"=some (.ref 383::r):=aJL (congrArg (fun x=>x.2.2.2.2.2.1) hF.x)
  exact aLO (p:=384) (rest:=r) hn (NJ hF rfl) (congrArg (fun x=>x.2.2.1) hF.x) (congrArg (fun x=>x.2.2.2.1) hF.x) (congrArg (fun x=>x.2.2.2.2.1) hF.x) hr rf
end
end
theorem aJ{α β:Type}{m:M α}{f:α→M β}{a:α}(h:m st=some (a,st₁)):bd m f st=f a st₁:=by unfold bd;rw [h]
theorem MY{α β:Type}{m:M α}{f:α→M β}{b:β}(h:bd m f st=some (b,st')):∃ a st₁,m st=some (a,st₁)∧f a st₁=some (b,st'):=lE h fun a s e e'=>⟨a,s,e,e'⟩
theorem WM(h:m st=some (.next,st₁)):bl (m::ms) st=bl ms st₁:=aJ h
theorem DN(h:m st=some (.cont,st₁)):bl (m::ms) st=some (.cont,st₁):=aJ h
theorem AW(h:m st=some (.ret v,st₁)):bl (m::ms) st=some (.ret v,st₁):=aJ h
theorem DP(h:f as st.cells=some (v,c)):lS f as st=some (v,⟨st.loc,c⟩):=by unfold lS;rw [h]
theorem eJ(hg:g as=some bs)(h:m ⟨tH k bs,c⟩=some (.ret v,st)):bG k g m as c=some (v,st.cells):=by
 unfold bG;rw [hg];dsimp only;rw [h]
theorem KP(hg:g as=some bs)(h:m ⟨tH k bs,c⟩=some (.next,st)):bG k g m as c=some (.pv .none,st.cells):=by
 unfold bG;rw [hg];dsimp only;rw [h]
section
variable{st st₁ st₂ st₃ st₄:St}{a b c v:SV}{as:List SV}{cs:List SO}{m m₀ m₁ m₂ m₃:M SV}{ms:M (List SV)}
theorem nD(h:m st=some (a,st₁))(h':ar l st₁=some (as,st₂)):ar (m::l) st=some (a::as,st₂):=(aJ h).trans ((aJ h').trans rfl)
theorem iH(h:m st=some (a,st₁)):ar [m] st=some ([a],st₁):=nD h rfl
theorem dJ(h:m₁ st=some (a,st₁))(h':m₂ st₁=some (b,st₂)):ar [m₁,m₂] st=some ([a,b],st₂):=nD h (iH h')
theorem uZ(h:m₁ st=some (a,st₁))(h':m₂ st₁=some (b,st₂)):b2 m₁ m₂ f st=f a b st₂:=(aJ h).trans (aJ h')
theorem jL(h:m₁ st=some (a,st₁))(h':m₂ st₁=some (b,st₂)):t2 m₁ m₂ f st=f a b st₂:=(aJ h).trans (aJ h')
theorem BM(h:m st=some (a,st₁)):ge f m st=f a st₁:=aJ h
theorem OS(h:ms st=some (as,st₁)):aY ms f st=f as st₁:=aJ h
theorem gF(h:ms st=some (as,st₁))(h':f as st₁.cells=some (v,cs)):cf f ms st=some (v,⟨st₁.loc,cs⟩):=(aJ h).trans (DP h')
theorem aIg(h:m₀ st=some (a,st₁))(hg:g a st₁=some (u,st₂)):mR g f m₀ st=f a st₂:=(aJ h).trans (aJ hg)
theorem qI(h:m₀ st=some (a,st₁))(hg:g a st₁=some (u,st₂))(h':m₁ st₂=some (b,st₃)):bK g f m₀ m₁ st=f a b st₃:=(aJ h).trans ((aJ hg).trans (aJ h'))
theorem Sj(h:m₀ st=some (a,st₁))(hg:g a st₁=some (u,st₂))(h':m₁ st₂=some (b,st₃))(h'':m₂ st₃=some (c,st₄)):BX g f m₀ m₁ m₂ st=f a b c st₄:=(aJ h).trans ((aJ hg).trans ((aJ h').trans (aJ h'')))
theorem jK(h:m₀ st=some (a,st₁))(hg:IY k a st₁=some (u,st₂))(h':ms st₂=some (as,st₃))(h'':f (a::as) st₃.cells=some (v,cs)):mc k f m₀ ms st=some (v,⟨st₃.loc,cs⟩):=(aJ h).trans ((aJ hg).trans ((aJ h').trans (DP h'')))
theorem iI(h:m st=some (v,st₁)):aZ i m st=some (.next,⟨st₁.loc.set i (some v),st₁.cells⟩):=(aJ h).trans rfl
theorem HN(h:ms st=some (as,st₁))(h':vO is as st₁=some (u,st₂)):nF is ms st=some (.next,st₂):=(aJ h).trans ((aJ h').trans rfl)
theorem DM(h:ms st=some (as,st₁))(h':vO is as.reverse st₁=some (u,st₂)):oN is ms st=some (.next,st₂):=(aJ h).trans ((aJ h').trans rfl)
theorem Iz(h:m st=some (v,st₁))(h':Fs is v st₁=some (u,st₂)):uY is m st=some (.next,st₂):=(aJ h).trans ((aJ h').trans rfl)
theorem aBm(h₁:m₁ st=some (c,st₁))(h₂:m₂ st₁=some (a,st₂))(h₃:m₃ st₂=some (b,st₃))(hf:f a b c st₃=some (u,st₄)):gB f m₁ m₂ m₃ st=some (.next,st₄):=(aJ h₁).trans ((aJ h₂).trans ((aJ h₃).trans ((aJ hf).trans rfl)))
theorem tW(h₁:m₁ st=some (c,st₁))(hf:f a b c st₁=some (u,st₄))(h₂:m₂ st₁=some (a,st₁))(h₃:m₃ st₁=some (b,st₁)):gB f m₁ m₂ m₃ st=some (.next,st₄):=aBm h₁ h₂ h₃ hf
theorem jG(h:m₁ st=some (a,st))(h':m₂ st=some (b,st))(hf:f a b st=some (v,st₁)):b2 m₁ m₂ f st=some (v,st₁):=(uZ h h').trans hf
theorem zE(h:ms st=some (as,st₁))(hf:f as st₁=some (v,st₂)):aY ms f st=some (v,st₂):=(OS h).trans hf
theorem eU(h:m st=some (a,st₁))(hf:f a st₁=some (v,st₂)):ge f m st=some (v,st₂):=(BM h).trans hf
theorem fC(h:m st=some (v,st₁)):re m st=some (.ret v,st₁):=(aJ h).trans rfl
theorem sO(h:m st=some (v,st₁)):ex m st=some (.next,st₁):=(aJ h).trans rfl
theorem Wt{m:M Bool}(h:m st=some (t,st₁)):bH m x y st=(match t with | true=>x | false=>y) st₁:=by
 refine(aJ h).trans ?_
 cases t <;> rfl
theorem ZW{m:M Bool}(h:m st=some (t,st₁)):iY m x y st=(match t with | true=>x | false=>y) st₁:=by
 refine(aJ h).trans ?_
 cases t <;> rfl
theorem hV{m:M Bool}(h:m st=some (true,st₁))(h':x st₁=r):bH m x y st=r:=(Wt h).trans h'
theorem eV{m:M Bool}(h:m st=some (false,st₁))(h':y st₁=r):bH m x y st=r:=(Wt h).trans h'
theorem cW{m:M Fl}(h:m st=some (.next,st₁)):bl [m] st=some (.next,st₁):=(WM h).trans rfl
theorem eZ{m:M Fl}(h:m st=some (.ret v,st₁)):bl [m] st=some (.ret v,st₁):=AW h
theorem aO{m:M Fl}(h:m st=some (.next,st₁))(h':bl l st₁=r):bl (m::l) st=r:=(WM h).trans h'
end
theorem MZ:∀ {st st₁:St},bl l st=some (.next,st₁)→bl (l++l') st=bl l' st₁:=by
 induction l with
 |nil=>exact fun h=>by cases h;rfl
 |cons m l ih=>
  refine fun h=>lE h fun f st₂ e h2=> ?_
  cases f with
  |next=>exact(WM e).trans (ih h2)
  |cont=>cases h2
  |ret v=>cases h2
theorem Ui{c c' j ex:List SO}(hl:c.length=m)(h0:vP m args=true)(hc:qZ m c=true)(h:g args c=some (v,c'++j))(hl':c'.length=m)(hv:uH m v=true)(hc':qZ m c'=true):cI m g args (c++ex)=some (v,c'++ex):=by
 unfold cI
 refine(List.take_left' hl).symm▸(List.drop_left' hl).symm▸(h0).symm▸(hc).symm▸(fE).symm▸(hl).symm▸(CZ (oD _ _)).symm▸?_
 refine(h).symm▸?_
 dsimp only
 exact(List.take_left' hl').symm▸(hv).symm▸(hc').symm▸rfl
theorem mT{j ex:List SO}(h:g args []=some (.pv v,j))(h0:vP 0 args=true):cI 0 g args ex=some (.pv v,ex):=Ui (c:=[]) rfl h0 rfl h rfl rfl rfl
theorem gL{xs:List PV}{st st₁:St}(h:b x st=some (.next,st₁)):fJ (x::xs) b st=fJ xs b st₁:=aJ h
theorem IK{xs:List PV}{st st₁:St}(h:b x st=some (.cont,st₁)):fJ (x::xs) b st=fJ xs b st₁:=aJ h
theorem mP{xs:List PV}(h:src st=some (a,st₁))(h':f st₁ a=some xs):IJ f src b st=fJ xs b st₁:=by
 refine(aJ h).trans ?_
 rw [h']
theorem aFI{β:Type}{g:PV→List β}(I:List β→St→Prop):∀(xs:List PV) (acc:List β) (st:St),(∀ x∈xs,∀ acc st,I acc st→∃ st',(b x st=some (.next,st')∨b x st=some (.cont,st'))∧I (acc++g x) st')→I acc st→∃ st',fJ xs b st=some (.next,st')∧I (acc++xs.flatMap g) st'
 | [],acc,st,_,i=>⟨st,rfl,by simpa using i⟩
 |x::xs,acc,st,h,i=>by
  obtain⟨st₁,e,i₁⟩:=h x (uP ..) acc st i
  obtain⟨st₂,e₂,i₂⟩:=aFI I xs _ st₁ (fun y hy=>h y (sF _ hy)) i₁
  refine⟨st₂,?_,by rw [AG,←gJ];exact i₂⟩
  rcases e with e | e
  ·rw [gL e,e₂]
  ·rw [IK e,e₂]
section
variable{f:St→SV→Option (List PV)}{cap:List (Option Nat)}{g:PV→M Unit}{t:M Bool}{m src:M SV}{st st₁ st₂:St}{a:SV}{xs ys:List PV}
theorem onSome_eq{α β:Type}{o:Option α}{k:α→M β}{a:α}(h:o=some a):eW o k st=k a st:=by rw [h];rfl
theorem Kv(h':f st a=some xs)(hl:xs.length≤1000000)(hc:iB g t m xs ⟨pO cap st.loc,st.cells⟩=some (ys,st₂)):BA f cap g t m a st=some (ys,⟨st.loc,st₂.cells⟩):=by
 unfold BA
 rw [h'];dsimp only
 unfold dM
 rw [decide_eq_true hl]
 show ES cap (iB g t m xs) st=_
 unfold ES
 rw [hc]
theorem tX(h:src st=some (a,st₁))(h':f st₁ a=some xs)(hl:xs.length≤1000000)(hc:iB g t m xs ⟨pO cap st₁.loc,st₁.cells⟩=some (ys,st₂)):
  eG f src cap g t m st=some (.pv (.lst ys),⟨st₁.loc,st₂.cells⟩):=(aJ h).trans ((aJ (Kv h' hl hc)).trans rfl)
theorem Kw(h:src st=some (a,st₁))(h':f st₁ a=some xs)(hl:xs.length≤1000000)(hc:iB g t m xs ⟨pO cap st₁.loc,st₁.cells⟩=some (ys,st₂)):
  NK f src cap g t m st=some (.ref st₂.cells.length,⟨st₁.loc,st₂.cells++[.list ys]⟩):=(aJ h).trans ((aJ (Kv h' hl hc)).trans rfl)
end
section
variable{g:PV→M Unit}{t:M Bool}{m:M SV}{x y:PV}{xs ys:List PV}{st st₁ st₂ st₃ st₄:St}
theorem Kx(h0:g x st=some ((),st₁))(h1:t st₁=some (true,st₂))(h2:m st₂=some (.pv y,st₃))(h3:iB g t m xs st₃=some (ys,st₄)):iB g t m (x::xs) st=some (y::ys,st₄):=
 (aJ h0).trans ((aJ h1).trans ((aJ h2).trans ((aJ h3).trans rfl)))
theorem aDY(h0:g x st=some ((),st₁))(h1:t st₁=some (false,st₂))(h3:iB g t m xs st₂=r):iB g t m (x::xs) st=r:=(aJ h0).trans ((aJ h1).trans h3)
theorem yX(F:Option SV→St)(q:PV→Bool)(f:PV→PV)(xs:List PV)(h0:∀ x o,g x (F o)=some ((),F (some (.pv x)))):(∀ x∈xs,t (F (some (.pv x)))=some (q x,F (some (.pv x))))→(∀ x∈xs,q x=true→m (F (some (.pv x)))=some (.pv (f x),F (some (.pv x))))→
  ∀ o,∃ o',iB g t m xs (F o)=some ((xs.filter q).map f,F o'):=by
 induction xs with
 |nil=>exact fun _ _ o=>⟨o,rfl⟩
 |cons x xs ih=>
  intro h1 h2 o
  obtain⟨o',e⟩:=ih (fun y hy=>h1 y (.tail _ hy)) (fun y hy=>h2 y (.tail _ hy)) (some (.pv x))
  refine⟨o',?_⟩
  have h1:=h1 x (.head _)
  cases hq:q x with
  |true=>rw [SX hq];exact Kx (h0 x o) (hq▸h1) (h2 x (.head _) hq) e
  |false=>rw [SW ((hq).symm▸mV)];exact aDY (h0 x o) (hq▸h1) e
end
theorem pM{α:Type}{m m':M α}{r:α×St}(h:m st=some r):al m m' st=some r:=by unfold al;rw [h]
theorem mN{α:Type}{m m':M α}(h:m st=none):al m m' st=m' st:=by unfold al;rw [h]
noncomputable def kK(K:List (List Nat)):List PV:=K.map .bytes
noncomputable def iV:Nat→Nat→List PV
 |0,_=>[]
 |n+1,i=>.int ((i+1:Nat):Int)::iV n (i+1)
noncomputable def dG(n:Nat):List Nat:=[0,0,0,n]
noncomputable def oV:Nat→Nat→List PV
 |0,_=>[]
 |n+1,i=>.bytes (dG (i+1))::oV n (i+1)
structure Dk where
 xs:List Int
 mx:Int
 n:Nat
noncomputable def Dk.dr(ω:Dk)(xs:List Int)(mx:Int):Dk:=⟨xs,mx,ω.n⟩
noncomputable def Dk.inc(ω:Dk)(k:Nat):Dk:=⟨ω.xs,ω.mx,ω.n+k⟩
noncomputable def s8(ω:Dk)(K:List (List Nat))(T:List PV):List SO:=
 [.dead,.list (ω.xs.map .int),.sdict .str [.str [108,101,102,116],.str [109,105,120,101,100]] [.ref 1,.pv (.int ω.mx)],.inst 0 [.pv (.int 4),.ref 4],.dict .bytes (kK K) (iV K.length 0),.inst 11 [.ref 3,.ref 6],.dict .bytes (oV T.length 0) T,.sdict .str [.str [115,116,111,114,101],.str [99,111,117,110,116]] [.ref 5,.pv (.int (ω.n:Nat))]]
theorem iM{j ex:List SO}(h:g args (s8 ω K T)=some (v,s8 ω' K' T'++j))(h0:vP 8 args=true)(hv:uH 8 v=true):
  cI 8 g args (s8 ω K T++ex)=some (v,s8 ω' K' T'++ex):=Ui rfl h0 rfl h rfl hv rfl
inductive Zl(many:Int)(ω:Dk):Prop
 |mk (d:Int) (xs:List Int) (mx:Int) (h0:0≤d) (h1:d < many) (hx:xs.length≤24) (e:∀ K T ex,wV [.ref 2,.pv (.int many)] (s8 ω K T++ex)=some (.pv (.int d),s8 (ω.dr xs mx) K T++ex))
theorem HX(many:Int)(hm:0 < many)(ω:Dk)(hx:ω.xs.length≤24):Zl many ω:=by
 have hd:∀ x:Int,mA x many=some (x.fmod many):=fun x=>by
  unfold mA;rw [decide_eq_false (Int.ne_of_gt hm)];rfl
 obtain⟨xs,mx,n⟩:=ω
 cases xs with
 |nil=>
  refine .mk (((mx*4801+97).fmod 1000003 |>.fdiv 7).fmod many) [] ((mx*4801+97).fmod 1000003) (Int.fmod_nonneg_of_pos _ hm) (Int.fmod_lt_of_pos _ hm) (jP _) fun K T ex=> ?_
  let st:St:=⟨[some (.ref 2),some (.pv (.int many))],s8 ⟨[],(mx*4801+97).fmod 1000003,n⟩ K T⟩
  refine iM (eJ (st:=⟨st.loc,st.cells++[]⟩) rfl (aO (st₁:=⟨st.loc,s8 ⟨[],mx,n⟩ K T⟩) (by kernel_rfl) (aO (st₁:=st) (by kernel_rfl) (eZ (fC ?_))))) rfl rfl
  exact(uZ (a:=.pv (.int (((mx*4801+97).fmod 1000003).fdiv 7))) (st₁:=st) (b:=.pv (.int many)) (by kernel_rfl) rfl).trans (onSome_eq (hd _))
 |cons x xs=>
  refine .mk (x.fmod many) xs mx (Int.fmod_nonneg_of_pos _ hm) (Int.fmod_lt_of_pos _ hm) (aP (oE _) hx) fun K T ex=> ?_
  let st:St:=⟨[some (.ref 2),some (.pv (.int many))],s8 ⟨xs,mx,n⟩ K T⟩
  refine iM (eJ (st:=⟨st.loc,st.cells++[]⟩) rfl (AW (hV (st₁:=⟨st.loc,s8 ⟨x::xs,mx,n⟩ K T⟩) rfl (eZ (fC ?_))))) rfl rfl
  refine(uZ (a:=.pv (.int x)) (st₁:=st) (b:=.pv (.int many)) ?_ rfl).trans (onSome_eq (hd x))
  show gd (decide ((xs.map PV.int).length≤100000)) (fun s=>some (SV.pv (.int x),fD s 1 (.list (xs.map .int)))) _=_
  rw [bQ,decide_eq_true (aP (Nat.le_of_succ_le hx) (bT rfl))]
  rfl
noncomputable def ln(n:Nat):List Nat:=[65,n / 10+48,n % 10+48,10]
noncomputable def lz(n:Nat):List Nat:=[0,n / 10+48,n % 10+48,10]
noncomputable def fr:Nat→Nat→List Nat
 |0,_=>[]
 |k+1,n=>(n+1)::fr k (n+1)
noncomputable def lW(z:Bool)(n:Nat):List Nat:=match z with
 |true=>lz n
 |false=>ln n
noncomputable def bJ(z:Bool):List Nat→List (List Nat)
 | []=>[]
 |n::ns=>lW z n::ns.map ln
structure aT where
 x:Bool
 z:Bool
 ns:List Nat
noncomputable def mo(x:Bool):Int:=match x with
 |true=>33261
 |false=>33188
noncomputable def lp(ls:List (List Nat)):PV:=.lst (ls.map .bytes)
noncomputable def vp(v:aT):PV:=.tup [.int (mo v.x),lp (bJ v.z v.ns)]
noncomputable abbrev Rn(n:Nat):List PV:=[.int (65+(((n:Nat)+1:Int).fdiv 100).fmod 10),.int (48+(((n:Nat)+1:Int).fdiv 10).fmod 10),.int (48+((n:Nat)+1:Int).fmod 10),.int 10]
theorem lnB:∀ n:Fin 99,lP JV (Rn n.val)=some (ln (n.val+1)):=by decide+kernel
theorem aHI(ω:Dk)(K:List (List Nat))(T:List PV)(hn:ω.n < 99)(ex:List SO):BG [.ref 7] (s8 ω K T++ex)=some (.pv (.bytes (ln (ω.n+1))),s8 (ω.inc 1) K T++ex):=by
 let st:St:=⟨[some (.ref 7),none],s8 (ω.inc 1) K T⟩
 refine iM (eJ (st:=⟨st.loc,st.cells++[]⟩) rfl (aO (st₁:=st) rfl (eZ (fC ?_)))) rfl rfl
 show eW (lP JV (Rn ω.n)) (fun l=>dM 4 (rt (SV.pv (.bytes l)))) _=_
 exact onSome_eq (lnB ⟨ω.n,hn⟩)
theorem Ld(K:List (List Nat))(T:List PV)(ex:List SO)(a c:Option SV)(l:List PV):∀(ω:Dk) (b:Option SV),ω.n+l.length≤99→
  ∃ b',iB (nT 1) (rt true) (cf BG (ar [aA 3])) l ⟨[a,b,c,some (.ref 7)],s8 ω K T++ex⟩=some (((fr l.length ω.n).map ln).map .bytes,⟨[a,b',c,some (.ref 7)],s8 (ω.inc l.length) K T++ex⟩):=by
 induction l with
 |nil=>exact fun ω b _=>⟨b,rfl⟩
 |cons x l ih=>
  intro ω b h
  have h:ω.n+1+l.length≤99:=by rw [uR,vV 1];exact h
  obtain⟨b',e⟩:=ih (ω.inc 1) (some (.pv x)) h
  refine⟨b',(Kx rfl rfl (gF (iH rfl) (aHI ω K T (aP (oD _ _) h) ex)) e).trans ?_⟩
  rw [show(ω.inc 1).inc l.length=ω.inc (x::l).length from congrArg (Dk.mk ω.xs ω.mx) ((uR ..).trans (congrArg (ω.n+ ·) (vV ..)))]
  rfl
noncomputable def fV(z:Bool)(n:Nat):aT:=⟨false,z,fr 10 n⟩
inductive aAj(ω:Dk):Prop
 |mk (z:Bool) (xs:List Int) (mx:Int) (hx:xs.length≤24) (e:∀ K T ex,EE [.ref 2,.ref 7] (s8 ω K T++ex)=some (.pv (vp (fV z ω.n)),s8 ((ω.inc 10).dr xs mx) K T++ex))
noncomputable def ZD(cs:List SO):St:=⟨[some (.ref 2),some (.ref 7),some (.ref 8),none,none,none],cs⟩
theorem YW(ω:Dk)(hx:ω.xs.length≤24)(hn:ω.n+10≤99):aAj ω:=by
 cases HX 4 (by decide) (ω.inc 10) hx with
 |mk d xs mx h0 h1 hx e=>
  refine .mk (eqI d 3) xs mx hx fun K T ex=> ?_
  obtain⟨b',hc⟩:=Ld K T [] none none (qL 10 0 1) ω none hn
  let L:=((fr 10 ω.n).map ln).map PV.bytes
  let st:St:=ZD (s8 ((ω.inc 10).dr xs mx) K T++[.list L])
  refine iM (j:=[.dead]) (eJ (st:=ZD (s8 ((ω.inc 10).dr xs mx) K T++[.dead])) rfl (aO (iI (Kw (xs:=qL 10 0 1) rfl rfl (bT rfl) ((congrArg (iB _ _ _ _ ⟨_,·⟩) (gK _)).symm.trans (hc.trans (congrArg (fun l=>some (_,(⟨_,l⟩:St))) (gK _))))))
   (aO (st₁:=ZD (s8 ((ω.inc 10).dr xs mx) K T++[.list ((bJ (eqI d 3) (fr 10 ω.n)).map .bytes)])) ((aJ ((aJ (gF (dJ rfl rfl) (e K T [.list L]))).trans rfl:_=some (eqI d 3,st))).trans ?_) (by kernel_rfl)))) rfl rfl
  cases eqI d 3 <;> kernel_rfl
noncomputable def wR(v:aT)(k n:Nat):aT:=⟨v.x,bV k 10 && v.z,v.ns.take (10 - k)++fr k n⟩
inductive sN(v:aT)(n:Nat):Option aT→Nat→Prop
 |gone:sN v n none n
 |flip:sN v n (some ⟨true,v.z,v.ns⟩) n
 |cut (k:Nat) (h:k≤10):sN v n (some (wR v k n)) (n+k)
inductive yM(n:Nat):Option aT→Nat→Prop
 |no:yM n none n
 |mk (z:Bool):yM n (some (fV z n)) (n+10)
noncomputable def yQ(ks:List PV)(p:Nat):Option aT→List PV
 |none=>ks
 |some _=>ks++[.bytes [p]]
noncomputable def MS(vs:List PV):Option aT→List PV
 |none=>vs
 |some v=>vs++[vp v]
noncomputable abbrev nBd:M Fl:=oN [6,5] (ar [(cf wV (ar [(aA 0),(kI 8)])),(bK cV dX (aA 2) (aA 4))])
noncomputable abbrev Bs:M Fl:=bH (t2 (aA 5) (kI 4) lY) (bl [(gB fQ (cf EE (ar [(aA 0),(aA 1)])) (aA 3) (aA 4))]) (bl [])
noncomputable def Lk:M SV:=(b2 (pS (b2 (aA 6) (kI 1) aV) (rt none) (pa (b2 (kI 10) (aA 7) (bX eM)))) (eG dK (ge CG (aA 7)) [none,none,none,some 1] (nT 1) (rt true) (cf BG (ar [(aA 3)]))) bM)
noncomputable abbrev Bt:M Fl:=bH (t2 (aA 5) (kI 4) lY) (bl [(aZ 7 (cf wV (ar [(aA 0),(kI 11)]))),
 (gB fQ (aY (ar [(b2 (aA 6) (kI 0) aV),(ge cC Lk)]) cM) (aA 3) (aA 4))]) (bl [(bH (t2 (aA 5) (kI 4) cK) (bl [(gB fQ (aY (ar [(b2 (b2 PG Al bM) (b2 (aA 6) (kI 0) aV) (bX eM)),(b2 (aA 6) (kI 1) aV)]) cM) (aA 3) (aA 4))]) (bl [(bH (t2 (aA 5) (kI 5) sP) (bl [(gB fQ (aA 6) (aA 3) (aA 4))]) (bl []))]))])
noncomputable def nB:M Fl:=bl [nBd,bH (t2 (aA 6) kN oS) (bl [Bs]) (bl [Bt])]
noncomputable def nS(sh:PV)(o4 o5 o6 o7:Option SV)(cs:List SO)(ks vs:List PV)(ex:List SO):St:=⟨[some (.ref 2),some (.ref 7),some (.pv sh),some (.ref 8),o4,o5,o6,o7,none,none,none,none,none],cs++.dict .bytes ks vs::ex⟩
theorem KR(sh:PV)(p:Nat)(y:PV)(o5 o6 o7:Option SV)(ω:Dk)(K:List (List Nat))(T:List PV)(ks vs:List PV)(ex:List SO)(hkl:ks.length≤9)(hk:dhas ks (.bytes [p])=false):
  fQ (.ref 8) (.pv (.bytes [p])) (.pv y) (nS sh (some (.pv (.bytes [p]))) o5 o6 o7 (s8 ω K T) ks vs ex)=some ((),nS sh (some (.pv (.bytes [p]))) o5 o6 o7 (s8 ω K T) (ks++[.bytes [p]]) (vs++[y]) ex):=by
 refine pM ?_
 show gd (true && decide (ks.length≤1000000)) (fun st=>some ((),fD st 8 (.dict .bytes (dY ks vs (.bytes [p]) y).1 (dY ks vs (.bytes [p]) y).2))) _=_
 rw [decide_eq_true (aP hkl (bT rfl))]
 unfold dY
 rw [hk]
 rfl
inductive SS{α:Type}:List α→Prop
 |mk (a b c d e f g i j k:α):SS [a,b,c,d,e,f,g,i,j,k]
theorem vJ{α:Type}{P:List α→Prop}(k:∀ a t,t.length=n→P (a::t)):∀ l:List α,l.length=n+1→P l:=fun l h=>by
 cases l with
 |nil=>cases h
 |cons a t=>exact k a t (vW h)
theorem zM{α:Type}{l:List α}:l.length=10→SS l:=
 (vJ fun a=>vJ fun b=>vJ fun c=>vJ fun d=>vJ fun e=>vJ fun f=>vJ fun g=>vJ fun i=>vJ fun j=>vJ fun k=>fun t h=>by cases t with
 |nil=>exact .mk ..
 |cons=>cases h) l
theorem RE(k:Nat)(h:k≤10):k=0∨k=1∨k=2∨k=3∨k=4∨k=5∨k=6∨k=7∨k=8∨k=9∨k=10:=(by decide:∀ k:Fin 11,k.val=0∨k.val=1∨k.val=2∨k.val=3∨k.val=4∨k.val=5∨k.val=6∨k.val=7∨k.val=8∨k.val=9∨k.val=10) ⟨k,TO h⟩
noncomputable abbrev nU(sh:PV)(p:Nat)(d:Int)(v:aT)(o7:Option SV)(cs:List SO)(ks vs:List PV)(ex:List SO):St:=nS sh (some (.pv (.bytes [p]))) (some (.pv (.int d))) (some (.pv (vp v))) o7 cs ks vs ex
theorem Ea(k:Nat):∀ i,(qL k i 1).length=k:=by
 induction k with
 |zero=>exact fun _=>rfl
 |succ k ih=>exact fun i=>congrArg lK (ih _)
section
variable{loc:List (Option SV)}{cs:List SO}{xs ys:List PV}
theorem aOt{lo hi:Option Int}(h:xs.length≤1000000):QX (.pv (.lst xs)) lo hi ⟨loc,cs⟩=some (.ref cs.length,⟨loc,cs++[.list (pP lo hi xs)]⟩):=by
 show gd (decide (xs.length≤1000000)) (fun st=>some (SV.ref st.cells.length,⟨st.loc,st.cells++[.list (pP lo hi xs)]⟩)) _=_
 rw [decide_eq_true h];rfl
theorem zG:(cs++[c])[cs.length]? =some c:=by rw [CT (cX _),GV];rfl
theorem aAM(h:cs[j]? =some (.list xs))(hl:xs.length+ys.length≤1000000):bM (.ref j) (.pv (.lst ys)) ⟨loc,cs⟩=some (.ref cs.length,⟨loc,cs++[.list (xs++ys)]⟩):=by
 show iD (.ref j) (fun l=>dM (l.length+ys.length) fun st=>some (SV.ref st.cells.length,⟨st.loc,st.cells++[.list (l++ys)]⟩)) er ⟨loc,cs⟩=_
 unfold iD
 rw [show lZ ⟨loc,cs⟩ (.ref j)=some xs by unfold lZ;dsimp only;rw [h]]
 show dM (xs.length+ys.length) _ _=_
 unfold dM
 rw [decide_eq_true hl];rfl
theorem OR:cC (.ref cs.length) ⟨loc,cs++[.list xs]⟩=some (.pv (.lst xs),⟨loc,cs++[.dead]⟩):=by
 unfold cC
 dsimp only
 rw [zG]
 show some (PV.lst xs |> SV.pv,fD ⟨loc,cs++[.list xs]⟩ cs.length .dead)=_
 unfold fD
 rw [MA _ _ (cX _),GV];rfl
end
theorem wX:∀ {n:Nat},(fr k n).length=k:=by
 induction k with
 |zero=>exact rfl
 |succ k ih=>exact congrArg lK ih
theorem sU(z:Bool)(ns:List Nat):(bJ z ns).length=ns.length:=by
 cases ns with
 |nil=>rfl
 |cons n ns=>exact congrArg lK (bQ ..)
theorem aAO(h:f st a=some r):uX f g st a=some r:=by unfold uX;rw [h]
theorem Il(h:f st a=none):uX f g st a=g st a:=by unfold uX;rw [h]
theorem rng_c(k:Nat)(hk:k≤10):Vm 0 k 1=some (qL k 0 1):=by
 rcases RE k hk with rfl | rfl | rfl | rfl | rfl | rfl | rfl | rfl | rfl | rfl | rfl <;> rfl
theorem aLc(k:Nat)(hk:k≤10)(st:St):dK st (.pv (.rng 0 k 1))=some (qL k 0 1):=
 (Il rfl).trans ((Il rfl).trans (aAO (rng_c k hk:Ah st (.pv (.rng 0 k 1))=_)))
theorem aEg(k:Nat)(hk:k≤10):clipAt 10 (10 - (k:Int))=10 - k:=(by decide:∀ k:Fin 11,clipAt 10 (10 - (k.val:Int))=10 - k.val) ⟨k,TO hk⟩
theorem Lm(hl:v.ns.length=10)(hk:k≤10):bJ (wR v k n).z (wR v k n).ns=(bJ v.z v.ns).take (10 - k)++(fr k n).map ln:=by
 obtain⟨x,z,ns⟩:=v
 cases ns with
 |nil=>cases hl
 |cons a ns=>
  rcases Nat.lt_or_eq_of_le hk with h | rfl
  ·obtain⟨j,e⟩:∃ j,10 - k=j+1:=Nat.exists_eq_succ_of_ne_zero (Nat.sub_ne_zero_of_lt h)
   unfold wR
   refine(e).symm▸(show bV k 10=true from CZ h).symm▸?_
   show lW z a::(ns.take j++fr k n).map ln=lW z a::((ns.map ln).take j++(fr k n).map ln)
   rw [cU,LX]
  ·rfl
theorem aEh(sh:PV)(p:Nat)(d:Int)(v:aT)(hl:v.ns.length=10)(ω:Dk)(K:List (List Nat))(T:List PV)(k:Nat)(hk:k≤10)(hn:ω.n+10≤99)(ks vs:List PV)(ex:List SO):
  ∃ ex',ge cC Lk (nU sh p d v (some (.pv (.int k))) (s8 ω K T) ks vs ex)=some (.pv (lp (bJ (wR v k ω.n).z (wR v k ω.n).ns)),nU sh p d v (some (.pv (.int k))) (s8 (ω.inc k) K T) ks vs ex'):=by
 let A:=((bJ v.z v.ns).take (10 - k)).map PV.bytes
 let N:=((fr k ω.n).map ln).map PV.bytes
 have hL:(bJ v.z v.ns).length=10:=(sU _ _).trans hl
 have hA:pP none (some (10 - (k:Int))) ((bJ v.z v.ns).map PV.bytes)=A:=by
  show(((bJ v.z v.ns).map PV.bytes).drop 0).take (clipAt ((bJ v.z v.ns).map PV.bytes).length (10 - (k:Int)) - 0)=A
  rw [bQ,hL,aEg k hk,←List.map_drop,←LX];rfl
 obtain⟨b',hc⟩:=Ld K T (SO.dict .bytes ks vs::(ex++[SO.list A])) none none (qL k 0 1) ω none (by rw [Ea];exact aP (oB hk _) hn)
 rw [Ea] at hc
 let st (ω:Dk) (ex:List SO):St:=nU sh p d v (some (.pv (.int k))) (s8 ω K T) ks vs ex
 have e1:(pS (b2 (aA 6) (kI 1) aV) (rt none) (pa (b2 (kI 10) (aA 7) (bX eM)))) (st ω ex)=some (.ref (ex.length+9),st ω (ex++[SO.list A])):=by
  refine(aJ rfl).trans ((aJ rfl).trans ((aJ rfl).trans ((aOt (by rw [bQ,hL];decide)).trans ?_)))
  rw [hA,gJ];rfl
 let cs:List SO:=s8 (ω.inc k) K T++SO.dict .bytes ks vs::(ex++[SO.list A])
 have g:cs[ex.length+9]? =some (.list A):=zG
 have hl2:A.length+N.length≤1000000:=by
  rw [bQ,bQ,bQ,wX,CU,hL];exact aP (mK (Nat.min_le_right ..) hk) (bT rfl)
 have e2:eG dK (ge CG (aA 7)) [none,none,none,some 1] (nT 1) (rt true) (cf BG (ar [(aA 3)])) (st ω (ex++[SO.list A]))=some (.pv (.lst N),⟨(st ω ex).loc,cs⟩):=
  tX (st₁:=st ω (ex++[SO.list A])) (st₂:=⟨[none,b',none,some (.ref 7)],cs⟩) rfl (aLc k hk _) (by rw [Ea];exact aP hk (by decide)) hc
 refine⟨ex++[.list A]++[.dead],eU ((uZ e1 e2).trans (aAM g hl2)) (OR.trans ?_)⟩
 rw [Lm hl hk]
 unfold lp
 rw [cU]
 rfl
inductive Nb(S:Option aT→Nat→Prop)(sh:PV)(p:Nat)(K:List (List Nat))(T:List PV)(ω:Dk)(o4 o5 o6 o7:Option SV)(ks vs:List PV)(ex:List SO):Prop
 |mk (r:Option aT) (ω':Dk) (q4 q5 q6 q7:Option SV) (ex':List SO) (h:S r ω'.n) (hx:ω'.xs.length≤24) (e:(bd (nT 4 (.bytes [p])) fun _=>nB) (nS sh o4 o5 o6 o7 (s8 ω K T) ks vs ex)=some (.next,nS sh q4 q5 q6 q7 (s8 ω' K T) (yQ ks p r) (MS vs r) ex'))
section
variable{sh:PV}{p:Nat}{K:List (List Nat)}{T:List PV}{ω ω₁:Dk}{o4 o5 o6 o7:Option SV}{ks vs:List PV}{ex:List SO}
theorem Sr(hd:wV [.ref 2,.pv (.int 8)] (s8 ω K T++.dict .bytes ks vs::ex)=some (.pv (.int d),s8 ω₁ K T++.dict .bytes ks vs::ex))(hD:∀ st,cV (.pv sh) st=some ((),st))(hg:∀ st,dX (.pv sh) (.pv (.bytes [p])) st=some (.pv y,st))
  (h:bH (t2 (aA 6) kN oS) (bl [Bs]) (bl [Bt]) (nS sh (some (.pv (.bytes [p]))) (some (.pv (.int d))) (some (.pv y)) o7 (s8 ω₁ K T) ks vs ex)=some (.next,st')):(bd (nT 4 (.bytes [p])) fun _=>nB) (nS sh o4 o5 o6 o7 (s8 ω K T) ks vs ex)=some (.next,st'):=
 (aJ rfl).trans (aO (st₁:=nS sh (some (.pv (.bytes [p]))) (some (.pv (.int d))) (some (.pv y)) o7 (s8 ω₁ K T) ks vs ex) (DM (dJ (gF (dJ rfl rfl) hd) ((qI rfl (hD _) rfl).trans (hg _))) rfl) (cW h))
theorem aGI{d:Int}(h0:0≤d)(h1:d < 8)(h:¬d < 4):d=4∨d=5∨d=6∨d=7:=by
 obtain⟨k,rfl⟩:=SQ h0
 exact(by decide:∀ k:Fin 8,¬((k.val:Int) < 4)→(k.val:Int)=4∨(k.val:Int)=5∨(k.val:Int)=6∨(k.val:Int)=7) ⟨k,Int.ofNat_lt.mp h1⟩ h
theorem Sq(v:aT)(hx:v.x=false)(hl:v.ns.length=10)(hs:sh= .dct .bytes [.bytes [97],.bytes [98]] svs)(hg:dN [.bytes [97],.bytes [98]] svs (.bytes [p])=some (vp v))(hxs:ω.xs.length≤24)(hn:ω.n+10≤99)(hkl:ks.length≤9)(hk:dhas ks (.bytes [p])=false):Nb (sN v ω.n) sh p K T ω o4 o5 o6 o7 ks vs ex:=by
 obtain⟨x,z,ns⟩:=v
 subst hx
 cases HX 8 (by decide) ω hxs with
 |mk d xs mx d0 d1 hx₁ hd=>
  have go:∀ {st'},Bt (nU sh p d ⟨false,z,ns⟩ o7 (s8 (ω.dr xs mx) K T) ks vs ex)=some (.next,st')→(bd (nT 4 (.bytes [p])) fun _=>nB) (nS sh o4 o5 o6 o7 (s8 ω K T) ks vs ex)=some (.next,st'):=fun {st'} h=>by
   subst hs
   exact Sr (hd _ _ _) (fun _=>rfl) (fun st=>show rt (CB SV.pv (.pv .none) (dN [.bytes [97],.bytes [98]] svs (.bytes [p]))) st=_ by rw [hg];rfl) (eV rfl (cW h))
  by_cases h4:d < 4
  ·cases HX 11 (by decide) (ω.dr xs mx) hx₁ with
   |mk m xs₂ mx₂ m0 m1 hx₂ hm=>
    obtain⟨k,rfl⟩:=SQ m0
    have hk10:k≤10:=Int.ofNat_le.mp (Int.le_of_lt_add_one m1)
    obtain⟨ex',hc⟩:=aEh sh p d ⟨false,z,ns⟩ hl (ω.dr xs₂ mx₂) K T k hk10 hn ks vs ex
    exact .mk (some (wR ⟨false,z,ns⟩ k ω.n)) ((ω.dr xs₂ mx₂).inc k) _ _ _ _ ex' (.cut k hk10) hx₂ (go (hV (show some (decide (d < 4),_)=_ by rw [decide_eq_true h4]) (aO (iI (gF (dJ rfl rfl) (hm _ _ _))) (cW (tW (zE (dJ rfl hc) rfl) (KR (hkl:=hkl) (hk:=hk) ..) rfl rfl)))))
  ·have same:sN ⟨false,z,ns⟩ ω.n (some ⟨false,z,ns⟩) (ω.dr xs mx).n:=by
    have:=sN.cut (v:=⟨false,z,ns⟩) (n:=ω.n) 0 (jP _)
    rwa [show wR ⟨false,z,ns⟩ 0 ω.n=⟨false,z,ns⟩ by show aT.mk false z (ns.take 10++[])=_;rw [gK,Hj (dQ hl)]] at this
   have go2:∀ {st'},bl [(bH (t2 (aA 5) (kI 4) cK) (bl [(gB fQ (aY (ar [(b2 (b2 PG Al bM) (b2 (aA 6) (kI 0) aV) (bX eM)),(b2 (aA 6) (kI 1) aV)]) cM) (aA 3) (aA 4))]) (bl [(bH (t2 (aA 5) (kI 5) sP) (bl [(gB fQ (aA 6) (aA 3) (aA 4))]) (bl []))]))] (nU sh p d ⟨false,z,ns⟩ o7 (s8 (ω.dr xs mx) K T) ks vs ex)=some (.next,st')→_:=fun {st'} h=>go (eV (show some (decide (d < 4),_)=_ by rw [decide_eq_false h4]) h)
   have hd8:=aGI d0 d1 h4
   rcases hd8 with rfl | rfl | rfl | rfl
   ·exact .mk (some ⟨true,z,ns⟩) (ω.dr xs mx) _ _ _ _ ex .flip hx₁ (go2 (cW (hV rfl (cW (tW (zE (as:=[.pv (.int 33261),.pv (lp (bJ z ns))]) rfl rfl) (KR (hkl:=hkl) (hk:=hk) ..) rfl rfl)))))
   ·exact .mk none (ω.dr xs mx) _ _ _ _ ex .gone hx₁ (go2 (cW (eV rfl (cW (eV rfl rfl)))))
   ·exact .mk _ (ω.dr xs mx) _ _ _ _ ex same hx₁ (go2 (cW (eV rfl (cW (hV rfl (cW (tW rfl (KR (hkl:=hkl) (hk:=hk) ..) rfl rfl)))))))
   ·exact .mk _ (ω.dr xs mx) _ _ _ _ ex same hx₁ (go2 (cW (eV rfl (cW (hV rfl (cW (tW rfl (KR (hkl:=hkl) (hk:=hk) ..) rfl rfl)))))))
theorem aIw(hs:sh= .dct .bytes [.bytes [97],.bytes [98]] [w₁,w₂])(hxs:ω.xs.length≤24)(hn:ω.n+10≤99)(hkl:ks.length≤9)(hk:dhas ks (.bytes [99])=false):Nb (yM ω.n) sh 99 K T ω o4 o5 o6 o7 ks vs ex:=by
 cases HX 8 (by decide) ω hxs with
 |mk d xs mx d0 d1 hx₁ hd=>
  have go:∀ {st'},Bs (nS sh (some (.pv (.bytes [99]))) (some (.pv (.int d))) (some (.pv .none)) o7 (s8 (ω.dr xs mx) K T) ks vs ex)=some (.next,st')→(bd (nT 4 (.bytes [99])) fun _=>nB) (nS sh o4 o5 o6 o7 (s8 ω K T) ks vs ex)=some (.next,st'):=fun {st'} h=>by
   subst hs
   exact Sr (hd _ _ _) (fun _=>rfl) (fun _=>rfl) (hV rfl (cW h))
  by_cases h4:d < 4
  ·cases YW (ω.dr xs mx) hx₁ hn with
   |mk z xs₂ mx₂ hx₂ hm=>exact .mk (some (fV z ω.n)) ((ω.inc 10).dr xs₂ mx₂) _ _ _ _ _ (.mk z) hx₂ (go (hV (show some (decide (d < 4),_)=_ by rw [decide_eq_true h4]) (cW (tW (gF (dJ rfl rfl) (hm _ _ _)) (KR (hkl:=hkl) (hk:=hk) ..) rfl rfl))))
  ·exact .mk none (ω.dr xs mx) (some (.pv (.bytes [99]))) (some (.pv (.int d))) (some (.pv .none)) o7 ex .no hx₁ (go (eV (st₁:=nS sh (some (.pv (.bytes [99]))) (some (.pv (.int d))) (some (.pv .none)) o7 (s8 (ω.dr xs mx) K T) ks vs ex) (show some (decide (d < 4),_)=_ by rw [decide_eq_false h4]) rfl))
end
noncomputable def FQ(p:Nat)(v:Option aT):List (Nat×aT):=match v with
 |some v=>[(p,v)]
 |none=>[]
noncomputable def pA(a b c:Option aT):List (Nat×aT):=FQ 97 a++FQ 98 b++FQ 99 c
noncomputable def cQ(a b c:Option aT):PV:=.dct .bytes ((pA a b c).map fun e=>.bytes [e.1]) ((pA a b c).map fun e=>vp e.2)
theorem sN.le(h:sN v n r n'):n'≤n+10:=by
 cases h with
 |cut k h=>exact oB h _
 |_=>exact oD _ _
theorem WC(ks:List PV)(p:Nat)(r:Option aT):(yQ ks p r).length≤ks.length+1:=by
 cases r with
 |none=>exact oE _
 |some r=>exact dQ (fE ..)
theorem Wr(a b c:Option aT):yQ (yQ (yQ [] 97 a) 98 b) 99 c=(pA a b c).map (fun e=>.bytes [e.1])∧MS (MS (MS [] a) b) c=(pA a b c).map (fun e=>vp e.2):=by
 cases a <;> cases b <;> cases c <;> exact⟨rfl,rfl⟩
inductive aAn(va vb:aT)(K:List (List Nat))(T:List PV)(ω:Dk):Prop
 |mk (a b c:Option aT) (n₁ n₂:Nat) (ω':Dk) (h₁:sN va ω.n a n₁) (h₂:sN vb n₁ b n₂) (h₃:yM n₂ c ω'.n) (hx:ω'.xs.length≤24) (e:∀ ex,OG [.ref 2,.ref 7,.pv (cQ (some va) (some vb) none)] (s8 ω K T++ex)=some (.pv (cQ a b c),s8 ω' K T++ex))
theorem Ta(va vb:aT)(ha:va.x=false)(hla:va.ns.length=10)(hb:vb.x=false)(hlb:vb.ns.length=10)(K:List (List Nat))(T:List PV)(ω:Dk)(hxs:ω.xs.length≤24)(hn:ω.n+30≤99):aAn va vb K T ω:=by
 let sh:=cQ (some va) (some vb) none
 cases Sq (sh:=sh) (p:=97) (ks:=[]) va ha hla rfl rfl hxs (aP (oB (by decide) _) hn) (by decide) rfl with
 |mk a ω₁ p4 p5 p6 p7 ex₁ h₁ hx₁ e₁=>
 have g₁:ω₁.n+20≤99:=aP (lJ h₁.le 20) hn
 cases Sq (sh:=sh) (p:=98) (ks:=yQ [] 97 a) vb hb hlb rfl rfl hx₁ (aP (oB (by decide) _) g₁) (aP (WC ..) (by decide)) (by cases a <;> rfl) with
 |mk b ω₂ q4 q5 q6 q7 ex₂ h₂ hx₂ e₂=>
 cases aIw (sh:=sh) (ks:=yQ (yQ [] 97 a) 98 b) rfl hx₂ (aP (lJ h₂.le 10) g₁) (aP (WC ..) (kZ (aP (WC ..) (by decide)))) (by cases a <;> cases b <;> rfl) with
 |mk c ω₃ r4 r5 r6 r7 ex₃ h₃ hx₃ e₃=>
 rw [(Wr a b c).1,(Wr a b c).2] at e₃
 let F:St:=nS sh none none none none (s8 ω K T) [] [] []
 let G:St:=nS sh r4 r5 r6 r7 (s8 ω₃ K T) ((pA a b c).map (fun e=>.bytes [e.1])) ((pA a b c).map (fun e=>vp e.2)) ex₃
 exact .mk a b c ω₁.n ω₂.n ω₃ h₁ h₂ h₃ hx₃ fun ex=>iM (eJ (st:=⟨G.loc,s8 ω₃ K T++.dead::ex₃⟩) rfl (aO (by rfl) (aO ((mP rfl rfl).trans ((gL e₁).trans ((gL e₂).trans ((gL e₃).trans rfl)))) (eZ (fC rfl))))) rfl rfl
section
set_option tactic.hygienic true
section
variable{st:St}{j:Nat}{k:List Nat}{ks vs:List PV}{y:PV}{b:SV}
theorem NP(h:st.cells[j]? =some (.dict kd ks vs)):BC st (.ref j)=some (kd,ks,vs):=by
 unfold BC;dsimp only;rw [h]
theorem Tq{α:Type}{f:List PV→M α}(h:st.cells[j]? =some (.dict kd ks vs)):iD (.ref j) f er st=none:=by
 unfold iD;rw [show lZ st (.ref j)=none by unfold lZ;dsimp only;rw [h]];rfl
theorem BY(h:st.cells[j]? =some (.dict .bytes ks vs)):fB (.pv (.bytes k)) (.ref j) st=some ((dN ks vs (.bytes k)).isNone,st):=by
 have h1:sW uA (.pv (.bytes k)) (.ref j) st=none:=by
  unfold sW bd
  exact(show uA (.pv (.bytes k)) (.ref j) st=none from Tq h).symm▸rfl
 have h3:zI (.pv (.bytes k)) (.ref j) st=some ((dN ks vs (.bytes k)).isSome,st):=by
  show kF (.ref j) _ _ st=_;unfold kF;rw [NP h];rfl
 exact(mN h1).trans ((mN rfl).trans (pM ((aJ h3).trans (by cases dN ks vs (.bytes k) <;> rfl))))
variable{kd:KD}{p:PV}
theorem Qe(h:BC st b=some (kd,ks,vs))(q:kD kd p=true)(e:dN ks vs p=some y):Ae b (.pv p) st=some (.pv y,st):=by
 show kF b _ _ st=_
 unfold kF
 rw [h]
 show gd (kD kd p) (eW (dN ks vs p) _) st=_
 rw [q,e];rfl
theorem Oh(h:BC st b=some (kd,ks,vs))(q:kD kd p=true):zF b (.pv p) c st=some (CB .pv c (dN ks vs p),st):=by
 refine pM ?_
 show kF b _ _ st=_
 unfold kF
 rw [h]
 show gd (kD kd p) (rt (CB _ c (dN ks vs p))) st=_
 rw [q];rfl
theorem Wk(h:st.cells[j]? =some (.dict kd ks vs))(q:kD kd p=true)(hl:ks.length≤1000)(hn:dhas ks p=false):fQ (.ref j) (.pv p) (.pv y) st=some ((),fD st j (.dict kd (ks++[p]) (vs++[y]))):=by
 refine pM ?_
 show xI (.ref j) _ _ st=_
 unfold xI
 dsimp only
 rw [h]
 show gd (kD kd p && decide (ks.length≤1000000)) (fun st=>some ((),fD st j (.dict kd (dY ks vs p y).1 (dY ks vs p y).2))) st=_
 rw [q,decide_eq_true (aP hl (bT rfl))]
 unfold dY
 rw [hn]
 rfl
theorem LD(h:BC st b=some (.bytes,ks,vs))(e:dN ks vs (.bytes k)=some y):aV b (.pv (.bytes k)) st=some (.pv y,st):=(mN rfl).trans (pM (Qe h rfl e))
theorem QV(h:st.cells[j]? =some (.dict .bytes ks vs))(hl:ks.length≤1000)(hn:dhas ks (.bytes k)=false):fQ (.ref j) (.pv (.bytes k)) (.pv y) st=some ((),fD st j (.dict .bytes (ks++[.bytes k]) (vs++[y]))):=Wk h rfl hl hn
end
theorem yR{j:Nat}{xs:List PV}{y:PV}(h:st.cells[j]? =some (.list xs))(hl:xs.length≤1000000):dD (.ref j) (.pv y) st=some (.pv .none,fD st j (.list (xs++[y]))):=by
 unfold dD qK
 dsimp only
 rw [h]
 show dM xs.length _ st=_
 unfold dM
 rw [decide_eq_true hl]
 rfl
theorem Mp{j:Nat}{xs ys:List PV}(h:st.cells[j]? =some (.list xs))(hl:xs.length+ys.length≤1000000):BU (.ref j) (.pv (.lst ys)) st=some (.pv .none,fD st j (.list (xs++ys))):=by
 unfold BU qK
 dsimp only
 rw [h]
 show dM (xs.length+ys.length) _ st=_
 unfold dM
 rw [decide_eq_true hl]
 rfl
section
variable{α:Type}{enc:α→PV}(hk:∀ a b,iZ (enc a) (enc b)=true↔a=b)
include hk
theorem PJ(h:a≠b):iZ (enc a) (enc b)=false:=by
 cases e:iZ (enc a) (enc b) with
 |true=>exact absurd ((hk a b).mp e) h
 |false=>rfl
theorem EO:∀ {L:List α} {vs:List PV},k∉L→dN (L.map enc) vs (enc k)=none
 | [],vs,_=>by cases vs <;> rfl
 |l::K,[],_=>rfl
 |l::K,v::vs,h=>by
  show(match iZ (enc l) (enc k) with | true=>some v | false=>dN (K.map enc) vs (enc k))=none
  rw [PJ hk (fun e=>h (by simp [e]))]
  exact EO (fun m=>h (sF _ m))
theorem EN:∀ {L:List α},k∉L→dhas (L.map enc) (enc k)=false
 | [],_=>rfl
 |l::K,h=>by
  show(match iZ (enc l) (enc k) with | true=>true | false=>dhas (K.map enc) (enc k))=false
  rw [PJ hk (fun e=>h (by simp [e]))]
  exact EN (fun m=>h (sF _ m))
theorem BN:∀ {L:List α} {vs:List PV} {i:Nat} {v:PV},L.Nodup→L[i]? =some k→vs[i]? =some v→dN (L.map enc) vs (enc k)=some v
 | [],vs,i,v,_,h,_=>by simp at h
 |l::K,[],i,v,_,_,h=>by simp at h
 |l::K,w::vs,0,v,_,h,h'=>by
  simp only [List.getElem?_cons_zero,TR] at h h'
  subst h h'
  show(match iZ (enc l) (enc l) with | true=>some w | false=>dN (K.map enc) vs (enc l))=_
  exact((hk l l).mpr rfl).symm▸rfl
 |l::K,w::vs,i+1,v,hn,h,h'=>by
  simp only [List.getElem?_cons_succ] at h h'
  have hm:k∈K:=nZ h
  have hne:l≠k:=fun e=>(List.nodup_cons.mp hn).1 (e▸hm)
  show(match iZ (enc l) (enc k) with | true=>some w | false=>dN (K.map enc) vs (enc k))=_
  refine(PJ hk hne).symm▸?_
  exact BN (List.nodup_cons.mp hn).2 h h'
end
theorem aFe(h:k≠l):eqL k l=false:=PJ (enc:=PV.bytes) (fun _ _=>jI) h
section
variable{k:List Nat}{K:List (List Nat)}
theorem Lx{vs:List PV}(h:k∉K):dN (kK K) vs (.bytes k)=none:=EO (enc:=PV.bytes) (fun _ _=>jI) h
theorem Lu(h:k∉K):dhas (kK K) (.bytes k)=false:=EN (enc:=PV.bytes) (fun _ _=>jI) h
theorem NO{i:Nat}{v:PV}(n:K.Nodup)(h:K[i]? =some k)(h':vs[i]? =some v):dN (kK K) vs (.bytes k)=some v:=BN (enc:=PV.bytes) (fun _ _=>jI) n h h'
end
theorem ZT:∀ {n j i:Nat},i < n→(iV n j)[i]? =some (.int ((j+i+1:Nat):Int))
 |0,_,_,h=>absurd h (Nat.not_lt_zero _)
 |n+1,j,0,_=>rfl
 |n+1,j,i+1,h=>by
  exact(ZT (Hm h)).trans (congrArg (fun x:Nat=>some (PV.int (x+1:Nat))) (vX j i))
theorem Pw:∀ n j,iV (n+1) j=iV n j++[.int ((j+n+1:Nat):Int)]
 |0,j=>rfl
 |n+1,j=>by
  show _::iV (n+1) (j+1)=_::(iV n (j+1)++_)
  refine(Pw n (j+1)).symm▸?_
  have:j+1+n+1=j+(n+1)+1:=congrArg lK (vX j n)
  rw [this]
noncomputable def oK:Nat→Nat→List (List Nat)
 |0,_=>[]
 |n+1,i=>dG (i+1)::oK n (i+1)
theorem zO:∀ n i,oV n i=kK (oK n i)
 |0,_=>rfl
 |n+1,i=>by show _::oV n (i+1)=_::kK (oK n (i+1));rw [zO n]
theorem QG(h:dG i=dG j):i=j:=by
 unfold dG at h
 simpa using h
theorem Th:∀ n i,(oK n i).length=n
 |0,_=>rfl
 |n+1,i=>by show(oK n (i+1)).length+1=_;rw [Th n]
theorem Cb:∀ {n j i:Nat},i < n→(oK n j)[i]? =some (dG (j+i+1))
 |0,_,_,h=>absurd h (Nat.not_lt_zero _)
 |n+1,j,0,_=>rfl
 |n+1,j,i+1,h=>by
  exact(Cb (Hm h)).trans (congrArg (fun x:Nat=>some (dG (x+1))) (vX j i))
theorem Cc:∀ {n j:Nat} {k:List Nat},k∈oK n j→∃ i,j < i∧i≤j+n∧k=dG i
 |0,_,_,h=>by cases h
 |n+1,j,k,h=>by
  rcases List.mem_cons.mp h with rfl | h
  ·exact⟨j+1,xY j,oB (MC 1 n) j,rfl⟩
  ·obtain⟨i,h1,h2,h3⟩:=Cc h
   exact⟨i,Nat.lt_of_succ_lt h1,aP h2 (dQ (vX j n)),h3⟩
theorem Cd:∀ n j,(oK n j).Nodup
 |0,_=>pH
 |n+1,j=>by
  refine List.nodup_cons.mpr ⟨fun h=> ?_,Cd n (j+1)⟩
  obtain⟨i,h1,_,h3⟩:=Cc h
  exact qR h1 (QG h3)
theorem Ti:∀ n j,oK (n+1) j=oK n j++[dG (j+n+1)]
 |0,j=>rfl
 |n+1,j=>by
  show _::oK (n+1) (j+1)=_::(oK n (j+1)++_)
  refine(Ti n (j+1)).symm▸?_
  have:j+1+n+1=j+(n+1)+1:=congrArg lK (vX j n)
  rw [this]
theorem Jf(n:Nat)(h:n < 64)(ex:List SO):YI [.pv (.int (n:Nat)),.pv (.int 4)] ex=some (.pv (.bytes (dG n)),ex):=by
 have:∀ n:Fin 64,(match bG 4 (gN 2) Jz [.pv (.int (n.val:Nat)),.pv (.int 4)] [] with | some (.pv (.bytes l),_)=>decide (l=dG n.val) | _=>false)=true:=by decide+kernel
 have:=this ⟨n,h⟩
 dsimp only at this
 split at this
 ·rename_i l j q
  have:=of_decide_eq_true this
  subst this
  exact mT q rfl
 ·exact GD this
end
theorem Aj(K:List (List Nat)):(kK K).length=K.length:=bQ ..
theorem aEy(ω:Dk)(K:List (List Nat))(T:List PV)(k:List Nat)(i:Nat)(hn:K.Nodup)(hi:K[i]? =some k)(hl:K.length≤60)(ex:List SO):NV [.ref 3,.pv (.bytes k)] (s8 ω K T++ex)=some (.pv (.bytes (dG (i+1))),s8 ω K T++ex):=by
 have hik:i < K.length:=(List.getElem?_eq_some_iff.mp hi).1
 have hf:dN (kK K) (iV K.length 0) (.bytes k)=some (.int ((i+1:Nat):Int)):=NO hn hi (by rw [ZT hik];rw [kG])
 refine iM (eJ (st:=⟨[some (.ref 3),some (.pv (.bytes k)),some (.pv (.bytes k)),none,none,none],s8 ω K T++[]⟩) rfl (aO (iI (eU rfl rfl)) (aO (eV ((jL rfl rfl).trans ((BY rfl).trans (by rw [hf];rfl))) rfl) (eZ (fC ?_))))) rfl rfl
 have e1:b2 (ge uW (aA 0)) (aA 2) aV ⟨[some (.ref 3),some (.pv (.bytes k)),some (.pv (.bytes k)),none,none,none],s8 ω K T⟩=some (.pv (.int ((i+1:Nat):Int)),⟨[some (.ref 3),some (.pv (.bytes k)),some (.pv (.bytes k)),none,none,none],s8 ω K T⟩):=jG rfl rfl (LD rfl hf)
 exact gF (st₁:=⟨[some (.ref 3),some (.pv (.bytes k)),some (.pv (.bytes k)),none,none,none],s8 ω K T⟩) (dJ e1 rfl) (Jf (i+1) (ul (aP hik hl) rfl) _)
theorem aEx(ω:Dk)(K:List (List Nat))(T:List PV)(k:List Nat)(hn:K.Nodup)(hi:k∉K)(hl:K.length≤50)(ex:List SO):NV [.ref 3,.pv (.bytes k)] (s8 ω K T++ex)=some (.pv (.bytes (dG (K.length+1))),s8 ω (K++[k]) T++ex):=by
 have hn':(K++[k]).Nodup:=List.nodup_append.mpr ⟨hn,List.nodup_cons.mpr ⟨GP,pH⟩,fun a ha b hb e=>by rw [List.mem_singleton.mp hb] at e;exact hi (e▸ha)⟩
 have hf:dN (kK (K++[k])) (iV (K++[k]).length 0) (.bytes k)=some (.int ((K.length+1:Nat):Int)):=NO (i:=K.length) hn' (by simp) (by rw [ZT (by simp)];rw [kG])
 have hc:s8 ω (K++[k]) T=(s8 ω K T).set 4 (.dict .bytes (kK K++[.bytes k]) (iV K.length 0++[.int ((K.length+1:Nat):Int)])):=by
  unfold s8
  rw [show(K++[k]).length=K.length+1 from by simp,Pw,kG,show kK (K++[k])=kK K++[.bytes k] from by unfold kK;rw [cU];rfl]
  rfl
 have hlen:ge iL (ge uW (aA 0)) ⟨[some (.ref 3),some (.pv (.bytes k)),some (.pv (.bytes k)),none,none,none],s8 ω K T⟩=some (.pv (.int (K.length:Nat)),⟨[some (.ref 3),some (.pv (.bytes k)),some (.pv (.bytes k)),none,none,none],s8 ω K T⟩):=by
  refine(BM rfl).trans ?_
  refine(mN rfl).trans (pM ?_)
  show dM (kK K).length (rt (SV.pv (.int ((kK K).length:Nat)))) _=_
  rw [Aj]
  unfold dM
  rw [decide_eq_true (ub hl rfl:K.length≤1000000)]
  rfl
 refine iM (eJ (st:=⟨[some (.ref 3),some (.pv (.bytes k)),some (.pv (.bytes k)),none,none,none],s8 ω (K++[k]) T++[]⟩) rfl (aO (iI (eU rfl rfl)) (aO (st₁:=⟨[some (.ref 3),some (.pv (.bytes k)),some (.pv (.bytes k)),none,none,none],s8 ω (K++[k]) T⟩) (hV ((jL rfl rfl).trans ((BY rfl).trans (by rw [Lx hi];rfl))) ?_) (eZ (fC ?_))))) rfl rfl
 ·refine cW (tW (u:=()) (c:=.pv (.int ((K.length+1:Nat):Int))) ((uZ hlen rfl).trans rfl) ((QV rfl (by rw [Aj];exact ub hl rfl) (Lu hi)).trans ?_) rfl rfl)
  rw [hc]
  rfl
 ·have e1:b2 (ge uW (aA 0)) (aA 2) aV ⟨[some (.ref 3),some (.pv (.bytes k)),some (.pv (.bytes k)),none,none,none],s8 ω (K++[k]) T⟩=some (.pv (.int ((K.length+1:Nat):Int)),⟨[some (.ref 3),some (.pv (.bytes k)),some (.pv (.bytes k)),none,none,none],s8 ω (K++[k]) T⟩):=jG rfl rfl (LD rfl hf)
  exact gF (st₁:=⟨[some (.ref 3),some (.pv (.bytes k)),some (.pv (.bytes k)),none,none,none],s8 ω (K++[k]) T⟩) (dJ e1 rfl) (Jf (K.length+1) (ul (kZ hl) rfl) _)
inductive Zs(ω:Dk)(K:List (List Nat))(T:List PV)(kd:List Nat)(ct:List Nat)(k:List Nat)(th:PV):Prop
 |mk (K':_) (T':_) (i:_) (hh0:((k∈K∧K'=K∧T'=T)∨(k∉K∧K'=K++[k]∧T'=T++[.tup [.bytes kd,th]]))) (hh1:K'[i]? =some k) (hh2:∀ ex,IB [.ref 5,.pv (.bytes kd),.pv (.bytes ct),.pv th] (s8 ω K T++ex)=some (.pv (.bytes (dG (i+1))),s8 ω K' T'++ex))
theorem aHk(ω:Dk)(K:List (List Nat))(T:List PV)(kd ct k:List Nat)(th:PV)(hn:K.Nodup)(hl:K.length≤50)(ht:T.length=K.length)(ho:∀ ex,EG [.pv (.bytes kd),.pv (.bytes ct)] ex=some (.pv (.bytes k),ex)):Zs ω K T kd ct k th:=by
 by_cases hk:k∈K
 ·obtain⟨i,hi⟩:=TF hk
  have hik:i < K.length:=(List.getElem?_eq_some_iff.mp hi).1
  refine⟨K,T,i,.inl ⟨hk,rfl,rfl⟩,hi,fun ex=> ?_⟩
  have hf:dN (oV T.length 0) T (.bytes (dG (i+1)))=T[i]?:=by
   rw [zO,ht]
   have:T[i]? =some (T[i]'(Nat.lt_of_lt_of_eq hik ht.symm)):=tO _
   rw [this]
   exact NO (Cd _ _) (by rw [Cb hik,kG]) this
  refine iM (eJ (st:=⟨[some (.ref 5),some (.pv (.bytes kd)),some (.pv (.bytes ct)),some (.pv th),some (.pv (.bytes (dG (i+1)))),none],s8 ω K T++[]⟩) rfl (aO (iI (jK rfl rfl (iH (gF (dJ rfl rfl) (ho _))) (aEy ω K T k i hn hi (ub hl rfl) []))) (aO (eV ((jL rfl rfl).trans ((BY rfl).trans (by rw [hf,tO (Nat.lt_of_lt_of_eq hik ht.symm)];rfl))) rfl) (eZ (fC rfl))))) rfl rfl
 ·refine⟨K++[k],T++[.tup [.bytes kd,th]],K.length,.inr ⟨hk,rfl,rfl⟩,by simp,fun ex=> ?_⟩
  have hno:dG (K.length+1)∉oK K.length 0:=fun h=>by
   obtain⟨i,_,h2,h3⟩:=Cc h
   exact Nat.not_succ_le_self _ (aP (dQ (QG h3)) (aP h2 (dQ (kG _))))
  have hc:s8 ω (K++[k]) (T++[.tup [.bytes kd,th]])=(s8 ω (K++[k]) T).set 6 (.dict .bytes (oV T.length 0++[.bytes (dG (K.length+1))]) (T++[.tup [.bytes kd,th]])):=by
   unfold s8
   rw [show(T++[PV.tup [.bytes kd,th]]).length=K.length+1 from by simp [ht],ht,zO,Ti,kG,zO,show kK (oK K.length 0++[dG (K.length+1)])=kK (oK K.length 0)++[.bytes (dG (K.length+1))] from by unfold kK;rw [cU];rfl]
   rfl
  refine iM (eJ (st:=⟨[some (.ref 5),some (.pv (.bytes kd)),some (.pv (.bytes ct)),some (.pv th),some (.pv (.bytes (dG (K.length+1)))),none],s8 ω (K++[k]) (T++[.tup [.bytes kd,th]])++[]⟩) rfl (aO (iI (jK rfl rfl (iH (gF (dJ rfl rfl) (ho _))) (aEx ω K T k hn hk hl []))) (aO (st₁:=⟨[some (.ref 5),some (.pv (.bytes kd)),some (.pv (.bytes ct)),some (.pv th),some (.pv (.bytes (dG (K.length+1)))),none],s8 ω (K++[k]) (T++[.tup [.bytes kd,th]])⟩) (hV ((jL rfl rfl).trans ((BY rfl).trans (by rw [zO,ht,Lx hno];rfl))) ?_) (eZ (fC rfl))))) rfl rfl
  refine cW (tW (u:=()) (zE (dJ rfl rfl) rfl) ((QV rfl (by rw [zO,Aj,Th];exact aP (dQ ht) (ub hl rfl)) (by rw [zO,ht];exact Lu hno)).trans ?_) rfl rfl)
  rw [hc]
  rfl
noncomputable abbrev En:=Nat×Bool×Nat
inductive It where
 |blob (z:Bool) (ns:List Nat)
 |tree (es:List En)
theorem It.tree.inj(h:It.tree a= .tree b):a=b:=by cases h;rfl
theorem aBG(h:some (It.blob z ns)=some (.blob z' ns')):bJ z ns=bJ z' ns':=by cases h;rfl
noncomputable def ct(z:Bool)(ns:List Nat):List Nat:=(bJ z ns).flatten
noncomputable def e8(x:Bool):List Nat:=match x with
 |true=>[49,48,48,55,53,53]
 |false=>[49,48,48,54,52,52]
noncomputable def DZ(e:En):List Nat:=e8 e.2.1++([32,e.1,0]++dG e.2.2)
noncomputable def dg:Nat→List Nat
 |0=>[48]
 |1=>[49,51]
 |2=>[50,54]
 |_=>[51,57]
noncomputable def dH(e:En):PV:=.obj 9 [.int (mo e.2.1),.bytes [e.1],.bytes (dG e.2.2)]
noncomputable def xR(es:List En):PV:=.obj 10 [.lst (es.map dH)]
noncomputable def xH(es:List En):List Nat:=es.flatMap DZ
noncomputable def It.key:It→List Nat
 |.blob z ns=>[98,108,111,98]++[32]++[52,48]++[0]++ct z ns
 |.tree es=>[116,114,101,101]++[32]++dg es.length++[0]++xH es
noncomputable def It.val:It→PV
 |.blob z ns=>.tup [.bytes [98,108,111,98],.bytes (ct z ns)]
 |.tree es=>.tup [.bytes [116,114,101,101],xR es]
noncomputable def It.ok:It→Prop
 |.blob _ ns=>ns.length=10
 |.tree es=>es.length≤3
theorem Lz(h:m / 10+48=n / 10+48∧m % 10+48=n % 10+48):m=n:=
 (Nat.div_add_mod m 10).symm.trans ((congr (congrArg (fun a b=>10*a+b) (Nat.add_right_cancel h.1)) (Nat.add_right_cancel h.2)).trans (Nat.div_add_mod n 10))
theorem Ro(h:ln m=ln n):m=n:=by
 unfold ln at h
 simp only [SU,and_true,true_and] at h
 exact Lz h
theorem Rt(h:lW z m=lW z' n):z=z'∧m=n:=by
 unfold lW ln lz at h
 cases z <;> cases z' <;> simp only [SU,and_true,true_and] at h <;> first | exact⟨rfl,Lz h⟩ | exact absurd h.1 (by decide)
theorem Ru(z:Bool)(n:Nat):(lW z n).length=4:=by cases z <;> rfl
theorem Sg:∀ {a b:List Nat},(a.map ln).flatten=(b.map ln).flatten→a=b
 | [],[],_=>rfl
 | [],_::_,h=>by simp [ln] at h
 |_::_,[],h=>by simp [ln] at h
 |m::a,n::b,h=>by
  obtain⟨h1,h2⟩:=List.append_inj h rfl
  have:=Ro h1
  have:=Sg h2
  subst_vars;rfl
theorem Li(la:a.length=10)(lb:b.length=10)(h:ct z a=ct z' b):z=z'∧a=b:=by
 match a,b,la,lb with
 |m::a,n::b,_,_=>
  unfold ct bJ at h
  simp only [TB] at h
  obtain⟨h1,h2⟩:=List.append_inj h (by rw [Ru,Ru])
  obtain⟨h3,h4⟩:=Rt h1
  have:=Sg h2
  subst_vars;exact⟨rfl,rfl⟩
theorem aEJ(h:DZ e=DZ e'):e=e':=by
 obtain⟨p,x,i⟩:=e
 obtain⟨p',x',i'⟩:=e'
 unfold DZ e8 dG at h
 cases x <;> cases x' <;> simp at h <;> obtain⟨rfl,rfl⟩:=h <;> rfl
theorem NQ(e:En):(DZ e).length=13:=by
 obtain⟨p,x,i⟩:=e
 cases x <;> rfl
theorem Cm(a:List En):(xH a).length=13*a.length:=by
 induction a with
 |nil=>rfl
 |cons e a ih=>simp only [xH,AG,fE,NQ,tP] at ih ⊢;exact(congrArg (13+ ·) ih).trans (vV 13 _)
theorem To:∀ {a b:List En},xH a=xH b→a=b
 | [],[],_=>rfl
 | [],e::b,h=>absurd ((Cm []).symm.trans ((congrArg AH h).trans (Cm (e::b)))) (Nat.succ_ne_zero _).symm
 |e::a,[],h=>by have:=congrArg AH h;simp [xH,NQ] at this
 |e::a,e'::b,h=>by
  obtain⟨h1,h2⟩:=List.append_inj h (by rw [NQ,NQ])
  have:=aEJ h1
  have:=To h2
  subst_vars;rfl
theorem kl:∀ n≤3,∀ m≤3,4+1+(dg n).length+1+13*n=4+1+(dg m).length+1+13*m→n=m:=by decide
theorem Ap{a b:It}(ha:a.ok)(hb:b.ok)(h:a.key=b.key):a=b:=by
 cases a with
 |blob z ns=>
  cases b with
  |blob z' ns'=>
   have:=List.append_cancel_left h
   obtain⟨rfl,rfl⟩:=Li ha hb this
   rfl
  |tree es=>unfold It.key at h;cases h
 |tree es=>
  cases b with
  |blob z ns=>unfold It.key at h;cases h
  |tree es'=>
   have hl:es.length=es'.length:=by
    have h1:es.length≤3:=ha
    have h2:es'.length≤3:=hb
    have:=congrArg AH h
    simp only [It.key,fE,Cm] at this
    exact kl _ h1 _ h2 this
   simp only [It.key,hl] at h
   have:=To (List.append_cancel_left h)
   rw [this]
theorem aJa(z:Bool)(ns:List Nat)(h:ns.length=10)(ex:List SO):EG [.pv (.bytes [98,108,111,98]),.pv (.bytes (ct z ns))] ex=some (.pv (.bytes (It.blob z ns).key),ex):=by
 obtain⟨n₀,n₁,n₂,n₃,n₄,n₅,n₆,n₇,n₈,n₉⟩:=zM h
 refine mT (j:=[]) ?_ rfl
 cases z <;> kernel_rfl
theorem aJb(es:List En)(h:es.length≤3)(ex:List SO):EG [.pv (.bytes [116,114,101,101]),.pv (.bytes (xH es))] ex=some (.pv (.bytes (It.tree es).key),ex):=by
 refine mT (j:=[]) ?_ rfl
 cases es with
 |nil=>kernel_rfl
 |cons e es=>obtain⟨p,x,i⟩:=e;cases es with
  |nil=>cases x <;> kernel_rfl
  |cons e es=>obtain⟨q,y,j⟩:=e;cases es with
   |nil=>cases x <;> cases y <;> kernel_rfl
   |cons e es=>obtain⟨r,w,k⟩:=e;cases es with
    |nil=>cases x <;> cases y <;> cases w <;> kernel_rfl
    |cons=>exact absurd (TN (TN (TN h))) (Nat.not_succ_le_zero _)
theorem aPo(es:List En)(h:es.length≤3)(ex:List SO):YH [.pv (xR es)] ex=some (.pv (.bytes (xH es)),ex):=by
 refine mT (j:=[.list (es.map fun e=>.bytes (DZ e))]) ?_ rfl
 match es,h with
 | [],_=>kernel_rfl
 | [(_,x,_)],_=>cases x <;> kernel_rfl
 | [(_,x,_),(_,y,_)],_=>cases x <;> cases y <;> kernel_rfl
 | [(_,x,_),(_,y,_),(_,w,_)],_=>cases x <;> cases y <;> cases w <;> kernel_rfl
section
set_option tactic.hygienic true
theorem aAT(i:Nat)(h:i < 60)(ex:List SO):OH [.pv (.bytes (dG (i+1))),.pv (.bytes [0])] ex=some (.pv (.bool false),ex):=by
 have:∀ n:Fin 60,(match bG 3 (gN 2) Ka [.pv (.bytes (dG (n.val+1))),.pv (.bytes [0])] [] with | some (.pv (.bool b),_)=> !b | _=>false)=true:=by decide+kernel
 have:=this ⟨i,h⟩
 dsimp only at this
 split at this
 ·rename_i b j q
  cases b
  ·exact mT q rfl
  ·exact GD this
 ·exact GD this
noncomputable def Xw:List (M Fl):=[(bH (t2 (ge oJ (aA 4)) Qr fB) (bl [(ex (bK cR dD (aA 1) (kS [97,32,109,111,100,101,32,116,104,97,116,32,105,115,32,110,111,110,101])))]) (bl [])),
 (aZ 5 (cf YR (ar [(ge tV (aA 4))]))),
 (bH (t2 (aA 5) kN qD) (bl [(ex (bK cR dD (aA 1) (aA 5)))]) (bl [])),
 (bH (t2 (ge tV (aA 4)) (aA 2) vH) (bl [(ex (bK cR dD (aA 1) (kS [97,32,110,97,109,101,32,116,119,105,99,101])))]) (bl [(bH (cE (t2 (aA 3) kN qD) (cE (t2 (mc 9 IA (aA 4) (ar [])) (aA 3) Ba) (rt true))) (bl [(ex (bK cR dD (aA 1) (kS [101,110,116,114,105,101,115,32,111,117,116,32,111,102,32,111,114,100,101,114])))]) (bl []))]))]
noncomputable def Xv:List (M Fl):=[(gB fQ (kB true) (aA 2) (ge tV (aA 4))),
 (aZ 3 (mc 9 IA (aA 4) (ar [])))]
noncomputable def LF:M Fl:=bl (Xw++(bH (tv (cf OH (ar [(ge qU (aA 4)),(kY [0])]))) (bl [(ex (bK cR dD (aA 1) (kS [97,110,32,105,100,32,111,102,32,110,111,117,103,104,116,115])))]) (bl []))::Xv)
noncomputable def rZ(es:List En)(ps:List Nat)(o4 o5:Option SV):St:=⟨[some (.pv (xR es)),some (.ref 0),some (.ref 1),some (.pv (match ps.getLast? with | some p=>.bytes [p] | none=>.none)),o4,o5,none,none,none],[.list [],.dict .bytes (ps.map fun p=>.bytes [p]) (ps.map fun _=>.bool true)]⟩
theorem aPh(es:List En)(ps:List Nat)(p:Nat)(x:Bool)(i:Nat)(hi:i < 60)(o4 o5:Option SV)
  (h:bl (Xw) (rZ es ps (some (.pv (dH (p,x,i+1)))) o5)=some (.next,rZ es ps (some (.pv (dH (p,x,i+1)))) (some (.pv .none))))
  (h':bl (Xv) (rZ es ps (some (.pv (dH (p,x,i+1)))) (some (.pv .none)))=some (.next,rZ es (ps++[p]) (some (.pv (dH (p,x,i+1)))) (some (.pv .none)))):
  (bd (nT 4 (dH (p,x,i+1))) fun _=>LF) (rZ es ps o4 o5)=some (.next,rZ es (ps++[p]) (some (.pv (dH (p,x,i+1)))) (some (.pv .none))):=by
 refine(aJ rfl).trans ?_
 refine(MZ h).trans ?_
 exact aO (eV ((aJ (gF (dJ rfl rfl) (aAT i hi _))).trans rfl) rfl) h'
theorem aPi(es:List En)(ps:List Nat)(p:Nat)(x:Bool)(i:Nat)(hi:i < 60)(o4 o5:Option SV)(hc:(ps,p)∈[([],97),([],98),([97],98),([],99),([97],99),([98],99),([97,98],99)]):
  (bd (nT 4 (dH (p,x,i+1))) fun _=>LF) (rZ es ps o4 o5)=some (.next,rZ es (ps++[p]) (some (.pv (dH (p,x,i+1)))) (some (.pv .none))):=by
 simp only [AI,TU,GP,or_false] at hc
 rcases hc with⟨rfl,rfl⟩ | ⟨rfl,rfl⟩ | ⟨rfl,rfl⟩ | ⟨rfl,rfl⟩ | ⟨rfl,rfl⟩ | ⟨rfl,rfl⟩ | ⟨rfl,rfl⟩ <;> cases x <;> exact aPh _ _ _ _ _ hi _ _ (by kernel_rfl) (by kernel_rfl)
noncomputable def eL(p:Nat)(o:Option (Bool×Nat)):List En:=match o with
 |some (x,i)=>[(p,x,i+1)]
 |none=>[]
noncomputable def eS(a b c:Option (Bool×Nat)):List En:=eL 97 a++eL 98 b++eL 99 c
noncomputable abbrev OE:=Option (Bool×Nat)
noncomputable abbrev DS:List (List Nat×Nat):=[([],97),([],98),([97],98),([],99),([97],99),([98],99),([97,98],99)]
noncomputable def uD(o:Option (Bool×Nat)):Prop:=match o with
 |some (_,i)=>i < 60
 |none=>True
theorem XR(a b c:Option (Bool×Nat)):(eS a b c).length≤3:=by
 cases a <;> cases b <;> cases c <;> exact bT rfl
inductive TfO(es:List En)(ps:List Nat)(p:Nat)(o:OE)(o4 o5:Option SV)(rest:List PV):Prop
 |mk (q4 q5:Option SV) (h:fJ ((eL p o).map dH++rest) (fun x=>bd (nT 4 x) fun _=>LF) (rZ es ps o4 o5)=fJ rest (fun x=>bd (nT 4 x) fun _=>LF) (rZ es (ps++(eL p o).map (·.1)) q4 q5))
theorem Fd(es:List En)(ps:List Nat)(p:Nat)(o:OE)(ho:uD o)(hc:(ps,p)∈[([],97),([],98),([97],98),([],99),([97],99),([98],99),([97,98],99)])(o4 o5:Option SV)(rest:List PV):TfO es ps p o o4 o5 rest:=by
 cases o with
 |none=>exact .mk o4 o5 (by rw [show ps++(eL p none).map (·.1)=ps from gK ps];rfl)
 |some o=>exact .mk _ _ (gL (aPi es ps p o.1 o.2 ho o4 o5 hc))
theorem aFt(a b c:OE)(ha:uD a)(hb:uD b)(hc:uD c)(ex:List SO):YS [.pv (xR (eS a b c))] ex=some (.pv (.lst []),ex):=by
 let es:=eS a b c
 cases Fd es [] 97 a ha (by decide) none none ((eL 98 b).map dH++((eL 99 c).map dH++[])) with
 |mk p4 p5 e₁=>
 cases Fd es ([]++(eL 97 a).map (·.1)) 98 b hb (by cases a with
  |none=>exact(by decide:(([]:List Nat),98)∈DS)
  |some=>exact(by decide:([97],98)∈DS)) p4 p5 ((eL 99 c).map dH++[]) with
 |mk q4 q5 e₂=>
 cases Fd es ([]++(eL 97 a).map (·.1)++(eL 98 b).map (·.1)) 99 c hc (by cases a with
  |none=>cases b with
   |none=>exact(by decide:(([]:List Nat),99)∈DS)
   |some=>exact(by decide:([98],99)∈DS)
  |some=>cases b with
   |none=>exact(by decide:([97],99)∈DS)
   |some=>exact(by decide:([97,98],99)∈DS)) q4 q5 [] with
 |mk r4 r5 e₃=>
 let ps:=[]++(eL 97 a).map (·.1)++(eL 98 b).map (·.1)++(eL 99 c).map (·.1)
 have e:fJ (es.map dH) (fun x=>bd (nT 4 x) fun _=>LF) (rZ es [] none none)=some (.next,rZ es ps r4 r5):=
  (congrArg (fun l=>fJ l _ _) (show es.map dH=(eL 97 a).map dH++((eL 98 b).map dH++((eL 99 c).map dH++[])) by show(eS a b c).map dH=_;unfold eS;rw [gK,cU,cU,gJ])).trans (e₁.trans (e₂.trans e₃))
 exact mT (eJ rfl (aO (st₁:=rZ es [] none none) rfl (aO ((mP rfl rfl).trans e) (eZ (fC rfl))))) rfl
theorem aDH(a b c:Option (Bool×Nat))(ha:uD a)(hb:uD b)(hc:uD c)(ex:List SO):YJ [.pv (xR (eS a b c))] ex=some (.pv .none,ex):=
 mT (KP rfl (aO (iI (gF (iH rfl) (aFt a b c ha hb hc _))) (cW (eV rfl rfl)))) rfl
noncomputable abbrev sS(ω:Dk)(S:List It):List SO:=s8 ω (S.map It.key) (S.map It.val)
structure Gd(S:List It):Prop where
 nodup:S.Nodup
 ok:∀ it∈S,it.ok
structure nX(S S':List It)(k:Nat):Prop where
 gd:Gd S'
 pre:S <+:S'
 len:S'.length≤S.length+k
theorem nX.trans(h:nX S S' k)(h':nX S' S'' l):nX S S'' (k+l):=⟨h'.gd,h.pre.trans h'.pre,aP h'.len (aP (lJ h.len l) (dQ (uR ..)))⟩
theorem KI(h:S <+:S'){i:Nat}{it:It}(e:S[i]? =some it):S'[i]? =some it:=by
 obtain⟨t,rfl⟩:=h
 rw [LS (List.getElem?_eq_some_iff.mp e).1]
 exact e
theorem aHs(h:Gd S):(S.map It.key).Nodup:=by
 obtain⟨hn,hk⟩:=h
 induction S with
 |nil=>exact pH
 |cons a S ih=>
  rw [iS,LZ]
  refine⟨fun hm=> ?_,ih (List.nodup_cons.mp hn).2 fun it h=>hk it (sF _ h)⟩
  obtain⟨b,hb,e⟩:=List.mem_map.mp hm
  have:=Ap (hk b (sF _ hb)) (hk a (uP ..)) e
  exact(List.nodup_cons.mp hn).1 (this▸hb)
inductive Zt(ω:Dk)(S:List It)(it:It)(kd:List Nat)(ct:List Nat)(th:PV):Prop
 |mk (S':_) (i:_) (hh0:nX S S' 1) (hh1:S'[i]? =some it) (hh2:∀ ex,IB [.ref 5,.pv (.bytes kd),.pv (.bytes ct),.pv th] (sS ω S++ex)=some (.pv (.bytes (dG (i+1))),sS ω S'++ex))
theorem Qu(ω:Dk)(S:List It)(hg:Gd S)(hl:S.length≤50)(it:It)(hok:it.ok)(kd ct:List Nat)(th:PV)(hv:it.val= .tup [.bytes kd,th])(ho:∀ ex,EG [.pv (.bytes kd),.pv (.bytes ct)] ex=some (.pv (.bytes it.key),ex)):Zt ω S it kd ct th:=by
 obtain⟨K',T',i,hc,hi,hf⟩:=aHk ω (S.map It.key) (S.map It.val) kd ct it.key th (aHs hg) (by rw [bQ];exact hl) (by rw [bQ,bQ]) ho
 rcases hc with⟨hm,rfl,rfl⟩ | ⟨hm,rfl,rfl⟩
 ·refine⟨S,i,⟨hg,TK _,oE _⟩,?_,hf⟩
  rw [iR] at hi
  cases h:S[i]? with
  |none=>rw [h] at hi;exact JQ hi
  |some a=>
   rw [h] at hi
   simp only [Option.map_some,TR] at hi
   rw [Ap (hg.ok a (nZ h)) hok hi]
 ·have hnm:it∉S:=fun h=>hm (LY h)
  refine⟨S++[it],i,⟨⟨?_,?_⟩,List.prefix_append ..,by simp⟩,?_,?_⟩
  ·exact List.nodup_append.mpr ⟨hg.nodup,List.nodup_cons.mpr ⟨GP,pH⟩,fun a ha b hb e=>by rw [List.mem_singleton.mp hb] at e;exact hnm (e▸ha)⟩
  ·intro a ha
   rcases List.mem_append.mp ha with h | h
   ·exact hg.ok a h
   ·rw [List.mem_singleton.mp h];exact hok
  ·have hlt:=(List.getElem?_eq_some_iff.mp hi).1
   by_cases hi':i < S.length
   ·rw [LS (by rw [bQ];exact hi'),iR] at hi
    rw [tO hi'] at hi
    simp only [Option.map_some,TR] at hi
    exact absurd (Ap (hg.ok _ (List.getElem_mem hi')) hok hi) fun e=>hnm (e▸List.getElem_mem hi')
   ·rw [fE,bQ] at hlt
    have:i=S.length:=TL (Hl hlt) (Nat.not_lt.mp hi')
    subst this
    simp
  ·intro ex
   rw [hf ex,←hv]
   unfold sS
   rw [cU,cU]
   rfl
inductive aAh(ω:Dk)(S:List It)(z:Bool)(ns:List Nat):Prop
 |mk (S':_) (i:_) (hh0:nX S S' 1) (hh1:S'[i]? =some (.blob z ns)) (hh2:∀ ex,OA [.ref 5,.pv (.bytes [98,108,111,98]),.pv (.bytes (ct z ns))] (sS ω S++ex)=some (.pv (.bytes (dG (i+1))),sS ω S'++ex))
theorem aQE(ω:Dk)(S:List It)(hg:Gd S)(hl:S.length≤50)(z:Bool)(ns:List Nat)(hn:ns.length=10):aAh ω S z ns:=by
 obtain⟨S',i,h1,h2,h3⟩:=Qu ω S hg hl (.blob z ns) hn [98,108,111,98] (ct z ns) (.bytes (ct z ns)) rfl (aJa z ns hn)
 refine⟨S',i,h1,h2,fun ex=> ?_⟩
 refine iM (eJ rfl (aO (eV rfl rfl) (eZ (fC (jK rfl rfl (nD rfl (dJ rfl (eU rfl rfl))) (h3 [])))))) rfl rfl
inductive aAi(ω:Dk)(S:List It)(a:Option (Bool×Nat))(b:Option (Bool×Nat))(c:Option (Bool×Nat)):Prop
 |mk (S':_) (i:_) (hh0:nX S S' 1) (hh1:S'[i]? =some (.tree (eS a b c))) (hh2:∀ ex,YF [.ref 5,.pv (xR (eS a b c))] (sS ω S++ex)=some (.pv (.bytes (dG (i+1))),sS ω S'++ex))
theorem aQF(ω:Dk)(S:List It)(hg:Gd S)(hl:S.length≤50)(a b c:Option (Bool×Nat))(ha:uD a)(hb:uD b)(hc:uD c):aAi ω S a b c:=by
 obtain⟨S',i,h1,h2,h3⟩:=Qu ω S hg hl (.tree (eS a b c)) (XR a b c) [116,114,101,101] (xH (eS a b c)) (xR (eS a b c)) rfl (aJb _ (XR a b c))
 refine⟨S',i,h1,h2,fun ex=> ?_⟩
 refine iM (eJ rfl (aO (sO (gF (iH rfl) (aDH a b c ha hb hc _))) (eZ (fC (jK rfl rfl (nD rfl (dJ (jK rfl rfl rfl (aPo _ (XR a b c) _)) rfl)) (h3 [])))))) rfl rfl
end
noncomputable def aPH(x:Bool)(i:Nat):PV:=.tup [.int (mo x),.bytes (dG (i+1))]
inductive aAg(ω:Dk)(S:List It)(v:aT):Prop
 |mk (S':_) (i:_) (hh0:nX S S' 1) (hh1:S'[i]? =some (.blob v.z v.ns)) (hh2:∀ ex,rG [.ref 7,.pv (vp v)] (sS ω S++ex)=some (.pv (aPH v.x i),sS ω S'++ex))
theorem Yl(ω:Dk)(S:List It)(hg:Gd S)(hl:S.length≤50)(v:aT)(hn:v.ns.length=10):aAg ω S v:=by
 obtain⟨S',i,h1,h2,h3⟩:=aQE ω S hg hl v.z v.ns hn
 refine⟨S',i,h1,h2,fun ex=> ?_⟩
 have hj:bK wY EW (kY []) (b2 (aA 1) (kI 1) aV) ⟨[some (.ref 7),some (.pv (vp v))],sS ω S⟩=some (.pv (.bytes (ct v.z v.ns)),⟨[some (.ref 7),some (.pv (vp v))],sS ω S⟩):=by
  obtain⟨x,z,ns⟩:=v
  obtain⟨n₀,n₁,n₂,n₃,n₄,n₅,n₆,n₇,n₈,n₉⟩:=zM hn
  cases z <;> kernel_rfl
 have hw:mc 11 OA (b2 (aA 0) (kS [115,116,111,114,101]) aV) (ar [(kY [98,108,111,98]),(bK wY EW (kY []) (b2 (aA 1) (kI 1) aV))]) ⟨[some (.ref 7),some (.pv (vp v))],sS ω S⟩=some (.pv (.bytes (dG (i+1))),⟨[some (.ref 7),some (.pv (vp v))],sS ω S'⟩):=
  (jK rfl rfl (dJ rfl hj) (h3 [])).trans rfl
 refine iM (eJ (st:=⟨[some (.ref 7),some (.pv (vp v))],sS ω S'++[]⟩) rfl (eZ (fC ((ZW (t:=false) rfl).trans (zE (dJ rfl hw) rfl))))) rfl rfl
theorem aPI(ω:Dk)(S:List It)(ex:List SO):rG [.ref 7,.pv .none] (sS ω S++ex)=some (.pv (.tup [.int 0,.none]),sS ω S++ex):=
 iM rfl rfl rfl
noncomputable def PU:M Fl:=(bl [(uY [4,5] (cf rG (ar [(aA 0),(b2 (aA 1) (aA 3) aV)]))),
 (ex (bK cR dD (aA 2) (ge cC (nw 9 XZ (ar [(aA 4),(aA 3),(aA 5)])))))])
noncomputable def uE(sh:PV)(o3 o4 o5:Option SV)(cs:List SO)(es:List PV)(k:Nat):St:=⟨[some (.ref 7),some (.pv sh),some (.ref 8),o3,o4,o5,none,none,none,none],cs++.list es::.dead::mW k .dead⟩
inductive Zw(sh:PV)(p:Nat)(v:aT)(ω:Dk)(S:List It)(o3:Option SV)(o4:Option SV)(o5:Option SV)(es:List En)(k:Nat):Prop
 |mk (S':_) (i:_) (o4':_) (o5':_) (hh0:nX S S' 1) (hh1:S'[i]? =some (.blob v.z v.ns)) (hh2:(bd (nT 3 (.bytes [p])) fun _=>PU) (uE sh o3 o4 o5 (sS ω S) (es.map dH) k)=some (.next,uE sh (some (.pv (.bytes [p]))) o4' o5' (sS ω S') ((es++[(p,v.x,i+1)]).map dH) (k+1)))
theorem aHY(sh:PV)(p:Nat)(v:aT)(hn:v.ns.length=10)(hs:∀ st,aV (.pv sh) (.pv (.bytes [p])) st=some (.pv (vp v),st))(ω:Dk)(S:List It)(hg:Gd S)(hl:S.length≤50)(o3 o4 o5:Option SV)(es:List En)(he:es.length≤3)(k:Nat)(hk:k=0∨k=1∨k=2):Zw sh p v ω S o3 o4 o5 es k:=by
 obtain⟨S',i,h1,h2,h3⟩:=Yl ω S hg hl v hn
 refine⟨S',i,some (.pv (.int (mo v.x))),some (.pv (.bytes (dG (i+1)))),h1,h2,?_⟩
 refine(aJ rfl).trans ?_
 refine aO (st₁:=uE sh (some (.pv (.bytes [p]))) (some (.pv (.int (mo v.x)))) (some (.pv (.bytes (dG (i+1))))) (sS ω S') (es.map dH) k) (Iz (gF (dJ rfl (jG rfl rfl (hs _))) (h3 _)) rfl) ?_
 refine cW (sO (v:=.pv .none) ((qI (st₃:=uE sh (some (.pv (.bytes [p]))) (some (.pv (.int (mo v.x)))) (some (.pv (.bytes (dG (i+1))))) (sS ω S') (es.map dH) (k+1)) (b:=.pv (dH (p,v.x,i+1))) rfl rfl ?_).trans ((yR rfl (by rw [bQ];exact ub he rfl)).trans ?_)))
 ·rcases hk with rfl | rfl | rfl <;> rfl
 ·rw [cU]
  rfl
noncomputable def dZ(S:List It)(v:Option aT)(o:Option (Bool×Nat)):Prop:=match v,o with
 |none,none=>True
 |some v,some (x,i)=>x=v.x∧S[i]? =some (.blob v.z v.ns)
 |_,_=>False
theorem dZ.mono(h:S <+:S')(k:dZ S v o):dZ S' v o:=by
 cases v <;> cases o <;> first | exact k | exact⟨k.1,KI h k.2⟩
noncomputable def eI(v:Option aT):Prop:=match v with
 |some v=>v.ns.length=10
 |none=>True
inductive Zv(sh:PV)(p:Nat)(v:Option aT)(ω:Dk)(S:List It)(o3:Option SV)(o4:Option SV)(o5:Option SV)(es:List En)(k:Nat)(rest:List PV):Prop
 |mk (S':_) (o:_) (o3':_) (o4':_) (o5':_) (k':_) (hh0:k'≤k+1) (hh1:nX S S' 1) (hh2:dZ S' v o) (hh3:fJ ((FQ p v).map (fun e=>.bytes [e.1])++rest) (fun x=>bd (nT 3 x) fun _=>PU) (uE sh o3 o4 o5 (sS ω S) (es.map dH) k)=fJ rest (fun x=>bd (nT 3 x) fun _=>PU) (uE sh o3' o4' o5' (sS ω S') ((es++eL p o).map dH) k'))
theorem Bf(sh:PV)(p:Nat)(v:Option aT)(hn:eI v)(hs:∀ w,v=some w→∀ st,aV (.pv sh) (.pv (.bytes [p])) st=some (.pv (vp w),st))(ω:Dk)(S:List It)(hg:Gd S)(hl:S.length≤50)(o3 o4 o5:Option SV)(es:List En)(he:es.length≤3)(k:Nat)(hk:k≤2)(rest:List PV):Zv sh p v ω S o3 o4 o5 es k rest:=by
 cases v with
 |none=>exact⟨S,none,o3,o4,o5,k,oE _,⟨hg,TK _,oE _⟩,trivial,by rw [show eL p none= [] from rfl,gK];rfl⟩
 |some v=>
  obtain⟨S',i,o4',o5',h1,h2,h3⟩:=aHY sh p v hn (hs v rfl) ω S hg hl o3 o4 o5 es he k (PN k hk)
  exact⟨S',some (v.x,i),_,_,_,k+1,cX _,h1,⟨rfl,h2⟩,gL h3⟩
theorem dZ.lt(k:dZ S v o)(h:S.length≤60):uD o:=by
 cases v <;> cases o <;> first | trivial | exact k.elim | skip
 have:=(List.getElem?_eq_some_iff.mp k.2).1
 exact AK this h
inductive aAe(a:Option aT)(b:Option aT)(c:Option aT)(ω:Dk)(S:List It):Prop
 |mk (S':_) (i:_) (oa:_) (ob:_) (oc:_) (hh0:nX S S' 4) (hh1:dZ S' a oa) (hh2:dZ S' b ob) (hh3:dZ S' c oc) (hh4:S'[i]? =some (.tree (eS oa ob oc))) (hh5:∀ ex,IG [.ref 7,.pv (cQ a b c)] (sS ω S++ex)=some (.pv (.bytes (dG (i+1))),sS ω S'++ex))
theorem nX.to(g:nX S S' k)(h:S.length≤m)(q:qA (m+k) n=true):S'.length≤n:=aP g.len (aP (lJ h k) (bT q))
section
variable{a b c:Option aT}{w:aT}(st:St)
theorem aOU(h:a=some w):aV (.pv (cQ a b c)) (.pv (.bytes [97])) st=some (.pv (vp w),st):=by subst h;rfl
theorem aOV(h:b=some w):aV (.pv (cQ a b c)) (.pv (.bytes [98])) st=some (.pv (vp w),st):=by subst h;cases a <;> rfl
theorem aOX(h:c=some w):aV (.pv (cQ a b c)) (.pv (.bytes [99])) st=some (.pv (vp w),st):=by subst h;cases a <;> cases b <;> rfl
end
theorem aOB(a b c:Option aT)(st:St):nP (.pv (cQ a b c)) st=some (.ref st.cells.length,⟨st.loc,st.cells++[.list ((pA a b c).map fun e=>.bytes [e.1])]⟩):=by
 cases a <;> cases b <;> cases c <;> kernel_rfl
theorem HY(p:Nat)(o:Option (Bool×Nat)):(eL p o).length≤1:=by
 cases o with
 |none=>exact jP _
 |some o=>exact cX _
theorem FC{α:Type}{l m:List α}(h:l.length≤i)(h':m.length≤j):(l++m).length≤i+j:=by
 rw [fE];exact mK h h'
theorem aPn(es:List En)(h:k≤3):ge cC (nw 10 YG (ar [(ge cC (aA 2))])) (uE sh o3 o4 o5 (sS ω S) (es.map dH) k)=some (.pv (xR es),⟨(uE sh o3 o4 o5 [] [] 0).loc,sS ω S++.dead::.dead::mW (k+1) .dead⟩):=by
 rcases Rd k h with rfl | rfl | rfl | rfl <;> rfl
theorem Fi(a b c:Option aT)(ha:eI a)(hb:eI b)(hc:eI c)(ω:Dk)(S:List It)(hg:Gd S)(hl:S.length≤40):aAe a b c ω S:=by
 let N (v:Option aT) (p:Nat):List PV:=(FQ p v).map fun e=>.bytes [e.1]
 cases Bf (cQ a b c) 97 a ha (fun w h st=>aOU st h) ω S hg (aP hl (bT rfl)) none none none [] (jP _) 0 (jP _) (N b 98++N c 99) with
 |mk S₁ oa p3 p4 p5 k₁ hk₁ g₁ ka e₁=>
 have l₁:S₁.length≤41:=g₁.to hl rfl
 have m₁:(eL 97 oa).length≤1:=HY _ _
 cases Bf (cQ a b c) 98 b hb (fun w h st=>aOV st h) ω S₁ g₁.gd (aP l₁ (bT rfl)) p3 p4 p5 (eL 97 oa) (aP m₁ (by decide)) k₁ (aP hk₁ (by decide)) (N c 99) with
 |mk S₂ ob q3 q4 q5 k₂ hk₂ g₂ kb e₂=>
 have l₂:S₂.length≤42:=g₂.to l₁ rfl
 have k2:k₂≤2:=aP hk₂ (kZ hk₁)
 cases Bf (cQ a b c) 99 c hc (fun w h st=>aOX st h) ω S₂ g₂.gd (aP l₂ (bT rfl)) q3 q4 q5 (eL 97 oa++eL 98 ob) (aP (FC m₁ (HY _ _)) (by decide)) k₂ k2 [] with
 |mk S₃ oc r3 r4 r5 k₃ hk₃ g₃ kc e₃=>
 have l₃:S₃.length≤43:=g₃.to l₂ rfl
 have l₃:S₃.length≤60:=aP l₃ (bT rfl)
 have ka₃:=ka.mono (g₂.pre.trans g₃.pre)
 have kb₃:=kb.mono g₃.pre
 cases aQF ω S₃ g₃.gd (g₃.to l₂ rfl) oa ob oc (ka₃.lt l₃) (kb₃.lt l₃) (kc.lt l₃) with
 |mk S₄ i g₄ hi h4=>
 refine .mk S₄ i oa ob oc (((g₁.trans g₂).trans g₃).trans g₄) (ka₃.mono g₄.pre) (kb₃.mono g₄.pre) (kc.mono g₄.pre) hi fun ex=> ?_
 let st₀:St:=⟨[some (.ref 7),some (.pv (cQ a b c)),some (.ref 8),none,none,none,none,none,none,none],sS ω S++[.list []]⟩
 have hloop:fJ ((pA a b c).map fun e=>.bytes [e.1]) (fun x=>bd (nT 3 x) fun _=>PU) (uE (cQ a b c) none none none (sS ω S) [] 0)=some (.next,uE (cQ a b c) r3 r4 r5 (sS ω S₃) ((eS oa ob oc).map dH) k₃):=by
  have e₃:=(congrArg (fun l=>fJ l _ _) (gK (N c 99))).symm.trans e₃
  exact(congrArg (fun l=>fJ l _ _) (show((pA a b c).map fun e=>PV.bytes [e.1])=N a 97++(N b 98++N c 99) by unfold pA;rw [cU,cU,gJ])).trans (e₁.trans (e₂.trans e₃))
 refine iM (eJ rfl (aO rfl (aO ((mP (eU (eU (st₁:=st₀) rfl (aOB a b c _)) OR) rfl).trans hloop) (eZ (fC (.trans (jK (st₃:=⟨(uE (cQ a b c) r3 r4 r5 [] [] 0).loc,sS ω S₃++.dead::.dead::mW (k₃+1) .dead⟩) rfl rfl (iH ?_) (h4 _)) rfl)))))) rfl rfl
 exact aPn _ (aP hk₃ (kZ k2))
noncomputable abbrev Ch:=Nat×OE×OE
noncomputable def gX(w:List Nat)(om:Int)(oi op:PV)(nm:Int)(ni np sc:PV):PV:=.obj 4 [.str w,.int om,oi,op,.int nm,ni,np,sc]
noncomputable def aN(i:Nat):PV:=.bytes (dG (i+1))
noncomputable def cp:Ch→PV
 |(p,none,some (x,i))=>gX [65] 0 .none .none (mo x) (aN i) (.bytes [p]) .none
 |(p,some (x,i),none)=>gX [68] (mo x) (aN i) (.bytes [p]) 0 .none .none .none
 |(p,some (x,i),some (y,j))=>gX [77] (mo x) (aN i) (.bytes [p]) (mo y) (aN j) (.bytes [p]) .none
 |(_,none,none)=>.none
noncomputable def dC(p:Nat)(o n:OE):List Ch:=match decide (o=n) with
 |true=>[]
 |false=>[(p,o,n)]
theorem Qv{S:List It}{it:It}(hi:S[i]? =some it):dN (oV (S.map It.val).length 0) (S.map It.val) (.bytes (dG (i+1)))=some it.val:=by
 have hlt:=(List.getElem?_eq_some_iff.mp hi).1
 rw [zO]
 exact NO (Cd _ _) (by rw [Cb (by rw [bQ];exact hlt),kG]) (by rw [iR,hi];rfl)
theorem aMb(ω:Dk)(S:List It){i:Nat}(hi:S[i]? =some it)(hc:uH 8 (.pv it.val)=true)(ex:List SO):YE [.ref 5,.pv (aN i)] (sS ω S++ex)=some (.pv it.val,sS ω S++ex):=by
 refine iM (eJ (st:=⟨[some (.ref 5),some (.pv (aN i)),none],sS ω S++[]⟩) rfl (aO (eV ((jL rfl rfl).trans ((BY rfl).trans (by rw [Qv hi];rfl))) rfl) (eZ (fC ?_)))) rfl hc
 have:=LD (st:=⟨[some (.ref 5),some (.pv (aN i)),none],sS ω S⟩) (b:=.ref 6) rfl (Qv hi)
 exact(jG rfl rfl this).trans rfl
theorem Qx(ω:Dk)(S:List It)(hi:S[i]? =some it)(hv:it.val= .tup [.bytes kd,th])(ex:List SO):NY [.ref 5,.pv (aN i),.pv (.bytes kd)] (sS ω S++ex)=some (.pv th,sS ω S++ex):=by
 have hr:=aMb ω S hi (by rw [hv];rfl) []
 rw [hv] at hr
 refine iM (eJ (st:=⟨[some (.ref 5),some (.pv (aN i)),some (.pv (.bytes kd)),some (.pv (.bytes kd)),some (.pv th),none,none],sS ω S++[]⟩) rfl (aO (Iz (jK rfl rfl (iH rfl) hr) rfl) (aO (st₁:=⟨[some (.ref 5),some (.pv (aN i)),some (.pv (.bytes kd)),some (.pv (.bytes kd)),some (.pv th),none,none],sS ω S++[]⟩) (eV ((jL rfl rfl).trans ?_) rfl) (eZ (fC rfl))))) rfl rfl
 show(match (some (eqL kd kd):Option Bool) with | some r=>some (!r,_) | none=>none)=some (false,(⟨[some (.ref 5),some (.pv (aN i)),some (.pv (.bytes kd)),some (.pv (.bytes kd)),some (.pv th),none,none],sS ω S++[]⟩:St))
 rw [jI.mpr rfl]
 rfl
theorem Jo(ω:Dk)(S:List It){i:Nat}{ns:List Nat}(hi:S[i]? =some (.blob z ns))(ex:List SO):NX [.ref 5,.pv (aN i)] (sS ω S++ex)=some (.pv (.bytes (ct z ns)),sS ω S++ex):=
 iM (eJ rfl (eZ (fC (jK rfl rfl (dJ rfl rfl) (Qx ω S hi rfl []))))) rfl rfl
theorem aPp(ω:Dk)(S:List It){i:Nat}{es:List En}(hi:S[i]? =some (.tree es))(ex:List SO):NZ [.ref 5,.pv (aN i)] (sS ω S++ex)=some (.pv (xR es),sS ω S++ex):=
 iM (eJ rfl (eZ (fC (jK rfl rfl (dJ rfl rfl) (Qx ω S hi rfl []))))) rfl rfl
noncomputable def eD(a b c:OE):PV:=.dct .bytes ((eS a b c).map fun e=>.bytes [e.1]) ((eS a b c).map dH)
theorem Md(ω:Dk)(S:List It)(hi:S[i]? =some (.tree (eS a b c)))(ex:List SO):EH [.ref 5,.pv (aN i)] (sS ω S++ex)=some (.pv (eD a b c),sS ω S++ex):=by
 have h1:ge MP (mc 11 NZ (aA 0) (ar [(aA 1)])) ⟨[some (.ref 5),some (.pv (aN i)),some (.ref 8),none],sS ω S++[.dict .bytes [] []]⟩=some (.pv (.lst ((eS a b c).map dH)),⟨[some (.ref 5),some (.pv (aN i)),some (.ref 8),none],sS ω S++[.dict .bytes [] []]⟩):=
  eU (jK rfl rfl (iH rfl) (aPp ω S hi _)) rfl
 have h2:∃ o,fJ ((eS a b c).map dH) (fun x=>bd (nT 3 x) fun _=>bl [(gB fQ (aA 3) (aA 2) (ge tV (aA 3)))]) ⟨[some (.ref 5),some (.pv (aN i)),some (.ref 8),none],sS ω S++[.dict .bytes [] []]⟩=some (.next,⟨[some (.ref 5),some (.pv (aN i)),some (.ref 8),o],sS ω S++[.dict .bytes ((eS a b c).map fun e=>.bytes [e.1]) ((eS a b c).map dH)]⟩):=by
  clear hi h1
  rcases a with _ | ⟨x,j⟩ <;> rcases b with _ | ⟨y,k⟩ <;> rcases c with _ | ⟨z,l⟩
  ·exact⟨none,by kernel_rfl⟩
  ·exact⟨some (.pv (dH (99,z,l+1))),by kernel_rfl⟩
  ·exact⟨some (.pv (dH (98,y,k+1))),by kernel_rfl⟩
  ·exact⟨some (.pv (dH (99,z,l+1))),by kernel_rfl⟩
  ·exact⟨some (.pv (dH (97,x,j+1))),by kernel_rfl⟩
  ·exact⟨some (.pv (dH (99,z,l+1))),by kernel_rfl⟩
  ·exact⟨some (.pv (dH (98,y,k+1))),by kernel_rfl⟩
  ·exact⟨some (.pv (dH (99,z,l+1))),by kernel_rfl⟩
 obtain⟨o,h2⟩:=h2
 exact iM (eJ (st:=⟨[some (.ref 5),some (.pv (aN i)),some (.ref 8),o],sS ω S++[.dead]⟩) rfl (aO rfl (aO (hV rfl (cW ((mP h1 rfl).trans h2))) (eZ (fC rfl))))) rfl rfl
noncomputable def kt(e:Nat×Int):PV:=.tup [.bytes [e.1],.int e.2]
noncomputable def wd(p:Nat)(A:List Int):List PV:=A.map fun w=>kt (p,w)
noncomputable def uG(A:List Int):Prop:=A= []∨(∃ w,A= [w])∨A= [0,1]
noncomputable def PW(n i j:Nat):Option Bool:=match bV i n,bV j n with
 |true,true=>some (bV i j)
 |_,_=>none
theorem HO(h:b≤a):bV a b=false:=by
 cases e:bV a b with
 |false=>rfl
 |true=>exact absurd (bT e) (Nat.not_lt.mpr h)
theorem aHU(hs:∀ x∈ks,lt x x=some false)(h:ks.Pairwise fun a b=>lt a b=some true∧lt b a=some false):zN lt ks=PW ks.length:=by
 funext i j
 unfold zN PW
 rcases GS i ks.length with hi | hi
 ·rw [tO hi,show bV i ks.length=true from CZ hi]
  rcases GS j ks.length with hj | hj
  ·rw [tO hj,show bV j ks.length=true from CZ hj]
   show lt ks[i] ks[j]=some (bV i j)
   have p:=List.pairwise_iff_getElem.mp h
   rcases Nat.lt_trichotomy i j with q | rfl | q
   ·rw [(p i j hi hj q).1,show bV i j=true from CZ q]
   ·rw [hs _ (List.getElem_mem _),HO (cX i)]
   ·rw [(p j i hj hi q).2,HO (DA q)]
  ·rw [TC hj,HO hj]
 ·rw [TC hi,HO hi]
theorem aJu(xs:List PV):∀ pre:List PV,rT (pre++xs) (xX pre.length xs.length)=some xs:=by
 induction xs with
 |nil=>exact fun _=>rfl
 |cons x xs ih=>
  intro pre
  have:=ih (pre++[x])
  rw [gJ,fE] at this
  show(match (pre++x::xs)[pre.length]? with | some y=>(match rT (pre++x::xs) (xX (pre.length+1) xs.length) with | some r=>some (y::r) | none=>none) | none=>none)=_
  rw [CT (cX _),GV]
  show(match rT (pre++([x]++xs)) (xX (pre.length+ [x].length) xs.length) with | some r=>some (x::r) | none=>none)=_
  rw [this]
theorem aHf:∀ n:Fin 7,(uB (PW n.val) (wZ n.val)).map GA=some (xX 0 n.val):=by decide+kernel
theorem aOJ{ks xs:List PV}(hs:∀ x∈ks,lt x x=some false)(h:ks.Pairwise fun a b=>lt a b=some true∧lt b a=some false)(hl:xs.length=ks.length)(h6:ks.length < 7):tE lt ks xs=some xs:=by
 obtain⟨r,e,e'⟩:∃ r,uB (PW ks.length) (wZ ks.length)=some r∧r.toList=xX 0 ks.length:=Option.map_eq_some_iff.mp (aHf ⟨ks.length,h6⟩)
 unfold tE
 refine(aHU hs h).symm▸(hl).symm▸(e).symm▸(show bV ks.length 64=true from CZ (aP h6 (by decide))).symm▸?_
 cases bV ks.length 2 with
 |true=>rfl
 |false=>
  show rT xs r.toList=_
  refine(e').symm▸(hl)▸?_
  exact aJu xs []
theorem JD(a b:Nat×Int):rP (kt a) (kt b)=some (match bR a.1 b.1 with | true=>decide (a.2 < b.2) | false=>nM [a.1] [b.1]):=by
 show some (match (match bR a.1 b.1 with | true=>true | false=>false) with | true=>decide (a.2 < b.2) | false=>nM [a.1] [b.1])=_
 cases bR a.1 b.1 <;> rfl
theorem aHu(p:Nat)(w:Int):rP (kt (p,w)) (kt (p,w))=some false:=by
 rw [JD,show bR p p=true from CY p,decide_eq_false (Int.lt_irrefl w)]
theorem Yr:∀ x∈wd p A,rP x x=some false:=fun x hx=>by
 obtain⟨w,_,rfl⟩:=List.mem_map.mp hx;exact aHu p w
theorem Fy{A:List Int}(h:uG A):(wd p A).Pairwise fun a b=>rP a b=some true∧rP b a=some false:=by
 rcases h with rfl | ⟨w,rfl⟩ | rfl
 ·exact .nil
 ·exact List.pairwise_singleton ..
 ·refine .cons (fun x hx=> ?_) (List.pairwise_singleton ..)
  cases List.mem_singleton.mp hx
  rw [JD,JD,show bR p p=true from CY p]
  exact⟨rfl,rfl⟩
theorem Fx(h:bR p q=false∧bR q p=false∧nM [p] [q]=true∧nM [q] [p]=false):∀ x∈wd p A,∀ y∈wd q B,rP x y=some true∧rP y x=some false:=fun x hx y hy=>by
 obtain⟨w,_,rfl⟩:=List.mem_map.mp hx
 obtain⟨v,_,rfl⟩:=List.mem_map.mp hy
 rw [JD,JD,h.1,h.2.1,h.2.2.1,h.2.2.2];exact⟨rfl,rfl⟩
theorem FR(h:uG A):A.length≤2:=by
 rcases h with rfl | ⟨w,rfl⟩ | rfl <;> exact bT rfl
theorem Im{β:Type}{f:PV→Option β}(h:∀ x∈l,∃ y,f x=some y):∃ ys,lP f l=some ys:=by
 induction l with
 |nil=>exact⟨[],rfl⟩
 |cons x l ih=>
  obtain⟨y,e⟩:=h x (.head _)
  obtain⟨ys,e'⟩:=ih fun z hz=>h z (.tail _ hz)
  refine⟨y::ys,?_⟩
  unfold lP
  rw [e,e']
theorem aOM(hA:uG A)(hB:uG B)(hC:uG C){xs:List PV}(hx:xs.length=A.length+B.length+C.length):(∃ l,lP sT (wd 97 A++wd 98 B++wd 99 C)=some l)∧tE rP (wd 97 A++wd 98 B++wd 99 C) xs=some xs:=by
 have hl:(wd 97 A++wd 98 B++wd 99 C).length=A.length+B.length+C.length:=by
  rw [fE,fE];unfold wd;rw [bQ,bQ,bQ]
 refine⟨Im fun x hx=> ?_,aOJ (fun x hx=> ?_) (List.pairwise_append.mpr ⟨List.pairwise_append.mpr ⟨Fy hA,Fy hB,Fx (by decide)⟩,Fy hC,fun x hx=>(List.mem_append.mp hx).elim (Fx (by decide) x) (Fx (by decide) x)⟩) (hx.trans hl.symm) ?_⟩
 ·obtain⟨p,w,rfl⟩:∃ p w,x=kt (p,w):=by
   rcases List.mem_append.mp hx with hx | hx
   ·rcases List.mem_append.mp hx with hx | hx <;> (obtain⟨w,_,rfl⟩:=List.mem_map.mp hx;exact⟨_,_,rfl⟩)
   ·obtain⟨w,_,rfl⟩:=List.mem_map.mp hx;exact⟨_,_,rfl⟩
  exact⟨_,rfl⟩
 ·rcases List.mem_append.mp hx with hx | hx
  ·rcases List.mem_append.mp hx with hx | hx <;> exact Yr x hx
  ·exact Yr x hx
 ·rw [hl];exact TO (mK (mK (FR hA) (FR hB)) (FR hC))
theorem aHt{xs:List PV}:(∀ x∈xs,∀ ex,f [.pv x] ex=some (.pv (k x),ex))→FA f xs st=some (xs.map k,st):=by
 induction xs with
 |nil=>exact fun _=>rfl
 |cons x xs ih=>exact fun h=>(aJ (DP (h x (.head _) _))).trans ((aJ (ih fun y hy=>h y (.tail _ hy))).trans rfl)
theorem Xd{xs:List PV}(hs:lZ st a=some xs)(hk:∀ x∈xs,∀ ex,f [.pv x] ex=some (.pv (k x),ex))(hA:uG A)(hB:uG B)(hC:uG C)(he:xs.map k=wd 97 A++wd 98 B++wd 99 C):
  CL f a st=some (.ref st.cells.length,{st with cells:=st.cells++[.list xs]}):=by
 have hl:xs.length=A.length+B.length+C.length:=by
  rw [←bQ,he,fE,fE];unfold wd;rw [bQ,bQ,bQ]
 have h60:bV xs.length 60=true:=CZ (by rw [hl];exact sH (mK (mK (FR hA) (FR hB)) (FR hC)) (bT rfl))
 obtain⟨⟨l,h1⟩,h2⟩:=aOM hA hB hC hl
 rw [←he] at h1 h2
 show iD a _ _ st=_
 unfold iD
 rw [hs]
 show gd (bV xs.length 60) _ st=_
 rw [h60]
 exact(aJ (aHt hk)).trans ((onSome_eq h1).trans ((onSome_eq h2).trans rfl))
theorem Ft(h:m st=some (.pv (.bool true),st₁)):zY m ms st=ms st₁:=(aJ h).trans ((aJ rfl).trans rfl)
theorem WO(h:m₁ st=some (a,st₁))(h':m₂ st₁=some (b,st₂))(hf:f a b st₂=some (r,st₃)):c2 m₁ m₂ f st=some (.pv (.bool r),st₃):=(aJ h).trans ((aJ h').trans ((aJ hf).trans rfl))
noncomputable def oP(p:Nat)(o:OE):PV:=match o with
 |some (x,i)=>dH (p,x,i+1)
 |none=>.none
noncomputable def one(o n:OE):Prop:=o≠none∨n≠none
theorem XT(i j:Nat):eqL (dG i) (dG j)=decide (i=j):=by
 by_cases h:i=j
 ·subst h;rw [jI.mpr rfl];simp
 ·rw [aFe fun e=>h (QG e)];simp [h]
theorem aAP(p:Nat)(o n:OE)(h:one o n)(ex:List SO):IH [.pv (oP p o),.pv (oP p n)] ex=some (.pv (.bool (decide (o=n))),ex):=by
 rcases o with _ | ⟨x,i⟩ <;> rcases n with _ | ⟨y,j⟩
 ·rcases h with h | h <;> exact absurd rfl h
 ·kernel_rfl
 ·kernel_rfl
 ·have e:∀ b,decide (x=y∧i=j)=b→decide (some (x,i)=some (y,j))=b:=by rintro b rfl;simp
  by_cases hxy:x=y
  ·subst hxy
   refine mT (eJ (st:=⟨[some (.pv (dH (p,x,i+1))),some (.pv (dH (p,x,j+1)))],[]⟩) rfl (eZ (fC ((Ft rfl).trans ((Ft (st₁:=⟨[some (.pv (dH (p,x,i+1))),some (.pv (dH (p,x,j+1)))],[]⟩) rfl).trans ((Ft (st₁:=⟨[some (.pv (dH (p,x,i+1))),some (.pv (dH (p,x,j+1)))],[]⟩) (by cases x <;> rfl)).trans (WO rfl rfl ?_))))))) rfl
   show some (eqL (dG (i+1)) (dG (j+1)),_)=_
   rw [XT,e _ rfl]
   simp
  ·refine(e false (by simp [hxy])).symm▸?_
   cases x <;> cases y <;> first | exact absurd rfl hxy | kernel_rfl
theorem aBA(p:Nat)(o n:OE)(h:one o n)(ex:List SO):OI [.pv (.bytes [p]),.pv (oP p o),.pv (oP p n)] ex=some (.pv (.lst [cp (p,o,n)]),ex):=by
 rcases o with _ | ⟨x,i⟩ <;> rcases n with _ | ⟨y,j⟩
 ·rcases h with h | h <;> exact absurd rfl h
 ·kernel_rfl
 ·kernel_rfl
 ·cases x <;> cases y <;> kernel_rfl
noncomputable def Lp:List (M Fl):=[(aZ 16 (cf YT (ar [(aA 9),(aA 12)]))),
 (bH (tv (aA 4)) (bl [(aZ 17 (zY (c2 (aA 14) kN qD) (c2 (ge oJ (aA 14)) EY cK))),
 (aZ 18 (zY (c2 (aA 15) kN qD) (c2 (ge oJ (aA 15)) EY cK))),
 (bH (gW (tv (aA 17)) (gW (tv (aA 18)) (rt false))) (bl [(ex (bK cR dD (aA 6) (aY (ar [(iY (tv (aA 17)) (ge qU (aA 14)) kN),(iY (tv (aA 18)) (ge qU (aA 15)) kN),(aA 16)]) cM)))]) (bl [])),
 (aZ 14 (iY (tv (aA 17)) kN (aA 14))),
 (aZ 15 (iY (tv (aA 18)) kN (aA 15)))]) (bl []))]
noncomputable def XM:M Fl:=bl ((oN [15,14] (ar [(bK cV dX (aA 10) (aA 12)),(bK cV dX (aA 11) (aA 12))]))::
 (bH (tv (cf IH (ar [(aA 14),(aA 15)]))) (bl [(rt .cont)]) (bl []))::(Lp++
 [(ex (bK cR BU (aA 5) (cf OI (ar [(aA 16),(aA 14),(aA 15)]))))]))
noncomputable def oQ(i j:Nat)(D E N:PV)(o12 o14 o15 o16 o17 o18:Option SV)(cs:List SO)(F:List PV)(gb:List SO):St:=
 ⟨[some (.ref 5),some (.pv (aN i)),some (.pv (aN j)),some (.pv (.bytes [])),some (.pv (.bool true)),some (.ref 8),some (.ref 9),some (.pv (aN i)),some (.pv (aN j)),some (.pv (.bytes [])),some (.pv D),some (.pv E),o12,some (.pv N),o14,o15,o16,o17,o18,none,none,none,none,none,none,none],cs++.list F::.list []::gb⟩
inductive Zq(i:Nat)(j:Nat)(p:Nat)(o:OE)(n:OE)(D:PV)(E:PV)(N:PV)(o12:Option SV)(o14:Option SV)(o15:Option SV)(o16:Option SV)(o17:Option SV)(o18:Option SV)(ω:Dk)(K:List (List Nat))(T:List PV)(F:List PV)(gb:List SO):Prop
 |mk (q12:_) (q14:_) (q15:_) (q16:_) (q17:_) (q18:_) (f:_) (hh0:(f= .next∨f= .cont)) (hh1:(bd (nT 12 (.bytes [p])) fun _=>XM) (oQ i j D E N o12 o14 o15 o16 o17 o18 (s8 ω K T) F gb)=some (f,oQ i j D E N q12 q14 q15 q16 q17 q18 (s8 ω K T) (F++(dC p o n).map cp) gb))
theorem aEo(i j p:Nat)(o n:OE)(h:one o n)(D E N:PV)(hD:cV (.pv D)=fun st=>some ((),st))(hE:cV (.pv E)=fun st=>some ((),st))(gD:∀ st,dX (.pv D) (.pv (.bytes [p])) st=some (.pv (oP p o),st))(gE:∀ st,dX (.pv E) (.pv (.bytes [p])) st=some (.pv (oP p n),st))
  (o12 o14 o15 o16 o17 o18:Option SV) (ω:Dk) (K:List (List Nat)) (T:List PV) (F:List PV) (hF:F.length≤9) (gb:List SO):Zq i j p o n D E N o12 o14 o15 o16 o17 o18 ω K T F gb:=by
 have e1:(oN [15,14] (ar [(bK cV dX (aA 10) (aA 12)),(bK cV dX (aA 11) (aA 12))])) (oQ i j D E N (some (.pv (.bytes [p]))) o14 o15 o16 o17 o18 (s8 ω K T) F gb)=some (.next,oQ i j D E N (some (.pv (.bytes [p]))) (some (.pv (oP p o))) (some (.pv (oP p n))) o16 o17 o18 (s8 ω K T) F gb):=
  DM (dJ ((qI rfl (by rw [hD]) rfl).trans (gD _)) ((qI rfl (by rw [hE]) rfl).trans (gE _))) rfl
 have e2:tv (cf IH (ar [(aA 14),(aA 15)])) (oQ i j D E N (some (.pv (.bytes [p]))) (some (.pv (oP p o))) (some (.pv (oP p n))) o16 o17 o18 (s8 ω K T) F gb)=some (decide (o=n),oQ i j D E N (some (.pv (.bytes [p]))) (some (.pv (oP p o))) (some (.pv (oP p n))) o16 o17 o18 (s8 ω K T) F gb):=
  (aJ (gF (dJ rfl rfl) (aAP p o n h _))).trans rfl
 cases hon:decide (o=n) with
 |true=>
  have ec:dC p o n= []:=by unfold dC;rw [hon]
  replace e2:=(hon)▸e2
  refine⟨some (.pv (.bytes [p])),some (.pv (oP p o)),some (.pv (oP p n)),o16,o17,o18,.cont,.inr rfl,?_⟩
  refine(ec).symm▸(show F++List.map cp []=F from gK _).symm▸?_
  exact(aJ rfl).trans (aO e1 (DN (hV e2 rfl)))
 |false=>
  have ec:dC p o n= [(p,o,n)]:=by unfold dC;rw [hon]
  rw [hon] at e2
  have e3:bl Lp (oQ i j D E N (some (.pv (.bytes [p]))) (some (.pv (oP p o))) (some (.pv (oP p n))) o16 o17 o18 (s8 ω K T) F gb)=some (.next,oQ i j D E N (some (.pv (.bytes [p]))) (some (.pv (oP p o))) (some (.pv (oP p n))) (some (.pv (.bytes [p]))) (some (.pv (.bool false))) (some (.pv (.bool false))) (s8 ω K T) F gb):=by
   clear hon e2 e1 gD gE
   rcases o with _ | ⟨x,i'⟩ <;> rcases n with _ | ⟨y,j'⟩
   ·rcases h with h | h <;> exact absurd rfl h
   ·cases y <;> kernel_rfl
   ·cases x <;> kernel_rfl
   ·cases x <;> cases y <;> kernel_rfl
  refine⟨some (.pv (.bytes [p])),some (.pv (oP p o)),some (.pv (oP p n)),some (.pv (.bytes [p])),some (.pv (.bool false)),some (.pv (.bool false)),.next,.inl rfl,?_⟩
  rw [ec]
  exact(aJ rfl).trans (aO e1 (aO (eV e2 rfl) ((MZ e3).trans (cW (sO ((qI rfl rfl (gF (nD rfl (dJ rfl rfl)) (aBA p o n h _))).trans ((Mp rfl (ub (lJ hF 1) rfl)).trans rfl)))))))
section
variable{k:Nat}{c:M Bool}{b:M Fl}{st st₁ st₂:St}{f:Fl}
theorem Yt(hc:c st=some (true,st₁))(hb:b st₁=some (f,st₂))(hf:f= .next∨f= .cont):kW (k+1) c b st=kW k c b st₂:=by
 refine(aJ hc).trans ((aJ hb).trans ?_)
 rcases hf with rfl | rfl <;> rfl
theorem Ys(hc:c st=some (false,st₁)):kW (k+1) c b st=some (.next,st₁):=(aJ hc).trans rfl
end
inductive CF:Nat→Int→PV→Prop
 |d (p:Nat) (om:Int) (oi sc:PV):CF p 0 (gX [68] om oi (.bytes [p]) 0 .none .none sc)
 |a (p:Nat) (nm:Int) (ni sc:PV):CF p 1 (gX [65] 0 .none .none nm ni (.bytes [p]) sc)
 |m (p:Nat) (om:Int) (oi:PV) (nm:Int) (ni sc:PV):CF p 1 (gX [77] om oi (.bytes [p]) nm ni (.bytes [p]) sc)
noncomputable def vI(v:PV):PV:=match v with
 |.obj 4 [.str w,_,_,op,_,_,np,_]=>.tup [match np with | .none=>op | _=>np,.int (match eqL w [68] with | true=>0 | false=>1)]
 |_=>.none
theorem CF.k(h:CF p w v):vI v=kt (p,w):=by cases h <;> rfl
theorem CF.order(h:CF p w v)(ex:List SO):BI [.pv v] ex=some (.pv (vI v),ex):=by
 cases h <;> kernel_rfl
noncomputable def od(c:Ch):Int:=match c.2.1,c.2.2 with
 |some _,none=>0
 |_,_=>1
theorem DW(h:one o n):CF p (od (p,o,n)) (cp (p,o,n)):=by
 rcases o with _ | ⟨x,i⟩ <;> rcases n with _ | ⟨y,j⟩
 ·rcases h with h | h <;> exact absurd rfl h
 ·exact .a ..
 ·exact .d ..
 ·exact .m ..
theorem rC(p:Nat)(o n:OE):(o=n∧dC p o n= [])∨(one o n∧o≠n∧dC p o n= [(p,o,n)]):=by
 unfold dC
 by_cases h:o=n
 ·exact .inl ⟨h,by rw [decide_eq_true h]⟩
 ·refine .inr ⟨?_,h,by rw [decide_eq_false h]⟩
  cases o with
  |none=>cases n with
   |none=>exact absurd rfl h
   |some=>exact .inr (by simp)
  |some=>exact .inl (by simp)
theorem XC(p:Nat)(o n:OE):uG ((dC p o n).map od):=by
 rcases rC p o n with⟨_,e⟩ | ⟨_,_,e⟩ <;> rw [e]
 ·exact .inl rfl
 ·exact .inr (.inl ⟨_,rfl⟩)
theorem XD(p:Nat)(o n:OE):((dC p o n).map cp).map vI=wd p ((dC p o n).map od):=by
 rcases rC p o n with⟨_,e⟩ | ⟨h,_,e⟩ <;> rw [e]
 ·rfl
 ·show [vI (cp (p,o,n))]=_
  rw [(DW h).k];rfl
theorem HU(p:Nat)(o n:OE):∀ v∈(dC p o n).map cp,∃ w,CF p w v:=by
 rcases rC p o n with⟨_,e⟩ | ⟨h,_,e⟩ <;> rw [e]
 ·intro v hv;cases hv
 ·intro v hv
  have:v=cp (p,o,n):=by simpa using hv
  refine(this).symm▸?_
  exact⟨_,DW h⟩
noncomputable def dif(a b c a' b' c':OE):List Ch:=dC 97 a a'++dC 98 b b'++dC 99 c c'
noncomputable def pn(p:Nat)(o n:OE):List Nat:=match o,n with
 |none,none=>[]
 |_,_=>[p]
noncomputable def nms(a b c a' b' c':OE):List Nat:=pn 97 a a'++pn 98 b b'++pn 99 c c'
noncomputable def un(a b c a' b' c':OE):List Nat:=(eS a b c).map (·.1)++((eS a' b' c').map (·.1)).filter fun p=> !((eS a b c).map (·.1)).any (bR p)
noncomputable def pL(l:List Nat):List PV:=l.map fun p=>.bytes [p]
noncomputable def nb(x y z:Bool):List Nat:=(match x with | true=>[97] | false=>[])++(match y with | true=>[98] | false=>[])++(match z with | true=>[99] | false=>[])
theorem Mb(a b c:OE):(eS a b c).map (·.1)=nb a.isSome b.isSome c.isSome:=by
 cases a <;> cases b <;> cases c <;> rfl
theorem Df(p:Nat)(o n:OE):pn p o n=match o.isSome || n.isSome with | true=>[p] | false=>[]:=by
 cases o <;> cases n <;> rfl
noncomputable def Sw(x y z x' y' z':Bool):List Nat:=nb x y z++(nb x' y' z').filter fun p=> !(nb x y z).any (bR p)
noncomputable def nbL(x y z x' y' z':Bool):Option (List PV):=tE FD (pL (Sw x y z x' y' z')) (pL (Sw x y z x' y' z'))
noncomputable def nbR(x y z x' y' z':Bool):Option (List PV):=some (pL (nb (x || x') (y || y') (z || z')))
theorem aOL(x y z x' y' z':Bool):nbL x y z x' y' z'=nbR x y z x' y' z':=by
 cases x <;> cases y <;> cases z <;> cases x' <;> cases y' <;> cases z' <;> kernel_rfl
theorem aEB(p:Nat)(l:List En):(dN (l.map fun e=>PV.bytes [e.1]) (l.map dH) (.bytes [p])).isNone= !(l.map (·.1)).any (bR p):=by
 induction l with
 |nil=>rfl
 |cons e l ih=>
  show(match (match bR e.1 p with | true=>true | false=>false) with | true=>some (dH e) | false=>dN (l.map fun(e:En)=>PV.bytes [e.1]) (l.map dH) (.bytes [p])).isNone= !(bR p e.1 || (l.map (·.1)).any (bR p))
  refine(show bR p e.1=bR e.1 p from Bool.eq_iff_iff.mpr (by rw [Nat.beq_eq,Nat.beq_eq,eq_comm])).symm▸?_
  cases bR e.1 p with
  |true=>rfl
  |false=>exact ih
theorem aIN:fB (.pv (.bytes k)) (.pv (.dct .bytes ks vs)) st=some ((dN ks vs (.bytes k)).isNone,st):=by
 have h3:zI (.pv (.bytes k)) (.pv (.dct .bytes ks vs)) st=some ((dN ks vs (.bytes k)).isSome,st):=rfl
 exact(mN rfl).trans ((mN rfl).trans (pM ((aJ h3).trans (by cases dN ks vs (.bytes k) <;> rfl))))
theorem aAU:∃ r,lP qX (pL l)=some r:=Im fun x hx=>by
 obtain⟨p,_,rfl⟩:=List.mem_map.mp hx;exact⟨_,rfl⟩
section
variable{loc:List (Option SV)}{cs:List SO}
theorem aOz(h:cs[j]? =some (.list (pL l)))(hl:l.length≤1000000)(e:tE FD (pL l) (pL l)=some ys):nP (.ref j) ⟨loc,cs⟩=some (.ref cs.length,⟨loc,cs++[.list ys]⟩):=by
 obtain⟨r,hr⟩:=aAU
 unfold nP KA iD
 rw [show lZ ⟨loc,cs⟩ (.ref j)=some (pL l) by unfold lZ;dsimp only;rw [h]]
 show dM (pL l).length _ _=_
 unfold dM
 rw [show(pL l).length=l.length from bQ ..,decide_eq_true hl]
 exact(onSome_eq hr).trans ((onSome_eq e).trans rfl)
theorem aAN{xs ys:List PV}(h:xs.length+ys.length≤1000000):bM (.pv (.lst xs)) (.pv (.lst ys)) ⟨loc,cs⟩=some (.ref cs.length,⟨loc,cs++[.list (xs++ys)]⟩):=by
 show gd (decide (xs.length+ys.length≤1000000)) (fun st=>some (SV.ref st.cells.length,⟨st.loc,st.cells++[.list (xs++ys)]⟩)) _=_
 rw [decide_eq_true h];rfl
theorem NR(a b c:OE):(eS a b c).length≤3:=FC (FC (HY _ _) (HY _ _)) (HY _ _)
theorem aIB(h10:loc[10]? =some (some (.pv (eD a b c))))(h11:loc[11]? =some (some (.pv (eD a' b' c')))):
  ge cC (ge nP (b2 (eG dK (aA 10) [none,none] (nT 1) (rt true) (aA 1)) (eG dK (aA 11) [none,none,some 10] (nT 1) (t2 (aA 1) (aA 2) fB) (aA 1)) bM)) ⟨loc,cs⟩=
   some (.pv (.lst (pL (nms a b c a' b' c'))),⟨loc,cs++[.list (pL (un a b c a' b' c')),.dead]⟩):=by
 have g10:aA 10 ⟨loc,cs⟩=some (.pv (eD a b c),⟨loc,cs⟩):=by unfold aA;dsimp only;rw [h10]
 have g11:aA 11 ⟨loc,cs⟩=some (.pv (eD a' b' c'),⟨loc,cs⟩):=by unfold aA;dsimp only;rw [h11]
 let k1:=(eS a b c).map fun e=>PV.bytes [e.1]
 let k2:=(eS a' b' c').map fun e=>PV.bytes [e.1]
 obtain⟨o,e1⟩:=yX (g:=nT 1) (t:=rt true) (m:=aA 1) (fun o=>⟨[none,o],cs⟩) (fun _=>true) id k1 (fun _ _=>rfl) (fun _ _=>rfl) (fun _ _ _=>rfl) none
 rw [List.filter_eq_self.mpr fun _ _=>rfl,GO] at e1
 obtain⟨o',e2⟩:=yX (g:=nT 1) (t:=t2 (aA 1) (aA 2) fB) (m:=aA 1) (fun o=>⟨[none,o,some (.pv (eD a b c))],cs⟩) (fun x=>match x with | .bytes [p]=> !((eS a b c).map (·.1)).any (bR p) | _=>false) id k2 (fun _ _=>rfl) (fun x hx=>by
  obtain⟨e,_,rfl⟩:=List.mem_map.mp hx
  exact(jL rfl rfl).trans (aIN.trans (by rw [aEB]))) (fun _ _ _=>rfl) none
 have eu:k1++((k2.filter fun x=>match x with | .bytes [p]=> !((eS a b c).map (·.1)).any (bR p) | _=>false).map id)=pL (un a b c a' b' c'):=by
  unfold un pL
  rw [GO,cU,iT,SY,SY,iT]
  rfl
 have hl:(un a b c a' b' c').length≤6:=FC (j:=3) (by rw [bQ];exact NR a b c) (aP (Hf ..) (by rw [bQ];exact NR a' b' c'))
 have hs:tE FD (pL (un a b c a' b' c')) (pL (un a b c a' b' c'))=some (pL (nms a b c a' b' c')):=by
  unfold un nms
  rw [Mb,Mb,Df,Df,Df]
  exact aOL ..
 have ea:b2 (eG dK (aA 10) [none,none] (nT 1) (rt true) (aA 1)) (eG dK (aA 11) [none,none,some 10] (nT 1) (t2 (aA 1) (aA 2) fB) (aA 1)) bM ⟨loc,cs⟩=some (.ref cs.length,⟨loc,cs++[.list (pL (un a b c a' b' c'))]⟩):=by
  refine(uZ (tX g10 rfl ?_ e1) (tX g11 rfl ?_ (Eq.trans ?_ e2))).trans ?_
  ·rw [bQ];exact aP (NR a b c) (by decide)
  ·rw [bQ];exact aP (NR a' b' c') (by decide)
  ·rw [show pO [none,none,some 10] loc= [none,none,some (.pv (eD a b c))] by show [none,none,(loc[10]?).join]=_;rw [h10];rfl]
  ·rw [←eu]
   exact aAN (by rw [←fE,eu];exact aP ((bQ ..).symm▸hl:(pL (un a b c a' b' c')).length≤6) (by decide))
 refine eU (eU ea (aOz zG (aP hl (by decide)) hs)) (OR.trans ?_)
 rw [gJ];rfl
end
theorem aIz(i j:Nat)(a b c a' b' c':OE)(N:PV)(ω:Dk)(K:List (List Nat))(T:List PV):
  ge cC (ge nP (b2 (eG dK (aA 10) [none,none] (nT 1) (rt true) (aA 1)) (eG dK (aA 11) [none,none,some 10] (nT 1) (t2 (aA 1) (aA 2) fB) (aA 1)) bM)) (⟨(oQ i j (eD a b c) (eD a' b' c') N none none none none none none [] [] []).loc.set 13 none,s8 ω K T++[.list [],.list []]⟩)=
   some (.pv (.lst (pL (nms a b c a' b' c'))),⟨(oQ i j (eD a b c) (eD a' b' c') N none none none none none none [] [] []).loc.set 13 none,s8 ω K T++[.list [],.list [],.list (pL (un a b c a' b' c')),.dead]⟩):=
 (aIB rfl rfl).trans (congrArg (fun l=>some (_,(⟨_,l⟩:St))) (gJ ..))
theorem Ls(a b c:OE):(∀ st,dX (.pv (eD a b c)) (.pv (.bytes [97])) st=some (.pv (oP 97 a),st))∧(∀ st,dX (.pv (eD a b c)) (.pv (.bytes [98])) st=some (.pv (oP 98 b),st))∧(∀ st,dX (.pv (eD a b c)) (.pv (.bytes [99])) st=some (.pv (oP 99 c),st)):=by
 rcases a with _ | ⟨_,_⟩ <;> rcases b with _ | ⟨_,_⟩ <;> rcases c with _ | ⟨_,_⟩ <;> exact⟨fun _=>rfl,fun _=>rfl,fun _=>rfl⟩
noncomputable def XK(l:List En)(p:Nat):OE:=match l.find? fun e=>bR e.1 p with
 |some e=>some (e.2.1,e.2.2 - 1)
 |none=>none
theorem Lr(a b c:OE):XK (eS a b c) 97=a∧XK (eS a b c) 98=b∧XK (eS a b c) 99=c:=by
 cases a <;> cases b <;> cases c <;> exact⟨rfl,rfl,rfl⟩
theorem aEK{a b c a' b' c':OE}(h:eS a b c=eS a' b' c'):a=a'∧b=b'∧c=c':=by
 obtain⟨h1,h2,h3⟩:=Lr a b c
 rw [h] at h1 h2 h3
 obtain⟨g1,g2,g3⟩:=Lr a' b' c'
 exact⟨h1.symm.trans g1,h2.symm.trans g2,h3.symm.trans g3⟩
theorem aJx(p:Nat)(o n:OE):(o=none∧n=none∧pn p o n= [])∨(one o n∧pn p o n= [p]):=by
 cases o <;> cases n
 ·exact .inl ⟨rfl,rfl,rfl⟩
 ·exact .inr ⟨.inr (by simp),rfl⟩
 ·exact .inr ⟨.inl (by simp),rfl⟩
 ·exact .inr ⟨.inl (by simp),rfl⟩
theorem yW(p:Nat)(o n:OE):(dC p o n).length≤1:=by
 rcases rC p o n with⟨_,e⟩ | ⟨_,_,e⟩ <;> rw [e] <;> simp
inductive Zp(i:Nat)(j:Nat)(p:Nat)(o:OE)(n:OE)(D:PV)(E:PV)(N:PV)(o12:Option SV)(o14:Option SV)(o15:Option SV)(o16:Option SV)(o17:Option SV)(o18:Option SV)(ω:Dk)(K:List (List Nat))(T:List PV)(F:List PV)(gb:List SO)(rest:List PV):Prop
 |mk (q12:_) (q14:_) (q15:_) (q16:_) (q17:_) (q18:_) (hh0:fJ (pL (pn p o n)++rest) (fun x=>bd (nT 12 x) fun _=>XM) (oQ i j D E N o12 o14 o15 o16 o17 o18 (s8 ω K T) F gb)=fJ rest (fun x=>bd (nT 12 x) fun _=>XM) (oQ i j D E N q12 q14 q15 q16 q17 q18 (s8 ω K T) (F++(dC p o n).map cp) gb))
theorem XJ(i j p:Nat)(o n:OE)(D E N:PV)(hD:cV (.pv D)=fun st=>some ((),st))(hE:cV (.pv E)=fun st=>some ((),st))(gD:∀ st,dX (.pv D) (.pv (.bytes [p])) st=some (.pv (oP p o),st))(gE:∀ st,dX (.pv E) (.pv (.bytes [p])) st=some (.pv (oP p n),st))
  (o12 o14 o15 o16 o17 o18:Option SV) (ω:Dk) (K:List (List Nat)) (T:List PV) (F:List PV) (hF:F.length≤9) (gb:List SO) (rest:List PV):Zp i j p o n D E N o12 o14 o15 o16 o17 o18 ω K T F gb rest:=by
 rcases aJx p o n with⟨rfl,rfl,e⟩ | ⟨h,ep⟩
 ·exact⟨o12,o14,o15,o16,o17,o18,by rw [show dC p none none= [] from rfl,List.map_nil,gK];rfl⟩
 ·obtain⟨q12,q14,q15,q16,q17,q18,f,hf,e⟩:=aEo i j p o n h D E N hD hE gD gE o12 o14 o15 o16 o17 o18 ω K T F hF gb
  refine⟨q12,q14,q15,q16,q17,q18,?_⟩
  refine(ep).symm▸?_
  rcases hf with rfl | rfl
  ·exact gL e
  ·exact IK e
theorem eq_bytes(k l:List Nat)(st:St):cK (.pv (.bytes k)) (.pv (.bytes l)) st=some (eqL k l,st):=rfl
theorem aEw(a b c:OE):dif a b c a b c= []:=by
 unfold dif dC
 simp
noncomputable def dE(i j:Nat)(l r h:Option SV)(cs:List SO)(W:List PV):St:=⟨[some (.ref 5),some (.pv (aN i)),some (.pv (aN j)),some (.pv (.bytes [])),some (.pv (.bool true)),some (.ref 8),some (.ref 9),l,r,h,none,none,none,none,none,none,none,none,none,none,none,none,none,none,none,none],cs++[.list [],.list W]⟩
theorem Lw(ω:Dk)(S:List It){i j:Nat}{a b c a' b' c':OE}(hi:S[i]? =some (.tree (eS a b c)))(hj:S[j]? =some (.tree (eS a' b' c')))(ex:List SO):
  ED [.ref 5,.pv (aN i),.pv (aN j)] (sS ω S++ex)=some (.pv (.lst ((dif a b c a' b' c').map cp)),sS ω S++ex):=by
 have hsort:∀ st,lZ st (.ref 8)=some ((dif a b c a' b' c').map cp)→CL BI (.ref 8) st=some (.ref st.cells.length,{st with cells:=st.cells++[.list ((dif a b c a' b' c').map cp)]}):=fun st h=>by
  refine Xd (k:=vI) h (fun x hx ex=> ?_) (XC 97 a a') (XC 98 b b') (XC 99 c c') ?_
  ·unfold dif at hx
   rw [cU,cU] at hx
   rcases List.mem_append.mp hx with hx | hx
   ·rcases List.mem_append.mp hx with hx | hx
    ·obtain⟨w,h⟩:=HU _ _ _ x hx;exact h.order ex
    ·obtain⟨w,h⟩:=HU _ _ _ x hx;exact h.order ex
   ·obtain⟨w,h⟩:=HU _ _ _ x hx;exact h.order ex
  ·unfold dif
   rw [cU,cU,cU,cU,XD,XD,XD]
 by_cases hij:i=j
 ·subst hij
  have:eS a b c=eS a' b' c':=It.tree.inj (iW (hi.symm.trans hj))
  obtain⟨rfl,rfl,rfl⟩:=aEK this
  rw [aEw] at hsort ⊢
  refine iM (j:=[.list [],.list [],.dead]) (eJ (st:=⟨(dE i i (some (.pv (aN i))) (some (.pv (aN i))) (some (.pv (.bytes []))) [] []).loc,sS ω S++[.list [],.list [],.dead]⟩) rfl (aO (by rfl) (aO (st₁:=dE i i none none none (sS ω S) [.tup [aN i,aN i,.bytes []]]) (by rfl) (aO (st₁:=dE i i (some (.pv (aN i))) (some (.pv (aN i))) (some (.pv (.bytes []))) (sS ω S) []) ?_ (eZ (fC ((BM ((BM rfl).trans (hsort _ rfl))).trans rfl))))))) rfl rfl
  refine(Yt (st₁:=dE i i none none none (sS ω S) [.tup [aN i,aN i,.bytes []]]) (st₂:=dE i i (some (.pv (aN i))) (some (.pv (aN i))) (some (.pv (.bytes []))) (sS ω S) []) (f:=.cont) (by rfl) ?_ (.inr rfl)).trans (Ys (by rfl))
  refine aO (st₁:=dE i i (some (.pv (aN i))) (some (.pv (aN i))) (some (.pv (.bytes []))) (sS ω S) []) (by rfl) (DN (hV ((jL rfl rfl).trans ((eq_bytes ..).trans ?_)) rfl))
  rw [jI.mpr rfl]
 ·obtain⟨ga,gb,gc⟩:=Ls a b c
  obtain⟨ga',gb',gc'⟩:=Ls a' b' c'
  have hD:∀ a b c,cV (.pv (eD a b c))=fun st=>some ((),st):=fun _ _ _=>rfl
  obtain⟨p12,p14,p15,p16,p17,p18,e₁⟩:=XJ i j 97 a a' (eD a b c) (eD a' b' c') (.lst (pL (nms a b c a' b' c'))) (hD ..) (hD ..) ga ga' none none none none none none ω (S.map It.key) (S.map It.val) [] (by simp) [.list (pL (un a b c a' b' c')),.dead] (pL (pn 98 b b')++(pL (pn 99 c c')++[]))
  have l₁:=yW 97 a a'
  have l₂:=yW 98 b b'
  obtain⟨q12,q14,q15,q16,q17,q18,e₂⟩:=XJ i j 98 b b' (eD a b c) (eD a' b' c') (.lst (pL (nms a b c a' b' c'))) (hD ..) (hD ..) gb gb' p12 p14 p15 p16 p17 p18 ω (S.map It.key) (S.map It.val) ([]++(dC 97 a a').map cp) (ub (aP (dQ (bQ ..)) l₁) rfl) [.list (pL (un a b c a' b' c')),.dead] (pL (pn 99 c c')++[])
  obtain⟨r12,r14,r15,r16,r17,r18,e₃⟩:=XJ i j 99 c c' (eD a b c) (eD a' b' c') (.lst (pL (nms a b c a' b' c'))) (hD ..) (hD ..) gc gc' q12 q14 q15 q16 q17 q18 ω (S.map It.key) (S.map It.val) ([]++(dC 97 a a').map cp++(dC 98 b b').map cp) (by rw [oA,fE,bQ,bQ];exact ub (mK l₁ l₂) rfl) [.list (pL (un a b c a' b' c')),.dead] []
  have hF: []++(dC 97 a a').map cp++(dC 98 b b').map cp++(dC 99 c c').map cp=(dif a b c a' b' c').map cp:=by
   unfold dif;rw [cU,cU,oA]
  rw [hF] at e₃
  have hN:pL (nms a b c a' b' c')=pL (pn 97 a a')++(pL (pn 98 b b')++(pL (pn 99 c c')++[])):=by
   unfold nms pL;rw [cU,cU,gK,gJ]
  refine iM (j:=[.list ((dif a b c a' b' c').map cp),.list [],.list (pL (un a b c a' b' c')),.dead,.dead]) (eJ (st:=⟨(oQ i j (eD a b c) (eD a' b' c') (.lst (pL (nms a b c a' b' c'))) r12 r14 r15 r16 r17 r18 [] [] []).loc,sS ω S++[.list ((dif a b c a' b' c').map cp),.list [],.list (pL (un a b c a' b' c')),.dead,.dead]⟩) rfl (aO (by rfl) (aO (st₁:=dE i j none none none (sS ω S) [.tup [aN i,aN j,.bytes []]]) (by rfl) (aO (st₁:=oQ i j (eD a b c) (eD a' b' c') (.lst (pL (nms a b c a' b' c'))) r12 r14 r15 r16 r17 r18 (sS ω S) ((dif a b c a' b' c').map cp) [.list (pL (un a b c a' b' c')),.dead]) ?_ (eZ (fC ((BM ((BM rfl).trans (hsort _ rfl))).trans rfl))))))) rfl rfl
  refine(Yt (st₁:=dE i j none none none (sS ω S) [.tup [aN i,aN j,.bytes []]]) (st₂:=oQ i j (eD a b c) (eD a' b' c') (.lst (pL (nms a b c a' b' c'))) r12 r14 r15 r16 r17 r18 (sS ω S) ((dif a b c a' b' c').map cp) [.list (pL (un a b c a' b' c')),.dead]) (f:=.next) (by rfl) ?_ (.inl rfl)).trans (Ys (by rfl))
  refine aO (st₁:=dE i j (some (.pv (aN i))) (some (.pv (aN j))) (some (.pv (.bytes []))) (sS ω S) []) (by rfl) (aO (st₁:=dE i j (some (.pv (aN i))) (some (.pv (aN j))) (some (.pv (.bytes []))) (sS ω S) []) (eV ((jL rfl rfl).trans ((eq_bytes ..).trans ?_)) rfl) ?_)
  ·rw [XT,decide_eq_false (fun e=>hij (vW e))]
  have c₁:cf EH (ar [aA 0,aA 7]) (dE i j (some (.pv (aN i))) (some (.pv (aN j))) (some (.pv (.bytes []))) (sS ω S) [])=some (.pv (eD a b c),dE i j (some (.pv (aN i))) (some (.pv (aN j))) (some (.pv (.bytes []))) (sS ω S) []):=(gF (as:=[.ref 5,.pv (aN i)]) (dJ rfl rfl) (Md ω S hi _)).trans rfl
  have c₂:cf EH (ar [aA 0,aA 8]) (dE i j (some (.pv (aN i))) (some (.pv (aN j))) (some (.pv (.bytes []))) (sS ω S) [])=some (.pv (eD a' b' c'),dE i j (some (.pv (aN i))) (some (.pv (aN j))) (some (.pv (.bytes []))) (sS ω S) []):=(gF (as:=[.ref 5,.pv (aN j)]) (dJ rfl rfl) (Md ω S hj _)).trans rfl
  refine aO (HN (u:=()) (dJ c₁ c₂) rfl) ?_
  refine aO (st₁:=oQ i j (eD a b c) (eD a' b' c') (.lst (pL (nms a b c a' b' c'))) none none none none none none (sS ω S) [] [.list (pL (un a b c a' b' c')),.dead]) (iI (aIz i j a b c a' b' c' .none ω _ _)) (cW ((mP (a:=.pv (.lst (pL (nms a b c a' b' c')))) (xs:=pL (nms a b c a' b' c')) (by rfl) rfl).trans ?_))
  rw [←hN] at e₁
  exact e₁.trans (e₂.trans (e₃.trans rfl))
noncomputable def lk(l:List Nat):PV:=.tup [.bool false,.bytes l]
theorem PQ(a b:List Nat):iZ (lk a) (lk b)=true↔a=b:=by
 show(match eqL a b with | true=>(false==false) | false=>false)=true↔a=b
 rw [←jI]
 cases eqL a b <;> simp
noncomputable def iF(n j:Nat):List PV:=(xX j n).map fun i=>.int (i:Nat)
noncomputable def nC(fs:List SV)(L:List (List Nat)):List SO:=[.inst 3 fs,.inst 2 [.ref 2,.ref 3,.pv (.int (L.length:Nat))],.dict .pair (L.map lk) (iF L.length 0),.list []]
theorem Pu{n j i:Nat}(h:i < n):(iF n j)[i]? =some (.int ((j+i:Nat):Int)):=by
 unfold iF
 rw [iR,List.getElem?_range' h]
 simp
theorem aGy(n j:Nat):iF (n+1) j=iF n j++[.int ((j+n:Nat):Int)]:=by
 unfold iF
 rw [List.range'_concat]
 simp
section
variable{st:St}{j:Nat}{k:List Nat}{ks vs:List PV}{y:PV}
theorem Tb(h:st.cells[j]? =some (.dict .pair ks vs)):fB (.pv (lk k)) (.ref j) st=some ((dN ks vs (lk k)).isNone,st):=by
 have hd:=NP h
 have h1:sW uA (.pv (lk k)) (.ref j) st=none:=by
  unfold sW bd
  rw [show uA (.pv (lk k)) (.ref j) st=none from Tq h]
 have h3:sW zI (.pv (lk k)) (.ref j) st=none:=by
  unfold sW bd
  rw [show zI (.pv (lk k)) (.ref j) st=none by show kF (.ref j) _ _ st=_;unfold kF;rw [hd];rfl]
 have h4:OZ (.pv (lk k)) (.ref j) st=some ((dN ks vs (lk k)).isSome,st):=by
  show kF (.ref j) _ _ st=_;unfold kF;rw [hd];rfl
 exact(mN h1).trans ((mN rfl).trans ((mN h3).trans ((aJ h4).trans (by cases dN ks vs (lk k) <;> rfl))))
theorem Xn(h:st.cells[j]? =some (.dict .pair ks vs))(e:dN ks vs (lk k)=some y):aV (.ref j) (.pv (lk k)) st=some (.pv y,st):=by
 have hd:=NP h
 refine(mN rfl).trans ((mN ?_).trans ((mN ?_).trans ?_))
 ·show kF (.ref j) _ _ st=_;unfold kF;rw [hd];rfl
 ·unfold Af QI BZ;dsimp only;rw [h];rfl
 ·show kF (.ref j) _ _ st=_;unfold kF;rw [hd]
  show eW (dN ks vs (lk k)) _ st=_
  rw [e];rfl
theorem aMi(h:st.cells[j]? =some (.dict .pair ks vs))(hl:ks.length≤1000)(hn:dhas ks (lk k)=false):fQ (.ref j) (.pv (lk k)) (.pv y) st=some ((),fD st j (.dict .pair (ks++[lk k]) (vs++[y]))):=by
 refine(mN ?_).trans ((mN ?_).trans ((mN ?_).trans ?_))
 ·show xI (.ref j) _ _ st=_;unfold xI;dsimp only;rw [h];rfl
 ·show qK (.ref j) _ _ st=_;unfold qK;dsimp only;rw [h];rfl
 ·unfold Ej BZ;dsimp only;rw [h];rfl
 ·show xI (.ref j) _ _ st=_;unfold xI;dsimp only;rw [h]
  show gd (true && decide (ks.length≤1000000)) (fun st=>some ((),fD st j (.dict .pair (dY ks vs (lk k) y).1 (dY ks vs (lk k) y).2))) st=_
  rw [decide_eq_true (aP hl (bT rfl))]
  unfold dY
  rw [hn]
  rfl
end
noncomputable def nL(l:List Nat)(o2:Option SV):List (Option SV):=[some (.ref 1),some (.pv (.bytes l)),o2,none,none,none,none,none]
theorem KH{f:Fn}{args:List SV}{cells cells':List SO}{v:SV}(h:f args cells=some (v,cells')):oX f args cells=some (v,CN v cells.length cells'):=by unfold oX;rw [h]
theorem aIX(fs:List SV)(hf:fs= []∨∃ A,fs= [.pv A])(L:List (List Nat))(hn:L.Nodup)(l:List Nat)(i:Nat)(hi:L[i]? =some l):EC [.ref 1,.pv (.bytes l)] (nC fs L)=some (.pv (.int (i:Nat)),nC fs L):=by
 have hik:=(List.getElem?_eq_some_iff.mp hi).1
 have hd:dN (L.map lk) (iF L.length 0) (lk l)=some (.int (i:Nat)):=BN PQ hn hi (by rw [Pu hik,kG])
 have hrun:bG 8 (gN 2) WS [.ref 1,.pv (.bytes l)] (nC fs L)=some (.pv (.int (i:Nat)),nC fs L):=by
  refine eJ (st:=⟨nL l (some (.pv (lk l))),nC fs L⟩) rfl (AW (hV rfl (aO (st₁:=⟨nL l (some (.pv (lk l))),nC fs L⟩) (by rfl) (aO (st₁:=⟨nL l (some (.pv (lk l))),nC fs L⟩) (eV ((jL (a:=.pv (lk l)) (b:=.ref 2) rfl rfl).trans ((Tb (ks:=L.map lk) (vs:=iF L.length 0) rfl).trans (by rw [hd];rfl))) rfl) (eZ (fC (jG (a:=.ref 2) (b:=.pv (lk l)) rfl rfl (Xn rfl hd))))))))
 refine(KH hrun).trans ?_
 rcases hf with rfl | ⟨A,rfl⟩ <;> rfl
theorem aIW(fs:List SV)(hf:fs= []∨∃ A,fs= [.pv A])(L:List (List Nat))(hn:L.Nodup)(hl:L.length≤100)(l:List Nat)(hi:l∉L):EC [.ref 1,.pv (.bytes l)] (nC fs L)=some (.pv (.int (L.length:Nat)),nC fs (L++[l])):=by
 have hn':(L++[l]).Nodup:=List.nodup_append.mpr ⟨hn,List.nodup_cons.mpr ⟨GP,pH⟩,fun a ha b hb e=>by rw [List.mem_singleton.mp hb] at e;exact hi (e▸ha)⟩
 have hd:dN ((L++[l]).map lk) (iF (L++[l]).length 0) (lk l)=some (.int (L.length:Nat)):=BN (i:=L.length) PQ hn' (by simp) (by rw [Pu (by simp),kG])
 have hc:nC fs (L++[l])= [.inst 3 fs,.inst 2 [.ref 2,.ref 3,.pv (.int ((L.length:Nat)+1:Int))],.dict .pair (L.map lk++[lk l]) (iF L.length 0++[.int (L.length:Nat)]),.list []]:=by
  unfold nC
  rw [show(L++[l]).length=L.length+1 from by simp,aGy,kG,cU]
  rfl
 have hrun:bG 8 (gN 2) WS [.ref 1,.pv (.bytes l)] (nC fs L)=some (.pv (.int (L.length:Nat)),nC fs (L++[l])):=by
  refine eJ (st:=⟨nL l (some (.pv (lk l))),nC fs (L++[l])⟩) rfl (AW (hV rfl (aO (st₁:=⟨nL l (some (.pv (lk l))),nC fs L⟩) (by rfl) (aO (st₁:=⟨nL l (some (.pv (lk l))),nC fs (L++[l])⟩) (hV ((jL (a:=.pv (lk l)) (b:=.ref 2) rfl rfl).trans ((Tb (ks:=L.map lk) (vs:=iF L.length 0) rfl).trans (by rw [EO PQ hi];rfl))) (aO (tW (u:=()) (a:=.ref 2) (b:=.pv (lk l)) (c:=.pv (.int (L.length:Nat))) (st₁:=⟨nL l (some (.pv (lk l))),nC fs L⟩) rfl (aMi rfl (by rw [bQ];exact ub hl rfl) (EN PQ hi)) rfl rfl) ?_)) (eZ (fC (jG (a:=.ref 2) (b:=.pv (lk l)) rfl rfl (Xn rfl hd))))))))
  rw [hc]
  rfl
 refine(KH hrun).trans ?_
 rcases hf with rfl | ⟨A,rfl⟩ <;> rfl
noncomputable abbrev DU:List PV→M (List PV):=iB (nT 1) (rt true) (mc 2 EC (aA 2) (ar [(aA 1)]))
noncomputable def cL(o:Option SV):List (Option SV):=[none,o,some (.ref 1)]
theorem Lg(fs:List SV)(hf:fs= []∨∃ A,fs= [.pv A])(L:List (List Nat))(hn:L.Nodup):∀(l:List (List Nat)) (i:Nat) (o:Option SV),(∀ j x,l[j]? =some x→L[i+j]? =some x)→∃ o',DU (l.map .bytes) ⟨cL o,nC fs L⟩=some (iF l.length i,⟨cL o',nC fs L⟩)
 | [],_,o,_=>⟨o,rfl⟩
 |x::l,i,o,h=>by
  obtain⟨o',e⟩:=Lg fs hf L hn l (i+1) (some (.pv (.bytes x))) fun j y hy=>by
   have:=h (j+1) y hy
   exact(vX i j).symm▸this
  refine⟨o',?_⟩
  show iB _ _ _ (.bytes x::l.map .bytes) _=_
  refine(aJ (a:=()) (st₁:=⟨cL (some (.pv (.bytes x))),nC fs L⟩) rfl).trans ((aJ (a:=true) rfl).trans ?_)
  refine(aJ (jK (a:=.ref 1) (st₃:=⟨cL (some (.pv (.bytes x))),nC fs L⟩) rfl rfl (iH rfl) (aIX fs hf L hn x i (h 0 x rfl)))).trans ?_
  exact(aJ e).trans rfl
theorem DV(fs:List SV)(hf:fs= []∨∃ A,fs= [.pv A]):∀(l L:List (List Nat)) (o:Option SV),(L++l).Nodup→(L++l).length≤100→∃ o',DU (l.map .bytes) ⟨cL o,nC fs L⟩=some (iF l.length L.length,⟨cL o',nC fs (L++l)⟩)
 | [],L,o,_,_=>⟨o,by rw [gK];rfl⟩
 |x::l,L,o,hn,hl=>by
  have e0:L++x::l=(L++[x])++l:=by simp
  have hnL:L.Nodup:=(List.nodup_append.mp hn).1
  have hx:x∉L:=fun h=>(List.nodup_append.mp hn).2.2 x h x (uP ..) rfl
  obtain⟨o',e⟩:=DV fs hf l (L++[x]) (some (.pv (.bytes x))) (e0▸hn) (e0▸hl)
  refine⟨o',?_⟩
  show iB _ _ _ (.bytes x::l.map .bytes) _=_
  refine(aJ (a:=()) (st₁:=⟨cL (some (.pv (.bytes x))),nC fs L⟩) rfl).trans ((aJ (a:=true) rfl).trans ?_)
  refine(aJ (jK (a:=.ref 1) (st₃:=⟨cL (some (.pv (.bytes x))),nC fs L⟩) rfl rfl (iH rfl) (aIW fs hf L hnL (aP (List.sublist_append_left ..).length_le hl) x hx))).trans ?_
  refine(aJ e).trans ?_
  rw [e0,show(L++[x]).length=L.length+1 from by simp]
  rfl
theorem Lf:∀(l l':List PV) {ys ys':List PV} {st st₁ st₂:St},DU l st=some (ys,st₁)→DU l' st₁=some (ys',st₂)→DU (l++l') st=some (ys++ys',st₂)
 | [],l',ys,ys',st,st₁,st₂,h,h'=>by obtain⟨rfl,rfl⟩:=Xf h;exact h'
 |x::l,l',ys,ys',st,st₁,st₂,h,h'=>by
  have h:iB _ _ _ (x::l) st=_:=h
  obtain⟨u,s1,e1,h⟩:=MY h
  obtain⟨t,s2,e2,h⟩:=MY h
  obtain⟨rfl,rfl⟩:=Xf e2
  obtain⟨y,s3,e3,h⟩:=MY h
  cases y with
  |ref=>exact JQ h
  |pv y=>
   obtain⟨zs,s4,e4,h⟩:=MY h
   cases h
   have:=Lf l l' e4 h'
   show iB _ _ _ (x::(l++l')) st=_
   exact(aJ e1).trans ((aJ (a:=true) rfl).trans ((aJ e3).trans ((aJ this).trans rfl)))
theorem FH(fs:List SV)(hf:fs= []∨∃ A,fs= [.pv A])(L L' l:List (List Nat))(ys:List PV)(hl:l.length≤100)(h:∃ o',DU (l.map .bytes) ⟨cL none,nC fs L⟩=some (ys,⟨cL o',nC fs L'⟩)):zB [.ref 1,.pv (lp l)] (nC fs L)=some (.pv (.lst ys),nC fs L'):=by
 obtain⟨o',h⟩:=h
 have hrun:bG 2 (gN 2) Jx [.ref 1,.pv (lp l)] (nC fs L)=some (.pv (.lst ys),nC fs L'):=by
  refine eJ (st:=⟨[some (.ref 1),some (.pv (lp l))],nC fs L'⟩) rfl (eZ (fC ?_))
  exact(tX (cap:=[none,none,some 0]) (g:=nT 1) (t:=rt true) (m:=mc 2 EC (aA 2) (ar [(aA 1)])) (a:=.pv (lp l)) (st₁:=⟨[some (.ref 1),some (.pv (lp l))],nC fs L⟩) (st₂:=⟨cL o',nC fs L'⟩) (xs:=l.map .bytes) rfl rfl (by rw [bQ];exact ub hl rfl) h).trans rfl
 refine(KH hrun).trans ?_
 rcases hf with rfl | ⟨A,rfl⟩ <;> rfl
noncomputable def iA(n j:Nat):List PV:=iF n j
noncomputable def tf(f t:Nat):List PV:=mW f (.bool false)++mW t (.bool true)
noncomputable def mC(A B ks vs:List PV)(c:Int)(g h:List PV):List SO:=[.inst 3 [.pv (.lst A),.pv (.lst B),.ref 4,.ref 5],.inst 2 [.ref 2,.ref 3,.pv (.int c)],.dict .pair ks vs,.list [],.list g,.list h]
noncomputable def wO(a b c d:Int):PV:=.obj 1 [.int a,.int b,.int c,.int d]
noncomputable def QB:List (M Fl):=[(ex (mc 3 YC (aA 2) (ar [(mc 3 YD (aA 2) (ar []))]))),
 (re (mc 3 YB (aA 2) (ar [])))]
noncomputable def mS(a b:PV)(cs:List SO):St:=⟨[some (.pv a),some (.pv b),some (.ref 0),none],cs⟩
noncomputable def ck(k:Nat):List PV:=match k with
 |0=>[]
 |k+1=>[wO (10 - ((k:Nat)+1)) 10 (10 - ((k:Nat)+1)) 10]
theorem aIv(a b:PV)(ks vs:List PV)(c:Int)(k:Nat)(hk:k≤10):bl QB (mS a b (mC (iF 10 0) (iF (10 - k) 0++iF k 10) ks vs c (tf 10 0) (tf 10 0)))=some (.ret (.pv (.lst (ck k))),mS a b (mC (iF 10 0) (iF (10 - k) 0++iF k 10) ks vs c (tf (10 - k) k) (tf (10 - k) k))):=by
 rcases RE k hk with rfl | rfl | rfl | rfl | rfl | rfl | rfl | rfl | rfl | rfl | rfl <;> kernel_rfl
theorem myA(a b:PV)(ks vs:List PV)(c:Int):bl QB (mS a b (mC [] (iF 10 0) ks vs c [] (tf 10 0)))=some (.ret (.pv (.lst [wO 0 0 0 10])),mS a b (mC [] (iF 10 0) ks vs c [] (tf 0 10))):=by kernel_rfl
theorem myD(a b:PV)(ks vs:List PV)(c:Int):bl QB (mS a b (mC (iF 10 0) [] ks vs c (tf 10 0) []))=some (.ret (.pv (.lst [wO 0 10 0 0])),mS a b (mC (iF 10 0) [] ks vs c (tf 0 10) [])):=by kernel_rfl
theorem HM{f:SV→SV→M Unit}{me mo:M SV}{st st₁ st₂ st₃:St}{c a:SV}{u:Unit}(h₁:me st=some (c,st₁))(h₂:mo st₁=some (a,st₂))(h₃:f a c st₂=some (u,st₃)):eQ f me mo st=some (.next,st₃):=(aJ h₁).trans ((aJ h₂).trans ((aJ h₃).trans rfl))
theorem aMo(a b:List (List Nat))(A B:List PV)(La Lb:List (List Nat))(ha:a.length=10∨a.length=0)(hb:b.length=10∨b.length=0)
  (hA:zB [.ref 1,.pv (lp a)] (nC [] [])=some (.pv (.lst A),nC [] La)) (hB:zB [.ref 1,.pv (lp b)] (nC [.pv (.lst A)] La)=some (.pv (.lst B),nC [.pv (.lst A)] Lb)):
  NW [.ref 0,.pv (lp a),.pv (lp b)] [.inst 3 []]=some (.pv .none,mC A B (Lb.map lk) (iF Lb.length 0) (Lb.length:Nat) (tf a.length 0) (tf b.length 0)):=by
 have h0:aZ 3 (nw 2 YA (ar [])) ⟨[some (.ref 0),some (.pv (lp a)),some (.pv (lp b)),none,none,none],[.inst 3 []]⟩=some (.next,⟨[some (.ref 0),some (.pv (lp a)),some (.pv (lp b)),some (.ref 1),none,none],nC [] []⟩):=by rfl
 refine KP (st:=⟨[some (.ref 0),some (.pv (lp a)),some (.pv (lp b)),some (.ref 1),none,none],mC A B (Lb.map lk) (iF Lb.length 0) (Lb.length:Nat) (tf a.length 0) (tf b.length 0)⟩) rfl (aO h0 ?_)
 refine aO (HM (u:=()) (a:=.ref 0) (c:=.pv (.lst A)) (st₃:=⟨[some (.ref 0),some (.pv (lp a)),some (.pv (lp b)),some (.ref 1),none,none],nC [.pv (.lst A)] La⟩) (jK (a:=.ref 1) (st₃:=⟨[some (.ref 0),some (.pv (lp a)),some (.pv (lp b)),some (.ref 1),none,none],nC [] []⟩) rfl rfl (iH rfl) hA) rfl rfl) ?_
 refine aO (HM (u:=()) (a:=.ref 0) (c:=.pv (.lst B)) (st₃:=⟨[some (.ref 0),some (.pv (lp a)),some (.pv (lp b)),some (.ref 1),none,none],nC [.pv (.lst A),.pv (.lst B)] Lb⟩) (jK (a:=.ref 1) (st₃:=⟨[some (.ref 0),some (.pv (lp a)),some (.pv (lp b)),some (.ref 1),none,none],nC [.pv (.lst A)] La⟩) rfl rfl (iH rfl) hB) rfl rfl) ?_
 clear hA hB h0
 have key:∀ {l:List (List Nat)},(l.length=10∨l.length=0)→(SS l∨l= []):=fun h=>h.imp zM aAm
 rcases key ha with⟨x0,x1,x2,x3,x4,x5,x6,x7,x8,x9⟩ | rfl <;> rcases key hb with⟨y0,y1,y2,y3,y4,y5,y6,y7,y8,y9⟩ | rfl <;> kernel_rfl
theorem lF{f:Fn}{ms:M (List SV)}{st:St}{as:List SV}{v:SV}(h:ms st=some (as,st))(h':f as st.cells=some (v,st.cells)):cf f ms st=some (v,st):=gF h h'
theorem Br(a b:List (List Nat))(A B:List PV)(La Lb:List (List Nat))(R:List PV)(ha:a.length=10∨a.length=0)(hb:b.length=10∨b.length=0)
  (hA:zB [.ref 1,.pv (lp a)] (nC [] [])=some (.pv (.lst A),nC [] La)) (hB:zB [.ref 1,.pv (lp b)] (nC [.pv (.lst A)] La)=some (.pv (.lst B),nC [.pv (.lst A)] Lb))
  (hR:∀ ks vs c,∃ C',bl QB (mS (lp a) (lp b) (mC A B ks vs c (tf a.length 0) (tf b.length 0)))=some (.ret (.pv (.lst R)),mS (lp a) (lp b) C')) (ex:List SO):
  tY [.pv (.str [109,121,101,114,115]),.pv (lp a),.pv (lp b)] ex=some (.pv (.lst R),ex):=by
 have hm:∀ ex,YQ [.pv (lp a),.pv (lp b)] ex=some (.pv (.lst R),ex):=fun ex=>by
  obtain⟨C',h⟩:=hR (Lb.map lk) (iF Lb.length 0) (Lb.length:Nat)
  refine mT (eJ (st:=mS (lp a) (lp b) C') rfl (aO (st₁:=mS (lp a) (lp b) (mC A B (Lb.map lk) (iF Lb.length 0) (Lb.length:Nat) (tf a.length 0) (tf b.length 0))) ((iI (v:=.ref 0) (st₁:=⟨[some (.pv (lp a)),some (.pv (lp b)),none,none],mC A B (Lb.map lk) (iF Lb.length 0) (Lb.length:Nat) (tf a.length 0) (tf b.length 0)⟩) ((aJ (dJ (a:=.pv (lp a)) (b:=.pv (lp b)) rfl rfl)).trans ?_)).trans rfl) h)) rfl
  show(match lS NW [.ref 0,.pv (lp a),.pv (lp b)] ⟨[some (.pv (lp a)),some (.pv (lp b)),none,none],[.inst 3 []]⟩ with | some (.pv .none,st')=>some ((.ref 0:SV),st') | _=>none)=_
  rw [DP (aMo a b A B La Lb ha hb hA hB)]
 exact mT (j:=[]) (eJ (st:=⟨[some (.pv (.str [109,121,101,114,115])),some (.pv (lp a)),some (.pv (lp b)),none,none,none,none],[]⟩) rfl (AW (hV (by rfl) (eZ (fC (lF (dJ rfl rfl) (hm _))))))) rfl
theorem aBM(b:List (List Nat))(hb:b.length=10)(hn:b.Nodup)(ex:List SO):tY [.pv (.str [109,121,101,114,115]),.pv (lp []),.pv (lp b)] ex=some (.pv (.lst [wO 0 0 0 10]),ex):=by
 refine Br [] b [] (iF 10 0) [] b [wO 0 0 0 10] (.inr rfl) (.inl hb) (FH [] (.inl rfl) [] [] [] [] (by simp) (DV [] (.inl rfl) [] [] none (by simp) (by simp))) ?_ (fun ks vs c=> ?_) ex
 ·have:=DV [.pv (.lst [])] (.inr ⟨_,rfl⟩) b [] none (by simpa using hn) (by simp [hb])
  rw [hb,oA] at this
  exact FH _ (.inr ⟨_,rfl⟩) [] b b (iF 10 0) (ub (dQ hb) rfl) this
 ·rw [hb]
  exact⟨_,myA _ _ ks vs c⟩
theorem aBP(a:List (List Nat))(ha:a.length=10)(hn:a.Nodup)(ex:List SO):tY [.pv (.str [109,121,101,114,115]),.pv (lp a),.pv (lp [])] ex=some (.pv (.lst [wO 0 10 0 0]),ex):=by
 refine Br a [] (iF 10 0) [] a a [wO 0 10 0 0] (.inl ha) (.inr rfl) ?_ (FH _ (.inr ⟨_,rfl⟩) a a [] [] (by simp) ⟨none,rfl⟩) (fun ks vs c=> ?_) ex
 ·have:=DV [] (.inl rfl) a [] none (by simpa using hn) (by simp [ha])
  rw [ha,oA] at this
  exact FH _ (.inl rfl) [] a a (iF 10 0) (ub (dQ ha) rfl) this
 ·rw [ha]
  exact⟨_,myD _ _ ks vs c⟩
theorem Fe{a F:List (List Nat)}{k:Nat}(hk:k≤10)(ha:a.length=10)(hF:F.length=k):(a.take (10 - k)++F).length=10:=by
 rw [fE,CU,ha,hF,MD (Nat.sub_le ..),Hn hk]
theorem aBO(a F:List (List Nat))(k:Nat)(hk:k≤10)(ha:a.length=10)(hF:F.length=k)(hn:(a++F).Nodup)(ex:List SO):tY [.pv (.str [109,121,101,114,115]),.pv (lp a),.pv (lp (a.take (10 - k)++F))] ex=some (.pv (.lst (ck k)),ex):=by
 have hna:=(List.nodup_append.mp hn).1
 refine Br a (a.take (10 - k)++F) (iF 10 0) (iF (10 - k) 0++iF k 10) a (a++F) (ck k) (.inl ha) (.inl (Fe hk ha hF)) ?_ ?_ (fun ks vs c=> ?_) ex
 ·have:=DV [] (.inl rfl) a [] none hna (by simp [ha])
  rw [ha,oA] at this
  exact FH _ (.inl rfl) [] a a (iF 10 0) (ub (dQ ha) rfl) this
 ·obtain⟨o₁,e₁⟩:=Lg [.pv (.lst (iF 10 0))] (.inr ⟨_,rfl⟩) a hna (a.take (10 - k)) 0 none fun j x hx=>by
   rw [kG]
   replace hx:=(TG)▸hx
   split at hx
   ·exact hx
   ·exact JQ hx
  obtain⟨o₂,e₂⟩:=DV [.pv (.lst (iF 10 0))] (.inr ⟨_,rfl⟩) F a o₁ hn (by rw [fE,ha,hF];exact ub (oB hk 10) rfl)
  have:=Lf _ _ e₁ e₂
  rw [←cU,hF,ha,show(a.take (10 - k)).length=10 - k from by rw [CU,ha];exact MD (Nat.sub_le ..)] at this
  exact FH _ (.inr ⟨_,rfl⟩) a (a++F) _ _ (ub (dQ (Fe hk ha hF)) rfl) ⟨_,this⟩
 ·refine(ha).symm▸(show(a.take (10 - k)++F).length=10 from Fe hk ha hF).symm▸?_
  exact⟨_,aIv _ _ ks vs c k hk⟩
section
set_option tactic.hygienic true
noncomputable def lv(v:Option aT):List (List Nat):=match v with
 |some v=>bJ v.z v.ns
 |none=>[]
noncomputable def bz(v:Option aT):Bool:=match v with
 |some v=>v.z
 |none=>false
theorem Rz(h:eI v):(lv v).length=10∨(lv v).length=0:=by
 cases v with
 |none=>exact .inr rfl
 |some v=>exact .inl ((sU _ _).trans h)
theorem WK(v:Option aT)(h:eI v)(ex:List SO):vF [.pv (.bytes (lv v).flatten)] ex=some (.pv (.bool (bz v)),ex):=by
 cases v with
 |none=>kernel_rfl
 |some v=>
  obtain⟨x,z,ns⟩:=v
  obtain⟨n₀,n₁,n₂,n₃,n₄,n₅,n₆,n₇,n₈,n₉⟩:=zM h
  refine mT (j:=[]) ?_ rfl
  cases z <;> kernel_rfl
theorem Rk(v:Option aT)(h:eI v)(ex:List SO):vE [.pv (.bytes (lv v).flatten)] ex=some (.pv (lp (lv v)),ex):=by
 cases v with
 |none=>kernel_rfl
 |some v=>
  obtain⟨x,z,ns⟩:=v
  obtain⟨n₀,n₁,n₂,n₃,n₄,n₅,n₆,n₇,n₈,n₉⟩:=zM h
  refine mT (j:=[.dead]) ?_ rfl
  cases z <;> kernel_rfl
noncomputable def rR(o:OE):Int:=match o with
 |some (x,_)=>mo x
 |none=>0
noncomputable def rL(o:OE):PV:=match o with
 |some (_,i)=>aN i
 |none=>.none
theorem aEe(ω:Dk)(S:List It)(h:dZ S v o)(ex:List SO):wW [.ref 5,.pv (.int (rR o)),.pv (rL o)] (sS ω S++ex)=some (.pv (.bytes (lv v).flatten),sS ω S++ex):=by
 cases v <;> cases o <;> first | exact h.elim | skip
 ·exact iM (eJ (st:=⟨[some (.ref 5),some (.pv (.int 0)),some (.pv .none),none,none,none,none],sS ω S++[]⟩) rfl (AW (hV rfl (eZ (fC rfl))))) rfl rfl
 ·rename_i v o
  obtain⟨x,i⟩:=o
  have hk:bH (t2 (cf rH (ar [(aA 1)])) Am cK) (bl [er]) (bl []) ⟨[some (.ref 5),some (.pv (.int (mo x))),some (.pv (aN i)),none,none,none,none],sS ω S⟩=some (.next,⟨[some (.ref 5),some (.pv (.int (mo x))),some (.pv (aN i)),none,none,none,none],sS ω S⟩):=by
   cases x <;> kernel_rfl
  refine iM (eJ rfl (aO (eV rfl rfl) (aO hk (eZ (fC (jK rfl rfl (iH rfl) (Jo ω S h.2 []))))))) rfl rfl
end
noncomputable def Nm(vo vn:Option aT)(t u:Int):Prop:=∃ R,(∀ ex,tY [.pv (.str [109,121,101,114,115]),.pv (lp (lv vo)),.pv (lp (lv vn))] ex=some (.pv (.lst R),ex))∧((R= []∧t=0∧u=0)∨∃ a b c d,R= [wO a b c d]∧t=0+(d - c)∧u=0+(b - a))
noncomputable def mB(b:Bool)(t:Int):PV:=match b with
 |true=>.none
 |false=>.int t
noncomputable def Tg(p:Nat)(b:Bool)(t u:Int):PV:=.obj 8 [.bytes [p],mB b t,mB b u]
noncomputable def Xy:List (M Fl):=[(aZ 5 (cf wW (ar [(aA 0),(ge qV (aA 4)),(ge oM (aA 4))]))),
 (aZ 6 (cf wW (ar [(aA 0),(ge oL (aA 4)),(ge lO (aA 4))])))]
noncomputable def Xx:M Fl:=bl (Xy++[(bH (gW (tv (cf vF (ar [(aA 5)]))) (gW (tv (cf vF (ar [(aA 6)]))) (rt false))) (bl [(ex (bK cR dD (aA 3) (ge cC (nw 8 zD (ar [(ge a_path (aA 4)),kN,kN]))))),
 (rt .cont)]) (bl [])),
 (nF [7,8] (ar [(kI 0),(kI 0)])),
 (fo (cf tY (ar [(aA 2),(cf vE (ar [(aA 5)])),(cf vE (ar [(aA 6)]))])) (nT 9) (bl [(au 7 jJ (b2 (ge VW (aA 9)) (ge VV (aA 9)) (bX eM))),
 (au 8 jJ (b2 (ge VU (aA 9)) (ge VT (aA 9)) (bX eM)))])),
 (ex (bK cR dD (aA 3) (ge cC (nw 8 zD (ar [(ge a_path (aA 4)),(aA 7),(aA 8)])))))])
noncomputable def gQ(l:List PV)(o4 o5 o6 o7 o8 o9:Option SV)(cs:List SO)(F:List PV)(m:Nat):St:=⟨[some (.ref 5),some (.pv (.lst l)),some (.pv (.str [109,121,101,114,115])),some (.ref 8),o4,o5,o6,o7,o8,o9,none,none,none,none,none],cs++.list F::mW m .dead⟩
theorem NL(p:Nat)(o n:OE)(h:one o n)(st:St):qV (.pv (cp (p,o,n))) st=some (.pv (.int (rR o)),st)∧oM (.pv (cp (p,o,n))) st=some (.pv (rL o),st)∧oL (.pv (cp (p,o,n))) st=some (.pv (.int (rR n)),st)∧lO (.pv (cp (p,o,n))) st=some (.pv (rL n),st)∧a_path (.pv (cp (p,o,n))) st=some (.pv (.bytes [p]),st):=by
 rcases o with _ | ⟨x,i⟩ <;> rcases n with _ | ⟨y,j⟩
 ·rcases h with h | h <;> exact absurd rfl h
 all_goals exact⟨rfl,rfl,rfl,rfl,by kernel_rfl⟩
section
variable{loc:List (Option SV)}{cs:List SO}{c:Nat}{fs:List SV}{v:SV}
theorem Ei(h:tab.lookup c=some fs.length):fK tab (.ref cs.length) v ⟨loc,cs++[SO.inst c fs]⟩=some ((),⟨loc,cs++[SO.inst c (fs++[v])]⟩):=by
 unfold fK Cu
 dsimp only
 rw [zG]
 show eW (tab.lookup c) _ _=_
 rw [h]
 show eW (OO fs fs.length v) _ _=_
 unfold OO
 rw [HO (cX _),show bR fs.length fs.length=true from CY _]
 show some ((),St.mk loc ((cs++[SO.inst c fs]).set cs.length (SO.inst c (fs++[v]))))=_
 rw [MA _ _ (cX _),GV];rfl
theorem aIK(hm:ms st=some (args,⟨loc,cs⟩))(h:f (.ref cs.length::args) (cs++[SO.inst c []])=some (.pv .none,cs++[SO.inst c fs])):nw c f ms st=some (.ref cs.length,⟨loc,cs++[SO.inst c fs]⟩):=by
 refine(aJ hm).trans ?_
 show(match lS f (.ref cs.length::args) ⟨loc,cs++[SO.inst c []]⟩ with | some (.pv .none,st')=>some (SV.ref cs.length,st') | _=>none)=_
 rw [DP h]
theorem aFO{xs:List PV}(h:pN fs=some xs):cC (.ref cs.length) ⟨loc,cs++[SO.inst c fs]⟩=some (.pv (.obj c xs),⟨loc,cs++[.dead]⟩):=by
 unfold cC
 dsimp only
 rw [zG]
 show(match pN fs with | some xs=>some (SV.pv (.obj c xs),fD ⟨loc,cs++[SO.inst c fs]⟩ cs.length .dead) | none=>none)=_
 rw [h]
 unfold fD
 rw [MA _ _ (cX _),GV];rfl
end
theorem aPl(cs:List SO)(a b c:PV):zD [.ref cs.length,.pv a,.pv b,.pv c] (cs++[SO.inst 8 []])=some (.pv .none,cs++[.inst 8 [.pv a,.pv b,.pv c]]):=
 KP (st:=⟨_,_⟩) rfl (aO (HM rfl rfl (Ei rfl)) (aO (HM rfl rfl (Ei rfl)) (cW (HM rfl rfl (Ei rfl)))))
theorem Ir(l:List PV)(p:Nat)(a b:PV)(o4 o5 o6 o7 o8 o9:Option SV)(cs:List SO)(hcs:cs.length=8)(F:List PV)(hF:F.length≤9)(m:Nat)(hms:ms (gQ l o4 o5 o6 o7 o8 o9 cs F m)=some ([.pv (.bytes [p]),.pv a,.pv b],gQ l o4 o5 o6 o7 o8 o9 cs F m)):
  ex (bK cR dD (aA 3) (ge cC (nw 8 zD ms))) (gQ l o4 o5 o6 o7 o8 o9 cs F m)=some (.next,gQ l o4 o5 o6 o7 o8 o9 cs (F++[.obj 8 [.bytes [p],a,b]]) (m+1)):=by
 let L:List (Option SV):=(gQ l o4 o5 o6 o7 o8 o9 [] [] 0).loc
 let gb:List SO:=mW (m+1) .dead
 have e:∀ G,(cs++SO.list G::gb)[8]? =some (.list G):=fun G=>by rw [CT (dQ hcs),hcs];rfl
 have e1:ge cC (nw 8 zD ms) (gQ l o4 o5 o6 o7 o8 o9 cs F m)=some (.pv (.obj 8 [.bytes [p],a,b]),⟨L,cs++.list F::gb⟩):=by
  refine eU (aIK hms (aPl _ _ _ _)) ((aFO rfl).trans ?_)
  rw [gJ,show gb=mW m .dead++[.dead] from List.replicate_succ' ..];rfl
 have e0:cR (.ref 8) (gQ l o4 o5 o6 o7 o8 o9 cs F m)=some ((),gQ l o4 o5 o6 o7 o8 o9 cs F m):=by
  unfold cR qK
  dsimp only
  rw [show(gQ l o4 o5 o6 o7 o8 o9 cs F m).cells[8]? =some (.list F) by show(cs++SO.list F::mW m .dead)[8]? =_;rw [CT (dQ hcs),hcs];rfl]
  rfl
 refine sO (v:=.pv .none) ((qI rfl e0 e1).trans ((yR (e F) (aP hF (bT rfl))).trans ?_))
 show some (SV.pv .none,St.mk L ((cs++SO.list F::gb).set 8 _))=_
 rw [MA _ _ (dQ hcs),hcs];rfl
theorem Ko(ω:Dk)(S:List It){v:Option aT}{o:OE}(h:dZ S v o){ms:M (List SV)}{st:St}{ex:List SO}(hc:st.cells=sS ω S++ex)(hm:ms st=some ([.ref 5,.pv (.int (rR o)),.pv (rL o)],st)):cf wW ms st=some (.pv (.bytes (lv v).flatten),st):=by
 refine lF hm ?_
 rw [hc]
 exact aEe ω S h ex
inductive aAd(ω:Dk)(S:List It)(l:List PV)(p:Nat)(o:OE)(n:OE)(vo:Option aT)(vn:Option aT)(t:Int)(u:Int)(o4:Option SV)(o5:Option SV)(o6:Option SV)(o7:Option SV)(o8:Option SV)(o9:Option SV)(F:List PV)(m:Nat):Prop
 |mk (q4:_) (q5:_) (q6:_) (q7:_) (q8:_) (q9:_) (f:_) (hh0:(f= .next∨f= .cont)) (hh1:(bd (nT 4 (cp (p,o,n))) fun _=>Xx) (gQ l o4 o5 o6 o7 o8 o9 (sS ω S) F m)=some (f,gQ l q4 q5 q6 q7 q8 q9 (sS ω S) (F++[Tg p (bz vo || bz vn) t u]) (m+1)))
theorem aPm(ω:Dk)(S:List It)(l:List PV)(p:Nat)(o n:OE)(h1:one o n)(vo vn:Option aT)(ho:dZ S vo o)(hn:dZ S vn n)(lo:eI vo)(ln:eI vn)(t u:Int)(hN:(bz vo || bz vn)=false→Nm vo vn t u)
  (o4 o5 o6 o7 o8 o9:Option SV) (F:List PV) (hF:F.length≤9) (m:Nat) (hm:m=0∨m=1∨m=2):aAd ω S l p o n vo vn t u o4 o5 o6 o7 o8 o9 F m:=by
 have A:=NL p o n h1
 have e5:aZ 5 (cf wW (ar [(aA 0),(ge qV (aA 4)),(ge oM (aA 4))])) (gQ l (some (.pv (cp (p,o,n)))) o5 o6 o7 o8 o9 (sS ω S) F m)=some (.next,gQ l (some (.pv (cp (p,o,n)))) (some (.pv (.bytes (lv vo).flatten))) o6 o7 o8 o9 (sS ω S) F m):=
  iI (Ko ω S ho rfl (nD (a:=.ref 5) rfl (dJ (eU (a:=.pv (cp (p,o,n))) rfl (A _).1) (eU (a:=.pv (cp (p,o,n))) rfl (A _).2.1))))
 have e6:aZ 6 (cf wW (ar [(aA 0),(ge oL (aA 4)),(ge lO (aA 4))])) (gQ l (some (.pv (cp (p,o,n)))) (some (.pv (.bytes (lv vo).flatten))) o6 o7 o8 o9 (sS ω S) F m)=some (.next,gQ l (some (.pv (cp (p,o,n)))) (some (.pv (.bytes (lv vo).flatten))) (some (.pv (.bytes (lv vn).flatten))) o7 o8 o9 (sS ω S) F m):=
  iI (Ko ω S hn rfl (nD (a:=.ref 5) rfl (dJ (eU (a:=.pv (cp (p,o,n))) rfl (A _).2.2.1) (eU (a:=.pv (cp (p,o,n))) rfl (A _).2.2.2.1))))
 have eb:gW (tv (cf vF (ar [(aA 5)]))) (gW (tv (cf vF (ar [(aA 6)]))) (rt false)) (gQ l (some (.pv (cp (p,o,n)))) (some (.pv (.bytes (lv vo).flatten))) (some (.pv (.bytes (lv vn).flatten))) o7 o8 o9 (sS ω S) F m)=some (bz vo || bz vn,gQ l (some (.pv (cp (p,o,n)))) (some (.pv (.bytes (lv vo).flatten))) (some (.pv (.bytes (lv vn).flatten))) o7 o8 o9 (sS ω S) F m):=by
  refine(aJ (a:=bz vo) (st₁:=gQ l (some (.pv (cp (p,o,n)))) (some (.pv (.bytes (lv vo).flatten))) (some (.pv (.bytes (lv vn).flatten))) o7 o8 o9 (sS ω S) F m) ((aJ (lF (iH rfl) (WK vo lo _))).trans rfl)).trans ?_
  cases bz vo with
  |true=>rfl
  |false=>
   refine(aJ (a:=bz vn) (st₁:=gQ l (some (.pv (cp (p,o,n)))) (some (.pv (.bytes (lv vo).flatten))) (some (.pv (.bytes (lv vn).flatten))) o7 o8 o9 (sS ω S) F m) ((aJ (lF (iH rfl) (WK vn ln _))).trans rfl)).trans ?_
   cases bz vn <;> rfl
 have hpre:bl Xy (gQ l (some (.pv (cp (p,o,n)))) o5 o6 o7 o8 o9 (sS ω S) F m)=some (.next,gQ l (some (.pv (cp (p,o,n)))) (some (.pv (.bytes (lv vo).flatten))) (some (.pv (.bytes (lv vn).flatten))) o7 o8 o9 (sS ω S) F m):=aO e5 (cW e6)
 cases hb:(bz vo || bz vn) with
 |true=>
  rw [hb] at eb
  refine⟨some (.pv (cp (p,o,n))),some (.pv (.bytes (lv vo).flatten)),some (.pv (.bytes (lv vn).flatten)),o7,o8,o9,.cont,.inr rfl,?_⟩
  rw [hb]
  exact(aJ rfl).trans ((MZ hpre).trans (DN (hV eb (aO (Ir l p .none .none _ _ _ _ _ _ _ rfl F hF m (nD (eU rfl (A _).2.2.2.2) rfl)) rfl))))
 |false=>
  rw [hb] at eb
  obtain⟨R,hR,hs⟩:=hN hb
  have ey:∀ o9,cf tY (ar [(aA 2),(cf vE (ar [(aA 5)])),(cf vE (ar [(aA 6)]))]) (gQ l (some (.pv (cp (p,o,n)))) (some (.pv (.bytes (lv vo).flatten))) (some (.pv (.bytes (lv vn).flatten))) (some (.pv (.int 0))) (some (.pv (.int 0))) o9 (sS ω S) F m)=some (.pv (.lst R),gQ l (some (.pv (cp (p,o,n)))) (some (.pv (.bytes (lv vo).flatten))) (some (.pv (.bytes (lv vn).flatten))) (some (.pv (.int 0))) (some (.pv (.int 0))) o9 (sS ω S) F m):=fun o9=>
   lF (nD rfl (dJ (lF (iH rfl) (Rk vo lo _)) (lF (iH rfl) (Rk vn ln _)))) (hR _)
  have hl:∃ q9,IJ dK (cf tY (ar [(aA 2),(cf vE (ar [(aA 5)])),(cf vE (ar [(aA 6)]))])) (fun x=>bd (nT 9 x) fun _=>(bl [(au 7 jJ (b2 (ge VW (aA 9)) (ge VV (aA 9)) (bX eM))),
 (au 8 jJ (b2 (ge VU (aA 9)) (ge VT (aA 9)) (bX eM)))])) (gQ l (some (.pv (cp (p,o,n)))) (some (.pv (.bytes (lv vo).flatten))) (some (.pv (.bytes (lv vn).flatten))) (some (.pv (.int 0))) (some (.pv (.int 0))) o9 (sS ω S) F m)=some (.next,gQ l (some (.pv (cp (p,o,n)))) (some (.pv (.bytes (lv vo).flatten))) (some (.pv (.bytes (lv vn).flatten))) (some (.pv (.int t))) (some (.pv (.int u))) q9 (sS ω S) F m):=by
   rcases hs with⟨rfl,rfl,rfl⟩ | ⟨a,b,c,d,rfl,rfl,rfl⟩
   ·exact⟨o9,(mP (ey o9) rfl).trans rfl⟩
   ·exact⟨some (.pv (wO a b c d)),(mP (ey o9) rfl).trans ((gL (by rfl)).trans rfl)⟩
  obtain⟨q9,hl⟩:=hl
  refine⟨some (.pv (cp (p,o,n))),some (.pv (.bytes (lv vo).flatten)),some (.pv (.bytes (lv vn).flatten)),some (.pv (.int t)),some (.pv (.int u)),q9,.next,.inl rfl,?_⟩
  refine(hb).symm▸?_
  exact(aJ rfl).trans ((MZ hpre).trans (aO (eV eb rfl) (aO (st₁:=gQ l (some (.pv (cp (p,o,n)))) (some (.pv (.bytes (lv vo).flatten))) (some (.pv (.bytes (lv vn).flatten))) (some (.pv (.int 0))) (some (.pv (.int 0))) o9 (sS ω S) F m) rfl (aO hl (cW (Ir l p (.int t) (.int u) _ _ _ _ _ _ _ rfl F hF m (nD (eU rfl (A _).2.2.2.2) (dJ rfl rfl))))))))
structure Pc where
 p:Nat
 o:OE
 n:OE
 vo:Option aT
 vn:Option aT
 t:Int
 u:Int
noncomputable def Pc.ch(c:Pc):Ch:=(c.p,c.o,c.n)
structure Pc.ok(S:List It)(c:Pc):Prop where
 one:one c.o c.n
 ho:dZ S c.vo c.o
 hn:dZ S c.vn c.n
 lo:eI c.vo
 ln:eI c.vn
 nm:(bz c.vo || bz c.vn)=false→Nm c.vo c.vn c.t c.u
noncomputable def Pc.nu(c:Pc):PV:=Tg c.p (bz c.vo || bz c.vn) c.t c.u
theorem Xz(ω:Dk)(S:List It)(l:List PV):∀(cs:List Pc),(∀ c∈cs,c.ok S)→∀(F:List PV) (m:Nat) (o4 o5 o6 o7 o8 o9:Option SV),cs.length+m≤3→F.length≤m→
  ∃ q4 q5 q6 q7 q8 q9,fJ (cs.map fun c=>cp c.ch) (fun x=>bd (nT 4 x) fun _=>Xx) (gQ l o4 o5 o6 o7 o8 o9 (sS ω S) F m)=some (.next,gQ l q4 q5 q6 q7 q8 q9 (sS ω S) (F++cs.map Pc.nu) (m+cs.length))
 | [],_,F,m,o4,o5,o6,o7,o8,o9,_,_=>⟨o4,o5,o6,o7,o8,o9,by rw [List.map_nil,List.map_nil,gK];rfl⟩
 |c::cs,h,F,m,o4,o5,o6,o7,o8,o9,hm,hF=>by
  rw [tP] at hm
  have k:=h c (uP ..)
  have hm':=aP (dQ (vX cs.length m).symm) hm
  have h2:m≤2:=TN (aP (MC _ _) hm')
  obtain⟨q4,q5,q6,q7,q8,q9,f,hf,e⟩:=aPm ω S l c.p c.o c.n k.one c.vo c.vn k.ho k.hn k.lo k.ln c.t c.u k.nm o4 o5 o6 o7 o8 o9 F (ub (aP hF h2) rfl) m (PN m h2)
  obtain⟨r4,r5,r6,r7,r8,r9,e'⟩:=Xz ω S l cs (fun c hc=>h c (sF _ hc)) (F++[c.nu]) (m+1) q4 q5 q6 q7 q8 q9 hm' (aP (dQ (xA F _)) (kZ hF))
  refine⟨r4,r5,r6,r7,r8,r9,?_⟩
  have e0:F++(c::cs).map Pc.nu=F++[c.nu]++cs.map Pc.nu:=by simp
  have e1:m+(c::cs).length=m+1+cs.length:=(vX m cs.length).symm
  refine(e0).symm▸(e1).symm▸?_
  rcases hf with rfl | rfl
  ·exact(gL e).trans e'
  ·exact(IK e).trans e'
theorem aIY(ω:Dk)(S:List It)(cs:List Pc)(h:∀ c∈cs,c.ok S)(hl:cs.length≤3)(ex:List SO):YU [.ref 5,.pv (.lst (cs.map fun c=>cp c.ch))] (sS ω S++ex)=some (.pv (.lst (cs.map Pc.nu)),sS ω S++ex):=by
 obtain⟨q4,q5,q6,q7,q8,q9,e⟩:=Xz ω S (cs.map fun c=>cp c.ch) cs h [] 0 none none none none none none hl (by decide)
 rw [oA,kG] at e
 exact iM (j:=.dead::mW cs.length .dead) (eJ (st:=⟨(gQ (cs.map fun c=>cp c.ch) q4 q5 q6 q7 q8 q9 [] [] 0).loc,sS ω S++.dead::mW cs.length .dead⟩) rfl (aO (st₁:=gQ (cs.map fun c=>cp c.ch) none none none none none none (sS ω S) [] 0) (by rfl) (aO ((mP (a:=.pv (.lst (cs.map fun c=>cp c.ch))) (xs:=cs.map fun c=>cp c.ch) rfl rfl).trans e) (eZ (fC (by rfl)))))) rfl rfl
noncomputable def cT(v:Option aT):PV:=match v with
 |some v=>vp v
 |none=>.none
theorem aAY(l:List Nat)(near:List (List Nat)):wK 7 (near.map .bytes) (.bytes l)=some (decide (l∈near)):=by
 induction near with
 |nil=>exact congrArg some (decide_eq_false GP).symm
 |cons x near ih=>
  show(match wK 7 (near.map .bytes) (.bytes l) with | some b=>some (eqL x l || b) | none=>none)=_
  refine(ih).symm▸?_
  refine congrArg some ?_
  rw [qO,Bool.or_eq_true,jI,decide_eq_true_iff,decide_eq_true_iff,AI,eq_comm]
theorem aIM(l:List Nat)(near:List (List Nat))(st:St):fB (.pv (.bytes l)) (.pv (lp near)) st=some (!decide (l∈near),st):=
 pM ((aJ (onSome_eq (aAY l near):uA (.pv (.bytes l)) (.pv (lp near)) st=some (decide (l∈near),st))).trans rfl)
noncomputable def lV(near far:List (List Nat)):List (List Nat):=far.filter fun l=> !decide (l∈near)
theorem PM(near far:List (List Nat)):(lV near far).length≤far.length:=Hf ..
theorem PL(h:n=10∨n=0):n≤100:=h.elim (fun e=>ub (dQ e) rfl) fun e=>ub (dQ e) rfl
theorem XI(loc:List (Option SV))(cs:List SO)(cap:List (Option Nat))(near far:List (List Nat))(hf:far.length≤100)(i:Nat)(hi:aA i ⟨loc,cs⟩=some (.pv (lp far),⟨loc,cs⟩))(hcap:pO cap loc= [none,none,some (.pv (lp near))]):
  eG dK (aA i) cap (nT 1) (t2 (aA 1) (aA 2) fB) (aA 1) ⟨loc,cs⟩=some (.pv (lp (lV near far)),⟨loc,cs⟩):=by
 obtain⟨o',e⟩:=yX (g:=nT 1) (t:=t2 (aA 1) (aA 2) fB) (m:=aA 1) (fun o=>⟨[none,o,some (.pv (lp near))],cs⟩) (fun x=>match x with | .bytes l=> !decide (l∈near) | _=>false) id (far.map .bytes) (fun _ _=>rfl) (fun x hx=>by
  obtain⟨l,_,rfl⟩:=List.mem_map.mp hx
  exact(jL rfl rfl).trans (aIM l near _)) (fun x _ _=>rfl) none
 have hy:((far.map PV.bytes).filter (fun x=>match x with | .bytes l=> !decide (l∈near) | _=>false)).map id=(lV near far).map .bytes:=by
  rw [GO,SY]
  rfl
 rw [hy] at e
 exact tX (st₂:=⟨[none,o',some (.pv (lp near))],cs⟩) (xs:=far.map .bytes) hi rfl (by rw [bQ];exact ub hf rfl) ((hcap).symm▸e)
theorem Xu(v:Option aT)(h:eI v)(ex:List SO):EF [.pv (cT v)] ex=some (.pv (.bool (!bz v)),ex):=by
 cases v with
 |none=>kernel_rfl
 |some v=>
  obtain⟨x,z,ns⟩:=v
  obtain⟨n₀,n₁,n₂,n₃,n₄,n₅,n₆,n₇,n₈,n₉⟩:=zM h
  refine mT (j:=[]) ?_ rfl
  cases z <;> kernel_rfl
theorem Rm(v:Option aT)(ex:List SO):OF [.pv (cT v)] ex=some (.pv (lp (lv v)),ex):=by
 cases v <;> kernel_rfl
noncomputable def cF(near far:List (List Nat)):Int:=((lV near far).length:Nat)
theorem aHM(vo vn:Option aT)(ho:eI vo)(hn:eI vn)(ex:List SO):IF [.pv (cT vo),.pv (cT vn)] ex=some (.pv (.tup [mB (bz vo || bz vn) (cF (lv vo) (lv vn)),mB (bz vo || bz vn) (cF (lv vn) (lv vo))]),ex):=by
 have lo:=Rz ho
 have ln:=Rz hn
 have eb:gW (tn (tv (cf EF (ar [(aA 0)])))) (gW (tn (tv (cf EF (ar [(aA 1)])))) (rt false)) ⟨[some (.pv (cT vo)),some (.pv (cT vn)),none,none,none,none,none],[]⟩=some (bz vo || bz vn,⟨[some (.pv (cT vo)),some (.pv (cT vn)),none,none,none,none,none],[]⟩):=by
  refine(aJ (a:=bz vo) ((aJ ((aJ (lF (iH rfl) (Xu vo ho _))).trans rfl)).trans (by cases bz vo <;> rfl))).trans ?_
  cases bz vo with
  |true=>rfl
  |false=>
   refine(aJ (a:=bz vn) ((aJ ((aJ (lF (iH rfl) (Xu vn hn _))).trans rfl)).trans (by cases bz vn <;> rfl))).trans ?_
   cases bz vn <;> rfl
 cases hb:(bz vo || bz vn) with
 |true=>
  rw [hb] at eb
  exact mT (eJ rfl (AW (hV eb rfl))) rfl
 |false=>
  rw [hb] at eb
  have hlen:∀(l:List (List Nat)) st,l.length≤100→iL (.pv (lp l)) st=some (.pv (.int (l.length:Nat)),st):=fun l st hl=>by
   refine pM ?_
   show(match decide ((l.map PV.bytes).length≤1000000) with | true=>some ((.pv (.int ((l.map PV.bytes).length:Nat)):SV),st) | false=>none)=_
   rw [bQ,decide_eq_true (ub hl rfl)]
  have l1:=PM (lv vo) (lv vn)
  have l2:=PM (lv vn) (lv vo)
  refine mT (eJ rfl (aO (eV eb rfl) (aO (HN (dJ (lF (iH rfl) (Rm vo _)) (lF (iH rfl) (Rm vn _))) rfl) (eZ (fC (zE (dJ (eU (XI _ _ _ (lv vo) (lv vn) (PL ln) 3 rfl rfl) (hlen _ _ (aP l1 (PL ln)))) (eU (XI _ _ _ (lv vn) (lv vo) (PL lo) 2 rfl rfl) (hlen _ _ (aP l2 (PL lo))))) rfl)))))) rfl
inductive Rv:Option aT→Option aT→Prop
 |add (w:aT):w.ns.length=10→(bJ w.z w.ns).Nodup→Rv none (some w)
 |del (v:aT):v.ns.length=10→(bJ v.z v.ns).Nodup→Rv (some v) none
 |cut (v w:aT) (k:Nat) (F:List (List Nat)):v.ns.length=10→w.ns.length=10→k≤10→F.length=k→(bJ v.z v.ns++F).Nodup→bJ w.z w.ns=(bJ v.z v.ns).take (10 - k)++F→Rv (some v) (some w)
theorem Ra(l:List (List Nat)):lV [] l=l:=by
 unfold lV;simp
theorem As(a b:List (List Nat))(h:∀ x∈b,x∈a):lV a b= []:=by
 unfold lV
 rw [List.filter_eq_nil_iff]
 intro x hx
 simp [h x hx]
theorem aHw(a F:List (List Nat))(k:Nat)(hn:(a++F).Nodup):lV a (a.take k++F)=F:=by
 have h1:lV a (a.take k)= []:=As _ _ fun x hx=>TJ hx
 have h2:lV a F=F:=by
  unfold lV
  rw [List.filter_eq_self]
  intro x hx
  simp only [RW,decide_eq_false_iff_not]
  exact fun hm=>(List.nodup_append.mp hn).2.2 x hm x hx rfl
 unfold lV at h1 h2 ⊢
 rw [List.filter_append,h1,h2,oA]
theorem aHx(a F:List (List Nat))(k:Nat)(hn:(a++F).Nodup):lV (a.take k++F) a=a.drop k:=by
 have hsplit:a=a.take k++a.drop k:=(List.take_append_drop k a).symm
 have hna:(a.take k++a.drop k).Nodup:=hsplit▸(List.nodup_append.mp hn).1
 have h1:lV (a.take k++F) (a.take k)= []:=As _ _ fun x hx=>List.mem_append_left _ hx
 have h2:lV (a.take k++F) (a.drop k)=a.drop k:=by
  unfold lV
  rw [List.filter_eq_self]
  intro x hx
  simp only [RW,decide_eq_false_iff_not,uO,not_or]
  exact⟨fun hm=>(List.nodup_append.mp hna).2.2 x hm x hx rfl,fun hm=>(List.nodup_append.mp hn).2.2 x (List.mem_of_mem_drop hx) x hm rfl⟩
 unfold lV at h1 h2 ⊢
 have:∀ p:List Nat→Bool,a.filter p=(a.take k).filter p++(a.drop k).filter p:=fun p=>by rw [←List.filter_append,←hsplit]
 rw [this,h1,h2,oA]
theorem Rv.nm{vo vn:Option aT}(h:Rv vo vn):Nm vo vn (cF (lv vo) (lv vn)) (cF (lv vn) (lv vo)):=by
 cases h with
 |add w hl hn=>
  refine⟨_,fun ex=>aBM (lv (some w)) ((sU _ _).trans hl) hn ex,.inr ⟨0,0,0,10,rfl,?_,?_⟩⟩
  ·show cF [] _=_
   unfold cF
   rw [Ra]
   show((bJ w.z w.ns).length:Int)=_
   rw [sU,hl]
   rfl
  ·show cF _ []=_
   rfl
 |del v hl hn=>
  refine⟨_,fun ex=>aBP (lv (some v)) ((sU _ _).trans hl) hn ex,.inr ⟨0,10,0,0,rfl,?_,?_⟩⟩
  ·show cF _ []=_
   rfl
  ·show cF [] _=_
   unfold cF
   rw [Ra]
   show((bJ v.z v.ns).length:Int)=_
   rw [sU,hl]
   rfl
 |cut v w k F hl hw hk hF hn he=>
  have hal:(bJ v.z v.ns).length=10:=(sU _ _).trans hl
  refine⟨ck k,fun ex=> ?_,?_⟩
  ·show tY [_,.pv (lp (bJ v.z v.ns)),.pv (lp (bJ w.z w.ns))] ex=_
   refine(he).symm▸?_
   exact aBO _ F k hk hal hF hn ex
  ·show(_∧cF (bJ v.z v.ns) (bJ w.z w.ns)=0∧cF (bJ w.z w.ns) (bJ v.z v.ns)=0)∨_
   have e1:cF (bJ v.z v.ns) (bJ w.z w.ns)=(k:Nat):=by
    unfold cF
    rw [he,aHw _ _ _ hn,hF]
   have e2:cF (bJ w.z w.ns) (bJ v.z v.ns)=(k:Nat):=by
    unfold cF
    rw [he,aHx _ _ _ hn,TH,hal]
    exact congrArg (fun n:Nat=>(n:Int)) (Nat.sub_sub_self hk)
   rw [e1,e2]
   cases k with
   |zero=>exact .inl ⟨rfl,rfl,rfl⟩
   |succ k=>
    refine .inr ⟨_,_,_,_,rfl,?_,?_⟩
    ·show cF (bJ v.z v.ns) (bJ w.z w.ns)=_
     rw [e1];exact((Int.zero_add _).trans (Int.sub_sub_self 10 _)).symm
    ·show cF (bJ w.z w.ns) (bJ v.z v.ns)=_
     rw [e2];exact((Int.zero_add _).trans (Int.sub_sub_self 10 _)).symm
noncomputable def kU(a:Int)(o:Nat):Int:=Int.fmod (a*1009+(o:Nat)+1) 2147483647
noncomputable def hsh(l:List Nat):Int:=l.foldl kU 0
structure AF where
 (c0 c1 c2 c3 c4 c5 c6 c7 c8 c9 c10:SO)
noncomputable def AF.l(E:AF):List SO:=[E.c0,E.c1,E.c2,E.c3,E.c4,E.c5,E.c6,E.c7,E.c8,E.c9,E.c10]
theorem PC(a b:Int):iZ (.int a) (.int b)=true↔a=b:=EB
noncomputable def oR(H:List Int):List PV:=H.map fun _=>.int 4
noncomputable def qM(s:Int)(H:List Int):List SO:=[.inst 5 [.pv (.int s),.ref 12],.dict .int (H.map .int) (oR H)]
theorem Ye(h:c.length≤n):CN v n c=c:=by
 unfold CN
 split
 ·exact Hj h
 ·rfl
section
variable{E:AF}{s:Int}{H:List Int}{h:Int}
theorem aOG(hh:h∉H)(hl:H.length≤1000):BF [.ref 11,.pv (.int h),.pv (.int 4)] (E.l++qM s H)=some (.pv .none,E.l++qM (s+4) (H++[h])):=by
 have e:bG 3 (gN 3) Jy [.ref 11,.pv (.int h),.pv (.int 4)] (E.l++qM s H)=some (.pv .none,E.l++qM (s+4) (H++[h])):=by
  let st:St:=⟨[some (.ref 11),some (.pv (.int h)),some (.pv (.int 4))],E.l++[SO.inst 5 [SV.pv (.int (s+4)),.ref 12],.dict .int (H.map .int) (oR H)]⟩
  refine KP (st:=⟨st.loc,E.l++qM (s+4) (H++[h])⟩) rfl ?_
  refine aO (st₁:=st) (by kernel_rfl) (cW ?_)
  have e1:zF (.ref 12) (.pv (.int h)) (.pv (.int 0)) st=some (.pv (.int 0),st):=(Oh rfl rfl).trans (by rw [EO PC hh];rfl)
  refine tW (c:=.pv (.int 4)) (b:=.pv (.int h)) (st₁:=st) (u:=()) ?_ ?_ (by rfl) (by rfl)
  ·refine jG (a:=.pv (.int 0)) (b:=.pv (.int 4)) ?_ (by rfl) (by rfl)
   exact(Sj (a:=.ref 12) (b:=.pv (.int h)) (c:=.pv (.int 0)) (st₁:=st) (st₂:=st) (st₃:=st) (st₄:=st) (u:=()) (by rfl) (by rfl) (by rfl) (by rfl)).trans e1
  ·refine(Wk (ks:=H.map .int) (vs:=oR H) rfl rfl (by rw [bQ];exact hl) (EN PC hh)).trans ?_
   rw [show H.map PV.int++[.int h]=(H++[h]).map .int from by rw [cU];rfl,show oR H++[.int 4]=oR (H++[h]) from by unfold oR;rw [cU];rfl]
   rfl
 unfold BF oX
 rw [e]
 dsimp only
 rw [Ye]
 exact cX _
end
noncomputable def QY:PV→M Fl:=fun x=>bd (nT 6 x) fun _=>bl [(aZ 7 (b2 (aA 1) (aA 6) aV)),
 (bH (cE (tv (aA 3)) (cE (t2 (aA 7) (kI 13) cK) (cE (t2 (pS (aA 1) (pa (b2 (aA 6) (kI 1) bM)) (pa (b2 (aA 6) (kI 2) bM))) (kY [10]) cK) (rt true)))) (bl [(rt .cont)]) (bl [])),
 (aZ 4 (b2 (b2 (b2 (b2 (aA 4) (kI 1009) qJ) (aA 7) bM) (kI 1) bM) (ge a_WRAP (aA 0)) (bX mA))),
 (au 5 jJ (kI 1)),
 (bH (gW (t2 (aA 7) (kI 10) cK) (gW (t2 (aA 5) (aA 2) cK) (rt false))) (bl [(ex (mc 5 BF (aA 0) (ar [(aA 4),(aA 5)]))),
 (nF [4,5] (ar [(kI 0),(kI 0)]))]) (bl []))]
section
variable{E:AF}
noncomputable def kT(E:AF)(bs:List Nat)(t:Bool)(a:Int)(k:Int)(u v:Option SV)(s:Int)(H:List Int):St:=
 ⟨[some (.ref 11),some (.pv (.bytes bs)),some (.pv (.int 64)),some (.pv (.bool t)),some (.pv (.int a)),some (.pv (.int k)),u,v,none,none,none],E.l++qM s H⟩
variable{bs:List Nat}{t:Bool}{a k s:Int}{u v:Option SV}{H:List Int}{i o:Nat}
theorem aGP{i:Int}(h0:decide (0≤i)=true)(h1:decide (i < 1000000)=true)(h2:decide (bs.length≤1000000)=true)(hi:bs[i.toNat]? =some y):IZ (.pv (.bytes bs)) (.pv (.int i)) st=some (.pv (.int (y:Nat)),st):=by
 show gd (decide (0≤i) && decide (i < 1000000)) (eW bs[i.toNat]? fun y=>dM bs.length (rt (SV.pv (.int (y:Nat))))) st=_
 unfold dM
 refine(h0).symm▸(h1).symm▸(h2).symm▸(hi).symm▸?_
 rfl
theorem aJd{st:St}(hi:bs[i]? =some o)(hb:bs.length≤1000):aV (.pv (.bytes bs)) (.pv (.int (i:Nat))) st=some (.pv (.int (o:Nat)),st):=by
 have hl:i < bs.length:=by
  rcases GS i bs.length with h | h
  ·exact h
  ·rw [TC h] at hi;exact JQ hi
 have e:IZ (.pv (.bytes bs)) (.pv (.int (i:Nat))) st=some (.pv (.int (o:Nat)),st):=
  aGP (decide_eq_true (GK i)) (decide_eq_true (Int.ofNat_lt.mpr (AK hl (aP hb (by decide))))) (decide_eq_true (aP hb (by decide))) (by rw [Int.toNat_natCast];exact hi)
 exact pM e
theorem Mk(x y:Int):cK (.pv (.int x)) (.pv (.int y)) st=some (eqI x y,st):=rfl
theorem Mi(h:x≠y):eqI x y=false:=by
 cases e:eqI x y with
 |true=>exact absurd (EB.mp e) h
 |false=>rfl
theorem Tn(hi:bs[i]? =some o)(hb:bs.length≤1000)(ho':o≠13)(hk:k=0∨k=1∨k=2∨k=3)
  (h:bl [(bH (gW (t2 (aA 7) (kI 10) cK) (gW (t2 (aA 5) (aA 2) cK) (rt false))) (bl [(ex (mc 5 BF (aA 0) (ar [(aA 4),(aA 5)]))),
 (nF [4,5] (ar [(kI 0),(kI 0)]))]) (bl []))] (kT E bs t (kU a o) (k+1) (some (.pv (.int (i:Nat)))) (some (.pv (.int (o:Nat)))) s H)=r):
  QY (.int (i:Nat)) (kT E bs t a k u v s H)=r:=by
 have e13:eqI (o:Nat) 13=false:=Mi fun e=>ho' (Int.ofNat.inj e)
 refine(aJ rfl).trans ?_
 refine aO (st₁:=kT E bs t a k (some (.pv (.int (i:Nat)))) (some (.pv (.int (o:Nat)))) s H) ?_ ?_
 ·exact iI (jG rfl rfl (aJd hi hb))
 refine aO (st₁:=kT E bs t a k (some (.pv (.int (i:Nat)))) (some (.pv (.int (o:Nat)))) s H) ?_ ?_
 ·refine eV ?_ rfl
  cases t with
  |false=>rfl
  |true=>
   refine(aJ (st₁:=kT E bs true a k (some (.pv (.int (i:Nat)))) (some (.pv (.int (o:Nat)))) s H) (by rfl)).trans ?_
   refine(aJ (a:=false) (st₁:=kT E bs true a k (some (.pv (.int (i:Nat)))) (some (.pv (.int (o:Nat)))) s H) ?_).trans (by rfl)
   refine(jL (a:=.pv (.int (o:Nat))) (b:=.pv (.int 13)) (by rfl) (by rfl)).trans ?_
   rw [Mk,e13]
 refine aO (st₁:=kT E bs t (kU a o) k (some (.pv (.int (i:Nat)))) (some (.pv (.int (o:Nat)))) s H) (by kernel_rfl) ?_
 exact aO (st₁:=kT E bs t (kU a o) (k+1) (some (.pv (.int (i:Nat)))) (some (.pv (.int (o:Nat)))) s H) (by rfl) h
theorem Ck(hi:bs[i]? =some o)(hb:bs.length≤1000)(ho:o≠10)(ho':o≠13)(hk:k=0∨k=1∨k=2):
  QY (.int (i:Nat)) (kT E bs t a k u v s H)=some (.next,kT E bs t (kU a o) (k+1) (some (.pv (.int (i:Nat)))) (some (.pv (.int (o:Nat)))) s H):=by
 refine Tn hi hb ho' (hk.elim .inl fun h=>.inr (h.elim .inl fun h=>.inr (.inl h))) (cW ?_)
 refine eV ?_ rfl
 refine(aJ (a:=false) (st₁:=kT E bs t (kU a o) (k+1) (some (.pv (.int (i:Nat)))) (some (.pv (.int (o:Nat)))) s H) ?_).trans ?_
 ·refine(jL rfl rfl).trans ?_
  rw [Mk,show eqI (o:Nat) 10=false from Mi fun e=>ho (Int.ofNat.inj e)]
 ·rcases hk with rfl | rfl | rfl <;> rfl
theorem aJc(hi:bs[i]? =some 10)(hb:bs.length≤1000)(hh:kU a 10∉H)(hl:H.length≤1000):
  QY (.int (i:Nat)) (kT E bs t a 3 u v s H)=some (.next,kT E bs t 0 0 (some (.pv (.int (i:Nat)))) (some (.pv (.int 10))) (s+4) (H++[kU a 10])):=by
 refine Tn hi hb (by decide) (.inr (.inr (.inr rfl))) (cW ?_)
 refine hV rfl ?_
 refine aO (st₁:=kT E bs t (kU a 10) 4 (some (.pv (.int (i:Nat)))) (some (.pv (.int 10))) (s+4) (H++[kU a 10])) ?_ (cW rfl)
 exact sO (jK (st₃:=kT E bs t (kU a 10) 4 (some (.pv (.int (i:Nat)))) (some (.pv (.int 10))) s H) rfl rfl rfl (aOG hh hl))
end
noncomputable def vZ(l:List Nat):Prop:=∃ z n,n < 100∧l=lW z n
noncomputable def Pm(x:Int):Bool×Nat:=match bV x.toNat 1200000000 with
 |true=>(true,(x.toNat - 1077179150) / 1018081*10+(x.toNat - 1077179150) % 1018081 / 1009)
 |false=>(false,(x.toNat - 1276028478) / 1018081*10+(x.toNat - 1276028478) % 1018081 / 1009)
theorem Pp:∀(z:Bool) (n:Fin 100),Pm (hsh (lW z n.val))=(z,n.val):=by decide+kernel
theorem Pq(ha:vZ a)(hb:vZ b)(h:hsh a=hsh b):a=b:=by
 obtain⟨z,n,hn,rfl⟩:=ha
 obtain⟨y,m,hm,rfl⟩:=hb
 cases (Pp z ⟨n,hn⟩).symm.trans ((congrArg Pm h).trans (Pp y ⟨m,hm⟩))
 rfl
theorem Sf{L:List (List Nat)}(hp:∀ l∈L,vZ l)(hn:L.Nodup):(L.map hsh).Nodup:=by
 induction L with
 |nil=>exact pH
 |cons a L ih=>
  rw [iS,LZ]
  refine⟨fun hm=> ?_,ih (fun l h=>hp l (sF _ h)) (List.nodup_cons.mp hn).2⟩
  obtain⟨b,hb,e⟩:=List.mem_map.mp hm
  exact(List.nodup_cons.mp hn).1 (Pq (hp b (sF _ hb)) (hp a (uP ..)) e▸hb)
section
variable{E:AF}{bs:List Nat}{t:Bool}
theorem QC(x:Nat):x+48≠10∧x+48≠13:=⟨fun h=>absurd (h▸MC 48 x:48≤10) (by decide),fun h=>absurd (h▸MC 48 x:48≤13) (by decide)⟩
noncomputable def hdZ:Bool→Nat
 |true=>0
 |false=>65
theorem aHT(z:Bool)(n:Nat):lW z n= [hdZ z,n / 10+48,n % 10+48,10]∧hdZ z≠10∧hdZ z≠13:=by
 cases z <;> exact⟨rfl,by decide,by decide⟩
theorem aOE(hb:bs.length≤1000)(L:List (List Nat)):∀(i:Nat) (H:List Int) (s:Int) (u v:Option SV),(∀ l∈L,vZ l)→(∀ j,bs[i+j]? =L.flatten[j]?)→(H++L.map hsh).Nodup→H.length+L.length≤1000→
  ∃ u' v',fJ (qL (4*L.length) (i:Nat) 1) QY (kT E bs t 0 0 u v s H)=some (.next,kT E bs t 0 0 u' v' (s+((4*L.length:Nat):Int)) (H++L.map hsh)):=by
 induction L with
 |nil=>exact fun i H s u v _ _ _ _=>⟨u,v,by rw [List.map_nil,gK,show s+((4*([]:List (List Nat)).length:Nat):Int)=s from Int.add_zero s];rfl⟩
 |cons l L ih=>
  intro i H s u v hp g hn hl
  obtain⟨z,n,_,rfl⟩:=hp l (.head _)
  obtain⟨e,p0,p1⟩:=aHT z n
  let q:=n / 10+48
  let r:=n % 10+48
  have g:∀ j,bs[i+j]? =(hdZ z::q::r::10::L.flatten)[j]?:=fun j=>by rw [g j,TB,e];rfl
  have hh:hsh (lW z n)=kU (kU (kU (kU 0 (hdZ z)) q) r) 10:=by rw [e];rfl
  have hm:H++(lW z n::L).map hsh=H++[hsh (lW z n)]++L.map hsh:=by rw [gJ];rfl
  rw [hm] at hn ⊢
  have hnot:=(List.nodup_append.mp (List.nodup_append.mp hn).1).2.2
  have e1:=Ck (E:=E) (t:=t) (a:=0) (s:=s) (H:=H) (u:=u) (v:=v) (g 0) hb p0 p1 (.inl rfl)
  have e2:=Ck (E:=E) (t:=t) (a:=kU 0 (hdZ z)) (s:=s) (H:=H) (k:=1) (u:=some (.pv (.int (i:Nat)))) (v:=some (.pv (.int (hdZ z:Nat)))) (g 1) hb (QC _).1 (QC _).2 (.inr (.inl rfl))
  have e3:=Ck (E:=E) (t:=t) (a:=kU (kU 0 (hdZ z)) q) (s:=s) (H:=H) (k:=2) (u:=some (.pv (.int ((i+1:Nat):Int)))) (v:=some (.pv (.int (q:Nat)))) (g 2) hb (QC _).1 (QC _).2 (.inr (.inr rfl))
  have e4:=aJc (E:=E) (t:=t) (a:=kU (kU (kU 0 (hdZ z)) q) r) (s:=s) (u:=some (.pv (.int ((i+2:Nat):Int)))) (v:=some (.pv (.int (r:Nat)))) (g 3) hb (fun m=>hnot _ m _ (.head _) hh.symm) (aP (oD _ _) hl)
  rw [←hh] at e4
  obtain⟨u',v',e5⟩:=ih (i+4) (H++[hsh (lW z n)]) (s+4) (some (.pv (.int ((i+3:Nat):Int)))) (some (.pv (.int 10))) (fun l h=>hp l (.tail _ h)) (fun j=>by rw [uR,vV 4,g];rfl) hn (by rw [fE,uR,vV [hsh (lW z n)].length];exact hl)
  refine⟨u',v',(gL e1).trans ((gL e2).trans ((gL e3).trans ((gL e4).trans ?_)))⟩
  rw [show s+((4*(lW z n::L).length:Nat):Int)=s+4+((4*L.length:Nat):Int) by rw [Int.add_assoc,Int.add_comm 4];rfl]
  exact e5
end
section
variable{E:AF}
theorem aOF(z:Bool)(ns:List Nat)(hl:ns.length=10)(hp:∀ l∈bJ z ns,vZ l)(hn:(bJ z ns).Nodup):
  IC [.ref 11,.pv (.bytes (ct z ns))] (E.l++[.inst 5 []])=some (.pv .none,E.l++qM 40 ((bJ z ns).map hsh)):=by
 have hL:(bJ z ns).length=10:=(sU _ _).trans hl
 have hb:vF [.pv (.bytes (ct z ns))] (E.l++qM 0 [])=some (.pv (.bool z),_):=WK (some ⟨false,z,ns⟩) hl _
 have hlen:(ct z ns).length=40:=by
  obtain⟨n₀,n₁,n₂,n₃,n₄,n₅,n₆,n₇,n₈,n₉⟩:=zM hl
  cases z <;> rfl
 have hrng:∀ st:St,iL (.pv (.bytes (ct z ns))) st=some (.pv (.int 40),st):=fun st=>by
  refine pM ?_
  obtain⟨n₀,n₁,n₂,n₃,n₄,n₅,n₆,n₇,n₈,n₉⟩:=zM hl
  cases z <;> kernel_rfl
 have hmap:=Sf hp hn
 obtain⟨u',v',e⟩:=aOE (E:=E) (bs:=ct z ns) (t:= !z) (by rw [hlen];decide) (bJ z ns) 0 [] 0 none none hp (fun j=>by rw [kG];rfl) hmap (by rw [hL];decide)
 replace e:=(hL)▸e
 refine KP (bs:=[.ref 11,.pv (.bytes (ct z ns)),.pv (.int 64)]) (st:=kT E (ct z ns) (!z) 0 0 u' v' 40 ((bJ z ns).map hsh)) rfl ?_
 refine aO (st₁:=⟨[some (.ref 11),some (.pv (.bytes (ct z ns))),some (.pv (.int 64)),none,none,none,none,none,none,none,none],E.l++[SO.inst 5 [SV.pv (.int 0)]]⟩) (by kernel_rfl) ?_
 refine aO (st₁:=⟨[some (.ref 11),some (.pv (.bytes (ct z ns))),some (.pv (.int 64)),none,none,none,none,none,none,none,none],E.l++qM 0 []⟩) (by kernel_rfl) ?_
 refine aO (st₁:=⟨[some (.ref 11),some (.pv (.bytes (ct z ns))),some (.pv (.int 64)),some (.pv (.bool (!z))),none,none,none,none,none,none,none],E.l++qM 0 []⟩) ?_ ?_
 ·refine iI (v:=.pv (.bool (!z))) (st₁:=⟨[some (.ref 11),some (.pv (.bytes (ct z ns))),some (.pv (.int 64)),none,none,none,none,none,none,none,none],E.l++qM 0 []⟩) ?_
  refine(aJ (a:=.pv (.bool z)) (st₁:=⟨[some (.ref 11),some (.pv (.bytes (ct z ns))),some (.pv (.int 64)),none,none,none,none,none,none,none,none],E.l++qM 0 []⟩) ?_).trans ?_
  ·refine lF (as:=[.pv (.bytes (ct z ns))]) ?_ hb
   rfl
  cases z <;> rfl
 refine aO (st₁:=kT E (ct z ns) (!z) 0 0 none none 0 []) (by rfl) ?_
 refine aO (st₁:=kT E (ct z ns) (!z) 0 0 u' v' 40 ((bJ z ns).map hsh)) ?_ ?_
 ·refine(mP (a:=.pv (.rng 0 40 1)) (st₁:=kT E (ct z ns) (!z) 0 0 none none 0 []) (xs:=qL 40 0 1) ?_ (by rfl)).trans e
  exact eU (a:=.pv (.int 40)) (eU (a:=.pv (.bytes (ct z ns))) (by rfl) (hrng _)) (by rfl)
 ·kernel_rfl
end
noncomputable def eK(H:List Int):PV:=.obj 5 [.int 40,.dct .int (H.map .int) (oR H)]
noncomputable def gS(S:List It)(i:Nat):List Int:=match S[i]? with
 |some (.blob z ns)=>(bJ z ns).map hsh
 |_=>[]
noncomputable def bI(S:List It)(I:List Nat):SO:=.dict .bytes (I.map aN) (I.map fun i=>eK (gS S i))
noncomputable def Co(S:List It)(i:Nat):Prop:=∃ z ns,S[i]? =some (.blob z ns)∧ns.length=10∧(∀ l∈bJ z ns,vZ l)∧(bJ z ns).Nodup
theorem OW(i j:Nat):iZ (aN i) (aN j)=true↔i=j:=by
 show eqL (dG (i+1)) (dG (j+1))=true↔_
 rw [jI]
 exact⟨fun h=>vW (QG h),fun h=>by rw [h]⟩
noncomputable abbrev bC(ω:Dk)(S:List It)(I:List Nat)(F:List PV):List SO:=sS ω S++[.inst 6 [.ref 5,.ref 9],bI S I,.list F]
inductive aAc(ω:Dk)(S:List It)(i:Nat)(I:List Nat):Prop
 |mk (I':_) (hh0:I'.Nodup) (hh1:I'.length≤I.length+1) (hh2:∀ F,zC [.ref 8,.pv (aN i)] (bC ω S I F)=some (.pv (eK (gS S i)),bC ω S I' F))
theorem Xe(ω:Dk)(S:List It){i:Nat}(h:Co S i)(I:List Nat)(hI:I.Nodup)(hl:I.length≤20):aAc ω S i I:=by
 have sub:∀(I:List Nat) (F:List PV) (loc:List (Option SV)) (ex:List SO),I.Nodup→i∈I→aV (.ref 9) (.pv (aN i)) ⟨loc,bC ω S I F++ex⟩=some (.pv (eK (gS S i)),⟨loc,bC ω S I F++ex⟩):=fun I F loc ex hI hm=>by
  obtain⟨j,hj⟩:=TF hm
  exact LD (ks:=I.map aN) (vs:=I.map fun i=>eK (gS S i)) (by rfl) (BN OW hI hj (by rw [iR,hj];rfl))
 by_cases hm:i∈I
 ·refine⟨I,hI,oE _,fun F=> ?_⟩
  have e:bG 3 (gN 2) WT [.ref 8,.pv (aN i)] (bC ω S I F)=some (.pv (eK (gS S i)),bC ω S I F++[]):=by
   refine eJ (st:=⟨[some (.ref 8),some (.pv (aN i)),none],bC ω S I F++[]⟩) (by rfl) (aO (eV (st₁:=⟨[some (.ref 8),some (.pv (aN i)),none],bC ω S I F++[]⟩) ?_ rfl) (eZ (fC ?_)))
   ·refine(jL (a:=.pv (aN i)) (b:=.ref 9) (by rfl) (by rfl)).trans ?_
    obtain⟨j,hj⟩:=TF hm
    refine(BY (ks:=I.map aN) (vs:=I.map fun i=>eK (gS S i)) (by rfl)).trans ?_
    have:=BN (vs:=I.map fun i=>eK (gS S i)) OW hI hj (by rw [iR,hj];rfl)
    refine(show(PV.bytes (dG (i+1)))=aN i from rfl).symm▸(this).symm▸?_
    rfl
   ·exact jG (a:=.ref 9) (b:=.pv (aN i)) (by rfl) (by rfl) (sub I F _ [] hI hm)
  refine(KH e).trans ?_
  rw [Ye (by rw [gK];exact cX _),gK]
 ·have hI':(I++[i]).Nodup:=List.nodup_append.mpr ⟨hI,List.nodup_cons.mpr ⟨GP,pH⟩,fun a ha b hb e=>by rw [List.mem_singleton.mp hb] at e;exact hm (e▸ha)⟩
  refine⟨I++[i],hI',by simp,fun F=> ?_⟩
  obtain⟨z,ns,hS,hns,hp,hn⟩:=h
  have hg:gS S i=(bJ z ns).map hsh:=by unfold gS;exact(hS).symm▸rfl
  let L:List (Option SV):=[some (.ref 8),some (.pv (aN i)),none]
  have e:bG 3 (gN 2) WT [.ref 8,.pv (aN i)] (bC ω S I F)=some (.pv (eK (gS S i)),bC ω S (I++[i]) F++[.dead,.dead]):=by
   refine eJ (st:=⟨L,bC ω S (I++[i]) F++[.dead,.dead]⟩) (by rfl) (aO (hV (st₁:=⟨L,bC ω S I F⟩) (r:=some (.next,⟨L,bC ω S (I++[i]) F++[.dead,.dead]⟩)) ?_ (cW ?_)) (eZ (fC ?_)))
   ·refine(jL (a:=.pv (aN i)) (b:=.ref 9) (by rfl) (by rfl)).trans ?_
    refine(BY (ks:=I.map aN) (vs:=I.map fun i=>eK (gS S i)) (by rfl)).trans ?_
    rw [show(PV.bytes (dG (i+1)))=aN i from rfl,EO OW hm]
    rfl
   ·refine tW (c:=.pv (eK (gS S i))) (a:=.ref 9) (b:=.pv (aN i)) (st₁:=⟨L,bC ω S I F++[.dead,.dead]⟩) (u:=()) ?_ ?_ (by rfl) (by rfl)
    ·refine eU (a:=.ref 11) (st₁:=⟨L,bC ω S I F++qM 40 (gS S i)⟩) ?_ (by kernel_rfl)
     refine(aJ (a:=[.pv (.bytes (ct z ns))]) (st₁:=⟨L,bC ω S I F⟩) (iH (jK (a:=.ref 5) (st₃:=⟨L,bC ω S I F⟩) (as:=[.pv (aN i)]) (u:=()) (by rfl) (by rfl) (by rfl) (Jo ω S hS _)))).trans ?_
     have hf':IC [.ref 11,.pv (.bytes (ct z ns))] (bC ω S I F++[.inst 5 []])=some (.pv .none,bC ω S I F++qM 40 (gS S i)):=by rw [hg];exact aOF (E:=⟨_,_,_,_,_,_,_,_,_,_,_⟩) z ns hns hp hn
     show(match lS IC [.ref 11,.pv (.bytes (ct z ns))] ⟨L,bC ω S I F++[.inst 5 []]⟩ with
      |some (.pv .none,st')=>some (SV.ref 11,st')
      |_=>none)=_
     rw [DP hf']
    ·refine(QV (k:=dG (i+1)) (ks:=I.map aN) (vs:=I.map fun i=>eK (gS S i)) (j:=9) (by rfl) (by rw [bQ];exact ub hl rfl) (EN OW hm)).trans ?_
     have:SO.dict .bytes (I.map aN++[PV.bytes (dG (i+1))]) ((I.map fun i=>eK (gS S i))++[eK (gS S i)])=bI S (I++[i]):=by
      unfold bI
      rw [cU,cU]
      rfl
     rw [this]
     rfl
   ·exact jG (a:=.ref 9) (b:=.pv (aN i)) (by rfl) (by rfl) (sub (I++[i]) F _ [.dead,.dead] hI' (by simp))
  exact(KH e).trans (by kernel_rfl)
theorem aGQ{k:KD}{ks vs:List PV}{h:Int}{st:St}:IZ (.pv (.dct k ks vs)) (.pv (.int h)) st=none:=by
 show gd (decide (0≤h) && decide (h < 1000000)) er st=none
 cases decide (0≤h) && decide (h < 1000000) <;> rfl
noncomputable def xN(H H':List Int)(acc:Int)(o:Option SV)(cs:List SO):St:=⟨[some (.pv (eK H)),some (.pv (eK H')),some (.pv (.int acc)),o,none],cs⟩
noncomputable def Wn:PV→M Fl:=fun x=>bd (nT 3 x) fun _=>bl [(au 2 jJ (b2 (b2 (ge AU (aA 0)) (aA 3) aV) (BX IX zF (ge AU (aA 1)) (aA 3) (kI 0)) JN))]
theorem aFJ{H:List Int}{i:Nat}{h:Int}(hi:H[i]? =some h):(oR H)[i]? =some (.int 4):=by
 unfold oR
 rw [iR,hi]
 rfl
theorem Ny{H:List Int}(hn:H.Nodup){h:Int}(hm:h∈H):dN (H.map .int) (oR H) (.int h)=some (.int 4):=by
 obtain⟨i,hi⟩:=TF hm
 exact BN PC hn hi (aFJ hi)
theorem aMl{H H':List Int}(hn:H.Nodup)(hn':H'.Nodup){h:Int}(hm:h∈H)(acc:Int)(o:Option SV)(cs:List SO):
  Wn (.int h) (xN H H' acc o cs)=some (.next,xN H H' (acc+(if h∈H' then 4 else 0)) (some (.pv (.int h))) cs):=by
 let st:=xN H H' acc (some (.pv (.int h))) cs
 have e1:aV (.pv (.dct .int (H.map .int) (oR H))) (.pv (.int h)) st=some (.pv (.int 4),st):=(mN aGQ).trans (pM (Qe rfl rfl (Ny hn hm)))
 have e2:zF (.pv (.dct .int (H'.map .int) (oR H'))) (.pv (.int h)) (.pv (.int 0)) st=some (.pv (.int (if h∈H' then 4 else 0)),st):=by
  refine(Oh (ks:=H'.map .int) (vs:=oR H') rfl rfl).trans ?_
  by_cases hm':h∈H'
  ·rw [Ny hn' hm',if_pos hm'];rfl
  ·rw [EO PC hm',if_neg hm'];rfl
 refine(aJ (a:=()) (st₁:=st) (by rfl)).trans (cW ?_)
 refine(aJ (a:=.pv (.int acc)) (st₁:=st) (by rfl)).trans ((aJ (a:=.pv (.int (if h∈H' then 4 else 0))) (st₁:=st) ?_).trans (by rfl))
 refine jG (a:=.pv (.int 4)) (b:=.pv (.int (if h∈H' then 4 else 0))) ?_ ?_ ?_
 ·exact jG (a:=.pv (.dct .int (H.map .int) (oR H))) (b:=.pv (.int h)) (by rfl) (by rfl) e1
 ·exact(Sj (a:=.pv (.dct .int (H'.map .int) (oR H'))) (b:=.pv (.int h)) (c:=.pv (.int 0)) (st₁:=st) (st₂:=st) (st₃:=st) (st₄:=st) (u:=()) (by rfl) (by rfl) (by rfl) (by rfl)).trans e2
 ·by_cases hm':h∈H'
  ·rw [if_pos hm'];rfl
  ·rw [if_neg hm'];rfl
theorem Wo{H H':List Int}(hn:H.Nodup)(hn':H'.Nodup)(cs:List SO):∀(l:List Int),(∀ h∈l,h∈H)→∀(acc:Int) (o:Option SV),∃ o',fJ (l.map .int) Wn (xN H H' acc o cs)=some (.next,xN H H' (acc+4*((l.filter fun h=>decide (h∈H')).length:Nat)) o' cs)
 | [],_,acc,o=>⟨o,by
   show some (Fl.next,_)=_
   have:acc+4*(((([]:List Int).filter fun h=>decide (h∈H')).length:Nat):Int)=acc:=by simp
   rw [this]⟩
 |h::l,hl,acc,o=>by
  obtain⟨o',e⟩:=Wo hn hn' cs l (fun x hx=>hl x (sF _ hx)) (acc+(if h∈H' then 4 else 0)) (some (.pv (.int h)))
  refine⟨o',(gL (aMl hn hn' (hl h (uP ..)) acc o cs)).trans (e.trans ?_)⟩
  have:acc+(if h∈H' then 4 else 0)+4*(((l.filter fun h=>decide (h∈H')).length:Nat):Int)=acc+4*((((h::l).filter fun h=>decide (h∈H')).length:Nat):Int):=by
   by_cases hm:h∈H'
   ·rw [if_pos hm,SX (by simpa using hm),tP];exact(Int.add_assoc acc 4 _).trans (congrArg (acc+ ·) ((Int.add_comm 4 _).trans (Int.mul_add 4 _ 1).symm))
   ·rw [if_neg hm,SW (by simpa using hm),Int.add_zero]
  rw [this]
theorem aMn{H H':List Int}(hn:H.Nodup)(hn':H'.Nodup)(hl:H.length≤10)(ex:List SO):IE [.pv (eK H),.pv (eK H')] ex=some (.pv (.int (4*((H.filter fun h=>decide (h∈H')).length:Nat))),ex):=by
 obtain⟨o',e⟩:=Wo hn hn' [] H (fun _ h=>h) 0 none
 rw [show(0:Int)+4*((H.filter fun h=>decide (h∈H')).length:Nat)=4*((H.filter fun h=>decide (h∈H')).length:Nat) from Int.zero_add _] at e
 refine mT (j:=[]) (eJ (st:=xN H H' (4*((H.filter fun h=>decide (h∈H')).length:Nat)) o' []) (by rfl) ?_) (by rfl)
 refine aO (st₁:=xN H H' 0 none []) (by rfl) (aO (st₁:=xN H H' (4*((H.filter fun h=>decide (h∈H')).length:Nat)) o' []) ?_ (eZ (fC (by rfl))))
 refine(mP (a:=.pv (.dct .int (H.map .int) (oR H))) (st₁:=xN H H' 0 none []) (xs:=H.map .int) (by rfl) ?_).trans e
 rfl
theorem aJt{H H':List Int}(hn:H.Nodup)(hn':H'.Nodup)(hl:H.length=10)(ex:List SO):ID [.pv (eK H),.pv (eK H')] ex=some (.pv (.int (10*(10 - ((H.filter fun h=>decide (h∈H')).length:Nat)))),ex):=by
 have hs:=aMn hn hn' (dQ hl) []
 have hm:(H.filter fun h=>decide (h∈H')).length≤10:=aP (Hf ..) (dQ hl)
 generalize (H.filter fun h=>decide (h∈H')).length=m at hs hm ⊢
 let st:St:=⟨[some (.pv (eK H)),some (.pv (eK H')),none],[]⟩
 refine mT (j:=[]) (eJ (st:=st) (by rfl) (eZ (fC ?_))) (by rfl)
 refine(ZW (t:=false) (st₁:=st) (by rfl)).trans ?_
 have e:mc 5 IE (aA 0) (ar [(aA 1)]) st=some (.pv (.int (4*(m:Nat))),st):=jK (st₃:=st) (a:=.pv (eK H)) (as:=[.pv (eK H')]) (u:=()) (by rfl) (by rfl) (by rfl) hs
 have e2:b2 (ge qW (aA 0)) (mc 5 IE (aA 0) (ar [(aA 1)])) JN st=some (.pv (.int (4*(m:Nat))),st):=by
  refine jG (a:=.pv (.int 40)) (b:=.pv (.int (4*(m:Nat)))) (by rfl) e ?_
  show some (SV.pv (.int (JM 40 (4*(m:Nat)))),st)=_
  unfold JM
  by_cases h:m=10
  ·subst h;rfl
  ·exact(decide_eq_true (p:=4*(m:Int) < 40) (Int.mul_lt_mul_of_pos_left (Int.ofNat_lt.mpr (Nat.lt_of_le_of_ne hm h)) (by decide))).symm▸rfl
 refine jG (a:=.pv (.int ((40 - 4*(m:Nat))*100))) (b:=.pv (.int 40)) ?_ (by rfl) ?_
 ·refine jG (a:=.pv (.int (40 - 4*(m:Nat)))) (b:=.pv (.int 100)) ?_ (by rfl) (by rfl)
  exact jG (a:=.pv (.int 40)) (b:=.pv (.int (4*(m:Nat)))) (by rfl) e2 (by rfl)
 ·rcases RE m hm with rfl | rfl | rfl | rfl | rfl | rfl | rfl | rfl | rfl | rfl | rfl <;> rfl
theorem aGr{a b:List (List Nat)}(ha:∀ l∈a,vZ l)(hb:∀ l∈b,vZ l)(hl:a.length=10):(10*(10 - (((a.map hsh).filter fun h=>decide (h∈b.map hsh)).length:Nat)):Int)=10*cF b a:=by
 have e:∀ x∈a,decide (hsh x∈b.map hsh)=decide (x∈b):=fun x hx=>by
  have:(hsh x∈b.map hsh)↔x∈b:=by
   rw [List.mem_map]
   exact⟨fun⟨y,hy,e⟩=>Pq (hb y hy) (ha x hx) e▸hy,fun h=>⟨x,h,rfl⟩⟩
  rw [decide_eq_decide.mpr this]
 have e1:((a.map hsh).filter fun h=>decide (h∈b.map hsh)).length=(a.filter fun x=>decide (x∈b)).length:=by
  rw [SY,bQ]
  congr 1
  exact List.filter_congr fun x hx=>e x hx
 have e2:(a.filter fun x=>decide (x∈b)).length+(a.filter fun x=> !decide (x∈b)).length=a.length:=by
  clear ha hl e e1
  induction a with
  |nil=>rfl
  |cons x a ih=>
   by_cases h:x∈b
   ·rw [SX (by simpa using h),SW (by simpa using h),tP,tP];exact(Nat.succ_add _ _).trans (congrArg lK ih)
   ·rw [SW (by simpa using h),SX (by simpa using h),tP,tP];exact congrArg lK ih
 rw [e1]
 exact congrArg (10* ·) (Int.sub_eq_iff_eq_add'.mpr (congrArg (fun n:Nat=>(n:Int)) (hl.symm.trans e2.symm)))
noncomputable def rS(S:List It)(o:OE):Prop:=match o with
 |some (_,i)=>Co S i
 |none=>True
noncomputable def gI(S:List It)(i j:Nat):Int:=10*(10 - (((gS S i).filter fun h=>decide (h∈gS S j)).length:Nat))
noncomputable def jD(least size:Int)(S:List It):Ch→Option Int
 |(_,some (_,i),some (_,j))=>match decide (i=j),decide (size≤40),decide (least≤gI S i j) with
  |false,true,true=>some (gI S i j)
  |_,_,_=>none
 |_=>none
noncomputable def bk(s:Option Int)(c:Ch):List PV:=match s,c with
 |some g,(p,some (x,i),some (y,j))=>[gX [68] (mo x) (aN i) (.bytes [p]) 0 .none .none (.int g),gX [65] 0 .none .none (mo y) (aN j) (.bytes [p]) (.int g)]
 |_,c=>[cp c]
noncomputable def Jq:M Fl:=(ex (bK cR dD (aA 5) (aA 6)))
noncomputable def brD:List (M Fl):=[(oN [9,8] (ar [(mc 6 zC (aA 4) (ar [(ge oM (aA 6))])),(mc 6 zC (aA 4) (ar [(ge lO (aA 6))]))])),
 (aZ 10 (mc 5 ID (aA 8) (ar [(aA 9)]))),
 (bH (cE (t2 (ge qW (aA 8)) (aA 3) rK) (cE (t2 (ge qW (aA 8)) (kI 0) sP) (cE (t2 (aA 10) (aA 2) rK) (rt true)))) (bl [(ex (bK cR dD (aA 5) (mc 4 OC (aA 6) (ar [(aA 10)])))),
 (ex (bK cR dD (aA 5) (mc 4 OB (aA 6) (ar [(aA 10)])))),
 (rt .cont)]) (bl []))]
noncomputable def NA:M Fl:=bl [(aZ 7 (aY (ar [(cf rH (ar [(ge qV (aA 6))])),(cf rH (ar [(ge oL (aA 6))]))]) cM)),
 (bH (cE (t2 (ge wJ (aA 6)) EZ cK) (cE (t2 (aA 7) (aY (ar [BS,BS]) cM) cK) (cE (t2 (ge oM (aA 6)) (ge lO (aA 6)) oW) (rt true)))) (bl brD) (bl [])),
 Jq]
noncomputable def gC(l:List PV)(least size:Int)(o6 o7 o8 o9 o10:Option SV)(cs:List SO):St:=⟨[some (.ref 5),some (.pv (.lst l)),some (.pv (.int least)),some (.pv (.int size)),some (.ref 8),some (.ref 10),o6,o7,o8,o9,o10,none,none,none,none,none,none],cs⟩
noncomputable def nK:PV:=.tup [.str [102,105,108,101],.str [102,105,108,101]]
section
variable{ω:Dk}{S:List It}{l:List PV}{least size:Int}{o6 o7 o8 o9 o10:Option SV}{I:List Nat}{F:List PV}
theorem WN(hF:F.length≤20)(hm:m (gC l least size o6 o7 o8 o9 o10 (bC ω S I F))=some (.pv y,gC l least size o6 o7 o8 o9 o10 (bC ω S I F))):
  ex (bK cR dD (aA 5) m) (gC l least size o6 o7 o8 o9 o10 (bC ω S I F))=some (.next,gC l least size o6 o7 o8 o9 o10 (bC ω S I (F++[y]))):=
 sO ((qI rfl rfl hm).trans ((yR rfl (ub hF rfl)).trans rfl))
theorem HP(h:one o n):aZ 7 (aY (ar [(cf rH (ar [(ge qV (aA 6))])),(cf rH (ar [(ge oL (aA 6))]))]) cM) (gC l least size (some (.pv (cp (p,o,n)))) o7 o8 o9 o10 (bC ω S I F))=some (.next,gC l least size (some (.pv (cp (p,o,n)))) (some (.pv nK)) o8 o9 o10 (bC ω S I F)):=by
 rcases o with _ | ⟨x,i⟩ <;> rcases n with _ | ⟨y,j⟩
 ·rcases h with h | h <;> exact absurd rfl h
 ·cases y <;> kernel_rfl
 ·cases x <;> kernel_rfl
 ·cases x <;> cases y <;> kernel_rfl
inductive Zm(ω:Dk)(S:List It)(l:List PV)(least:Int)(size:Int)(o6:Option SV)(o7:Option SV)(o8:Option SV)(o9:Option SV)(o10:Option SV)(I:List Nat)(F:List PV)(c:Ch):Prop
 |mk (q6:_) (q7:_) (q8:_) (q9:_) (q10:_) (I':_) (f:_) (hh0:(f= .next∨f= .cont)) (hh1:I'.Nodup) (hh2:I'.length≤I.length+2) (hh3:(bd (nT 6 (cp c)) fun _=>NA) (gC l least size o6 o7 o8 o9 o10 (bC ω S I F))=some (f,gC l least size q6 q7 q8 q9 q10 (bC ω S I' (F++bk (jD least size S c) c))))
theorem aBL(hsz:size=40∨size=41)(h:one c.2.1 c.2.2)(ho:rS S c.2.1)(hn:rS S c.2.2)(hI:I.Nodup)(hIl:I.length≤10)(hF:F.length≤10):Zm ω S l least size o6 o7 o8 o9 o10 I F c:=by
 obtain⟨p,o,n⟩:=c
 have e6:∀ o6,(nT 6 (cp (p,o,n))) (gC l least size o6 o7 o8 o9 o10 (bC ω S I F))=some ((),gC l least size (some (.pv (cp (p,o,n)))) o7 o8 o9 o10 (bC ω S I F)):=fun o6=>rfl
 have last:∀ I o8 o9 o10,bl [Jq] (gC l least size (some (.pv (cp (p,o,n)))) (some (.pv nK)) o8 o9 o10 (bC ω S I F))=some (.next,gC l least size (some (.pv (cp (p,o,n)))) (some (.pv nK)) o8 o9 o10 (bC ω S I (F++[cp (p,o,n)]))):=fun I o8 o9 o10=>cW (WN (ub hF rfl) rfl)
 rcases o with _ | ⟨x,i⟩ <;> rcases n with _ | ⟨y,j⟩
 ·rcases h with h | h <;> exact absurd rfl h
 ·refine⟨some (.pv (cp (p,none,some (y,j)))),some (.pv nK),o8,o9,o10,I,.next,.inl rfl,hI,oD _ 2,(aJ (e6 o6)).trans (aO (HP h) (aO (eV rfl rfl) (last I o8 o9 o10)))⟩
 ·refine⟨some (.pv (cp (p,some (x,i),none))),some (.pv nK),o8,o9,o10,I,.next,.inl rfl,hI,oD _ 2,(aJ (e6 o6)).trans (aO (HP h) (aO (eV rfl rfl) (last I o8 o9 o10)))⟩
 ·let st:=gC l least size (some (.pv (cp (p,some (x,i),some (y,j))))) (some (.pv nK)) o8 o9 o10 (bC ω S I F)
  have et:(cE (t2 (ge wJ (aA 6)) EZ cK) (cE (t2 (aA 7) (aY (ar [BS,BS]) cM) cK) (cE (t2 (ge oM (aA 6)) (ge lO (aA 6)) oW) (rt true)))) st=some (!decide (i=j),st):=by
   refine(aJ (a:=true) rfl).trans ((aJ (by rfl)).trans ?_)
   refine(aJ (a:= !decide (i=j)) (st₁:=st) ?_).trans (by cases decide (i=j) <;> rfl)
   refine(jL (a:=.pv (aN i)) (b:=.pv (aN j)) (st₁:=st) (st₂:=st) (by rfl) (by rfl)).trans ?_
   show some (!eqL (dG (i+1)) (dG (j+1)),st)=_
   rw [XT]
   simp
  by_cases hij:i=j
  ·rw [decide_eq_true hij] at et
   refine⟨some (.pv (cp (p,some (x,i),some (y,j)))),some (.pv nK),o8,o9,o10,I,.next,.inl rfl,hI,oD _ 2,(aJ (e6 o6)).trans (aO (HP h) (aO (eV et rfl) ((last I o8 o9 o10).trans ?_)))⟩
   have:jD least size S (p,some (x,i),some (y,j))=none:=by
    unfold jD
    dsimp only
    rw [decide_eq_true hij]
   refine(this).symm▸?_
   rfl
  ·have hij':=decide_eq_false hij
   replace et:=(hij')▸et
   obtain⟨I₁,hI₁,hl₁,es₁⟩:=Xe ω S (i:=i) ho I hI (ub hIl rfl)
   obtain⟨I₂,hI₂,hl₂,es₂⟩:=Xe ω S (i:=j) hn I₁ hI₁ (ub (aP hl₁ (kZ hIl)) rfl)
   let st2:=fun o10=>gC l least size (some (.pv (cp (p,some (x,i),some (y,j))))) (some (.pv nK)) (some (.pv (eK (gS S i)))) (some (.pv (eK (gS S j)))) o10 (bC ω S I₂ F)
   have e8:oN [9,8] (ar [(mc 6 zC (aA 4) (ar [(ge oM (aA 6))])),(mc 6 zC (aA 4) (ar [(ge lO (aA 6))]))]) st=some (.next,st2 o10):=by
    refine DM (u:=()) (as:=[.pv (eK (gS S i)),.pv (eK (gS S j))]) (st₁:=gC l least size (some (.pv (cp (p,some (x,i),some (y,j))))) (some (.pv nK)) o8 o9 o10 (bC ω S I₂ F)) ?_ (by rfl)
    refine nD (st₁:=gC l least size (some (.pv (cp (p,some (x,i),some (y,j))))) (some (.pv nK)) o8 o9 o10 (bC ω S I₁ F)) ?_ (iH ?_)
    ·exact jK (a:=.ref 8) (as:=[.pv (aN i)]) (u:=()) (st₁:=st) (st₂:=st) (st₃:=st) (by rfl) (by rfl) (by rfl) (es₁ F)
    ·exact jK (a:=.ref 8) (as:=[.pv (aN j)]) (u:=()) (st₃:=gC l least size (some (.pv (cp (p,some (x,i),some (y,j))))) (some (.pv nK)) o8 o9 o10 (bC ω S I₁ F)) (by rfl) (by rfl) (by rfl) (es₂ F)
   have hh:∀ {k},Co S k→(gS S k).Nodup∧(gS S k).length=10:=fun {k} h=>by
    obtain⟨z,ns,hS,hns,hp,hd⟩:=h
    have:gS S k=(bJ z ns).map hsh:=by unfold gS;rw [hS]
    rw [this,bQ,sU]
    exact⟨Sf hp hd,hns⟩
   have e10:aZ 10 (mc 5 ID (aA 8) (ar [(aA 9)])) (st2 o10)=some (.next,st2 (some (.pv (.int (gI S i j))))):=
    iI (jK (a:=.pv (eK (gS S i))) (as:=[.pv (eK (gS S j))]) (u:=()) (st₃:=st2 o10) (by rfl) (by rfl) (by rfl) (aJt (hh ho).1 (hh hn).1 (hh ho).2 _))
   let st3:=st2 (some (.pv (.int (gI S i j))))
   have ec:(cE (t2 (ge qW (aA 8)) (aA 3) rK) (cE (t2 (ge qW (aA 8)) (kI 0) sP) (cE (t2 (aA 10) (aA 2) rK) (rt true)))) st3=some (decide (size≤40) && decide (least≤gI S i j),st3):=by
    refine(aJ (a:=decide (size≤40)) (st₁:=st3) (by rfl)).trans ?_
    rcases hsz with rfl | rfl
    ·refine(aJ (a:=true) (st₁:=st3) (by rfl)).trans ((aJ (a:=decide (least≤gI S i j)) (st₁:=st3) (by rfl)).trans ?_)
     cases decide (least≤gI S i j) <;> rfl
    ·rfl
   cases hc:(decide (size≤40) && decide (least≤gI S i j)) with
   |false=>
    rw [hc] at ec
    refine⟨some (.pv (cp (p,some (x,i),some (y,j)))),some (.pv nK),some (.pv (eK (gS S i))),some (.pv (eK (gS S j))),some (.pv (.int (gI S i j))),I₂,.next,.inl rfl,hI₂,aP hl₂ (kZ hl₁),(aJ (e6 o6)).trans (aO (HP h) (aO (hV et (aO e8 (aO e10 (cW (eV ec rfl))))) ((last I₂ _ _ _).trans ?_)))⟩
    have:jD least size S (p,some (x,i),some (y,j))=none:=by
     unfold jD
     dsimp only
     refine(hij').symm▸?_
     cases h1:decide (size≤40) <;> cases h2:decide (least≤gI S i j) <;> rw [h1,h2] at hc <;> first | rfl | exact GD hc
    refine(this).symm▸?_
    rfl
   |true=>
    rw [hc] at ec
    obtain⟨g1,g2⟩:=Bool.and_eq_true_iff.mp hc
    let h1:PV:=gX [68] (mo x) (aN i) (.bytes [p]) 0 .none .none (.int (gI S i j))
    let h2:PV:=gX [65] 0 .none .none (mo y) (aN j) (.bytes [p]) (.int (gI S i j))
    have a1:ex (bK cR dD (aA 5) (mc 4 OC (aA 6) (ar [(aA 10)]))) st3=some (.next,gC l least size (some (.pv (cp (p,some (x,i),some (y,j))))) (some (.pv nK)) (some (.pv (eK (gS S i)))) (some (.pv (eK (gS S j)))) (some (.pv (.int (gI S i j)))) (bC ω S I₂ (F++[h1]))):=
     WN (ub hF rfl) (jK (u:=()) (a:=.pv (cp (p,some (x,i),some (y,j)))) (as:=[.pv (.int (gI S i j))]) (st₃:=st3) (by rfl) (by rfl) (by rfl) (by kernel_rfl))
    have a2:ex (bK cR dD (aA 5) (mc 4 OB (aA 6) (ar [(aA 10)]))) (gC l least size (some (.pv (cp (p,some (x,i),some (y,j))))) (some (.pv nK)) (some (.pv (eK (gS S i)))) (some (.pv (eK (gS S j)))) (some (.pv (.int (gI S i j)))) (bC ω S I₂ (F++[h1])))=some (.next,gC l least size (some (.pv (cp (p,some (x,i),some (y,j))))) (some (.pv nK)) (some (.pv (eK (gS S i)))) (some (.pv (eK (gS S j)))) (some (.pv (.int (gI S i j)))) (bC ω S I₂ (F++[h1]++[h2]))):=
     WN (aP (dQ (xA F _)) (ub (kZ hF) rfl)) (jK (u:=()) (a:=.pv (cp (p,some (x,i),some (y,j)))) (as:=[.pv (.int (gI S i j))]) (st₃:=gC l least size (some (.pv (cp (p,some (x,i),some (y,j))))) (some (.pv nK)) (some (.pv (eK (gS S i)))) (some (.pv (eK (gS S j)))) (some (.pv (.int (gI S i j)))) (bC ω S I₂ (F++[h1]))) (by rfl) (by rfl) (by rfl) (by kernel_rfl))
    refine⟨some (.pv (cp (p,some (x,i),some (y,j)))),some (.pv nK),some (.pv (eK (gS S i))),some (.pv (eK (gS S j))),some (.pv (.int (gI S i j))),I₂,.cont,.inr rfl,hI₂,aP hl₂ (kZ hl₁),(aJ (e6 o6)).trans (aO (HP h) (DN ((hV et (aO e8 (aO e10 (DN (hV ec (aO a1 (aO a2 rfl))))))).trans ?_)))⟩
    have:jD least size S (p,some (x,i),some (y,j))=some (gI S i j):=by
     unfold jD
     dsimp only
     exact(hij').symm▸(g1).symm▸(g2).symm▸rfl
    rw [this,gJ]
    rfl
end
structure Cp(S:List It)(c:Ch):Prop where
 one:one c.2.1 c.2.2
 ho:rS S c.2.1
 hn:rS S c.2.2
theorem Jn(s:Option Int)(c:Ch):(bk s c).length≤2:=by
 obtain⟨p,o,n⟩:=c
 cases s <;> rcases o with _ | ⟨x,i⟩ <;> rcases n with _ | ⟨y,j⟩ <;> simp [bk]
noncomputable def gV(least size:Int)(S:List It)(cs:List Ch):List PV:=cs.flatMap fun c=>bk (jD least size S c) c
theorem Bd{a b c n:Nat}(h:b≤a+2)(k:a+2*(c+1)≤n):b+2*c≤n:=
 aP (lJ h _) (aP (dQ ((uR a 2 _).trans (congrArg (a+ ·) (vV 2 (2*c))))) k)
theorem Jr(ω:Dk)(S:List It)(l:List PV){least size:Int}(hsz:size=40∨size=41):∀(cs:List Ch),(∀ c∈cs,Cp S c)→∀(I:List Nat) (F:List PV) (o6 o7 o8 o9 o10:Option SV),I.Nodup→I.length+2*cs.length≤8→F.length+2*cs.length≤8→
  ∃ q6 q7 q8 q9 q10 I',fJ (cs.map cp) (fun x=>bd (nT 6 x) fun _=>NA) (gC l least size o6 o7 o8 o9 o10 (bC ω S I F))=some (.next,gC l least size q6 q7 q8 q9 q10 (bC ω S I' (F++gV least size S cs)))
 | [],_,I,F,o6,o7,o8,o9,o10,_,_,_=>⟨o6,o7,o8,o9,o10,I,by rw [show F++gV least size S []=F from gK F];rfl⟩
 |c::cs,h,I,F,o6,o7,o8,o9,o10,hI,hIl,hF=>by
  rw [tP] at hIl hF
  have k:=h c (uP ..)
  obtain⟨q6,q7,q8,q9,q10,I',f,hf,hI',hl',e⟩:=aBL (ω:=ω) (l:=l) (least:=least) (o6:=o6) (o7:=o7) (o8:=o8) (o9:=o9) (o10:=o10) hsz k.one k.ho k.hn hI (ub (TM hIl) rfl) (F:=F) (ub (TM hF) rfl)
  have hb:=Jn (jD least size S c) c
  obtain⟨r6,r7,r8,r9,r10,I'',e'⟩:=Jr ω S l hsz cs (fun x hx=>h x (sF _ hx)) I' (F++bk (jD least size S c) c) q6 q7 q8 q9 q10 hI' (Bd hl' hIl) (by rw [fE];exact Bd (oB hb _) hF)
  refine⟨r6,r7,r8,r9,r10,I'',?_⟩
  have e'':fJ ((c::cs).map cp) (fun x=>bd (nT 6 x) fun _=>NA) (gC l least size o6 o7 o8 o9 o10 (bC ω S I F))=fJ (cs.map cp) (fun x=>bd (nT 6 x) fun _=>NA) (gC l least size q6 q7 q8 q9 q10 (bC ω S I' (F++bk (jD least size S c) c))):=by
   rcases hf with rfl | rfl
   ·exact gL e
   ·exact IK e
  refine e''.trans (e'.trans ?_)
  unfold gV
  rw [AG,gJ]
theorem Jm{s:Option Int}{p:Nat}{o n:OE}(h:one o n):∀ v∈bk s (p,o,n),∃ w,CF p w v:=by
 intro v hv
 cases s with
 |none=>
  have:v=cp (p,o,n):=by simpa [bk] using hv
  rw [this]
  exact⟨_,DW h⟩
 |some g=>
  rcases o with _ | ⟨x,i⟩ <;> rcases n with _ | ⟨y,j⟩
  ·rcases h with h | h <;> exact absurd rfl h
  ·exact⟨_,(show v=cp _ by simpa [bk] using hv)▸DW h⟩
  ·exact⟨_,(show v=cp _ by simpa [bk] using hv)▸DW h⟩
  ·have:v=gX [68] (mo x) (aN i) (.bytes [p]) 0 .none .none (.int g)∨v=gX [65] 0 .none .none (mo y) (aN j) (.bytes [p]) (.int g):=by simpa [bk] using hv
   rcases this with rfl | rfl
   ·exact⟨_,.d ..⟩
   ·exact⟨_,.a ..⟩
theorem WL(f:Ch→Option Int)(p:Nat)(o n:OE):∃ A,uG A∧((dC p o n).flatMap fun c=>bk (f c) c).map vI=wd p A:=by
 rcases rC p o n with⟨_,e⟩ | ⟨h,_,e⟩ <;> rw [e]
 ·exact⟨[],.inl rfl,rfl⟩
 ·have e':([(p,o,n)].flatMap fun c=>bk (f c) c)=bk (f (p,o,n)) (p,o,n):=by simp
  refine(e').symm▸?_
  have sing:∃ A,uG A∧[cp (p,o,n)].map vI=wd p A:=⟨[od (p,o,n)],.inr (.inl ⟨_,rfl⟩),by
   show [vI (cp (p,o,n))]=_
   rw [(DW h).k];rfl⟩
  cases f (p,o,n) with
  |none=>exact sing
  |some g=>
   rcases o with _ | ⟨x,i⟩ <;> rcases n with _ | ⟨y,j⟩
   ·rcases h with h | h <;> exact absurd rfl h
   ·exact sing
   ·exact sing
   ·exact⟨[0,1],.inr (.inr rfl),rfl⟩
theorem DY(a b c a' b' c':OE):(dif a b c a' b' c').length≤3:=by
 have h1:=yW 97 a a'
 have h2:=yW 98 b b'
 have h3:=yW 99 c c'
 unfold dif
 rw [fE,fE]
 exact mK (mK h1 h2) h3
theorem XB{S:List It}{p:Nat}{o n:OE}(ho:rS S o)(hn:rS S n):∀ c∈dC p o n,Cp S c:=by
 rcases rC p o n with⟨_,e⟩ | ⟨h,_,e⟩ <;> rw [e]
 ·intro c hc;cases hc
 ·intro c hc
  rw [List.mem_singleton.mp hc]
  exact⟨h,ho,hn⟩
theorem Js(ω:Dk)(S:List It){a b c a' b' c':OE}(ha:rS S a)(hb:rS S b)(hc:rS S c)(ha':rS S a')(hb':rS S b')(hc':rS S c'){least size:Int}(hsz:size=40∨size=41)(ex:List SO):
  OD [.ref 5,.pv (.lst ((dif a b c a' b' c').map cp)),.pv (.int least),.pv (.int size)] (sS ω S++ex)=some (.pv (.lst (gV least size S (dif a b c a' b' c'))),sS ω S++ex):=by
 have hd:∀ k∈dif a b c a' b' c',Cp S k:=by
  intro k hk
  unfold dif at hk
  rw [uO,uO] at hk
  rcases hk with(hk | hk) | hk
  ·exact XB ha ha' k hk
  ·exact XB hb hb' k hk
  ·exact XB hc hc' k hk
 have hlen:=DY a b c a' b' c'
 obtain⟨A,hA,eA⟩:=WL (jD least size S) 97 a a'
 obtain⟨B,hB,eB⟩:=WL (jD least size S) 98 b b'
 obtain⟨C,hC,eC⟩:=WL (jD least size S) 99 c c'
 have hw:(gV least size S (dif a b c a' b' c')).map vI=wd 97 A++wd 98 B++wd 99 C:=by
  unfold gV dif
  rw [TA,TA,cU,cU,eA,eB,eC]
 have hcf:∀ v∈gV least size S (dif a b c a' b' c'),∀ ex,BI [.pv v] ex=some (.pv (vI v),ex):=by
  intro v hv ex
  unfold gV at hv
  obtain⟨k,hk,hv⟩:=List.mem_flatMap.mp hv
  obtain⟨w,hw⟩:=Jm (s:=jD least size S k) (p:=k.1) (hd k hk).one v hv
  exact hw.order ex
 generalize dif a b c a' b' c'=D at hd hlen hw hcf ⊢
 let st0:St:=⟨[some (.ref 5),some (.pv (.lst (D.map cp))),some (.pv (.int least)),some (.pv (.int size)),some (.ref 8),none,none,none,none,none,none,none,none,none,none,none,none],sS ω S++[.inst 6 [.ref 5,.ref 9],.dict .bytes [] []]⟩
 obtain⟨q6,q7,q8,q9,q10,I',e⟩:=Jr ω S (D.map cp) (least:=least) hsz D hd [] [] none none none none none pH (aP (dQ (kG _)) (ub (GU 2 hlen) rfl)) (aP (dQ (kG _)) (ub (GU 2 hlen) rfl))
 rw [oA] at e
 refine iM (j:=[.inst 6 [.ref 5,.ref 9],bI S I',.list (gV least size S D),.dead]) (eJ (st:=gC (D.map cp) least size q6 q7 q8 q9 q10 (bC ω S I' (gV least size S D)++[.dead])) (by rfl) ?_) (by rfl) (by rfl)
 refine aO (st₁:=st0) (by kernel_rfl) (aO (st₁:=gC (D.map cp) least size none none none none none (bC ω S [] [])) (by kernel_rfl) (aO (st₁:=gC (D.map cp) least size q6 q7 q8 q9 q10 (bC ω S I' (gV least size S D))) ?_ (eZ (fC ?_))))
 ·exact(mP (a:=.pv (.lst (D.map cp))) (st₁:=gC (D.map cp) least size none none none none none (bC ω S [] [])) (xs:=D.map cp) (by rfl) (by rfl)).trans e
 ·refine eU (a:=.ref 11) (st₁:=gC (D.map cp) least size q6 q7 q8 q9 q10 (bC ω S I' (gV least size S D)++[.list (gV least size S D)])) ?_ (by rfl)
  refine eU (a:=.ref 10) (st₁:=gC (D.map cp) least size q6 q7 q8 q9 q10 (bC ω S I' (gV least size S D))) (by rfl) ?_
  exact(Xd (xs:=gV least size S D) (by rfl) hcf hA hB hC hw).trans (by rfl)
noncomputable def iO(v:PV):PV:=match v with
 |.obj 4 [w,om,oi,op,nm,ni,np,_]=>.tup [w,om,oi,op,nm,ni,np]
 |_=>.none
theorem aLZ{p:Nat}{w:Int}{v:PV}(h:CF p w v)(ex:List SO):BH [.pv v] ex=some (.pv (iO v),ex):=by
 cases h <;> kernel_rfl
theorem KO{src:M SV}{st:St}{l:List PV}(hs:src st=some (.pv (.lst l),st))(h:∀ v∈l,∃ p w,CF p w v)(hl:l.length≤10):eG dK src [none,none,none] (nT 1) (rt true) (cf BH (ar [(aA 1)])) st=some (.pv (.lst (l.map iO)),st):=by
 obtain⟨o',e⟩:=yX (g:=nT 1) (t:=rt true) (m:=cf BH (ar [(aA 1)])) (fun o=>⟨[none,o,none],st.cells⟩) (fun _=>true) iO l (fun _ _=>rfl) (fun _ _=>rfl) (fun x hx _=>by
  obtain⟨p,w,k⟩:=h x hx
  exact lF (iH rfl) (aLZ k _)) none
 rw [List.filter_eq_self.mpr (fun _ _=>rfl)] at e
 exact tX (st₂:=⟨[none,o',none],st.cells⟩) (xs:=l) hs rfl (ub hl rfl) e
noncomputable def rD(p:Nat)(x:Bool)(i:Nat):PV:=.tup [.str [68],.int (mo x),aN i,.bytes [p],.int 0,.none,.none]
noncomputable def rA(p:Nat)(y:Bool)(j:Nat):PV:=.tup [.str [65],.int 0,.none,.none,.int (mo y),aN j,.bytes [p]]
noncomputable def rM(p:Nat)(x:Bool)(i:Nat)(y:Bool)(j:Nat):PV:=.tup [.str [77],.int (mo x),aN i,.bytes [p],.int (mo y),aN j,.bytes [p]]
noncomputable def uC(b:Bool)(c:Ch):List PV:=match b,c with
 |true,(p,some (x,i),some (y,j))=>[rD p x i,rA p y j]
 |_,c=>[iO (cp c)]
theorem aBF(s:Option Int)(c:Ch):(bk s c).map iO=uC s.isSome c:=by
 obtain⟨p,o,n⟩:=c
 cases s <;> rcases o with _ | ⟨x,i⟩ <;> rcases n with _ | ⟨y,j⟩ <;> rfl
theorem aHH(l:List (List Nat))(st:St)(hl:l.length≤100):iL (.pv (lp l)) st=some (.pv (.int (l.length:Nat)),st):=by
 refine pM ?_
 show(match decide ((l.map PV.bytes).length≤1000000) with | true=>some ((.pv (.int ((l.map PV.bytes).length:Nat)):SV),st) | false=>none)=_
 rw [bQ,decide_eq_true (ub hl rfl)]
theorem aIs{c:Nat}(hc:c≤10)(st:St):qJ (.pv (.int 10)) (.pv (.int (c:Nat))) st=some (.pv (.int (10*(c:Nat))),st):=by
 rcases RE c hc with rfl | rfl | rfl | rfl | rfl | rfl | rfl | rfl | rfl | rfl | rfl <;> rfl
noncomputable def Au:M Fl:=(ex (bK cR dD (aA 4) (aA 5)))
noncomputable def Aw:M Fl:=(ex (bK cR BU (aA 4) (aY (ar [(b2 (b2 (aY (ar [(kS [68])]) cM) (pS (aA 5) (pa (kI 1)) (pa (kI 4))) bM) (aY (ar [(kI 0),kN,kN]) cM) bM),(b2 (aY (ar [(kS [65]),(kI 0),kN,kN]) cM) (pS (aA 5) (pa (kI 4)) (rt none)) bM)]) kP)))
noncomputable def Av:M Fl:=bl [(aZ 6 (kI 0)),
 (bH (t2 (b2 (aA 5) (kI 0) aV) (kS [77]) cK) (bl [(nF [7,8] (ar [(b2 (b2 (aA 1) (b2 (aA 5) (kI 3) aV) aV) (kI 1) aV),(b2 (b2 (aA 2) (b2 (aA 5) (kI 6) aV) aV) (kI 1) aV)])),
 (aZ 6 (b2 (kI 10) (ge iL (eG dK (aA 7) [none,none,some 8] (nT 1) (t2 (aA 1) (aA 2) fB) (aA 1))) qJ))]) (bl [])),
 (bH (cE (t2 (b2 (aA 5) (kI 0) aV) (kS [77]) cK) (cE (t2 (aA 6) (aA 3) rK) (rt true))) (bl [Aw]) (bl [Au]))]
noncomputable def iK(r P Q:PV)(least:Int)(o5 o6 o7 o8:Option SV)(F:List PV):St:=⟨[some (.pv r),some (.pv P),some (.pv Q),some (.pv (.int least)),some (.ref 0),o5,o6,o7,o8,none],[.list F]⟩
theorem Ax{r P Q y:PV}{least:Int}{o6 o7 o8:Option SV}{F:List PV}(hF:F.length≤20):Au (iK r P Q least (some (.pv y)) o6 o7 o8 F)=some (.next,iK r P Q least (some (.pv y)) o6 o7 o8 (F++[y])):=
 sO ((qI (u:=()) (a:=.ref 0) (b:=.pv y) (st₃:=iK r P Q least (some (.pv y)) o6 o7 o8 F) (by rfl) (by rfl) (by rfl)).trans ((yR (j:=0) (xs:=F) (by rfl) (ub hF rfl)).trans (by rfl)))
theorem aHA{r P Q:PV}{p:Nat}{x:Bool}{i:Nat}{y:Bool}{j:Nat}{least:Int}{o6 o7 o8:Option SV}{F:List PV}(hF:F.length≤20):Aw (iK r P Q least (some (.pv (rM p x i y j))) o6 o7 o8 F)=some (.next,iK r P Q least (some (.pv (rM p x i y j))) o6 o7 o8 (F++[rD p x i,rA p y j])):=
 sO ((qI (u:=()) (a:=.ref 0) (b:=.pv (.lst [rD p x i,rA p y j])) (st₃:=iK r P Q least (some (.pv (rM p x i y j))) o6 o7 o8 F) (by rfl) (by rfl) (by kernel_rfl)).trans ((Mp (j:=0) (xs:=F) (by rfl) (ub (lJ hF 2) rfl)).trans (by rfl)))
noncomputable def KS(P Q:PV)(b:Bool)(least:Int)(c:Ch):Prop:=match c with
 |(p,some _,some _)=>∃ v w,(∀ st,aV (.pv P) (.pv (.bytes [p])) st=some (.pv (vp v),st))∧(∀ st,aV (.pv Q) (.pv (.bytes [p])) st=some (.pv (vp w),st))∧(bJ v.z v.ns).length=10∧b=decide (least≤10*cF (bJ w.z w.ns) (bJ v.z v.ns))
 |(_,none,none)=>False
 |_=>True
inductive Zu(r:PV)(P:PV)(Q:PV)(least:Int)(b:Bool)(c:Ch)(o5:Option SV)(o6:Option SV)(o7:Option SV)(o8:Option SV)(F:List PV):Prop
 |mk (q5:_) (q6:_) (q7:_) (q8:_) (hh0:(bd (nT 5 (iO (cp c))) fun _=>Av) (iK r P Q least o5 o6 o7 o8 F)=some (.next,iK r P Q least q5 q6 q7 q8 (F++uC b c)))
theorem aHB{r P Q:PV}{least:Int}{b:Bool}{c:Ch}(h:KS P Q b least c)(o5 o6 o7 o8:Option SV)(F:List PV)(hF:F.length≤20):Zu r P Q least b c o5 o6 o7 o8 F:=by
 obtain⟨p,o,n⟩:=c
 have e5:nT 5 (iO (cp (p,o,n))) (iK r P Q least o5 o6 o7 o8 F)=some ((),iK r P Q least (some (.pv (iO (cp (p,o,n))))) o6 o7 o8 F):=rfl
 rcases o with _ | ⟨x,i⟩ <;> rcases n with _ | ⟨y,j⟩
 ·exact h.elim
 ·refine⟨some (.pv (rA p y j)),some (.pv (.int 0)),o7,o8,(aJ e5).trans (aO (st₁:=iK r P Q least (some (.pv (rA p y j))) (some (.pv (.int 0))) o7 o8 F) (by rfl) (aO (eV (st₁:=iK r P Q least (some (.pv (rA p y j))) (some (.pv (.int 0))) o7 o8 F) (by rfl) rfl) (cW (eV (st₁:=iK r P Q least (some (.pv (rA p y j))) (some (.pv (.int 0))) o7 o8 F) (by rfl) (cW ((Ax hF).trans ?_))))))⟩
  cases b <;> rfl
 ·refine⟨some (.pv (rD p x i)),some (.pv (.int 0)),o7,o8,(aJ e5).trans (aO (st₁:=iK r P Q least (some (.pv (rD p x i))) (some (.pv (.int 0))) o7 o8 F) (by rfl) (aO (eV (st₁:=iK r P Q least (some (.pv (rD p x i))) (some (.pv (.int 0))) o7 o8 F) (by rfl) rfl) (cW (eV (st₁:=iK r P Q least (some (.pv (rD p x i))) (some (.pv (.int 0))) o7 o8 F) (by rfl) (cW ((Ax hF).trans ?_))))))⟩
  cases b <;> rfl
 ·obtain⟨v,w,g1,g2,hl,hb⟩:=h
  let R:=rM p x i y j
  let st:=iK r P Q least (some (.pv R)) (some (.pv (.int 0))) o7 o8 F
  let st1:=iK r P Q least (some (.pv R)) (some (.pv (.int 0))) (some (.pv (lp (bJ v.z v.ns)))) (some (.pv (lp (bJ w.z w.ns)))) F
  let st2:=iK r P Q least (some (.pv R)) (some (.pv (.int (10*cF (bJ w.z w.ns) (bJ v.z v.ns))))) (some (.pv (lp (bJ v.z v.ns)))) (some (.pv (lp (bJ w.z w.ns)))) F
  have e7:nF [7,8] (ar [(b2 (b2 (aA 1) (b2 (aA 5) (kI 3) aV) aV) (kI 1) aV),(b2 (b2 (aA 2) (b2 (aA 5) (kI 6) aV) aV) (kI 1) aV)]) st=some (.next,st1):=by
   refine HN (u:=()) (as:=[.pv (lp (bJ v.z v.ns)),.pv (lp (bJ w.z w.ns))]) (st₁:=st) (nD (st₁:=st) ?_ (iH ?_)) (by rfl)
   ·exact jG (a:=.pv (vp v)) (b:=.pv (.int 1)) (jG (a:=.pv P) (b:=.pv (.bytes [p])) (by rfl) (by rfl) (g1 st)) (by rfl) (by rfl)
   ·exact jG (a:=.pv (vp w)) (b:=.pv (.int 1)) (jG (a:=.pv Q) (b:=.pv (.bytes [p])) (by rfl) (by rfl) (g2 st)) (by rfl) (by rfl)
  have e6:aZ 6 (b2 (kI 10) (ge iL (eG dK (aA 7) [none,none,some 8] (nT 1) (t2 (aA 1) (aA 2) fB) (aA 1))) qJ) st1=some (.next,st2):=by
   refine iI (v:=.pv (.int (10*cF (bJ w.z w.ns) (bJ v.z v.ns)))) (st₁:=st1) (jG (a:=.pv (.int 10)) (b:=.pv (.int (cF (bJ w.z w.ns) (bJ v.z v.ns)))) (st:=st1) (st₁:=st1) (by rfl) ?_ (aIs (hl▸PM _ _) st1))
   refine eU (a:=.pv (lp (lV (bJ w.z w.ns) (bJ v.z v.ns)))) (st₁:=st1) (XI _ _ _ (bJ w.z w.ns) (bJ v.z v.ns) (ub (dQ hl) rfl) 7 (by rfl) (by rfl)) ?_
   exact aHH _ _ (aP (PM _ _) (ub (dQ hl) rfl))
  have ec:(cE (t2 (b2 (aA 5) (kI 0) aV) (kS [77]) cK) (cE (t2 (aA 6) (aA 3) rK) (rt true))) st2=some (b,st2):=by
   refine(aJ (a:=true) (st₁:=st2) (by rfl)).trans ((aJ (a:=b) (st₁:=st2) ?_).trans (by cases b <;> rfl))
   refine(hb).symm▸?_
   rfl
  have pre:∀ {q},bl [(bH (cE (t2 (b2 (aA 5) (kI 0) aV) (kS [77]) cK) (cE (t2 (aA 6) (aA 3) rK) (rt true))) (bl [Aw]) (bl [Au]))] st2=q→(bd (nT 5 (iO (cp (p,some (x,i),some (y,j))))) fun _=>Av) (iK r P Q least o5 o6 o7 o8 F)=q:=fun {q} hq=>
   (aJ e5).trans (aO (st₁:=st) (by rfl) (aO (hV (st₁:=st) (by rfl) (aO e7 (cW e6))) hq))
  refine⟨some (.pv R),some (.pv (.int (10*cF (bJ w.z w.ns) (bJ v.z v.ns)))),some (.pv (lp (bJ v.z v.ns))),some (.pv (lp (bJ w.z w.ns))),?_⟩
  clear hb
  cases b with
  |true=>exact pre (cW (hV ec (cW (aHA hF))))
  |false=>exact pre (cW (eV ec (cW (Ax hF))))
theorem Rc{r P Q:PV}{least:Int}(g:Ch→Bool):∀(cs:List Ch),(∀ c∈cs,KS P Q (g c) least c)→∀(F:List PV) (o5 o6 o7 o8:Option SV),F.length+2*cs.length≤10→
  ∃ q5 q6 q7 q8,fJ (cs.map fun c=>iO (cp c)) (fun x=>bd (nT 5 x) fun _=>Av) (iK r P Q least o5 o6 o7 o8 F)=some (.next,iK r P Q least q5 q6 q7 q8 (F++cs.flatMap fun c=>uC (g c) c))
 | [],_,F,o5,o6,o7,o8,_=>⟨o5,o6,o7,o8,by rw [List.flatMap_nil,gK];rfl⟩
 |c::cs,h,F,o5,o6,o7,o8,hF=>by
  replace hF:=(tP)▸hF
  obtain⟨q5,q6,q7,q8,e⟩:=aHB (r:=r) (h c (uP ..)) o5 o6 o7 o8 F (ub (TM hF) rfl)
  have hb:(uC (g c) c).length≤2:=by
   obtain⟨p,o,n⟩:=c
   cases g (p,o,n) <;> rcases o with _ | ⟨x,i⟩ <;> rcases n with _ | ⟨y,j⟩ <;> simp [uC]
  obtain⟨r5,r6,r7,r8,e'⟩:=Rc (r:=r) g cs (fun x hx=>h x (sF _ hx)) (F++uC (g c) c) q5 q6 q7 q8 (by rw [fE];exact Bd (oB hb _) hF)
  refine⟨r5,r6,r7,r8,?_⟩
  rw [iS]
  refine(gL e).trans (e'.trans ?_)
  rw [AG,gJ]
theorem aHC{P Q:PV}{least:Int}(g:Ch→Bool)(cs:List Ch)(h:∀ c∈cs,KS P Q (g c) least c)(hl:cs.length≤3)(ex:List SO):
  YL [.pv (.lst (cs.map fun c=>iO (cp c))),.pv P,.pv Q,.pv (.int least)] ex=some (.pv (.lst (cs.flatMap fun c=>uC (g c) c)),ex):=by
 let r:PV:=.lst (cs.map fun c=>iO (cp c))
 obtain⟨q5,q6,q7,q8,e⟩:=Rc (r:=r) g cs h [] none none none none (aP (dQ (kG _)) (ub (GU 2 hl) rfl))
 rw [oA] at e
 refine mT (j:=[.dead]) (eJ (st:=⟨(iK r P Q least q5 q6 q7 q8 []).loc,[.dead]⟩) (by rfl) ?_) (by rfl)
 refine aO (st₁:=iK r P Q least none none none none []) (by rfl) (aO (st₁:=iK r P Q least q5 q6 q7 q8 (cs.flatMap fun c=>uC (g c) c)) ?_ (eZ (fC (by rfl))))
 exact(mP (a:=.pv r) (st₁:=iK r P Q least none none none none []) (xs:=cs.map fun c=>iO (cp c)) (by rfl) (by rfl)).trans e
inductive Sh(p:Nat):List PV→List PV→Prop
 |nil:Sh p [] []
 |d (om:Int) (oi:PV):Sh p [gX [68] om oi (.bytes [p]) 0 .none .none .none] [gX [68] om oi (.bytes [p]) 0 .none .none .none]
 |m (om:Int) (oi:PV) (nm:Int) (ni:PV):Sh p [gX [77] om oi (.bytes [p]) nm ni (.bytes [p]) .none] [gX [77] om oi (.bytes [p]) nm ni (.bytes [p]) .none]
 |b (om:Int) (oi:PV) (nm:Int) (ni:PV) (g:Int):Sh p [gX [68] om oi (.bytes [p]) 0 .none .none (.int g),gX [65] 0 .none .none nm ni (.bytes [p]) (.int g)] [gX [77] om oi (.bytes [p]) nm ni (.bytes [p]) (.int g)]
inductive MN(p:Nat):List PV→Prop
 |nil:MN p []
 |a (nm:Int) (ni:PV):MN p [gX [65] 0 .none .none nm ni (.bytes [p]) .none]
inductive yL where
 |nil
 |d (om:Int) (oi:PV)
 |m (om:Int) (oi:PV) (nm:Int) (ni:PV)
 |b (om:Int) (oi:PV) (nm:Int) (ni:PV) (g:Int)
noncomputable def yL.l(p:Nat):yL→List PV
 |.nil=>[]
 |.d om oi=>[gX [68] om oi (.bytes [p]) 0 .none .none .none]
 |.m om oi nm ni=>[gX [77] om oi (.bytes [p]) nm ni (.bytes [p]) .none]
 |.b om oi nm ni g=>[gX [68] om oi (.bytes [p]) 0 .none .none (.int g),gX [65] 0 .none .none nm ni (.bytes [p]) (.int g)]
noncomputable def yL.r(p:Nat):yL→List PV
 |.b om oi nm ni g=>[gX [77] om oi (.bytes [p]) nm ni (.bytes [p]) (.int g)]
 |x=>x.l p
theorem Sh.ex(h:Sh p A A'):∃ x:yL,A=x.l p∧A'=x.r p:=by
 cases h with
 |nil=>exact⟨.nil,rfl,rfl⟩
 |d om oi=>exact⟨.d om oi,rfl,rfl⟩
 |m om oi nm ni=>exact⟨.m om oi nm ni,rfl,rfl⟩
 |b om oi nm ni g=>exact⟨.b om oi nm ni g,rfl,rfl⟩
noncomputable def Ek:Option (Int×PV)→List PV
 |some (nm,ni)=>[gX [65] 0 .none .none nm ni (.bytes [99]) .none]
 |none=>[]
noncomputable def rjL(x y:yL)(z:Option (Int×PV))(ex:List SO):Option (SV×List SO):=EI [.pv (.lst (x.l 97++y.l 98++Ek z))] ex
noncomputable def rjR(x y:yL)(z:Option (Int×PV))(ex:List SO):Option (SV×List SO):=some (.pv (.lst (x.r 97++y.r 98++Ek z)),ex)
theorem aJN(x y:yL)(z:Option (Int×PV))(ex:List SO):rjL x y z ex=rjR x y z ex:=by
 cases x <;> cases y <;> cases z <;> kernel_rfl
theorem aJO(hA:Sh 97 A A')(hB:Sh 98 B B')(hC:MN 99 C)(ex:List SO):EI [.pv (.lst (A++B++C))] ex=some (.pv (.lst (A'++B'++C)),ex):=by
 obtain⟨x,rfl,rfl⟩:=hA.ex
 obtain⟨y,rfl,rfl⟩:=hB.ex
 obtain⟨z,rfl⟩:∃ z,C=Ek z:=by
  cases hC with
  |nil=>exact⟨none,rfl⟩
  |a nm ni=>exact⟨some (nm,ni),rfl⟩
 exact aJN x y z ex
noncomputable def dkB:PV→M Fl:=fun x=>bd (nT 1 x) fun _=>bl [(aZ 3 (b2 (b2 (b2 (b2 (aA 3) (kI 31) qJ) (aA 1) bM) (kI 1) bM) (kI 1000003) (bX mA)))]
noncomputable def HW(A:PV)(L:List Int)(o1:Option SV)(mx:Int):St:=⟨[some (.pv A),o1,some (.ref 1),some (.pv (.int mx))],[.dead,.list (L.map .int)]⟩
section
variable{nx:List SO→Nat→Option (Option PV)}{b:PV→M Fl}{n i:Nat}{st st₁:St}{y:PV}
theorem aFF(h:nx st.cells i=some none):mQ nx b (n+1) i st=some (.next,st):=by
 show(match nx st.cells i with | some (some y)=>Mine.fl (b y) (mQ nx b n (i+1)) st | some none=>some (.next,st) | none=>none)=_
 rw [h]
theorem aFG(h:nx st.cells i=some (some y))(hb:b y st=some (.next,st₁)):mQ nx b (n+1) i st=mQ nx b n (i+1) st₁:=by
 show(match nx st.cells i with | some (some y)=>Mine.fl (b y) (mQ nx b n (i+1)) st | some none=>some (.next,st) | none=>none)=_
 exact(h).symm▸aJ hb
end
theorem aEA(A:PV)(L r:List Int):∀(i fuel:Nat) (mx:Int) (o1:Option SV),L.drop i=r→r.length < fuel→∃ mx' o',Nv 1 fuel i dkB (HW A L o1 mx)=some (.next,HW A L o' mx'):=by
 induction r with
 |nil=>exact fun i fuel mx o1 h hf=>match fuel,hf with
  |fuel+1,_=>⟨mx,o1,aFF (congrArg some (by rw [TC];rw [bQ];exact List.drop_eq_nil_iff.mp h))⟩
 |cons x r ih=>exact fun i fuel mx o1 h hf=>match fuel,hf with
  |fuel+1,hf=>by
   obtain⟨mx',o',e⟩:=ih (i+1) fuel (((mx*31+x+1)).fmod 1000003) (some (.pv (.int x))) (by rw [←List.tail_drop,h];rfl) (Hm hf)
   have hx:L[i]? =some x:=by rw [←Nat.add_zero i,←LU,h];rfl
   exact⟨mx',o',(aFG (congrArg some (by rw [iR,hx];rfl)) (by kernel_rfl)).trans e⟩
theorem aEf(xs:List Int)(hx:xs.length≤63):∃ L:List Int,L.length≤24∧pP none (some 24) (xs.map PV.int)=L.map .int:=by
 refine⟨xs.take (clipAt xs.length 24),?_,?_⟩
 ·refine aP (List.length_take_le _ _) ?_
  exact Int.toNat_le.mpr (Int.max_le.mpr ⟨by decide,Int.min_le_left _ _⟩)
 ·unfold pP
  simp [LX]
inductive Zr(xs:List Int):Prop
 |mk (ys:List Int) (mx:Int) (hh0:ys.length≤24) (hh1:YM [.pv (.lst (xs.map .int))] []=some (.ref 2,[.dead,.list (ys.map .int),.sdict .str [.str [108,101,102,116],.str [109,105,120,101,100]] [.ref 1,.pv (.int mx)]]))
theorem aEp(xs:List Int)(hx:xs.length≤63):Zr xs:=by
 obtain⟨L,hL,eL⟩:=aEf xs hx
 let A:PV:=.lst (xs.map .int)
 let st0:St:=⟨[some (.pv A),none,none,none],[]⟩
 let st1:St:=⟨[some (.pv A),none,none,none],[.dead]⟩
 let f:PV→PV:=fun x=>match x with | .int v=>.int (v.fmod 1000003) | _=>.none
 let M:List Int:=L.map fun v=>v.fmod 1000003
 have hM:M.length≤24:=by rw [bQ];exact hL
 obtain⟨o',e⟩:=yX (g:=nT 1) (t:=rt true) (m:=(b2 (ge PB (aA 1)) (kI 1000003) (bX mA))) (fun o=>⟨[none,o,none],[.dead]⟩) (fun _=>true) f (L.map .int) (fun _ _=>rfl) (fun _ _=>rfl) (fun x hx _=>by
  obtain⟨v,_,rfl⟩:=List.mem_map.mp hx
  rfl) none
 have ef:((L.map PV.int).filter (fun _=>true)).map f=M.map .int:=by
  rw [List.filter_eq_self.mpr (fun _ _=>rfl),iT,iT]
  rfl
 rw [ef] at e
 obtain⟨mx,o1,el⟩:=aEA A M M 0 100 6363 none rfl (ul hM rfl)
 refine⟨M,mx,hM,?_⟩
 have es:(ge cC (pS (aA 0) (rt none) (pa (kI 24)))) st0=some (.pv (.lst (L.map .int)),st1):=by
  refine(eL)▸?_
  refine eU (a:=.ref 0) (st₁:=⟨[some (.pv A),none,none,none],[.list (pP none (some 24) (xs.map PV.int))]⟩) ?_ rfl
  show gd (decide ((xs.map PV.int).length≤1000000)) (fun st=>some (SV.ref st.cells.length,⟨st.loc,st.cells++[.list (pP none (some 24) (xs.map PV.int))]⟩)) st0=_
  rw [bQ,decide_eq_true (ub hx rfl:xs.length≤1000000)]
  rfl
 have ec:NK dK (ge cC (pS (aA 0) (rt none) (pa (kI 24)))) [none,none,none] (nT 1) (rt true) (b2 (ge PB (aA 1)) (kI 1000003) (bX mA)) st0=some (.ref 1,⟨[some (.pv A),none,none,none],[.dead,.list (M.map .int)]⟩):=
  Kw (st₂:=⟨[none,o',none],[.dead]⟩) es (xs:=L.map .int) rfl (by rw [bQ];exact ub hL rfl) e
 refine eJ (st:=⟨[some (.pv A),o1,some (.ref 1),some (.pv (.int mx))],[.dead,.list (M.map .int),.sdict .str [.str [108,101,102,116],.str [109,105,120,101,100]] [.ref 1,.pv (.int mx)]]⟩) (by rfl) ?_
 refine aO (st₁:=HW A M none 6363) ?_ (aO (st₁:=HW A M o1 mx) ?_ (eZ (fC (by rfl))))
 ·exact DM (u:=()) (as:=[.ref 1,.pv (.int 6363)]) (st₁:=⟨[some (.pv A),none,none,none],[.dead,.list (M.map .int)]⟩) (dJ ec (by rfl)) (by rfl)
 ·refine(aJ (a:=.ref 1) (st₁:=HW A M none 6363) ?_).trans ?_
  ·rfl
  ·exact el
section
set_option tactic.hygienic true
noncomputable def rf:Nat→PV→Bool
 |0,_=>false
 |n+1,x=>match x with
  |.none=>true
  |.bool _=>true
  |.int _=>true
  |.str _=>true
  |.bytes _=>true
  |.tup xs=>xs.all (rf n)
  |.lst xs=>xs.all (rf n)
  |_=>false
instance(v w:aT):Decidable (v=w):=decidable_of_iff (v.x=w.x∧v.z=w.z∧v.ns=w.ns) ⟨fun h=>by cases v;cases w;exact congr (congr (congrArg aT.mk h.1) h.2.1) h.2.2,fun h=>h▸⟨rfl,rfl,rfl⟩⟩
theorem Io{xs:List PV}(h:∀ x∈xs,f x x=some true):lU f xs xs=some true:=by
 induction xs with
 |nil=>rfl
 |cons x xs ih=>
  show(match f x x with | some a=>(match lU f xs xs with | some b=>some (a && b) | none=>none) | none=>none)=_
  rw [h x (.head _),ih fun y hy=>h y (.tail _ hy)];rfl
theorem NS:∀ {n:Nat} {x:PV},rf n x=true→iX n x x=some true
 |0,_,h=>by exact GD h
 |n+1,x,h=>by
  cases x <;> first | rfl | (cases h;done) | skip
  ·exact congrArg some (by simp)
  ·exact congrArg some (EB.mpr rfl)
  ·exact congrArg some (jI.mpr rfl)
  ·exact congrArg some (jI.mpr rfl)
  ·exact Io fun y hy=>NS (List.all_eq_true.mp h y hy)
  ·exact Io fun y hy=>NS (List.all_eq_true.mp h y hy)
theorem JP(h:rf 8 x=true)(st:St):oW (.pv x) (.pv x) st=some (false,st):=onSome_eq (NS h)
theorem aAR(d:Nat)(a:List (List Nat)):∀ b:List (List Nat),lU (iX (d+1)) (a.map .bytes) (b.map .bytes)=some (decide (a=b)):=by
 induction a with
 |nil=>exact fun b=>by cases b <;> rfl
 |cons x a ih=>
  intro b
  cases b with
  |nil=>rfl
  |cons y b=>
   show(match lU (iX (d+1)) (a.map .bytes) (b.map .bytes) with | some b=>some (eqL x y && b) | none=>none)=_
   refine(ih b).symm▸?_
   refine congrArg some ?_
   rw [qO,hJ,jI,decide_eq_true_iff,decide_eq_true_iff,SU]
theorem aHL(la:a.length=10)(lb:b.length=10)(h:bJ z a=bJ y b):z=y∧a=b:=Li la lb (by unfold ct;rw [h])
theorem XU(d:Nat)(hv:eI v)(hw:eI w):iX (d+4) (cT v) (cT w)=some (decide (v=w)):=by
 cases v with
 |none=>cases w <;> rfl
 |some v=>cases w with
  |none=>rfl
  |some w=>
   obtain⟨x,z,a⟩:=v
   obtain⟨y,u,b⟩:=w
   show(match (match lU (iX (d+1+1)) ((bJ z a).map .bytes) ((bJ u b).map .bytes) with | some a=>some (a && true) | none=>none) with | some b=>some (eqI (mo x) (mo y) && b) | none=>none)=_
   rw [aAR (d+1)]
   refine congrArg some ?_
   rw [qO,hJ,Bool.and_true,decide_eq_true_iff,decide_eq_true_iff,TR,show eqI (mo x) (mo y)=decide (x=y) by cases x <;> cases y <;> rfl,decide_eq_true_iff]
   exact⟨fun h=>let⟨a,b⟩:=aHL hv hw h.2;by cases h.1;cases a;subst b;rfl,fun h=>by cases h;exact⟨rfl,rfl⟩⟩
theorem LH(hg:Gd S){vo vn:Option aT}(ho:dZ S vo o)(hn:dZ S vn n):vo=vn↔o=n:=by
 cases vo <;> cases o <;> first | exact ho.elim | skip
 ·cases vn <;> cases n <;> first | exact hn.elim | simp
 ·cases vn <;> cases n <;> first | exact hn.elim | simp
  rename_i v o w n
  obtain⟨x,i⟩:=o
  obtain⟨y,j⟩:=n
  obtain⟨hx,hi⟩:=ho
  obtain⟨hy,hj⟩:=hn
  constructor
  ·rintro rfl
   have hlt:=(List.getElem?_eq_some_iff.mp hi).1
   have:i=j:=(He hlt hg.nodup).mp (hi.trans hj.symm)
   exact(hx).symm▸(hy).symm▸(this).symm▸rfl
  ·intro h
   cases h
   rw [hi] at hj
   cases v;cases w
   simp only at hx hy hj
   cases hj
   exact(hx)▸(hy)▸rfl
theorem BL:∀ {k n m:Nat},m∈fr k n→n < m∧m≤n+k
 |0,_,_,h=>by cases h
 |k+1,n,m,h=>by
  rcases List.mem_cons.mp h with rfl | h
  ·exact⟨xY n,oB (MC 1 k) n⟩
  ·exact⟨Nat.lt_of_succ_lt (BL h).1,aP (BL h).2 (dQ (vX n k))⟩
theorem IL:∀ {k n:Nat},(fr k n).Nodup
 |0,_=>pH
 |k+1,n=>List.nodup_cons.mpr ⟨fun h=>GR _ (BL h).1,IL⟩
theorem Rp:∀ {l:List Nat},l.Nodup→(l.map ln).Nodup
 | [],_=>pH
 |a::l,h=>by
  rw [iS,LZ]
  refine⟨fun hm=> ?_,Rp (List.nodup_cons.mp h).2⟩
  obtain⟨b,hb,e⟩:=List.mem_map.mp hm
  exact(List.nodup_cons.mp h).1 (Ro e▸hb)
theorem JF(h:l.Nodup):(bJ z l).Nodup:=by
 cases l with
 |nil=>exact pH
 |cons a l=>
  show(lW z a::l.map ln).Nodup
  rw [LZ]
  refine⟨fun hm=> ?_,Rp (List.nodup_cons.mp h).2⟩
  obtain⟨b,hb,e⟩:=List.mem_map.mp hm
  have:=Rt (z':=false) e.symm
  exact(List.nodup_cons.mp h).1 (this.2▸hb)
theorem Bb(h:∀ m∈l,m < 100):∀ x∈bJ z l,vZ x:=by
 cases l with
 |nil=>intro x hx;cases hx
 |cons a l=>
  intro x hx
  rcases List.mem_cons.mp hx with rfl | hx
  ·exact⟨z,a,h a (uP ..),rfl⟩
  ·obtain⟨b,hb,rfl⟩:=List.mem_map.mp hx
   exact⟨false,b,h b (sF _ hb),rfl⟩
structure Wf(n:Nat)(v:aT):Prop where
 len:v.ns.length=10
 nd:v.ns.Nodup
 le:∀ m∈v.ns,m≤n
theorem Wf.mono(h:Wf n v)(hn:n≤n'):Wf n' v:=⟨h.len,h.nd,fun m hm=>aP (h.le m hm) hn⟩
theorem ZE:Wf (n+10) (fV z n):=⟨wX,IL,fun _ hm=>(BL hm).2⟩
theorem aIE(h:Wf n v):(bJ v.z v.ns++(fr k n).map ln).Nodup:=by
 obtain⟨x,z,ns⟩:=v
 have hn:(ns++fr k n).Nodup:=List.nodup_append.mpr ⟨h.nd,IL,fun a ha b hb e=>Nat.not_lt.mpr (aP (dQ e.symm) (h.le a ha)) (BL hb).1⟩
 cases ns with
 |nil=>cases h.len
 |cons a l=>
  have:bJ z (a::l)++(fr k n).map ln=bJ z (a::(l++fr k n)):=by
   show lW z a::l.map ln++(fr k n).map ln=lW z a::(l++fr k n).map ln
   rw [cU];rfl
  rw [this]
  exact JF hn
noncomputable def vQ(n:Nat)(v:Option aT):Prop:=match v with
 |some v=>Wf n v
 |none=>True
theorem sN.wf(h:sN v n r n')(hv:Wf n v):vQ n' r∧Rv (some v) r∧n≤n':=by
 cases h with
 |gone=>exact⟨trivial,.del v hv.len (JF hv.nd),cX _⟩
 |flip=>
  refine⟨⟨hv.len,hv.nd,hv.le⟩,.cut v _ 0 [] hv.len hv.len (jP _) rfl (by rw [gK];exact JF hv.nd) ?_,cX _⟩
  rw [gK,Hj (by rw [sU,hv.len];exact cX _)]
 |cut k hk=>
  have hl:(wR v k n).ns.length=10:=by
   show(v.ns.take (10 - k)++fr k n).length=10
   rw [fE,CU,wX,hv.len,MD (Nat.sub_le ..),Hn hk]
  refine⟨⟨hl,?_,fun m hm=> ?_⟩,.cut v _ k ((fr k n).map ln) hv.len hl hk (by rw [bQ,wX]) (aIE hv) (Lm hv.len hk),oD n k⟩
  ·refine List.nodup_append.mpr ⟨hv.nd.sublist (List.take_sublist _ _),IL,fun a ha b hb e=> ?_⟩
   exact Nat.not_lt.mpr (aP (dQ e.symm) (hv.le a (TJ ha))) (BL hb).1
  ·rcases List.mem_append.mp hm with hm | hm
   ·exact aP (hv.le m (TJ hm)) (oD n k)
   ·exact(BL hm).2
theorem yM.wf(h:yM n r n'):vQ n' r∧(r=none∨Rv none r)∧n≤n':=by
 cases h with
 |no=>exact⟨trivial,.inl rfl,cX _⟩
 |mk z=>exact⟨ZE,.inr (.add _ wX (JF IL)),oD _ 10⟩
theorem mU(h:vQ n v):eI v:=by
 cases v with
 |none=>trivial
 |some v=>exact Wf.len h
theorem LI(h:vQ n v)(hn:n < 100)(k:dZ S v o):rS S o:=by
 cases v with
 |none=>cases o with
  |none=>trivial
  |some o=>exact k.elim
 |some v=>cases o with
  |none=>exact k.elim
  |some o=>exact⟨v.z,v.ns,k.2,Wf.len h,Bb fun m hm=>sH (Wf.le h m hm) hn,JF (Wf.nd h)⟩
end
noncomputable def gv(a b c:Option aT)(p:Nat):Option aT:=match p with
 |97=>a
 |98=>b
 |_=>c
noncomputable def oT(p:Nat):Prop:=p=97∨p=98∨p=99
theorem aMk(a b c:Option aT)(hp:oT p)(st:St):dX (.pv (cQ a b c)) (.pv (.bytes [p])) st=some (.pv (cT (gv a b c p)),st):=by
 rcases hp with rfl | rfl | rfl <;> cases a <;> cases b <;> cases c <;> rfl
theorem IQ(hp:oT p)(h:m₀ st=some (.pv (cQ a b c),st))(h':m₁ st=some (.pv (.bytes [p]),st)):bK cV dX m₀ m₁ st=some (.pv (cT (gv a b c p)),st):=
 (qI h rfl h').trans (aMk a b c hp st)
theorem KU(a b c:Option aT)(hp:oT p)(h:gv a b c p=some v)(st:St):aV (.pv (cQ a b c)) (.pv (.bytes [p])) st=some (.pv (vp v),st):=by
 rcases hp with rfl | rfl | rfl
 ·have h:a=some v:=h
  subst h
  cases b <;> cases c <;> kernel_rfl
 ·have h:b=some v:=h
  subst h
  cases a <;> cases c <;> kernel_rfl
 ·have h:c=some v:=h
  subst h
  cases a <;> cases b <;> kernel_rfl
noncomputable def lw(cs:List SO)(v0 v1 v2 v3 v4 v5 v6 v7 v8 v9 v10 v11 v12 v13 v14 v15 v16 v17 v18 v19 v20:Option SV):St:=⟨[v0,v1,v2,v3,v4,v5,v6,v7,v8,v9,v10,v11,v12,v13,v14,v15,v16,v17,v18,v19,v20,none,none,none,none,none,none,none,none,none,none,none,none,none,none,none,none,none],cs⟩
noncomputable def mD(a b c:Option aT):List PV:=(pA a b c).map fun e=>.tup [.bytes [e.1],vp e.2]
noncomputable def gk(o:Option (List PV×List PV)):SO:=match o with
 |some (ks,vs)=>.dict .bytes ks vs
 |none=>.dead
noncomputable def uL(q:Bool):List PV:=match q with
 |true=>[.bytes [97],.bytes [98],.bytes [99]]
 |false=>[.bytes [97],.bytes [98]]
noncomputable def g1(I J:List PV):List SO:=[.list I,.list J,.list (I++J),gk (jV .bytes (I++J) [] []),.dead]
noncomputable def uE1:M SV:=(ge cC (ge nP (ge (yY .bytes) (b2 (ge qG (mR cV qF (aA 3))) (ge qG (mR cV qF (aA 4))) bM))))
noncomputable def uE2:M SV:=(ge cC (ge nP (ge (yY .bytes) (b2 (b2 (ge qG (mR cV qF (aA 3))) (ge qG (mR cV qF (aA 4))) bM) (ge qG (mR cV qF (aA 17))) bM))))
noncomputable def g2(I J K:List PV):List SO:=[.list I,.list J,.list (I++J),.list K,.list (I++J++K),gk (jV .bytes (I++J++K) [] []),.dead]
theorem aJE(l:List (Nat×aT))(h:∀ e∈l,oT e.1):∀ q vs,∃ vs',jV .bytes (l.map fun e=>.tup [.bytes [e.1],vp e.2]) (uL q) vs=some (uL (q || l.any fun e=>bR e.1 99),vs'):=by
 induction l with
 |nil=>exact fun q vs=>⟨vs,by rw [show(q || ([]:List (Nat×aT)).any fun e=>bR e.1 99)=q from Bool.or_false q];rfl⟩
 |cons e l ih=>
  intro q vs
  obtain⟨p,v⟩:=e
  have ih:=ih fun e he=>h e (.tail _ he)
  have hp:(dY (uL q) vs (.bytes [p]) (vp v)).1=uL (q || bR p 99):=by
   rcases(h _ (.head _):oT p) with rfl | rfl | rfl <;> cases q <;> rfl
  obtain⟨vs',e⟩:=ih (q || bR p 99) (dY (uL q) vs (.bytes [p]) (vp v)).2
  rw [←hp] at e
  refine⟨vs',e.trans ?_⟩
  rw [Bool.or_assoc];rfl
theorem Em(h:e∈FQ p v):e.1=p:=by
 cases v with
 |none=>cases h
 |some v=>cases List.mem_singleton.mp h;rfl
theorem Eo(a b c:Option aT):(∀ e∈pA a b c,oT e.1)∧((pA a b c).any fun e=>bR e.1 99)=c.isSome:=by
 refine⟨fun e h=> ?_,by cases a <;> cases b <;> cases c <;> rfl⟩
 rcases List.mem_append.mp h with h | h
 ·exact(List.mem_append.mp h).elim (fun h=>.inl (Em h)) fun h=>.inr (.inl (Em h))
 ·exact .inr (.inr (Em h))
theorem Uk(va vb:aT)(l:List (Nat×aT))(h:∀ e∈l,oT e.1):∃ vs',jV .bytes (mD (some va) (some vb) none++l.map fun e=>.tup [.bytes [e.1],vp e.2]) [] []=some (uL (l.any fun e=>bR e.1 99),vs'):=
 aJE l h false [vp va,vp vb]
section
variable{loc:List (Option SV)}{cs:List SO}
theorem Ag(h:loc[i]? =some (some (.pv (cQ a b c)))):ge qG (mR cV qF (aA i)) ⟨loc,cs⟩=some (.ref cs.length,⟨loc,cs++[.list (mD a b c)]⟩):=by
 refine(BM ((aIg (a:=.pv (cQ a b c)) (st₁:=⟨loc,cs⟩) ?_ rfl).trans rfl)).trans ?_
 ·unfold aA;dsimp only;rw [h]
 ·cases a <;> cases b <;> cases c <;> rfl
theorem aAL{xs ys:List PV}(h:cs[i]? =some (.list xs))(h':cs[j]? =some (.list ys))(hl:xs.length+ys.length≤1000000):bM (.ref i) (.ref j) ⟨loc,cs⟩=some (.ref cs.length,⟨loc,cs++[.list (xs++ys)]⟩):=by
 have l1:lZ ⟨loc,cs⟩ (.ref i)=some xs:=by unfold lZ;dsimp only;rw [h]
 have l2:lZ ⟨loc,cs⟩ (.ref j)=some ys:=by unfold lZ;dsimp only;rw [h']
 show iD (.ref i) (fun l=>iD (.ref j) (fun m=>dM (l.length+m.length) fun st=>some (SV.ref st.cells.length,⟨st.loc,st.cells++[.list (l++m)]⟩)) er) er ⟨loc,cs⟩=_
 unfold iD
 rw [l1]
 show(match lZ ⟨loc,cs⟩ (.ref j) with | some m=>_ | none=>_)=_
 rw [l2]
 show dM (xs.length+ys.length) _ _=_
 unfold dM
 rw [decide_eq_true hl];rfl
theorem aEt{xs ks vs:List PV}(h:cs[j]? =some (.list xs))(hl:xs.length≤1000000)(e:jV .bytes xs [] []=some (ks,vs)):yY .bytes (.ref j) ⟨loc,cs⟩=some (.ref cs.length,⟨loc,cs++[gk (jV .bytes xs [] [])]⟩):=by
 unfold yY iD
 rw [show lZ ⟨loc,cs⟩ (.ref j)=some xs by unfold lZ;dsimp only;rw [h]]
 show gd (true && decide (xs.length≤1000000)) (eW (jV .bytes xs [] []) _) _=_
 rw [decide_eq_true hl,e];rfl
theorem aOD(h:cs[j]? =some (.dict .bytes (uL q) vs)):nP (.ref j) ⟨loc,cs⟩=some (.ref cs.length,⟨loc,cs++[.list (uL q)]⟩):=by
 unfold nP KA iD
 rw [show lZ ⟨loc,cs⟩ (.ref j)=none by unfold lZ;dsimp only;rw [h]]
 show kF (.ref j) _ er _=_
 unfold kF
 rw [NP h]
 cases q <;> kernel_rfl
theorem Oi:(cs++[x]++[y])[cs.length]? =some x:=by
 rw [gJ,CT (cX _),GV];rfl
theorem zV(a b c:Option aT):(mD a b c).length≤3:=by
 cases a <;> cases b <;> cases c <;> exact bT rfl
noncomputable def jn(cs:List SO)(I J:List PV):List SO:=cs++[.list I]++[.list J]++[.list (I++J)]
theorem Qm(h₁:m₁ ⟨loc,cs⟩=some (.ref i,⟨loc,ds⟩))(h₂:∀ ds,m₂ ⟨loc,ds⟩=some (.ref ds.length,⟨loc,ds++[.list J]⟩))(g:(ds++[SO.list J])[i]? =some (.list I))(hl:I.length+J.length≤1000000):b2 m₁ m₂ bM ⟨loc,cs⟩=some (.ref (ds++[SO.list J]).length,⟨loc,ds++[.list J]++[.list (I++J)]⟩):=
 (uZ h₁ (h₂ ds)).trans (aAL g zG hl)
theorem Rb(h:m ⟨loc,cs⟩=some (.ref ds.length,⟨loc,ds++[.list X]⟩))(hl:X.length≤1000000)(e:jV .bytes X [] []=some (uL q,vs)):ge cC (ge nP (ge (yY .bytes) m)) ⟨loc,cs⟩=some (.pv (.lst (uL q)),⟨loc,ds++[.list X]++[gk (jV .bytes X [] [])]++[.dead]⟩):=
 eU (eU (eU h (aEt zG hl e)) (aOD (by rw [e];exact zG))) OR
section
variable{va vb:aT}{a b c a' b' c':Option aT}(h3:loc[3]? =some (some (.pv (cQ (some va) (some vb) none))))(h4:loc[4]? =some (some (.pv (cQ a b c))))
include h3 h4
theorem Yi:b2 (ge qG (mR cV qF (aA 3))) (ge qG (mR cV qF (aA 4))) bM ⟨loc,cs⟩=some (.ref (cs++[SO.list (mD (some va) (some vb) none)]++[SO.list (mD a b c)]).length,⟨loc,jn cs (mD (some va) (some vb) none) (mD a b c)⟩):=
 Qm (Ag h3) (fun _=>Ag h4) Oi (aP (mK (zV ..) (zV ..)) (by decide))
theorem aPC:uE1 ⟨loc,cs⟩=some (.pv (.lst (uL c.isSome)),⟨loc,cs++g1 (mD (some va) (some vb) none) (mD a b c)⟩):=by
 obtain⟨hP,hq⟩:=Eo a b c
 obtain⟨vs,e⟩:=Uk va vb (pA a b c) hP
 rw [hq] at e
 refine(Rb (Yi h3 h4) ?_ e).trans ?_
 ·rw [fE];exact aP (mK (zV ..) (zV ..)) (by decide)
 ·rw [gJ,gJ,gJ,gJ];rfl
theorem aPD(h17:loc[17]? =some (some (.pv (cQ a' b' c')))):uE2 ⟨loc,cs⟩=some (.pv (.lst (uL (c.isSome || c'.isSome))),⟨loc,cs++g2 (mD (some va) (some vb) none) (mD a b c) (mD a' b' c')⟩):=by
 obtain⟨hP,hq⟩:=Eo a b c
 obtain⟨hP',hq'⟩:=Eo a' b' c'
 obtain⟨vs,e⟩:=Uk va vb (pA a b c++pA a' b' c') fun e h=>(List.mem_append.mp h).elim (hP e) (hP' e)
 rw [List.any_append,hq,hq',cU,←gJ] at e
 have hl:(mD (some va) (some vb) none++mD a b c).length≤6:=FC (zV ..) (zV ..)
 refine(Rb (Qm (Yi h3 h4) (fun _=>Ag h17) Oi (aP (mK hl (zV ..)) (by decide))) (aP (FC hl (zV ..)) (by decide)) e).trans ?_
 unfold jn
 rw [gJ,gJ,gJ,gJ,gJ,gJ];rfl
end
end
noncomputable def sX(p:Nat)(o n:OE)(vo vn:Option aT):List Pc:=(dC p o n).map fun _=>⟨p,o,n,vo,vn,cF (lv vo) (lv vn),cF (lv vn) (lv vo)⟩
theorem Cz(p:Nat)(o n:OE)(vo vn:Option aT):(sX p o n vo vn).map Pc.ch=dC p o n:=by
 unfold sX dC
 cases decide (o=n) <;> rfl
noncomputable def xF(c:Pc):PV:=.tup [.bytes [c.p],mB (bz c.vo || bz c.vn) c.t,mB (bz c.vo || bz c.vn) c.u]
theorem Vj(b:Bool)(t:Int):rf 6 (mB b t)=true:=by cases b <;> rfl
theorem aKH(c:Pc):rf 7 (xF c)=true:=by
 show(true && (rf 6 (mB (bz c.vo || bz c.vn) c.t) && (rf 6 (mB (bz c.vo || bz c.vn) c.u) && true)))=true
 rw [Vj,Vj]
 rfl
theorem FN{l:List PV}(h:∀ x∈l,rf 7 x=true):rf 8 (.lst l)=true:=List.all_eq_true.mpr h
theorem aGs{src:M SV}{st:St}{cs:List Pc}(hs:src st=some (.pv (.lst (cs.map Pc.nu)),st))(hl:cs.length≤10):eG dK src [none,none] (nT 1) (rt true) (aY (ar [(ge a_path (aA 1)),(ge VZ (aA 1)),(ge WB (aA 1))]) cM) st=some (.pv (.lst (cs.map xF)),st):=by
 let f:PV→PV:=fun x=>match x with | .obj 8 l=>.tup l | _=>.none
 obtain⟨o',e⟩:=yX (g:=nT 1) (t:=rt true) (m:=(aY (ar [(ge a_path (aA 1)),(ge VZ (aA 1)),(ge WB (aA 1))]) cM)) (fun o=>⟨[none,o],st.cells⟩) (fun _=>true) f (cs.map Pc.nu) (fun _ _=>rfl) (fun _ _=>rfl) (fun x hx _=>by
  obtain⟨c,_,rfl⟩:=List.mem_map.mp hx
  rfl) none
 have ef:((cs.map Pc.nu).filter (fun _=>true)).map f=cs.map xF:=by
  rw [List.filter_eq_self.mpr (fun _ _=>rfl),iT]
  rfl
 rw [ef] at e
 exact tX (st₂:=⟨[none,o'],st.cells⟩) (xs:=cs.map Pc.nu) hs rfl (by rw [bQ];exact ub hl rfl) e
noncomputable def fW(x:PV):Nat:=match x with
 |.bytes [p]=>p
 |_=>0
theorem aFm{a b c a' b' c':Option aT}{st:St}{xs:List PV}(hs:aA 11 st=some (.pv (.lst xs),st))(hl:xs.length≤10)(hx:∀ x∈xs,∃ p,oT p∧x= .bytes [p])
  (hcap:pO [none,none,none,some 4,some 3] st.loc= [none,none,none,some (.pv (cQ a' b' c')),some (.pv (cQ a b c))]) (h1:∀ p,oT p→eI (gv a b c p)) (h2:∀ p,oT p→eI (gv a' b' c' p)):
  eG dK (aA 11) [none,none,none,some 4,some 3] (nT 1) (t2 (bK cV dX (aA 4) (aA 1)) (bK cV dX (aA 3) (aA 1)) oW) (b2 (aY (ar [(aA 1)]) cM) (cf IF (ar [(bK cV dX (aA 4) (aA 1)),(bK cV dX (aA 3) (aA 1))])) bM) st=
   some (.pv (.lst ((xs.filter fun x=> !decide (gv a b c (fW x)=gv a' b' c' (fW x))).map fun x=>.tup [.bytes [fW x],mB (bz (gv a b c (fW x)) || bz (gv a' b' c' (fW x))) (cF (lv (gv a b c (fW x))) (lv (gv a' b' c' (fW x)))),mB (bz (gv a b c (fW x)) || bz (gv a' b' c' (fW x))) (cF (lv (gv a' b' c' (fW x))) (lv (gv a b c (fW x))))])),st):=by
 let F:Option SV→St:=fun o=>⟨[none,o,none,some (.pv (cQ a' b' c')),some (.pv (cQ a b c))],st.cells⟩
 have g4:∀ {p},oT p→bK cV dX (aA 4) (aA 1) (F (some (.pv (.bytes [p]))))=some (.pv (cT (gv a b c p)),F (some (.pv (.bytes [p])))):=fun {p} hp=>IQ hp rfl rfl
 have g3:∀ {p},oT p→bK cV dX (aA 3) (aA 1) (F (some (.pv (.bytes [p]))))=some (.pv (cT (gv a' b' c' p)),F (some (.pv (.bytes [p])))):=fun {p} hp=>IQ hp rfl rfl
 obtain⟨o',e⟩:=yX (g:=nT 1) (t:=(t2 (bK cV dX (aA 4) (aA 1)) (bK cV dX (aA 3) (aA 1)) oW)) (m:=(b2 (aY (ar [(aA 1)]) cM) (cf IF (ar [(bK cV dX (aA 4) (aA 1)),(bK cV dX (aA 3) (aA 1))])) bM)) F (fun x=> !decide (gv a b c (fW x)=gv a' b' c' (fW x))) (fun x=>.tup [.bytes [fW x],mB (bz (gv a b c (fW x)) || bz (gv a' b' c' (fW x))) (cF (lv (gv a b c (fW x))) (lv (gv a' b' c' (fW x)))),mB (bz (gv a b c (fW x)) || bz (gv a' b' c' (fW x))) (cF (lv (gv a' b' c' (fW x))) (lv (gv a b c (fW x))))]) xs (fun _ _=>rfl) (fun x hm=>by
  obtain⟨p,hp,rfl⟩:=hx x hm
  refine(jL (g4 hp) (g3 hp)).trans ?_
  exact onSome_eq (XU 4 (h1 p hp) (h2 p hp))) (fun x hm _=>by
  obtain⟨p,hp,rfl⟩:=hx x hm
  refine jG (a:=.pv (.tup [.bytes [p]])) (b:=.pv (.tup [mB (bz (gv a b c p) || bz (gv a' b' c' p)) (cF (lv (gv a b c p)) (lv (gv a' b' c' p))),mB (bz (gv a b c p) || bz (gv a' b' c' p)) (cF (lv (gv a' b' c' p)) (lv (gv a b c p)))])) (by rfl) ?_ (by rfl)
  exact lF (dJ (g4 hp) (g3 hp)) (aHM _ _ (h1 p hp) (h2 p hp) _)) none
 exact tX (st₂:=F o') (xs:=xs) hs rfl (ub hl rfl) (by rw [hcap];exact e)
theorem aPB{b:Bool}:∀ x∈uL b,∃ p,oT p∧x= .bytes [p]:=by
 intro x hx
 cases b with
 |true=>
  have:x= .bytes [97]∨x= .bytes [98]∨x= .bytes [99]:=by simpa [uL] using hx
  rcases this with rfl | rfl | rfl
  ·exact⟨97,.inl rfl,rfl⟩
  ·exact⟨98,.inr (.inl rfl),rfl⟩
  ·exact⟨99,.inr (.inr rfl),rfl⟩
 |false=>
  have:x= .bytes [97]∨x= .bytes [98]:=by simpa [uL] using hx
  rcases this with rfl | rfl
  ·exact⟨97,.inl rfl,rfl⟩
  ·exact⟨98,.inr (.inl rfl),rfl⟩
noncomputable def QJ{β:Type}(q:PV→Bool)(f:PV→β)(p:Nat):List β:=match q (.bytes [p]) with
 |true=>[f (.bytes [p])]
 |false=>[]
theorem aPA{β:Type}(b:Bool)(q:PV→Bool)(f:PV→β):((uL b).filter q).map f=QJ q f 97++QJ q f 98++(match b with | true=>QJ q f 99 | false=>[]):=by
 unfold QJ uL
 cases b <;> cases h1:q (.bytes [97]) <;> cases h2:q (.bytes [98]) <;> cases h3:q (.bytes [99]) <;> simp [h1,h2,h3]
theorem Dd{p:Nat}{o n:OE}{vo vn:Option aT}(h:vo=vn↔o=n):(match !decide (vo=vn) with | true=>[PV.tup [.bytes [p],mB (bz vo || bz vn) (cF (lv vo) (lv vn)),mB (bz vo || bz vn) (cF (lv vn) (lv vo))]] | false=>[])=(sX p o n vo vn).map xF:=by
 unfold sX dC
 rw [decide_eq_decide.mpr h]
 cases decide (o=n) <;> rfl
theorem aFn{va vb:aT}{a b c:Option aT}{oa ob oa' ob' oc':OE}(ha:some va=a↔oa=oa')(hb:some vb=b↔ob=ob')(hc:none=c↔none=oc'):
  ((uL c.isSome).filter fun x=> !decide (gv (some va) (some vb) none (fW x)=gv a b c (fW x))).map (fun x=>PV.tup [.bytes [fW x],mB (bz (gv (some va) (some vb) none (fW x)) || bz (gv a b c (fW x))) (cF (lv (gv (some va) (some vb) none (fW x))) (lv (gv a b c (fW x)))),mB (bz (gv (some va) (some vb) none (fW x)) || bz (gv a b c (fW x))) (cF (lv (gv a b c (fW x))) (lv (gv (some va) (some vb) none (fW x))))])=
   (sX 97 oa oa' (some va) a++sX 98 ob ob' (some vb) b++sX 99 none oc' none c).map xF:=by
 rw [cU,cU,←Dd ha,←Dd hb,←Dd hc,aPA]
 cases c with
 |none=>rfl
 |some c=>rfl
noncomputable def pk(c:Ch):PV:=.bytes [c.1]
noncomputable def dO(D:List Ch):SO:=.dict .bytes (D.map pk) (D.map cp)
noncomputable def dI(D:List Ch):PV:=.dct .bytes (D.map pk) (D.map cp)
noncomputable def pe(p:Nat):PV:=.bytes [p]
theorem aJs(p q:Nat):iZ (pe p) (pe q)=true↔p=q:=by
 show eqL [p] [q]=true↔_
 rw [jI]
 simp
theorem aJw(D:List Ch):D.map pk=(D.map (·.1)).map pe:=by rw [iT];rfl
noncomputable def cb(i k j:Nat)(cs:List SO)(v3 v4 v5 v6 v7 v8 v9:Option SV):St:=⟨[some (.ref 5),some (.pv (.lst [aN i,aN k])),some (.pv (aN j)),v3,v4,v5,v6,v7,v8,v9,none,none,none,none],cs⟩
noncomputable def inB:PV→M Fl:=fun x=>bd (nT 6 x) fun _=>bl [(gB fQ (aA 6) (aA 5) (ge a_path (aA 6)))]
section
variable{i k j:Nat}{v3 v4 v5 v7 v8 v9:Option SV}
theorem Py(pre:List SO):∀(D D':List Ch) (v6:Option SV),(∀ c∈D,one c.2.1 c.2.2)→((D'++D).map (·.1)).Nodup→(D'++D).length≤10→
  ∃ q6,fJ (D.map cp) inB (cb i k j (pre++[dO D']) v3 v4 (some (.ref pre.length)) v6 v7 v8 v9)=some (.next,cb i k j (pre++[dO (D'++D)]) v3 v4 (some (.ref pre.length)) q6 v7 v8 v9)
 | [],D',v6,_,_,_=>⟨v6,by rw [gK];rfl⟩
 |c::D,D',v6,h,hn,hl=>by
  have hc:=h c (uP ..)
  obtain⟨q6,e⟩:=Py pre D (D'++[c]) (some (.pv (cp c))) (fun x hx=>h x (sF _ hx)) (by simpa using hn) (by simpa using hl)
  refine⟨q6,?_⟩
  rw [iS]
  refine(gL (st₁:=cb i k j (pre++[dO (D'++[c])]) v3 v4 (some (.ref pre.length)) (some (.pv (cp c))) v7 v8 v9) ?_).trans (by rw [gJ] at e;exact e)
  let st:St:=cb i k j (pre++[dO D']) v3 v4 (some (.ref pre.length)) (some (.pv (cp c))) v7 v8 v9
  refine(aJ (a:=()) (st₁:=st) (by rfl)).trans (cW ?_)
  have hg:st.cells[pre.length]? =some (dO D'):=by
   show(pre++[dO D'])[pre.length]? =_
   simp
  refine tW (c:=.pv (cp c)) (a:=.ref pre.length) (b:=.pv (.bytes [c.1])) (st₁:=st) (u:=()) (by rfl) ?_ (by rfl) (eU (a:=.pv (cp c)) (by rfl) (NL c.1 c.2.1 c.2.2 hc st).2.2.2.2)
  have hnot:dhas (D'.map pk) (.bytes [c.1])=false:=by
   rw [aJw]
   refine EN aJs (k:=c.1) fun hm=> ?_
   rw [cU,iS] at hn
   exact(List.nodup_append.mp hn).2.2 _ hm _ (uP ..) rfl
  refine(QV (k:=[c.1]) (ks:=D'.map pk) (vs:=D'.map cp) (j:=pre.length) hg (by rw [bQ];exact ub (aP (List.sublist_append_left ..).length_le hl) rfl) hnot).trans ?_
  have hs:fD st pre.length (.dict .bytes (D'.map pk++[.bytes [c.1]]) (D'.map cp++[cp c]))=cb i k j (pre++[dO (D'++[c])]) v3 v4 (some (.ref pre.length)) (some (.pv (cp c))) v7 v8 v9:=by
   unfold fD dO
   have:st.cells.set pre.length (.dict .bytes (D'.map pk++[.bytes [c.1]]) (D'.map cp++[cp c]))=pre++[.dict .bytes ((D'++[c]).map pk) ((D'++[c]).map cp)]:=by
    show(pre++[dO D']).set pre.length _=_
    rw [MA _ _ (cX _),cU,cU]
    simp [pk]
   rw [this]
   rfl
  rw [hs]
end
noncomputable def aJk:PV→M Fl:=fun x=>bd (nT 4 x) fun _=>bl [(aZ 5 (uF .bytes)),
 (fo (cf ED (ar [(aA 0),(aA 4),(aA 2)])) (nT 6) (bl [(gB fQ (aA 6) (aA 5) (ge a_path (aA 6)))])),
 (ex (bK cR dD (aA 3) (ge cC (aA 5))))]
theorem WZ(p:Nat)(o n:OE):(dC p o n).map (·.1)= []∨(dC p o n).map (·.1)= [p]:=by
 rcases rC p o n with⟨_,e⟩ | ⟨_,_,e⟩ <;> rw [e]
 ·exact .inl rfl
 ·exact .inr rfl
theorem aEv(a b c a' b' c':OE):((dif a b c a' b' c').map (·.1)).Nodup:=by
 unfold dif
 rw [cU,cU]
 rcases WZ 97 a a' with e | e <;> rcases WZ 98 b b' with f | f <;> rcases WZ 99 c c' with g | g <;> rw [e,f,g] <;> decide
theorem Lv(a b c a' b' c':OE):∀ k∈dif a b c a' b' c',one k.2.1 k.2.2:=by
 intro k hk
 unfold dif at hk
 rw [uO,uO] at hk
 have go:∀ {p o n},k∈dC p o n→one k.2.1 k.2.2:=fun {p o n} hk=>by
  rcases rC p o n with⟨_,e⟩ | ⟨h,_,e⟩ <;> rw [e] at hk
  ·exact(nomatch hk)
  ·exact(List.mem_singleton.mp hk).symm▸h
 rcases hk with(hk | hk) | hk <;> exact go hk
inductive aAa(ω:Dk)(S:List It)(i:Nat)(k:Nat)(j:Nat)(t:Nat)(a:OE)(b:OE)(c:OE)(a':OE)(b':OE)(c':OE)(g:List SO)(R:List PV)(v4:Option SV)(v5:Option SV)(v6:Option SV):Prop
 |mk (q4:_) (q5:_) (q6:_) (hh0:aJk (aN t) (cb i k j (sS ω S++.list R::g) (some (.ref 8)) v4 v5 v6 none none none)=some (.next,cb i k j (sS ω S++.list (R++[dI (dif a b c a' b' c')])::(g++[.dead])) (some (.ref 8)) q4 q5 q6 none none none))
theorem Tz(ω:Dk)(S:List It){i k j t:Nat}{a b c a' b' c':OE}(hi:S[t]? =some (.tree (eS a b c)))(hj:S[j]? =some (.tree (eS a' b' c'))){g:List SO}(hg:g= []∨g= [.dead])(R:List PV)(hR:R.length≤2)(v4 v5 v6:Option SV):aAa ω S i k j t a b c a' b' c' g R v4 v5 v6:=by
 let pre:List SO:=sS ω S++.list R::g
 obtain⟨q6,e⟩:=Py (i:=i) (k:=k) (j:=j) (v3:=some (.ref 8)) (v4:=some (.pv (aN t))) (v7:=none) (v8:=none) (v9:=none) pre (dif a b c a' b' c') [] v6 (Lv a b c a' b' c') (aEv a b c a' b' c') (aP (DY a b c a' b' c') (bT rfl))
 rw [oA] at e
 refine⟨some (.pv (aN t)),some (.ref pre.length),q6,?_⟩
 have ed:=Lw ω S hi hj (.list R::g++[dO []])
 generalize dif a b c a' b' c'=D at e ed ⊢
 refine(aJ (a:=()) (st₁:=cb i k j pre (some (.ref 8)) (some (.pv (aN t))) v5 v6 none none none) (by rfl)).trans ?_
 refine aO (st₁:=cb i k j (pre++[dO []]) (some (.ref 8)) (some (.pv (aN t))) (some (.ref pre.length)) v6 none none none) (by rfl) (aO (st₁:=cb i k j (pre++[dO D]) (some (.ref 8)) (some (.pv (aN t))) (some (.ref pre.length)) q6 none none none) ?_ (cW ?_))
 ·have ed':ED [.ref 5,.pv (aN t),.pv (aN j)] (pre++[dO []])=some (.pv (.lst (D.map cp)),pre++[dO []]):=by
   have:pre++[dO []]=sS ω S++(.list R::g++[dO []]):=gJ ..
   refine(this).symm▸?_
   exact ed
  exact(mP (a:=.pv (.lst (D.map cp))) (st₁:=cb i k j (pre++[dO []]) (some (.ref 8)) (some (.pv (aN t))) (some (.ref pre.length)) v6 none none none) (xs:=D.map cp) (lF (as:=[.ref 5,.pv (aN t),.pv (aN j)]) (by rfl) ed') (by rfl)).trans e
 ·refine sO (v:=.pv .none) ((qI (u:=()) (a:=.ref 8) (b:=.pv (dI D)) (st₃:=cb i k j (pre++[.dead]) (some (.ref 8)) (some (.pv (aN t))) (some (.ref pre.length)) q6 none none none) (by rfl) (by rfl) ?_).trans ((yR (j:=8) (xs:=R) (by rfl) (ub hR rfl)).trans ?_))
  ·rcases hg with rfl | rfl <;> rfl
  ·rcases hg with rfl | rfl <;> rfl
noncomputable def fU(o:OE):PV:=.tup [.int (rR o),rL o]
noncomputable def yV(p:Nat)(o u n:OE):PV:=.obj 7 [.bytes [p],.lst [fU o,fU u],.int (rR n),rL n]
noncomputable def wN(p:Nat)(o u n:OE):List PV:=match decide (u=n) with
 |true=>[]
 |false=>[yV p o u n]
noncomputable def lkD(D:List Ch)(p:Nat):Option PV:=dN (D.map pk) (D.map cp) (.bytes [p])
theorem aIL(D:List Ch)(p:Nat)(st:St):fB (.pv (.bytes [p])) (.pv (dI D)) st=some ((lkD D p).isNone,st):=by
 have e3:zI (.pv (.bytes [p])) (.pv (dI D)) st=some ((lkD D p).isSome,st):=rfl
 exact(mN rfl).trans ((mN rfl).trans (pM ((aJ e3).trans (by cases lkD D p <;> rfl))))
theorem Xm{D:List Ch}{p:Nat}{y:PV}(h:lkD D p=some y)(st:St):aV (.pv (dI D)) (.pv (.bytes [p])) st=some (.pv y,st):=
 LD (ks:=D.map pk) (vs:=D.map cp) (by rfl) h
noncomputable def XF:M Bool:=(tv (ge MU (eG dK (aA 3) [none,none,some 8] (nT 1) (rt true) (c2 (aA 2) (aA 1) fB))))
noncomputable def Kr:M Fl:=(fo (aA 3) (nT 5) (bl [(aZ 6 (b2 (aA 5) (aA 8) aV)),
 (ex (bK cR dD (aA 9) (aY (ar [(ge qV (aA 6)),(ge oM (aA 6))]) cM)))]))
noncomputable def cmE:M Fl:=(ex (bK cR dD (aA 7) (ge cC (nw 7 XX (ar [(aA 8),(ge cC (aA 9)),(ge oL (aA 6)),(ge lO (aA 6))])))))
noncomputable def DR:PV→M Fl:=fun x=>bd (nT 8 x) fun _=>bl [(bH XF (bl [(rt .cont)]) (bl [])),
 (aZ 9 (aY (ar []) kE)),Kr,
 (aZ 6 (b2 (b2 (aA 3) (kI 0) aV) (aA 8) aV)),cmE]
noncomputable def CC(ω:Dk)(S:List It)(m:Nat)(R:List PV):List SO:=sS ω S++([.dead,.dead,.dead,.list R,.dead]++mW (2*m) .dead)
section
variable{ω:Dk}{S:List It}{i k j:Nat}{v4 v5 v6 v8 v9:Option SV}{D1 D2:List Ch}
noncomputable abbrev cd(ω:Dk)(S:List It)(i k j:Nat)(D1 D2:List Ch)(m:Nat)(R:List PV)(g:List SO)(v4 v5 v6 v8 v9:Option SV):St:=cb i k j (CC ω S m R++g) (some (.pv (.lst [dI D1,dI D2]))) v4 v5 v6 (some (.ref 11)) v8 v9
theorem aDM(p:Nat)(m:Nat)(R:List PV):XF (cd ω S i k j D1 D2 m R [] v4 v5 v6 (some (.pv (.bytes [p]))) v9)=some ((lkD D1 p).isNone || (lkD D2 p).isNone,cd ω S i k j D1 D2 m R [] v4 v5 v6 (some (.pv (.bytes [p]))) v9):=by
 let st:St:=cd ω S i k j D1 D2 m R [] v4 v5 v6 (some (.pv (.bytes [p]))) v9
 have hc:eG dK (aA 3) [none,none,some 8] (nT 1) (rt true) (c2 (aA 2) (aA 1) fB) st=some (.pv (.lst [.bool (lkD D1 p).isNone,.bool (lkD D2 p).isNone]),st):=by
  refine tX (st₁:=st) (st₂:=⟨[none,some (.pv (dI D2)),some (.pv (.bytes [p]))],st.cells⟩) (a:=.pv (.lst [dI D1,dI D2])) (xs:=[dI D1,dI D2]) (by rfl) (by rfl) (bT rfl) ?_
  have one:∀(D:List Ch) (l:List PV) (ys:List PV) (o:Option SV) (st':St),iB (nT 1) (rt true) (c2 (aA 2) (aA 1) fB) l ⟨[none,some (.pv (dI D)),some (.pv (.bytes [p]))],st.cells⟩=some (ys,st')→iB (nT 1) (rt true) (c2 (aA 2) (aA 1) fB) (dI D::l) ⟨[none,o,some (.pv (.bytes [p]))],st.cells⟩=some (.bool (lkD D p).isNone::ys,st'):=fun D l ys o st' h=>by
   refine(aJ (a:=()) (st₁:=⟨[none,some (.pv (dI D)),some (.pv (.bytes [p]))],st.cells⟩) (by rfl)).trans ((aJ (a:=true) (st₁:=⟨[none,some (.pv (dI D)),some (.pv (.bytes [p]))],st.cells⟩) (by rfl)).trans ?_)
   refine(aJ (a:=.pv (.bool (lkD D p).isNone)) (st₁:=⟨[none,some (.pv (dI D)),some (.pv (.bytes [p]))],st.cells⟩) (WO (a:=.pv (.bytes [p])) (b:=.pv (dI D)) (by rfl) (by rfl) (aIL D p _))).trans ?_
   exact(aJ h).trans rfl
  exact one D1 _ _ _ _ (one D2 [] [] _ _ rfl)
 unfold XF
 refine(aJ (a:=.pv (.bool ((lkD D1 p).isNone || (lkD D2 p).isNone))) (st₁:=st) (eU (f:=MU) hc ?_)).trans ?_
 ·cases (lkD D1 p).isNone <;> cases (lkD D2 p).isNone <;> rfl
 cases (lkD D1 p).isNone <;> cases (lkD D2 p).isNone <;> rfl
theorem aDN{p:Nat}{o u n:OE}(ho:one o n)(hu:one u n)(hA:lkD D1 p=some (cp (p,o,n)))(hB:lkD D2 p=some (cp (p,u,n))){m:Nat}(hm:m=0∨m=1∨m=2)(R:List PV):
  Kr (cd ω S i k j D1 D2 m R [.list []] v4 v5 v6 (some (.pv (.bytes [p]))) (some (.ref (13+2*m))))=some (.next,cd ω S i k j D1 D2 m R [.list [fU o,fU u]] v4 (some (.pv (dI D2))) (some (.pv (cp (p,u,n)))) (some (.pv (.bytes [p]))) (some (.ref (13+2*m)))):=by
 refine(mP (a:=.pv (.lst [dI D1,dI D2])) (st₁:=cd ω S i k j D1 D2 m R [.list []] v4 v5 v6 (some (.pv (.bytes [p]))) (some (.ref (13+2*m)))) (xs:=[dI D1,dI D2]) (by rfl) (by rfl)).trans ?_
 have step:∀(D:List Ch) (o:OE) (h:one o n) (hD:lkD D p=some (cp (p,o,n))) (L:List PV) (hL:L.length≤2) (v5 v6:Option SV),(fun x=>bd (nT 5 x) fun _=>(bl [(aZ 6 (b2 (aA 5) (aA 8) aV)),
 (ex (bK cR dD (aA 9) (aY (ar [(ge qV (aA 6)),(ge oM (aA 6))]) cM)))])) (dI D) (cd ω S i k j D1 D2 m R [.list L] v4 v5 v6 (some (.pv (.bytes [p]))) (some (.ref (13+2*m))))=some (.next,cd ω S i k j D1 D2 m R [.list (L++[fU o])] v4 (some (.pv (dI D))) (some (.pv (cp (p,o,n)))) (some (.pv (.bytes [p]))) (some (.ref (13+2*m)))):=fun D o h hD L hL v5 v6=>by
  let s1:St:=cd ω S i k j D1 D2 m R [.list L] v4 (some (.pv (dI D))) (some (.pv (cp (p,o,n)))) (some (.pv (.bytes [p]))) (some (.ref (13+2*m)))
  refine(aJ (a:=()) (st₁:=cd ω S i k j D1 D2 m R [.list L] v4 (some (.pv (dI D))) v6 (some (.pv (.bytes [p]))) (some (.ref (13+2*m)))) (by rfl)).trans ?_
  refine aO (st₁:=s1) (iI (jG (a:=.pv (dI D)) (b:=.pv (.bytes [p])) (by rfl) (by rfl) (Xm hD _))) (cW ?_)
  have ac:=NL p o n h s1
  refine sO (v:=.pv .none) ((qI (u:=()) (a:=.ref (13+2*m)) (b:=.pv (fU o)) (st₁:=s1) (st₂:=s1) (st₃:=s1) (by rfl) ?_ ?_).trans ((yR (j:=13+2*m) (xs:=L) ?_ (ub hL rfl)).trans ?_))
  ·rcases hm with rfl | rfl | rfl <;> rfl
  ·exact zE (as:=[.pv (.int (rR o)),.pv (rL o)]) (st₁:=s1) (dJ (eU (a:=.pv (cp (p,o,n))) (by rfl) ac.1) (eU (a:=.pv (cp (p,o,n))) (by rfl) ac.2.1)) (by rfl)
  ·rcases hm with rfl | rfl | rfl <;> rfl
  ·rcases hm with rfl | rfl | rfl <;> rfl
 exact(gL (step D1 o ho hA [] (bT rfl) v5 v6)).trans ((gL (step D2 u hu hB [fU o] (by decide:1≤2) _ _)).trans rfl)
inductive Zo(ω:Dk)(S:List It)(i:Nat)(k:Nat)(j:Nat)(v4:Option SV)(v5:Option SV)(v6:Option SV)(v8:Option SV)(v9:Option SV)(D1:List Ch)(D2:List Ch)(p:Nat)(o:OE)(u:OE)(n:OE)(m:Nat)(R:List PV):Prop
 |mk (q5:_) (q6:_) (q8:_) (q9:_) (m':_) (f:_) (hh0:(f= .next∨f= .cont)) (hh1:m'≤m+1) (hh2:DR (.bytes [p]) (cd ω S i k j D1 D2 m R [] v4 v5 v6 v8 v9)=some (f,cd ω S i k j D1 D2 m' (R++wN p o u n) [] v4 q5 q6 q8 q9))
theorem aDO{p:Nat}{o u n:OE}(ho:one o n)(hu:u≠n→one u n)(hA:lkD D1 p=some (cp (p,o,n)))(hB:lkD D2 p=match decide (u=n) with | true=>none | false=>some (cp (p,u,n))){m:Nat}(hm:m=0∨m=1∨m=2)(R:List PV)(hR:R.length≤4):Zo ω S i k j v4 v5 v6 v8 v9 D1 D2 p o u n m R:=by
 have ea:=aDM (ω:=ω) (S:=S) (i:=i) (k:=k) (j:=j) (v4:=v4) (v5:=v5) (v6:=v6) (v9:=v9) (D1:=D1) (D2:=D2) p m R
 have e8:nT 8 (.bytes [p]) (cd ω S i k j D1 D2 m R [] v4 v5 v6 v8 v9)=some ((),cd ω S i k j D1 D2 m R [] v4 v5 v6 (some (.pv (.bytes [p]))) v9):=rfl
 replace ea:=(hB)▸(hA)▸ea
 by_cases hun:u=n
 ·replace ea:=(decide_eq_true hun)▸ea
  refine⟨v5,v6,some (.pv (.bytes [p])),v9,m,.cont,.inr rfl,oE m,(aJ e8).trans (DN (hV ea ?_))⟩
  unfold wN
  rw [decide_eq_true hun,gK]
  rfl
 ·rw [decide_eq_false hun] at ea hB
  have hu1:=hu hun
  have er:=aDN (ω:=ω) (S:=S) (i:=i) (k:=k) (j:=j) (v4:=v4) (v5:=v5) (v6:=v6) ho hu1 hA hB hm R
  refine⟨some (.pv (dI D2)),some (.pv (cp (p,o,n))),some (.pv (.bytes [p])),some (.ref (13+2*m)),m+1,.next,.inl rfl,cX _,(aJ e8).trans (aO (eV ea rfl) (aO (st₁:=cd ω S i k j D1 D2 m R [.list []] v4 v5 v6 (some (.pv (.bytes [p]))) (some (.ref (13+2*m)))) ?_ (aO er (aO (st₁:=cd ω S i k j D1 D2 m R [.list [fU o,fU u]] v4 (some (.pv (dI D2))) (some (.pv (cp (p,o,n)))) (some (.pv (.bytes [p]))) (some (.ref (13+2*m)))) ?_ (cW ?_)))))⟩
  ·rcases hm with rfl | rfl | rfl <;> rfl
  ·exact iI (v:=.pv (cp (p,o,n))) (jG (a:=.pv (dI D1)) (b:=.pv (.bytes [p])) (by rfl) (by rfl) (Xm hA _))
  ·let s1:St:=cd ω S i k j D1 D2 m R [.dead] v4 (some (.pv (dI D2))) (some (.pv (cp (p,o,n)))) (some (.pv (.bytes [p]))) (some (.ref (13+2*m)))
   let s2:St:=cd ω S i k j D1 D2 m R [.dead,.dead] v4 (some (.pv (dI D2))) (some (.pv (cp (p,o,n)))) (some (.pv (.bytes [p]))) (some (.ref (13+2*m)))
   have ac:=NL p o n ho s1
   have ef:wN p o u n= [yV p o u n]:=by unfold wN;rw [decide_eq_false hun]
   refine(ef).symm▸?_
   have ha:ar [(aA 8),(ge cC (aA 9)),(ge oL (aA 6)),(ge lO (aA 6))] (cd ω S i k j D1 D2 m R [.list [fU o,fU u]] v4 (some (.pv (dI D2))) (some (.pv (cp (p,o,n)))) (some (.pv (.bytes [p]))) (some (.ref (13+2*m))))=some ([.pv (.bytes [p]),.pv (.lst [fU o,fU u]),.pv (.int (rR n)),.pv (rL n)],s1):=by
    refine nD (a:=.pv (.bytes [p])) (by rfl) (nD (a:=.pv (.lst [fU o,fU u])) (st₁:=s1) ?_ (dJ (eU (a:=.pv (cp (p,o,n))) (by rfl) ac.2.2.1) (eU (a:=.pv (cp (p,o,n))) (by rfl) ac.2.2.2.1)))
    rcases hm with rfl | rfl | rfl <;> rfl
   refine sO (v:=.pv .none) ((qI (u:=()) (a:=.ref 11) (b:=.pv (yV p o u n)) (st₃:=s2) (by rfl) (by rfl) ?_).trans ((yR (j:=11) (xs:=R) (by rfl) (ub hR rfl)).trans ?_))
   ·refine eU (a:=.ref (14+2*m)) (st₁:=cd ω S i k j D1 D2 m R [.dead,.inst 7 [.pv (.bytes [p]),.pv (.lst [fU o,fU u]),.pv (.int (rR n)),.pv (rL n)]] v4 (some (.pv (dI D2))) (some (.pv (cp (p,o,n)))) (some (.pv (.bytes [p]))) (some (.ref (13+2*m)))) ((aJ ha).trans ?_) ?_
    ·rcases hm with rfl | rfl | rfl <;> kernel_rfl
    ·rcases hm with rfl | rfl | rfl <;> rfl
   ·rcases hm with rfl | rfl | rfl <;> rfl
end
theorem Rl(a b c a' b' c':OE):(lkD (dif a b c a' b' c') 97=match decide (a=a') with | true=>none | false=>some (cp (97,a,a')))∧(lkD (dif a b c a' b' c') 98=match decide (b=b') with | true=>none | false=>some (cp (98,b,b')))∧(lkD (dif a b c a' b' c') 99=match decide (c=c') with | true=>none | false=>some (cp (99,c,c'))):=by
 unfold dif dC
 cases decide (a=a') <;> cases decide (b=b') <;> cases decide (c=c') <;> exact⟨rfl,rfl,rfl⟩
theorem aOK(a b c a' b' c':OE)(st:St):nP (.pv (dI (dif a b c a' b' c'))) st=some (.ref st.cells.length,⟨st.loc,st.cells++[.list ((dif a b c a' b' c').map pk)]⟩):=by
 unfold dif dC
 cases decide (a=a') <;> cases decide (b=b') <;> cases decide (c=c') <;> kernel_rfl
noncomputable def jH(p:Nat)(o u n:OE):List PV:=match decide (o=n) with
 |true=>[]
 |false=>wN p o u n
section
variable{ω:Dk}{S:List It}{i k j:Nat}{v4 v5 v6 v8 v9:Option SV}{D1 D2:List Ch}
inductive Zn(ω:Dk)(S:List It)(i:Nat)(k:Nat)(j:Nat)(v4:Option SV)(v5:Option SV)(v6:Option SV)(v8:Option SV)(v9:Option SV)(D1:List Ch)(D2:List Ch)(p:Nat)(o:OE)(u:OE)(n:OE)(m:Nat)(R:List PV)(rest:List PV):Prop
 |mk (q5:_) (q6:_) (q8:_) (q9:_) (m':_) (hh0:m'≤m+1) (hh1:fJ ((dC p o n).map pk++rest) DR (cd ω S i k j D1 D2 m R [] v4 v5 v6 v8 v9)=fJ rest DR (cd ω S i k j D1 D2 m' (R++jH p o u n) [] v4 q5 q6 q8 q9))
theorem XG(hA:lkD D1 p=match decide (o=n) with | true=>none | false=>some (cp (p,o,n)))(hB:lkD D2 p=match decide (u=n) with | true=>none | false=>some (cp (p,u,n)))(hm:m≤2)(R:List PV)(hR:R.length≤4)(rest:List PV):Zn ω S i k j v4 v5 v6 v8 v9 D1 D2 p o u n m R rest:=by
 rcases rC p o n with⟨e,e1⟩ | ⟨h1,e,e1⟩
 ·refine⟨v5,v6,v8,v9,m,oE m,?_⟩
  unfold jH
  rw [e1,decide_eq_true e,gK]
  rfl
 ·replace hA:=(decide_eq_false e)▸hA
  obtain⟨q5,q6,q8,q9,m',f,hf,hm',es⟩:=aDO h1 (fun hu=>by
   cases u with
   |none=>cases n with
    |none=>exact absurd rfl hu
    |some n=>exact .inr (by simp)
   |some u=>exact .inl (by simp)) hA hB (PN m hm) R hR
  refine⟨q5,q6,q8,q9,m',hm',?_⟩
  unfold jH
  refine(e1).symm▸(decide_eq_false e).symm▸?_
  have:fJ (pk (p,o,n)::rest) DR (cd ω S i k j D1 D2 m R [] v4 v5 v6 v8 v9)=fJ rest DR (cd ω S i k j D1 D2 m' (R++wN p o u n) [] v4 q5 q6 q8 q9):=by
   rcases hf with rfl | rfl
   ·exact gL es
   ·exact IK es
  exact this
end
theorem HS(p:Nat)(o u n:OE):(jH p o u n).length≤1:=by
 unfold jH wN
 cases decide (o=n) <;> cases decide (u=n) <;> simp
theorem aDW(ω:Dk)(S:List It)(hi:S[i]? =some (.tree (eS a b c)))(hk:S[k]? =some (.tree (eS u v w)))(hj:S[j]? =some (.tree (eS a' b' c')))(ex:List SO):
  YK [.ref 5,.pv (.lst [aN i,aN k]),.pv (aN j)] (sS ω S++ex)=some (.pv (.lst (jH 97 a u a'++jH 98 b v b'++jH 99 c w c')),sS ω S++ex):=by
 obtain⟨p4,p5,p6,e1⟩:=Tz ω S hi hj (.inl rfl) [] (by decide) none none none
 obtain⟨q4,q5,q6,e2⟩:=Tz ω S (i:=i) (k:=k) hk hj (.inr rfl) [dI (dif a b c a' b' c')] (by decide:1≤2) p4 p5 p6
 have l1:=Rl a b c a' b' c'
 have l2:=Rl u v w a' b' c'
 have hs:=aOK a b c a' b' c'
 have hpk:(dif a b c a' b' c').map pk=(dC 97 a a').map pk++((dC 98 b b').map pk++((dC 99 c c').map pk++[])):=by
  unfold dif
  rw [cU,cU,gK,gJ]
 generalize dif a b c a' b' c'=D1 at*
 generalize dif u v w a' b' c'=D2 at*
 have n1:=HS 97 a u a'
 have n2:=HS 98 b v b'
 obtain⟨r5,r6,r8,r9,m1,hm1,s1⟩:=XG l1.1 l2.1 (jP 2) [] (by decide) ((dC 98 b b').map pk++((dC 99 c c').map pk++[]))
 obtain⟨t5,t6,t8,t9,m2,hm2,s2⟩:=XG l1.2.1 l2.2.1 (ub hm1 rfl) ([]++jH 97 a u a') (ub n1 rfl) ((dC 99 c c').map pk++[])
 obtain⟨w5,w6,w8,w9,m3,hm3,s3⟩:=XG (j:=j) (v4:=q4) (v5:=t5) (v6:=t6) (v8:=t8) (v9:=t9) l1.2.2 l2.2.2 (m:=m2) (aP hm2 (kZ hm1)) ([]++jH 97 a u a'++jH 98 b v b') (by rw [oA,fE];exact ub (mK n1 n2) rfl) []
 rw [oA] at s1 s2 s3
 have eL:fJ (D1.map pk) DR (cd ω S i k j D1 D2 0 [] [] q4 q5 q6 none none)=some (.next,cd ω S i k j D1 D2 m3 (jH 97 a u a'++jH 98 b v b'++jH 99 c w c') [] q4 w5 w6 w8 w9):=by
  rw [hpk,s1,s2,s3]
  rfl
 clear s1 s2 s3 l1 l2 hpk n1 n2
 generalize (jH 97 a u a'++jH 98 b v b'++jH 99 c w c')=R at*
 refine iM (j:=[.dead,.dead,.dead,.dead,.dead]++mW (2*m3) .dead) (eJ (st:=cb i k j (sS ω S++([.dead,.dead,.dead,.dead,.dead]++mW (2*m3) .dead)) (some (.pv (.lst [dI D1,dI D2]))) q4 w5 w6 (some (.ref 11)) w8 w9) (by rfl) ?_) (by rfl) (by rfl)
 refine aO (st₁:=cb i k j (sS ω S++.list []::[]) (some (.ref 8)) none none none none none none) (by rfl) ?_
 refine aO (st₁:=cb i k j (sS ω S++.list [dI D1,dI D2]::[.dead,.dead]) (some (.ref 8)) q4 q5 q6 none none none) ?_ ?_
 ·refine(mP (a:=.pv (.lst [aN i,aN k])) (st₁:=cb i k j (sS ω S++.list []::[]) (some (.ref 8)) none none none none none none) (xs:=[aN i,aN k]) (by rfl) (by rfl)).trans ?_
  exact(gL e1).trans ((gL e2).trans rfl)
 refine aO (st₁:=cb i k j (sS ω S++[.list [dI D1,dI D2],.dead,.dead,.list []]) (some (.ref 8)) q4 q5 q6 (some (.ref 11)) none none) (by rfl) ?_
 let sA:St:=cb i k j (sS ω S++[.dead,.dead,.dead,.list []]) (some (.pv (.lst [dI D1,dI D2]))) q4 q5 q6 (some (.ref 11)) none none
 refine aO (st₁:=cd ω S i k j D1 D2 m3 R [] q4 w5 w6 w8 w9) ?_ (eZ (fC ?_))
 ·refine(mP (a:=.pv (.lst (D1.map pk))) (st₁:=cd ω S i k j D1 D2 0 [] [] q4 q5 q6 none none) (xs:=D1.map pk) ?_ (by rfl)).trans eL
  refine(ZW (t:=true) (st₁:=sA) (by rfl)).trans ?_
  refine eU (a:=.ref 12) (st₁:=cb i k j (sS ω S++[.dead,.dead,.dead,.list [],.list (D1.map pk)]) (some (.pv (.lst [dI D1,dI D2]))) q4 q5 q6 (some (.ref 11)) none none) ?_ (by rfl)
  refine eU (a:=.pv (dI D1)) (st₁:=sA) (by rfl) (hs sA)
 ·have hm:m3=0∨m3=1∨m3=2∨m3=3:=Rd m3 (aP hm3 (kZ (aP hm2 (kZ hm1))))
  rcases hm with rfl | rfl | rfl | rfl <;> rfl
noncomputable def wS{α:Type}(o n:Option α):List Nat:=match o,n with
 |none,_=>[65]
 |some _,none=>[68]
 |some _,some _=>[77]
noncomputable def HT(p:Nat)(o u n:OE):PV:=.tup [.bytes [p],.lst [fU o,fU u],.int (rR n),rL n,.str (wS o n++wS u n)]
noncomputable def kM(p:Nat)(o u n:OE):List PV:=match decide (o=n),decide (u=n) with
 |false,false=>[HT p o u n]
 |_,_=>[]
inductive aAf(ω:Dk)(S:List It)(v:Option aT)(o:OE):Prop
 |mk (S':_) (hh0:nX S S' 1) (hh1:∀ ex,rG [.ref 7,.pv (cT v)] (sS ω S++ex)=some (.pv (fU o),sS ω S'++ex))
theorem Fu(ω:Dk)(S:List It){v:Option aT}{o:OE}(hg:Gd S)(hl:S.length≤50)(k:dZ S v o)(h:eI v):aAf ω S v o:=by
 cases v with
 |none=>cases o with
  |none=>exact⟨S,⟨hg,TK _,oE _⟩,aPI ω S⟩
  |some o=>exact k.elim
 |some v=>cases o with
  |none=>exact k.elim
  |some o=>
   obtain⟨x,i⟩:=o
   obtain⟨hx,hi⟩:=k
   obtain⟨S',j,hG,hj,e⟩:=Yl ω S hg hl v h
   have hi':=KI hG.pre hi
   have hlt:=(List.getElem?_eq_some_iff.mp hi').1
   have:i=j:=(He hlt hG.gd.nodup).mp (hi'.trans hj.symm)
   subst this
   subst hx
   exact⟨S',hG,e⟩
theorem aIO{a b n:Option aT}(ha:eI a)(hb:eI b)(hn:eI n)(st:St):fB (.pv (cT n)) (.pv (.lst [cT a,cT b])) st=some (!(decide (a=n) || decide (b=n)),st):=by
 refine pM ((aJ (onSome_eq ?_:uA (.pv (cT n)) (.pv (.lst [cT a,cT b])) st=some (decide (a=n) || decide (b=n),st))).trans rfl)
 show(match iX 7 (cT a) (cT n) with | some a=>(match (match iX 7 (cT b) (cT n) with | some a=>some (a || false) | none=>none) with | some b=>some (a || b) | none=>none) | none=>none)=_
 rw [XU 3 ha hn,XU 3 hb hn];cases decide (b=n) <;> rfl
noncomputable def Sd:M Fl:=(aZ 20 (bK Ad Ai (kS []) (eG dK (aA 18) [none,none,none,some 19] (nT 1) (rt true) (cf YN (ar [(aA 1),(aA 3)])))))
noncomputable def Se:M SV:=(eG dK (aA 18) [none,none,none,some 2] (nT 1) (rt true) (cf rG (ar [(aA 3),(aA 1)])))
noncomputable def Sa:M Fl:=(ex (bK cR dD (aA 13) (b2 (b2 (aY (ar [(aA 12),Se]) cM) (cf rG (ar [(aA 2),(aA 19)])) bM) (aY (ar [(aA 20)]) cM) bM)))
noncomputable def Sb:PV→M Fl:=fun x=>bd (nT 12 x) fun _=>(bl [(nF [18,19] (ar [(aY (ar [(bK cV dX (aA 3) (aA 12)),(bK cV dX (aA 17) (aA 12))]) kP),(bK cV dX (aA 4) (aA 12))])),
 (bH (t2 (aA 19) (aA 18) fB) (bl [Sd,Sa]) (bl []))])
noncomputable def oU(G0 G1 G2 G3 G4:SO)(R:List PV)(T:List SO):List SO:=.dead::G0::G1::G2::G3::G4::.dead::.list R::T
section
variable{ω:Dk}{S:List It}{G0 G1 G2 G3 G4:SO}{T:List SO}{v0 v1 v5 v6 v7 v8 v9 v10 v11 v12 v14 v15 v16 v18 v19 v20:Option SV}{a b c a' b' c' a'' b'' c'':Option aT}{R:List PV}
theorem aIb(vo vu vn:Option aT){o u n:OE}(ho:vo=none↔o=none)(hu:vu=none↔u=none)(hn:vn=none↔n=none)(p:PV)(v3 v4 v17:Option SV):
  Sd (lw (sS ω S++oU G0 G1 G2 G3 G4 R T) v0 v1 (some (.ref 7)) v3 v4 v5 v6 v7 v8 v9 v10 v11 (some (.pv p)) (some (.ref 15)) v14 v15 v16 v17 (some (.pv (.lst [cT vo,cT vu]))) (some (.pv (cT vn))) v20)=
   some (.next,lw (sS ω S++oU G0 G1 G2 G3 G4 R T) v0 v1 (some (.ref 7)) v3 v4 v5 v6 v7 v8 v9 v10 v11 (some (.pv p)) (some (.ref 15)) v14 v15 v16 v17 (some (.pv (.lst [cT vo,cT vu]))) (some (.pv (cT vn))) (some (.pv (.str (wS o n++wS u n))))):=by
 have e1:wS o n=wS vo vn:=by
  cases vo <;> cases o <;> cases vn <;> cases n <;> first | rfl | (exfalso;simp at ho hn;done)
 have e2:wS u n=wS vu vn:=by
  cases vu <;> cases u <;> cases vn <;> cases n <;> first | rfl | (exfalso;simp at hu hn;done)
 refine(e1).symm▸(e2).symm▸?_
 clear e1 e2 ho hu hn
 cases vo <;> cases vu <;> cases vn <;> kernel_rfl
inductive Zx(ω:Dk)(S:List It)(G0:SO)(G1:SO)(G2:SO)(G3:SO)(G4:SO)(T:List SO)(v0:Option SV)(v1:Option SV)(v5:Option SV)(v6:Option SV)(v7:Option SV)(v8:Option SV)(v9:Option SV)(v10:Option SV)(v11:Option SV)(v14:Option SV)(v15:Option SV)(v16:Option SV)(R:List PV)(vo:Option aT)(vu:Option aT)(vn:Option aT)(o:OE)(u:OE)(n:OE)(p:Nat)(v3:Option SV)(v4:Option SV)(v17:Option SV)(w:List Nat):Prop
 |mk (S':_) (hh0:nX S S' 3) (hh1:Sa (lw (sS ω S++oU G0 G1 G2 G3 G4 R T) v0 v1 (some (.ref 7)) v3 v4 v5 v6 v7 v8 v9 v10 v11 (some (.pv (.bytes [p]))) (some (.ref 15)) v14 v15 v16 v17 (some (.pv (.lst [cT vo,cT vu]))) (some (.pv (cT vn))) (some (.pv (.str w))))=
   some (.next,lw (sS ω S'++oU G0 G1 G2 G3 G4 (R++[.tup [.bytes [p],.lst [fU o,fU u],.int (rR n),rL n,.str w]]) T) v0 v1 (some (.ref 7)) v3 v4 v5 v6 v7 v8 v9 v10 v11 (some (.pv (.bytes [p]))) (some (.ref 15)) v14 v15 v16 v17 (some (.pv (.lst [cT vo,cT vu]))) (some (.pv (cT vn))) (some (.pv (.str w)))))
theorem aHZ{vo vu vn:Option aT}{o u n:OE}(hg:Gd S)(hl:S.length≤40)(ko:dZ S vo o)(ku:dZ S vu u)(kn:dZ S vn n)(lo:eI vo)(lu:eI vu)(ln:eI vn)(p:Nat)(hR:R.length≤4)(v3 v4 v17:Option SV)(w:List Nat):Zx ω S G0 G1 G2 G3 G4 T v0 v1 v5 v6 v7 v8 v9 v10 v11 v14 v15 v16 R vo vu vn o u n p v3 v4 v17 w:=by
 obtain⟨S1,G1',f1⟩:=Fu ω S hg (ub hl rfl) ko lo
 obtain⟨S2,G2',f2⟩:=Fu ω S1 G1'.gd (ub (aP G1'.len (kZ hl)) rfl) (ku.mono G1'.pre) lu
 obtain⟨S3,G3',f3⟩:=Fu ω S2 G2'.gd (ub (aP G2'.len (kZ (aP G1'.len (kZ hl)))) rfl) ((kn.mono G1'.pre).mono G2'.pre) ln
 refine⟨S3,(G1'.trans G2').trans G3',?_⟩
 let st:List It→St:=fun S=>lw (sS ω S++oU G0 G1 G2 G3 G4 R T) v0 v1 (some (.ref 7)) v3 v4 v5 v6 v7 v8 v9 v10 v11 (some (.pv (.bytes [p]))) (some (.ref 15)) v14 v15 v16 v17 (some (.pv (.lst [cT vo,cT vu]))) (some (.pv (cT vn))) (some (.pv (.str w)))
 have ev:Se (st S)=some (.pv (.lst [fU o,fU u]),st S2):=by
  refine tX (st₁:=st S) (st₂:=⟨[none,some (.pv (cT vu)),none,some (.ref 7)],(st S2).cells⟩) (a:=.pv (.lst [cT vo,cT vu])) (xs:=[cT vo,cT vu]) (by rfl) (by rfl) (bT rfl) ?_
  have one:∀(S S':List It) (x y:PV) (l:List PV) (ys:List PV) (o:Option SV) (st':St),(∀ ex,rG [.ref 7,.pv x] (sS ω S++ex)=some (.pv y,sS ω S'++ex))→iB (nT 1) (rt true) (cf rG (ar [(aA 3),(aA 1)])) l ⟨[none,some (.pv x),none,some (.ref 7)],(st S').cells⟩=some (ys,st')→
    iB (nT 1) (rt true) (cf rG (ar [(aA 3),(aA 1)])) (x::l) ⟨[none,o,none,some (.ref 7)],(st S).cells⟩=some (y::ys,st'):=fun S S' x y l ys o st' hf h=>by
   refine(aJ (a:=()) (st₁:=⟨[none,some (.pv x),none,some (.ref 7)],(st S).cells⟩) (by rfl)).trans ((aJ (a:=true) (st₁:=⟨[none,some (.pv x),none,some (.ref 7)],(st S).cells⟩) (by rfl)).trans ?_)
   refine(aJ (a:=.pv y) (st₁:=⟨[none,some (.pv x),none,some (.ref 7)],(st S').cells⟩) (gF (as:=[.ref 7,.pv x]) (st₁:=⟨[none,some (.pv x),none,some (.ref 7)],(st S).cells⟩) (by rfl) (hf _))).trans ?_
   exact(aJ h).trans rfl
  exact one S S1 _ _ _ _ _ _ f1 (one S1 S2 _ _ [] [] _ _ f2 rfl)
 refine sO (v:=.pv .none) ((qI (u:=()) (a:=.ref 15) (b:=.pv (.tup [.bytes [p],.lst [fU o,fU u],.int (rR n),rL n,.str w])) (st₁:=st S) (st₂:=st S) (st₃:=st S3) (by rfl) (by rfl) ?_).trans ((yR (j:=15) (xs:=R) (by rfl) (ub hR rfl)).trans (by rfl)))
 refine(uZ (a:=.pv (.tup [.bytes [p],.lst [fU o,fU u],.int (rR n),rL n])) (b:=.pv (.tup [.str w])) (st₁:=st S3) (st₂:=st S3) ?_ (by rfl)).trans (by rfl)
 refine(uZ (a:=.pv (.tup [.bytes [p],.lst [fU o,fU u]])) (b:=.pv (fU n)) (st₁:=st S2) (st₂:=st S3) ?_ ?_).trans (by rfl)
 ·exact(OS (as:=[.pv (.bytes [p]),.pv (.lst [fU o,fU u])]) (st₁:=st S2) (dJ (by rfl) ev)).trans (by rfl)
 ·exact gF (as:=[.ref 7,.pv (cT vn)]) (st₁:=st S2) (by rfl) (f3 _)
end
theorem dZ.none_iff(k:dZ S v o):v=none↔o=none:=by
 cases v <;> cases o <;> first | exact k.elim | simp
section
variable{ω:Dk}{G0 G1 G2 G3 G4:SO}{T:List SO}{v0 v1 v5 v6 v7 v8 v9 v10 v11 v12 v14 v15 v16 v18 v19 v20:Option SV}{a b c a' b' c' a'' b'' c'':Option aT}
inductive Zz(ω:Dk)(G0:SO)(G1:SO)(G2:SO)(G3:SO)(G4:SO)(T:List SO)(v0:Option SV)(v1:Option SV)(v5:Option SV)(v6:Option SV)(v7:Option SV)(v8:Option SV)(v9:Option SV)(v10:Option SV)(v11:Option SV)(v12:Option SV)(v14:Option SV)(v15:Option SV)(v16:Option SV)(v18:Option SV)(v19:Option SV)(v20:Option SV)(a:Option aT)(b:Option aT)(c:Option aT)(a':Option aT)(b':Option aT)(c':Option aT)(a'':Option aT)(b'':Option aT)(c'':Option aT)(S:List It)(p:Nat)(o:OE)(u:OE)(n:OE)(R:List PV):Prop
 |mk (S':_) (q12:_) (q18:_) (q19:_) (q20:_) (hh0:nX S S' 3) (hh1:Sb (.bytes [p]) (lw (sS ω S++oU G0 G1 G2 G3 G4 R T) v0 v1 (some (.ref 7)) (some (.pv (cQ a b c))) (some (.pv (cQ a' b' c'))) v5 v6 v7 v8 v9 v10 v11 v12 (some (.ref 15)) v14 v15 v16 (some (.pv (cQ a'' b'' c''))) v18 v19 v20)=
   some (.next,lw (sS ω S'++oU G0 G1 G2 G3 G4 (R++kM p o u n) T) v0 v1 (some (.ref 7)) (some (.pv (cQ a b c))) (some (.pv (cQ a' b' c'))) v5 v6 v7 v8 v9 v10 v11 q12 (some (.ref 15)) v14 v15 v16 (some (.pv (cQ a'' b'' c''))) q18 q19 q20))
theorem Bg(hp:oT p)(hg:Gd S)(hl:S.length≤40)(ko:dZ S (gv a b c p) o)(ku:dZ S (gv a'' b'' c'' p) u)(kn:dZ S (gv a' b' c' p) n)(lo:eI (gv a b c p))(lu:eI (gv a'' b'' c'' p))(ln:eI (gv a' b' c' p))(hR:R.length≤4):Zz ω G0 G1 G2 G3 G4 T v0 v1 v5 v6 v7 v8 v9 v10 v11 v12 v14 v15 v16 v18 v19 v20 a b c a' b' c' a'' b'' c'' S p o u n R:=by
 have e1:decide (gv a b c p=gv a' b' c' p)=decide (o=n):=decide_eq_decide.mpr (LH hg ko kn)
 have e2:decide (gv a'' b'' c'' p=gv a' b' c' p)=decide (u=n):=decide_eq_decide.mpr (LH hg ku kn)
 let st0:St:=lw (sS ω S++oU G0 G1 G2 G3 G4 R T) v0 v1 (some (.ref 7)) (some (.pv (cQ a b c))) (some (.pv (cQ a' b' c'))) v5 v6 v7 v8 v9 v10 v11 (some (.pv (.bytes [p]))) (some (.ref 15)) v14 v15 v16 (some (.pv (cQ a'' b'' c''))) v18 v19 v20
 let st1:Option SV→St:=fun q=>lw (sS ω S++oU G0 G1 G2 G3 G4 R T) v0 v1 (some (.ref 7)) (some (.pv (cQ a b c))) (some (.pv (cQ a' b' c'))) v5 v6 v7 v8 v9 v10 v11 (some (.pv (.bytes [p]))) (some (.ref 15)) v14 v15 v16 (some (.pv (cQ a'' b'' c''))) (some (.pv (.lst [cT (gv a b c p),cT (gv a'' b'' c'' p)]))) (some (.pv (cT (gv a' b' c' p)))) q
 have h0:nT 12 (.bytes [p]) (lw (sS ω S++oU G0 G1 G2 G3 G4 R T) v0 v1 (some (.ref 7)) (some (.pv (cQ a b c))) (some (.pv (cQ a' b' c'))) v5 v6 v7 v8 v9 v10 v11 v12 (some (.ref 15)) v14 v15 v16 (some (.pv (cQ a'' b'' c''))) v18 v19 v20)=some ((),st0):=rfl
 have h1:nF [18,19] (ar [(aY (ar [(bK cV dX (aA 3) (aA 12)),(bK cV dX (aA 17) (aA 12))]) kP),(bK cV dX (aA 4) (aA 12))]) st0=some (.next,st1 v20):=by
  refine HN (st₁:=st0) (dJ ?_ (IQ hp rfl rfl)) rfl
  exact zE (dJ (IQ hp rfl rfl) (IQ hp rfl rfl)) rfl
 have h2:t2 (aA 19) (aA 18) fB (st1 v20)=some (!(decide (o=n) || decide (u=n)),st1 v20):=by
  refine(jL rfl rfl).trans ?_
  rw [aIO lo lu ln,e1,e2]
 have hno:(decide (o=n) || decide (u=n))=true→kM p o u n= []:=fun h=>by
  unfold kM
  cases h1:decide (o=n) <;> cases h2:decide (u=n) <;> first | rfl | (rw [h1,h2] at h;exact GD h)
 cases hc:(decide (o=n) || decide (u=n)) with
 |true=>
  replace h2:=(hc)▸h2
  refine⟨S,some (.pv (.bytes [p])),some (.pv (.lst [cT (gv a b c p),cT (gv a'' b'' c'' p)])),some (.pv (cT (gv a' b' c' p))),v20,⟨hg,TK _,oD _ 3⟩,(aJ h0).trans (aO h1 (cW (eV h2 ?_)))⟩
  rw [hno hc,gK]
  rfl
 |false=>
  rw [hc] at h2
  obtain⟨S',hG,ea⟩:=aHZ hg hl ko ku kn lo lu ln p hR (some (.pv (cQ a b c))) (some (.pv (cQ a' b' c'))) (some (.pv (cQ a'' b'' c''))) (wS o n++wS u n)
  refine⟨S',some (.pv (.bytes [p])),some (.pv (.lst [cT (gv a b c p),cT (gv a'' b'' c'' p)])),some (.pv (cT (gv a' b' c' p))),some (.pv (.str (wS o n++wS u n))),hG,(aJ h0).trans (aO h1 (cW (hV h2 (aO (aIb _ _ _ ko.none_iff ku.none_iff kn.none_iff _ _ _ _) (cW (ea.trans ?_))))))⟩
  have:kM p o u n= [HT p o u n]:=by
   unfold kM
   obtain⟨h3,h4⟩:=Bool.or_eq_false_iff.mp hc
   rw [h3,h4]
  refine(this).symm▸?_
  rfl
theorem Kj(p:Nat)(o u n:OE):(kM p o u n).length≤1:=by
 unfold kM
 cases decide (o=n) <;> cases decide (u=n) <;> simp
inductive Zy(ω:Dk)(G0:SO)(G1:SO)(G2:SO)(G3:SO)(G4:SO)(T:List SO)(v0:Option SV)(v1:Option SV)(v5:Option SV)(v6:Option SV)(v7:Option SV)(v8:Option SV)(v9:Option SV)(v10:Option SV)(v11:Option SV)(v12:Option SV)(v14:Option SV)(v15:Option SV)(v16:Option SV)(v18:Option SV)(v19:Option SV)(v20:Option SV)(a:Option aT)(b:Option aT)(a':Option aT)(b':Option aT)(c':Option aT)(a'':Option aT)(b'':Option aT)(c'':Option aT)(S:List It)(oa:OE)(ob:OE)(oa':OE)(ob':OE)(oc':OE)(oa'':OE)(ob'':OE)(oc'':OE):Prop
 |mk (S':_) (q12:_) (q18:_) (q19:_) (q20:_) (hh0:fJ (uL (c'.isSome || c''.isSome)) Sb (lw (sS ω S++oU G0 G1 G2 G3 G4 [] T) v0 v1 (some (.ref 7)) (some (.pv (cQ a b none))) (some (.pv (cQ a' b' c'))) v5 v6 v7 v8 v9 v10 v11 v12 (some (.ref 15)) v14 v15 v16 (some (.pv (cQ a'' b'' c''))) v18 v19 v20)=
   some (.next,lw (sS ω S'++oU G0 G1 G2 G3 G4 (kM 97 oa oa'' oa'++kM 98 ob ob'' ob'++kM 99 none oc'' oc') T) v0 v1 (some (.ref 7)) (some (.pv (cQ a b none))) (some (.pv (cQ a' b' c'))) v5 v6 v7 v8 v9 v10 v11 q12 (some (.ref 15)) v14 v15 v16 (some (.pv (cQ a'' b'' c''))) q18 q19 q20))
theorem aIa(hg:Gd S)(hl:S.length≤30)(ka:dZ S a oa)(kb:dZ S b ob)(ka':dZ S a' oa')(kb':dZ S b' ob')(kc':dZ S c' oc')(ka'':dZ S a'' oa'')(kb'':dZ S b'' ob'')(kc'':dZ S c'' oc'')
  (la:eI a) (lb:eI b) (la':eI a') (lb':eI b') (lc':eI c') (la'':eI a'') (lb'':eI b'') (lc'':eI c''):Zy ω G0 G1 G2 G3 G4 T v0 v1 v5 v6 v7 v8 v9 v10 v11 v12 v14 v15 v16 v18 v19 v20 a b a' b' c' a'' b'' c'' S oa ob oa' ob' oc' oa'' ob'' oc'':=by
 have n1:=Kj 97 oa oa'' oa'
 have n2:=Kj 98 ob ob'' ob'
 obtain⟨S1,p12,p18,p19,p20,g1,e1⟩:=Bg (.inl rfl) hg (ub hl rfl) ka ka'' ka' la la'' la' (R:=[]) (bT rfl)
 have l1:=g1.len
 obtain⟨S2,q12,q18,q19,q20,g2,e2⟩:=Bg (v12:=p12) (v14:=v14) (v15:=v15) (v16:=v16) (v18:=p18) (v19:=p19) (v20:=p20) (a:=a) (b:=b) (c:=none) (a':=a') (b':=b') (c':=c') (a'':=a'') (b'':=b'') (c'':=c'') (p:=98) (.inr (.inl rfl)) g1.gd (ub (aP l1 (lJ hl 3)) rfl) (kb.mono g1.pre) (kb''.mono g1.pre) (kb'.mono g1.pre) lb lb'' lb' (R:=[]++kM 97 oa oa'' oa') (ub n1 rfl)
 have l2:=g2.len
 have g12:=g1.pre.trans g2.pre
 obtain⟨S3,r12,r18,r19,r20,g3,e3⟩:=Bg (ω:=ω) (G0:=G0) (G1:=G1) (G2:=G2) (G3:=G3) (G4:=G4) (T:=T) (v0:=v0) (v1:=v1) (v5:=v5) (v6:=v6) (v7:=v7) (v8:=v8) (v9:=v9) (v10:=v10) (v11:=v11) (v12:=q12) (v14:=v14) (v15:=v15) (v16:=v16) (v18:=q18) (v19:=q19) (v20:=q20) (a:=a) (b:=b) (c:=none) (a':=a') (b':=b') (c':=c') (a'':=a'') (b'':=b'') (c'':=c'') (p:=99) (.inr (.inr rfl)) (o:=none) g2.gd (ub (aP l2 (lJ (aP l1 (lJ hl 3)) 3)) rfl) (by trivial) (kc''.mono g12) (kc'.mono g12) (by trivial) lc'' lc' (R:=[]++kM 97 oa oa'' oa'++kM 98 ob ob'' ob') (by rw [oA,fE];exact ub (mK n1 n2) rfl)
 rw [oA] at e1 e2 e3
 cases hb:(c'.isSome || c''.isSome) with
 |true=>
  refine⟨S3,r12,r18,r19,r20,?_⟩
  rw [hb]
  exact(gL e1).trans ((gL e2).trans ((gL e3).trans rfl))
 |false=>
  refine⟨S2,q12,q18,q19,q20,?_⟩
  rw [hb]
  obtain⟨h1,h2⟩:=Bool.or_eq_false_iff.mp hb
  have e4:oc'=none:=kc'.none_iff.mp (by simpa using h1)
  have e5:oc''=none:=kc''.none_iff.mp (by simpa using h2)
  subst e4 e5
  rw [show kM 99 none none none= [] from rfl,gK]
  exact(gL e1).trans ((gL e2).trans rfl)
end
noncomputable def wP(oi ni:PV):List Nat:=match oi,ni with
 |.none,_=>[65]
 |_,.none=>[68]
 |_,_=>[77]
noncomputable def FX(v:PV):PV:=match v with
 |.obj 7 [p,.lst [.tup [om,oi],.tup [um,ui]],nm,ni]=>.tup [p,.lst [.tup [om,oi],.tup [um,ui]],nm,ni,.str (wP oi ni++wP ui ni)]
 |_=>.none
theorem Yc(p:Nat)(o u n:OE):FX (yV p o u n)=HT p o u n:=by
 cases o <;> cases u <;> cases n <;> rfl
theorem WV(p:Nat)(o u n:OE):(jH p o u n).map FX=kM p o u n:=by
 unfold jH wN kM
 cases decide (o=n) <;> cases decide (u=n) <;> first | rfl | exact congrArg (·::[]) (Yc p o u n)
noncomputable def Ln:M SV:=(aY (ar [(ge a_path (aA 1)),(eG dK (ge VY (aA 1)) [none,none,none] (nT 1) (rt true) (ge Fj (aA 1))),(ge oL (aA 1)),(ge lO (aA 1)),(mc 7 XY (aA 1) (ar []))]) cM)
theorem aEj(p:Nat)(o u n:OE)(cs:List SO):Ln ⟨[none,some (.pv (yV p o u n))],cs⟩=some (.pv (HT p o u n),⟨[none,some (.pv (yV p o u n))],cs⟩):=by
 rcases o with _ | ⟨_ | _,i⟩ <;> rcases u with _ | ⟨_ | _,k⟩ <;> rcases n with _ | ⟨_ | _,j⟩ <;> kernel_rfl
theorem aEi{L:List PV}(hs:src st=some (.pv (.lst L),st))(h:∀ x∈L,∃ p o u n,x=yV p o u n)(hl:L.length≤10):eG dK src [none,none] (nT 1) (rt true) Ln st=some (.pv (.lst (L.map FX)),st):=by
 obtain⟨o',e⟩:=yX (g:=nT 1) (t:=rt true) (fun o=>⟨[none,o],st.cells⟩) (fun _=>true) FX L (fun _ _=>rfl) (fun _ _=>rfl) (fun x hx _=>by
  obtain⟨p,o,u,n,rfl⟩:=h x hx
  rw [Yc]
  exact aEj p o u n st.cells) none
 rw [List.filter_eq_self.mpr (fun _ _=>rfl)] at e
 exact tX (st₂:=⟨[none,o'],st.cells⟩) hs rfl (ub hl rfl) e
theorem WW(p:Nat)(o u n:OE):∀ x∈jH p o u n,∃ p o u n,x=yV p o u n:=by
 intro x hx
 unfold jH wN at hx
 cases h1:decide (o=n) <;> cases h2:decide (u=n) <;> rw [h1] at hx <;> simp [h2] at hx
 exact⟨p,o,u,n,hx⟩
theorem aKx(p:Nat)(o u n:OE):rf 7 (HT p o u n)=true:=by
 rcases o with _ | ⟨_,i⟩ <;> rcases u with _ | ⟨_,k⟩ <;> rcases n with _ | ⟨_,j⟩ <;> rfl
theorem Dr(p:Nat)(o u n:OE):∀ x∈kM p o u n,rf 7 x=true:=by
 intro x hx
 unfold kM at hx
 cases h1:decide (o=n) <;> cases h2:decide (u=n) <;> rw [h1,h2] at hx <;> simp at hx
 rw [hx]
 exact aKx p o u n
theorem Dc{vo vn:Option aT}(ko:dZ S vo o)(kn:dZ S vn n)(lo:eI vo)(ln:eI vn)(hr:o≠n→Rv vo vn):∀ c∈sX p o n vo vn,c.ok S:=by
 intro c hc
 unfold sX at hc
 rcases rC p o n with⟨_,e⟩ | ⟨h,hne,e⟩ <;> rw [e] at hc
 ·cases hc
 ·rw [List.mem_singleton.mp hc]
  exact⟨h,ko,kn,lo,ln,fun _=>(hr hne).nm⟩
theorem Oe(k:dZ S (some v) (some (x,i))):gS S i=(bJ v.z v.ns).map hsh:=by
 unfold gS
 rw [k.2]
theorem aMg(hle:0 < least)(hm:m < 100)(ko:dZ S (some v) o)(kn:dZ S (some w) n)(hv:Wf m v)(hw:Wf m w):(jD least 40 S (p,o,n)).isSome=decide (least≤10*cF (bJ w.z w.ns) (bJ v.z v.ns)):=by
 cases o with
 |none=>exact ko.elim
 |some o=>cases n with
  |none=>exact kn.elim
  |some n=>
   obtain⟨x,i⟩:=o
   obtain⟨y,j⟩:=n
   have g:gI S i j=10*cF (bJ w.z w.ns) (bJ v.z v.ns):=by
    unfold gI
    refine(Oe ko).symm▸(Oe kn).symm▸?_
    exact aGr (Bb fun q hq=>sH (hv.le q hq) hm) (Bb fun q hq=>sH (hw.le q hq) hm) ((sU _ _).trans hv.len)
   unfold jD
   dsimp only
   refine(g).symm▸?_
   by_cases hij:i=j
   ·subst hij
    have e:bJ v.z v.ns=bJ w.z w.ns:=by
     exact aBG (ko.2.symm.trans kn.2)
    have z:cF (bJ w.z w.ns) (bJ v.z v.ns)=0:=by
     unfold cF
     refine(e).symm▸(As _ _ fun x hx=>hx).symm▸?_
     rfl
    rw [z,decide_eq_true rfl,decide_eq_false (Int.not_le.mpr hle:¬least≤10*0)]
    rfl
   ·refine(decide_eq_false hij).symm▸?_
    cases decide (least≤10*cF (bJ w.z w.ns) (bJ v.z v.ns)) <;> rfl
theorem aBD(c:Ch):jD least 41 S c=none:=by
 obtain⟨p,o,n⟩:=c
 rcases o with _ | ⟨x,i⟩ <;> rcases n with _ | ⟨y,j⟩ <;> first | rfl | skip
 unfold jD
 dsimp only
 cases decide (i=j) <;> rfl
theorem Jk:∀(D:List Ch),gV least 41 S D=D.map cp
 | []=>rfl
 |c::D=>by
  unfold gV
  rw [AG,aBD]
  show bk none c++gV least 41 S D=_
  rw [Jk D]
  obtain⟨p,o,n⟩:=c
  rfl
theorem Ay:∀(D:List Ch),(D.flatMap fun c=>uC (jD least 40 S c).isSome c)=(gV least 40 S D).map iO
 | []=>rfl
 |c::D=>by
  unfold gV
  rw [AG,AG,cU,aBF,Ay D]
  rfl
theorem Kq(f:Ch→Option Int):∃ L,Sh p ((dC p (some (x,i)) n).flatMap fun c=>bk (f c) c) L∧L.map iO=((dC p (some (x,i)) n).map cp).map iO∧∀ v∈L,∃ w,CF p w v:=by
 rcases rC p (some (x,i)) n with⟨_,e⟩ | ⟨_,_,e⟩ <;> rw [e]
 ·exact⟨[],.nil,rfl,fun v h=>by cases h⟩
 ·have e':([(p,some (x,i),n)].flatMap fun c=>bk (f c) c)=bk (f (p,some (x,i),n)) (p,some (x,i),n):=by simp
  refine(e').symm▸?_
  cases n with
  |none=>
   refine⟨[gX [68] (mo x) (aN i) (.bytes [p]) 0 .none .none .none],?_,rfl,fun v h=>⟨0,List.mem_singleton.mp h▸ .d ..⟩⟩
   have:bk (f (p,some (x,i),none)) (p,some (x,i),none)= [gX [68] (mo x) (aN i) (.bytes [p]) 0 .none .none .none]:=by cases f (p,some (x,i),none) <;> rfl
   refine(this).symm▸?_
   exact .d ..
  |some n=>
   obtain⟨y,j⟩:=n
   cases f (p,some (x,i),some (y,j)) with
   |none=>exact⟨_,.m (mo x) (aN i) (mo y) (aN j),rfl,fun v h=>⟨1,List.mem_singleton.mp h▸ .m ..⟩⟩
   |some g=>exact⟨_,.b (mo x) (aN i) (mo y) (aN j) g,rfl,fun v h=>⟨1,List.mem_singleton.mp h▸ .m ..⟩⟩
theorem aDG(f:Ch→Option Int):MN p ((dC p none n).flatMap fun c=>bk (f c) c)∧((dC p none n).flatMap fun c=>bk (f c) c)=(dC p none n).map cp:=by
 rcases rC p none n with⟨_,e⟩ | ⟨h,_,e⟩ <;> rw [e]
 ·exact⟨.nil,rfl⟩
 ·have e':([(p,none,n)].flatMap fun c=>bk (f c) c)=bk (f (p,none,n)) (p,none,n):=by simp
  refine(e').symm▸?_
  cases n with
  |none=>rcases h with h | h <;> exact absurd rfl h
  |some n=>
   obtain⟨y,j⟩:=n
   have:bk (f (p,none,some (y,j))) (p,none,some (y,j))= [gX [65] 0 .none .none (mo y) (aN j) (.bytes [p]) .none]:=by cases f (p,none,some (y,j)) <;> rfl
   refine(this).symm▸?_
   exact⟨.a ..,rfl⟩
inductive aAb(f:Ch→Option Int)(x:Bool)(y:Bool)(i:Nat)(j:Nat)(a':OE)(b':OE)(c':OE):Prop
 |mk (L:_) (hh0:(∀ ex,EI [.pv (.lst ((dif (some (x,i)) (some (y,j)) none a' b' c').flatMap fun c=>bk (f c) c))] ex=some (.pv (.lst L),ex))) (hh1:L.map iO=((dif (some (x,i)) (some (y,j)) none a' b' c').map cp).map iO) (hh2:L.length≤10) (hh3:∀ v∈L,∃ p w,CF p w v)
theorem aJP(f:Ch→Option Int):aAb f x y i j a' b' c':=by
 obtain⟨A,hA,rA,cA⟩:=Kq f
 obtain⟨B,hB,rB,cB⟩:=Kq f
 obtain⟨hC,eC⟩:=aDG f
 refine⟨A++B++((dC 99 none c').flatMap fun c=>bk (f c) c),?_,?_,?_,?_⟩
 ·intro ex
  have:=aJO hA hB hC ex
  unfold dif
  refine(TA).symm▸(TA).symm▸?_
  exact this
 ·unfold dif
  rw [eC]
  simp only [cU]
  rw [rA,rB]
 ·have l1:=congrArg AH rA
  have l2:=congrArg AH rB
  have k1:=yW 97 (some (x,i)) a'
  have k2:=yW 98 (some (y,j)) b'
  have k3:=yW 99 none c'
  rw [eC]
  simp only [bQ] at l1 l2
  simp only [fE,bQ]
  exact ub (mK (mK (aP (dQ l1) k1) (aP (dQ l2) k2)) k3) rfl
 ·intro v hv
  rw [uO,uO] at hv
  rcases hv with(hv | hv) | hv
  ·obtain⟨w,h⟩:=cA v hv;exact⟨_,w,h⟩
  ·obtain⟨w,h⟩:=cB v hv;exact⟨_,w,h⟩
  ·rw [eC] at hv
   obtain⟨w,h⟩:=HU 99 none c' v hv
   exact⟨_,w,h⟩
theorem aEu(a b c a' b' c':OE):∀ v∈(dif a b c a' b' c').map cp,∃ p w,CF p w v:=by
 intro v hv
 unfold dif at hv
 rw [cU,cU,uO,uO] at hv
 rcases hv with(hv | hv) | hv <;> exact⟨_,HU _ _ _ v hv⟩
theorem aBE(h:∀ c∈D,one c.2.1 c.2.2):∀ v∈gV least size S D,∃ p w,CF p w v:=by
 intro v hv
 unfold gV at hv
 obtain⟨k,hk,hv⟩:=List.mem_flatMap.mp hv
 obtain⟨w,hw⟩:=Jm (h k hk) v hv
 exact⟨_,w,hw⟩
theorem Jl:∀(D:List Ch),(gV least size S D).length≤2*D.length
 | []=>cX _
 |c::D=>by
  have h:=Jn (jD least size S c) c
  have h2:=Jl (least:=least) (size:=size) (S:=S) D
  unfold gV at h2 ⊢
  rw [AG,fE,tP]
  exact aP (mK h h2) (dQ (vV 2 _))
theorem aKO:rf 7 (iO (cp c))=true:=by
 obtain⟨p,o,n⟩:=c
 rcases o with _ | ⟨x,i⟩ <;> rcases n with _ | ⟨y,j⟩ <;> rfl
theorem Dw(D:List Ch):∀ x∈(D.map cp).map iO,rf 7 x=true:=by
 intro x hx
 rw [iT] at hx
 obtain⟨c,_,rfl⟩:=List.mem_map.mp hx
 exact aKO
theorem aKF(b:Bool)(c:Ch):∀ x∈uC b c,rf 7 x=true:=by
 obtain⟨p,o,n⟩:=c
 intro v hv
 cases b <;> rcases o with _ | ⟨x,i⟩ <;> rcases n with _ | ⟨y,j⟩ <;> simp [uC] at hv <;> first | (rw [hv];rfl) | (rcases hv with rfl | rfl <;> rfl)
theorem aKv(D:List Ch):∀ x∈(gV least 40 S D).map iO,rf 7 x=true:=by
 intro x hx
 rw [←Ay] at hx
 obtain⟨c,_,hx⟩:=List.mem_flatMap.mp hx
 exact aKF _ _ x hx
theorem El(hle:0 < least){vo vn:Option aT}(hm:m < 100)(h:one o n)(ko:dZ S vo o)(kn:dZ S vn n)(wo:vQ m vo)(wn:vQ m vn)
  (g1:∀ v,vo=some v→∀ st,aV (.pv P) (.pv (.bytes [p])) st=some (.pv (vp v),st)) (g2:∀ v,vn=some v→∀ st,aV (.pv Q) (.pv (.bytes [p])) st=some (.pv (vp v),st)):KS P Q (jD least 40 S (p,o,n)).isSome least (p,o,n):=by
 cases o with
 |none=>cases n with
  |none=>rcases h with h | h <;> exact absurd rfl h
  |some n=>trivial
 |some o=>cases n with
  |none=>trivial
  |some n=>cases vo with
   |none=>exact ko.elim
   |some v=>cases vn with
    |none=>exact kn.elim
    |some w=>exact⟨v,w,g1 v rfl,g2 w rfl,(sU _ _).trans (Wf.len wo),aMg hle hm ko kn wo wn⟩
theorem XA(h:c∈dC p o n):c=(p,o,n)∧one o n:=by
 rcases rC p o n with⟨_,e⟩ | ⟨h1,_,e⟩ <;> rw [e] at h
 ·exact(nomatch h)
 ·exact⟨List.mem_singleton.mp h,h1⟩
theorem yM.le(h:yM n r n'):n'≤n+10:=by cases h with
 |no=>exact oD _ _
 |mk=>exact cX _
theorem aHz(xs:List Int)(h:xs.length≤63):∃ c,Mz [.pv (.lst (xs.map .int))] []=some (.pv (.bool true),c):=by
 let A:Option SV:=some (.pv (.lst (xs.map .int)))
 obtain⟨ys,mx,hy,ed⟩:=aEp xs h
 let ω0:Dk:=⟨ys,mx,0⟩
 obtain⟨za,ys1,mx1,hy1,f1⟩:=YW ω0 hy (bT rfl)
 let ω1:Dk:=(ω0.inc 10).dr ys1 mx1
 obtain⟨zb,ys2,mx2,hy2,f2⟩:=YW ω1 hy1 (bT rfl)
 let ω2:Dk:=(ω1.inc 10).dr ys2 mx2
 let va:aT:=fV za 0
 let vb:aT:=fV zb 10
 obtain⟨a,b,c,n1,n2,ω3,sa,sb,sc,hy3,fn⟩:=Ta va vb rfl wX rfl wX [] [] ω2 hy2 (bT rfl)
 let n3:=ω3.n
 have wva:Wf 20 va:=(ZE).mono (bT rfl)
 have wvb:Wf 20 vb:=ZE
 obtain⟨wa,ra,ia⟩:=sa.wf wva
 obtain⟨wb,rb,ib⟩:=sb.wf (wvb.mono ia)
 obtain⟨wc,rc,ic⟩:=sc.wf
 have h1:=sa.le
 have h2:=sb.le
 have h3:=sc.le
 obtain⟨d,ys4,mx4,hd0,ZR,hy4,fd⟩:=HX 3 (by decide) ω3 hy3
 let ω4:Dk:=ω3.dr ys4 mx4
 obtain⟨least,hle,fl⟩:∃ least:Int,0 < least∧∀ st,aV (.pv (.lst [.int 10,.int 60,.int 100])) (.pv (.int d)) st=some (.pv (.int least),st):=by
  have:d=0∨d=1∨d=2:=by
   obtain⟨n,rfl⟩:=SQ hd0
   exact(PN n (Hl (Int.ofNat_lt.mp ZR))).imp (congrArg Int.ofNat) (Or.imp (congrArg Int.ofNat) (congrArg Int.ofNat))
  rcases this with rfl | rfl | rfl
  ·exact⟨10,by decide,fun st=>by rfl⟩
  ·exact⟨60,by decide,fun st=>by rfl⟩
  ·exact⟨100,by decide,fun st=>by rfl⟩
 obtain⟨S1,i,oa,ob,oc,G1,ka,kb,kc,hi,t1⟩:=Fi (some va) (some vb) none (Wf.len wva) (Wf.len wvb) trivial ω4 [] ⟨pH,fun _ h=>by cases h⟩ (bT rfl)
 have l1:S1.length≤4:=G1.to (cX 0) rfl
 obtain⟨S2,j,oa1,ob1,oc1,G2,ka1,kb1,kc1,hj,t2⟩:=Fi a b c (mU wa) (mU wb) (mU wc) ω4 S1 G1.gd (aP l1 (bT rfl))
 have l2:S2.length≤8:=G2.to l1 rfl
 have ka:=ka.mono G2.pre
 have kb:=kb.mono G2.pre
 have hi:=KI G2.pre hi
 obtain⟨ax,ai,rfl⟩:∃ x i,oa=some (x,i):=by
  cases oa with
  |none=>exact ka.elim
  |some o=>exact⟨o.1,o.2,rfl⟩
 obtain⟨bx,bi,rfl⟩:∃ x i,ob=some (x,i):=by
  cases ob with
  |none=>exact kb.elim
  |some o=>exact⟨o.1,o.2,rfl⟩
 obtain rfl:oc=none:=kc.none_iff.mp rfl
 clear kc
 have fdiff:=Lw ω4 S2 hi hj
 have h23:n1≤n3:=aP ib ic
 have h20:20≤n3:=aP ia h23
 have wo1:vQ n3 (some va):=wva.mono h20
 have wo2:vQ n3 (some vb):=wvb.mono h20
 have wn1:vQ n3 a:=by
  cases a with
  |none=>trivial
  |some v=>exact Wf.mono wa h23
 have wn2:vQ n3 b:=by
  cases b with
  |none=>trivial
  |some v=>exact Wf.mono wb ic
 have hn3:n3≤50:=aP h3 (lJ (aP h2 (lJ h1 10)) 10)
 have h100:n3 < 100:=sH hn3 (bT rfl)
 have hn3:ω4.n+30≤99:=aP (lJ hn3 30) (bT rfl)
 let pcs:List Pc:=sX 97 (some (ax,ai)) oa1 (some va) a++sX 98 (some (bx,bi)) ob1 (some vb) b++sX 99 none oc1 none c
 have hch:pcs.map Pc.ch=(dif (some (ax,ai)) (some (bx,bi)) none oa1 ob1 oc1):=by
  rw [cU,cU,Cz,Cz,Cz]
  rfl
 have hcp:(pcs.map fun c=>cp c.ch)=(dif (some (ax,ai)) (some (bx,bi)) none oa1 ob1 oc1).map cp:=by
  rw [←hch,iT]
  rfl
 have hpl:pcs.length≤3:=by
  have:=congrArg AH hch
  rw [bQ] at this
  rw [this]
  exact DY ..
 have hpc:∀ c∈pcs,c.ok S2:=by
  intro k hk
  rcases List.mem_append.mp hk with hk | hk
  ·rcases List.mem_append.mp hk with hk | hk
   ·exact Dc ka ka1 (Wf.len wva) (mU wa) (fun _=>ra) k hk
   ·exact Dc kb kb1 (Wf.len wvb) (mU wb) (fun _=>rb) k hk
  ·refine Dc (by trivial) kc1 (by trivial) (mU wc) (fun hne=> ?_) k hk
   rcases rc with e | e
   ·exact absurd (kc1.none_iff.mp e).symm hne
   ·exact e
 have fnum:=aIY ω4 S2 pcs hpc hpl
 rw [hcp] at fnum
 have hexp:=aFn (LH G2.gd ka ka1) (LH G2.gd kb kb1) (LH G2.gd trivial kc1)
 have ea:=LI wo1 h100 ka
 have eb:=LI wo2 h100 kb
 have ea1:=LI wn1 h100 ka1
 have eb1:=LI wn2 h100 kb1
 have ec1:=LI wc h100 kc1
 have fbr:=Js ω4 S2 (c:=none) ea eb trivial ea1 eb1 ec1 (least:=least) (.inl rfl)
 have fbr1:=Js ω4 S2 (c:=none) ea eb trivial ea1 eb1 ec1 (least:=least) (size:=41) (.inr rfl)
 have hshc:∀ k∈(dif (some (ax,ai)) (some (bx,bi)) none oa1 ob1 oc1),KS (cQ (some va) (some vb) none) (cQ a b c) (jD least 40 S2 k).isSome least k:=by
  intro k hk
  unfold dif at hk
  rcases List.mem_append.mp hk with hk | hk
  ·rcases List.mem_append.mp hk with hk | hk
   ·obtain⟨rfl,h1⟩:=XA hk
    exact El hle h100 h1 ka ka1 wo1 wn1 (fun v hv=>KU _ _ _ (.inl rfl) hv) (fun v hv=>KU _ _ _ (.inl rfl) hv)
   ·obtain⟨rfl,h1⟩:=XA hk
    exact El hle h100 h1 kb kb1 wo2 wn2 (fun v hv=>KU _ _ _ (.inr (.inl rfl)) hv) (fun v hv=>KU _ _ _ (.inr (.inl rfl)) hv)
  ·obtain⟨rfl,h1⟩:=XA hk
   exact El (vo:=none) hle h100 h1 trivial kc1 trivial wc (fun v hv=>by exact JQ hv) (fun v hv=>KU _ _ _ (.inr (.inr rfl)) hv)
 have flb:=aHC (P:=(cQ (some va) (some vb) none)) (Q:=(cQ a b c)) (least:=least) (fun k=>(jD least 40 S2 k).isSome) (dif (some (ax,ai)) (some (bx,bi)) none oa1 ob1 oc1) hshc (DY ..)
 obtain⟨LR,frj,hrj,hrl,hrc⟩:=aJP (jD least 40 S2) (x:=ax) (y:=bx) (i:=ai) (j:=bi) (a':=oa1) (b':=ob1) (c':=oc1)
 obtain⟨a2,b2,c2,m1,m2,ω5,sa2,sb2,sc2,hy5,fn2⟩:=Ta va vb rfl wX rfl wX (S2.map It.key) (S2.map It.val) ω4 hy4 hn3
 obtain⟨wa2,_,ia2⟩:=sa2.wf (wva.mono h20)
 obtain⟨wb2,_,ib2⟩:=sb2.wf (wvb.mono (aP h20 ia2))
 obtain⟨wc2,_,_⟩:=sc2.wf
 obtain⟨S3,k,oa2,ob2,oc2,G3,ka2,kb2,kc2,hk,t3⟩:=Fi a2 b2 c2 (mU wa2) (mU wb2) (mU wc2) ω5 S2 G2.gd (aP l2 (bT rfl))
 have l3:S3.length≤12:=G3.to l2 rfl
 have fcm:=aDW ω5 S3 (KI G3.pre hi) hk (KI G3.pre hj)
 have hD3:((dif (some (ax,ai)) (some (bx,bi)) none oa1 ob1 oc1).map cp).length≤10:=by
  rw [bQ]
  exact aP (DY ..) (bT rfl)
 have hbl:(gV least 40 S2 (dif (some (ax,ai)) (some (bx,bi)) none oa1 ob1 oc1)).length≤10:=aP (Jl _) (ub (GU 2 (DY ..)) rfl)
 have hdo:=Lv (some (ax,ai)) (some (bx,bi)) none oa1 ob1 oc1
 have hdc:=aEu (some (ax,ai)) (some (bx,bi)) none oa1 ob1 oc1
 rw [Jk] at fbr1
 rw [show((dif (some (ax,ai)) (some (bx,bi)) none oa1 ob1 oc1).map fun c=>iO (cp c))=((dif (some (ax,ai)) (some (bx,bi)) none oa1 ob1 oc1).map cp).map iO by rw [iT];rfl,Ay] at flb
 have hbc:∀ v∈gV least 40 S2 (dif (some (ax,ai)) (some (bx,bi)) none oa1 ob1 oc1),∃ p w,CF p w v:=aBE hdo
 have hrj':∀ ex,EI [.pv (.lst (gV least 40 S2 (dif (some (ax,ai)) (some (bx,bi)) none oa1 ob1 oc1)))] ex=some (.pv (.lst LR),ex):=frj
 clear frj hshc
 generalize (dif (some (ax,ai)) (some (bx,bi)) none oa1 ob1 oc1)=D at*
 let P:PV:=cQ (some va) (some vb) none
 let Q:PV:=cQ a b c
 let M:PV:=cQ a2 b2 c2
 let E:List PV:=D.map cp
 let F:List PV:=E.map iO
 let B:List PV:=gV least 40 S2 D
 let X:List PV:=jH 97 (some (ax,ai)) oa2 oa1++jH 98 (some (bx,bi)) ob2 ob1++jH 99 none oc2 oc1
 let Y:List PV:=kM 97 (some (ax,ai)) oa2 oa1++kM 98 (some (bx,bi)) ob2 ob1++kM 99 none oc2 oc1
 let T:List SO:=g2 (mD (some va) (some vb) none) (mD a b c) (mD a2 b2 c2)
 let I:List PV:=mD (some va) (some vb) none
 let J:List PV:=mD a b c
 have lsh:∀ p,oT p→eI (gv (some va) (some vb) none p):=by rintro _ (rfl | rfl | rfl) <;> first | exact Wf.len wva | exact Wf.len wvb | trivial
 have lnx:∀ p,oT p→eI (gv a b c p):=by rintro _ (rfl | rfl | rfl) <;> first | exact mU wa | exact mU wb | exact mU wc
 obtain⟨S4,q12,q18,q19,q20,elz⟩:=aIa (ω:=ω5) (G0:=SO.list I) (G1:=SO.list J) (G2:=SO.list (I++J)) (G3:=gk (jV .bytes (I++J) [] [])) (G4:=SO.dead) (T:=T) (v0:=A) (v1:=some (.ref 2)) (v5:=(some (.pv (.int least)))) (v6:=(some (.ref 5))) (v7:=(some (.pv (aN i)))) (v8:=(some (.pv (aN j)))) (v9:=(some (.pv (.lst E)))) (v10:=(some (.pv (.lst F)))) (v11:=(some (.pv (.lst (uL c.isSome))))) (v12:=none) (v14:=(some (.pv (.lst X)))) (v15:=(some (.pv (.lst B)))) (v16:=(some (.pv (.lst E)))) (v18:=none) (v19:=none) (v20:=none) (S:=S3) (a:=some va) (b:=some vb) G3.gd (aP l3 (bT rfl)) (ka.mono G3.pre) (kb.mono G3.pre) (ka1.mono G3.pre) (kb1.mono G3.pre) (kc1.mono G3.pre) ka2 kb2 kc2 (Wf.len wva) (Wf.len wvb) (mU wa) (mU wb) (mU wc) (mU wa2) (mU wb2) (mU wc2)
 let l0:Option SV:=some (.ref 2)
 let l1:Option SV:=some (.ref 7)
 let l2:Option SV:=some (.pv P)
 let l3:Option SV:=some (.pv Q)
 let l4:Option SV:=some (.pv (.int least))
 let l5:Option SV:=some (.ref 5)
 let l6:Option SV:=some (.pv (aN i))
 let l7:Option SV:=some (.pv (aN j))
 let l8:Option SV:=some (.pv (.lst E))
 let l9:Option SV:=some (.pv (.lst F))
 let l10:Option SV:=some (.pv (.lst (uL c.isSome)))
 let l11:Option SV:=some (.ref 15)
 let l12:Option SV:=some (.pv (.lst X))
 let l13:Option SV:=some (.pv (.lst B))
 let l14:Option SV:=some (.pv M)
 let u0:St:=lw (sS ω5 S4++oU (SO.list I) (SO.list J) (SO.list (I++J)) (gk (jV .bytes (I++J) [] [])) (SO.dead) Y T) A l0 l1 l2 l3 l4 l5 l6 l7 l8 l9 l10 q12 l11 l12 l13 l8 l14 q18 q19 q20
 let A1:List SO:=[SO.dead,SO.list (ys.map .int),SO.sdict .str [.str [108,101,102,116],.str [109,105,120,101,100]] [.ref 1,.pv (.int mx)]]
 let u1:St:=lw (s8 ω0 [] []++[]) A l0 l1 none none none none none none none none none none none none none none none none none none
 refine⟨_,eJ (bs:=[.pv (.lst (xs.map .int))]) (st:=u0) (by rfl) ?_⟩
 refine aO (st₁:=u1) (HN (u:=()) (as:=[.ref 2,.ref 7]) (st₁:=lw (s8 ω0 [] []++[]) A none none none none none none none none none none none none none none none none none none none none) (dJ (a:=.ref 2) (b:=.ref 7) (st₁:=lw A1 A none none none none none none none none none none none none none none none none none none none none) (gF (as:=[.pv (.lst (xs.map .int))]) (st₁:=lw [] A none none none none none none none none none none none none none none none none none none none none) (by rfl) ed) (by kernel_rfl)) (by rfl)) ?_
 let u2:St:=lw (s8 ω2 [] []++[SO.dead]) A l0 l1 l2 none none none none none none none none none none none none none none none none none
 let u3:St:=lw (s8 ω2 [] []++[SO.dead]) A l0 l1 none none none none none none none none none none none none none none none none none none
 let u4:St:=lw (s8 ω2 [] []++[SO.dict .bytes [.bytes [97],.bytes [98]] [vp va,vp vb]]) A l0 l1 none none none none none none none none none none none none none none none none none none
 let u5:St:=lw (s8 ω2 [] []++[]) A l0 l1 none none none none none none none none none none none none none none none none none none
 let u6:St:=lw (s8 ω1 [] []++[]) A l0 l1 none none none none none none none none none none none none none none none none none none
 refine aO (st₁:=u2) (iI (v:=.pv P) (st₁:=u3) (eU (a:=.ref 8) (st₁:=u4) ((OS (as:=[.pv (vp va),.pv (vp vb)]) (st₁:=u5) (dJ (gF (as:=[.ref 2,.ref 7]) (st₁:=u1) (by rfl) (f1 [] [] [])) (gF (as:=[.ref 2,.ref 7]) (st₁:=u6) (by rfl) (f2 [] [] [])))).trans (by rfl)) (by rfl))) ?_
 let u7:St:=lw (s8 ω3 [] []++[SO.dead]) A l0 l1 l2 l3 none none none none none none none none none none none none none none none none
 let u8:St:=lw (s8 ω3 [] []++[SO.dead]) A l0 l1 l2 none none none none none none none none none none none none none none none none none
 refine aO (st₁:=u7) (iI (v:=.pv Q) (st₁:=u8) (gF (as:=[.ref 2,.ref 7,.pv P]) (st₁:=u2) (by rfl) (fn [SO.dead]))) ?_
 let u9:St:=lw (s8 ω4 [] []++[SO.dead]) A l0 l1 l2 l3 l4 none none none none none none none none none none none none none none none
 let u10:St:=lw (s8 ω4 [] []++[SO.dead]) A l0 l1 l2 l3 none none none none none none none none none none none none none none none none
 refine aO (st₁:=u9) (iI (v:=.pv (.int least)) (st₁:=u10) ((uZ (a:=.pv (.lst [.int 10,.int 60,.int 100])) (b:=.pv (.int d)) (st₁:=u7) (st₂:=u10) (by rfl) (gF (as:=[.ref 2,.pv (.int 3)]) (st₁:=u7) (by rfl) (fd [] [] [SO.dead]))).trans (fl _))) ?_
 let u11:St:=lw (sS ω4 S2++[SO.dead]) A l0 l1 l2 l3 l4 l5 l6 l7 none none none none none none none none none none none none
 let u12:St:=lw (sS ω4 []++[SO.dead]) A l0 l1 l2 l3 l4 none none none none none none none none none none none none none none none
 let u13:St:=lw (sS ω4 S1++[SO.dead]) A l0 l1 l2 l3 l4 none none none none none none none none none none none none none none none
 let u14:St:=lw (sS ω4 S2++[SO.dead]) A l0 l1 l2 l3 l4 none none none none none none none none none none none none none none none
 refine aO (st₁:=u11) (DM (u:=()) (as:=[.ref 5,.pv (aN i),.pv (aN j)]) (st₁:=u14) (nD (a:=.ref 5) (st₁:=u12) (by rfl) (dJ (gF (as:=[.ref 7,.pv P]) (st₁:=u12) (by rfl) (t1 [SO.dead])) (gF (as:=[.ref 7,.pv Q]) (st₁:=u13) (by rfl) (t2 [SO.dead])))) (by rfl)) ?_
 let u15:St:=lw (sS ω4 S2++[SO.dead]) A l0 l1 l2 l3 l4 l5 l6 l7 l8 none none none none none none none none none none none
 refine aO (st₁:=u15) (iI (gF (as:=[.ref 5,.pv (aN i),.pv (aN j)]) (st₁:=u11) (by rfl) (fdiff [SO.dead]))) ?_
 let u16:St:=lw (sS ω4 S2++[SO.dead]) A l0 l1 l2 l3 l4 l5 l6 l7 l8 l9 none none none none none none none none none none
 refine aO (st₁:=u16) (iI (KO (st:=u15) (l:=D.map cp) (by rfl) hdc hD3)) ?_
 let u17:St:=lw (sS ω4 S2++(SO.dead::g1 I J)) A l0 l1 l2 l3 l4 l5 l6 l7 l8 l9 l10 none none none none none none none none none
 let u18:St:=lw (sS ω4 S2++(SO.dead::g1 I J)) A l0 l1 l2 l3 l4 l5 l6 l7 l8 l9 none none none none none none none none none none
 refine aO (st₁:=u17) (iI (v:=.pv (.lst (uL c.isSome))) (st₁:=u18) (aPC rfl rfl)) ?_
 let l15:Option SV:=some (.pv (.lst (pcs.map xF)))
 let u19:St:=lw (sS ω4 S2++(SO.dead::g1 I J)) A l0 l1 l2 l3 l4 l5 l6 l7 l8 l9 l10 none l15 none none none none none none none
 refine aO (st₁:=u19) (iI (v:=.pv (.lst (pcs.map xF))) (st₁:=u17) ((aFm (a:=some va) (b:=some vb) (c:=none) (a':=a) (b':=b) (c':=c) (xs:=uL c.isSome) (by rfl) (by cases c.isSome <;> exact bT rfl) aPB (by rfl) lsh lnx).trans (by rw [hexp]))) ?_
 refine aO (st₁:=u19) (eV (st₁:=u19) ((jL (a:=.pv (.lst (pcs.map xF))) (b:=.pv (.lst (pcs.map xF))) (st₁:=u19) (st₂:=u19) (aGs (lF (as:=[.ref 5,.pv (.lst E)]) (by rfl) (fnum _)) (ub hpl rfl)) (by rfl)).trans (JP (FN fun x hx=>by obtain⟨k,_,rfl⟩:=List.mem_map.mp hx;exact aKH k) _)) (by rfl)) ?_
 let u20:St:=lw (sS ω4 S2++(SO.dead::g1 I J)) A l0 l1 l2 l3 l4 l5 l6 l7 l8 l9 l10 none l15 none l13 none none none none none
 refine aO (st₁:=u20) (iI (v:=.pv (.lst B)) (st₁:=u19) (lF (as:=[.ref 5,.pv (.lst E),.pv (.int least),.pv (.int 40)]) (by rfl) (fbr _))) ?_
 refine aO (st₁:=u20) (eV (st₁:=u20) ((jL (a:=.pv (.lst (B.map iO))) (b:=.pv (.lst (B.map iO))) (st₁:=u20) (st₂:=u20) (KO (by rfl) hbc hbl) (lF (as:=[.pv (.lst F),.pv P,.pv Q,.pv (.int least)]) (by rfl) (flb _))).trans (JP (FN (aKv D)) _)) (by rfl)) ?_
 let u21:St:=lw (sS ω4 S2++(SO.dead::g1 I J)) A l0 l1 l2 l3 l4 l5 l6 l7 l8 l9 l10 none l15 none l13 l8 none none none none
 let l16:Option SV:=some (.pv (.lst LR))
 let u22:St:=lw (sS ω4 S2++(SO.dead::g1 I J)) A l0 l1 l2 l3 l4 l5 l6 l7 l8 l9 l10 none l15 none l13 l16 none none none none
 refine aO (st₁:=u21) ((mP (a:=.pv (.tup [.lst LR,.lst E,.lst E])) (st₁:=u20) (xs:=[.lst LR,.lst E,.lst E]) (zE (as:=[.pv (.lst LR),.pv (.lst E),.pv (.lst E)]) (st₁:=u20) (nD (lF (as:=[.pv (.lst B)]) (by rfl) (hrj' _)) (dJ (by rfl) (lF (as:=[.ref 5,.pv (.lst E),.pv (.int least),.pv (.int 41)]) (by rfl) (fbr1 _)))) (by rfl)) (by rfl)).trans ((gL (st₁:=u22) ((aJ (a:=()) (st₁:=u22) (by rfl)).trans (cW (eV (st₁:=u22) ((jL (a:=.pv (.lst F)) (b:=.pv (.lst F)) (st₁:=u22) (st₂:=u22) ((KO (l:=LR) (by rfl) hrc hrl).trans (by rw [hrj])) (by rfl)).trans (JP (FN (Dw D)) _)) (by rfl))))).trans ((gL (st₁:=u21) ((aJ (a:=()) (st₁:=u21) (by rfl)).trans (cW (eV (st₁:=u21) ((jL (a:=.pv (.lst F)) (b:=.pv (.lst F)) (st₁:=u21) (st₂:=u21) ((KO (l:=E) (by rfl) hdc hD3)) (by rfl)).trans (JP (FN (Dw D)) _)) (by rfl))))).trans ((gL (st₁:=u21) ((aJ (a:=()) (st₁:=u21) (by rfl)).trans (cW (eV (st₁:=u21) ((jL (a:=.pv (.lst F)) (b:=.pv (.lst F)) (st₁:=u21) (st₂:=u21) ((KO (l:=E) (by rfl) hdc hD3)) (by rfl)).trans (JP (FN (Dw D)) _)) (by rfl))))).trans rfl)))) ?_
 let u23:St:=lw (s8 ω5 (S2.map It.key) (S2.map It.val)++(SO.dead::g1 I J)) A l0 l1 l2 l3 l4 l5 l6 l7 l8 l9 l10 none l15 none l13 l8 l14 none none none
 let u24:St:=lw (sS ω5 S2++(SO.dead::g1 I J)) A l0 l1 l2 l3 l4 l5 l6 l7 l8 l9 l10 none l15 none l13 l8 l14 none none none
 let u25:St:=lw (sS ω5 S2++(SO.dead::g1 I J)) A l0 l1 l2 l3 l4 l5 l6 l7 l8 l9 l10 none l15 none l13 l8 none none none none
 refine aO (st₁:=u24) (iI (v:=.pv M) (st₁:=u25) (gF (as:=[.ref 2,.ref 7,.pv P]) (st₁:=u21) (by rfl) (fn2 (SO.dead::g1 I J)))) ?_
 let u26:St:=lw (sS ω5 S3++oU (SO.list I) (SO.list J) (SO.list (I++J)) (gk (jV .bytes (I++J) [] [])) (SO.dead) [] []) A l0 l1 l2 l3 l4 l5 l6 l7 l8 l9 l10 none l11 l12 l13 l8 l14 none none none
 let u27:St:=lw (sS ω5 S3++oU (SO.list I) (SO.list J) (SO.list (I++J)) (gk (jV .bytes (I++J) [] [])) (SO.dead) [] []) A l0 l1 l2 l3 l4 l5 l6 l7 l8 l9 l10 none l15 none l13 l8 l14 none none none
 let u28:St:=lw (sS ω5 S3++((SO.dead::g1 I J)++[SO.dead])) A l0 l1 l2 l3 l4 l5 l6 l7 l8 l9 l10 none l15 none l13 l8 l14 none none none
 let u29:St:=lw (sS ω5 S3++((SO.dead::g1 I J)++[SO.list [aN i,aN k]])) A l0 l1 l2 l3 l4 l5 l6 l7 l8 l9 l10 none l15 none l13 l8 l14 none none none
 let u30:St:=lw (sS ω5 S3++(SO.dead::g1 I J)) A l0 l1 l2 l3 l4 l5 l6 l7 l8 l9 l10 none l15 none l13 l8 l14 none none none
 refine aO (st₁:=u26) (DM (u:=()) (as:=[.pv (.lst X),.ref 15]) (st₁:=u27) (dJ (a:=.pv (.lst X)) (b:=.ref 15) (st₁:=u28) (gF (as:=[.ref 5,.pv (.lst [aN i,aN k]),.pv (aN j)]) (st₁:=u28) (nD (a:=.ref 5) (st₁:=u24) (by rfl) (dJ (a:=.pv (.lst [aN i,aN k])) (b:=.pv (aN j)) (st₁:=u28) (eU (a:=.ref 14) (st₁:=u29) ((OS (as:=[.pv (aN i),.pv (aN k)]) (st₁:=u30) (dJ (st₁:=u24) (by rfl) (gF (as:=[.ref 7,.pv M]) (st₁:=u24) (by rfl) (t3 (SO.dead::g1 I J))))).trans (by rfl)) (by rfl)) (by rfl))) (fcm ((SO.dead::g1 I J)++[SO.dead]))) (by rfl)) (by rfl)) ?_
 let u31:St:=lw (sS ω5 S3++oU (SO.list I) (SO.list J) (SO.list (I++J)) (gk (jV .bytes (I++J) [] [])) (SO.dead) [] T) A l0 l1 l2 l3 l4 l5 l6 l7 l8 l9 l10 none l11 l12 l13 l8 l14 none none none
 refine aO (st₁:=u0) ((mP (a:=.pv (.lst (uL (c.isSome || c2.isSome)))) (st₁:=u31) (xs:=uL (c.isSome || c2.isSome)) (aPD rfl rfl rfl) (by rfl)).trans elz) ?_
 refine eZ (fC (WO (a:=.pv (.lst (X.map FX))) (b:=.ref 15) (st₁:=u0) (st₂:=u0) (aEi (by rfl) ?_ ?_) (by rfl) ?_))
 ·intro x hx
  rcases List.mem_append.mp hx with hx | hx
  ·rcases List.mem_append.mp hx with hx | hx
   ·exact WW _ _ _ _ x hx
   ·exact WW _ _ _ _ x hx
  ·exact WW _ _ _ _ x hx
 ·have h1:=HS 97 (some (ax,ai)) oa2 oa1
  have h2:=HS 98 (some (bx,bi)) ob2 ob1
  have h3:=HS 99 none oc2 oc1
  rw [fE,fE]
  exact ub (mK (mK h1 h2) h3) rfl
 ·show eW (iX 8 (.lst (X.map FX)) (.lst Y)) rt u0=_
  rw [cU,cU,WV,WV,WV]
  refine onSome_eq (NS (FN fun x hx=> ?_))
  rcases List.mem_append.mp hx with hx | hx
  ·rcases List.mem_append.mp hx with hx | hx
   ·exact Dr _ _ _ _ x hx
   ·exact Dr _ _ _ _ x hx
  ·exact Dr _ _ _ _ x hx
section
set_option tactic.hygienic true
open PySem.Calls PyProof.Rows
theorem aGJ{vs:List aB}{xs:List Int}(h:IntsAre vs xs):aS jN xs vs:=by
 induction h with
 |nil=>exact rfl
 |cons n t _ ih=>exact .mk (jN.mk t) ih
theorem aHy{p:hO}{w:dW}{s:aG}{mg mb:Str→Option aB}{l fa:Addr}{vs:List aB}{xs:List Int}{ep:Nat}{R:aB→aG→Prop}{K:Frag}(KX:K.In s.heap)(hF:CR K AY)(hlim:s.heap.NoLimit)(hsys:∃ o,s.heap.get? rY=some o)(hg:s.heap.Ns jU mg)(hb:s.heap.Ns wL mb)(hbb:∀ x:Str,x≠"__name__"→mb x=bootBuiltins x)
  (hmg:mg "law"=some (.ref fa)) (ho:s.heap.get? l=some {cls:=.type "list",data:=.seq vs.toArray ep}) (hI:IntsAre vs xs) (hlen:xs.length≤63)
  (hR:∀ s',(∀ b o,s.heap.get? b=some o→s'.heap.get? b=some o)→s'.gens=s.gens→s'.os=s.os→R (.bool true) s'):bA (aK p w) callerA (call (.ref fa) [.ref l]) R s:=by
 let C:Cx:=⟨p,w,s.heap,K,s.gens,s.drawn,s.os,AY,EJ,hsys,KX,hlim⟩
 have H:bL C:=aGx (C:=C) hF rfl hg hb hbb
 cases (show some (qB fa)=some (.ref 1012) from hmg.symm.trans (mg_of KX hg (QW (congrArg (fun x=>x.2.2.2.2.2.2.1) hF.x))))
 let X:Xt:=⟨fun a=>(s.heap.get? a).map .fro,fun _=>0,fun _=>0⟩
 have no:∀ {a r},X.W a=some r→∃ o,r= .fro o∧s.heap.get? a=some o:=fun {a r} e=>by
  obtain⟨o',h1,h2⟩:=Option.map_eq_some_iff.mp (show(s.heap.get? a).map bS.fro=some r from e)
  exact⟨o',h2.symm,h1⟩
 have RC:RelC C X [] s:=⟨⟨rfl,rfl,rfl⟩,(fun b o e=>congrArg (Option.map bS.fro) (show s.heap.get? b=some o from e)),(fun a r e=>by obtain⟨o,rfl,h⟩:=no e;exact h),fun k c e=>by cases e⟩
 obtain⟨cs,hf⟩:=aHz xs hlen
 refine RQ (aKA H ⟨X,s,RC⟩ (A:=callerA) (args:=[.pv (.lst (xs.map .int))]) (vals:=[.ref l]) ⟨rfl,by decide+kernel,by decide+kernel⟩ (.one (oI.mk l vs ep (congrArg (Option.map bS.fro) ho) (by rw [iC];exact aS.map xs vs (aGJ hI)))) _ _ hf _ fun z x le d=> ?_)
 cases d
 exact hR _ (fun b o e=>z.R.keeps0 b o e) z.R.still.gens z.R.still.os
theorem aQl{P:Params}{h:Heap}{l:Addr}{vs:List aB}{xs:List PyData}(w:Well P h (.ref l) (ofPy (.list xs)))(hl:h.IsList l vs.toArray):h.get? l=some {cls:=.type "list",data:=.seq vs.toArray}:=by
 generalize hd:ofPy (.list xs)=d' at w
 cases w with
 |list ho _=>
  obtain⟨o,ho',_,n,hd'⟩:=hl
  rw [ho] at ho';cases ho'
  cases hd'
  exact ho
 |_=>cases hd
theorem fin:PySem.Challenge.rw_nt0314_01.Holds:=hd0 fun d kwd hn=>by
 intro w s₀ s₁ mg mb G Y fa o pm cd doc dV kV ho hd' hcd hD hmg hg args vals as hpre hlay hrd hwl hlo
 obtain⟨K,KX,hF⟩:=Y
 change rW.claim.pre args=true at hpre
 unfold rW at hpre hrd
 wrow_args hpre hlay hrd hwl hlo
 rename_i xs _ _ _ _ _ _ _ l vs _ hL _ hW _ hI _ hlen _
 have hsys:∃ o,s₁.heap.get? rY=some o:=by
  obtain⟨mm,hm,_⟩:=(G.T.seer (by decide+kernel)).mods
  obtain⟨o,_,_,ho,_⟩:=hm
  exact⟨o,ho⟩
 refine aHy (ep:=0) KX hF G.T.nolimit hsys G.T.g G.T.b G.T.builtins (hn▸hmg) (aQl hW hL) hI (Int.ofNat_le.mp (Int.not_lt.mp hlen)) fun s' hk hgn hos=> ?_
 exact⟨.inl ⟨_,.bool true,[],rfl,fun _=>rfl,.bool true,by wrow_post,fun _=>⟨pH,fun _ h=>by cases h⟩⟩,OldK.of_keep hk,hos,AllBare.of_eq (hgn.trans hg)⟩
end
end Mine
theorem PySem.Challenge.cw_nt0314_01_holds : PySem.Challenge.rw_nt0314_01.Holds :=
 Mine.fin
