import PyProof.Rows.All
import Wide.All
import OpenK.AllK
import PySem.Challenge.RW_nt0314_01
set_option Elab.async false
set_option maxRecDepth 100000
set_option maxHeartbeats 40000000
set_option linter.all false
set_option genSizeOf false
set_option genInjectivity false
set_option bootstrap.genMatcherCode false
set_option compiler.extract_closed false
set_option tactic.hygienic false
namespace Mine
open Array renaming length_toList→qB,getElem?_toList→GD,toList→GF
open Bool renaming noConfusion→eP,and_eq_true→hZ,false_ne_true→mK,eq_iff_iff→qS,false_eq_true→GH,not_eq_true→LM,and_false→RW,not_eq_true'→RX
open Classical renaming propDecidable→SI
open ForInStep renaming yield→SQ
open Int renaming eq_ofNat_of_zero_le→SR,natCast_nonneg→SS,toNat_of_nonneg→SU,sub_pos_of_lt→Hd
open List renaming length_map→bT,map_append→cW,length_append→fH,append_assoc→gP,append_nil→gQ,size_toArray→iE,getElem?_map→iW,map_cons→iX,map_map→iY,toArray→iZ,replicate→mZ,mem_of_getElem?→oB,nil_append→oD,nodup_nil→pK,mem_cons_of_mem→sG,getElem?_eq_getElem→tP,length_cons→tQ,mem_append→uR,mem_cons_self→uS,range→uT,range'→xZ,flatMap_cons→AJ,length→AK,mem_cons→AL,getElem?_append_right→CW,length_take→CX,map_id→GQ,not_mem_nil→GR,getD_eq_getElem?_getD→LS,getElem?_append_left→LU,getElem?_drop→LV,length_nil→LW,map_congr_left→LX,map_take→LY,mem_map_of_mem→LZ,nodup_cons→MA,set_append_right→MB,filter_cons_of_neg→SY,filter_cons_of_pos→TA,filter_map→TB,flatMap_append→TC,flatten_cons→TF,getElem?_eq_none→TG,getElem?_of_mem→TH,getElem?_take→TJ,length_drop→TK,mem_of_mem_take→TL,prefix_refl→TM,dropLast_eq_take→Hf,getElem?_inj→Hg,length_filter_le→Hh,push_toArray→Hi,range_succ_eq_map→Hj,take_add_one→Hk,take_of_length_le→Hl,take_succ_cons→Hm,drop_eq_getElem_cons→aAm,eq_nil_of_length_eq_zero→aAn
open List.cons renaming injEq→SX
open Nat renaming le_trans→aP,le_of_ble_eq_true→bR,beq→bV,blt→bX,le_refl→cZ,le_of_eq→dS,zero_le→jS,zero_add→kL,succ_le_succ→lC,add_le_add_right→lM,succ→lN,add_le_add→mM,add_le_add_left→oE,le_add_right→oF,le_succ→oG,ble→qD,ne_of_lt→qU,eq_of_beq_eq_true→sH,lt_of_le_of_lt→sI,add_assoc→uU,add_comm→vZ,succ_add_eq_add_succ→wB,lt_succ_self→yA,lt_of_lt_of_le→AN,beq_refl→DB,ble_eq_true_of_le→DC,le_of_lt→DD,lt_trans→DE,le_succ_of_le→GS,lt_irrefl→GU,lt_or_ge→GV,mul_le_mul_left→GW,sub_self→GX,le_add_left→MD,min_eq_left→ME,le_antisymm→TN,le_of_add_right_le→TO,le_of_succ_le_succ→TP,lt_succ_of_le→TQ,succ_ne_self→TR,le_of_lt_succ→Hn,lt_of_succ_lt_succ→Ho,sub_add_cancel→Hp
open Nat.succ renaming inj→wA
open Option renaming isSome_map→Hq
open Option.some renaming inj→bO,injEq→TU
open Prod.mk renaming injEq→TX
open PyProof.Rows renaming seqObj→fQ,listUpdate_at→BY,get?_update_seq→IT,seqEpoch_at→KR
open PySem renaming Value→aB,wpAny_bind→aF,Shared→aG,wpAny→aI,model→aK,Around→aR,wpAny_pure→bG,wpAny_of_eq→dW,World→eR,compareOp→eW,starEach→fO,sizeLine→fR,backTo→gF,Program→iB,Model→jR,binaryOp→jU,mainGlobals→jX,argsOk→lT,builtinLookup_eq_fast→lU,typeLookup_type→mJ,call_meets→mQ,wpAny_mono→nV,callWith→oR,wpAny_holding→pG,NameKind→pM,spliced→pX,stored→pY,DictEntry→qC,isSubtype_type→qH,valueAt→qR,FuncData→qT,assign→rC,entryFor→rG,setItem→rX,sysModules→rZ,wpAny_truthy_bool→uM,wpAny_load→vW,builtinsNs→wO,entryFor_of_tree→wX,typeLookup→xV,wpAny_rule→xW,wpAny_ite_false→AB,wpAny_specialOf→AD,Fin→AR,contains→BD,inplaceOp→BR,swappedStores→CP,Str→DG,bm_if_false→DS,swapsWith→FY,wpAny_ite_true→GB,wpAny_newObj_type→GC,KeyKind→HA,letOwnedTupleGo→JH,methodCall→JL,methodCallForm→JM,wpAny_execs_nil→LK,wpAny_typeOf→LL,assignInOrder→MX,builtinType→NC,builtinType_eq_fast→NF,call_meetsIn→NI,importedModules→OZ,keywordEach→PL,wpAny_call_entry→RN,wpAny_isInstance→RO,wpAny_newList→RP,wpAny_seqItems→RQ,Comprehension→SJ,plainId_quiet→Di,wpAny_attempt→Gf,wpAny_contains_slot→Gg,wpAny_lookBehind→Gh,wpAny_pyIter_list→Gi,wpAny_standAt→Gj,wpAny_assign_Name→Yw,wpAny_pyNext_list_end→Yx,wpAny_pyNext_list_item→Yy
open PySem.Around renaming under_plainId→RU
open PySem.AutoListH renaming list_append_list_val_0→Zh
open PySem.Builtin renaming divisionGoesByPylong→Zk
open PySem.Builtin.Bytes renaming exported→RY,order→RZ,sameRef→SA,exportsOf→Gr,toLower→Gs,byteValue→Zj
open PySem.Builtin.Range renaming rangeSize→Gu,small→Gv
open PySem.Builtin.Slice renaming slicePlaces→SD,sliceAdjust→Gw
open PySem.Builtin.Str renaming glued→LN
open PySem.Builtin.Tuple renaming tupleExact→SE
open PySem.Calls renaming spliced_cons→xY,evalArgs_plain→SG,spliced_nil→SH,callWith_builtin→Gx
open PySem.F renaming plainAttrs_list→SK,slot_dict_contains→SM,plainAttrs_dict→Gy,slot_list_append→Gz
open PySem.Heap renaming get?_push_of_some→gW,ExtBut→lL,lt_size→mY,get?_push_size→oA,SameBut→uP,get?_update_self→uQ
open PySem.Heap.SameBut renaming update→sF
open PySem.NameKind renaming free→DA
open PySem.Obj renaming mapSeq→gB,mapBytearray→wC,putName→GY
open PySem.PyData renaming keyHash→yF
open PySem.Sem renaming wp_mono→MN
open PySem.Str renaming ofString→uY
open PySem.Value renaming ref→qE,type→HK,bytes→MP
open PySem.W renaming typeIs_bytes→iJ,findIn→nN,SharedT→tU,boot_heap→yV,kas_sort→zL,bytesKind→AZ,isBytes_shape→PG
open PySem.W.FB renaming slot_bytes_contains→SN,plainAttrs_bytes→Ha
open PySem.W.KBy renaming buffer_eq→LQ
open UInt8 renaming toNat→cJ,ofNat→tW,lt_iff_toNat_lt→VT
open PySem PySem.W
section
open PySem.Calls PyProof.Rows
section
open PySem PySem.W PySem.Calls PyProof.Rows PySem.SeqAt
section
variable{prog:iB}{w:eR}{A:aR}{E:aB→aG→Prop}{s:aG}
theorem Wz:Slot "bytes" (cmpInfo .Eq).2.2 "bytes.__eq__":=
 .of (owner:="bytes") (n:="__eq__") (by rw [mJ,lU];kernel_rfl) (by kernel_rfl) (by decide+kernel) (by decide+kernel)
  (by first | exact .inl (by kernel_rfl) | exact .inr (by decide+kernel)) (by rw [qH];kernel_rfl)
theorem Qb(a:Bool)(b:Array UInt8)(u:Tok):Gives (Builtin.«int.__eq__» ⟨[.bool a,.bytes b u],[]⟩) (.val (Value.notImplemented)):=
 .of_wp fun M A E s Q h=>by obtain⟨hp,g,d,tk,os⟩:=s;wp_walk;exact⟨_,rfl,h⟩
theorem Jw(b:Array UInt8)(u:Tok)(a:Bool):Gives (Builtin.«bytes.__eq__» ⟨[.bytes b u,.bool a],[]⟩) (.val (Value.notImplemented)):=
 .of_wp fun M A E s Q h=>by obtain⟨hp,g,d,tk,os⟩:=s;have f1:=F.sub_bool_bytes;wp_walk;exact⟨_,rfl,h⟩
theorem aJM(a:Bool)(b:Array UInt8)(u:Tok):RcAt A s (.bool a) (.bytes b u) false:=fun prog w E Q h=>
 rc_eq_decline_or rfl (iJ s b u) (by decide) F.sub_bytes_bool F.slot_bool_eq Wz
  (fun _ hq=>call_gives F.slot_bool_eq rfl F.entry_int_eq (F.args_int_eq_2 _ _) (Qb a b u) hq)
  (fun _ hq=>call_gives Wz (iJ s b u) FB.entry_bytes_eq (FB.args_bytes_eq_2 _ _) (Jw b u a) hq)
  (fun _ hq=>dW (rfl:isSame (.bool a) (.bytes b u)=pure false) hq) (.inl rfl) h
theorem aJN(b:Array UInt8)(u:Tok)(a:Bool):RcAt A s (.bytes b u) (.bool a) false:=fun prog w E Q h=>
 rc_eq_decline_or (iJ s b u) rfl (by decide) F.sub_bool_bytes FB.slot_bytes_eq F.slot_bool_eq_refl
  (fun _ hq=>call_gives FB.slot_bytes_eq (iJ s b u) FB.entry_bytes_eq (FB.args_bytes_eq_2 _ _) (Jw b u a) hq)
  (fun _ hq=>call_gives F.slot_bool_eq_refl rfl F.entry_int_eq (F.args_int_eq_2 _ _) (Qb a b u) hq)
  (fun _ hq=>dW (rfl:isSame (.bytes b u) (.bool a)=pure false) hq) (.inl rfl) h
theorem aFb(a:Bool)(b:Array UInt8)(u:Tok)(h:Q false s):aI (aK prog w) A (eqBool (.bool a) (.bytes b u)) Q E s:=by
 refine pG ?_
 refine wpAny_ite_split (fun hab=>absurd (eq_of_beq hab) nofun) (fun _=> ?_)
 exact aF (aJM a b u prog w E _ (uM h))
theorem aFc(b:Array UInt8)(u:Tok)(a:Bool)(h:Q false s):aI (aK prog w) A (eqBool (.bytes b u) (.bool a)) Q E s:=by
 refine pG ?_
 refine wpAny_ite_split (fun hab=>absurd (eq_of_beq hab) nofun) (fun _=> ?_)
 exact aF (aJN b u a prog w E _ (uM h))
theorem aJJ(h:Q (reduceHash (if b then 1 else 0)) {s with toks:=s.toks+1}):aI (aK prog w) A (pyHash (.bool b)) Q E s:=by
 refine pyHash_slot rfl F.slot_bool_hash entry_int_hash (args_int_hash _) (beq_builtin_none _) (.inl rfl) ?_
 cases b
 ·show aI _ _ (do ret (←mkInt 0)) _ _ s
  exact aF (wpAny_mkInt (bG ⟨_,_,rfl,h⟩))
 ·show aI _ _ (do ret (←mkInt 1)) _ _ s
  exact aF (wpAny_mkInt (bG ⟨_,_,rfl,h⟩))
noncomputable abbrev AM:=Bool ⊕ List UInt8
noncomputable def Bp:AM→aB→Bool
 |.inl a,.bool b=>a==b
 |.inr l,v=>isBytes l v
 |_,_=>false
theorem xE(h:Bp (.inl a) v=true):v= .bool a:=by
 cases v <;> simp_all [Bp]
noncomputable def Bq(prog:iB)(w:eR):HA prog w AM where
 is:=Bp
 hash k:=match k with
  |.inl b=>reduceHash (if b then 1 else 0)
  |.inr l=>(AZ prog w).hash l
 inj v a b ha hb:=by
  cases a with
  |inl a=>
   have:=xE ha
   subst this
   cases b with
   |inl b=>have:=xE hb;cases this;rfl
   |inr l=>obtain⟨t,e⟩:=PG (show isBytes l (.bool a)=true from hb);cases e
  |inr l=>
   obtain⟨t,rfl⟩:=PG (ha:isBytes l v=true)
   cases b with
   |inl b=>have:=xE hb;cases this
   |inr l'=>exact congrArg Sum.inr ((AZ prog w).inj (.bytes l.toArray t) l l' ha hb)
 byValue k v h:=by
  cases k with
  |inl a=>have:=xE h;subst this;rfl
  |inr l=>exact(AZ prog w).byValue l v h
 pyHash:=fun {A E s k v Q} hv h=>by
  cases k with
  |inl a=>have:=xE hv;subst this;exact aJJ h
  |inr l=>exact(AZ prog w).pyHash hv h
 eqBool:=fun {A E s a b u v Q} hu hv h=>by
  cases a with
  |inl a=>
   have:=xE hu
   subst this
   cases b with
   |inl b=>
    have:=xE hv
    subst this
    refine EqAt.bool_bool a b prog w E _ ?_
    have e:(a==b)=decide ((Sum.inl a:AM)=Sum.inl b):=by cases a <;> cases b <;> rfl
    rw [e];exact h
   |inr l=>
    obtain⟨t,rfl⟩:=PG (hv:isBytes l v=true)
    refine aFb a _ t ?_
    rw [decide_eq_false (by intro e;cases e)] at h;exact h
  |inr l=>
   cases b with
   |inl b=>
    have:=xE hv
    subst this
    obtain⟨t,rfl⟩:=PG (hu:isBytes l u=true)
    refine aFc _ t b ?_
    rw [decide_eq_false (by intro e;cases e)] at h;exact h
   |inr l'=>
    refine(AZ prog w).eqBool hu hv ?_
    have e:decide (l=l')=decide ((Sum.inr l:AM)=Sum.inr l'):=by by_cases q:l=l' <;> simp [q]
    rw [e];exact h
 «strs» k x t v h:=by
  cases k with
  |inl a=>have:=xE h;cases this
  |inr l=>cases (h:isBytes l (.str x t)=true)
end
end
theorem aT{α:Type}{a:α}{P:Prop}(h:none=some a):P:=nomatch h
theorem no2{α:Type}{a:α}{P:Prop}(h:some a=none):P:=nomatch h
theorem gA{α β:Type}{a b:α}{c d:β}(h:some (a,c)=some (b,d)):a=b∧c=d:=by cases h;exact⟨rfl,rfl⟩
inductive KD where
 |int | bytes | pair | str
 deriving DecidableEq
inductive PV where
 |none
 |bool (b:Bool)
 |int (i:Int)
 |str (l:List Nat)
 |bytes (l:List Nat)
 |tup (xs:List PV)
 |lst (xs:List PV)
 |dct (kd:KD) (ks vs:List PV)
 |obj (c:Nat) (fs:List PV)
 |rng (a b c:Int)
 |itv (kd:KD) (ks vs:List PV)
theorem PV.int.inj{a b:Int}(h:PV.int a= .int b):a=b:=by cases h;rfl
theorem PV.str.inj{a b:List Nat}(h:PV.str a= .str b):a=b:=by cases h;rfl
theorem PV.bytes.inj{a b:List Nat}(h:PV.bytes a= .bytes b):a=b:=by cases h;rfl
inductive SV where
 |pv (x:PV)
 |ref (k:Nat)
inductive SO where
 |dead
 |list (xs:List PV)
 |dict (kd:KD) (ks vs:List PV)
 |inst (c:Nat) (fs:List SV)
 |sdict (kd:KD) (ks:List PV) (vs:List SV)
 |barr (l:List Nat)
structure St where
 loc:List (Option SV)
 cells:List SO
noncomputable def M(α:Type):Type:=St→Option (α×St)
noncomputable def rt{α:Type}(a:α):M α:=fun st=>some (a,st)
noncomputable def er{α:Type}:M α:=fun _=>none
noncomputable def bd{α β:Type}(m:M α)(f:α→M β):M β:=fun st=>match m st with
 |some (a,st')=>f a st'
 |none=>none
inductive bU where
 |fro (o:Obj)
 |held (o:Obj)
 |iter (o:Obj)
 |cell (k:Nat)
 |frame
 |fcell
theorem bU.fro.inj{a b:Obj}(h:bU.fro a= .fro b):a=b:=by cases h;rfl
structure Xt where
 W:Addr→Option bU
 ρ:Nat→Addr
 δ:Nat→Addr
structure Cx where
 prog:iB
 w:eR
 base:Heap
 K:Frag
 gens:Array GenState
 drawn:Drawn
 os:OsState
 cls:Nat→Addr
 fld:Nat→List Str
 sysm:∃ o,base.get? rZ=some o
 kin:K.In base
 lim:base.NoLimit
noncomputable def FN:PV→Option (Bool×List Nat)
 |.tup [.bool b,.bytes l]=>some (b,l)
 |_=>none
noncomputable def zM(C:Cx)(kd:KD)(p:PV):Int:=match kd with
 |.int=>match p with
  |.int i=>(intKind C.prog C.w).hash i
  |_=>0
 |.bytes=>match p with
  |.bytes l=>(AZ C.prog C.w).hash (l.map tW)
  |_=>0
 |.str=>match p with
  |.str l=>(strKind C.prog C.w).hash ⟨l.toArray⟩
  |_=>0
 |.pair=>match FN p with
  |some (b,l)=>tupleKeyHash (Bq C.prog C.w) [.inl b,.inr (l.map tW)]
  |none=>0
noncomputable def pN:List Str→List aB→Prop
 | [],[]=>True
 |x::xs,v::vs=>(∃ t,v= .str x t)∧pN xs vs
 |_,_=>False
noncomputable def KD.fitsB(kd:KD)(p:PV):Bool:=match kd with
 |.int=>match p with
  |.int _=>true
  |_=>false
 |.bytes=>match p with
  |.bytes _=>true
  |_=>false
 |.str=>match p with
  |.str _=>true
  |_=>false
 |.pair=>(FN p).isSome
noncomputable abbrev KD.fits(kd:KD)(p:PV):Prop:=kd.fitsB p=true
inductive iK(C:Cx)(kd:KD)(ks:List PV)(pk pv:List aB→Prop)(o:Obj):Prop
 |mk (es:Array qC) (ep:Nat) (hc:o.ExactDict) (hd:o.data= .dict es ep) (hk:pk (es.toList.map (·.key))) (hv:pv (es.toList.map (·.val))) (hh:es.toList.map (·.hash)=ks.map (zM C kd)) (hf:∀ k∈ks,kd.fits k) (hn:ks.Nodup)
inductive sE(C:Cx)(c k:Nat)(pv:List aB→Prop)(o:Obj):Prop
 |mk (es:Array qC) (ep:Nat) (hc:o.ExactDict) (hd:o.data= .dict es ep) (hk:pN ((C.fld c).take k) (es.toList.map (·.key))) (hv:pv (es.toList.map (·.val)))
noncomputable abbrev cC(vs:List aB)(ep:Nat):Obj:={cls:=.type "list",data:=.seq vs.toArray ep}
noncomputable abbrev mI(vs:List aB)(ep:Nat):Obj:={cls:=.type "tuple",data:=.seq vs.toArray ep}
inductive jP{β:Type}(p:β→Prop)(q:List β→Prop):List β→Prop
 |mk (v:β) (ws:List β) (a:p v) (as:q ws):jP p q (v::ws)
inductive jQ(i:Int):aB→Prop
 |mk (t:Tok):jQ i (.int i t)
inductive lQ:List Nat→aB→Prop
 |mk (x:Str) (t:Tok):lQ x.cps.toList (.str x t)
inductive iU:List Nat→aB→Prop
 |mk (b:Array UInt8) (t:Tok):iU (b.toList.map cJ) (.bytes b t)
inductive oL(W:Addr→Option bU)(f:List aB→Nat→Obj)(p:List aB→Prop):aB→Prop
 |mk (a:Addr) (vs:List aB) (ep:Nat) (hw:W a=some (.fro (f vs ep))) (hl:p vs):oL W f p (.ref a)
inductive tN(W:Addr→Option bU)(p:Obj→Prop):aB→Prop
 |mk (a:Addr) (o:Obj) (hw:W a=some (.fro o)) (ns:(a==rZ)=false) (d:p o):tN W p (.ref a)
inductive AO(C:Cx)(W:Addr→Option bU)(c:Nat)(p:Obj→Prop):aB→Prop
 |mk (a d:Addr) (o:Obj) (hw:W a=some (.fro (instObj (C.cls c) d))) (hd:W d=some (.fro o)) (f:p o):AO C W c p (.ref a)
inductive DK(W:Addr→Option bU)(a b c:Int):aB→Prop
 |mk (r:Addr) (t u w:Tok) (hw:W r=some (.fro {cls:=.type "range",data:=.fields #[.int a t,.int b u,.int c w]})):DK W a b c (.ref r)
inductive AH(W:Addr→Option bU)(p:aB→Prop):aB→Prop
 |mk (r a:Addr) (hr:W r=some (.fro {cls:=.type "dict_items",data:=.fields #[.ref a]})) (d:p (.ref a)):AH W p (.ref r)
mutual
noncomputable def bF(C:Cx)(W:Addr→Option bU):PV→aB→Prop
 |.none,v=>Value.none=v
 |.bool b,v=>Value.bool b=v
 |.int i,v=>jQ i v
 |.str l,v=>lQ l v
 |.bytes l,v=>iU l v
 |.tup xs,v=>oL W mI (DenL C W xs) v
 |.lst xs,v=>oL W cC (DenL C W xs) v
 |.dct kd ks vs,v=>tN W (iK C kd ks (DenL C W ks) (DenL C W vs)) v
 |.obj c fs,v=>AO C W c (sE C c fs.length (DenL C W fs)) v
 |.rng a b c,v=>DK W a b c v
 |.itv kd ks vs,v=>AH W (tN W (iK C kd ks (DenL C W ks) (DenL C W vs))) v
noncomputable def DenL(C:Cx)(W:Addr→Option bU):List PV→List aB→Prop
 | [],vs=>[]=vs
 |x::xs,vs=>jP (bF C W x) (DenL C W xs) vs
end
noncomputable def aS{α β:Type}(P:α→β→Prop):List α→List β→Prop
 | [],vs=>[]=vs
 |x::xs,vs=>jP (P x) (aS P xs) vs
theorem iH{C:Cx}{W:Addr→Option bU}(xs:List PV):DenL C W xs=aS (bF C W) xs:=by
 induction xs with
 |nil=>rfl
 |cons x xs ih=>exact congrArg (jP (bF C W x)) ih
noncomputable def vY(W W':Addr→Option bU):Prop:=∀ a o,W a=some (.fro o)→W' a=some (.fro o)
section
variable{α β:Type}{P Q:α→β→Prop}{x:α}{xs ys:List α}{vs ws:List β}{v:β}
theorem jP.imp(a:∀ v,p v→p' v)(b:∀ l,q l→q' l)(l:List β)(h:jP p q l):jP p' q' l:=by
 cases h with | mk v ws h k=>exact .mk v ws (a v h) (b ws k)
theorem aS.imp(h:∀ a b,P a b→Q a b)(xs:List α):∀ vs,aS P xs vs→aS Q xs vs:=by
 induction xs with
 |nil=>exact fun _ e=>e
 |cons x xs ih=>exact jP.imp (h x) ih
theorem aS.mk(a:P x v)(as:aS P xs vs):aS P (x::xs) (v::vs):=jP.mk v vs a as
theorem aS.one(h:P x v):aS P [x] [v]:=jP.mk v [] h rfl
theorem aS.len(h:aS P xs vs):xs.length=vs.length:=by
 induction xs generalizing vs with
 |nil=>exact congrArg AK h
 |cons x xs ih=>cases h with | mk v ws a as=>exact congrArg lN (ih as)
theorem aS.app(h:aS P xs vs)(k:aS P ys ws):aS P (xs++ys) (vs++ws):=by
 induction xs generalizing vs with
 |nil=>subst h;exact k
 |cons x xs ih=>cases h with | mk v ws a as=>exact .mk a (ih as)
theorem aS.get{i:Nat}(h:aS P xs vs)(e:xs[i]? =some x):∃ v,vs[i]? =some v∧P x v:=by
 induction xs generalizing vs i with
 |nil=>exact aT e
 |cons y xs ih=>cases h with | mk v ws a as=>cases i with
  |zero=>exact⟨v,rfl,bO e▸a⟩
  |succ i=>exact ih (i:=i) as e
theorem aS.set(e:P x v)(i:Nat)(h:aS P xs vs):aS P (xs.set i x) (vs.set i v):=by
 induction xs generalizing vs i with
 |nil=>subst h;exact rfl
 |cons y xs ih=>cases h with | mk w ws a as=>cases i with
  |zero=>exact .mk e as
  |succ i=>exact .mk a (ih i as)
theorem aS.rev(h:aS P xs vs):aS P xs.reverse vs.reverse:=by
 induction xs generalizing vs with
 |nil=>exact congrArg List.reverse h
 |cons x xs ih=>cases h with | mk v ws a as=>rw [List.reverse_cons,List.reverse_cons];exact(ih as).app (.one a)
theorem aS.take(i:Nat)(h:aS P xs vs):aS P (xs.take i) (vs.take i):=by
 induction xs generalizing vs i with
 |nil=>subst h;cases i <;> rfl
 |cons y xs ih=>cases h with | mk w ws a as=>cases i with
  |zero=>exact rfl
  |succ i=>exact .mk a (ih i as)
theorem aS.drop(i:Nat)(h:aS P xs vs):aS P (xs.drop i) (vs.drop i):=by
 induction xs generalizing vs i with
 |nil=>subst h;cases i <;> rfl
 |cons y xs ih=>cases i with
  |zero=>exact h
  |succ i=>cases h with | mk w ws a as=>exact ih i as
theorem aS.map{γ:Type}{f:γ→α}(xs:List γ):∀ vs,aS (fun x v=>P (f x) v) xs vs→aS P (xs.map f) vs:=by
 induction xs with
 |nil=>exact fun _ e=>e
 |cons x xs ih=>exact jP.imp (fun _ h=>h) ih
end
section
variable{C:Cx}{W W':Addr→Option bU}
theorem iK.imp(a:∀ l,pk l→pk' l)(b:∀ l,pv l→pv' l)(o:Obj)(h:iK C kd ks pk pv o):iK C kd ks pk' pv' o:=by
 cases h with | mk es ep hc hd hk hv hh hf hn=>exact .mk es ep hc hd (a _ hk) (b _ hv) hh hf hn
theorem sE.imp(b:∀ l,pv l→pv' l)(o:Obj)(h:sE C c k pv o):sE C c k pv' o:=by
 cases h with | mk es ep hc hd hk hv=>exact .mk es ep hc hd hk (b _ hv)
theorem oL.imp(k:vY W W')(b:∀ l,p l→p' l)(v:aB)(h:oL W f p v):oL W' f p' v:=by
 cases h with | mk a vs ep hw hl=>exact .mk a vs ep (k _ _ hw) (b _ hl)
theorem tN.imp(k:vY W W')(b:∀ o,p o→p' o)(v:aB)(h:tN W p v):tN W' p' v:=by
 cases h with | mk a o hw ns d=>exact .mk a o (k _ _ hw) ns (b _ d)
theorem AO.imp(k:vY W W')(b:∀ o,p o→p' o)(v:aB)(h:AO C W c p v):AO C W' c p' v:=by
 cases h with | mk a d o hw hd f=>exact .mk a d o (k _ _ hw) (k _ _ hd) (b _ f)
theorem DK.imp(k:vY W W')(v:aB)(h:DK W a b c v):DK W' a b c v:=by
 cases h with | mk r t u w hw=>exact .mk r t u w (k _ _ hw)
theorem AH.imp(k:vY W W')(b:∀ o,p o→p' o)(v:aB)(h:AH W p v):AH W' p' v:=by
 cases h with | mk r a hw d=>exact .mk r a (k _ _ hw) (b _ d)
theorem bF.mono(k:vY W W')(x:PV):∀ v,bF C W x v→bF C W' x v:=
 PV.rec
  (fun _ h=>h) (fun _ _ h=>h) (fun _ _ h=>h) (fun _ _ h=>h) (fun _ _ h=>h)
  (fun _ ih=>oL.imp k ih) (fun _ ih=>oL.imp k ih) (fun _ _ _ ik iv=>tN.imp k (iK.imp ik iv)) (fun _ _ ih=>AO.imp k (sE.imp ih)) (fun _ _ _=>DK.imp k) (fun _ _ _ ik iv=>AH.imp k (tN.imp k (iK.imp ik iv)))
  (fun _ h=>h) (fun _ _ ix ih=>jP.imp ix ih) x
end
structure Xt.low(X:Xt)(n:Nat)(X':Xt)(n':Nat):Prop where
 fro:vY X.W X'.W
 ρ:∀ k,k < n→X'.ρ k=X.ρ k
 n:n≤n'
theorem Xt.low.trans{X Y Z:Xt}{n m k:Nat}(a:X.low n Y m)(b:Y.low m Z k):X.low n Z k:=
 ⟨fun _ _ h=>b.fro _ _ (a.fro _ _ h),fun i hi=>(b.ρ i (AN hi a.n)).trans (a.ρ i hi),aP a.n b.n⟩
structure Xt.le(X:Xt)(n:Nat)(X':Xt)(n':Nat):Prop where
 low:X.low n X' n'
 held:∀ a o,X.W a=some (.held o)→X'.W a=some (.held o)
 iter:∀ a o,X.W a=some (.iter o)→X'.W a=some (.iter o)
theorem Xt.le.refl(X:Xt)(n:Nat):X.le n X n:=⟨⟨fun _ _ h=>h,fun _ _=>rfl,cZ n⟩,fun _ _ h=>h,fun _ _ h=>h⟩
theorem Xt.le.trans{X Y Z:Xt}{n m k:Nat}(a:X.le n Y m)(b:Y.le m Z k):X.le n Z k:=
 ⟨a.low.trans b.low,fun _ _ h=>b.held _ _ (a.held _ _ h),fun _ _ h=>b.iter _ _ (a.iter _ _ h)⟩
section
variable{C:Cx}{X X':Xt}{n n':Nat}
noncomputable def fK(C:Cx)(X:Xt)(n:Nat):SV→aB→Prop
 |.pv x,v=>bF C X.W x v
 |.ref k,v=>k < n∧v= .ref (X.ρ k)
theorem fK.mono(l:X.low n X' n'):∀(x:SV) (v:aB),fK C X n x v→fK C X' n' x v
 |.pv x,v,h=>bF.mono l.fro x v h
 |.ref k,v,⟨h,e⟩=>⟨AN h l.n,e.trans (congrArg qE (l.ρ k h).symm)⟩
noncomputable abbrev fP(C:Cx)(X:Xt)(n:Nat):List SV→List aB→Prop:=aS (fK C X n)
theorem fP.mono(l:X.low n X' n')(h:fP C X n xs vs):fP C X' n' xs vs:=aS.imp (fK.mono l) xs vs h
noncomputable abbrev bQ(C:Cx)(X:Xt):List PV→List aB→Prop:=aS (bF C X.W)
theorem bQ.mono(l:X.low n X' n')(h:bQ C X xs vs):bQ C X' xs vs:=aS.imp (bF.mono l.fro) xs vs h
theorem bQ.s(h:bQ C X xs vs):fP C X n (xs.map .pv) vs:=aS.map xs vs h
inductive tL(X:Xt)(k:Nat)(h:Heap)(p:Obj→Prop):Prop
 |mk (o:Obj) (hw:X.W (X.ρ k)=some (.cell k)) (ho:h.get? (X.ρ k)=some o) (d:p o)
inductive CY(p:List aB→Prop):Obj→Prop
 |mk (vs:List aB) (ep:Nat) (hl:p vs):CY p (cC vs ep)
inductive RV(l:List Nat):Obj→Prop
 |mk (b:Array UInt8) (e:b.toList.map cJ=l):RV l {cls:=.type "bytearray",data:=.bytearray b 0}
inductive Hc(C:Cx)(X:Xt)(k c:Nat)(h:Heap)(p:Obj→Prop):Prop
 |mk (o:Obj) (hw:X.W (X.ρ k)=some (.cell k)) (hw':X.W (X.δ k)=some (.cell k)) (ne:X.ρ k≠X.δ k) (hi:h.get? (X.ρ k)=some (instObj (C.cls c) (X.δ k))) (ho:h.get? (X.δ k)=some o) (f:p o)
noncomputable def jH(C:Cx)(X:Xt)(n k:Nat)(h:Heap):SO→Prop
 |.dead=>True
 |.list xs=>tL X k h (CY (bQ C X xs))
 |.dict kd ks vs=>tL X k h (iK C kd ks (bQ C X ks) (bQ C X vs))
 |.inst c fs=>Hc C X k c h (sE C c fs.length (fP C X n fs))
 |.sdict kd ks vs=>tL X k h (iK C kd ks (bQ C X ks) (fP C X n vs))
 |.barr l=>tL X k h (RV l)
theorem CY.imp(b:∀ l,p l→p' l)(o:Obj)(h:CY p o):CY p' o:=by
 cases h with | mk vs ep hl=>exact .mk vs ep (b _ hl)
theorem jH.tr(l:X.low n X' n')(r:X'.ρ k=X.ρ k)(d:X'.δ k=X.δ k)(g:∀ a,X.W a=some (.cell k)→X'.W a=some (.cell k)∧h'.get? a=h.get? a)(c:SO)(x:jH C X n k h c):jH C X' n' k h' c:=by
 have w:∀ {p p':Obj→Prop},(∀ o,p o→p' o)→tL X k h p→tL X' k h' p':=fun b q=>by
  cases q with | mk o hw ho d=>exact .mk o (by rw [r];exact(g _ hw).1) (by rw [r];exact(g _ hw).2.trans ho) (b _ d)
 cases c with
 |dead=>trivial
 |list xs=>exact w (CY.imp fun _=>bQ.mono l) x
 |dict kd ks vs=>exact w (iK.imp (fun _=>bQ.mono l) fun _=>bQ.mono l) x
 |sdict kd ks vs=>exact w (iK.imp (fun _=>bQ.mono l) fun _=>fP.mono l) x
 |barr b=>exact w (fun _ h=>h) x
 |inst c fs=>cases x with | mk o hw hw' ne hi ho f=>exact .mk o (by rw [r];exact(g _ hw).1) (by rw [d];exact(g _ hw').1) (by rw [r,d];exact ne) (by rw [r,d];exact(g _ hw).2.trans hi) (by rw [d];exact(g _ hw').2.trans ho) (sE.imp (fun _=>fP.mono l) o f)
noncomputable def gY(h:Heap)(a:Addr):bU→Prop
 |.fro o=>h.get? a=some o
 |.held o=>h.get? a=some o
 |.iter o=>h.get? a=some o
 |_=>∃ o,h.get? a=some o
theorem gY.ex:∀ {r:bU},gY h a r→∃ o,h.get? a=some o
 |.fro o,e=>⟨o,e⟩
 |.held o,e=>⟨o,e⟩
 |.iter o,e=>⟨o,e⟩
 |.cell _,e=>e
 |.frame,e=>e
 |.fcell,e=>e
theorem gY.same(e:h'.get? a=h.get? a):∀ {r:bU},gY h a r→gY h' a r
 |.fro o,q=>e.trans q
 |.held o,q=>e.trans q
 |.iter o,q=>e.trans q
 |.cell _,⟨o,q⟩=>⟨o,e.trans q⟩
 |.frame,⟨o,q⟩=>⟨o,e.trans q⟩
 |.fcell,⟨o,q⟩=>⟨o,e.trans q⟩
structure wL(C:Cx)(s:aG):Prop where
 gens:s.gens=C.gens
 drawn:s.drawn=C.drawn
 os:s.os=C.os
structure RelC(C:Cx)(X:Xt)(cells:List SO)(s:aG):Prop where
 still:wL C s
 base:∀ b o,C.base.get? b=some o→X.W b=some (.fro o)
 val:∀ a r,X.W a=some r→gY s.heap a r
 cells:∀ k c,cells[k]? =some c→jH C X cells.length k s.heap c
theorem RelC.fresh{cells:List SO}(R:RelC C X cells s)(h:s.heap.objs.size≤a):X.W a=none:=by
 cases e:X.W a with
 |none=>rfl
 |some r=>obtain⟨o,ho⟩:=(R.val _ _ e).ex;exact absurd (mY ho) (Nat.not_lt.mpr h)
theorem RelC.keeps0{cells:List SO}(R:RelC C X cells s):∀ b o,C.base.get? b=some o→s.heap.get? b=some o:=fun b o e=>R.val _ _ (R.base _ _ e)
theorem RelC.kIn{cells:List SO}(R:RelC C X cells s):C.K.In s.heap:=C.kin.keeps R.keeps0
structure Tr(ex:bU→Bool)(X:Xt)(h:Heap)(n:Nat)(X':Xt)(h':Heap)(n':Nat):Prop where
 low:X.low n X' n'
 keep:∀ a r,X.W a=some r→ex r=false→X'.W a=some r∧h'.get? a=h.get? a
 new:∀ a r,X'.W a=some r→(X.W a=some r∧ex r=false)∨gY h' a r
theorem Tr.cell(T:Tr ex X h n X' h' n')(hk:k < n)(e:ex (.cell k)=false)(d:X'.δ k=X.δ k)(c:SO)(o:jH C X n k h c):jH C X' n' k h' c:=
 o.tr T.low (T.low.ρ k hk) d (fun a q=>T.keep a _ q e) c
theorem Tr.relC(T:Tr ex X s.heap cells.length X' s'.heap cells'.length)(R:RelC C X cells s)(S:wL C s')(hf:∀ o,ex (.fro o)=false)
  (hc:∀ k c,cells'[k]? =some c→(cells[k]? =some c∧ex (.cell k)=false∧X'.δ k=X.δ k)∨jH C X' cells'.length k s'.heap c):RelC C X' cells' s':=
 ⟨S,fun b o e=>(T.keep b _ (R.base b o e) (hf o)).1,fun a r e=>(T.new a r e).elim (fun q=>(R.val a r q.1).same (T.keep a r q.1 q.2).2) id,
  fun k c e=>(hc k c e).elim (fun q=>T.cell (List.getElem?_eq_some_iff.mp q.1).1 q.2.1 q.2.2 c (R.cells k c q.1)) id⟩
theorem Tr.le(T:Tr ex X h n X' h' n')(a:∀ o,ex (.held o)=false)(b:∀ o,ex (.iter o)=false):X.le n X' n':=
 ⟨T.low,fun x o e=>(T.keep x _ e (a o)).1,fun x o e=>(T.keep x _ e (b o)).1⟩
end
noncomputable abbrev aL:=List (Str×pM)
noncomputable def xO(sc:Scope):Bool:=sc.kind== .function && decide (sc.names.map (·.1)).Nodup && sc.names.all (fun p=> !(p.1==("__debug__":Str)) && !(p.1==("__classdict__":Str)))
structure tO(sl:aL)(env:Env):Prop where
 sc:xO env.scope=true
 names:env.scope.names=sl
 globals:env.globals=jX
 builtins:env.builtins=wO
 apart:env.func.isSome=true→∀ x y c,env.cells.lookup x=some c→env.cells.lookup y=some c→x=y
noncomputable def SF(X:Xt)(env:Env)(c:Addr):Prop:=X.W c=some .fcell∨(env.func=none∧∃ o,X.W c=some (.held o))
structure GK(C:Cx)(X:Xt)(sl:aL)(env:Env)(loc:List (Option SV))(n:Nat)(h:Heap):Prop where
 st:tO sl env
 nsW:X.W env.locals=some .frame
 ns:∃ m,h.Ns env.locals m∧∀(i:Nat) x sv,sl[i]? =some (x,.local)→loc[i]? =some (some sv)→∃ v,m x=some v∧fK C X n sv v
 cell:∀(i:Nat) x,sl[i]? =some (x,.cell)→∃ c v₀,env.cells.lookup x=some c∧SF X env c∧h.IsCell c v₀∧∀ sv,loc[i]? =some (some sv)→∃ v,v₀=some v∧fK C X n sv v
 free:∀(i:Nat) x sv,sl[i]? =some (x,.free)→loc[i]? =some (some sv)→∃ c o v,env.cells.lookup x=some c∧X.W c=some (.held o)∧o.data= .cell (some v)∧fK C X n sv v
theorem Cd{h h':Heap}(e:h'.get? a=h.get? a):h.Ns a m→h'.Ns a m:=fun⟨o,es,ep,ho,r⟩=>⟨o,es,ep,e.trans ho,r⟩
theorem WZ{h h':Heap}(e:h'.get? a=h.get? a):h.IsCell a v→h'.IsCell a v:=fun⟨o,ho,d⟩=>⟨o,e.trans ho,d⟩
theorem GK.tr(T:Tr ex X h n X' h' n')(h1:ex .frame=false)(h2:ex .fcell=false)(h3:∀ o,ex (.held o)=false)(F:GK C X sl env loc n h):GK C X' sl env loc n' h':=
 have k1:=T.keep _ _ F.nsW h1
 ⟨F.st,k1.1,F.ns.elim fun m q=>⟨m,Cd k1.2 q.1,fun i x sv a b=>let⟨v,e,d⟩:=q.2 i x sv a b;⟨v,e,fK.mono T.low sv v d⟩⟩,
  fun i x a=>let⟨c,v₀,l,r,ic,t⟩:=F.cell i x a
   have kc:SF X' env c∧h'.get? c=h.get? c:=r.elim (fun r=>(T.keep _ _ r h2).imp .inl id) fun⟨e,o,r⟩=>(T.keep _ _ r (h3 o)).imp (fun r=>.inr ⟨e,o,r⟩) id
   ⟨c,v₀,l,kc.1,WZ kc.2 ic,fun sv b=>let⟨v,e,d⟩:=t sv b;⟨v,e,fK.mono T.low sv v d⟩⟩,
  fun i x sv a b=>let⟨c,o,v,l,r,e,d⟩:=F.free i x sv a b;⟨c,o,v,l,(T.keep _ _ r (h3 o)).1,e,fK.mono T.low sv v d⟩⟩
structure uX(C:Cx)(X:Xt)(sl:aL)(env:Env)(st:St)(s:aG):Prop extends RelC C X st.cells s where
 fr:GK C X sl env st.loc st.cells.length s.heap
theorem Tr.rel{st:St}(T:Tr ex X s.heap st.cells.length X' s'.heap cells'.length)(R:uX C X sl env st s)(S:wL C s')(hf:∀ o,ex (.fro o)=false)
  (h1:ex .frame=false) (h2:ex .fcell=false) (h3:∀ o,ex (.held o)=false) (hc:∀ k c,cells'[k]? =some c→(st.cells[k]? =some c∧ex (.cell k)=false∧X'.δ k=X.δ k)∨jH C X' cells'.length k s'.heap c):uX C X' sl env ⟨st.loc,cells'⟩ s':=
 ⟨T.relC R.toRelC S hf hc,R.fr.tr T h1 h2 h3⟩
section
set_option tactic.hygienic true
structure lG(A:aR)(n:Nat):Prop where
 handled:A.handled=none
 depth:A.depth+20*n≤500
 units:A.units+100*n+200≤9000
theorem ub{n a b:Nat}(h:n≤a)(q:qD a b=true):n≤b:=aP h (bR q)
theorem ul{n a b:Nat}(h:n≤a)(q:qD (a+1) b=true):n < b:=sI h (bR q)
theorem PO:∀ n≤2,n=0∨n=1∨n=2:=by decide
theorem Rf:∀ n≤3,n=0∨n=1∨n=2∨n=3:=by decide
theorem lG.lim{A:aR}{n:Nat}(h:lG A n):A.units≤8800:=aP (oF _ _) (Nat.le_of_add_le_add_right (b:=200) h.units)
theorem rm{u n k c:Nat}(h:k≤c):u+k+c*n≤u+c*(n+1):=
 aP (dS (Nat.add_right_comm u k _)) (aP (oE h _) (dS (uU u _ c)))
theorem Cn{i:Int}(h0:0≤i)(h1:i < 256):i.toNat.toUInt8.toNat=i.toNat:=Nat.mod_eq_of_lt ((Int.toNat_lt h0).mpr h1)
theorem nn{b:Bool}(h:b=true):¬(!b)=true:=by cases h;exact mK
theorem Tn{i:Int}(h0:0≤i)(h1:i < 256):¬((decide (i < 0) || decide (i≥256))=true):=
 fun h=>((Bool.or_eq_true _ _).mp h).elim (fun h=>Int.not_lt.mpr h0 (of_decide_eq_true h)) fun h=>Int.not_le.mpr h1 (of_decide_eq_true h)
structure KK where
 C:Cx
 n:Nat
 sl:aL
 env:Env
structure Z(K:KK)(A:aR)(st:St) where
 X:Xt
 s:aG
 hA:lG A K.n
 R:uX K.C X K.sl K.env st s
noncomputable abbrev Dn(α β:Type):=Cx→Xt→Nat→α→β→Prop
noncomputable def dV:Dn SV aB:=fK
noncomputable def dL:Dn (List SV) (List aB):=fun C X n=>fP C X n
noncomputable def dB:Dn Bool Bool:=fun _ _ _ a b=>a=b
noncomputable def dVB:Dn Bool aB:=fun _ _ _ a b=>Value.bool a=b
noncomputable def dU:Dn Unit Unit:=fun _ _ _ _ _=>True
inductive Fl where
 |next | cont
 |ret (v:SV)
inductive Ie(p:aB→Prop):Flow→Prop
 |mk (v:aB) (h:p v):Ie p (.ret v)
noncomputable def dF:Dn Fl Flow:=fun C X n f g=>match f with
 |.next=>Flow.next=g
 |.cont=>Flow.cont=g
 |.ret v=>Ie (fK C X n v) g
noncomputable abbrev WP(β:Type):=(β→aG→Prop)→aG→Prop
noncomputable def nE:aB→aG→Prop:=fun _ _=>False
noncomputable abbrev KK.wp{β:Type}(K:KK)(A:aR)(t:Sem β):WP β:=fun Q s=>aI (aK K.C.prog K.C.w) A t Q nE s
section
variable{K:KK}{A:aR}{st st':St}{α β γ δ:Type}
noncomputable def Z.d(z:Z K A st)(D:Dn α β)(a:α)(b:β):Prop:=D K.C z.X st.cells.length a b
noncomputable def Z.le(z:Z K A st)(z':Z K A st'):Prop:=z.X.le st.cells.length z'.X st'.cells.length
theorem Z.le0{z:Z K A st}:z.le z:=Xt.le.refl ..
theorem Z.le.t{st'':St}{z:Z K A st}{z':Z K A st'}{z'':Z K A st''}(a:z.le z')(b:z'.le z''):z.le z'':=Xt.le.trans a b
theorem Z.le.v{z:Z K A st}{z':Z K A st'}(l:z.le z'){a:SV}{x:aB}(d:z.d dV a x):z'.d dV a x:=fK.mono l.low a x d
theorem Z.le.l{z:Z K A st}{z':Z K A st'}(l:z.le z'){a:List SV}{x:List aB}(d:z.d dL a x):z'.d dL a x:=fP.mono l.low d
theorem Z.cons(z:Z K A st){a:SV}{x:aB}{as:List SV}{xs:List aB}(d:z.d dV a x)(ds:z.d dL as xs):z.d dL (a::as) (x::xs):=aS.mk (P:=fK K.C z.X st.cells.length) d ds
noncomputable def Go(z:Z K A st)(D:Dn α β)(w:WP β)(o:Option (α×St)):Prop:=
 ∀(a:α) (st':St),o=some (a,st')→∀ Q,(∀(z':Z K A st') (x:β),z.le z'→z'.d D a x→Q x z'.s)→w Q z.s
section
variable{z:Z K A st}{D:Dn α β}{D':Dn γ δ}{w w':WP β}{o:Option (α×St)}{m:M α}{f:α→M γ}{u:β→WP δ}{a:α}{x:β}
theorem Go.imp(h:∀ Q,w Q z.s→w' Q z.s)(g:Go z D w o):Go z D w' o:=fun a s e Q q=>h Q (g a s e Q q)
theorem Go.no:Go z D w none:=fun _ _ e=>nomatch e
theorem Go.er{z:Z K A st}:Go z D w (Mine.er st):=fun _ _ e=>nomatch e
theorem Go.ret(z':Z K A st')(l:z.le z')(d:z'.d D a x)(h:∀ Q,Q x z'.s→w Q z.s):Go z D w (some (a,st')):=by
 intro a' s' e Q q;obtain⟨rfl,rfl⟩:=gA e;exact h Q (q z' x l d)
theorem lH{m:M α}{f:α→M γ}{b:γ}(e:bd m f st=some (b,st')){P:Prop}(k:∀ a st₁,m st=some (a,st₁)→f a st₁=some (b,st')→P):P:=by
 unfold bd at e;split at e
 ·rename_i a s q;exact k a s q e
 ·exact aT e
theorem Go.bd(g:Go z D w (m st))(k:∀ {a:α} {st₁:St} {x:β} (z₁:Z K A st₁),z.le z₁→z₁.d D a x→Go z₁ D' (u x) (f a st₁)):Go z D' (fun Q=>w fun x=>u x Q) (bd m f st):=
 fun _ _ e Q q=>lH e fun a st₁ e₁ e₂=>g _ _ e₁ _ fun z₁ x l d=>k z₁ l d _ _ e₂ Q fun z₂ y l' d'=>q z₂ y (l.t l') d'
theorem Go.from(z':Z K A st)(l:z.le z')(g:Go z' D w o)(h:∀ Q,w Q z'.s→w' Q z.s):Go z D w' o:=fun a s e Q q=>h Q (g a s e Q fun z'' x l' d=>q z'' x (Xt.le.trans l l') d)
noncomputable def gd(b:Bool)(k:M α):M α:=fun st=>match b with
 |true=>k st
 |false=>none
theorem Go.gd{b:Bool}{k:M α}(h:b=true→Go z D w (k st)):Go z D w (gd b k st):=by
 cases b with
 |true=>exact h rfl
 |false=>exact Go.no
end
theorem Go.bdB{z:Z K A st}{m:M Bool}{f:Bool→M γ}{D':Dn γ δ}{w:WP Bool}{u:Bool→WP δ}(g:Go z dB w (m st))(k:∀ {a:Bool} {st₁:St} (z₁:Z K A st₁),z.le z₁→Go z₁ D' (u a) (f a st₁)):Go z D' (fun Q=>w fun x=>u x Q) (Mine.bd m f st):=
 Go.bd g fun z₁ l d=>(d:_=_)▸k z₁ l
theorem wL.to{C:Cx}{s:aG}(S:wL C s)(h:Heap)(t:Nat):wL C {s with heap:=h,toks:=t}:=⟨S.gens,S.drawn,S.os⟩
theorem Tr.idle{X:Xt}{h h':Heap}{n:Nat}(v:∀ a r,X.W a=some r→gY h a r)(g:∀ b o,h.get? b=some o→h'.get? b=some o):Tr (fun _=>false) X h n X h' n:=
 ⟨⟨fun _ _ e=>e,fun _ _=>rfl,cZ _⟩,fun a r e _=>⟨e,let⟨o,ho⟩:=(v a r e).ex;(g _ _ ho).trans ho.symm⟩,fun a r e=>.inl ⟨e,rfl⟩⟩
theorem uX.to{C:Cx}{X:Xt}{sl:aL}{env:Env}{st:St}{s:aG}(R:uX C X sl env st s){s':aG}(S:wL C s')(g:∀ b o,s.heap.get? b=some o→s'.heap.get? b=some o):uX C X sl env st s':=
 (Tr.idle R.val g).rel R S (fun _=>rfl) rfl rfl (fun _=>rfl) fun _ _ e=>.inl ⟨e,rfl,rfl⟩
noncomputable def Z.to(z:Z K A st)(s':aG)(S:wL K.C s')(g:∀ b o,z.s.heap.get? b=some o→s'.heap.get? b=some o):Z K A st:=⟨z.X,s',z.hA,z.R.to S g⟩
noncomputable def Z.tok(z:Z K A st)(t:Nat):Z K A st:=z.to {z.s with toks:=t} (z.R.still.to _ _) fun _ _ e=>e
noncomputable def Z.push(z:Z K A st)(o:Obj)(t:Nat):Z K A st:=z.to {z.s with heap:=z.s.heap.push o,toks:=t} (z.R.still.to _ _) fun _ _ e=>gW o e
theorem Go.tok{z:Z K A st}{D:Dn α β}{w:WP β}{a:α}{x:Tok→β}(d:∀ k,z.d D a (x k))(h:∀ Q,(∀ t k,Q (x k) {z.s with toks:=t})→w Q z.s):Go z D w (some (a,st)):=by
 intro a' s' e Q q;obtain⟨rfl,rfl⟩:=gA e;exact h Q fun t k=>q (z.tok t) _ Z.le0 (d k)
theorem Go.same{z:Z K A st}{D:Dn α β}{w:WP β}{a:α}{x:β}(d:z.d D a x)(h:∀ Q,Q x z.s→w Q z.s):Go z D w (some (a,st)):=.ret z Z.le0 d h
noncomputable def Xt.add(X:Xt)(a:Addr)(r:bU)(ρ:Nat→Addr)(δ:Nat→Addr):Xt:=⟨fun b=>if b=a then some r else X.W b,ρ,δ⟩
theorem DL{X:Xt}{a:Addr}{r:bU}{ρ δ:Nat→Addr}:(X.add a r ρ δ).W a=some r:=if_pos rfl
theorem HM{X:Xt}{a b:Addr}{r:bU}{ρ δ:Nat→Addr}(h:b≠a):(X.add a r ρ δ).W b=X.W b:=if_neg h
theorem Tr.add{X:Xt}{h h':Heap}{n n':Nat}{a:Addr}{r:bU}{ρ δ:Nat→Addr}(v:∀ a r,X.W a=some r→gY h a r)(hn:X.W a=none)(g:∀ b o,h.get? b=some o→h'.get? b=some o)(hr:gY h' a r)
  (l:n≤n') (e1:∀ k,k < n→ρ k=X.ρ k):Tr (fun _=>false) X h n (X.add a r ρ δ) h' n':=by
 have ne:∀ b q,X.W b=some q→(X.add a r ρ δ).W b=some q:=fun b q e=>(HM fun z=>by rw [z,hn] at e;exact aT e).trans e
 refine⟨⟨fun b o e=>ne b _ e,e1,l⟩,fun b q e _=>⟨ne b q e,let⟨o,ho⟩:=(v b q e).ex;(g _ _ ho).trans ho.symm⟩,fun b q e=> ?_⟩
 by_cases c:b=a
 ·rw [c,DL] at e;exact(c).symm▸(bO e)▸ .inr hr
 ·rw [HM c] at e;exact .inl ⟨e,rfl⟩
theorem XA{ex:bU→Bool}{C:Cx}{X:Xt}{cells:List SO}{h:Heap}{c:SO}{N:Nat}{f g:Nat→Addr}(he:∀ k,ex (.cell k)=false)(hd:∀ k,k < cells.length→f k=g k)(hc:jH C X N cells.length h c)(k:Nat)(c':SO)(e:(cells++[c])[k]? =some c'):(cells[k]? =some c'∧ex (.cell k)=false∧f k=g k)∨jH C X N k h c':=by
 rcases GV k cells.length with hk | hk
 ·rw [LU hk] at e;exact .inl ⟨e,he k,hd k hk⟩
 ·have hk':k=cells.length:=by
   have:=(List.getElem?_eq_some_iff.mp e).1
   rw [fH] at this;exact TN (Hn this) hk
  subst hk';rw [List.getElem?_concat_length] at e;obtain rfl:=bO e;exact .inr hc
noncomputable def pZ(f:Nat→Addr)(n:Nat)(a:Addr):Nat→Addr:=fun k=>if k=n then a else f k
theorem RM{f:Nat→Addr}{n:Nat}{a:Addr}(k:Nat)(h:k < n):pZ f n a k=f k:=if_neg (qU h)
theorem qA{f:Nat→Addr}{n:Nat}{a:Addr}:pZ f n a n=a:=if_pos rfl
theorem xC{α:Type}(l:List α)(x:α):(l++[x]).length=l.length+1:=fH
noncomputable abbrev sz(z:Z K A st):Nat:=z.s.heap.objs.size
noncomputable def Z.newX(z:Z K A st):Xt:=z.X.add (sz z) (.cell st.cells.length) (pZ z.X.ρ st.cells.length (sz z)) z.X.δ
theorem Z.newTr(z:Z K A st)(o:Obj)(hf:o.isFreed=false)(c:SO):Tr (fun _=>false) z.X z.s.heap st.cells.length z.newX (z.s.heap.push o) (st.cells++[c]).length:=
 .add z.R.val (z.R.fresh (cZ _)) (fun _ _ e=>gW o e) ⟨o,oA _ hf⟩ (by rw [xC];exact oG _) RM
noncomputable def Z.newC(z:Z K A st)(o:Obj)(hf:o.isFreed=false)(c:SO)(t:Nat)(hc:jH K.C z.newX (st.cells++[c]).length st.cells.length (z.s.heap.push o) c):Z K A ⟨st.loc,st.cells++[c]⟩:=
 ⟨z.newX,{z.s with heap:=z.s.heap.push o,toks:=t},z.hA,(z.newTr o hf c).rel z.R (z.R.still.to _ _) (fun _=>rfl) rfl rfl (fun _=>rfl) (XA (fun _=>rfl) (fun _ _=>rfl) hc)⟩
theorem Z.newLe(z:Z K A st){o:Obj}{hf:o.isFreed=false}{c:SO}{t:Nat}{hc:jH K.C z.newX (st.cells++[c]).length st.cells.length (z.s.heap.push o) c}:z.le (z.newC o hf c t hc):=(z.newTr o hf c).le (fun _=>rfl) fun _=>rfl
theorem Z.newD(z:Z K A st){o:Obj}{hf:o.isFreed=false}{c:SO}{t:Nat}{hc:jH K.C z.newX (st.cells++[c]).length st.cells.length (z.s.heap.push o) c}:(z.newC o hf c t hc).d dV (.ref st.cells.length) (.ref (sz z)):=
 ⟨by show _ < (st.cells++[c]).length;rw [xC];exact yA _,congrArg qE qA.symm⟩
theorem By{z:Z K A st}{o:Obj}{p:Obj→Prop}(hf:o.isFreed=false)(d:p o):tL z.newX st.cells.length (z.s.heap.push o) p:=
 .mk o (by show z.newX.W (pZ _ _ _ _)=_;rw [qA];exact DL) (by show _=_;rw [show z.newX.ρ st.cells.length=sz z from qA];exact oA _ hf) d
theorem Go.newC{z:Z K A st}{w:WP aB}{c:SO}(o:Obj)(t:Nat)(hc:jH K.C z.newX (st.cells++[c]).length st.cells.length (z.s.heap.push o) c)(h:∀ Q,Q (.ref (sz z)) {z.s with heap:=z.s.heap.push o,toks:=t}→w Q z.s)(hf:o.isFreed=false:=by rfl):Go z dV w (some (.ref st.cells.length,⟨st.loc,st.cells++[c]⟩)):=
 .ret (z.newC o hf c t hc) z.newLe z.newD h
theorem Go.newL{z:Z K A st}{w:WP aB}{xs:List PV}{vs:List aB}(t:Nat)(d:bQ K.C z.X xs vs)(h:∀ Q,Q (.ref (sz z)) {z.s with heap:=z.s.heap.push (cC vs 0),toks:=t}→w Q z.s):Go z dV w (some (.ref st.cells.length,⟨st.loc,st.cells++[.list xs]⟩)):=
 .newC (cC vs 0) t (By rfl (.mk vs 0 (bQ.mono (z.newTr (cC vs 0) rfl (.list xs)).low d))) h
noncomputable def Z.froX(z:Z K A st)(o:Obj):Xt:=z.X.add (sz z) (.fro o) z.X.ρ z.X.δ
theorem Z.froTr(z:Z K A st)(o:Obj)(hf:o.isFreed=false):Tr (fun _=>false) z.X z.s.heap st.cells.length (z.froX o) (z.s.heap.push o) st.cells.length:=
 .add z.R.val (z.R.fresh (cZ _)) (fun _ _ e=>gW o e) (oA _ hf) (cZ _) fun _ _=>rfl
noncomputable def Z.fro(z:Z K A st)(o:Obj)(t:Nat)(hf:o.isFreed=false):Z K A st:=
 ⟨z.froX o,{z.s with heap:=z.s.heap.push o,toks:=t},z.hA,(z.froTr o hf).rel z.R (z.R.still.to _ _) (fun _=>rfl) rfl rfl (fun _=>rfl) fun _ _ e=>.inl ⟨e,rfl,rfl⟩⟩
theorem Go.fro{z:Z K A st}{w:WP aB}{p:PV}(o:Obj)(t:Nat)(d:vY z.X.W (z.froX o).W→(z.froX o).W (sz z)=some (.fro o)→bF K.C (z.froX o).W p (.ref (sz z)))(h:∀ Q,Q (.ref (sz z)) {z.s with heap:=z.s.heap.push o,toks:=t}→w Q z.s)(hf:o.isFreed=false:=by rfl):Go z dV w (some (.pv p,st)):=
 .ret (z.fro o t hf) ((z.froTr o hf).le (fun _=>rfl) fun _=>rfl) (d (z.froTr o hf).low.fro DL) h
theorem Go.newT{z:Z K A st}{w:WP aB}{xs:List PV}{vs:List aB}(t:Nat)(d:bQ K.C z.X xs vs)(h:∀ Q,Q (.ref (sz z)) {z.s with heap:=z.s.heap.push (mI vs 0),toks:=t}→w Q z.s):Go z dV w (some (.pv (.tup xs),st)):=
 .fro (mI vs 0) t (fun l e=>oL.mk (p:=DenL _ _ xs) _ vs 0 e (by rw [iH];exact aS.imp (bF.mono l) _ _ d)) h
noncomputable def BF(k:Nat):bU→Bool
 |.cell j=>bV j k
 |_=>false
theorem aFj{j k:Nat}(h:j≠k):BF k (.cell j)=false:=by
 cases e:bV j k with
 |false=>exact e
 |true=>exact absurd (sH e) h
theorem Tr.cellTurn{X:Xt}{h h':Heap}{n k:Nat}{a:Addr}(v:∀ a r,X.W a=some r→gY h a r)(hW:X.W a=some (.cell k))(g:uP a h h')(hx:∃ o,h'.get? a=some o):Tr (BF k) X h n X h' n:=by
 refine⟨⟨fun _ _ e=>e,fun _ _=>rfl,cZ _⟩,fun b r e q=>⟨e,g.2 _ fun c=> ?_⟩,fun b r e=> ?_⟩
 ·rw [c,hW] at e;obtain rfl:=bO e;rw [BF,DB] at q;cases q
 ·by_cases c:b=a
  ·rw [c,hW] at e;obtain rfl:=bO e;rw [c];exact .inr hx
  ·exact .inr ((v b r e).same (g.2 _ c))
noncomputable def fG(st:St)(k:Nat)(c:SO):St:={st with cells:=st.cells.set k c}
theorem CM(st:St)(k:Nat)(c:SO):(st.cells.set k c).length=st.cells.length:=List.length_set ..
theorem Ko{C:Cx}{X:Xt}{cells:List SO}{h:Heap}{k:Nat}{c:SO}{N:Nat}{f:Nat→Addr}(hc:jH C X N k h c)(j:Nat)(c':SO)(e:(cells.set k c)[j]? =some c'):(cells[j]? =some c'∧BF k (.cell j)=false∧f j=f j)∨jH C X N j h c':=by
 by_cases q:k=j
 ·subst q;rw [List.getElem?_set] at e;rw [if_pos rfl] at e;split at e
  ·obtain rfl:=bO e;exact .inr hc
  ·exact aT e
 ·rw [List.getElem?_set_ne q] at e;exact .inl ⟨e,aFj fun z=>q z.symm,rfl⟩
noncomputable def Z.setC(z:Z K A st)(k:Nat)(c:SO){a:Addr}(h':Heap)(t:Nat)(hW:z.X.W a=some (.cell k))(g:uP a z.s.heap h')(hx:∃ o,h'.get? a=some o)(hc:jH K.C z.X st.cells.length k h' c):Z K A (fG st k c):=
 ⟨z.X,{z.s with heap:=h',toks:=t},z.hA,Tr.rel (X':=z.X) (s':={z.s with heap:=h',toks:=t}) (cells':=st.cells.set k c) (by rw [CM];exact Tr.cellTurn z.R.val hW g hx) z.R (z.R.still.to _ _) (fun _=>rfl) rfl rfl (fun _=>rfl) (by rw [CM];exact Ko hc)⟩
theorem Go.setC{z:Z K A st}{D:Dn α β}{w:WP β}{k:Nat}{c:SO}{a:Addr}{b:α}{x:β}(h':Heap)(t:Nat)(hW:z.X.W a=some (.cell k))(g:uP a z.s.heap h')(hx:∃ o,h'.get? a=some o)(hc:jH K.C z.X st.cells.length k h' c)
  (d:D K.C z.X st.cells.length b x) (h:∀ Q,Q x {z.s with heap:=h',toks:=t}→w Q z.s):Go z D w (some (b,fG st k c)):=
 .ret (z.setC k c h' t hW g hx hc) (by show z.X.le _ z.X (st.cells.set k c).length;rw [CM];exact .refl ..) (by show D _ _ (st.cells.set k c).length _ _;rw [CM];exact d) h
end
end
section
set_option tactic.hygienic true
section
variable{sl:aL}{env:Env}
theorem tO.facts(F:tO sl env):env.scope.kind= .function∧(sl.map (·.1)).Nodup∧∀ p∈sl,(p.1==("__debug__":Str))=false∧(p.1==("__classdict__":Str))=false:=by
 have h:=F.sc
 simp only [xO,F.names,hZ,beq_iff_eq,decide_eq_true_eq,List.all_eq_true,RX] at h
 exact⟨h.1.1,h.1.2,h.2⟩
theorem Bf:∀ {sl:aL},(sl.map (·.1)).Nodup→∀ {i:Nat} {x:Str} {k:pM},sl[i]? =some (x,k)→sl.lookup x=some k:=by
 intro sl
 induction sl with
 |nil=>intro _ i x k e;exact aT e
 |cons p r ih=>
  intro hn i x k e
  have hn:=List.nodup_cons.mp hn
  cases i with
  |zero=>obtain rfl:=bO e;simp [List.lookup]
  |succ i=>
   have e:r[i]? =some (x,k):=e
   have hm:x∈r.map (·.1):=List.mem_map.mpr ⟨(x,k),oB e,rfl⟩
   have:(x==p.1)=false:=beq_eq_false_iff_ne.mpr fun q=>hn.1 (q▸hm:p.1∈r.map (·.1))
   show(match x==p.1 with | true=>some p.2 | false=>r.lookup x)=_
   exact(this).symm▸ih hn.2 e
theorem ZY(hn:(sl.map (·.1)).Nodup){i j:Nat}{x:Str}{k k':pM}(a:sl[i]? =some (x,k))(b:sl[j]? =some (x,k')):i=j:=by
 have a':(sl.map (·.1))[i]? =some x:=by rw [iW,a];rfl
 have b':(sl.map (·.1))[j]? =some x:=by rw [iW,b];rfl
 exact(Hg (List.getElem?_eq_some_iff.mp a').1 hn).mp (a'.trans b'.symm)
theorem tO.kind(F:tO sl env):env.scope.kind= .function:=F.facts.1
theorem tO.kinds(F:tO sl env){i:Nat}{x:Str}{k:pM}(e:sl[i]? =some (x,k)):env.kindOf x=some k:=by
 unfold Env.kindOf;rw [F.names];exact Bf F.facts.2.1 e
theorem tO.odd(F:tO sl env){i:Nat}{x:Str}{k:pM}(e:sl[i]? =some (x,k)):(x==("__debug__":Str))=false∧(x==("__classdict__":Str))=false:=F.facts.2.2 (x,k) (oB e)
noncomputable def nm(sl:aL)(i:Nat):Str:=match sl[i]? with
 |some p=>p.1
 |none=>""
noncomputable def eI(sl:aL)(i:Nat)(k:pM):Bool:=match sl[i]? with
 |some p=>p.2==k
 |none=>false
theorem kF{i:Nat}{k:pM}(h:eI sl i k=true):sl[i]? =some (nm sl i,k):=by
 unfold eI at h;unfold nm
 cases e:sl[i]? with
 |none=>rw [e] at h;exact eP h
 |some p=>
  rw [e] at h
  have:p.2=k:=by simpa using h
  exact this▸rfl
end
theorem zW{α:Type}{l:List α}{i j:Nat}{v y:α}(h:(l.set i v)[j]? =some y):(j=i∧y=v)∨(j≠i∧l[j]? =some y):=by
 by_cases q:i=j
 ·subst q;rw [List.getElem?_set,if_pos rfl] at h;split at h
  ·exact .inl ⟨rfl,(bO h).symm⟩
  ·exact aT h
 ·rw [List.getElem?_set_ne q] at h;exact .inr ⟨fun z=>q z.symm,h⟩
noncomputable def XY:bU→Bool
 |.frame=>true
 |_=>false
noncomputable def aFk:bU→Bool
 |.fcell=>true
 |_=>false
theorem Tr.turn{ex:bU→Bool}{X:Xt}{h h':Heap}{n:Nat}{a:Addr}{r:bU}(v:∀ a r,X.W a=some r→gY h a r)(hW:X.W a=some r)(he:ex r=true)(g:uP a h h')(hx:gY h' a r):Tr ex X h n X h' n:=by
 refine⟨⟨fun _ _ e=>e,fun _ _=>rfl,cZ _⟩,fun b q e z=>⟨e,g.2 _ fun c=> ?_⟩,fun b q e=> ?_⟩
 ·rw [c,hW] at e;obtain rfl:=bO e;rw [he] at z;cases z
 ·by_cases c:b=a
  ·rw [c,hW] at e;obtain rfl:=bO e;exact(c).symm▸ .inr hx
  ·exact .inr ((v b q e).same (g.2 _ c))
section
variable{K:KK}{A:aR}{st st':St}{α β:Type}
theorem Z.nsA(z:Z K A st){c:Addr}(h:SF z.X K.env c):c≠K.env.locals:=fun q=>by
 have hW:=z.R.fr.nsW
 replace hW:=(q).symm▸hW
 rcases h with h | ⟨_,o,h⟩ <;> rw [hW] at h <;> cases h
theorem Z.setLoc(z:Z K A st){i:Nat}{x:Str}{sv:SV}{v:aB}{h':Heap}{t:Nat}{m:Str→Option aB}(e:K.sl[i]? =some (x,.local))(d:z.d dV sv v)
  (hs:∀(i:Nat) x sv,K.sl[i]? =some (x,.local)→st.loc[i]? =some (some sv)→∃ v,m x=some v∧z.d dV sv v)
  (hn:h'.Ns K.env.locals fun y=>if y=x then some v else m y) (g:uP K.env.locals z.s.heap h'):uX K.C z.X K.sl K.env ⟨st.loc.set i (some sv),st.cells⟩ {z.s with heap:=h',toks:=t}:=by
 have F:=z.R.fr
 have T:Tr XY z.X z.s.heap st.cells.length z.X h' st.cells.length:=.turn z.R.val F.nsW rfl g (let⟨o,_,_,ho,_⟩:=hn;⟨o,ho⟩)
 refine⟨T.relC z.R.toRelC (z.R.still.to _ _) (fun _=>rfl) fun _ _ e=>.inl ⟨e,rfl,rfl⟩,F.st,F.nsW,⟨_,hn,fun j y w ey ew=> ?_⟩,fun j y ey=> ?_,fun j y w ey ew=> ?_⟩
 ·rcases zW ew with⟨rfl,q⟩ | ⟨q,ew⟩
  ·cases e.symm.trans ey;obtain rfl:=bO q;exact⟨v,if_pos rfl,d⟩
  ·obtain⟨u,hu,du⟩:=hs j y w ey ew
   exact⟨u,(if_neg fun(c:y=x)=>q (ZY F.st.facts.2.1 (c▸ey) e)).trans hu,du⟩
 ·obtain⟨c,v₀,a,b,ic,f⟩:=F.cell j y ey
  refine⟨c,v₀,a,b,WZ (g.2 _ (z.nsA b)) ic,fun w ew=>(zW ew).elim (fun q=> ?_) fun q=>f w q.2⟩
  rw [q.1,e] at ey;exact(nomatch ey)
 ·refine(zW ew).elim (fun q=> ?_) fun q=>F.free j y w ey q.2
  rw [q.1,e] at ey;exact(nomatch ey)
theorem Z.setCv(z:Z K A st){i:Nat}{x:Str}{sv:SV}{v:aB}{c:Addr}{h':Heap}(e:K.sl[i]? =some (x,.cell))(hc:K.env.cells.lookup x=some c)(hF:K.env.func.isSome=true)(hWc:z.X.W c=some .fcell)(d:z.d dV sv v)
  (hn:h'.IsCell c (some v)) (g:uP c z.s.heap h'):uX K.C z.X K.sl K.env ⟨st.loc.set i (some sv),st.cells⟩ {z.s with heap:=h'}:=by
 have F:=z.R.fr
 have T:Tr aFk z.X z.s.heap st.cells.length z.X h' st.cells.length:=.turn z.R.val hWc rfl g (let⟨o,ho,_⟩:=hn;⟨o,ho⟩)
 refine⟨T.relC z.R.toRelC (z.R.still.to h' z.s.toks) (fun _=>rfl) fun _ _ e=>.inl ⟨e,rfl,rfl⟩,F.st,F.nsW,?_,fun j y ey=> ?_,fun j y w ey ew=> ?_⟩
 ·obtain⟨m,hm,hs⟩:=F.ns
  refine⟨m,Cd (T.keep _ _ F.nsW rfl).2 hm,fun j y w ey ew=>(zW ew).elim (fun q=> ?_) fun q=>hs j y w ey q.2⟩
  replace ey:=(e)▸(q.1)▸ey;cases ey
 ·by_cases hij:j=i
  ·subst hij;cases e.symm.trans ey
   exact⟨c,some v,hc,.inl hWc,hn,fun w ew=>(zW ew).elim (fun q=>by cases q.2;exact⟨v,rfl,d⟩) fun q=>absurd rfl q.1⟩
  ·obtain⟨c',v₀,a,b,ic,f⟩:=F.cell j y ey
   refine⟨c',v₀,a,b,WZ (g.2 _ fun q=> ?_) ic,fun w ew=>(zW ew).elim (fun q=>absurd q.1 hij) fun q=>f w q.2⟩
   subst q;exact hij (ZY F.st.facts.2.1 (F.st.apart hF _ _ _ hc a▸ey) e)
 ·refine(zW ew).elim (fun q=> ?_) fun q=>F.free j y w ey q.2
  rw [q.1,e] at ey;exact(nomatch ey)
noncomputable def aA(i:Nat):M SV:=fun st=>match st.loc[i]? with
 |some (some v)=>some (v,st)
 |_=>none
noncomputable def tE(i:Nat)(v:SV):M Unit:=fun st=>some ((),{st with loc:=st.loc.set i (some v)})
theorem Go.getLoc{z:Z K A st}{D:Dn SV β}{w:WP β}{i:Nat}(h:∀ v,st.loc[i]? =some (some v)→Go z D w (some (v,st))):Go z D w (aA i st):=by
 unfold Mine.aA;split
 ·rename_i v e;exact h v e
 ·exact .no
variable{z:Z K A st}
theorem aGp{i:Nat}{pos:Pos}(h:eI K.sl i .local=true):Go z dV (K.wp A (eval (.Name (nm K.sl i) pos) K.env)) (aA i st):=
 .getLoc fun v hl=>let⟨m,hns,hs⟩:=z.R.fr.ns;let⟨y,hy,dy⟩:=hs i _ v (kF h) hl
  .same dy fun Q q=>wpAny_Name (wpAny_loadName_local z.R.fr.st.kind (z.R.fr.st.kinds (kF h)) hns hy q) (z.R.fr.st.odd (kF h)).1
theorem aGj{i:Nat}{pos:Pos}(h:eI K.sl i .cell=true):Go z dV (K.wp A (eval (.Name (nm K.sl i) pos) K.env)) (aA i st):=
 .getLoc fun v hl=>let⟨c,v₀,hc,hW,ic,hs⟩:=z.R.fr.cell i _ (kF h);let⟨y,e,dy⟩:=hs v hl
  .same dy fun Q q=>wpAny_Name (wpAny_loadName_cell z.R.fr.st.kind (z.R.fr.st.kinds (kF h)) hc (e▸ic) q) (z.R.fr.st.odd (kF h)).1
noncomputable def Gl(C:Cx)(x:Str)(v:aB):Prop:=
 (∃ mg,C.base.Ns jX mg∧mg x=some v)∨(∃ mg mb,C.base.Ns jX mg∧mg x=none∧C.base.Ns wO mb∧mb x=some v)
theorem nX{M:jR}{i:Nat}{v:aB}{pos:Pos}{Q:aB→aG→Prop}{E:aB→aG→Prop}(e:eI K.sl i .globalImplicit=true)(g:Gl K.C (nm K.sl i) v)(h:Q v z.s):
  aI M A (eval (.Name (nm K.sl i) pos) K.env) Q E z.s:=by
 have F:=z.R.fr.st
 have k:=z.R.keeps0
 refine wpAny_Name ?_ (F.odd (kF e)).1
 unfold loadName
 simp only [Env.blockKind,F.kind,F.kinds (kF e),ScopeKind.isAnnotationScope,Bool.false_and,GH,if_false]
 unfold loadGlobal
 refine(F.globals).symm▸(F.builtins).symm▸?_
 rcases g with⟨mg,n,e⟩ | ⟨mg,mb,n,e,n',e'⟩
 ·refine aF (wpAny_nsGet (n.keeps k) ?_)
  exact(e).symm▸bG h
 ·refine aF (wpAny_nsGet (n.keeps k) ?_)
  refine(e).symm▸?_
  refine aF (wpAny_nsGet (n'.keeps k) ?_)
  exact(e').symm▸bG h
noncomputable def Zi(C:Cx)(W:Addr→Option bU):Prop:=∀(b:Addr) (o:Obj),C.base.get? b=some o→W b=some (.fro o)
noncomputable def GN(C:Cx)(x:Str)(p:PV):Prop:=∃ v,Gl C x v∧∀ W,Zi C W→bF C W p v
noncomputable def lP(K:KK)(i:Nat):Prop:=eI K.sl i .local=true∨(eI K.sl i .cell=true∧K.env.func.isSome=true)
theorem IX{D:Dn α β}{w:WP β}{a:α}{x:β}{i:Nat}{sv:SV}{v:aB}(q:lP K i)(d:z.d dV sv v)(da:z.d D a x)(h:∀ Q,aI (aK K.C.prog K.C.w) A (storeName K.env (nm K.sl i) v) (fun _=>Q x) nE z.s→w Q z.s):Go z D w (some (a,⟨st.loc.set i (some sv),st.cells⟩)):=by
 intro a' s' e Q k
 obtain⟨rfl,rfl⟩:=gA e
 refine h Q ?_
 rcases q with q | ⟨q,hf⟩
 ·obtain⟨m,hm,hs⟩:=z.R.fr.ns
  refine wpAny_storeName_local (z.R.fr.st.kinds (kF q)) hm (fun h' hn g=>k ⟨z.X,_,z.hA,z.setLoc (kF q) d hs hn g⟩ x Z.le0 da) ?_
  rw [z.R.fr.st.kind];rfl
 ·obtain⟨c,v₀,hc,hW,ic,hs⟩:=z.R.fr.cell i _ (kF q)
  rcases hW with hW | ⟨q',_⟩
  ·exact wpAny_storeName_cell z.R.fr.st.kind (z.R.fr.st.kinds (kF q)) hc ic fun h' hn g=>k ⟨z.X,_,z.hA,z.setCv (kF q) hc hf hW d hn g⟩ x Z.le0 da
  ·rw [q'] at hf;exact eP hf
end
end
noncomputable def dT:List Expr→Expr
 |e::_=>e
 | []=>.Constant .none 0 default
noncomputable def xP:Expr→List Expr×List Expr×Pos×Nat
 |.BinOp l _ r p=>([l,r],[],p,0)
 |.UnaryOp _ x p=>([x],[],p,0)
 |.IfExp t b o p=>([t,b,o],[],p,0)
 |.Compare l _ cs p=>(l::cs,[],p,0)
 |.Attribute v _ p=>([v],[],p,0)
 |.Subscript v s _=>([v,s],[],s.pos,0)
 |.Call f as _ _=>([f],as,f.pos,0)
 |.Tuple es k p=>([],es,p,k)
 |.List es p=>([],es,p,0)
 |.BoolOp _ es p=>([],es,p,0)
 |.Dict _ vs p=>([],vs,p,0)
 |.Constant _ k p=>([],[],p,k)
 |_=>([],[],default,0)
noncomputable def x1(e:Expr):Expr:=dT (xP e).1
noncomputable def x2(e:Expr):Expr:=dT (xP e).1.tail
noncomputable def x3(e:Expr):Expr:=dT (xP e).1.tail.tail
noncomputable def xs(e:Expr):List Expr:=(xP e).2.1
noncomputable def xq(e:Expr):Pos:=(xP e).2.2.1
noncomputable def xk(e:Expr):Nat:=(xP e).2.2.2
noncomputable def sT:Expr→Nat
 |.Starred ..=>0
 |.Set ..=>0
 |.Slice ..=>0
 |.ListComp ..=>1
 |.SetComp ..=>1
 |.DictComp ..=>1
 |.BoolOp ..=>2
 |.Compare ..=>2
 |.IfExp ..=>2
 |.UnaryOp ..=>2
 |.Call f _ _ _=>match f with
  |.Name ..=>3
  |_=>5
 |_=>4
section
variable{e:Expr}{env:Env}{n:Nat}
theorem rY(h:sT e=n+1)(es:List Expr):fO (e::es) env=(false,eval e env)::fO es env:=by
 cases e <;> first | rfl | exact nomatch h
theorem Xq(h:sT e=n+2)(t:Option Expr)(l:Nat):FY e t l env=pure false:=by
 cases e <;> first | rfl | exact nomatch h
theorem OO(h:sT e=n+1)(x:aB):foldedSetIterable e env x=pure x:=by
 cases e <;> first | rfl | exact nomatch h
theorem aOZ(h:sT e=n+1)(o i:aB):subscripted e false o i=operate [o,i] (getItem o i):=by
 cases e <;> first | rfl | exact nomatch h
theorem Ji(h:sT e=n+1)(op:CmpOp):behindInMarks op e=false:=by
 cases e <;> first | rfl | exact nomatch h
theorem Jg(h:bV (sT e) 3=false)(a:Str)(w:Sem aB):attributeBase e a env w=w:=by
 cases e with
 |Call f=>cases f <;> first | rfl | exact nomatch h
 |_=>rfl
theorem aPs(h:bV (sT e) 2=false)(w:Sem aB):PySem.isTrue e env w=(do let v ←w;standAt e.pos;holding [v] (truthy v)):=by
 cases e <;> first | rfl | exact nomatch h
end
structure PE(K:KK) where
 m:M SV
 r:Expr→Expr
 c:Nat
 hc:∀ e,sT (r e)=c+1
 ok:∀(e:Expr) {A:aR} {st:St} (z:Z K A st),Go z dV (K.wp A (eval (r e) K.env)) (m st)
structure PT(K:KK) where
 m:M Bool
 r:Expr→Expr
 ok:∀(e:Expr) {A:aR} {st:St} (z:Z K A st),Go z dB (K.wp A (isTrue (r e) K.env (eval (r e) K.env))) (m st)
section
variable{K:KK}
theorem PE.sw(a:PE K)(h:bV a.c 0=false)(e:Expr)(t:Option Expr)(l:Nat):FY (a.r e) t l K.env=pure false:=by
 obtain⟨m,r,c,hc,ok⟩:=a
 cases c with
 |zero=>exact eP h
 |succ c=>exact Xq (hc e) t l
theorem PE.ab(a:PE K)(h:bV a.c 2=false)(e:Expr)(x:Str)(w:Sem aB):attributeBase (a.r e) x K.env w=w:=Jg (by rw [a.hc];exact h) x w
noncomputable def jZ(K:KK)(t:aB→Sem aB)(f:SV→M SV):Prop:=∀ {A:aR} {st:St} (z:Z K A st) {a:SV} {x:aB},z.d dV a x→Go z dV (K.wp A (t x)) (f a st)
noncomputable def gG(K:KK)(t:aB→aB→Sem aB)(f:SV→SV→M SV):Prop:=∀ {A:aR} {st:St} (z:Z K A st) {a b:SV} {x y:aB},z.d dV a x→z.d dV b y→Go z dV (K.wp A (t x y)) (f a b st)
noncomputable def yJ(K:KK)(t:aB→aB→aB→Sem aB)(f:SV→SV→SV→M SV):Prop:=∀ {A:aR} {st:St} (z:Z K A st) {a b c:SV} {x y u:aB},z.d dV a x→z.d dV b y→z.d dV c u→Go z dV (K.wp A (t x y u)) (f a b c st)
noncomputable def kC(K:KK)(t:aB→aB→Sem aB)(f:SV→SV→M Bool):Prop:=∀ {A:aR} {st:St} (z:Z K A st) {a b:SV} {x y:aB},z.d dV a x→z.d dV b y→Go z dVB (K.wp A (t x y)) (f a b st)
noncomputable def Ib(K:KK)(t:aB→Sem Bool)(f:SV→M Bool):Prop:=∀ {A:aR} {st:St} (z:Z K A st) {a:SV} {x:aB},z.d dV a x→Go z dB (K.wp A (t x)) (f a st)
variable{A:aR}{st:St}{z:Z K A st}{α β γ δ:Type}
theorem Go.ru{D:Dn α β}{D':Dn γ δ}{w:WP β}{w':WP δ}{m:M α}{f:α→M γ}{u:β→WP δ}(g:Go z D w (m st))(h:∀ Q,w (fun x=>u x Q) z.s→w' Q z.s)(k:∀ {a:α} {st₁:St} {x:β} (z₁:Z K A st₁),z.le z₁→z₁.d D a x→Go z₁ D' (u x) (f a st₁)):Go z D' w' (Mine.bd m f st):=(g.bd k).imp h
theorem Go.ruB{D':Dn γ δ}{w:WP Bool}{w':WP δ}{m:M Bool}{f:Bool→M γ}{u:Bool→WP δ}(g:Go z dB w (m st))(h:∀ Q,w (fun x=>u x Q) z.s→w' Q z.s)(k:∀ {a:Bool} {st₁:St} (z₁:Z K A st₁),z.le z₁→Go z₁ D' (u a) (f a st₁)):Go z D' w' (Mine.bd m f st):=(g.bdB k).imp h
theorem Go.rt{D:Dn α β}{w:WP β}{a:α}{x:β}(d:z.d D a x)(h:∀ Q,Q x z.s→w Q z.s):Go z D w (Mine.rt a st):=Go.same d h
noncomputable def Kn:PE K:=⟨rt (.pv .none),fun e=>.Constant .none (xk e) e.pos,3,fun _=>rfl,fun _ _ _ z=>.rt (x:=.none) rfl fun Q=>wpAny_Constant_none⟩
noncomputable def Kb(b:Bool):PE K:=⟨rt (.pv (.bool b)),fun e=>.Constant (.bool b) (xk e) e.pos,3,fun _=>rfl,fun _ _ _ z=>.rt (x:=.bool b) rfl fun Q=>wpAny_Constant_bool⟩
noncomputable def Ki(i:Int):PE K:=⟨rt (.pv (.int i)),fun e=>.Constant (.int i) (xk e) e.pos,3,fun _=>rfl,fun _ _ _ z=>.ret (z.tok (z.s.toks+1)) Z.le0 (jQ.mk z.s.toks) fun Q=>wpAny_Constant_int⟩
noncomputable def Ks(x:Str)(l:List Nat)(h:x.cps.toList=l:=by rfl):PE K:=⟨rt (.pv (.str l)),fun e=>.Constant (.str x) (xk e) e.pos,3,fun _=>rfl,fun _ _ _ z=>.ret (z.tok (z.s.toks+1)) Z.le0 (h▸lQ.mk x z.s.toks:lQ l _) fun Q=>wpAny_Constant_str⟩
noncomputable def Ky(b:List UInt8)(l:List Nat)(h:b.map cJ=l:=by rfl):PE K:=⟨rt (.pv (.bytes l)),fun e=>.Constant (.bytes b) (xk e) e.pos,3,fun _=>rfl,fun _ A _ z=>.ret (z.tok (z.s.toks+1)) Z.le0 (h▸iU.mk b.toArray z.s.toks:iU l _) fun Q q=>show aI _ A (mkTextBytes b.toArray) Q nE z.s from fun Γ p hΓ=>q⟩
noncomputable def L(i:Nat)(h:eI K.sl i .local=true:=by rfl):PE K:=⟨aA i,fun e=>.Name (nm K.sl i) e.pos,3,fun _=>rfl,fun _ _ _ z=>aGp h⟩
noncomputable def Lc(i:Nat)(h:eI K.sl i .cell=true:=by rfl):PE K:=⟨aA i,fun e=>.Name (nm K.sl i) e.pos,3,fun _=>rfl,fun _ _ _ z=>aGj h⟩
theorem aGl{p:PV}{i:Nat}{pos:Pos}(g:GN K.C (nm K.sl i) p)(h:eI K.sl i .globalImplicit=true):Go z dV (K.wp A (eval (.Name (nm K.sl i) pos) K.env)) (rt (.pv p) st):=
 g.elim fun v g=>.rt (x:=v) (g.2 _ z.R.base) fun Q=>nX h g.1
noncomputable def Gc{p:PV}(i:Nat)(g:GN K.C (nm K.sl i) p)(h:eI K.sl i .globalImplicit=true:=by rfl):PE K:=⟨rt (.pv p),fun e=>.Name (nm K.sl i) e.pos,3,fun _=>rfl,fun _ _ _ z=>aGl g h⟩
noncomputable def aX{op:Operator}{f:SV→SV→M SV}(h:gG K (jU op) f)(a b:PE K):PE K:=⟨bd a.m fun x=>bd b.m fun y=>f x y,fun e=>.BinOp (a.r (x1 e)) op (b.r (x2 e)) e.pos,3,fun _=>rfl,
 fun _ _ _ z=>(a.ok _ z).ru (fun Q=>wpAny_BinOp) fun z₁ l₁ dx=>(b.ok _ z₁).bd fun z₂ l₂ dy=>h z₂ (l₂.v dx) dy⟩
noncomputable def qV{op:CmpOp}{f:SV→SV→M Bool}(h:kC K (eW op) f)(a b:PE K):PE K:=⟨bd a.m fun x=>bd b.m fun y=>bd (f x y) fun r=>rt (.pv (.bool r)),fun e=>.Compare (a.r (x1 e)) [op] [b.r (x2 e)] e.pos,1,fun _=>rfl,
 fun e _ _ z=>(a.ok _ z).ru (fun Q q=>wpAny_Compare1 q (Ji (b.hc _) op)) fun z₁ l₁ dx=>(b.ok _ z₁).bd fun z₂ l₂ dy=>(h z₂ (l₂.v dx) dy).ru (u:=fun x Q=>Q x) (fun Q q=>q) fun z₃ l₃ d=>.rt (d:_=_) fun Q q=>q⟩
noncomputable def aV{op:CmpOp}{f:SV→SV→M Bool}(h:kC K (eW op) f)(a b:PE K):PT K:=⟨bd a.m fun x=>bd b.m fun y=>f x y,fun e=>.Compare (a.r (x1 e)) [op] [b.r (x2 e)] e.pos,
 fun e _ _ z=>(a.ok _ z).ru (fun Q q=>wpAny_isTrue_Compare1 q (Ji (b.hc _) op)) fun z₁ l₁ dx=>(b.ok _ z₁).bd fun z₂ l₂ dy a s e Q q=>h z₂ (l₂.v dx) dy a s e _ fun z₃ x l d=>(d:_=_)▸uM (q z₃ _ l rfl)⟩
noncomputable def Ic(a:PT K):PT K:=⟨bd a.m fun b=>rt (!b),fun e=>.UnaryOp .Not (a.r (x1 e)) e.pos,fun e _ _ z=>(a.ok _ z).ruB (fun Q=>wpAny_isTrue_Not) fun z₁ l₁=>.rt rfl fun Q q=>q⟩
theorem Pb{D:Dn α β}{w w':WP β}{m m':M α}{b:Bool}(h:Go z D w (m st))(h':Go z D w' (m' st)):Go z D (fun Q s=>if b=true then w Q s else w' Q s) ((match b with | true=>m | false=>m':M α) st):=by
 cases b with
 |true=>exact h.imp fun Q q=>q
 |false=>exact h'.imp fun Q q=>q
noncomputable def lF(t:PT K)(a b:PE K):PE K:=⟨bd t.m fun c=>match c with | true=>a.m | false=>b.m,fun e=>.IfExp (t.r (x1 e)) (a.r (x2 e)) (b.r (x3 e)) e.pos,1,fun _=>rfl,
 fun e _ _ z=>(t.ok _ z).ruB (fun Q=>wpAny_IfExp) fun z₁ l₁=>Pb (a.ok _ z₁) (b.ok _ z₁)⟩
noncomputable def kE{t:SV→M Bool}(ht:Ib K truthy t)(a:PE K)(h:bV a.c 1=false:=by rfl):PT K:=⟨bd a.m t,a.r,fun e _ _ z=>(a.ok _ z).ru (fun Q q=>isTrue_plain q (aPs (by rw [a.hc];exact h) _)) fun z₁ l₁ dx=>ht z₁ dx⟩
end
section
set_option tactic.hygienic true
section
variable{K:KK}{A:aR}{st st':St}{z:Z K A st}{α β γ δ:Type}{D:Dn α δ}{T:aB→WP δ}{a:SV}{x:aB}{e:M α}
noncomputable def lK(a:SV)(k:PV→M α):M α:=match a with
 |.pv p=>k p
 |.ref _=>er
theorem Go.onP(d:z.d dV a x)(h:∀ p,bF K.C z.X.W p x→Go z D (T x) (k p st)):Go z D (T x) (lK a k st):=by
 cases a with
 |pv p=>exact h p d
 |ref=>exact .no
noncomputable def gT(a:SV)(k:Int→M α)(e:M α):M α:=match a with
 |.pv (.int i)=>k i
 |_=>e
theorem Go.onI(d:z.d dV a x)(h:∀ i t,Go z D (T (.int i t)) (k i st))(h':Go z D (T x) (e st)):Go z D (T x) (gT a k e st):=by
 cases a with
 |pv p=>cases p with
  |int i=>cases d with | mk t=>exact h i t
  |_=>exact h'
 |ref=>exact h'
noncomputable def Tt(a:SV)(k:Bool→M α)(e:M α):M α:=match a with
 |.pv (.bool i)=>k i
 |_=>e
theorem Go.onO(d:z.d dV a x)(h:∀ b,Go z D (T (.bool b)) (k b st))(h':Go z D (T x) (e st)):Go z D (T x) (Tt a k e st):=by
 cases a with
 |pv p=>cases p with
  |bool i=>subst d;exact h i
  |_=>exact h'
 |ref=>exact h'
noncomputable def kU(a:SV)(k:List Nat→M α)(e:M α):M α:=match a with
 |.pv (.bytes l)=>k l
 |_=>e
theorem Go.onB(d:z.d dV a x)(h:∀ b t,Go z D (T (.bytes b t)) (k (b.toList.map cJ) st))(h':Go z D (T x) (e st)):Go z D (T x) (kU a k e st):=by
 cases a with
 |pv p=>cases p with
  |bytes l=>cases d with | mk b t=>exact h b t
  |_=>exact h'
 |ref=>exact h'
noncomputable def zR(a:SV)(k:List Nat→M α)(e:M α):M α:=match a with
 |.pv (.str l)=>k l
 |_=>e
theorem Go.onS(d:z.d dV a x)(h:∀ b t,Go z D (T (.str b t)) (k b.cps.toList st))(h':Go z D (T x) (e st)):Go z D (T x) (zR a k e st):=by
 cases a with
 |pv p=>cases p with
  |str l=>cases d with | mk b t=>exact h b t
  |_=>exact h'
 |ref=>exact h'
noncomputable def CE(a:SV)(k:List PV→M α)(e:M α):M α:=match a with
 |.pv (.tup l)=>k l
 |_=>e
theorem Go.onT(d:z.d dV a x)(h:∀ xs l vs ep,z.X.W l=some (.fro (mI vs ep))→z.s.heap.get? l=some (mI vs ep)→bQ K.C z.X xs vs→Go z D (T (.ref l)) (k xs st))(h':Go z D (T x) (e st)):Go z D (T x) (CE a k e st):=by
 cases a with
 |pv p=>cases p with
  |tup l=>cases d with | mk r vs ep hw hl=>exact h l r vs ep hw (z.R.val _ _ hw) (by rw [iH] at hl;exact hl)
  |_=>exact h'
 |ref=>exact h'
noncomputable def mB(st:St):SV→Option (List PV)
 |.pv (.lst xs)=>some xs
 |.ref k=>match st.cells[k]? with
  |some (.list xs)=>some xs
  |_=>none
 |_=>none
noncomputable def iI(a:SV)(k:List PV→M α)(e:M α):M α:=fun st=>match mB st a with
 |some xs=>k xs st
 |none=>e st
theorem Go.onL(d:z.d dV a x)(h:∀ xs l vs ep,z.s.heap.get? l=some (cC vs ep)→bQ K.C z.X xs vs→Go z D (T (.ref l)) (k xs st))(h':Go z D (T x) (e st)):Go z D (T x) (iI a k e st):=by
 cases a with
 |pv p=>cases p with
  |lst l=>cases d with | mk r vs ep hw hl=>exact h l r vs ep (z.R.val _ _ hw) (by rw [iH] at hl;exact hl)
  |_=>exact h'
 |ref i=>
  unfold Mine.iI mB;dsimp only
  cases q:st.cells[i]? with
  |none=>exact h'
  |some c=>cases c with
   |list xs=>cases z.R.cells _ _ q with | mk o hw ho r=>cases r with | mk vs ep hl=>cases d.2;exact h xs _ vs ep ho hl
   |_=>exact h'
noncomputable def qN(a:SV)(k:Nat→List PV→M α)(e:M α):M α:=fun st=>match a with
 |.ref i=>match st.cells[i]? with
  |some (.list xs)=>k i xs st
  |_=>e st
 |_=>e st
theorem Go.onC(d:z.d dV a x)(h:∀ i xs vs ep,z.X.W (z.X.ρ i)=some (.cell i)→z.s.heap.get? (z.X.ρ i)=some (cC vs ep)→bQ K.C z.X xs vs→Go z D (T (.ref (z.X.ρ i))) (k i xs st))(h':Go z D (T x) (e st)):Go z D (T x) (qN a k e st):=by
 cases a with
 |pv=>exact h'
 |ref i=>
  unfold Mine.qN;dsimp only;split
  ·rename_i xs q
   cases z.R.cells _ _ q with | mk o hw ho r=>cases r with | mk vs ep hl=>cases d.2;exact h i xs vs ep hw ho hl
  ·exact h'
noncomputable def BE(st:St):SV→Option (KD×List PV×List PV)
 |.pv (.dct kd ks vs)=>some (kd,ks,vs)
 |.ref k=>match st.cells[k]? with
  |some (.dict kd ks vs)=>some (kd,ks,vs)
  |_=>none
 |_=>none
theorem Z.noSys(z:Z K A st){a:Addr}(h:z.X.W a=some (.cell k)):(a==rZ)=false:=by
 obtain⟨o,ho⟩:=K.C.sysm
 exact beq_eq_false_iff_ne.mpr fun e=>by have:=z.R.base _ _ ho;rw [←e,h] at this;exact(nomatch this)
noncomputable def kJ(a:SV)(k:KD→List PV→List PV→M α)(e:M α):M α:=fun st=>match BE st a with
 |some (kd,ks,vs)=>k kd ks vs st
 |none=>e st
theorem Go.onD{k:KD→List PV→List PV→M α}(d:z.d dV a x)(h:∀ kd ks vs l o,(l==rZ)=false→z.s.heap.get? l=some o→iK K.C kd ks (bQ K.C z.X ks) (bQ K.C z.X vs) o→Go z D (T (.ref l)) (k kd ks vs st))(h':Go z D (T x) (e st)):Go z D (T x) (kJ a k e st):=by
 cases a with
 |pv p=>cases p with
  |dct kd ks vs=>cases d with | mk r o hw ns d=>exact h kd ks vs r o ns (z.R.val _ _ hw) (by rw [iH,iH] at d;exact d)
  |_=>exact h'
 |ref i=>
  unfold Mine.kJ BE;dsimp only
  cases q:st.cells[i]? with
  |none=>exact h'
  |some c=>cases c with
   |dict kd ks vs=>cases z.R.cells _ _ q with | mk o hw ho r=>cases d.2;exact h kd ks vs _ o (z.noSys hw) ho r
   |_=>exact h'
noncomputable def xK(a:SV)(k:Nat→KD→List PV→List PV→M α)(e:M α):M α:=fun st=>match a with
 |.ref i=>match st.cells[i]? with
  |some (.dict kd ks vs)=>k i kd ks vs st
  |_=>e st
 |_=>e st
theorem Go.onDC(d:z.d dV a x)(h:∀ i kd ks vs o,z.X.W (z.X.ρ i)=some (.cell i)→z.s.heap.get? (z.X.ρ i)=some o→iK K.C kd ks (bQ K.C z.X ks) (bQ K.C z.X vs) o→Go z D (T (.ref (z.X.ρ i))) (k i kd ks vs st))(h':Go z D (T x) (e st)):Go z D (T x) (xK a k e st):=by
 cases a with
 |pv=>exact h'
 |ref i=>
  unfold Mine.xK;dsimp only;split
  ·rename_i q
   cases z.R.cells _ _ q with | mk o hw ho r=>cases d.2;exact h i _ _ _ o hw ho r
  ·exact h'
noncomputable def CD(a:SV)(k:Nat→KD→List PV→List SV→M α)(e:M α):M α:=fun st=>match a with
 |.ref i=>match st.cells[i]? with
  |some (.sdict kd ks vs)=>k i kd ks vs st
  |_=>e st
 |_=>e st
theorem Go.onSC(d:z.d dV a x)(h:∀ i kd ks vs o,z.X.W (z.X.ρ i)=some (.cell i)→z.s.heap.get? (z.X.ρ i)=some o→iK K.C kd ks (bQ K.C z.X ks) (fP K.C z.X st.cells.length vs) o→Go z D (T (.ref (z.X.ρ i))) (k i kd ks vs st))(h':Go z D (T x) (e st)):Go z D (T x) (CD a k e st):=by
 cases a with
 |pv=>exact h'
 |ref i=>
  unfold Mine.CD;dsimp only;split
  ·rename_i q
   cases z.R.cells _ _ q with | mk o hw ho r=>cases d.2;exact h i _ _ _ o hw ho r
  ·exact h'
noncomputable def Ub(st:St):SV→Option (Nat×List SV)
 |.pv (.obj c fs)=>some (c,fs.map .pv)
 |.ref k=>match st.cells[k]? with
  |some (.inst c fs)=>some (c,fs)
  |_=>none
 |_=>none
inductive GZ(K:KK)(z:Z K A st)(c:Nat)(fs:List SV):aB→Prop
 |mk (l dx:Addr) (o:Obj) (hi:z.s.heap.get? l=some (instObj (K.C.cls c) dx)) (ho:z.s.heap.get? dx=some o) (f:sE K.C c fs.length (fP K.C z.X st.cells.length fs) o):GZ K z c fs (.ref l)
noncomputable def KA(a:SV)(k:Nat→List SV→M α):M α:=fun st=>match Ub st a with
 |some (c,fs)=>k c fs st
 |none=>none
theorem Go.onO2(d:z.d dV a x)(h:∀ c fs,GZ K z c fs x→Go z D (T x) (k c fs st)):Go z D (T x) (KA a k st):=by
 cases a with
 |pv p=>cases p with
  |obj c fs=>cases d with | mk r dx o hw hd f=>exact h c _ (.mk r dx o (z.R.val _ _ hw) (z.R.val _ _ hd) (by rw [bT];rw [iH] at f;exact f.imp (fun _ h=>bQ.s h) o))
  |_=>exact .no
 |ref i=>
  unfold Mine.KA Ub;dsimp only
  cases q:st.cells[i]? with
  |none=>exact .no
  |some c=>cases c with
   |inst c fs=>cases z.R.cells _ _ q with | mk o hw hw' ne hi ho f=>cases d.2;exact h c fs (.mk _ _ o hi ho f)
   |_=>exact .no
theorem qK{s:aG}(h:s.heap.get? l=some (cC vs ep)):s.TypeIs (.ref l) "list":=⟨_,h,rfl⟩
theorem RJ{s:aG}(h:s.heap.get? l=some (mI vs ep)):s.TypeIs (.ref l) "tuple":=⟨_,h,rfl⟩
theorem aBC:1000000≤fR:=by unfold fR;decide
theorem vO(h:n < 64):n≤fR:=aP (DD h) (bR rfl)
theorem Bh(h:n < 2):n≤fR:=vO (AN h (bR rfl))
theorem gM(h:n≤1000000):n≤fR:=aP h aBC
noncomputable def dQ(n:Nat)(k:M α):M α:=gd (decide (n≤1000000)) k
theorem Go.fit(h:n≤1000000→Go z D w (k st)):Go z D w (Mine.dQ n k st):=.gd fun q=>h (of_decide_eq_true q)
theorem Go.fitL{β β':Type}{P:β→β'→Prop}{xs:List β}{vs:List β'}(d:aS P xs vs)(h:(iZ vs).size≤1000000→Go z D w (k st)):Go z D w (Mine.dQ xs.length k st):=.fit fun q=>h (by rw [iE,←d.len];exact q)
theorem Go.fitB{b:Array UInt8}(h:b.size≤1000000→Go z D w (k st)):Go z D w (Mine.dQ (b.toList.map cJ).length k st):=.fit fun q=>h (by rw [bT,qB] at q;exact q)
end
end
section
set_option tactic.hygienic true
section
variable{M:jR}{A:aR}{Q:aB→aG→Prop}{E:aB→aG→Prop}{s:aG}{pos:Pos}
theorem fX{α:Type}{t:Sem α}{P P':α→aG→Prop}(h:aI M A t P E s)(k:∀ v s,P v s→P' v s):aI M A t P' E s:=nV h k fun _ _ e=>e
theorem LA{t:Sem aB}{P:List aB→aG→Prop}(h:aI M A t (fun v=>P [v]) E s):aI M A (pX [(false,t)]) P E s:=
 xY (fX h fun _ _ h=>SH h)
theorem Kd{id:String}{first:List aB}{t:Sem aB}(h:aI M A t (fun v=>aI M A (call (.builtin id) (first++[v])) Q E) E s):
  aI M A (oR pos (.builtin id) first [(false,t)] []) Q E s:=
 Gx rfl (SG (LA h))
theorem NH{id:String}{first:List aB}{t u:Sem aB}(h:aI M A t (fun v=>aI M A u (fun w=>aI M A (call (.builtin id) (first++[v,w])) Q E) E) E s):
  aI M A (oR pos (.builtin id) first [(false,t),(false,u)] []) Q E s:=
 Gx rfl (SG (xY (fX h fun _ _ h=>LA h)))
theorem aDv{id:String}{first:List aB}(h:aI M A (call (.builtin id) first) Q E s):aI M A (oR pos (.builtin id) first [] []) Q E s:=
 Gx rfl (PySem.evalArgs_none (by rw [gQ];exact h))
theorem WW{T:String}{x:Sem aB}{r:List (Bool×Sem aB)}(hp:((false,x)::r).any (·.1)=false)(h:aI M A (pX ((false,x)::r)) (fun vs=>aI M A (call (.type T) vs) Q E) E s):
  aI M A (oR pos (.type T) [] ((false,x)::r) []) Q E s:=
 PySem.callWith_type hp (SG h)
theorem xX{env:Env}{id:Str}{p:Pos}{args:List Expr}{trees:List (Bool×Sem aB)}(ht:gF pos (fO args env)=trees)
  (h:aI M A (eval (.Name id p) env) (fun f s₁=>aI M A (oR pos f [] trees []) Q E s₁) E s):aI M A (eval (.Call (.Name id p) args [] pos) env) Q E s:=by
 subst ht;exact wpAny_Call_Name_kw h
end
structure mL(T:String)(name:Str)(id:String):Prop where
 pa:PlainAttrs T
 slot:Slot T name id
 ty:typeOf (.builtin id)=pure (.type "method_descriptor")
section
variable{K:KK}{A:aR}{st:St}{α β γ δ:Type}
theorem FX(a:PE K)(e:Expr)(pos:Pos):gF pos (fO [a.r e] K.env)= [(false,eval (a.r e) K.env)]:=by rw [rY (a.hc e)];rfl
theorem Fb(a b:PE K)(e e':Expr)(pos:Pos):gF pos (fO [a.r e,b.r e'] K.env)= [(false,eval (a.r e) K.env),(false,eval (b.r e') K.env)]:=by rw [rY (a.hc e),rY (b.hc e')];rfl
noncomputable def sN(K:KK)(T:String)(g:SV→M Unit):Prop:=∀ {A:aR} {st:St} (z:Z K A st) {a:SV} {x:aB},z.d dV a x→Go z dU (fun Q s=>s.TypeIs x T∧(∀ l,x= .ref l→∃ ob,s.heap.get? l=some ob∧ob.dict=none)∧Q () s) (g a st)
theorem ZQ{T id:String}{name:Str}{g:SV→M Unit}{f:SV→M SV}{pos:Pos}{trees:List (Bool×Sem aB)}{z:Z K A st}{a:SV}{x:aB}(F:mL T name id)(hg:sN K T g)(d:z.d dV a x)
  (hf:∀ {st₁:St} (z₁:Z K A st₁),z₁.d dV a x→Go z₁ dV (K.wp A (oR pos (.builtin id) [x] trees [])) (f a st₁)):
  Go z dV (fun Q s=>MethodOn K.C.prog K.C.w A name pos x trees Q nE s) (bd (g a) (fun _=>f a) st):=
 (hg z d).ru (u:=fun _=>K.wp A (oR pos (.builtin id) [x] trees [])) (fun Q q=>⟨T,id,F.pa,F.slot,F.ty,q.1,q.2.1,q.2.2⟩) fun z₁ l _=>hf z₁ (l.v d)
noncomputable def nM(e:Expr):Pos:={e.pos with line:=(xq e).endLine}
theorem EE(e:Expr):((xq e).endLine==(nM e).line)=true:=beq_self_eq_true _
noncomputable def wG{T id:String}{name:Str}{g:SV→M Unit}{f:SV→M SV}(F:mL T name id)(hg:sN K T g)(hf:jZ K (fun x=>call (.builtin id) [x]) f)(a:PE K)(h:bV a.c 2=false:=by rfl):PE K:=
 ⟨bd a.m fun x=>bd (g x) fun _=>f x,fun e=>.Call (.Attribute (a.r (x1 (x1 e))) name (xq e)) [] [] (nM e),4,fun _=>rfl,
  fun e _ _ z=>(a.ok _ z).ru (fun Q q=>wpAny_Call_method_late (a.ab h _ _ _) rfl (EE e) rfl q) fun z₁ l₁ dx=>ZQ F hg dx fun z₂ dx=>(hf z₂ dx).imp fun Q q=>aDv q⟩
noncomputable def dX{T id:String}{name:Str}{g:SV→M Unit}{f:SV→SV→M SV}(F:mL T name id)(hg:sN K T g)(hf:gG K (fun x y=>call (.builtin id) [x,y]) f)(a b:PE K)(h:bV a.c 2=false:=by rfl):PE K:=
 ⟨bd a.m fun x=>bd (g x) fun _=>bd b.m fun y=>f x y,fun e=>.Call (.Attribute (a.r (x1 (x1 e))) name (xq e)) [b.r (dT (xs e))] [] (nM e),4,fun _=>rfl,
  fun e _ _ z=>(a.ok _ z).ru (fun Q q=>wpAny_Call_method1_late (a.ab h _ _ _) (EE e) (FX b _ _) q) fun z₁ l₁ dx=>ZQ (f:=fun x=>bd b.m fun y=>f x y) F hg dx fun z₂ dx=>(b.ok _ z₂).ru (fun Q q=>Kd q) fun z₃ l₃ dy=>hf z₃ (l₃.v dx) dy⟩
noncomputable def hd2(es:List Expr):Expr:=dT es.tail
noncomputable def ZU(es:List Expr):Expr:=dT es.tail.tail
noncomputable def HD{T id:String}{name:Str}{g:SV→M Unit}{f:SV→SV→SV→M SV}(F:mL T name id)(hg:sN K T g)(hf:yJ K (fun x y u=>call (.builtin id) [x,y,u]) f)(a b c:PE K)(h:bV a.c 2=false:=by rfl):PE K:=
 ⟨bd a.m fun x=>bd (g x) fun _=>bd b.m fun y=>bd c.m fun u=>f x y u,fun e=>.Call (.Attribute (a.r (x1 (x1 e))) name (xq e)) [b.r (dT (xs e)),c.r (hd2 (xs e))] [] (nM e),4,fun _=>rfl,
  fun e _ _ z=>(a.ok _ z).ru (fun Q q=>wpAny_Call_method2_late (a.ab h _ _ _) (EE e) (Fb b c _ _ _) q) fun z₁ l₁ dx=>ZQ (f:=fun x=>bd b.m fun y=>bd c.m fun u=>f x y u) F hg dx fun z₂ dx=>(b.ok _ z₂).ru (fun Q q=>NH q) fun z₃ l₃ dy=>(c.ok _ z₃).bd fun z₄ l₄ du=>hf z₄ ((l₃.t l₄).v dx) (l₄.v dy) du⟩
noncomputable def iN{id:String}{f:SV→M SV}(i:Nat)(g:Gl K.C (nm K.sl i) (.builtin id))(hf:jZ K (fun v=>call (.builtin id) [v]) f)(a:PE K)(h:eI K.sl i .globalImplicit=true:=by rfl):PE K:=
 ⟨bd a.m f,fun e=>.Call (.Name (nm K.sl i) (xq e)) [a.r (dT (xs e))] [] e.pos,2,fun _=>rfl,fun e _ _ z=>(a.ok _ z).ru (fun Q q=>xX (FX a _ _) (nX h g (Kd q))) fun z₁ l₁ dx=>hf z₁ dx⟩
noncomputable def kP{T:String}{f:SV→M SV}(i:Nat)(g:Gl K.C (nm K.sl i) (.type T))(hf:jZ K (fun v=>call (.type T) [v]) f)(a:PE K)(h:eI K.sl i .globalImplicit=true:=by rfl):PE K:=
 ⟨bd a.m f,fun e=>.Call (.Name (nm K.sl i) (xq e)) [a.r (dT (xs e))] [] e.pos,2,fun _=>rfl,fun e _ _ z=>(a.ok _ z).ru (fun Q q=>xX (FX a _ _) (nX h g (WW rfl (LA q)))) fun z₁ l₁ dx=>hf z₁ dx⟩
noncomputable def WS{id:String}{f:SV→SV→M SV}(i:Nat)(g:Gl K.C (nm K.sl i) (.builtin id))(hf:gG K (fun v w=>call (.builtin id) [v,w]) f)(a b:PE K)(h:eI K.sl i .globalImplicit=true:=by rfl):PE K:=
 ⟨bd a.m fun x=>bd b.m fun y=>f x y,fun e=>.Call (.Name (nm K.sl i) (xq e)) [a.r (dT (xs e)),b.r (hd2 (xs e))] [] e.pos,2,fun _=>rfl,fun e _ _ z=>(a.ok _ z).ru (fun Q q=>xX (Fb a b _ _ _) (nX h g (NH q))) fun z₁ l₁ dx=>(b.ok _ z₁).bd fun z₂ l₂ dy=>hf z₂ (l₂.v dx) dy⟩
noncomputable def WT{T:String}{f:SV→SV→M SV}(i:Nat)(g:Gl K.C (nm K.sl i) (.type T))(hf:gG K (fun v w=>call (.type T) [v,w]) f)(a b:PE K)(h:eI K.sl i .globalImplicit=true:=by rfl):PE K:=
 ⟨bd a.m fun x=>bd b.m fun y=>f x y,fun e=>.Call (.Name (nm K.sl i) (xq e)) [a.r (dT (xs e)),b.r (hd2 (xs e))] [] e.pos,2,fun _=>rfl,fun e _ _ z=>(a.ok _ z).ru (fun Q q=>xX (Fb a b _ _ _) (nX h g (WW rfl (xY (fX q fun _ _ h=>LA h))))) fun z₁ l₁ dx=>(b.ok _ z₁).bd fun z₂ l₂ dy=>hf z₂ (l₂.v dx) dy⟩
structure kM(K:KK) where
 m:M (List SV)
 r:List Expr→List Expr
 k:Nat
 hk:∀ es,(r es).length=k
 st:∀ es,fO (r es) K.env=(r es).map fun e=>(false,eval e K.env)
 ok:∀(es:List Expr) (pos:Pos) {A:aR} {st:St} (z:Z K A st),Go z dL (K.wp A (pX (gF pos (fO (r es) K.env)))) (m st)
noncomputable def HX(m:M SV)(ms:M (List SV)):M (List SV):=bd m fun a=>bd ms fun as=>rt (a::as)
noncomputable def aH:kM K:=⟨rt [],fun _=>[],0,fun _=>rfl,fun _=>rfl,fun _ _ _ _ z=>.rt (x:=[]) rfl fun Q q=>SH q⟩
noncomputable def aD(a:PE K)(as:kM K):kM K:=⟨HX a.m as.m,fun es=>a.r (dT es)::as.r es.tail,as.k+1,fun es=>congrArg lN (as.hk _),fun es=>(rY (a.hc _) _).trans (congrArg _ (as.st _)),
 fun es pos _ _ z=>by
  rw [rY (a.hc _)]
  exact(a.ok _ z).ru (fun Q q=>xY q) fun z₁ l₁ dx=>(as.ok _ pos z₁).ru (fun Q q=>q) fun z₂ l₂ ds=>.rt (.mk (l₂.v dx) ds) fun Q q=>q⟩
theorem kM.plain(as:kM K)(es:List Expr)(pos:Pos)(p:Bool×Sem aB)(h:p∈gF pos (fO (as.r es) K.env)):p.1=false:=by
 rw [as.st] at h
 obtain⟨q,hq,rfl⟩:=List.mem_map.mp h
 obtain⟨e,_,rfl⟩:=List.mem_map.mp hq
 rfl
theorem kM.first(as:kM K)(es:List Expr)(pos:Pos)(t:Bool×Sem aB)(r:List (Bool×Sem aB))(h:gF pos (fO (as.r es) K.env)=t::r):t.1=false:=as.plain es pos t (h▸ .head _)
theorem kM.noStar(as:kM K)(es:List Expr)(pos:Pos):(gF pos (fO (as.r es) K.env)).any (·.1)=false:=by
 rw [List.any_eq_false];exact fun p h=>by rw [as.plain es pos p h];exact mK
theorem kM.few(as:kM K)(h:bX as.k 30=true)(es:List Expr)(pos:Pos):JM ((as.r es).length+([]:List Keyword).length) (gF pos (fO (as.r es) K.env)) (backToKw pos (PL [] K.env))=true:=by
 unfold JM
 have h1:(gF pos (fO (as.r es) K.env)).all (fun x=> !x.1)=true:=List.all_eq_true.mpr fun p h=>by rw [as.plain es pos p h];rfl
 have h2:(backToKw pos (PL [] K.env)).isEmpty=true:=rfl
 rw [h1,h2,as.hk]
 exact decide_eq_true (Nat.blt_eq.mp h)
noncomputable def pQ:List SV→Option (List PV)
 | []=>some []
 |.pv x::r=>match pQ r with
  |some xs=>some (x::xs)
  |none=>none
 |.ref _::_=>none
theorem MU{C:Cx}{X:Xt}{n:Nat}(vs:List SV){ws:List aB}(d:fP C X n vs ws):∀ xs,pQ vs=some xs→bQ C X xs ws:=by
 induction vs generalizing ws with
 |nil=>intro xs e;obtain rfl:=bO e;exact d
 |cons v vs ih=>
  cases v with
  |ref=>intro xs e;exact aT e
  |pv p=>
   cases d with | mk w ws a as=>
   intro xs e;unfold pQ at e;cases q:pQ vs with
   |none=>rw [q] at e;exact aT e
   |some ys=>rw [q] at e;obtain rfl:=bO e;exact .mk a (ih as ys q)
noncomputable def QP(vs:List SV)(k:List PV→M α):M α:=fun st=>match pQ vs with
 |some xs=>dQ xs.length (k xs) st
 |none=>none
theorem Go.plains{z:Z K A st}{D:Dn α δ}{w:WP δ}{vs:List SV}{ws:List aB}{k:List PV→M α}(d:z.d dL vs ws)(h:∀ xs,bQ K.C z.X xs ws→(iZ ws).size≤1000000→Go z D w (k xs st)):Go z D w (QP vs k st):=by
 unfold Mine.QP;split
 ·rename_i xs q;have dl:=MU vs d xs q;exact .fitL dl (h xs dl)
 ·exact .no
noncomputable def cO(vs:List SV):M SV:=QP vs fun xs=>rt (.pv (.tup xs))
noncomputable def kH(vs:List SV):M SV:=QP vs fun xs st=>some (.ref st.cells.length,⟨st.loc,st.cells++[.list xs]⟩)
noncomputable def eQ(as:kM K):PE K:=⟨bd as.m cO,fun e=>.Tuple (as.r (xs e)) (xk e) e.pos,3,fun _=>rfl,fun e _ _ z=>(as.ok _ _ z).ru (fun Q q=>wpAny_Tuple q) fun z₁ l₁ ds=>.plains ds fun xs dl hz=>.newT z₁.s.toks dl fun Q q=>⟨gM hz,q⟩⟩
noncomputable def mN(as:kM K):PE K:=⟨bd as.m kH,fun e=>.List (as.r (xs e)) e.pos,3,fun _=>rfl,fun e _ _ z=>(as.ok _ _ z).ru (fun Q q=>wpAny_List q) fun z₁ l₁ ds=>.plains ds fun xs dl hz=>.newL z₁.s.toks dl fun Q q=>⟨gM hz,q⟩⟩
end
end
noncomputable abbrev Fn:=List SV→List SO→Option (SV×List SO)
structure Wd(C:Cx)(cells:List SO) where
 X:Xt
 s:aG
 R:RelC C X cells s
noncomputable def GoC(y:Wd C cells)(w:WP aB)(o:Option (SV×List SO)):Prop:=
 ∀(a:SV) (cells':List SO),o=some (a,cells')→∀ Q,(∀(y':Wd C cells') (x:aB),y.X.le cells.length y'.X cells'.length→fK C y'.X cells'.length a x→Q x y'.s)→w Q y.s
noncomputable def uW(C:Cx)(n:Nat)(w:aR→List aB→WP aB)(f:Fn):Prop:=
 ∀ {A:aR} {cells:List SO} (y:Wd C cells) {args:List SV} {vals:List aB},lG A n→fP C y.X cells.length args vals→GoC y (w A vals) (f args cells)
theorem lG.mono(h:m≤n)(r:lG A n):lG A m:=⟨r.handled,aP (oE (GW 20 h) _) r.depth,aP (lM (oE (GW 100 h) _) _) r.units⟩
theorem uW.mono(h:m≤k)(r:uW C m w f):uW C k w f:=fun y _ _ hA d=>r y (hA.mono h) d
noncomputable def Xt.maskR(f:Obj→bU)(X:Xt)(ex:bU→Bool)(h:Heap):Xt:=⟨fun a=>match X.W a with
 |some r=>match ex r with
  |true=>(h.get? a).map f
  |false=>some r
 |none=>none,X.ρ,X.δ⟩
noncomputable abbrev Xt.mask(X:Xt)(ex:bU→Bool)(h:Heap):Xt:=X.maskR .held ex h
noncomputable def dr(ex:bU→Bool):Option bU→Option bU
 |some r=>match ex r with
  |true=>none
  |false=>some r
 |none=>none
noncomputable def Xt.unmask(X:Xt)(ex:bU→Bool)(Y:Xt)(ρ δ:Nat→Addr):Xt:=⟨fun a=>match X.W a with
 |some q=>match ex q with
  |true=>some q
  |false=>dr ex (Y.W a)
 |none=>dr ex (Y.W a),ρ,δ⟩
section
variable{ex:bU→Bool}{X Y:Xt}{h h':Heap}{ρ δ:Nat→Addr}{a:Addr}{r:bU}
theorem FI(e:X.W a=some r)(q:ex r=false):(X.maskR f ex h).W a=some r:=by
 show(match X.W a with | some r=>_ | none=>_)=_
 rw [e];show(match ex r with | true=>_ | false=>_)=_
 exact(q).symm▸rfl
theorem Bl(e:X.W a=some r)(q:ex r=true)(g:h.get? a=some o):(X.maskR f ex h).W a=some (f o):=by
 show(match X.W a with | some r=>_ | none=>_)=_
 rw [e];show(match ex r with | true=>_ | false=>_)=_
 rw [q,g];rfl
theorem aIh(hv:∀ o,h.get? a=some o→gY h a (f o))(e:(X.maskR f ex h).W a=some r):(X.W a=some r∧ex r=false)∨gY h a r:=by
 have e:(match X.W a with | some r=>(match ex r with | true=>(h.get? a).map f | false=>some r) | none=>none)=some r:=e
 cases q:X.W a with
 |none=>rw [q] at e;exact aT e
 |some p=>
  replace e:=(q)▸e
  have e:(match ex p with | true=>(h.get? a).map f | false=>some p)=some r:=e
  cases q':ex p with
  |false=>rw [q'] at e;obtain rfl:=bO e;exact .inl ⟨rfl,q'⟩
  |true=>replace e:=(q')▸e;obtain⟨o,ho,rfl⟩:=Option.map_eq_some_iff.mp e;exact .inr (hv o ho)
theorem aEI(q:ex r=false):dr ex (some r)=some r:=by show(match ex r with | true=>_ | false=>_)=_;exact(q).symm▸rfl
theorem Mb(e:dr ex p=some r):p=some r:=by
 cases p with
 |none=>exact aT e
 |some p=>
  have e:(match ex p with | true=>none | false=>some p)=some r:=e
  cases q:ex p with
  |true=>rw [q] at e;exact aT e
  |false=>rw [q] at e;exact e
theorem Yl(e:X.W a=some r)(q:ex r=true):(X.unmask ex Y ρ δ).W a=some r:=by
 show(match X.W a with | some q=>_ | none=>_)=_
 rw [e];show(match ex r with | true=>_ | false=>_)=_
 exact(q).symm▸rfl
theorem Fu(q:ex r=false)(e:Y.W a=some r)(n:∀ p,X.W a=some p→ex p=false):(X.unmask ex Y ρ δ).W a=some r:=by
 have k:dr ex (Y.W a)=some r:=by rw [e];exact aEI q
 show(match X.W a with | some q=>(match ex q with | true=>some q | false=>dr ex (Y.W a)) | none=>dr ex (Y.W a))=_
 cases z:X.W a with
 |none=>exact k
 |some p=>show(match ex p with | true=>some p | false=>dr ex (Y.W a))=_;exact(n p z).symm▸k
theorem aPF(e:(X.unmask ex Y ρ δ).W a=some r):(X.W a=some r∧ex r=true)∨Y.W a=some r:=by
 have e:(match X.W a with | some q=>(match ex q with | true=>some q | false=>dr ex (Y.W a)) | none=>dr ex (Y.W a))=some r:=e
 cases z:X.W a with
 |none=>rw [z] at e;exact .inr (Mb e)
 |some p=>
  replace e:=(z)▸e
  have e:(match ex p with | true=>some p | false=>dr ex (Y.W a))=some r:=e
  cases q:ex p with
  |true=>rw [q] at e;obtain rfl:=bO e;exact .inl ⟨rfl,q⟩
  |false=>rw [q] at e;exact .inr (Mb e)
theorem Tr.maskR(n:Nat)(hf:∀ o,ex (.fro o)=false)(hv:∀ a o,h.get? a=some o→gY h a (f o)):Tr ex X h n (X.maskR f ex h) h n:=
 ⟨⟨fun a o e=>FI e (hf o),fun _ _=>rfl,cZ _⟩,fun a r e q=>⟨FI e q,rfl⟩,fun a r e=>aIh (hv a) e⟩
theorem Tr.mask(n:Nat)(hf:∀ o,ex (.fro o)=false):Tr ex X h n (X.mask ex h) h n:=.maskR n hf fun _ _ h=>h
variable{m n':Nat}(v:∀ a r,X.W a=some r→gY h a r)(v':∀ a r,Y.W a=some r→gY h' a r)(le:(X.mask ex h).le m Y n')
include v le in
theorem QB(e:X.W a=some r)(q:ex r=true):∃ o,h.get? a=some o∧Y.W a=some (.held o):=by
 obtain⟨o,ho⟩:=(v a r e).ex
 exact⟨o,ho,le.held a o (Bl e q ho)⟩
include v le in
theorem RL(e:Y.W a=some r)(q:ex r=false)(nh:∀ o,r≠ .held o):(X.unmask ex Y ρ δ).W a=some r:=
 Fu q e fun p ep=>by
  cases z:ex p with
  |false=>rfl
  |true=>obtain⟨o,_,hY⟩:=QB v le ep z;rw [e] at hY;exact absurd (bO hY) (nh o)
include v v' le in
theorem Ft(h1:∀ o,ex (.fro o)=false)(h2:∀ o,ex (.held o)=false)(h3:∀ o,ex (.iter o)=false)(h4:ex .frame=true∨r≠ .frame)(h5:ex .fcell=true∨r≠ .fcell)(hc:∀ k,r≠ .cell k)(e:X.W a=some r):(X.unmask ex Y ρ δ).W a=some r∧h'.get? a=h.get? a:=by
 have old:∀ {o},ex r=false→Y.W a=some r→gY h' a r=(h'.get? a=some o)→gY h a r=(h.get? a=some o)→(X.unmask ex Y ρ δ).W a=some r∧h'.get? a=h.get? a:=fun {o} q y z1 z2=>
  ⟨Fu q y fun p ep=>by rw [e] at ep;exact(bO ep)▸q,(z1▸v' a r y:h'.get? a=some o).trans (z2▸v a r e:h.get? a=some o).symm⟩
 have new:ex r=true→(X.unmask ex Y ρ δ).W a=some r∧h'.get? a=h.get? a:=fun q=>by
  obtain⟨o,ho,hY⟩:=QB v le e q
  exact⟨Yl e q,(v' a _ hY:h'.get? a=some o).trans ho.symm⟩
 cases r with
 |fro o=>exact old (h1 o) (le.low.fro a o (FI e (h1 o))) rfl rfl
 |held o=>exact old (h2 o) (le.held a o (FI e (h2 o))) rfl rfl
 |iter o=>exact old (h3 o) (le.iter a o (FI e (h3 o))) rfl rfl
 |cell k=>exact absurd rfl (hc k)
 |frame=>exact new (h4.elim id fun q=>absurd rfl q)
 |fcell=>exact new (h5.elim id fun q=>absurd rfl q)
include v v' le in
theorem Fv(e:(X.unmask ex Y ρ δ).W a=some r):gY h' a r:=
 (aPF e).elim (fun q=>let⟨o,ho,hY⟩:=QB v le q.1 q.2;(v a r q.1).same ((v' a _ hY:h'.get? a=some o).trans ho.symm)) fun q=>v' a r q
end
noncomputable def NU:bU→Bool
 |.frame=>true
 |.fcell=>true
 |_=>false
noncomputable def Mm:bU→Bool
 |.cell _=>true
 |_=>false
noncomputable def lV(f:Fn)(args:List SV):M SV:=fun st=>match f args st.cells with
 |some (v,cells')=>some (v,⟨st.loc,cells'⟩)
 |none=>none
section
variable{K:KK}{A:aR}{st:St}{z:Z K A st}{n:Nat}
noncomputable def Z.hold(z:Z K A st):Wd K.C st.cells:=⟨z.X.mask NU z.s.heap,z.s,(Tr.mask _ fun _=>rfl).relC z.R.toRelC z.R.still (fun _=>rfl) fun _ _ e=>.inl ⟨e,rfl,rfl⟩⟩
theorem Z.holdLow(z:Z K A st):z.X.low st.cells.length z.hold.X st.cells.length:=(Tr.mask _ fun _=>rfl).low
theorem Oa(k:Nat)(e:bU.fro o= .cell k):False:=nomatch e
theorem Ob(p:Obj)(e:bU.fro o= .held p):False:=nomatch e
theorem Kl(p:Obj)(e:bU.cell k= .held p):False:=nomatch e
theorem aIY(q:Mm r=false)(k:Nat)(c:r= .cell k):False:=by subst c;exact eP q
noncomputable def Z.backX(z:Z K A st)(y:Wd K.C cells'):Xt:=z.X.unmask NU y.X y.X.ρ y.X.δ
theorem Z.backTr(z:Z K A st)(y:Wd K.C cells')(le:z.hold.X.le st.cells.length y.X cells'.length):Tr Mm z.X z.s.heap st.cells.length (z.backX y) y.s.heap cells'.length where
 low:=⟨fun a o e=>(Ft z.R.val y.R.val le (fun _=>rfl) (fun _=>rfl) (fun _=>rfl) (.inl rfl) (.inl rfl) Oa e).1,le.low.ρ,le.low.n⟩
 keep a r e q:=Ft z.R.val y.R.val le (fun _=>rfl) (fun _=>rfl) (fun _=>rfl) (.inl rfl) (.inl rfl) (aIY q) e
 new a r e:=.inr (Fv z.R.val y.R.val le e)
theorem Z.backLow(z:Z K A st)(y:Wd K.C cells')(le:z.hold.X.le st.cells.length y.X cells'.length):y.X.low cells'.length (z.backX y) cells'.length:=
 ⟨fun a o e=>RL z.R.val le e rfl Ob,fun _ _=>rfl,cZ _⟩
noncomputable def Z.back(z:Z K A st)(y:Wd K.C cells')(le:z.hold.X.le st.cells.length y.X cells'.length):Z K A ⟨st.loc,cells'⟩:=
 ⟨z.backX y,y.s,z.hA,⟨y.R.still,fun b o e=>((z.backTr y le).keep b _ (z.R.base b o e) rfl).1,fun a r e=>Fv z.R.val y.R.val le e,fun k c e=>(y.R.cells k c e).tr (z.backLow y le) rfl rfl (fun a q=>⟨RL z.R.val le q rfl Kl,rfl⟩) c⟩,z.R.fr.tr (z.backTr y le) rfl rfl fun _=>rfl⟩
theorem IW(rf:uW K.C n w f)(hA:lG A' n)(d:z.d dL args vals):Go z dV (w A' vals) (lV f args st):=by
 intro a st' e Q q
 unfold lV at e
 cases c:f args st.cells with
 |none=>rw [c] at e;exact aT e
 |some p=>
  rw [c] at e;obtain⟨rfl,rfl⟩:=gA e
  exact rf z.hold hA (fP.mono z.holdLow d) _ _ c Q fun y' x le d=>q (z.back y' le) x ((z.backTr y' le).le (fun _=>rfl) fun _=>rfl) (fK.mono (z.backLow y' le) _ _ d)
end
noncomputable def uK(n:Nat):SV→Bool
 |.pv _=>true
 |.ref k=>bX k n
noncomputable def vT(n:Nat):List SV→Bool
 | []=>true
 |x::xs=>match uK n x with
  |true=>vT n xs
  |false=>false
noncomputable def KZ(n:Nat):SO→Bool
 |.inst _ fs=>vT n fs
 |.sdict _ _ vs=>vT n vs
 |_=>true
noncomputable def rE(n:Nat):List SO→Bool
 | []=>true
 |c::cs=>match KZ n c with
  |true=>rE n cs
  |false=>false
section
variable{C:Cx}{X:Xt}{m m':Nat}
theorem fK.shrink(h:uK m' x=true)(d:fK C X m x v):fK C X m' x v:=by
 cases x with
 |pv=>exact d
 |ref k=>exact⟨Nat.blt_eq.mp h,d.2⟩
theorem fP.shrink(xs:List SV):∀ {vs:List aB},vT m' xs=true→fP C X m xs vs→fP C X m' xs vs:=by
 induction xs with
 |nil=>exact fun _ d=>d
 |cons x xs ih=>
  intro vs h d
  cases d with | mk v ws a as=>
  have h:(match uK m' x with | true=>vT m' xs | false=>false)=true:=h
  cases q:uK m' x with
  |true=>rw [q] at h;exact .mk (a.shrink q) (ih h as)
  |false=>rw [q] at h;exact eP h
theorem jH.shrink(c:SO)(g:KZ m' c=true)(x:jH C X m k h c):jH C X m' k h c:=by
 cases c with
 |inst c fs=>cases x with | mk o hw hw' ne hi ho f=>exact .mk o hw hw' ne hi ho (f.imp (fun _=>fP.shrink fs g) o)
 |sdict kd ks vs=>cases x with | mk o hw ho d=>exact .mk o hw ho (d.imp (fun _ h=>h) (fun _=>fP.shrink vs g) o)
 |_=>exact x
theorem aDG:∀ {cs:List SO},rE m cs=true→∀ {k:Nat} {c:SO},cs[k]? =some c→KZ m c=true:=by
 intro cs
 induction cs with
 |nil=>intro _ k c e;exact aT e
 |cons x xs ih=>
  intro h k c e
  have h:(match KZ m x with | true=>rE m xs | false=>false)=true:=h
  cases q:KZ m x with
  |false=>rw [q] at h;exact eP h
  |true=>
   rw [q] at h
   cases k with
   |zero=>obtain rfl:=bO e;exact q
   |succ k=>exact ih h e
theorem RE{α:Type}{l:List α}(h:m≤l.length):(l.take m).length=m:=by rw [CX];exact ME h
theorem Xs{α:Type}{l:List α}{c:α}(e:(l.take m)[k]? =some c):k < m∧l[k]? =some c:=by
 replace e:=(TJ)▸e;split at e
 ·rename_i h;exact⟨h,e⟩
 ·exact aT e
theorem RelC.take{cells:List SO}{s:aG}(R:RelC C X cells s)(hm:m≤cells.length)(hc:rE m (cells.take m)=true):RelC C X (cells.take m) s:=
 ⟨R.still,R.base,R.val,fun k c e=>by rw [RE hm];exact(R.cells k c (Xs e).2).shrink c (aDG hc e)⟩
end
noncomputable def CQ(v:SV)(n:Nat)(cells:List SO):List SO:=match uK n v,rE n (cells.take n) with
 |true,true=>cells.take n
 |_,_=>cells
theorem aPr(v:SV)(n:Nat)(cells:List SO):(uK n v=true∧rE n (cells.take n)=true∧CQ v n cells=cells.take n)∨CQ v n cells=cells:=by
 unfold CQ;split
 ·rename_i a b;exact .inl ⟨a,b,rfl⟩
 ·exact .inr rfl
noncomputable def pA(f:Fn):Fn:=fun args cells=>match f args cells with
 |some (v,cells')=>some (v,CQ v cells.length cells')
 |none=>none
theorem tR(rf:uW C n w f):uW C n w (pA f):=by
 intro A cells y args vals hA d a cells' e Q q
 unfold pA at e
 cases c:f args cells with
 |none=>rw [c] at e;exact aT e
 |some p=>
  rw [c] at e;obtain⟨rfl,rfl⟩:=gA e
  refine rf y hA d _ _ c Q fun y' x le dx=> ?_
  rcases aPr p.1 cells.length p.2 with⟨h1,h2,t⟩ | t
  ·have hn:=RE le.low.n
   replace q:=(t)▸q
   exact q ⟨y'.X,y'.s,y'.R.take le.low.n h2⟩ x (by rw [hn];exact⟨⟨le.low.fro,le.low.ρ,cZ _⟩,le.held,le.iter⟩) (by rw [hn];exact dx.shrink h1)
  ·replace q:=(t)▸q;exact q y' x le dx
noncomputable def zC(m:Nat):bU→Bool
 |.cell k=> !(bX k m)
 |_=>false
theorem Mo(h:k < m):zC m (.cell k)=false:=by show(!(bX k m))=false;rw [Nat.blt_eq.mpr h];rfl
theorem Mn(h:m≤k):zC m (.cell k)=true:=by
 show(!(bX k m))=true
 cases q:bX k m with
 |false=>rfl
 |true=>exact absurd (Nat.blt_eq.mp q) (Nat.not_lt.mpr h)
noncomputable def cK(m:Nat)(f:Fn):Fn:=fun args cells=>match qD m cells.length,vT m args,rE m (cells.take m) with
 |true,true,true=>match f args (cells.take m) with
  |some (v,cells')=>match uK m v,rE m (cells'.take m) with
   |true,true=>some (v,cells'.take m++cells.drop m)
   |_,_=>none
  |none=>none
 |_,_,_=>none
section
variable{C:Cx}{n m:Nat}
theorem aJB(e:cK m f args cells=some (v,cells')){P:Prop}
  (k:∀ cs,m≤cells.length→vT m args=true→rE m (cells.take m)=true→f args (cells.take m)=some (v,cs)→uK m v=true→rE m (cs.take m)=true→cells'=cs.take m++cells.drop m→P):P:=by
 unfold cK at e;split at e
 ·rename_i h1 h2 h3;split at e
  ·rename_i q;split at e
   ·rename_i h4 h5;obtain⟨rfl,rfl⟩:=gA e;exact k _ (bR h1) h2 h3 q h4 h5 rfl
   ·exact aT e
  ·exact aT e
 ·exact aT e
noncomputable def Wd.preX(y:Wd C cells)(y':Wd C cs)(m:Nat):Xt:=y.X.unmask (zC m) y'.X y.X.ρ fun k=>cond (bX k m) (y'.X.δ k) (y.X.δ k)
variable{cells cs:List SO}(y:Wd C cells)(y':Wd C cs)(hm:m≤cells.length)(hc:rE m (cs.take m)=true)(le:(y.X.mask (zC m) y.s.heap).le m y'.X cs.length)
include le in
theorem Dl(hr:∀ k,r≠ .cell k)(h4:r≠ .frame)(h5:r≠ .fcell)(e:y.X.W a=some r):(y.preX y' m).W a=some r:=
 (Ft y.R.val y'.R.val le (fun _=>rfl) (fun _=>rfl) (fun _=>rfl) (.inr h4) (.inr h5) hr e).1
include le in
theorem Dm(hN:cells.length≤N):y.X.le cells.length (y.preX y' m) N:=
 ⟨⟨fun a o=>Dl y y' le Oa (fun e=>nomatch e) (fun e=>nomatch e),fun _ _=>rfl,hN⟩,fun a o=>Dl y y' le (fun _ e=>nomatch e) (fun e=>nomatch e) (fun e=>nomatch e),fun a o=>Dl y y' le (fun _ e=>nomatch e) (fun e=>nomatch e) (fun e=>nomatch e)⟩
include le in
theorem Uk(hN:m≤N):y'.X.low m (y.preX y' m) N:=
 ⟨fun a o e=>RL y.R.val le e rfl Ob,fun k hk=>(le.low.ρ k hk).symm,hN⟩
include hm hc le in
theorem aJC:(cs.take m++cells.drop m).length=cells.length∧RelC C (y.preX y' m) (cs.take m++cells.drop m) y'.s:=by
 have h1:=RE le.low.n
 have hl:(cs.take m++cells.drop m).length=cells.length:=by rw [fH,h1,TK];exact Nat.add_sub_of_le hm
 refine⟨hl,y'.R.still,fun b o e=>(Dm y y' le (cZ _)).low.fro b o (y.R.base b o e),fun a r e=>Fv y.R.val y'.R.val le e,fun k c e=> ?_⟩
 refine(hl).symm▸?_
 rcases GV k m with hk | hk
 ·rw [LU (h1.symm▸hk)] at e
  have L:y'.X.low (cs.take m).length (y.preX y' m) cells.length:=by rw [h1];exact Uk y y' le hm
  refine((y'.R.take le.low.n hc).cells k c e).tr L (le.low.ρ k hk).symm ?_ (fun a q=>⟨RL y.R.val le q (Mo hk) Kl,rfl⟩) c
  show cond (bX k m) _ _=_
  rw [Nat.blt_eq.mpr hk];rfl
 ·rw [CW (h1.symm▸hk),h1,LV,Nat.add_sub_cancel' hk] at e
  refine(y.R.cells k c e).tr (Dm y y' le (cZ _)).low rfl ?_ (fun a q=> ?_) c
  ·show cond (bX k m) _ _=_
   cases z:bX k m with
   |false=>rfl
   |true=>exact absurd (Nat.blt_eq.mp z) (Nat.not_lt.mpr hk)
  ·obtain⟨o,ho,hY⟩:=QB y.R.val le q (Mn hk)
   exact⟨Yl q (Mn hk),(y'.R.val a _ hY).trans ho.symm⟩
end
theorem cU(m:Nat)(rf:uW C n w f):uW C n w (cK m f):=by
 intro A cells y args vals hA d a cells' e Q q
 refine aJB e fun cs hm h2 h3 qf h4 h5 ec=> ?_
 subst ec
 have ht:=RE hm
 have T:Tr (zC m) y.X y.s.heap (cells.take m).length (y.X.mask (zC m) y.s.heap) y.s.heap (cells.take m).length:=Tr.mask _ fun _=>rfl
 have R₁:=y.R.take hm h3
 refine rf ⟨_,y.s,T.relC R₁ R₁.still (fun _=>rfl) fun k c e=>.inl ⟨e,Mo (Xs e).1,rfl⟩⟩ hA (fP.mono T.low (ht.symm▸d.shrink args h2)) a cs qf Q fun y' x le dx=> ?_
 have le:(y.X.mask (zC m) y.s.heap).le m y'.X cs.length:=by
  have l:(y.X.mask (zC m) y.s.heap).le (cells.take m).length y'.X cs.length:=le
  rw [ht] at l;exact l
 have R':=aJC y y' hm h5 le
 have hN:=dS R'.1.symm
 exact q ⟨_,y'.s,R'.2⟩ x (Dm y y' le hN) (fK.mono (Uk y y' le (aP hm hN)) _ _ (dx.shrink h4))
theorem Km:∀(l:aL) (k:Nat) (acc:List (Str×Addr)) (x:Str),((x,NameKind.cell)∈l∨(acc.lookup x).isSome=true)→((cellsFrom k l acc).lookup x).isSome=true:=by
 intro l
 induction l with
 |nil=>intro k acc x h;exact h.elim (fun h=>nomatch h) id
 |cons p r ih=>
  intro k acc x h
  obtain⟨y,kd⟩:=p
  unfold cellsFrom
  split
  ·refine ih _ _ x ?_
   by_cases e:x=y
   ·right;subst e;simp [List.lookup]
   ·rcases h with h | h
    ·cases h with
     |head=>exact absurd rfl e
     |tail _ h=>exact .inl h
    ·right
     have:(x==y)=false:=beq_eq_false_iff_ne.mpr e
     simp only [List.lookup,this];exact h
  ·rename_i hk
   refine ih _ _ x (h.imp (fun h=> ?_) id)
   cases h with
   |head=>exact absurd rfl hk
   |tail _ h=>exact h
theorem Jl:∀ {binds:List (Str×aB)} {m:Str→Option aB},x∉binds.map (·.1)→bindL kd binds m x=m x∧bindC kd binds m x=m x:=by
 intro binds
 induction binds with
 |nil=>exact fun _=>⟨rfl,rfl⟩
 |cons p r ih=>
  intro m h
  obtain⟨y,v⟩:=p
  rw [iX,AL,not_or] at h
  unfold bindL bindC
  rw [(ih h.2).1,(ih h.2).2]
  split
  ·exact⟨if_neg h.1,rfl⟩
  ·exact⟨rfl,if_neg h.1⟩
theorem Jk:∀ {binds:List (Str×aB)} {m:Str→Option aB},(binds.map (·.1)).Nodup→(x,v)∈binds→(kd x=some .local→bindL kd binds m x=some v)∧(kd x≠some .local→bindC kd binds m x=some v):=by
 intro binds
 induction binds with
 |nil=>intro m _ h;exact(nomatch h)
 |cons p r ih=>
  intro m hn h
  obtain⟨y,w⟩:=p
  rw [iX,MA] at hn
  unfold bindL bindC
  cases h with
  |head=>exact⟨fun hk=>by rw [(Jl hn.1).1,if_pos hk];exact if_pos rfl,fun hk=>by rw [(Jl hn.1).2,if_neg hk];exact if_pos rfl⟩
  |tail _ h=>exact⟨fun hk=>(ih hn.2 h).1 hk,fun hk=>(ih hn.2 h).2 hk⟩
theorem aBb:∀ {cs:List (Str×Addr)} {x y:Str} {c:Addr},cs.Pairwise (fun x y=>x.2≠y.2)→(x,c)∈cs→(y,c)∈cs→x=y:=by
 intro cs
 induction cs with
 |nil=>intro x y c _ h;cases h
 |cons p r ih=>
  intro x y c h hx hy
  rw [List.pairwise_cons] at h
  cases hx with
  |head=>cases hy with
   |head=>rfl
   |tail _ hy=>exact absurd rfl (h.1 (y,c) hy)
  |tail _ hx=>cases hy with
   |head=>exact absurd rfl (h.1 (x,c) hx)
   |tail _ hy=>exact ih h.2 hx hy
noncomputable def Xt.enter(X:Xt)(L:Addr)(sl:aL)(cs:List (Str×Addr)):Xt:=⟨fun a=>if a=L then some .frame else cond (sl.any fun p=>p.2== .cell && cs.lookup p.1==some a) (some .fcell) (X.W a),X.ρ,X.δ⟩
structure CV(C:Cx)(fa:Addr)(fd:qT)(body:List Stmt):Prop where
 obj:∃ o,C.base.get? fa=some o∧o.data= .func fd
 cr:C.base.CodeRec fd.code fd.qualname
 body:fd.body= .stmts body
 clo:fd.closure= []
 glob:fd.globals=jX
 blt:fd.builtins=wO
 co:fd.scope.isCoroutine=false
 gen:fd.scope.isGenerator=false
 sc:xO fd.scope=true
noncomputable def AF(C:Cx)(fd:qT)(names:List Str)(g:List SV→Option (List SV)):Prop:=
 ∀ {cells:List SO} (y:Wd C cells) {args args':List SV} {vals:List aB},g args=some args'→fP C y.X cells.length args vals→
  ∃ vals',BindsTo y.s fd ⟨vals,[]⟩ (names.zip vals')∧fP C y.X cells.length args' vals'∧names.length=args'.length
noncomputable def tJ(sz:Nat)(args:List SV):List (Option SV):=args.map some++mZ (sz - args.length) none
noncomputable def bH(sz:Nat)(g:List SV→Option (List SV))(body:M Fl):Fn:=fun args cells=>match g args with
 |some args'=>match body ⟨tJ sz args',cells⟩ with
  |some (.ret v,st')=>some (v,st'.cells)
  |some (.next,st')=>some (.pv .none,st'.cells)
  |_=>none
 |none=>none
noncomputable def De(sl:aL)(k:Nat):Bool:=(sl.take k).all fun p=>p.2== .local || p.2== .cell
theorem aOQ{sz i:Nat}(h:(tJ sz args)[i]? =some (some sv)):args[i]? =some sv:=by
 unfold tJ at h
 rcases GV i args.length with q | q
 ·rw [LU (by rw [bT];exact q),iW] at h
  cases e:args[i]? with
  |none=>rw [e] at h;exact aT h
  |some y=>rw [e] at h;cases h;rfl
 ·rw [CW (by rw [bT];exact q),List.getElem?_replicate] at h
  split at h <;> cases h
structure AQ(sl:aL)(names:List Str):Prop where
 nm:(sl.take names.length).map (·.1)=names
 kinds:De sl names.length=true
theorem AQ.kind(P:AQ sl names)(h:x∈names):∃(i:Nat) (k:pM),sl[i]? =some (x,k)∧(k=NameKind.local∨k=NameKind.cell):=by
 replace h:=(P.nm).symm▸h
 obtain⟨p,hp,rfl⟩:=List.mem_map.mp h
 have hk:=List.all_eq_true.mp P.kinds p hp
 obtain⟨j,hj⟩:=List.mem_iff_getElem?.mp (TL hp)
 exact⟨j,p.2,hj,by simpa using hk⟩
section
variable{C:Cx}{n:Nat}{fa:Addr}{fd:qT}{body:List Stmt}{sl:aL}{names:List Str}{cells:List SO}{s₁:aG}{args:List SV}{vals:List aB}
theorem aEP(P:CV C fa fd body)(hsl:fd.scope.names=sl)(hp:AQ sl names)(y:Wd C cells)(d:fP C y.X cells.length args vals)(hlen:names.length=args.length)
  {env:Env} (he:env=callEnvC fd y.s.heap.objs.size fa) (I:InCallC y.s env.locals (bindL env.kindOf (names.zip vals) fun _=>none) env.cells (bindC env.kindOf (names.zip vals) fun _=>none) s₁):
  Tr (fun _=>false) y.X y.s.heap cells.length (y.X.enter y.s.heap.objs.size sl env.cells) s₁.heap cells.length∧uX C (y.X.enter y.s.heap.objs.size sl env.cells) sl env ⟨tJ sl.length args,cells⟩ s₁:=by
 obtain⟨h',tk,hs₁,hk⟩:=I.done
 have eL:env.locals=y.s.heap.objs.size:=by rw [he];rfl
 have eN:env.scope.names=sl:=by rw [he];exact hsl
 have eC:env.cells=cellsFrom (y.s.heap.objs.size+1) sl []:=by rw [he,←hsl];rfl
 have F:tO sl env:=⟨by rw [he];exact P.sc,eN,by rw [he];exact P.glob,by rw [he];exact P.blt,fun _ a b c h1 h2=>aBb I.apart (mem_of_lookup h1) (mem_of_lookup h2)⟩
 have abv:∀ {x c},env.cells.lookup x=some c→y.s.heap.objs.size < c:=fun h=>by rw [←eL];exact I.above _ _ (mem_of_lookup h)
 have any:∀ {a},(sl.any fun p=>p.2== .cell && env.cells.lookup p.1==some a)=true→∃ x,env.cells.lookup x=some a:=fun h=>by
  obtain⟨p,_,hp⟩:=List.any_eq_true.mp h
  simp only [hZ,beq_iff_eq] at hp
  exact⟨_,hp.2⟩
 have T:Tr (fun _=>false) y.X y.s.heap cells.length (y.X.enter y.s.heap.objs.size sl env.cells) s₁.heap cells.length:=by
  have old:∀ a r,y.X.W a=some r→(y.X.enter y.s.heap.objs.size sl env.cells).W a=some r:=fun a r e=>by
   obtain⟨o,ho⟩:=(y.R.val a r e).ex
   have hlt:=mY ho
   show(if a=_ then _ else cond _ _ _)=_
   rw [if_neg (qU hlt)]
   cases q:sl.any fun p=>p.2== .cell && env.cells.lookup p.1==some a with
   |false=>exact e
   |true=>obtain⟨x,hx⟩:=any q;exact absurd (DE hlt (abv hx)) (GU _)
  refine⟨⟨fun a o e=>old a _ e,fun _ _=>rfl,cZ _⟩,fun a r e _=>⟨old a r e,?_⟩,fun a r e=> ?_⟩
  ·obtain⟨o,ho⟩:=(y.R.val a r e).ex
   rw [hs₁,ho];exact hk _ _ ho
  ·have e:(if a=y.s.heap.objs.size then some bU.frame else cond (sl.any fun p=>p.2== .cell && env.cells.lookup p.1==some a) (some .fcell) (y.X.W a))=some r:=e
   by_cases q:a=y.s.heap.objs.size
   ·rw [if_pos q] at e;obtain rfl:=bO e;obtain⟨o,_,_,ho,_⟩:=I.toInCall.ns;exact(q).symm▸(eL)▸ .inr ⟨o,ho⟩
   ·replace e:=(if_neg q)▸e
    cases z:sl.any fun p=>p.2== .cell && env.cells.lookup p.1==some a with
    |false=>rw [z] at e;exact .inl ⟨e,rfl⟩
    |true=>rw [z] at e;obtain rfl:=bO e;obtain⟨x,hx⟩:=any z;obtain⟨o,ho,_⟩:=I.cell _ _ hx;exact .inr ⟨o,ho⟩
 have hS:wL C s₁:=by rw [hs₁];exact y.R.still.to _ _
 have par:∀ {i x k sv},sl[i]? =some (x,k)→(tJ sl.length args)[i]? =some (some sv)→∃ v,(x,v)∈names.zip vals∧fK C (y.X.enter y.s.heap.objs.size sl env.cells) cells.length sv v:=fun {i x k sv} hi ha=>by
  have ha:=aOQ ha
  obtain⟨v,hv,dv⟩:=d.get ha
  have hi':i < names.length:=hlen▸(List.getElem?_eq_some_iff.mp ha).1
  have hn:names[i]? =some x:=by rw [←hp.nm,iW,TJ,if_pos hi',hi];rfl
  exact⟨v,oB (List.getElem?_zip_eq_some.mpr ⟨hn,hv⟩),fK.mono T.low _ _ dv⟩
 have hzip:(names.zip vals).map (·.1)=names:=List.map_fst_zip (by rw [hlen,d.len];exact cZ _)
 have hnn:((names.zip vals).map (·.1)).Nodup:=by rw [hzip,←hp.nm,LY];exact F.facts.2.1.sublist (List.take_sublist _ _)
 refine⟨T,T.relC y.R hS (fun _=>rfl) fun _ _ e=>.inl ⟨e,rfl,rfl⟩,F,eL▸if_pos rfl,⟨_,I.toInCall.ns,fun i x sv hi ha=> ?_⟩,fun i x hi=> ?_,fun i x sv hi ha=> ?_⟩
 ·obtain⟨v,hm,dv⟩:=par hi ha
  exact⟨v,(Jk hnn hm).1 (F.kinds hi),dv⟩
 ·have hs:=Km sl (y.s.heap.objs.size+1) [] x (.inl (oB hi))
  rw [←eC] at hs
  obtain⟨c,hc⟩:=Option.isSome_iff_exists.mp hs
  refine⟨c,_,hc,.inl ?_,I.cell _ _ hc,fun sv ha=> ?_⟩
  ·show(if c=_ then _ else cond _ _ _)=_
   rw [if_neg (Nat.ne_of_gt (abv hc)),List.any_eq_true.mpr ⟨_,oB hi,by simp [hc]⟩];rfl
  ·obtain⟨v,hm,dv⟩:=par hi ha
   exact⟨v,(Jk hnn hm).2 (by rw [F.kinds hi];intro q;cases q),dv⟩
 ·obtain⟨v,hm,dv⟩:=par hi ha
  have hx:x∈names:=by have:=LZ (f:=Prod.fst) hm;rwa [show(names.zip vals).map Prod.fst=names from hzip] at this
  obtain⟨j,k,hj,hk⟩:=hp.kind hx
  cases ZY F.facts.2.1 hi hj
  cases hi.symm.trans hj
  rcases hk with hk | hk <;> cases hk
theorem Ox{m:M Fl}(P:CV C fa fd body)(hsl:fd.scope.names=sl)(hp:AQ sl names)(y:Wd C cells)(hA:lG A (n+1))(d:fP C y.X cells.length args vals)(hlen:names.length=args.length)
  {env:Env} (he:env=callEnvC fd y.s.heap.objs.size fa) (I:InCallC y.s env.locals (bindL env.kindOf (names.zip vals) fun _=>none) env.cells (bindC env.kindOf (names.zip vals) fun _=>none) s₁)
  {w:WP Flow} (h:∀(z:Z ⟨C,n,sl,env⟩ (A.deeper env) ⟨tJ sl.length args,cells⟩),Go z dF w (m ⟨tJ sl.length args,cells⟩)) {a:SV} {cells':List SO}
  (e:(match m ⟨tJ sl.length args,cells⟩ with | some (.ret v,st')=>some (v,st'.cells) | some (.next,st')=>some (.pv .none,st'.cells) | _=>none)=some (a,cells'))
  {Q:aB→aG→Prop} (q:∀(y':Wd C cells') (x:aB),y.X.le cells.length y'.X cells'.length→fK C y'.X cells'.length a x→Q x y'.s):w (fun f s'=>Q (match f with | .ret v=>v | _=>.none) s') s₁:=by
 obtain⟨T,R⟩:=aEP P hsl hp y d hlen he I
 have le:=T.le (fun _=>rfl) fun _=>rfl
 have hA':lG (A.deeper env) n:=⟨hA.handled,aP (show A.depth+1+20*n≤A.depth+20*(n+1) by rw [uU,vZ 1];exact oE (oE (by decide) _) _) hA.depth,aP (lM (show A.units+3+100*n≤A.units+100*(n+1) by rw [uU,vZ 3];exact oE (oE (by decide) _) _) 200) hA.units⟩
 cases c:m ⟨tJ sl.length args,cells⟩ with
 |none=>rw [c] at e;exact aT e
 |some p=>
  obtain⟨f,st'⟩:=p
  replace e:=(c)▸e
  refine h ⟨_,s₁,hA',R⟩ f st' c _ fun z' g l dg=> ?_
  cases f with
  |cont=>exact aT e
  |next=>obtain⟨rfl,rfl⟩:=gA e;subst dg;exact q ⟨_,z'.s,z'.R.toRelC⟩ .none (le.trans l) rfl
  |ret v=>obtain⟨rfl,rfl⟩:=gA e;cases dg with | mk x dx=>exact q ⟨_,z'.s,z'.R.toRelC⟩ x (le.trans l) dx
end
section
open Sem (wp)
noncomputable def sU:List String:=Builtin.Bytes.decodersThatHold++["bytearray.__contains__","bytearray.__mod__","bytearray.__rmod__","_struct.pack_into.held","bytearray.find.held"]
noncomputable def xF:Code→Bool
 |.builtin id _=> !sU.contains id
 |_=>true
noncomputable def ND(Γ:Ctx):Prop:=xF Γ.code=true∧∀ x∈Γ.below,xF x.1=true
noncomputable def bB{α:Type}(M:jR)(A:aR)(t:Sem α)(Q:α→aG→Prop)(s:aG):Prop:=
 ∀ Γ p,Γ.In A→ND Γ→wp M Γ t (fun a _ s'=>Q a s') (fun _ _ _=>False) p s
noncomputable def lW(M:jR)(A:aR)(c:Code)(R:Flow→aG→Prop)(s:aG):Prop:=
 ∀ Γ p,Γ.code=c→Γ.Below A→(∀ x∈Γ.below,xF x.1=true)→wpCode M Γ (fun r s'=>match r with | .ok f=>R f s' | .error _=>False) p s
section
variable{α β:Type}{M:jR}{A:aR}{s:aG}{env:Env}
theorem fU(h:aI M A t Q nE s):bB M A t Q s:=fun Γ p hΓ _=>h Γ p hΓ
theorem aDU(h:codeAny M A c (fun r s'=>match r with | .ok f=>R f s' | .error _=>False) s):lW M A c R s:=fun Γ p hc hΓ _=>h Γ p hc hΓ
theorem dD(h:Q a s):bB M A (pure a) Q s:=fun _ _ _ _=>h
theorem hV(h:bB M A t Q s)(hQ:∀ a s,Q a s→Q' a s):bB M A t Q' s:=
 fun Γ p hΓ hN=>MN M Γ t (fun a _ s=>hQ a s) (fun _ _ _ x=>x) p s (h Γ p hΓ hN)
theorem bE(h:bB M A m (fun a s'=>bB M A (f a) Q s') s):bB M A (m >>= f) Q s:=fun Γ p hΓ hN=>by
 rw [Sem.wp_bind']
 exact MN M Γ m (fun a p' s' h'=>h' Γ p' hΓ hN) (fun _ _ _ h'=>h') p s (h Γ p hΓ hN)
theorem nW(h:bB M A m Q s):bB M A (holding vs m) Q s:=
 fun Γ p hΓ hN=>by rw [Sem.wp_holding];exact h Γ p hΓ hN
theorem CS(h:bB M A m Q s):bB M A (m.onRaise k) Q s:=fun Γ p hΓ hN=>by
 rw [Sem.wp_onRaise]
 exact MN M Γ m (fun _ _ _ h'=>h') (fun e p' s' h'=>h'.elim) p s (h Γ p hΓ hN)
theorem Zb(h:bB M A m Q s):bB M A (m.keep vs) Q s:=fun Γ p hΓ hN=>by rw [Sem.wp_keep];exact h Γ p hΓ hN
theorem aQz(h:bB M A m Q s):bB M A (operate vs m) Q s:=fun Γ p hΓ hN=>by rw [Sem.wp_operate];exact h Γ p hΓ hN
theorem pH(h:Q () s):bB M A (standAt pos) Q s:=fun _ _ _ _=>h
theorem RS(h:Q () s):bB M A point Q s:=fun _ _ _ _=>h
theorem uN(e:t=pure v)(h:Q v s):bB M A t Q s:=by rw [e];exact dD h
theorem Sy(hN:ND Γ)(c:Code)(h:Option aB)(p:Pos):∀ x∈(Γ.enter c h p).below,xF x.1=true:=fun x hx=>by
 cases hx with
 |head=>exact hN.1
 |tail _ hx=>exact hN.2 x hx
theorem Ze(hc:lW M A c Q s):bB M A (run c none) Q s:=
 fun Γ p hΓ hN=>by
  rw [Sem.wp_run]
  refine wpCode_mono (fun r s' hr=> ?_) (hc (Γ.enter c none p) p rfl (by simpa [Around.mark] using hΓ.enter c none p (by intro x;exact aT x)) (Sy hN c none p))
  cases r <;> exact hr
noncomputable abbrev Ga(Q:aB→aG→Prop):Flow→aG→Prop:=fun f s'=>match f with | .ret v=>Q v s' | _=>False
theorem RR(hc:lW M A (.call f ⟨pos,[]⟩) (Ga Q) s):bB M A (call f pos []) Q s:=
 fun Γ p hΓ hN=>by
  rw [call,Sem.wp_runValue]
  refine wpCode_mono (fun r s' hr=> ?_) (hc (Γ.enter (.call f ⟨pos,[]⟩) none p) p rfl (by simpa [Around.mark] using hΓ.enter (.call f ⟨pos,[]⟩) none p (by intro x;exact aT x)) (Sy hN _ none p))
  cases r with
  |error e=>exact hr.elim
  |ok f=>cases f <;> exact hr
theorem BB(hn:xF c=true)
  (h:bB M (A.under c) (M.den c) (fun fin s'=>match fin with | .done f=>R f s' | .again c'=>c'.quiet=true∧lW M A c' R s') s):lW M A c R s:=fun Γ p hc hΓ hB=>by
 rw [wpCode_iff_wp,hc]
 refine MN M Γ _ (fun fin p' s' h'=> ?_) (fun _ _ _ h'=>h'.elim) p s (h Γ p (hc▸hΓ.in) ⟨hc▸hn,hB⟩)
 cases fin with
 |done f=>exact h'
 |again c'=>exact⟨h'.1,h'.2 (Γ.goto c') p' rfl (hΓ.goto c') hB⟩
end
section
variable{prog:iB}{w:eR}{A:aR}{s:aG}
theorem vV{α:Type}{M:jR}{t:Sem α}{Q:α→aG→Prop}(h:aI M A t Q nE s):aI M A t Q E s:=nV h (fun _ _ h=>h) fun _ _ e=>e.elim
theorem aDT(h:bB (aK prog w) (A.deeper env) (execs body env) (fun f s'=>R (.ret (match f with | .ret v=>v | _=>.none)) s') s):lW (aK prog w) A (.func body env) R s:=by
 refine BB rfl ?_
 show bB _ (A.deeper env) (do point;match ←(execs body env).onRaise (leaving env) with | .ret v=>ret v | _=>ret .none) _ s
 refine bE (RS (bE (CS (hV h fun f s' h'=> ?_))))
 cases f <;> exact dD h'
theorem aDR(hroom:A.depth < recursionLimit)(ho:s.heap.get? a=some o)
  (hd':o.data= .func fd) (hco:fd.scope.isCoroutine=false) (hgen:fd.scope.isGenerator=false) (hbody:fd.body= .stmts body) (hcd:s.heap.CodeRec fd.code fd.qualname)
  (h:aI (aK prog w) A.in1 (bindArgs fd args) (fun binds s₁=>
   aI (aK prog w) A.in1 (newFunctionEnv fd.scope fd.globals fd.closure binds (fd.qualname++".<locals>.") (some a) fd.code none fd.builtins)
    (fun env s₂=>s₂.heap.NoLimit∧lW (aK prog w) A (.func body env) R s₂) nE s₁) nE s):
  lW (aK prog w) A (.call (.ref a) args) R s:=by
 refine BB rfl (fU ?_)
 show aI _ A.in1 (callAny (.ref a) args) _ _ s
 refine aF (vW ho ?_)
 obtain⟨c,oc,vs,tq,hc,hoc,hdc,hq⟩:=hcd
 simp only [hd',callFunction,hco,hgen,hbody,hc]
 rw [hc] at h
 refine aF (wpAny_field hoc hdc hq (aF (bG ?_)))
 exact aF (fX h fun binds s₁ h₁=>aF (fX h₁ fun env s₂ h₂=>aF (wpAny_enterFrame h₂.1 hroom (bG (And.intro rfl h₂.2)))))
end
noncomputable def Lp(C:Cx)(fa:Addr)(A:aR)(vals:List aB):WP aB:=fun Q s=>codeAny (aK C.prog C.w) A (.call (.ref fa) ⟨vals,[]⟩) (fun r s'=>match r with | .ok f=>Ga Q f s' | .error _=>False) s
noncomputable def aEm(C:Cx)(fa:Addr)(A:aR)(vals:List aB):WP aB:=fun Q s=>lW (aK C.prog C.w) A (.call (.ref fa) ⟨vals,[]⟩) (Ga Q) s
theorem NN(h:Lp C fa A vals Q s)(k:∀ v s',Q v s'→R (.ok (.ret v)) s'):codeAny (aK C.prog C.w) A (.call (.ref fa) ⟨vals,[]⟩) R s:=
 codeAny_mono h fun r s' hr=>by
  cases r with
  |error=>exact hr.elim
  |ok f=>cases f <;> first | exact k _ _ hr | exact hr.elim
noncomputable abbrev RF(C:Cx)(n:Nat)(fa:Addr)(f:Fn):Prop:=uW C n (Lp C fa) f
noncomputable abbrev sM(C:Cx)(n:Nat)(fa:Addr)(f:Fn):Prop:=uW C n (aEm C fa) f
noncomputable abbrev KK.wpG{β:Type}(K:KK)(A:aR)(t:Sem β):WP β:=fun Q s=>Mine.bB (aK K.C.prog K.C.w) A t Q s
section
variable{C:Cx}{n:Nat}{fa:Addr}{fd:qT}{body:List Stmt}{sl:aL}{names:List Str}{g:List SV→Option (List SV)}{m:M Fl}
theorem Kg(P:CV C fa fd body)(hsl:fd.scope.names=sl)(hp:AQ sl names){A:aR}(y:Wd C cells)(hb:BindsTo y.s fd ⟨vals,[]⟩ (names.zip vals'))(d:fP C y.X cells.length args' vals')(hl:names.length=args'.length)
  {T:Env→aG→Prop} {E:aB→aG→Prop} (h:∀ env,env=callEnvC fd y.s.heap.objs.size fa→∀ s',InCallC y.s env.locals (bindL env.kindOf (names.zip vals') fun _=>none) env.cells (bindC env.kindOf (names.zip vals') fun _=>none) s'→T env s'):
  aI (aK C.prog C.w) A.in1 (bindArgs fd ⟨vals,[]⟩) (fun binds s₁=>aI (aK C.prog C.w) A.in1 (newFunctionEnv fd.scope fd.globals fd.closure binds (fd.qualname++".<locals>.") (some fa) fd.code none fd.builtins) (fun env s₂=>s₂.heap.NoLimit∧T env s₂) E s₁) E y.s:=by
 refine hb _ _ _ _ ?_
 refine(P.clo).symm▸?_
 have hsc:=P.sc
 simp only [xO,hsl,hZ,beq_iff_eq,decide_eq_true_eq] at hsc
 refine wpAny_newFunctionEnv_cells hsc.1.1 (fun x hx=> ?_) fun env he s' I=>⟨(C.lim.keeps y.R.keeps0).keeps I.toInCall.keep,h env he s' I⟩
 have hx:x.1∈names:=by
  have:=LZ (f:=Prod.fst) hx
  rwa [List.map_fst_zip (by rw [hl,d.len];exact cZ _)] at this
 obtain⟨i,k,hi,hk⟩:=hp.kind hx
 refine(hsl).symm▸(Bf hsc.1.2 hi).symm▸?_
 exact hk.imp (fun e=>by rw [e]) fun e=>⟨by rw [e],Km sl _ [] x.1 (.inl (oB (e▸hi)))⟩
theorem Vz(hA:lG A (n+1)):A.depth < recursionLimit:=sI (aP (oF _ _) hA.depth) (bR rfl)
theorem Wc(e:bH k g m args cells=some (a,cells')):∃ args',g args=some args'∧(match m ⟨tJ k args',cells⟩ with | some (.ret v,st')=>some (v,st'.cells) | some (.next,st')=>some (.pv .none,st'.cells) | _=>none)=some (a,cells'):=by
 unfold bH at e
 cases c:g args with
 |none=>rw [c] at e;exact aT e
 |some args'=>rw [c] at e;exact⟨args',rfl,e⟩
theorem aAG(P:CV C fa fd body)(hsl:fd.scope.names=sl)(hp:AQ sl names)(hb:AF C fd names g)
  (h:∀ env,env.scope=fd.scope→env.func.isSome=true→∀ {A:aR} {st:St} (z:Z ⟨C,n,sl,env⟩ A st),Go z dF (KK.wp ⟨C,n,sl,env⟩ A (execs body env)) (m st)):RF C (n+1) fa (bH sl.length g m):=by
 intro A cells y args vals hA d a cells' e Q q
 obtain⟨args',hg,e⟩:=Wc e
 obtain⟨vals',hbd,d',hl⟩:=hb y hg d
 obtain⟨o,ho,hd⟩:=P.obj
 refine codeAny_call_function (Vz hA) (y.R.keeps0 _ _ ho) hd P.co P.gen P.body (P.cr.keeps y.R.keeps0) (Kg P hsl hp y hbd d' hl fun env he s' I=>codeAny_func ?_)
 exact vV (Ox P hsl hp y hA d' hl he I (w:=KK.wp ⟨C,n,sl,env⟩ (A.deeper env) (execs body env)) (fun z=>h env (by rw [he];rfl) (by rw [he];rfl) z) e q)
theorem aAF(P:CV C fa fd body)(hsl:fd.scope.names=sl)(hp:AQ sl names)(hb:AF C fd names g)
  (h:∀ env,env.scope=fd.scope→env.func.isSome=true→∀ {A:aR} {st:St} (z:Z ⟨C,n,sl,env⟩ A st),Go z dF (KK.wpG ⟨C,n,sl,env⟩ A (execs body env)) (m st)):sM C (n+1) fa (bH sl.length g m):=by
 intro A cells y args vals hA d a cells' e Q q
 obtain⟨args',hg,e⟩:=Wc e
 obtain⟨vals',hbd,d',hl⟩:=hb y hg d
 obtain⟨o,ho,hd⟩:=P.obj
 refine aDR (Vz hA) (y.R.keeps0 _ _ ho) hd P.co P.gen P.body (P.cr.keeps y.R.keeps0) (Kg P hsl hp y hbd d' hl fun env he s' I=>aDT ?_)
 exact Ox P hsl hp y hA d' hl he I (w:=KK.wpG ⟨C,n,sl,env⟩ (A.deeper env) (execs body env)) (fun z=>h env (by rw [he];rfl) (by rw [he];rfl) z) e q
theorem Hz(h:RF C n fa f):sM C n fa f:=fun y _ _ hA d a c e Q q=>aDU (h y hA d a c e Q q)
end
structure lB(C:Cx)(a:Addr)(sc:Scope)(body:List Stmt)(names:List Str)(g:List SV→Option (List SV)):Prop where
 ex:∃ fd,CV C a fd body∧fd.scope=sc∧AF C fd names g
noncomputable def GO(C:Cx)(fa:Addr):Prop:=∃ o fd,C.base.get? fa=some o∧o.data= .func fd
theorem lB.is(P:lB C a sc body names g):GO C a:=by
 obtain⟨fd,P,_⟩:=P.ex
 obtain⟨o,ho,hd⟩:=P.obj
 exact⟨o,fd,ho,hd⟩
end
noncomputable def yP:Stmt→Expr×Expr×List Stmt×List Stmt
 |.Return (some e) _=>(e,e,[],[])
 |.Expr e _=>(e,e,[],[])
 |.Assign ts e _=>(e,dT ts,[],[])
 |.AugAssign t _ e _=>(e,t,[],[])
 |.If t a b _=>(t,t,a,b)
 |.While t a b _=>(t,t,a,b)
 |.For t e a b _=>(e,t,a,b)
 |_=>(dT [],dT [],[],[])
noncomputable def yE(t:Stmt):Expr:=(yP t).1
noncomputable def yT(t:Stmt):Expr:=(yP t).2.1
noncomputable def yB(t:Stmt):List Stmt:=(yP t).2.2.1
noncomputable def yO(t:Stmt):List Stmt:=(yP t).2.2.2
noncomputable def Pm:List Stmt→Stmt
 |t::_=>t
 | []=>.Pass default
structure P1(K:KK) where
 m:M Fl
 r:Stmt→Stmt
 ok:∀(t:Stmt) {A:aR} {st:St} (z:Z K A st),Go z dF (K.wp A (exec (r t) K.env)) (m st)
structure PS(K:KK) where
 m:M Fl
 r:List Stmt→List Stmt
 ok:∀(t:List Stmt) {A:aR} {st:St} (z:Z K A st),Go z dF (K.wp A (execs (r t) K.env)) (m st)
structure yC(K:KK) where
 m:M Fl
 r:Stmt→Stmt
 ok:∀(t:Stmt) {A:aR} {st:St} (z:Z K A st),Go z dF (K.wpG A (exec (r t) K.env)) (m st)
structure DF(K:KK) where
 m:M Fl
 r:List Stmt→List Stmt
 ok:∀(t:List Stmt) {A:aR} {st:St} (z:Z K A st),Go z dF (K.wpG A (execs (r t) K.env)) (m st)
noncomputable def sq(a:M Fl)(b:M Fl):M Fl:=bd a fun f=>match f with
 |.next=>b
 |f=>rt f
section
variable{K:KK}{A:aR}{st:St}{z:Z K A st}{α β γ δ:Type}
theorem Pf{w w' w₂:WP Flow}{a b:M Fl}(h:∀ Q,w (fun f s'=>match f with | .next=>w₂ Q s' | f=>Q f s') z.s→w' Q z.s)(ha:Go z dF w (a st))(hb:∀ {st₁:St} (z₁:Z K A st₁),Go z₁ dF w₂ (b st₁)):Go z dF w' (sq a b st):=
 ha.ru (u:=fun f Q s'=>match f with | .next=>w₂ Q s' | f=>Q f s') h fun {f st₁ x} z₁ l d=>by
  cases f with
  |next=>subst d;exact hb z₁
  |cont=>subst d;exact .rt (x:=.cont) rfl fun Q q=>q
  |ret v=>cases d with | mk x dx=>exact .rt (x:=.ret x) (.mk x dx) fun Q q=>q
noncomputable def aE:PS K:=⟨rt .next,fun _=>[],fun _ _ _ z=>.rt (x:=.next) rfl fun Q q=>LK q⟩
noncomputable def aC(a:P1 K)(as:PS K):PS K:=⟨sq a.m as.m,fun t=>a.r (Pm t)::as.r t.tail,fun t _ _ z=>Pf (fun Q q=>wpAny_execs_cons q) (a.ok _ z) fun z₁=>as.ok _ z₁⟩
noncomputable def pO:P1 K:=⟨er,fun t=>t,fun t _ _ z=>.no⟩
noncomputable def DH:P1 K:=⟨rt .cont,fun t=>.Continue t.pos,fun t _ _ z=>.rt (x:=.cont) rfl fun Q q=>wpAny_Continue q⟩
noncomputable def bS(a:PE K):P1 K:=⟨bd a.m fun v=>rt (.ret v),fun t=>.Return (some (a.r (yE t))) t.pos,fun t _ _ z=>(a.ok _ z).ru (u:=fun x Q=>Q (.ret x)) (fun Q q=>wpAny_Return_some q) fun z₁ l₁ dx=>.rt (x:=.ret _) (.mk _ dx) fun Q q=>q⟩
theorem Qc(z:Z K A st):interactive K.env=false:=by unfold interactive;rw [z.R.fr.st.kind];rfl
noncomputable def gC(a:PE K)(h:bV a.c 0=false:=by rfl):P1 K:=⟨bd a.m fun _=>rt .next,fun t=>.Expr (a.r (yE t)) t.pos,fun t _ _ z=>(a.ok _ z).ru (u:=fun _ Q=>Q .next) (fun Q q=>wpAny_Expr_any q (Qc z) (a.sw h _ _ _)) fun z₁ l₁ dx=>.rt (x:=.next) rfl fun Q q=>q⟩
noncomputable def cG(c:PT K)(a b:PS K):P1 K:=⟨bd c.m fun c=>match c with | true=>a.m | false=>b.m,fun t=>.If (c.r (yE t)) (a.r (yB t)) (b.r (yO t)) t.pos,fun t _ _ z=>(c.ok _ z).ruB (fun Q q=>wpAny_If q) fun z₁ l₁=>Pb (a.ok _ z₁) (b.ok _ z₁)⟩
noncomputable def cD(i:Nat)(q:lP K i)(a:PE K)(h:bV a.c 0=false:=by rfl):P1 K:=⟨bd a.m fun v=>bd (tE i v) fun _=>rt .next,fun t=>.Assign [.Name (nm K.sl i) (yT t).pos] (a.r (yE t)) t.pos,
 fun t _ _ z=>(a.ok _ z).ru (u:=fun x Q=>K.wp _ (storeName K.env (nm K.sl i) x) fun _=>Q .next) (fun Q k=>wpAny_Assign_Name k (a.sw h _ _ _)) fun z₁ l₁ dx=>IX q dx (rfl:dF _ _ _ Fl.next Flow.next) fun Q k=>k⟩
noncomputable def fl(b k:M Fl):M Fl:=bd b fun f=>match f with
 |.ret v=>rt (.ret v)
 |.next=>k
 |.cont=>k
theorem Nr{b k:M Fl}{wb:WP Flow}{f:Fl}{st':St}{Q:Flow→aG→Prop}{P B:aG→Prop}(hb:Go z dF wb (b st))(e:fl b k st=some (f,st'))(q:∀(z':Z K A st') x,z.le z'→z'.d dF f x→Q x z'.s)(p:∀ {st₁:St} (z₁:Z K A st₁),z.le z₁→k st₁=some (f,st')→P z₁.s):
  wb (fun g s=>match g with | .next | .cont=>P s | .brk=>B s | .ret v=>Q (.ret v) s) z.s:=
 lH e fun g st₁ e₁ e₂=>hb g st₁ e₁ _ fun z₁ x l d=>by
  cases g with
  |next=>subst d;exact p z₁ l e₂
  |cont=>subst d;exact p z₁ l e₂
  |ret v=>obtain⟨rfl,rfl⟩:=gA e₂;cases d with | mk y dy=>exact q z₁ _ l (.mk y dy)
noncomputable def lA:Nat→M Bool→M Fl→M Fl
 |0,_,_=>er
 |k+1,c,b=>bd c fun x=>match x with
  |true=>fl b (lA k c b)
  |false=>rt .next
inductive HJ(z:Z K A st)(f:Nat→M Fl)(g:Fl)(st':St)(k:Nat):aG→Prop
 |mk {st₁:St} (z₁:Z K A st₁) (l:z.le z₁) (e:f k st₁=some (g,st')):HJ z f g st' k z₁.s
theorem Yv{c:M Bool}{b:M Fl}{f:Fl}{st':St}{wt:WP Bool}{wb:WP Flow}{Q:Flow→aG→Prop}(q:∀(z':Z K A st') x,z.le z'→z'.d dF f x→Q x z'.s)(hc:∀ {st₁:St} (z₁:Z K A st₁),Go z₁ dB wt (c st₁))(hb:∀ {st₁:St} (z₁:Z K A st₁),Go z₁ dF wb (b st₁))(B:aG→Prop)(k:Nat)(s:aG)
  (h:HJ z (fun k=>lA k c b) f st' k s):wt (fun x s₂=>if x=true then wb (fun f' s₃=>match f' with | .next | .cont=>∃ m,m < k∧HJ z (fun k=>lA k c b) f st' m s₃ | .brk=>B s₃ | .ret v=>Q (.ret v) s₃) s₂ else Q .next s₂) s:=by
 cases h with | mk z₁ l e=>
 cases k with
 |zero=>exact aT e
 |succ k=>
  refine lH e fun x st₂ e₁ e₂=>hc z₁ x st₂ e₁ _ fun z₂ x' l₂ ex=> ?_
  cases (ex:x=x')
  cases x with
  |false=>obtain⟨rfl,rfl⟩:=gA e₂;exact q z₂ .next (l.t l₂) rfl
  |true=>exact Nr (hb z₂) e₂ (fun z' y l'=>q z' y ((l.t l₂).t l')) fun z₃ l₃ e₃=>⟨k,yA k,.mk z₃ ((l.t l₂).t l₃) e₃⟩
noncomputable def uV(k:Nat)(c:PT K)(b:PS K):P1 K:=⟨lA k c.m b.m,fun t=>.While (c.r (yE t)) (b.r (yB t)) [] t.pos,fun t A st z fl st' e Q q=>by
 refine wpAny_While (codeAny_whileLoop (HJ z (fun k=>lA k c.m b.m) fl st') (fun k s h=>nV (Yv q (fun z=>c.ok _ z) (fun z=>b.ok (yB t) z) (fun s=>Q .next s) k s h) (fun x s₂ h=> ?_) fun _ _ e=>e.elim) k (.mk z Z.le0 e))
 cases x with
 |true=>exact vV h
 |false=>exact LK h⟩
end
section
open Sem (wp)
noncomputable def fM:List PV→(PV→M Fl)→M Fl
 | [],_=>rt .next
 |x::xs,b=>fl (b x) (fM xs b)
noncomputable def IL(f:St→SV→Option (List PV))(src:M SV)(b:PV→M Fl):M Fl:=bd src fun a st=>match f st a with
 |some xs=>fM xs b st
 |none=>none
noncomputable def mU(nx:List SO→Nat→Option (Option PV))(b:PV→M Fl):Nat→Nat→M Fl
 |0,_=>er
 |n+1,i=>fun st=>match nx st.cells i with
  |some (some y)=>fl (b y) (mU nx b n (i+1)) st
  |some none=>some (.next,st)
  |none=>none
noncomputable def lJ(xs:List PV):List SO→Nat→Option (Option PV):=fun _ i=>some xs[i]?
theorem aFI(b:PV→M Fl)(xs:List PV):∀(ys:List PV) (i:Nat),xs.drop i=ys→fM ys b=mU (lJ xs) b (ys.length+1) i:=by
 intro ys
 induction ys with
 |nil=>
  intro i h
  have:xs[i]? =none:=List.getElem?_eq_none_iff.mpr (List.drop_eq_nil_iff.mp h)
  funext st
  show _=(match lJ xs st.cells i with | some (some y)=>fl (b y) (mU (lJ xs) b 0 (i+1)) st | some none=>some (.next,st) | none=>none)
  unfold lJ;rw [this];rfl
 |cons y ys ih=>
  intro i h
  have e1:xs[i]? =some y:=by have:=congrArg (fun l=>l[0]?) h;simpa [LV] using this
  have e2:xs.drop (i+1)=ys:=by have:=congrArg List.tail h;rwa [List.tail_drop] at this
  funext st
  show fl (b y) (fM ys b) st=(match lJ xs st.cells i with | some (some y)=>fl (b y) (mU (lJ xs) b (ys.length+1) (i+1)) st | some none=>some (.next,st) | none=>none)
  unfold lJ;rw [e1,ih (i+1) e2];rfl
noncomputable def Mp:bU→Bool
 |.iter _=>true
 |_=>false
noncomputable def Xt.put(X:Xt)(a:Addr)(r:Option bU):Xt:=⟨fun b=>if b=a then r else X.W b,X.ρ,X.δ⟩
section
variable{X Y:Xt}{a:Addr}{r:Option bU}{h h':Heap}{n:Nat}
theorem iR(h:b≠a):(X.put a r).W b=X.W b:=if_neg h
theorem kW:(X.put a r).W a=r:=if_pos rfl
noncomputable def MC(X:Xt)(a:Addr):Prop:=X.W a=none∨∃ o,X.W a=some (.iter o)
theorem MC.ne(l:MC X a)(e:X.W b=some q)(x:Mp q=false):b≠a:=fun z=>by
 replace e:=(z)▸e;rcases l with l | ⟨o,l⟩ <;> rw [l] at e <;> cases e
 exact eP x
theorem Tr.put(v:∀ a r,X.W a=some r→gY h a r)(l:MC X a)(g:lL a h h')(hr:∀ q,r=some q→gY h' a q):Tr Mp X h n (X.put a r) h' n:=by
 have hp:∀ b q,X.W b=some q→b≠a→h'.get? b=h.get? b:=fun b q e c=>let⟨o,ho⟩:=(v b q e).ex;(g b o c ho).trans ho.symm
 refine⟨⟨fun b o e=>(iR (l.ne e rfl)).trans e,fun _ _=>rfl,cZ _⟩,fun b q e x=>⟨(iR (l.ne e x)).trans e,hp b q e (l.ne e x)⟩,fun b q e=> ?_⟩
 by_cases c:b=a
 ·rw [c] at e ⊢;rw [kW] at e;exact .inr (hr q e)
 ·rw [iR c] at e;exact .inr ((v b q e).same (hp b q e c))
theorem kR(le:X.le m Y m')(e:X.W a=none):X.le m (Y.put a r) m':=by
 have ne:∀ {b q},X.W b=some q→b≠a:=fun {b q} eb z=>by rw [z,e] at eb;exact aT eb
 exact⟨⟨fun b o eb=>(iR (ne eb)).trans (le.low.fro b o eb),le.low.ρ,le.low.n⟩,fun b o eb=>(iR (ne eb)).trans (le.held b o eb),fun b o eb=>(iR (ne eb)).trans (le.iter b o eb)⟩
end
structure pJ(C:Cx)(it:Addr)(nx:List SO→Nat→Option (Option PV))(pi:Nat→Obj→Prop)(ok:Xt→Nat→Prop):Prop where
 mono:∀ {X n X' n'},X.low n X' n'→ok X n→ok X' n'
 item:∀ {A:aR} {cells:List SO} {i:Nat} {o:Obj} {p:PV} {Q:Option aB→aG→Prop} (y:Wd C cells),ok y.X cells.length→y.s.heap.get? it=some o→pi i o→nx cells i=some (some p)→
  (∀ v h' o' tk,bF C y.X.W p v→uP it y.s.heap h'→h'.get? it=some o'→pi (i+1) o'→Q (some v) {y.s with heap:=h',toks:=tk})→aI (aK C.prog C.w) A (pyNext (.ref it)) Q nE y.s
 fin:∀ {A:aR} {cells:List SO} {i:Nat} {o:Obj} {Q:Option aB→aG→Prop} (y:Wd C cells),A.handled=none→ok y.X cells.length→y.s.heap.get? it=some o→pi i o→nx cells i=some none→
  (∀ h' tk,lL it y.s.heap h'→Q none {y.s with heap:=h',toks:=tk})→aI (aK C.prog C.w) A (pyNext (.ref it)) Q nE y.s
 self:∀ {A:aR} {s:aG} {i:Nat} {o:Obj} {Q:aB→aG→Prop},s.heap.get? it=some o→pi i o→Q (.ref it) s→aI (aK C.prog C.w) A (pyIter (.ref it)) Q nE s
 lets:∀ {A:aR} {s:aG} {i:Nat} {o:Obj} {target:Expr} {v:aB} {Q:Unit→aG→Prop},s.heap.get? it=some o→pi i o→Q () s→aI (aK C.prog C.w) A (JH target (.ref it) v) Q nE s
structure PA(K:KK) where
 g:PV→M Unit
 r:Expr→Expr
 ok:∀(e:Expr) {A:aR} {st:St} (z:Z K A st) {p:PV} {v:aB},bF K.C z.X.W p v→Go z dU (K.wp A (rC (r e) K.env v)) (g p st)
section
variable{K:KK}{A:aR}{st:St}{z:Z K A st}
noncomputable def Z.wd(z:Z K A st):Wd K.C st.cells:=⟨z.X,z.s,z.R.toRelC⟩
noncomputable def Z.put(z:Z K A st)(a:Addr)(r:Option bU)(h':Heap)(t:Nat)(l:MC z.X a)(g:lL a z.s.heap h')(hr:∀ q,r=some q→gY h' a q):Z K A st:=
 ⟨z.X.put a r,{z.s with heap:=h',toks:=t},z.hA,(Tr.put z.R.val l g hr).rel z.R (z.R.still.to _ _) (fun _=>rfl) rfl rfl (fun _=>rfl) fun _ _ e=>.inl ⟨e,rfl,rfl⟩⟩
theorem rH(g:uP a h h'):lL a h h':=fun b o hb e=>(g.2 b hb).trans e
theorem rQ(e:h.get? a=some o)(q:bU)(c:some (bU.iter o)=some q):gY h a q:=bO c▸(e:gY h a (.iter o))
inductive AG(z:Z K A st)(it:Addr)(nx:List SO→Nat→Option (Option PV))(pi:Nat→Obj→Prop)(ok:Xt→Nat→Prop)(b:PV→M Fl)(f:Fl)(st':St)(k:Nat):aG→Prop
 |mk {st₁:St} (z₁:Z K A st₁) (i:Nat) (o:Obj) (l:z.le z₁) (hW:z₁.X.W it=some (.iter o)) (hp:pi i o) (hok:ok z₁.X st₁.cells.length) (e:mU nx b k i st₁=some (f,st')):AG z it nx pi ok b f st' k z₁.s
theorem ZK(I:pJ K.C it nx pi ok)(hz:z.X.W it=none)(t:PA K)(te:Expr)(hb:∀ {st₁:St} (z₁:Z K A st₁),Go z₁ dF wb (m st₁)){Q:Flow→aG→Prop}
  (q:∀(z':Z K A st') x,z.le z'→z'.d dF f x→Q x z'.s) (B:aG→Prop) (k:Nat) (s:aG) (h:AG z it nx pi ok (fun x=>bd (t.g x) fun _=>m) f st' k s):
  aI (aK K.C.prog K.C.w) A (pyNext (.ref it)) (fun r s₁=>match r with
   |none=>Q .next s₁
   |some v=>aI (aK K.C.prog K.C.w) A (JH (t.r te) (.ref it) v) (fun _ s'=>aI (aK K.C.prog K.C.w) A (rC (t.r te) K.env v) (fun _ s₂=>wb (fun f' s₃=>match f' with
    |.next | .cont=>∃ m',m' < k∧AG z it nx pi ok (fun x=>bd (t.g x) fun _=>m) f st' m' s₃
    |.brk=>B s₃
    |.ret v=>Q (.ret v) s₃) s₂) nE s') nE s₁) nE s:=by
 cases h with | mk z₁ i o l hW hp hok e=>
 have ho:=z₁.R.val _ _ hW
 cases k with
 |zero=>exact aT e
 |succ k=>
  have e:(match nx _ i with | some (some y)=>fl (bd (t.g y) fun _=>m) (mU nx (fun x=>bd (t.g x) fun _=>m) k (i+1)) _ | some none=>some (.next,_) | none=>none)=some (f,st'):=e
  cases c:nx _ i with
  |none=>rw [c] at e;exact aT e
  |some c'=>
   replace e:=(c)▸e
   cases c' with
   |none=>
    obtain⟨rfl,rfl⟩:=gA e
    exact I.fin z₁.wd z₁.hA.handled hok ho hp c fun h' tk ex=>q (z₁.put it none h' tk (.inr ⟨o,hW⟩) ex fun _ z=>nomatch z) .next (kR l hz) rfl
   |some y=>
    refine I.item z₁.wd hok ho hp c fun v h' o' tk dv sb ho' hp'=>I.lets ho' hp' ?_
    have le:=kR (r:=some (.iter o')) l hz
    have lw:=fun n=>(Tr.put (n:=n) (r:=some (bU.iter o')) z₁.R.val (.inr ⟨o,hW⟩) (rH sb) (rQ ho')).low
    refine lH e fun fb st₃ e₁ e₂=>lH e₁ fun u st₂ e₃ e₄=>t.ok te (z₁.put it (some (.iter o')) h' tk (.inr ⟨o,hW⟩) (rH sb) (rQ ho')) (bF.mono (lw 0).fro _ _ dv) u st₂ e₃ _ fun z₂ _ l₂ _=> ?_
    have L:z.le z₂:=Xt.le.trans le l₂
    exact Nr (b:=m) (hb z₂) (k:=mU nx (fun x=>bd (t.g x) fun _=>m) k (i+1)) ((show fl m (mU nx (fun x=>bd (t.g x) fun _=>m) k (i+1)) st₂=_ by unfold fl;unfold bd;exact(e₄).symm▸e₂)) (fun z' x l'=>q z' x (L.t l')) fun z₃ l₃ e₅=>⟨k,yA k,.mk z₃ (i+1) o' (L.t l₃) (l₃.iter _ _ (l₂.iter _ _ kW)) hp' (I.mono (((lw _).trans l₂.low).trans l₃.low) hok) e₅⟩
theorem Kv{M:jR}(hn:xF c=true)(hq:c.quiet=true)(I:Nat→aG→Prop)
  (turn:∀ n s,I n s→bB M (A.under c) (M.den c) (fun fin s'=>match fin with | .done f=>R f s' | .again c'=>(c'=c∧∃ m,m < n∧I m s')∨(c'.quiet=true∧lW M A c' R s')) s)
  (n:Nat) (h:I n s):lW M A c R s:=by
 induction n using Nat.strongRecOn generalizing s with
 |ind n ih=>
  refine BB hn (hV (turn n s h) fun fin s' hf=> ?_)
  cases fin with
  |done f=>exact hf
  |again c'=>
   rcases hf with⟨rfl,m,hm,hI⟩ | hf
   ·exact⟨hq,ih m hm hI⟩
   ·exact hf
theorem aDV{M:iB×eR}(I:Nat→aG→Prop)
  (turn:∀ n s,I n s→aI (aK M.1 M.2) A (isTrue test env (eval test env)) (fun b s₂=>
    if b then bB (aK M.1 M.2) A (execs body env) (fun f s₃=>match f with
      |.next | .cont=>∃ m,m < n∧I m s₃
      |.brk=>R .next s₃
      |.ret v=>R (.ret v) s₃) s₂
    else bB (aK M.1 M.2) A (execs orelse env) (fun f s₃=>R f s₃) s₂) nE s)
  (n:Nat) (h:I n s):lW (aK M.1 M.2) A (.whileLoop test body orelse env) R s:=by
 refine Kv rfl rfl I (fun n s hI=> ?_) n h
 show bB _ A ((whileTurn test body orelse env).onRaise (fun x=>do noteFrame x env;theTreesLotGoes x)) _ s
 refine CS ?_
 refine bE (fU (fX (turn n s hI) fun b s₂ h₂=> ?_))
 cases b with
 |false=>exact bE (hV h₂ fun f s₃ h₃=>dD h₃)
 |true=>
  refine bE (hV h₂ fun f s₃ h₃=> ?_)
  cases f with
  |next=>exact dD (.inl ⟨rfl,h₃⟩)
  |cont=>exact dD (.inl ⟨rfl,h₃⟩)
  |brk=>exact dD h₃
  |ret v=>exact dD h₃
theorem aDQ{M:iB×eR}(h:bB (aK M.1 M.2) A (execs stmts env) (fun f s'=>R f s') s):lW (aK M.1 M.2) A (.block stmts env) R s:=by
 refine BB rfl ?_
 exact bE (CS (hV h fun f s' h'=>dD h'))
theorem aDS{M:iB×eR}(I:Nat→aG→Prop)
  (turn:∀ n s,I n s→aI (aK M.1 M.2) A (pyNext it) (fun r s₁=>match r with
   |none=>bB (aK M.1 M.2) A (execs orelse env) (fun f s₃=>R f s₃) s₁
   |some v=>aI (aK M.1 M.2) A (JH target it v) (fun _ s₁'=>
     aI (aK M.1 M.2) A (rC target env v) (fun _ s₂=>bB (aK M.1 M.2) A (execs body env) (fun f s₃=>match f with
      |.next | .cont=>∃ m,m < n∧I m s₃
      |.brk=>R .next s₃
      |.ret v=>R (.ret v) s₃) s₂) nE s₁') nE s₁) nE s)
  (n:Nat) (h:I n s):lW (aK M.1 M.2) A (.forLoop target it body orelse env) R s:=by
 refine Kv rfl rfl I (fun n s hI=> ?_) n h
 show bB _ A ((forTurn target it body orelse env).onRaise (fun x=>do noteFrame x env;theTreesLotGoes x)) _ s
 refine CS ?_
 refine bE (pH (bE (CS (fU (fX (turn n s hI) fun r s₁ h₁=> ?_)))))
 cases r with
 |none=>exact dD (.inr ⟨rfl,aDQ h₁⟩)
 |some v=>
  refine bE (fU (fX h₁ fun _ s₁' h₁'=>bE (fU (fX h₁' fun _ s₂ h₂=>bE (hV h₂ fun f s₃ h₃=> ?_)))))
  cases f with
  |next=>exact dD (.inl ⟨rfl,h₃⟩)
  |cont=>exact dD (.inl ⟨rfl,h₃⟩)
  |brk=>exact dD h₃
  |ret v=>exact dD h₃
theorem aQu{M:jR}(h:lW M A (.whileLoop test body orelse env) Q s):bB M A (exec (.While test body orelse pos) env) Q s:=by
 rw [exec_While];exact bE (pH (by unfold runOwn;exact CS (Ze h)))
theorem aQq{M:jR}(h:aI M A (eval iter env) (fun x s₁=>aI M A (pyIter x) (fun it s₂=>lW M A (.forLoop target it body orelse env) Q s₂) nE s₁) nE s)
  (hs:∀ x,foldedSetIterable iter env x=pure x):bB M A (exec (.For target iter body orelse pos) env) Q s:=by
 rw [exec_For]
 exact bE (pH (bE (fU (fX h fun x s₁ h₁=>bE (uN (hs x) (bE (pH (bE (nW (fU (fX h₁ fun it s₂ h₂=>by unfold runOwn;exact CS (Ze h₂))))))))))))
noncomputable def kD(K:KK)(f:St→SV→Option (List PV)):Prop:=∀ {A:aR} {st:St} (z:Z K A st) {a:SV} {x:aB} {xs:List PV},f st a=some xs→z.d dV a x→∀ Q:aB→aG→Prop,
 (∀(z':Z K A st) it o pi ok,z.le z'→z'.X.W it=none→z'.s.heap.get? it=some o→pJ K.C it (lJ xs) pi ok→pi 0 o→ok z'.X st.cells.length→Q (.ref it) z'.s)→K.wp A (pyIter x) Q z.s
theorem ZJ(I:pJ K.C it nx pi ok)(hz:z.X.W it=none)(ho:z.s.heap.get? it=some o)(hp:pi 0 o)(hok:ok z.X st.cells.length)(e:mU nx b k 0 st=some (f,st')):AG z it nx pi ok b f st' k z.s:=
 .mk (z.put it (some (.iter o)) z.s.heap z.s.toks (.inl hz) (fun _ _ _ e=>e) (rQ ho)) 0 o (kR Z.le0 hz) kW hp (I.mono (Tr.put z.R.val (.inl hz) (fun _ _ _ e=>e) (rQ ho)).low hok) e
theorem Ny{f:St→SV→Option (List PV)}(e:(match f st a with | some xs=>fM xs b st | none=>none)=some (g,st')):∃ xs,f st a=some xs∧mU (lJ xs) b (xs.length+1) 0 st=some (g,st'):=by
 cases c:f st a with
 |none=>rw [c] at e;exact aT e
 |some xs=>rw [c] at e;exact⟨xs,rfl,(congrFun (aFI b xs xs 0 rfl) st).symm.trans e⟩
noncomputable def ZI(K:KK)(A:aR)(te:Expr)(b:List Stmt)(x:aB):WP Flow:=fun Q s₁=>aI (aK K.C.prog K.C.w) A (pyIter x) (fun it s₂=>codeAny (aK K.C.prog K.C.w) A (.forLoop te it b [] K.env) (fun r s'=>match r with | .ok f=>Q f s' | .error e=>cameBackBy (aK K.C.prog K.C.w) A K.env nE e s') s₂) nE s₁
noncomputable def iC{f:St→SV→Option (List PV)}(hf:kD K f)(a:PE K)(t:PA K)(b:PS K):P1 K:=⟨IL f a.m fun x=>bd (t.g x) fun _=>b.m,fun s=>.For (t.r (yT s)) (a.r (yE s)) (b.r (yB s)) [] s.pos,fun s A st z=>by
 refine(a.ok _ z).ru (u:=ZI K A (t.r (yT s)) (b.r (yB s))) (fun Q q=>wpAny_For q (OO (a.hc _))) fun {x₁ st₁ x} z₁ l₁ dx g st' e Q q=> ?_
 obtain⟨xs,hx,e⟩:=Ny e
 refine hf z₁ hx dx _ fun z' it o pi ok l' hz ho I hp hok=>codeAny_forLoop_any (AG z' it (lJ xs) pi ok (fun x=>bd (t.g x) fun _=>b.m) g st') (fun k s' h=> ?_) (xs.length+1) (ZJ I hz ho hp hok e)
 refine nV (ZK I hz t (yT s) (fun z=>b.ok (yB s) z) (fun z'' x l d=>q z'' x (l'.t l) d) (Q .next) k s' h) (fun r s₁ h=> ?_) fun _ _ e=>e.elim
 cases r with
 |none=>exact LK h
 |some v=>exact nV h (fun _ _ h=>nV h (fun _ _ h=>vV h) fun _ _ e=>e.elim) fun _ _ e=>e.elim⟩
noncomputable def aAr{f:St→SV→Option (List PV)}(hf:kD K f)(a:PE K)(t:PA K)(b:DF K):yC K:=⟨IL f a.m fun x=>bd (t.g x) fun _=>b.m,fun s=>.For (t.r (yT s)) (a.r (yE s)) (b.r (yB s)) [] s.pos,fun s A st z=>by
 refine(a.ok _ z).ru (u:=fun x Q s₁=>aI (aK K.C.prog K.C.w) A (pyIter x) (fun it s₂=>lW (aK K.C.prog K.C.w) A (.forLoop (t.r (yT s)) it (b.r (yB s)) [] K.env) Q s₂) nE s₁) (fun Q q=>aQq q (OO (a.hc _))) fun {x₁ st₁ x} z₁ l₁ dx g st' e Q q=> ?_
 obtain⟨xs,hx,e⟩:=Ny e
 refine hf z₁ hx dx _ fun z' it o pi ok l' hz ho I hp hok=>aDS (M:=(K.C.prog,K.C.w)) (AG z' it (lJ xs) pi ok (fun x=>bd (t.g x) fun _=>b.m) g st') (fun k s' h=> ?_) (xs.length+1) (ZJ I hz ho hp hok e)
 refine fX (ZK I hz t (yT s) (fun z=>b.ok (yB s) z) (fun z'' x l d=>q z'' x (l'.t l) d) (Q .next) k s' h) fun r s₁ h=> ?_
 cases r with
 |none=>exact fU (LK h)
 |some v=>exact h⟩
noncomputable def aAs(k:Nat)(c:PT K)(b:DF K):yC K:=⟨lA k c.m b.m,fun t=>.While (c.r (yE t)) (b.r (yB t)) [] t.pos,fun t A st z fl st' e Q q=>by
 refine aQu (aDV (M:=(K.C.prog,K.C.w)) (HJ z (fun k=>lA k c.m b.m) fl st') (fun k s h=>fX (Yv q (fun z=>c.ok _ z) (fun z=>b.ok (yB t) z) (Q .next) k s h) fun x s₂ h=> ?_) k (.mk z Z.le0 e))
 cases x with
 |true=>exact h
 |false=>exact fU (LK h)⟩
noncomputable def xI(k:Nat):List SO→Nat→Option (Option PV):=fun cells i=>match cells[k]? with
 |some (.list ys)=>some ys[i]?
 |_=>none
noncomputable def Nw(k:Nat)(n i:Nat)(b:PV→M Fl):M Fl:=mU (xI k) b n i
noncomputable def Nx(fuel:Nat)(src:M SV)(b:PV→M Fl):M Fl:=bd src fun a=>qN a (fun k _=>Nw k fuel 0 b) er
end
end
section
open Sem (wp)
theorem aIa{α:Type}{l:List α}{i:Nat}{v:α}(e:l[i]? =some v):i < l.length:=(List.getElem?_eq_some_iff.mp e).1
section
variable{K:KK}{A:aR}{st:St}{z:Z K A st}
theorem aFF{b:PV→M Fl}{k i:Nat}{r:Fl×St}:∀(n:Nat),mU (xI k) b n i st=some r→k < st.cells.length:=fun n e=>by
 cases n with
 |zero=>cases e
 |succ n=>
  have e:(match xI k st.cells i with | some (some y)=>fl (b y) (mU (xI k) b n (i+1)) st | some none=>some (.next,st) | none=>none)=some r:=e
  cases q:st.cells[k]? with
  |none=>unfold xI at e;rw [q] at e;cases e
  |some c=>exact aIa q
noncomputable def aAu(fuel:Nat)(a:PE K)(t:PA K)(b:PS K)(roit:∀ {A:aR} {st:St} (z:Z K A st) {i:Nat} {xs:List PV} {vs:List aB} {ep:Nat},i < st.cells.length→z.X.W (z.X.ρ i)=some (.cell i)→z.s.heap.get? (z.X.ρ i)=some (cC vs ep)→bQ K.C z.X xs vs→∀ Q:aB→aG→Prop,
 (∀(z':Z K A st) it o pi ok,z.le z'→z'.X.W it=none→z'.s.heap.get? it=some o→pJ K.C it (xI i) pi ok→pi 0 o→ok z'.X st.cells.length→Q (.ref it) z'.s)→K.wp A (pyIter (.ref (z.X.ρ i))) Q z.s):P1 K:=⟨Nx fuel a.m fun x=>bd (t.g x) fun _=>b.m,fun s=>.For (t.r (yT s)) (a.r (yE s)) (b.r (yB s)) [] s.pos,fun s A st z=>by
 refine(a.ok _ z).ru (u:=ZI K A (t.r (yT s)) (b.r (yB s))) (fun Q q=>wpAny_For q (OO (a.hc _))) fun {a₁ st₁ x} z₁ l₁ dx=> ?_
 refine .onC (T:=ZI K A (t.r (yT s)) (b.r (yB s))) dx (fun i xs vs ep hw ho hl g st' e Q q=> ?_) .er
 refine roit z₁ (aFF fuel e) hw ho hl _ fun z' it o pi ok l' hz ho' I hp hok=>codeAny_forLoop_any (AG z' it (xI i) pi ok (fun x=>bd (t.g x) fun _=>b.m) g st') (fun k s' h=> ?_) fuel (ZJ I hz ho' hp hok e)
 refine nV (ZK I hz t (yT s) (fun z=>b.ok (yB s) z) (fun z'' x l d=>q z'' x (l'.t l) d) (Q .next) k s' h) (fun r s₁ h=> ?_) fun _ _ e=>e.elim
 cases r with
 |none=>exact LK h
 |some v=>exact nV h (fun _ _ h=>nV h (fun _ _ h=>vV h) fun _ _ e=>e.elim) fun _ _ e=>e.elim⟩
theorem aOy(t v:Expr)(l:Nat)(env:Env):swapsWithSole [t] v l env=FY v (some t) l env:=by unfold swapsWithSole;rfl
theorem OV{f:aB→Sem Unit}{i:Nat}{x:SV}{v:aB}(q:lP K i)(d:z.d dV x v)(h:∀ Q,aI (aK K.C.prog K.C.w) A (storeName K.env (nm K.sl i) v) Q nE z.s→aI (aK K.C.prog K.C.w) A (f v) Q nE z.s):Go z dU (K.wp A (f v)) (tE i x st):=
 IX q d (show dU _ _ _ () () from trivial) fun Q k=>h Q k
noncomputable def MJ(K:KK)(f:aB→Sem Unit)(i:Nat):Prop:=∀ {A:aR} {st:St} (z:Z K A st) {x:SV} {v:aB},z.d dV x v→Go z dU (K.wp A (f v)) (tE i x st)
noncomputable def dA(i:Nat)(q:lP K i:=by exact .inl rfl):PA K:=⟨fun v=>tE i (.pv v),fun e=>.Name (nm K.sl i) e.pos,fun e _ _ z _ _ d=>OV q (d:z.d dV (.pv _) _) fun Q h=>Yw h⟩
noncomputable def QW:List Nat→List SV→M Unit
 | [],vs=>fun st=>match vs with
  | []=>some ((),st)
  |_::_=>none
 |i::is,vs=>fun st=>match vs with
  |v::vs=>QW is vs {st with loc:=st.loc.set i (some v)}
  | []=>none
theorem aGF(fs:List (aB→Sem Unit)):∀ {st:St} {z:Z K A st} {is:List Nat} {vs:List SV} {ws:List aB},aS (MJ K) fs is→z.d dL vs ws→Go z dU (K.wp A (MX fs ws)) (QW is vs st):=by
 induction fs with
 |nil=>intro st z is vs ws h d;subst h;cases vs with
  |nil=>subst d;exact .same trivial fun Q q=>assignInOrder_nil q
  |cons=>exact .no
 |cons f fs ih=>intro st z is vs ws h d;cases h with | mk i is a as=>cases vs with
  |nil=>exact .no
  |cons v vs=>cases d with | mk w ws dv ds=>exact Go.ru (m:=tE i v) (f:=fun _=>QW is vs) (a z dv) (fun Q q=>assignInOrder_cons q) fun z₁ l _=>ih as (l.l ds)
noncomputable def tV(K:KK)(is:List Nat):Prop:=∀ i∈is,lP K i
theorem LC{is:List Nat}(h:(is.all fun i=>eI K.sl i .local)=true):tV K is:=fun i hi=>.inl (List.all_eq_true.mp h i hi)
theorem LB{is:List Nat}(hf:K.env.func.isSome=true)(h:(is.all fun i=>eI K.sl i .local || eI K.sl i .cell)=true):tV K is:=fun i hi=>
 (Bool.or_eq_true _ _▸List.all_eq_true.mp h i hi:eI K.sl i .local=true∨eI K.sl i .cell=true).imp id fun q=>⟨q,hf⟩
noncomputable def rN(sl:aL)(l:Nat):List Nat→List Expr→List Expr
 | [],_=>[]
 |i::is,es=>.Name (nm sl i) {(dT es).pos with line:=l}::rN sl l is es.tail
theorem Un(l:Nat)(is:List Nat):∀ es,(assignEach (rN K.sl l is es) K.env).length=is.length:=by
 induction is with
 |nil=>exact fun _=>rfl
 |cons i is ih=>exact fun es=>congrArg lN (ih _)
theorem Uo(l:Nat)(is:List Nat):∀ es,(assignEach (rN K.sl l is es) K.env).findIdx? (·.1)=none:=by
 induction is with
 |nil=>exact fun _=>rfl
 |cons i is ih=>exact fun es=>by rw [show assignEach (rN K.sl l (i::is) es) K.env=(false,rC (.Name (nm K.sl i) {(dT es).pos with line:=l}) K.env)::assignEach (rN K.sl l is es.tail) K.env from rfl,List.findIdx?_cons,ih];rfl
theorem Um(l:Nat)(is:List Nat)(q:tV K is):∀ es,aS (MJ K) ((assignEach (rN K.sl l is es) K.env).map (·.2)) is:=by
 induction is with
 |nil=>exact fun _=>rfl
 |cons i is ih=>exact fun es=>.mk (fun z _ _ d=>OV (q i (.head _)) d fun Q h=>Yw h) (ih (fun i h=>q i (.tail _ h)) _)
theorem aBD(is:List Nat)(q:tV K is):aS (MJ K) (is.map fun i v=>bindName K.env (nm K.sl i) v) is:=by
 induction is with
 |nil=>exact rfl
 |cons i is ih=>exact .mk (fun z _ _ d=>OV (q i (.head _)) d fun Q h=>wpAny_bindName h) (ih fun i h=>q i (.tail _ h))
noncomputable def vS(is:List Nat)(vs:List SV):M Unit:=gd (bV is.length vs.length) (QW is vs)
noncomputable def RH(is:List Nat)(v:PV):M Unit:=match v with
 |.tup xs=>vS is (xs.map .pv)
 |_=>er
theorem aHo{h h':Heap}(e:lL h.objs.size h h')(b:Addr)(o:Obj)(q:h.get? b=some o):h'.get? b=some o:=e b o (qU (mY q)) q
theorem ZR{t:Addr}{vs:List SV}{ws:List aB}{is:List Nat}{f:List (aB→Sem Unit)}{W:WP Unit}(hf:aS (MJ K) f is)(d:z.d dL vs ws)
  (h:vs.length=is.length→∀ Q,(∀ h',lL z.s.heap.objs.size z.s.heap h'→aI (aK K.C.prog K.C.w) A (MX f ws) Q nE {z.s with heap:=h'})→W Q z.s):Go z dU W (vS is vs st):=
 .gd fun e a s e' Q q=>h (sH e).symm Q fun h' ex=>aGF (z:=z.to {z.s with heap:=h'} (z.R.still.to h' z.s.toks) (aHo ex)) f hf d a s e' Q fun z' x l=>q z' x l
theorem Fm{is:List Nat}{vs:List SV}{ws:List aB}(d:z.d dL vs ws)(h:vs.length=is.length):is.length=(iZ ws).size:=by rw [iE,←h];exact d.len
theorem Ph{is:List Nat}{p:PV}{v:aB}(q:tV K is)(d:bF K.C z.X.W p v)(l:Nat)(es:List Expr)(k:Nat)(pos:Pos):Go z dU (K.wp A (rC (.Tuple (rN K.sl l is es) k pos) K.env v)) (RH is p st):=by
 cases p with
 |tup xs=>
  cases d with | mk a vs ep hw hl=>
  have d:z.d dL (xs.map .pv) vs:=bQ.s (by rw [iH] at hl;exact hl)
  exact ZR (t:=a) (Um l is q es) d fun e Q k=>assign_Tuple_tuple z.hA.handled ⟨_,z.R.val _ _ hw,rfl,ep,rfl⟩ ((Un l is es).trans (Fm d e)) (Uo l is es) k
 |_=>exact .no
noncomputable def aAp(l:Nat)(is:List Nat)(q:tV K is:=by exact LC rfl):PA K:=⟨RH is,fun e=>.Tuple (rN K.sl l is (xs e)) (xk e) e.pos,fun e _ _ z _ _ d=>Ph q d l _ _ _⟩
noncomputable def Fw(is:List Nat)(a:SV):M Unit:=lK a (RH is)
noncomputable def yH(l:Nat)(is:List Nat)(a:PE K)(q:tV K is:=by exact LC rfl)(h:bV a.c 0=false:=by rfl)(hw:∀(k:Nat) (p:Pos) (es:List Expr) (e:Expr),CP [.Tuple (rN K.sl l is es) k p] (a.r e) K.env=pure none:=by intro _ _ _ _;rfl):P1 K:=
 ⟨bd a.m fun v=>bd (Fw is v) fun _=>rt .next,fun t=>.Assign [.Tuple (rN K.sl l is (xs (yT t))) (xk (yT t)) (yT t).pos] (a.r (yE t)) t.pos,
  fun t A _ z=>(a.ok _ z).ru (u:=fun x Q=>K.wp A (rC (.Tuple (rN K.sl l is (xs (yT t))) (xk (yT t)) (yT t).pos) K.env x) fun _=>Q .next) (fun Q k=>Assign_Tuple k ((aOy _ _ _ _).trans (a.sw h _ _ _)) (hw _ _ _ _)) fun z₁ l₁ dx=>
   (Go.onP (T:=fun x=>K.wp A (rC (.Tuple (rN K.sl l is (xs (yT t))) (xk (yT t)) (yT t).pos) K.env x)) dx fun p dp=>Ph q dp l _ _ _).ru (u:=fun _ Q=>Q .next) (fun Q q=>q) fun z₂ l₂ _=>.rt (x:=.next) rfl fun Q q=>q⟩
noncomputable def QU(sc:Scope):Env:={scope:=sc,locals:=0,globals:=0,cells:=[]}
theorem Fd{ts:List Expr}{e:Expr}{env:Env}{sc:Scope}{r:Sem (Option (List Str))}(h:env.scope=sc)(q:CP ts e (QU sc)=r):CP ts e env=r:=by
 rw [←q];unfold CP Env.blockKind Env.kindOf;rw [h];rfl
theorem Yh(z:Z K A st)(ws:List aB):IsTup (z.s.heap.push (mI ws 0)) z.s.heap.objs.size ws.toArray:=⟨_,oA _ rfl,rfl,_,rfl⟩
theorem Xc{n k:Nat}(h:qD n 1000=true)(e:k=n):k≤fR:=e▸gM (aP (bR h) (bR rfl))
noncomputable def wF(l:Nat)(is:List Nat)(as:kM K){sc:Scope}(he:K.env.scope=sc)(q:tV K is:=by exact LC rfl)(hs:qD is.length 1000=true:=by rfl)
  (hw:∀(k k':Nat) (p p':Pos) (es es':List Expr),CP [.Tuple (rN K.sl l is es) k p] (.Tuple (as.r es') k' p') (QU sc)=pure none:=by intro _ _ _ _ _ _;rfl):P1 K:=
 ⟨bd as.m fun vs=>bd (vS is vs) fun _=>rt .next,fun t=>.Assign [.Tuple (rN K.sl l is (xs (yT t))) (xk (yT t)) (yT t).pos] (.Tuple (as.r (xs (yE t))) (xk (yE t)) (yE t).pos) t.pos,
  fun t A _ z=>(as.ok _ _ z).ru (u:=fun(ws:List aB) (Q:Flow→aG→Prop) s₁=>ws.length≤fR∧aI (aK K.C.prog K.C.w) A (rC (.Tuple (rN K.sl l is (xs (yT t))) (xk (yT t)) (yT t).pos) K.env (.ref s₁.heap.objs.size)) (fun _=>Q .next) nE {s₁ with heap:=s₁.heap.push (mI ws 0)}) (fun Q k=>Assign_Tuple (wpAny_Tuple k) rfl (Fd he (hw _ _ _ _ _ _))) fun {vs st₁ ws} z₁ l₁ ds=>
   .from (z₁.push (mI ws 0) z₁.s.toks) Z.le0 ((ZR (z:=z₁.push (mI ws 0) z₁.s.toks) (t:=z₁.s.heap.objs.size) (W:=fun Q s=>ws.length≤fR∧aI (aK K.C.prog K.C.w) A (rC (.Tuple (rN K.sl l is (xs (yT t))) (xk (yT t)) (yT t).pos) K.env (.ref z₁.s.heap.objs.size)) Q nE s) (Um l is q _) ds
    fun e Q k=>⟨Xc hs ((aS.len ds).symm.trans e),assign_Tuple_tuple z₁.hA.handled (Yh z₁ ws) ((Un l is _).trans (Fm (z:=z₁) ds e)) (Uo l is _) k⟩).ru (u:=fun _ Q=>Q .next) (w':=fun Q s=>ws.length≤fR∧aI (aK K.C.prog K.C.w) A (rC (.Tuple (rN K.sl l is (xs (yT t))) (xk (yT t)) (yT t).pos) K.env (.ref z₁.s.heap.objs.size)) (fun _=>Q .next) nE s) (fun Q q=>q) fun z₂ l₂ _=>.rt (x:=.next) rfl fun Q q=>q) fun Q q=>q⟩
theorem aPc{isr:List Nat}:(isr.reverse.map (nm K.sl)).reverse.map (fun n v=>bindName K.env n v)=isr.map fun i v=>bindName K.env (nm K.sl i) v:=by
 rw [List.map_reverse,iY,List.map_reverse,List.reverse_reverse];rfl
theorem Pg{isr:List Nat}{vs:List SV}{ws:List aB}(q:tV K isr)(hs:qD isr.length 1000=true)(ds:z.d dL vs ws):
  Go z dU (fun Q s₁=>ws.length≤fR∧aI (aK K.C.prog K.C.w) A (unpackItems (.ref s₁.heap.objs.size) (isr.reverse.map (nm K.sl)).length none) (fun items s₂=>aI (aK K.C.prog K.C.w) A (MX ((isr.reverse.map (nm K.sl)).reverse.map fun n=>bindName K.env n) items.reverse) Q nE s₂) nE {s₁ with heap:=s₁.heap.push (mI ws 0)}) (vS isr vs.reverse st):=
 .from (z.push (mI ws 0) z.s.toks) Z.le0 (ZR (z:=z.push (mI ws 0) z.s.toks) (t:=z.s.heap.objs.size) (W:=fun Q s=>ws.length≤fR∧aI (aK K.C.prog K.C.w) A (unpackItems (.ref z.s.heap.objs.size) (isr.reverse.map (nm K.sl)).length none) (fun items s₂=>aI (aK K.C.prog K.C.w) A (MX ((isr.reverse.map (nm K.sl)).reverse.map fun n=>bindName K.env n) items.reverse) Q nE s₂) nE s) (aBD isr q) (aS.rev ds) fun e Q k=>by
  replace e:=(List.length_reverse)▸e
  refine⟨Xc hs ((aS.len ds).symm.trans e),?_⟩
  rw [bT,List.length_reverse,Fm (z:=z) ds e,show(List.map (fun n=>bindName K.env n) (isr.reverse.map (nm K.sl)).reverse)=_ from aPc]
  exact unpackItems_tuple z.hA.handled (Yh z ws) k) fun Q q=>q
noncomputable def yG(l:Nat)(isr:List Nat)(as:kM K){sc:Scope}(he:K.env.scope=sc)(q:tV K isr:=by exact LC rfl)(hs:qD isr.length 1000=true:=by rfl)
  (hw:∀(k k':Nat) (p p':Pos) (es es':List Expr),CP [.Tuple (rN K.sl l isr.reverse es) k p] (.Tuple (as.r es') k' p') (QU sc)=pure (some (isr.reverse.map (nm K.sl))):=by intro _ _ _ _ _ _;rfl):P1 K:=
 ⟨bd as.m fun vs=>bd (vS isr vs.reverse) fun _=>rt .next,fun t=>.Assign [.Tuple (rN K.sl l isr.reverse (xs (yT t))) (xk (yT t)) (yT t).pos] (.Tuple (as.r (xs (yE t))) (xk (yE t)) (yE t).pos) t.pos,
  fun t A _ z=>(as.ok _ _ z).ru (fun Q k=>Assign_Tuple_swapped (wpAny_Tuple k) rfl (Fd he (hw _ _ _ _ _ _))) fun z₁ l₁ ds=>
   (Pg q hs ds).ru (u:=fun _ Q=>Q .next) (fun Q q=>q) fun z₂ l₂ _=>.rt (x:=.next) rfl fun Q q=>q⟩
end
end
section
open Sem (wp)
structure GJ(C:Cx)(c:Nat):Prop where
 ga:nN C.K (.ref (C.cls c)) "__getattribute__"=some (some (.builtin "object.__getattribute__"))
 gk:nN C.K (.ref (C.cls c)) "__getattr__"=some none
 sa:nN C.K (.ref (C.cls c)) "__setattr__"=some (some (.builtin "object.__setattr__"))
 hd:hasDictIn C.K (C.cls c)=true
 over:plainOver C.K (C.cls c)=true
structure SP(C:Cx)(c:Nat)(name:Str)(i:Nat):Prop where
 cls:GJ C c
 no:nN C.K (.ref (C.cls c)) name=some none
 fld:(C.fld c)[i]? =some name
 first:name∉(C.fld c).take i
theorem RB{name x:Str}(h:name≠x){v:aB}{t:Tok}(e:v= .str x t):v.isStr name=false:=by
 rw [e];show(x==name)=false;exact beq_eq_false_iff_ne.mpr h.symm
theorem aIB{name:Str}:∀ {ns:List Str} {es:List qC} {i:Nat} {e:qC},pN ns (es.map (·.key))→ns[i]? =some name→name∉ns.take i→es[i]? =some e→es.find? (·.key.isStr name)=some e:=by
 intro ns
 induction ns with
 |nil=>intro es i e h hi;exact aT hi
 |cons x ns ih=>
  intro es i e h hi hf he
  cases es with
  |nil=>exact h.elim
  |cons y es=>
   obtain⟨⟨t,hk⟩,hr⟩:=h
   have hk:y.key= .str x t:=hk
   cases i with
   |zero=>cases hi;obtain rfl:=bO he;rw [List.find?_cons_of_pos];rw [hk];exact beq_self_eq_true name
   |succ i=>
    rw [Hm,AL,not_or] at hf
    rw [List.find?_cons_of_neg (by rw [RB hf.1 hk];exact mK)]
    exact ih (i:=i) hr hi hf.2 he
theorem aID{name:Str}:∀ {ns:List Str} {es:List qC},pN ns (es.map (·.key))→name∉ns→es.find? (·.key.isStr name)=none:=by
 intro ns
 induction ns with
 |nil=>intro es h _;cases es with
  |nil=>rfl
  |cons=>exact h.elim
 |cons x ns ih=>
  intro es h hn
  cases es with
  |nil=>exact h.elim
  |cons y es=>
   obtain⟨⟨t,hk⟩,hr⟩:=h
   rw [AL,not_or] at hn
   rw [List.find?_cons_of_neg (by rw [RB hn.1 hk];exact mK)]
   exact ih hr hn.2
theorem Sw:∀ {ns:List Str} {es:List qC},pN ns (es.map (·.key))→es.any (·.refKey)=false:=by
 intro ns
 induction ns with
 |nil=>intro es h;cases es with
  |nil=>rfl
  |cons=>exact h.elim
 |cons x ns ih=>
  intro es h
  cases es with
  |nil=>exact h.elim
  |cons y es=>
   obtain⟨⟨t,hk⟩,hr⟩:=h
   have hk:y.key= .str x t:=hk
   rw [List.any_cons,ih hr,DictEntry.refKey,hk];rfl
theorem Xu{α:Type}{l:List α}{k i:Nat}{x:α}(h:l[i]? =some x)(hi:i < k):(l.take k)[i]? =some x:=by rw [TJ,if_pos hi];exact h
theorem Tg{l:List Str}{k i:Nat}{x:Str}(h:x∉l.take i):x∉(l.take k).take i:=fun q=>h (by
 rw [List.take_take] at q;exact List.take_subset_take_left l (Nat.min_le_left ..) q)
section
variable{K:KK}{A:aR}{st:St}{z:Z K A st}
theorem aHQ{C:Cx}{X:Xt}{n c i:Nat}{fs:List SV}{o:Obj}{name:Str}{x:SV}(f:sE C c fs.length (fP C X n fs) o)(F:SP C c name i)(e:fs[i]? =some x):∃ v,lookIn name o=some (some v)∧fK C X n x v:=by
 cases f with | mk es ep hc hd hk hv=>
 obtain⟨v,hv,dv⟩:=hv.get e
 refine⟨v,?_,dv⟩
 replace hv:=(iW)▸hv
 cases he:es.toList[i]? with
 |none=>rw [he] at hv;exact aT hv
 |some e'=>
  rw [he] at hv;obtain rfl:=bO hv
  unfold lookIn;rw [hd];dsimp only
  exact(aIB hk (Xu F.fld (List.getElem?_eq_some_iff.mp e).1) (Tg F.first) he).symm▸rfl
theorem Rr{C:Cx}{c k:Nat}{p:List aB→Prop}{o:Obj}{name:Str}(f:sE C c k p o)(hn:name∉C.fld c):lookIn name o=some none:=by
 cases f with | mk es ep hc hd hk hv=>
 unfold lookIn;rw [hd];dsimp only
 rw [aID hk fun q=>hn (List.take_subset _ _ q)];dsimp only
 rw [Sw hk];rfl
theorem QV{x:SV}{v:aB}(d:z.d dV x v):handedIn v=true:=by
 cases x with
 |ref=>cases d.2;rfl
 |pv p=>cases p with
  |none=>subst d;rfl
  |bool=>subst d;rfl
  |_=>cases d <;> rfl
theorem EW{h:Heap}{l dx A:Addr}{o:Obj}(hi:h.get? l=some (instObj A dx))(ho:h.get? dx=some o):InstAt h l (instObj A dx) A (some o):=⟨hi,rfl,rfl,ho⟩
noncomputable def HI(C:Cx)(name:Str)(tab:List (Nat×Nat)):Prop:=∀ c i,tab.lookup c=some i→SP C c name i
theorem aQQ{C:Cx}{name:Str}:HI C name []:=fun _ _ e=>nomatch e
noncomputable def qW(K:KK)(name:Str)(f:SV→M SV):Prop:=∀ {A:aR} {st:St} (z:Z K A st) {a:SV} {x:aB},z.d dV a x→Go z dV (K.wp A (getAttr x name true)) (f a st)
noncomputable def eZ{α β:Type}(o:Option α)(k:α→M β):M β:=match o with
 |some a=>k a
 |none=>er
theorem Go.onSome{α β δ:Type}{D:Dn β δ}{w:WP δ}{o:Option α}{k:α→M β}(h:∀ a,o=some a→Go z D w (k a st)):Go z D w (eZ o k st):=by
 cases o with
 |none=>exact .er
 |some a=>exact h a rfl
noncomputable def fS(tab:List (Nat×Nat))(a:SV):M SV:=KA a fun c fs=>eZ (tab.lookup c) fun i=>eZ fs[i]? rt
theorem Vy{name:Str}{tab:List (Nat×Nat)}(T:HI K.C name tab):qW K name (fS tab):=fun z a x d=>
 .onO2 (T:=fun x=>K.wp _ (getAttr x name true)) d fun c fs o=>.onSome fun i qi=>.onSome fun v qv=>by
  cases o with | mk l dx o hi ho f=>
  have F:=T c i qi
  obtain⟨y,hy,dy⟩:=aHQ f F qv
  exact .ret (z.tok (z.s.toks+1)) Z.le0 dy fun Q q=>get_value z.R.kIn (EW hi ho) F.cls.ga (findObj_own F.cls.hd F.no rfl hy) (QV (z:=z) dy) q
theorem aBs{e:Expr}{env:Env}{name:Str}{pos:Pos}(h:bV (sT e) 3=false):eval (.Attribute e name pos) env=(do
   let o ←eval e env
   standAt pos.atName
   let r ←holding [o] (getAttr o name true)
   letTemporaryGo e o r
   pure r):=by
 rw [arm_eval_Attribute,Jg h]
noncomputable def aM{name:Str}{f:SV→M SV}(hf:qW K name f)(a:PE K)(h:bV a.c 2=false:=by rfl):PE K:=⟨bd a.m f,fun e=>.Attribute (a.r (x1 e)) name e.pos,3,fun _=>rfl,
 fun e _ _ z=>(a.ok _ z).ru (fun Q q=>Attribute_any_ q (aBs (by rw [a.hc];exact h))) fun z₁ l₁ dx=>hf z₁ dx⟩
noncomputable def WK(c:Nat)(p:PV)(a:SV):M SV:=KA a fun c' _=>gd (bV c c') (rt (.pv p))
theorem aLQ{name:Str}{c:Nat}{v:aB}{p:PV}(F:GJ K.C c)(hf:nN K.C.K (.ref (K.C.cls c)) name=some (some v))(hg:specialIn K.C.K v "__get__"=some none)(hc:copiedNames.contains name=false)(hn:name∉K.C.fld c)(hd:∀ W,bF K.C W p v):qW K name (WK c p):=fun z a x d=>
 .onO2 (T:=fun x=>K.wp _ (getAttr x name true)) d fun c' fs o=>.gd fun qc=>by
  cases sH qc
  cases o with | mk l dx o hi ho f=>
  have dv:z.d dV (.pv p) v:=hd _
  exact .ret (z.tok (z.s.toks+1)) Z.le0 dv fun Q q=>get_value z.R.kIn (EW hi ho) F.ga (findObj_cls F.hd hf hg (QV dv) hc (Rr f hn)) (QV dv) q
theorem aMa{A:aR}{n:Nat}(hA:lG A (n+1)):lG A.in1 n:=⟨hA.handled,(hA.mono (oG n)).depth,aP (lM (rm (k:=1) (bR rfl)) 200) hA.units⟩
noncomputable def Dp(c:Nat)(f:Fn)(a:SV):M SV:=KA a fun c' _=>gd (bV c c') (lV f [a])
theorem aLR{n:Nat}{name:Str}{c:Nat}{p fget:Addr}{rest:List aB}{f:Fn}(hn:n+1≤K.n)(F:GJ K.C c)(ha:nN K.C.K (.ref (K.C.cls c)) name=some (some (.ref p)))(hg:specialIn K.C.K (.ref p) "__get__"=some (some (.builtin "property.__get__")))(ht:takesIn K.C.K (.ref p)=some true)
  (hp:recIn K.C.K p "property"=some (.ref fget::rest)) (hf:RF K.C n fget f):qW K name (Dp c f):=fun {A st} z a x d=>
 .onO2 (T:=fun x=>K.wp _ (getAttr x name true)) d fun c' fs o=>.gd fun qc=>by
  cases sH qc
  cases o with | mk l dx o hi ho f'=>
  have da:(z.tok (z.s.toks+1)).d dV a (.ref l):=d
  exact fun v s e Q q=>get_bind z.R.kIn (EW hi ho) F.ga (findObj_data (by have:=F.hd;unfold hasDictIn at this;obtain⟨cd,hc,_⟩:=any_some this;rw [hc];rfl) ha hg ht) F.gk (wpAny_call (prop_get (s:={z.s with toks:=z.s.toks+1}) z.R.kIn hp
   (NN (IW (z:=z.tok (z.s.toks+1)) hf (aMa (z.hA.mono hn)) (show(z.tok (z.s.toks+1)).d dL [a] [.ref l] from .one da) v s e (fun y s'=>aI (aK K.C.prog K.C.w) A (handedOut y) Q nE s') fun z' y l dy=>by rw [handedOut_of (QV dy)];exact bG (q z' y l dy)) fun v s' h=>h)))
theorem aQC{M:jR}{s:aG}{f:aB}{as:kM K}{es:List Expr}{pos:Pos}{Q:Args→aG→Prop}(h:aI M A (pX (gF pos (fO (as.r es) K.env))) (fun vs s'=>Q ⟨vs,[]⟩ s') nE s):aI M A (evalArgs f true (gF pos (fO (as.r es) K.env)) []) Q nE s:=by
 have hp:=as.first es pos
 cases q:gF pos (fO (as.r es) K.env) with
 |nil=>
  rw [q] at h
  exact aF (fX h fun vs s' h'=>pG (aF (bG (aF (bG (bG h'))))))
 |cons t r=>
  obtain⟨b,x⟩:=t
  cases (show b=false from hp _ _ q)
  rw [q] at h;exact SG h
theorem ZP{as:kM K}{es:List Expr}{pos:Pos}{f:List SV→M SV}{fv:aB}{W:Args→WP aB}{w':WP aB}(hk:∀ Q,aI (aK K.C.prog K.C.w) A (evalArgs fv true (gF pos (fO (as.r es) K.env)) []) (fun a s₁=>W a Q s₁) nE z.s→w' Q z.s)(h:∀ {st₁:St} {vs:List SV} {ws:List aB} (z₁:Z K A st₁),z.le z₁→z₁.d dL vs ws→Go z₁ dV (W ⟨ws,[]⟩) (f vs st₁)):Go z dV w' (bd as.m f st):=
 (as.ok es pos z).ru (u:=fun ws=>W ⟨ws,[]⟩) (fun Q q=>hk Q (aQC (as:=as) q)) fun z₁ l d=>h z₁ l d
theorem Ot{n:Nat}{fa:Addr}{f:Fn}{vs:List SV}{ws:List aB}(hn:n≤K.n)(hf:RF K.C n fa f)(d:z.d dL vs ws):Go z dV (K.wp A (call (.ref fa) ws)) (lV f vs st):=fun v s e Q q=>
 wpAny_call (NN (IW hf (z.hA.mono hn) d v s e Q q) fun _ _ h=>h)
noncomputable def cI{n:Nat}{fa:Addr}{f:Fn}(i:Nat)(g:Gl K.C (nm K.sl i) (.ref fa))(hi:GO K.C fa)(hf:RF K.C n fa f)(as:kM K)(hn:n≤K.n:=by exact bR rfl)(h:eI K.sl i .globalImplicit=true:=by rfl):PE K:=
 ⟨bd as.m fun vs=>lV f vs,fun e=>.Call (.Name (nm K.sl i) (xq e)) (as.r (xs e)) [] e.pos,2,fun _=>rfl,fun e A st z=>by
  obtain⟨o,fd,ho,hd⟩:=hi
  exact ZP (W:=fun a Q s₁=>(s₁.heap.get? fa=some o∧o.data= .func fd)∧aI (aK K.C.prog K.C.w) A (call (.ref fa) a.pos a.kw) Q nE s₁) (fun Q q=>xX rfl (nX h g (Calls.callWith_function (o:=o) (fd:=fd) (fX q fun a s₁ h=>h)))) fun z₁ l ds=>(Ot hn hf ds).imp fun Q q=>⟨⟨z₁.R.keeps0 _ _ ho,hd⟩,q⟩⟩
end
end
section
open Sem (wp)
structure CZ(C:Cx)(c:Nat)(name:Str)(fa:Addr):Prop where
 cls:GJ C c
 fn:nN C.K (.ref (C.cls c)) name=some (some (.ref fa))
 ty:typeIn C.K (.ref fa)=some (.type "function")
 no:name∉C.fld c
 is:GO C fa
structure MF(C:Cx)(c:Nat)(fI:Addr):Prop where
 mkI:makesIn C.K (C.cls c)=true
 init:nN C.K (.ref (C.cls c)) "__init__"=some (some (.ref fI))
 ty:typeIn C.K (.ref fI)=some (.type "function")
 keep:keepIn C.K (.ref (C.cls c))=true
noncomputable def JB(c:Nat)(a:SV):M Unit:=KA a fun c' _=>gd (bV c c') (rt ())
section
variable{K:KK}{A:aR}{st:St}{z:Z K A st}{n c:Nat}{name:Str}{fa:Addr}{f:Fn}
theorem Pa(d:z.d dV a x):Go z dU (fun Q s=>(∃ fs,GZ K z c fs x)∧s=z.s∧Q () s) (JB c a st):=
 .onO2 (T:=fun x Q s=>(∃ fs,GZ K z c fs x)∧s=z.s∧Q () s) d fun c' fs o=>.gd fun q=>.same trivial fun Q q'=>⟨⟨fs,sH q▸o⟩,rfl,q'⟩
theorem Sm(h:(apos.endLine==pos.line)=true):methodCallPos true o env apos pos=pure pos:=by unfold methodCallPos;simp [h]
theorem aMn(F:CZ K.C c name fa)(f:sE K.C c k p o):shadowIn (some o) name=some false:=by
 show(lookIn name o).map _=_
 rw [Rr f F.no];rfl
theorem aQE{M:jR}(hl:(apos.endLine==pos.line)=true)(hfew:JM k args kws=true)
  (hg:∀(pl:Sem Bool) (Q:aB×List aB→aG→Prop),Q (.ref fa,[x]) s→aI M A (getMethod x name pl) Q E s) (h:aI M A (oR pos (.ref fa) [x] args kws) Q E s):aI M A (JL o name apos pos env x k args kws) Q E s:=by
 unfold JL
 refine(hfew).symm▸?_
 exact aF (pG (hg _ _ (aF (dW (Sm hl) h))))
theorem Ol(F:CZ K.C c name fa)(o:GZ K z c fs x)(h:Q (.ref fa,[x]) z.s):aI (aK K.C.prog K.C.w) A (getMethod x name pl) Q nE z.s:=by
 cases o with | mk l dx o hi ho f'=>exact method_fn z.R.kIn (EW hi ho) F.cls.ga F.cls.gk F.fn F.ty (aMn F f') h
noncomputable def gX(F:CZ K.C c name fa)(rf:RF K.C n fa f)(a:PE K)(as:kM K)(hn:n≤K.n:=by exact bR rfl)(h:bV a.c 2=false:=by rfl)(hk:bX as.k 30=true:=by rfl):PE K:=
 ⟨bd a.m fun x=>bd (JB c x) fun _=>bd as.m fun vs=>lV f (x::vs),fun e=>.Call (.Attribute (a.r (x1 (x1 e))) name (xq e)) (as.r (xs e)) [] (nM e),4,fun _=>rfl,fun e A st z=>by
  obtain⟨o,fd,ho,hd⟩:=F.is
  refine(a.ok _ z).ru (u:=fun x Q s=>aI (aK K.C.prog K.C.w) A (JL (a.r (x1 (x1 e))) name (xq e) (nM e) K.env x _ (gF (nM e) (fO (as.r (xs e)) K.env)) (backToKw (nM e) (PL [] K.env))) Q nE s)
   (fun Q q=>by rw [KK.wp,arm_eval_Call,a.ab h];exact aF (fX q fun x s q=>aF (Gj q))) fun {a₁ st₁ x} z₁ l₁ dx=> ?_
  refine(Pa dx).ru (u:=fun _=>K.wp A (oR (nM e) (.ref fa) [x] (gF (nM e) (fO (as.r (xs e)) K.env)) [])) (fun Q q=>aQE (EE e) (as.few hk _ _) (fun pl Q k=>q.1.elim fun fs o=>Ol F o k) q.2.2) fun z₂ l₂ _=> ?_
  exact ZP (fun Q q=>Calls.callWith_function q) fun z₃ l₃ ds=>(Ot hn rf (z₃.cons ((l₂.t l₃).v dx) ds)).imp fun Q q=>⟨⟨z₃.R.keeps0 _ _ ho,hd⟩,q⟩⟩
noncomputable def QF(c:Nat)(f:Fn)(args:List SV):M SV:=fun st=>match lV f (.ref st.cells.length::args) {st with cells:=st.cells++[.inst c []]} with
 |some (.pv .none,st')=>some (.ref st.cells.length,st')
 |_=>none
noncomputable def Z.insX(z:Z K A st):Xt:=(z.X.add (sz z) (.cell st.cells.length) z.X.ρ z.X.δ).add (sz z+1) (.cell st.cells.length) (pZ z.X.ρ st.cells.length (sz z+1)) (pZ z.X.δ st.cells.length (sz z))
noncomputable def Z.insH(z:Z K A st)(c:Nat):Heap:=(z.s.heap.push emptyDict).push (instObj (K.C.cls c) (sz z))
theorem Z.insG(z:Z K A st)(c:Nat):(z.insH c).get? (sz z)=some emptyDict∧(z.insH c).get? (sz z+1)=some (instObj (K.C.cls c) (sz z)):=
 ⟨gW _ (oA _ rfl),by unfold Z.insH;rw [←Heap.size_push z.s.heap emptyDict];exact oA _ rfl⟩
theorem Tr.trans{X Y Z:Xt}(a:Tr ex X h n Y h' m)(b:Tr ex Y h' m Z h'' k):Tr ex X h n Z h'' k:=
 ⟨a.low.trans b.low,fun x r e q=>let p:=a.keep x r e q;let p':=b.keep x r p.1 q;⟨p'.1,p'.2.trans p.2⟩,fun x r e=>(b.new x r e).elim (fun q=>(a.new x r q.1).imp id fun v=>v.same (b.keep x r q.1 q.2).2) .inr⟩
theorem Z.insTr(z:Z K A st)(c:Nat):Tr (fun _=>false) z.X z.s.heap st.cells.length z.insX (z.insH c) (st.cells++[SO.inst c []]).length:=by
 have T:Tr (fun _=>false) z.X z.s.heap st.cells.length (z.X.add (sz z) (.cell st.cells.length) z.X.ρ z.X.δ) (z.s.heap.push emptyDict) st.cells.length:=
  .add z.R.val (z.R.fresh (cZ _)) (fun _ _ e=>gW _ e) ⟨_,oA _ rfl⟩ (cZ _) fun _ _=>rfl
 refine T.trans (.add (fun a r e=>(T.new a r e).elim (fun q=>(z.R.val a r q.1).same (T.keep a r q.1 q.2).2) id) ?_ (fun _ _ e=>gW _ e) ⟨_,(z.insG c).2⟩ (by rw [xC];exact oG _) RM)
 rw [HM (TR _)];exact z.R.fresh (oG _)
noncomputable def Z.ins(z:Z K A st)(c:Nat):Z K A ⟨st.loc,st.cells++[.inst c []]⟩:=⟨z.insX,{z.s with heap:=z.insH c},z.hA,(z.insTr c).rel z.R (z.R.still.to _ z.s.toks) (fun _=>rfl) rfl rfl (fun _=>rfl)
 (XA (fun _=>rfl) RM (.mk emptyDict (by show z.insX.W (pZ _ _ _ _)=_;rw [qA];exact DL) (by show z.insX.W (pZ _ _ _ _)=_;rw [qA];exact(HM (TR _).symm).trans DL) (by show pZ _ _ _ _≠pZ _ _ _ _;rw [qA,qA];exact TR _)
  (by show(z.insH c).get? (pZ _ _ _ _)=some (instObj _ (pZ _ _ _ _));rw [qA,qA];exact(z.insG c).2) (by show(z.insH c).get? (pZ _ _ _ _)=_;rw [qA];exact(z.insG c).1) (.mk #[] 0 ⟨rfl,rfl,rfl⟩ rfl (trivial:pN (List.take 0 _) []) rfl)))⟩
theorem aGq(hn:n+1≤K.n)(F:MF K.C c fI)(rf:RF K.C n fI f)(d:z.d dL vs ws):Go z dV (K.wp A (call (.ref (K.C.cls c)) ws)) (QF c f vs st):=by
 intro v s e Q q
 unfold QF at e
 cases ce:lV f (.ref st.cells.length::vs) {st with cells:=st.cells++[.inst c []]} with
 |none=>rw [ce] at e;exact aT e
 |some p=>
  obtain⟨r,st'⟩:=p
  rw [ce] at e
  have dself:(z.ins c).d dV (.ref st.cells.length) (.ref (sz z+1)):=⟨by show _ < (st.cells++[_]).length;rw [xC];exact yA _,congrArg qE qA.symm⟩
  have le:z.le (z.ins c):=(z.insTr c).le (fun _=>rfl) fun _=>rfl
  have hA:=z.hA.mono hn
  have hA':lG (A.under (.builtin "type.__call__" ⟨.ref (K.C.cls c)::ws,[]⟩)) n:=⟨hA.handled,aP (rm (bR rfl)) hA.depth,aP (lM (rm (bR rfl)) 200) hA.units⟩
  refine wpAny_call (make_core (makes_of z.R.kIn F.mkI) (looks_findIn z.R.kIn F.init) (fun self=>bind_fn z.R.kIn self F.ty) (.inl rfl) (NN (IW rf hA' ((z.ins c).cons dself (le.l d)) r st' ce (fun y s'=>y= .none∧∀ _:y= .none,Q (.ref (sz z+1)) s') fun z' y l dy=> ?_) fun v s' h=> ?_))
  ·cases r with
   |ref=>exact aT e
   |pv p=>cases p with
    |none=>obtain⟨rfl,rfl⟩:=gA e;subst dy;exact⟨rfl,fun _=>q z' _ (le.t l) (l.v dself)⟩
    |_=>exact aT e
  ·exact⟨h.1,h.2 h.1⟩
noncomputable def mO(i:Nat)(g:Gl K.C (nm K.sl i) (.ref (K.C.cls c)))(F:MF K.C c fI)(rf:RF K.C n fI f)(as:kM K)(hn:n+1≤K.n:=by exact bR rfl)(h:eI K.sl i .globalImplicit=true:=by rfl):PE K:=
 ⟨bd as.m fun vs=>QF c f vs,fun e=>.Call (.Name (nm K.sl i) (xq e)) (as.r (xs e)) [] e.pos,2,fun _=>rfl,fun e A st z=>
  ZP (fun Q q=>xX rfl (nX h g (callWith_of (by rw [as.noStar];rfl) (keeps_K F.keep) q))) fun z₁ l ds=>(aGq hn F rf ds).imp fun Q q=>⟨z₁.R.kIn,q⟩⟩
end
end
section
open Sem (wp)
section
variable{K:KK}{A:aR}{st:St}{z:Z K A st}
theorem aFm(hc:o.ExactDict)(hd:o.data= .dict es ep):o=dictOf es.toList ep:=by
 obtain⟨c,d,dt,sl⟩:=o
 obtain⟨rfl,rfl,rfl⟩:=hc
 subst hd
 rfl
theorem aJm{C:Cx}{x Cl:Addr}(D:s.heap.get? dx=some (dictOf es ep))(X:C.K.In s.heap)
  (I:InstAt s.heap x ox Cl (some od)) (hdx:ox.dict=some dx) (hp:plainOver C.K Cl=true) (ht:takerIn C.K Cl name=some none) (hh:(clsIn C.K Cl).any (·.hasDict)=true)
  (href:es.any (·.refKey)=false) (e:GY name (yF C.w.params name) (.str name s.toks) v (dictOf es ep)=dictOf es' ep') (hz:es'.length≤1000)
  (h:R (.ok (.ret .none)) {s with heap:=s.heap.update dx (GY name (yF C.w.params name) (.str name s.toks) v),toks:=s.toks+1}):
  codeAny (aK C.prog C.w) A (.call (.builtin "object.__setattr__") ⟨[.ref x,.str name tk,v],[]⟩) R s:=by
 refine osa_open X I hp ht fun b=> ?_
 obtain⟨cd,hc,hd'⟩:=any_some hh
 obtain⟨hx,hcl,hn,-⟩:=I
 obtain⟨oc,odi,oda,osl⟩:=ox
 dsimp only at hcl hdx
 subst hcl hdx
 refine aF (bG (aF (aF (wpAny_loadPart hx (aF ((looks_clsIn X hc).here ?_))))))
 refine(hd').symm▸?_
 refine bG (aF (bG (aF ?_)))
 refine aF (aF (wpAny_askSetting (bG (aF (wpAny_mkText (aF (wpAny_loadPart D ?_)))))))
 dsimp only
 have c:(!es.toArray.any (·.key.isStr name) && es.toArray.any (·.refKey))=false:=by
  rw [←Array.any_toList,←Array.any_toList]
  simp only [href,RW]
 rw [aRefKeyMayBeTheName_at,c]
 refine wpAny_updatePart D ?_
 have D':(s.heap.update dx (GY name (yF C.w.params name) (.str name s.toks) v)).get? dx=some (dictOf es' ep'):=by
  rw [←e]
  exact uQ _ D (by rw [e];rfl)
 refine aF (Gh D' (pastItsLine_dict (GS (gM (ub hz rfl)))) ?_)
 exact bG h
noncomputable def OP(fs:List SV)(i:Nat)(v:SV):Option (List SV):=match bX i fs.length with
 |true=>some (fs.set i v)
 |false=>match bV i fs.length with
  |true=>some (fs++[v])
  |false=>none
theorem aJE:∀ {ns:List Str} {es:List qC} {i:Nat},pN ns (es.map (·.key))→ns[i]? =some name→name∉ns.take i→
  (putL name hsh key v es).map (·.key)=es.map (·.key)∧(putL name hsh key v es).map (·.val)=(es.map (·.val)).set i v:=by
 intro ns
 induction ns with
 |nil=>intro es i h hi;exact aT hi
 |cons x ns ih=>
  intro es i h hi hf
  cases es with
  |nil=>exact h.elim
  |cons y es=>
   obtain⟨⟨t,hk⟩,hr⟩:=h
   have hk:y.key= .str x t:=hk
   cases i with
   |zero=>obtain rfl:=bO hi;rw [putL,if_pos ((hk).symm▸beq_self_eq_true _)];exact⟨rfl,rfl⟩
   |succ i=>
    rw [Hm,AL,not_or] at hf
    obtain⟨a,b⟩:=ih hr hi hf.2
    rw [putL,if_neg (by rw [RB hf.1 hk];exact mK)]
    exact⟨congrArg (y.key:: ·) a,congrArg (y.val:: ·) b⟩
theorem aJF:∀ {ns:List Str} {es:List qC},pN ns (es.map (·.key))→name∉ns→putL name hsh key v es=es++[⟨hsh,key,v⟩]:=by
 intro ns
 induction ns with
 |nil=>intro es h _;cases es with
  |nil=>rfl
  |cons=>exact h.elim
 |cons x ns ih=>
  intro es h hn
  cases es with
  |nil=>exact h.elim
  |cons y es=>
   obtain⟨⟨t,hk⟩,hr⟩:=h
   rw [AL,not_or] at hn
   rw [putL,if_neg (by rw [RB hn.1 hk];exact mK),ih hr hn.2];rfl
theorem pN.len:∀ {ns:List Str} {vs:List aB},pN ns vs→ns.length=vs.length:=by
 intro ns
 induction ns with
 |nil=>intro vs h;cases vs with
  |nil=>rfl
  |cons=>exact h.elim
 |cons x ns ih=>intro vs h;cases vs with
  |nil=>exact h.elim
  |cons v vs=>exact congrArg lN (ih h.2)
theorem pN.snoc:∀ {ns:List Str} {vs:List aB},pN ns vs→pN (ns++[x]) (vs++[.str x t]):=by
 intro ns
 induction ns with
 |nil=>intro vs h;cases vs with
  |nil=>exact⟨⟨t,rfl⟩,trivial⟩
  |cons=>exact h.elim
 |cons y ns ih=>intro vs h;cases vs with
  |nil=>exact h.elim
  |cons v vs=>exact⟨h.1,ih h.2⟩
theorem aJG{es:Array qC}(F:SP C c name i)(hk:pN ((C.fld c).take fs.length) (es.toList.map (·.key)))(hv:fP C X n fs (es.toList.map (·.val)))(e:OP fs i v=some fs')(d:fK C X n v y):
  pN ((C.fld c).take fs'.length) ((putL name hsh (.str name t) y es.toList).map (·.key))∧fP C X n fs' ((putL name hsh (.str name t) y es.toList).map (·.val)):=by
 have e:(match bX i fs.length with | true=>some (fs.set i v) | false=>(match bV i fs.length with | true=>some (fs++[v]) | false=>none))=some fs':=e
 cases q:bX i fs.length with
 |true=>
  rw [q] at e;obtain rfl:=bO e
  have hlt:=Nat.blt_eq.mp q
  obtain⟨e1,e2⟩:=aJE hk (Xu F.fld hlt) (Tg F.first)
  refine(e1).symm▸(e2).symm▸(List.length_set).symm▸?_
  exact⟨hk,aS.set d i hv⟩
 |false=>
  replace e:=(q)▸e
  cases q':bV i fs.length with
  |false=>rw [q'] at e;exact aT e
  |true=>
   rw [q'] at e;obtain rfl:=bO e
   have heq:=sH q'
   rw [aJF hk ((heq)▸F.first),cW,cW,fH]
   refine⟨?_,aS.app hv (.one d)⟩
   rw [show fs.length+ [v].length=fs.length+1 from rfl,Hk,←heq,F.fld,heq]
   exact hk.snoc
noncomputable def Cy{α:Type}(a:SV)(k:Nat→Nat→List SV→M α):M α:=fun st=>match a with
 |.ref i=>match st.cells[i]? with
  |some (.inst c fs)=>k i c fs st
  |_=>none
 |_=>none
theorem Go.onOC{α δ:Type}{D:Dn α δ}{T:aB→WP δ}{k:Nat→Nat→List SV→M α}(d:z.d dV a x)(h:∀ i c fs,Hc K.C z.X i c z.s.heap (sE K.C c fs.length (fP K.C z.X st.cells.length fs))→Go z D (T (.ref (z.X.ρ i))) (k i c fs st)):Go z D (T x) (Cy a k st):=by
 cases a with
 |pv=>exact .no
 |ref i=>
  unfold Mine.Cy;dsimp only
  cases q:st.cells[i]? with
  |none=>exact .no
  |some c=>cases c with
   |inst c fs=>cases d.2;exact h i c fs (z.R.cells _ _ q)
   |_=>exact .no
noncomputable def fN(tab:List (Nat×Nat))(a v:SV):M Unit:=Cy a fun k c fs=>eZ (tab.lookup c) fun i=>eZ (OP fs i v) fun fs' st=>some ((),fG st k (.inst c fs'))
noncomputable def MM(K:KK)(name:Str)(f:SV→SV→M Unit):Prop:=∀ {A:aR} {st:St} (z:Z K A st) {a b:SV} {x y:aB},z.d dV a x→z.d dV b y→Go z dU (K.wp A (setAttr x name y)) (f a b st)
theorem aMd{name:Str}{tab:List (Nat×Nat)}(T:HI K.C name tab)(hsz:∀ c,(K.C.fld c).length≤20):MM K name (fN tab):=fun {A st} z a b x y dx dy=>
 .onOC (T:=fun x=>K.wp A (setAttr x name y)) dx fun k c fs I=>.onSome fun i qi=>.onSome fun fs' qf=>by
  have F:=T c i qi
  cases I with | mk o hw hw' ne hi ho f=>
  cases f with | mk es ep hc hd hk hv=>
  obtain⟨h1,h2⟩:=aJG F hk hv qf dy
  have ho':=aFm hc hd▸ho
  have hput:GY name (yF K.C.w.params name) (.str name (z.s.toks+1)) y (dictOf es.toList ep)=dictOf (putL name (yF K.C.w.params name) (.str name (z.s.toks+1)) y es.toList) (putN name es.toList ep):=putName_dict ..
  have hlen:(putL name (yF K.C.w.params name) (.str name (z.s.toks+1)) y es.toList).length≤1000:=by
   have:=h1.len
   rw [CX,bT] at this
   exact(this)▸aP (Nat.min_le_right ..) (aP (hsz c) (bR rfl))
  have D':(z.s.heap.update (z.X.δ k) (GY name (yF K.C.w.params name) (.str name (z.s.toks+1)) y)).get? (z.X.δ k)=some (dictOf (putL name (yF K.C.w.params name) (.str name (z.s.toks+1)) y es.toList) (putN name es.toList ep)):=by
   rw [←hput];exact uQ _ ho' (by rw [hput];rfl)
  have sb:=sF z.s.heap (z.X.δ k) (GY name (yF K.C.w.params name) (.str name (z.s.toks+1)) y)
  have ht:takerIn K.C.K (K.C.cls c) name=some none:=by unfold takerIn;rw [F.no];rfl
  refine .setC (x:=()) _ (z.s.toks+1+1) hw' sb ⟨_,D'⟩ (.mk _ hw hw' ne ((sb.2 _ ne).trans hi) D' (.mk _ _ ⟨rfl,rfl,rfl⟩ rfl h1 (by simpa using h2))) trivial fun Q q=>set_plain z.R.kIn (EW hi ho) F.cls.sa ?_
  exact aJm ho' z.R.kIn (EW hi ho) rfl F.cls.over ht F.cls.hd (Sw hk) hput hlen q
noncomputable def fB(hf:MM K name f)(a o:PE K)(h:bV a.c 0=false:=by rfl):P1 K:=
 ⟨bd a.m fun c=>bd o.m fun x=>bd (f x c) fun _=>rt .next,fun t=>.Assign [.Attribute (o.r (x1 (yT t))) name (yT t).pos] (a.r (yE t)) t.pos,
  fun t _ _ z=>(a.ok _ z).ru (fun Q q=>plainObj_wpAny_Assign_Attribute q (a.sw h _ _ _)) fun z₁ l₁ dc=>(o.ok _ z₁).bd fun z₂ l₂ dx=>(hf z₂ dx (l₂.v dc)).ru (fun Q q=>q) fun z₃ l₃ _=>.rt rfl fun Q q=>q⟩
noncomputable def wI(K:KK)(f:SV→SV→SV→M Unit):Prop:=∀ {A:aR} {st:St} (z:Z K A st) {a b c:SV} {x y u:aB},z.d dV a x→z.d dV b y→z.d dV c u→Go z dU (K.wp A (rX x y u)) (f a b c st)
noncomputable def lO(hf:wI K f)(a o i:PE K)(h:bV a.c 0=false:=by rfl):P1 K:=
 ⟨bd a.m fun c=>bd o.m fun x=>bd i.m fun y=>bd (f x y c) fun _=>rt .next,fun t=>.Assign [.Subscript (o.r (x1 (yT t))) (i.r (x2 (yT t))) (yT t).pos] (a.r (yE t)) t.pos,
  fun t _ _ z=>(a.ok _ z).ru (fun Q q=>wpAny_Assign_Subscript q (a.sw h _ _ _)) fun z₁ l₁ dc=>(o.ok _ z₁).bd fun z₂ l₂ dx=>(i.ok _ z₂).bd fun z₃ l₃ dy=>(hf z₃ (l₃.v dx) dy ((l₂.t l₃).v dc)).ru (fun Q q=>q) fun z₄ l₄ _=>.rt rfl fun Q q=>q⟩
theorem aGo(q:lP K i):Go z dV (K.wp A (loadName K.env (nm K.sl i))) (aA i st):=
 .getLoc fun v hl=>by
  have F:=z.R.fr
  rcases q with q | ⟨q,_⟩
  ·obtain⟨m,hns,hs⟩:=F.ns
   obtain⟨y,hy,dy⟩:=hs i _ v (kF q) hl
   exact .same dy fun Q h=>wpAny_loadName_local F.st.kind (F.st.kinds (kF q)) hns hy h
  ·obtain⟨c,v₀,hc,hW,ic,hs⟩:=F.cell i _ (kF q)
   obtain⟨y,e,dy⟩:=hs v hl
   exact .same dy fun Q h=>wpAny_loadName_cell F.st.kind (F.st.kinds (kF q)) hc (e▸ic) h
noncomputable def nD(i:Nat)(hf:gG K (BR op) f)(a:PE K)(q:lP K i:=by exact .inl rfl):P1 K:=
 ⟨bd (aA i) fun x=>bd a.m fun y=>bd (f x y) fun c=>bd (tE i c) fun _=>rt .next,fun t=>.AugAssign (.Name (nm K.sl i) (yT t).pos) op (a.r (yE t)) t.pos,
  fun t A _ z=>(aGo q).ru (fun Q h=>wpAny_AugAssign_Name h) fun z₁ l₁ dx=>(a.ok _ z₁).bd fun z₂ l₂ dy=>(hf z₂ (l₂.v dx) dy).ru (fun Q h=>h) fun z₃ l₃ dr=>IX q dr (rfl:dF _ _ _ Fl.next Flow.next) fun Q k=>k⟩
noncomputable def Hv(hg:qW K name g)(hk:MM K name k)(hf:gG K (BR op) f)(o a:PE K):P1 K:=
 ⟨bd o.m fun x=>bd (g x) fun y=>bd a.m fun b=>bd (f y b) fun c=>bd (k x c) fun _=>rt .next,fun t=>.AugAssign (.Attribute (o.r (x1 (yT t))) name (yT t).pos) op (a.r (yE t)) t.pos,
  fun t _ _ z=>(o.ok _ z).ru (fun Q h=>wpAny_AugAssign_AttributeAny h) fun z₁ l₁ dx=>(hg z₁ dx).bd fun z₂ l₂ dy=>(a.ok _ z₂).bd fun z₃ l₃ db=>(hf z₃ (l₃.v dy) db).bd fun z₄ l₄ dc=>(hk z₄ ((l₂.t (l₃.t l₄)).v dx) dc).ru (fun Q q=>q) fun z₅ l₅ _=>.rt rfl fun Q q=>q⟩
end
end
section
variable{K:KK}{A:aR}{st:St}{z:Z K A st}
theorem aIg(b c:Array UInt8):iU (b.toList.map cJ++c.toList.map cJ)=iU ((b++c).toList.map cJ):=by rw [Array.toList_append,cW]
theorem Li(b c:Str):lQ (b.cps.toList++c.cps.toList)=lQ (b++c).cps.toList:=by rw [Str.cps_append,Array.toList_append]
theorem aPa{a b:Array UInt8}(h:(a.toList.map cJ).length+(b.toList.map cJ).length≤1000000):a.size+b.size≤16777216:=by
 rw [bT,bT,qB,qB] at h;exact aP h (bR rfl)
theorem Xo{a b:Str}(h:a.cps.toList.length+b.cps.toList.length≤1000000):a.length+b.length≤fR:=by
 rw [qB,qB] at h;exact gM h
theorem Fc{xs ys:List PV}{vs ws:List aB}(a:bQ K.C z.X xs vs)(b:bQ K.C z.X ys ws)(h:xs.length+ys.length≤1000000):(iZ vs).size+(iZ ws).size≤fR:=by
 exact(iE).symm▸(iE).symm▸(a.len)▸(b.len)▸gM h
theorem Tf{xs:List PV}{vs:List aB}(a:bQ K.C z.X xs vs)(h:xs.isEmpty=false):¬(iZ vs).isEmpty=true:=by
 cases xs with
 |nil=>exact eP h
 |cons=>cases a;exact mK
theorem Iw{vs ws:List aB}:(iZ vs++iZ ws)=(vs++ws).toArray:=List.append_toArray ..
noncomputable def Su(a b:List PV):Bool:=match a.isEmpty,b.isEmpty with
 |false,false=>true
 |_,_=>false
theorem Sv{a b:List PV}(h:Su a b=true):a.isEmpty=false∧b.isEmpty=false:=by
 cases a with
 |nil=>exact eP h
 |cons=>cases b with
  |nil=>exact eP h
  |cons=>exact⟨rfl,rfl⟩
noncomputable def bP(a b:SV):M SV:=
 gT a (fun i=>gT b (fun j=>rt (.pv (.int (i+j)))) er)
 (kU a (fun l=>kU b (fun m=>dQ (l.length+m.length) (rt (.pv (.bytes (l++m))))) er)
 (zR a (fun l=>zR b (fun m=>dQ (l.length+m.length) (rt (.pv (.str (l++m))))) er)
 (CE a (fun l=>CE b (fun m=>dQ (l.length+m.length) (gd (Su l m) (rt (.pv (.tup (l++m)))))) er)
 (iI a (fun l=>iI b (fun m=>dQ (l.length+m.length) fun st=>some (.ref st.cells.length,⟨st.loc,st.cells++[.list (l++m)]⟩)) er) er))))
theorem cR:gG K (jU .Add) bP:=fun {A st} z a b x y dx dy=>
 .onI (T:=fun x=>K.wp A (jU .Add x y)) dx (fun i t=>.onI (T:=fun y=>K.wp A (jU .Add (.int i t) y)) dy (fun j u=>.tok (fun k=>jQ.mk k) fun Q q=>by with_reducible exact add_int (q _ _)) .er)
 (.onB (T:=fun x=>K.wp A (jU .Add x y)) dx (fun b t=>.onB (T:=fun y=>K.wp A (jU .Add (.bytes b t) y)) dy (fun c u=>.fit fun h=>.tok (fun k=>show iU _ _ from aIg b c▸iU.mk (b++c) k) fun Q q=>by with_reducible exact KBy.add_bytes (aPa h) fun t k=>q k t) .er)
 (.onS (T:=fun x=>K.wp A (jU .Add x y)) dx (fun b t=>.onS (T:=fun y=>K.wp A (jU .Add (.str b t) y)) dy (fun c u=>.fit fun h=>.tok (fun k=>show lQ _ _ from Li b c▸lQ.mk (b++c) k) fun Q q=>by with_reducible exact add_str (fun t k=>q k t) (Xo h)) .er)
 (.onT (T:=fun x=>K.wp A (jU .Add x y)) dx (fun l a vs ep _ ha la=>.onT (T:=fun y=>K.wp A (jU .Add (.ref a) y)) dy (fun m b ws ep' _ hb lb=>.fit fun h=>.gd fun e=>.newT z.s.toks (la.app lb) fun Q q=>by
  with_reducible refine wpAny_binaryOp_concat (RJ ha) (RJ hb) noFill_tuple_add seq_tuple_add (mQ F.slot_tuple_add (RJ ha) F.entry_tuple_add (F.args_tuple_add_2 _ _) (AutoSeq1.tuple___add___tuple_tuple_2 _ _ ep _ _ ep' (Tf la (Sv e).1) (Tf lb (Sv e).2) (Fc la lb h)) ⟨ha,hb,?_⟩)
  rw [Iw];exact q) .er)
 (.onL (T:=fun x=>K.wp A (jU .Add x y)) dx (fun l a vs ep ha la=>.onL (T:=fun y=>K.wp A (jU .Add (.ref a) y)) dy (fun m b ws ep' hb lb=>.fit fun h=>.newL z.s.toks (la.app lb) fun Q q=>by
  with_reducible refine wpAny_binaryOp_concat (qK ha) (qK hb) noFill_list_add seq_list_add (mQ F.slot_list_add (qK ha) F.entry_list_add (F.args_list_add_2 _ _) (AutoSeq1.list___add___list_list_0 _ _ ep _ _ ep' (Fc la lb h)) ⟨ha,hb,?_⟩)
  rw [Iw];exact q) .er) .er))))
noncomputable def bZ(f:Int→Int→Option Int)(a b:SV):M SV:=gT a (fun i=>gT b (fun j=>eZ (f i j) fun r=>rt (.pv (.int r))) er) er
theorem CL{t:aB→aB→Sem aB}{f:Int→Int→Option Int}(h:∀ {A:aR} {s:aG} {a b r:Int} {x y:Tok} {Q:aB→aG→Prop},f a b=some r→(∀ k,Q (.int r k) {s with toks:=s.toks+1})→aI (aK K.C.prog K.C.w) A (t (.int a x) (.int b y)) Q nE s):gG K t (bZ f):=fun {A st} z a b x y dx dy=>
 .onI (T:=fun x=>K.wp A (t x y)) dx (fun i u=>.onI (T:=fun y=>K.wp A (t (.int i u) y)) dy (fun j v=>.onSome fun r e=>.tok (fun k=>jQ.mk k) fun Q q=>h e (q _)) .er) .er
noncomputable def eO(a b:Int):Option Int:=some (a - b)
theorem hU:gG K (jU .Sub) (bZ eO):=CL fun e h=>by obtain rfl:=bO e;with_reducible exact sub_int (h _)
noncomputable def FW(a:Int):Bool:=decide (-4611686018427387904 < a) && decide (a < 4611686018427387904)
theorem Ey{a:Int}(h:FW a=true): -4611686018427387904 < a∧a < 4611686018427387904:=by
 have:=hZ _ _▸h;exact⟨of_decide_eq_true this.1,of_decide_eq_true this.2⟩
theorem aOw{a:Int}(h:FW a=true):Builtin.Int.intBits a≤64:=by
 exact intBits_le_64 (Int.lt_trans (by decide) (Ey h).1) (Int.lt_trans (Ey h).2 (by decide))
noncomputable def IZ(b:Bool)(x:Int):Option Int:=match b with
 |true=>some x
 |false=>none
theorem OY{b:Bool}{x r:Int}(e:IZ b x=some r):b=true∧x=r:=by
 cases b with
 |true=>obtain rfl:=bO e;exact⟨rfl,rfl⟩
 |false=>exact aT e
noncomputable def Sp(a b:Int):Option Int:=IZ (FW b) (a*b)
theorem aIu{A:aR}{s:aG}{a b r:Int}{t u:Tok}{Q:aB→aG→Prop}(e:Sp a b=some r)(h:∀ k,Q (.int r k) {s with toks:=s.toks+1}):aI (aK K.C.prog K.C.w) A (jU .Mult (.int a t) (.int b u)) Q nE s:=by
 obtain⟨q,rfl⟩:=OY e;with_reducible exact mul_int (h _) (.of_right (aOw q))
noncomputable def mD(a b:Int):Option Int:=IZ (!decide (b=0)) (a.fmod b)
theorem Cc{p:Prop}[Decidable p](h:(!decide p)=true):¬p:=by simpa using h
theorem sZ:gG K (jU .Mod) (bZ mD):=CL fun e h=>by obtain⟨q,rfl⟩:=OY e;with_reducible exact mod_int' (Cc q) (h _)
noncomputable def BL(a b:Int):Option Int:=IZ (!decide (b=0) && FW b) (a.fdiv b)
theorem Te{a b:Int}(h:FW b=true):Zk a b=false:=by
 have hb:b.natAbs < 2 ^ 63:=by
  have h:=Ey h
  cases b with
  |ofNat n=>exact DE (Int.ofNat_lt.mp h.2) (bR rfl)
  |negSucc n=>exact DE (Int.ofNat_lt.mp (Int.lt_of_neg_lt_neg h.1)) (bR rfl)
 unfold Zk
 have:b.natAbs.log2≤63:=by
  by_cases z:b.natAbs=0
  ·rw [z];decide
  ·exact DD ((Nat.log2_lt z).mpr hb)
 have hd:¬((if (b==0)=true then 0 else b.natAbs.log2 / 30+1) > 300):=
  Nat.not_lt.mpr (iteInduction (motive:=(·≤300)) (fun _=>jS _) fun _=>aP (lC (aP (Nat.div_le_self _ _) this)) (bR rfl))
 exact Bool.and_eq_false_iff.mpr (.inl (decide_eq_false hd))
theorem FR:gG K (jU .FloorDiv) (bZ BL):=CL fun e h=>by
 obtain⟨q,rfl⟩:=OY e
 have q:=hZ _ _▸q
 with_reducible exact floordiv_int (Cc q.1) (h _) (.inl (Te q.2))
noncomputable def Wr(a b:Int):Option Int:=IZ (decide (0≤b)) (a.fdiv (2 ^ b.toNat))
theorem aLM:gG K (jU .RShift) (bZ Wr):=CL fun e h=>by obtain⟨q,rfl⟩:=OY e;with_reducible exact rshift_int (of_decide_eq_true q) (h _)
noncomputable def Ir(a b:Int):Option Int:=some (Builtin.bitAnd a b)
theorem aLg:gG K (jU .BitAnd) (bZ Ir):=CL fun e h=>by obtain rfl:=bO e;with_reducible exact and_int (h _)
noncomputable def wV(f:Int→Int→Bool)(a b:SV):M Bool:=gT a (fun i=>gT b (fun j=>rt (f i j)) er) er
theorem QS{op:CmpOp}{f:Int→Int→Bool}(h:∀ {A:aR} {s:aG} {a b:Int} {t u:Tok} {Q:aB→aG→Prop},Q (.bool (f a b)) s→aI (aK K.C.prog K.C.w) A (eW op (.int a t) (.int b u)) Q nE s):kC K (eW op) (wV f):=fun {A st} z a b x y dx dy=>
 .onI (T:=fun x=>K.wp A (eW op x y)) dx (fun i u=>.onI (T:=fun y=>K.wp A (eW op (.int i u) y)) dy (fun j v=>.rt rfl fun Q q=>h q) .er) .er
theorem nQ:kC K (eW .Lt) (wV fun a b=>decide (a < b)):=QS fun h=>by with_reducible exact lt_int h
theorem aLt:kC K (eW .LtE) (wV fun a b=>decide (a≤b)):=QS fun h=>by with_reducible exact le_int h
theorem zT:kC K (eW .Gt) (wV fun a b=>decide (b < a)):=QS fun h=>by with_reducible exact gt_int h
theorem FT:kC K (eW .GtE) (wV fun a b=>decide (b≤a)):=QS fun h=>by with_reducible exact ge_int h
noncomputable def JZ{α:Type}(a:SV)(k e:M α):M α:=match a with
 |.pv .none=>k
 |_=>e
theorem Go.onN{α δ:Type}{D:Dn α δ}{T:aB→WP δ}{a:SV}{x:aB}{k e:M α}(d:z.d dV a x)(h:Go z D (T .none) (k st))(h':(x==Value.none)=false→Go z D (T x) (e st)):Go z D (T x) (JZ a k e st):=by
 cases a with
 |ref=>cases d.2;exact h' rfl
 |pv p=>cases p with
  |none=>subst d;exact h
  |bool=>subst d;exact h' rfl
  |_=>cases d <;> exact h' rfl
noncomputable def oU(a b:SV):M Bool:=JZ b (JZ a (rt true) (rt false)) er
noncomputable def qG(a b:SV):M Bool:=JZ b (JZ a (rt false) (rt true)) er
theorem rV:kC K (eW .Is) oU:=fun {A st} z a b x y dx dy=>
 .onN (T:=fun y=>K.wp A (eW .Is x y)) dy (.onN (T:=fun x=>K.wp A (eW .Is x .none)) dx (.rt rfl fun Q q=>is_none q) fun e=>.rt rfl fun Q q=>is_none (by rw [e];exact q)) fun _=>.er
theorem Qe{M:jR}{E:aB→aG→Prop}{s:aG}{v:aB}{Q:aB→aG→Prop}(h:Q (.bool (!(v==Value.none))) s):aI M A (eW .IsNot v .none) Q E s:=by
 cases v <;> exact fun Γ p hΓ=>h
theorem xN:kC K (eW .IsNot) qG:=fun {A st} z a b x y dx dy=>
 .onN (T:=fun y=>K.wp A (eW .IsNot x y)) dy (.onN (T:=fun x=>K.wp A (eW .IsNot x .none)) dx (.rt rfl fun Q q=>Qe q) fun e=>.rt rfl fun Q q=>Qe (by rw [e];exact q)) fun _=>.er
theorem PQ{n:Nat}(h:n≤1000000):(n:Int) < 2 ^ 63:=Int.lt_of_lt_of_le (Int.ofNat_lt.mpr (TQ h)) (by decide)
noncomputable def Rj(a:SV):M SV:=kU a (fun l=>dQ l.length (rt (.pv (.int l.length)))) (iI a (fun l=>dQ l.length (rt (.pv (.int l.length)))) er)
end
section
variable{K:KK}{A:aR}{st:St}{z:Z K A st}
theorem Rk{b:Array UInt8}:((b.toList.map cJ).length:Int)=b.size:=by rw [bT,qB]
theorem aHJ{xs:List PV}{vs:List aB}(d:bQ K.C z.X xs vs):(xs.length:Int)=(iZ vs).size:=by rw [iE,←d.len]
theorem Bc{n:Nat}(h:n≤1000000):n≤1099511627776:=aP h (bR rfl)
theorem EX{i j:Int}(e:i=j)(k:Tok):z.d dV (.pv (.int i)) (.int j k):=e▸jQ.mk k
theorem aLw:jZ K (fun v=>call (.builtin "len") [v]) Rj:=fun {A st} z a x dx=>
 .onB (T:=fun x=>K.wp A (call (.builtin "len") [x])) dx (fun b t=>.fitB fun h=>.tok (EX Rk) fun Q q=>PySem.W.len_bytes (Bc h) (q _ _))
 (.onL (T:=fun x=>K.wp A (call (.builtin "len") [x])) dx (fun xs l vs ep hl dl=>.fitL dl fun h=>.tok (EX (aHJ dl)) fun Q q=>call_len_list ⟨_,hl,rfl,_,rfl⟩ (PQ h) (q _ _)) .er)
noncomputable def zZ(a:SV):M Bool:=Tt a rt (kU a (fun l=>dQ l.length (rt (!l.isEmpty))) (iI a (fun l=>dQ l.length (rt (!l.isEmpty))) er))
theorem aIJ{b:Array UInt8}:(!(b.toList.map cJ).isEmpty)=((b.size:Int) != 0):=by
 obtain⟨l⟩:=b
 cases l with
 |nil=>rfl
 |cons=>exact(bne_iff_ne.mpr fun e=>by cases e).symm
theorem aEM{xs:List PV}{vs:List aB}(d:bQ K.C z.X xs vs):xs.isEmpty=(iZ vs).isEmpty:=by
 cases xs with
 |nil=>subst d;rfl
 |cons=>cases d;rfl
theorem Go.bool{w:WP Bool}{b c:Bool}(e:b=c)(h:∀ Q,(∀ t,Q c {z.s with toks:=t})→w Q z.s):Go z dB w (Mine.rt b st):=Go.tok (x:=fun _=>c) (fun _=>(e:dB _ _ _ b c)) fun Q q=>h Q fun t=>q t 0
theorem jF:Ib K truthy zZ:=fun {A st} z a x dx=>
 .onO (T:=fun x=>K.wp A (truthy x)) dx (fun b=>.rt rfl fun Q q=>uM q)
 (.onB (T:=fun x=>K.wp A (truthy x)) dx (fun b t=>.fitB fun h=>.bool aIJ fun Q q=>truthy_bytes (Bc h) (q _))
 (.onL (T:=fun x=>K.wp A (truthy x)) dx (fun xs l vs ep hl dl=>.fitL dl fun h=>.bool (congrArg _ (aEM dl)) fun Q q=>wpAny_truthy_list ⟨_,hl,rfl,_,rfl⟩ (PQ h) (q _)) .er))
noncomputable def pF(K:KK)(A:aR)(x y:aB):WP aB:=fun Q s=>∃ T id,s.TypeIs x T∧xV (.type T) "__getitem__"=pure (some (.builtin id))∧aI (aK K.C.prog K.C.w) A (getItem x y) Q nE s
noncomputable def wJ(K:KK)(f:SV→SV→M SV):Prop:=∀ {A:aR} {st:St} (z:Z K A st) {a b:SV} {x y:aB},z.d dV a x→z.d dV b y→Go z dV (pF K A x y) (f a b st)
noncomputable def cM{f:SV→SV→M SV}(hf:wJ K f)(a b:PE K):PE K:=⟨bd a.m fun x=>bd b.m fun y=>f x y,fun e=>.Subscript (a.r (x1 e)) (b.r (x2 e)) e.pos,3,fun _=>rfl,
 fun e A _ z=>(a.ok _ z).ru (fun Q q=>Subscript_ q) fun z₁ l₁ dx=>(b.ok _ z₁).bd fun z₂ l₂ dy=>(hf z₂ (l₂.v dx) dy).imp fun Q ⟨T,id,hT,hl,hg⟩=>tail_any hT hl hg (aOZ (b.hc _) _ _)⟩
theorem Wi{k:Int}{m:Nat}(h0:0≤k)(h:k.toNat < m):seqIndex? k m=some k.toNat:=by
 unfold seqIndex?
 have h1:¬k < 0:=Int.not_lt.mpr h0
 have h2:k < (m:Int):=(Int.toNat_lt h0).mp h
 simp [h1,h2,h0]
noncomputable def ZX{α:Type}(i:Int)(k:Nat→M α):M α:=gd (decide (0≤i) && decide (i < 1000000)) (k i.toNat)
theorem Py{i:Int}(h:(decide (0≤i) && decide (i < 1000000))=true):0≤i∧i < 2 ^ 63:=by
 have h:=hZ _ _▸h
 exact⟨of_decide_eq_true h.1,Int.lt_trans (of_decide_eq_true h.2) (by decide)⟩
theorem Go.idx{α δ:Type}{D:Dn α δ}{w:WP δ}{i:Int}{k:Nat→M α}(h:0≤i→i < 2 ^ 63→Go z D w (k i.toNat st)):Go z D w (ZX i k st):=.gd fun q=>h (Py q).1 (Py q).2
theorem aBO{b:Array UInt8}{i v:Nat}(e:(b.toList.map cJ)[i]? =some v):(b.toList.getD i 0).toNat=v:=by
 rw [iW] at e
 obtain⟨c,hc,rfl⟩:=Option.map_eq_some_iff.mp e
 rw [LS,hc];rfl
theorem FH{α:Type}{l:List α}{i:Nat}{v:α}(e:l[i]? =some v):i < l.length:=(List.getElem?_eq_some_iff.mp e).1
theorem HN{l:List aB}{i:Nat}{v:aB}(e:l[i]? =some v):(iZ l)[i]? =some v:=by rw [List.getElem?_toArray];exact e
noncomputable def JC(a b:SV):M SV:=gT b (fun i=>ZX i fun k=>
 CE a (fun xs=>eZ xs[k]? fun y=>rt (.pv y))
 (kU a (fun l=>eZ l[k]? fun y=>dQ l.length (rt (.pv (.int y))))
 (iI a (fun xs=>eZ xs[k]? fun y=>rt (.pv y)) er))) er
theorem aLo:wJ K JC:=fun {A st} z a b x y dx dy=>
 .onI (T:=fun y=>pF K A x y) dy (fun i u=>.idx fun h0 h1=>
  .onT (T:=fun x=>pF K A x (.int i u)) dx (fun xs l vs ep _ hl dl=>.onSome fun v e=>by
   obtain⟨w,hw,dw⟩:=dl.get e
   have hi:i.toNat < (iZ vs).size:=by rw [iE];exact FH hw
   exact .same dw fun Q q=>⟨"tuple",_,RJ hl,F.slot_tuple_getitem.lookup,getItem_tuple (j:=i.toNat) (x:=w) ⟨_,hl,rfl,_,rfl⟩ (Int.le_trans (by decide) h0) h1 (Wi h0 hi) (HN hw) q⟩)
  (.onB (T:=fun x=>pF K A x (.int i u)) dx (fun b t=>.onSome fun v e=>.fitB fun h=>by
   have hlt:=FH e
   rw [bT] at hlt
   exact .tok (fun k=>jQ.mk k) fun Q q=>⟨"bytes",_,iJ _ _ _,FB.slot_bytes_getitem.lookup,by
    have:=PySem.W.getItem_bytes (prog:=K.C.prog) (w:=K.C.w) (A:=A) (E:=nE) (s:=z.s) (l:=b.toList) (t:=t) (i:=i) (u:=u) (Q:=Q) (Bc (by rw [qB];exact h)) h0 (by rw [←SU h0];exact Int.ofNat_lt.mpr hlt) ((aBO e).symm▸q _ _)
    simpa using this⟩)
  (.onL (T:=fun x=>pF K A x (.int i u)) dx (fun xs l vs ep hl dl=>.onSome fun v e=>by
   obtain⟨w,hw,dw⟩:=dl.get e
   exact .same dw fun Q q=>⟨"list",_,qK hl,F.slot_list_getitem.lookup,wpAny_getItem_list (x:=w) ⟨_,hl,rfl,_,rfl⟩ h0 h1 (HN hw) q⟩) .er))) .er
end
section
variable{K:KK}{A:aR}{st:St}{z:Z K A st}{α β:Type}{D:Dn α β}
theorem Bk(e:f vs.toArray=vs'.toArray):gB f (cC vs ep)=cC vs' (if vs'.toArray.size==vs.toArray.size then ep else ep+1):=by
 show({cls:=.type "list",data:=.seq (f vs.toArray) (if (f vs.toArray).size==vs.toArray.size then ep else ep+1)}:Obj)=_
 exact(e).symm▸rfl
theorem Go.updL(hw:z.X.W (z.X.ρ i)=some (.cell i))(ho:z.s.heap.get? (z.X.ρ i)=some (cC vs ep))(e:f vs.toArray=vs'.toArray)(hl:bQ K.C z.X xs' vs')(t:Nat)
  (d:D K.C z.X st.cells.length b x) (h:∀ Q,Q x {z.s with heap:=z.s.heap.update (z.X.ρ i) (gB f),toks:=t}→w Q z.s):Go z D w (some (b,fG st i (.list xs'))):=by
 have g:(z.s.heap.update (z.X.ρ i) (gB f)).get? (z.X.ρ i)=some (cC vs' (if vs'.toArray.size==vs.toArray.size then ep else ep+1)):=by rw [←Bk e];exact uQ _ ho rfl
 exact .setC _ t hw (sF ..) ⟨_,g⟩ (.mk _ hw g (.mk _ _ hl)) d h
theorem Rz(h:n≤1000000):n+1≤fR:=aP (lC h) (by unfold fR;decide)
noncomputable def JU(k:Nat)(c:SO):M SV:=fun st=>some (.pv .none,fG st k c)
noncomputable def dH(a b:SV):M SV:=qN a (fun k xs=>lK b fun p=>dQ xs.length (JU k (.list (xs++[p])))) er
theorem jE:gG K (fun x y=>call (.builtin "list.append") [x,y]) dH:=fun {A st} z a b x y dx dy=>
 .onC (T:=fun x=>K.wp A (call (.builtin "list.append") [x,y])) dx (fun i xs vs ep hw ho dl=>.onP (T:=fun y=>K.wp A (call (.builtin "list.append") [.ref (z.X.ρ i),y])) dy fun p dp=>.fitL dl fun h=>.updL hw ho (by rw [Hi]) (dl.app (.one dp)) _ rfl fun Q q=>
  mQ Gz (qK ho) F.entry_list_append (F.args_list_append_2 _ _) (Zh _ vs.toArray ep y (gM h)) ⟨ho,q⟩) .er
noncomputable def aQN(a:SV):M SV:=qN a (fun k xs=>dQ xs.length (JU k (.list xs.reverse))) er
noncomputable def Av(a:SV):M SV:=qN a (fun k xs=>eZ xs.getLast? fun y=>dQ xs.length fun st=>some (.pv y,fG st k (.list xs.dropLast))) er
theorem Vw:jZ K (fun x=>call (.builtin "list.pop") [x]) Av:=fun {A st} z a x dx=>
 .onC (T:=fun x=>K.wp A (call (.builtin "list.pop") [x])) dx (fun i xs vs ep hw ho dl=>.onSome fun y e=>.fitL dl fun h=>by
  replace e:=(List.getLast?_eq_getElem?)▸e
  obtain⟨w,hw',dw⟩:=dl.get e
  replace hw':=(dl.len)▸hw'
  have hpos:0 < vs.length:=sI (jS _) (FH hw')
  refine .updL (vs':=vs.dropLast) (t:=z.s.toks) hw ho ?_ (by rw [Hf,Hf,dl.len];exact dl.take _) dw fun Q q=>
   mQ F.slot_list_pop (qK ho) F.entry_list_pop (F.args_list_pop_1 _) (MeetsSeq.list_pop_last _ vs.toArray ep w (by simpa using hw') (gM h)) ⟨ho,q⟩
  simp only [iE,List.eraseIdxIfInBounds_toArray]
  congr 1
  rw [Hf,List.eraseIdx_eq_take_drop_succ,Hp hpos,List.drop_length,gQ]) .er
noncomputable def Ra(a b:SV):M SV:=qN a (fun k xs=>match xs with
 |y::xs=>gT b (fun i=>gd (decide (i=0) && decide (xs.length≤100000)) fun st=>some (.pv y,fG st k (.list xs))) er
 | []=>er) er
theorem aLE:gG K (fun x y=>call (.builtin "list.pop") [x,y]) Ra:=fun {A st} z a b x y dx dy=>
 .onC (T:=fun x=>K.wp A (call (.builtin "list.pop") [x,y])) dx (fun i xs vs ep hw ho dl=>by
  cases xs with
  |nil=>exact .er
  |cons p xs=>
   cases dl with | mk w ws dw dl=>
   refine .onI (T:=fun y=>K.wp A (call (.builtin "list.pop") [.ref (z.X.ρ i),y])) dy (fun j t=>.gd fun e=> ?_) .er
   have e:=hZ _ _▸e
   cases of_decide_eq_true e.1
   have hz:=of_decide_eq_true e.2
   rw [dl.len] at hz
   have hs:(iZ (w::ws)).size=ws.length+1:=iE
   exact .updL (t:=z.s.toks) hw ho (by simp) dl dw fun Q q=>
    mQ F.slot_list_pop (qK ho) F.entry_list_pop (F.args_list_pop_2 _ _) (MeetsSeq.list_pop_at _ (w::ws).toArray ep 0 t 0 w (by kernel_rfl) (Wi (by decide) (by rw [hs];exact Nat.succ_pos _)) rfl (by rw [hs];exact Rz (aP hz (by decide)))) ⟨ho,q⟩) .er
noncomputable def BW(a b:SV):M SV:=qN a (fun k xs=>iI b (fun ys=>dQ (xs.length+ys.length) (JU k (.list (xs++ys)))) er) er
theorem Vq:gG K (fun x y=>call (.builtin "list.extend") [x,y]) BW:=fun {A st} z a b x y dx dy=>
 .onC (T:=fun x=>K.wp A (call (.builtin "list.extend") [x,y])) dx (fun i xs vs ep hw ho dl=>.onL (T:=fun y=>K.wp A (call (.builtin "list.extend") [.ref (z.X.ρ i),y])) dy (fun ys l ws ep' hb db=>.fit fun h=>.updL (f:=fun a=>a++ws.toArray) hw ho (by simp) (dl.app db) _ rfl fun Q q=>by
  have hs:=Fc dl db h
  have hz:vs.length+ws.length≤1000000:=(dl.len)▸(db.len)▸h
  have hl:Builtin.List.listTooLong (vs.length+ws.length)=false:=decide_eq_false (Nat.not_lt.mpr (gM hz))
  refine mQ F.slot_list_extend (qK ho) F.entry_list_extend (F.args_list_extend_2 _ _) (AutoSeq1.list_extend_list_list_0 _ vs.toArray ep _ ws.toArray ep' ?_ (aP (oF ..) hs) (GS hs)) ⟨ho,hb,q⟩
  rw [iE,iE,hl,RW];exact mK) .er) .er
theorem aMi(ho:s.heap.get? l=some {cls:=.type "list",data:=.seq items ep})
  (h0:0≤k) (hfit:k < 2 ^ 63) (hj:k.toNat < items.size) (hQ:Q () {s with heap:=s.heap.update l (gB (·.setIfInBounds k.toNat v))}):
  aI (aK K.C.prog K.C.w) A (rX (.ref l) (.int k t) v) Q nE s:=by
 have hl:s.heap.IsList l items:=⟨_,ho,rfl,ep,rfl⟩
 unfold rX
 try with_reducible refine pG ?_
 first | refine aF (bG ?_) | skip
 refine aF (wpAny_sequenceKey hl.typeIs rfl ?_)
 refine aF (wpAny_callSpecial?_slot hl.typeIs slot_list_setitem
  (RN slot_list_setitem hl.typeIs entry_list_setitem ?_ (args_list_setitem _ _ _)))
 show aI _ _ (Builtin.List.listSubscript? (.int k t) >>= _) _ _ s
 refine aF (wpAny_listSubscript_int (fitsIndex_of h0 hfit) ?_)
 clear hfit
 obtain⟨j,rfl⟩:=SR h0
 refine aF (aF (wpAny_seqItemAt ho rfl (bG ?_)))
 refine(Array.getElem?_eq_getElem hj).symm▸?_
 refine aF (wpAny_setSeqItemAt ho rfl ?_)
 first
  |exact aF (bG (bG ⟨.none,rfl,bG hQ⟩))
  |exact bG ⟨.none,rfl,bG hQ⟩
noncomputable def Wm(a b c:SV):M Unit:=qN a (fun k xs=>gT b (fun i=>ZX i fun j=>lK c fun y=>gd (bX j xs.length) fun st=>some ((),fG st k (.list (xs.set j y)))) er) er
theorem aLH:wI K Wm:=fun {A st} z a b c x y u dx dy du=>
 .onC (T:=fun x=>K.wp A (rX x y u)) dx (fun k xs vs ep hw ho dl=>.onI (T:=fun y=>K.wp A (rX (.ref (z.X.ρ k)) y u)) dy (fun i t=>.idx fun h0 h1=>.onP (T:=fun u=>K.wp A (rX (.ref (z.X.ρ k)) (.int i t) u)) du fun p dp=>.gd fun e=>
  .updL (t:=z.s.toks) hw ho (by simp) (dl.set dp _) trivial fun Q q=>aMi ho h0 h1 (by rw [iE,←dl.len];exact Nat.blt_eq.mp e) q) .er) .er
noncomputable def jM(a b:SV):M SV:=gT a (fun i=>gT b (fun j=>rt (.pv (.int (i+j)))) er) (zR a (fun l=>zR b (fun m=>dQ (l.length+m.length) (rt (.pv (.str (l++m))))) er) er)
theorem nP:gG K (BR .Add) jM:=fun {A st} z a b x y dx dy=>
 .onI (T:=fun x=>K.wp A (BR .Add x y)) dx (fun i t=>.onI (T:=fun y=>K.wp A (BR .Add (.int i t) y)) dy (fun j u=>.tok (fun k=>jQ.mk k) fun Q q=>by with_reducible exact iadd_int (q _ _)) .er)
 (.onS (T:=fun x=>K.wp A (BR .Add x y)) dx (fun b t=>.onS (T:=fun y=>K.wp A (BR .Add (.str b t) y)) dy (fun c u=>.fit fun h=>.tok (fun k=>show lQ _ _ from Li b c▸lQ.mk (b++c) k) fun Q q=>by with_reducible exact P.iadd_str (PySem.SB.post_add (Xo h) fun t k=>q k t)) .er) .er)
theorem Vu:gG K (BR .Sub) (bZ eO):=CL fun e h=>by obtain rfl:=bO e;with_reducible exact isub_int (h _)
noncomputable def cT(a:SV):M Unit:=qN a (fun _ _=>rt ()) er
theorem gU:sN K "list" cT:=fun {A st} z a x d=>
 .onC (T:=fun x Q s=>s.TypeIs x "list"∧(∀ l,x= .ref l→∃ ob,s.heap.get? l=some ob∧ob.dict=none)∧Q () s) d (fun i xs vs ep hw ho dl=>.same trivial fun Q q=>⟨qK ho,fun l e=>by cases e;exact⟨_,ho,rfl⟩,q⟩) .er
noncomputable def Ag(a:SV):M Unit:=zR a (fun _=>rt ()) er
theorem aJP:sN K "str" Ag:=fun {A st} z a x d=>
 .onS (T:=fun x Q s=>s.TypeIs x "str"∧(∀ l,x= .ref l→∃ ob,s.heap.get? l=some ob∧ob.dict=none)∧Q () s) d (fun b t=>.same trivial fun Q q=>⟨typeIs_str _ _ _,fun l e=>(nomatch e),q⟩) .er
theorem jD:mL "list" "append" "list.append":=⟨SK,Gz,F.type_list_append⟩
theorem Bo:mL "list" "pop" "list.pop":=⟨SK,F.slot_list_pop,F.type_list_pop⟩
theorem Sn:mL "list" "extend" "list.extend":=⟨SK,F.slot_list_extend,F.type_list_extend⟩
theorem aQO:mL "list" "reverse" "list.reverse":=⟨SK,F.slot_list_reverse,F.type_list_reverse⟩
end
section
variable{K:KK}{A:aR}{st:St}{z:Z K A st}
theorem BX{s:aG}{it:Addr}{o:Obj}{T:String}{target:Expr}{v:aB}{Q:Unit→aG→Prop}{prog:iB}{w:eR}{E:aB→aG→Prop}(ho:s.heap.get? it=some o)(hc:o.cls= .type T)
  (hT:(["enumerate","zip","dict_itemiterator","dict_reverseitemiterator","odict_iterator","itertools.zip_longest","itertools.pairwise"]:List String).contains T=false) (h:Q () s):aI (aK prog w) A (JH target (.ref it) v) Q E s:=by
 have key:aI (aK prog w) A (match (qE it,v) with
  |(.ref r,.ref a)=>do
   let o ←load r
   match o.cls,o.data with
   |.type n,.fields vs=>
    if (["enumerate","zip","dict_itemiterator","dict_reverseitemiterator","odict_iterator","itertools.zip_longest","itertools.pairwise"]:List String).contains n && vs[0]? ==some (rawInt a) then do
     rule "for.unpacks-the-owned-tuple"
     updateField r 0 .none
    else pure ()
   |_,_=>pure ()
  |_=>pure ()) Q E s:=by
  cases v with
  |ref a=>
   refine aF (vW ho ?_)
   refine(hc).symm▸?_
   cases o.data with
   |fields vs=>dsimp only;exact(hT).symm▸bG h
   |_=>exact bG h
  |_=>exact bG h
 cases target <;> first | exact bG h | exact key
noncomputable def BS(T:String)(v:aB)(i:Nat)(o:Obj):Prop:=o.cls= .type T∧o.data= .fields #[v,.int i 0]
theorem BS.at{T:String}{v:aB}{i:Nat}{o:Obj}{h:Heap}{it:Addr}(p:BS T v i o)(ho:h.get? it=some o):∃ o,h.get? it=some o∧o.cls= .type T∧o.data= .fields #[v,.int i 0]:=⟨o,ho,p.1,p.2⟩
theorem Cb{P:PV→aB→Prop}{cells:List SO}{xs:List PV}{vs:List aB}{i:Nat}(d:aS P xs vs)(e:lJ xs cells i=some none):(iZ vs)[i]? =none:=by
 have:=List.getElem?_eq_none_iff.mp (bO e)
 rw [List.getElem?_toArray];exact List.getElem?_eq_none_iff.mpr (d.len▸this)
theorem aGX{C:Cx}{l it:Addr}{vs:List aB}{ep:Nat}{xs:List PV}:pJ C it (lJ xs) (BS "list_iterator" (.ref l)) (fun X _=>X.W l=some (.fro (cC vs ep))∧bQ C X xs vs) where
 mono l h:=⟨l.fro _ _ h.1,bQ.mono l h.2⟩
 item y ok ho hp hx hq:=by
  obtain⟨v,hv,dv⟩:=ok.2.get (bO hx)
  exact Yy (hp.at ho) ⟨_,y.R.val _ _ ok.1,rfl,_,rfl⟩ (HN hv) fun h' ⟨o',ho',hc',hd'⟩ sb=>hq v h' o' _ dv sb ho' ⟨hc',hd'⟩
 fin y hh ok ho hp hx hq:=Yx hh (hp.at ho) ⟨_,y.R.val _ _ ok.1,rfl,_,rfl⟩ (Cb ok.2 hx) fun h' ex=>hq h' _ ex
 self ho hp hq:=wpAny_pyIter_listiter (hp.at ho) hq
 lets ho hp hq:=BX ho hp.1 (by decide+kernel) hq
theorem aHa{C:Cx}{l it:Addr}{vs:List aB}{ep:Nat}{xs:List PV}:pJ C it (lJ xs) (BS "tuple_iterator" (.ref l)) (fun X _=>X.W l=some (.fro (mI vs ep))∧bQ C X xs vs) where
 mono l h:=⟨l.fro _ _ h.1,bQ.mono l h.2⟩
 item y ok ho hp hx hq:=by
  obtain⟨v,hv,dv⟩:=ok.2.get (bO hx)
  exact wpAny_pyNext_tuple_item (hp.at ho) ⟨_,y.R.val _ _ ok.1,rfl,_,rfl⟩ (HN hv) fun h' ⟨o',ho',hc',hd'⟩ sb=>hq v h' o' _ dv sb ho' ⟨hc',hd'⟩
 fin y hh ok ho hp hx hq:=wpAny_pyNext_tuple_end hh (hp.at ho) ⟨_,y.R.val _ _ ok.1,rfl,_,rfl⟩ (Cb ok.2 hx) fun h' ex=>hq h' _ ex
 self ho hp hq:=wpAny_pyIter_tupleiter (hp.at ho) hq
 lets ho hp hq:=BX ho hp.1 (by kernel_rfl) hq
theorem aGV{C:Cx}{k:Nat}{a it:Addr}:pJ C it (xI k) (BS "list_iterator" (.ref a)) (fun X n=>k < n∧X.ρ k=a) where
 mono l h:=⟨AN h.1 l.n,(l.ρ k h.1).trans h.2⟩
 item {A cells i o p Q} y ok ho hp hx hq:=by
  have hx:(match cells[k]? with | some (.list ys)=>some ys[i]? | _=>none)=some (some p):=hx
  cases q:cells[k]? with
  |none=>rw [q] at hx;exact aT hx
  |some c=>rw [q] at hx;cases c with
   |list ys=>cases y.R.cells _ _ q with | mk o hw ho' r=>cases r with | mk vs ep hl=>
    rw [ok.2] at ho'
    obtain⟨v,hv,dv⟩:=hl.get (bO hx)
    exact Yy (hp.at ho) ⟨_,ho',rfl,_,rfl⟩ (HN hv) fun h' ⟨o',ho',hc',hd'⟩ sb=>hq v h' o' _ dv sb ho' ⟨hc',hd'⟩
   |_=>exact aT hx
 fin {A cells i o Q} y hh ok ho hp hx hq:=by
  have hx:(match cells[k]? with | some (.list ys)=>some ys[i]? | _=>none)=some none:=hx
  cases q:cells[k]? with
  |none=>rw [q] at hx;exact aT hx
  |some c=>rw [q] at hx;cases c with
   |list ys=>cases y.R.cells _ _ q with | mk o hw ho' r=>cases r with | mk vs ep hl=>
    rw [ok.2] at ho'
    exact Yx hh (hp.at ho) ⟨_,ho',rfl,_,rfl⟩ (Cb (cells:=[]) hl hx) fun h' ex=>hq h' _ ex
   |_=>exact aT hx
 self ho hp hq:=wpAny_pyIter_listiter (hp.at ho) hq
 lets ho hp hq:=BX ho hp.1 (by decide+kernel) hq
noncomputable def NG(l:List Nat):List PV:=l.map fun x=>.int (x:Nat)
theorem aGU{C:Cx}{b:Array UInt8}{t:Tok}{it:Addr}:pJ C it (lJ (NG (b.toList.map cJ))) (BS "bytes_iterator" (.bytes b t)) (fun _ _=>True) where
 mono _ _:=trivial
 item y ok ho hp hx hq:=by
  have hx:=bO hx
  unfold NG at hx
  rw [iW,iW,Option.map_map] at hx
  obtain⟨c,hc,e⟩:=Option.map_eq_some_iff.mp hx
  subst e
  exact KBw.next_item (hp.at ho) (c:=c) ((GD)▸hc) fun h' ⟨o',ho',hc',hd'⟩ sb=>hq _ h' o' _ (.mk _) sb ho' ⟨hc',hd'⟩
 fin y hh ok ho hp hx hq:=KBw.next_end hh (hp.at ho) (by
  have hx:=bO hx
  unfold NG at hx
  rw [←GD];simpa using hx) fun h' ex=>hq h' _ ex
 self ho hp hq:=KBw.pyIter_self (hp.at ho) hq
 lets ho hp hq:=BX ho hp.1 (by kernel_rfl) hq
noncomputable def qO:Nat→Int→Int→List PV
 |0,_,_=>[]
 |k+1,x,c=>.int x::qO k (x+c) c
theorem Vo(a c:Int)(i:Nat):a+c+i*c=a+((i+1:Nat):Int)*c:=by
 rw [Int.natCast_add,Int.add_mul,Int.natCast_one,Int.one_mul,Int.add_assoc,Int.add_comm c]
theorem aLd(c:Int)(k:Nat):∀ {x:Int} {i:Nat} {y:PV},(qO k x c)[i]? =some y→i < k∧y= .int (x+i*c):=by
 induction k with
 |zero=>intro x i y h;exact aT h
 |succ k ih=>
  intro x i y h
  cases i with
  |zero=>obtain rfl:=bO h;exact⟨Nat.succ_pos _,by simp⟩
  |succ i=>obtain⟨a,rfl⟩:=ih (i:=i) h;exact⟨Nat.succ_lt_succ a,by rw [Vo]⟩
theorem aLe(c:Int)(k:Nat):∀ x,(qO k x c).length=k:=by
 induction k with
 |zero=>exact fun _=>rfl
 |succ k ih=>exact fun x=>congrArg lN (ih _)
noncomputable def aGQ(a c:Int)(k:Int)(i:Nat)(o:Obj):Prop:=o= {cls:=.type "range_iterator",data:=.fields #[rawInt (a+i*c),rawInt (k - i),rawInt c]}
theorem aGY{C:Cx}{a c:Int}{k:Nat}{it:Addr}:pJ C it (lJ (qO k a c)) (aGQ a c k) (fun _ _=>True) where
 mono _ _:=trivial
 item {A cells i o p Q} y ok ho hp hx hq:=by
  obtain⟨hi,rfl⟩:=aLd c k (bO hx)
  subst hp
  refine wpAny_pyNext_range_item ho (Hd (Int.ofNat_lt.mpr hi)) fun h' hi' sb=>hq _ h' _ _ (.mk _) sb hi' ?_
  have e1:a+(i:Int)*c+c=a+((i+1:Nat):Int)*c:=(Int.add_right_comm a _ c).trans (Vo a c i)
  have e2:(k:Int) - (i:Int) - 1=(k:Int) - ((i+1:Nat):Int):=Int.sub_sub _ _ _
  show _=_
  rw [e1,e2]
 fin {A cells i o Q} y hh ok ho hp hx hq:=by
  subst hp
  have:k≤i:=by have:=List.getElem?_eq_none_iff.mp (bO hx);rwa [aLe] at this
  exact wpAny_pyNext_range_end hh ho (Int.sub_nonpos_of_le (Int.ofNat_le.mpr this)) fun h' ex=>hq h' _ ex
 self ho hp hq:=by subst hp;exact wpAny_pyIter_rangeiter ho hq
 lets ho hp hq:=by subst hp;exact BX ho rfl (by decide+kernel) hq
noncomputable def Qk(_:St):SV→Option (List PV)
 |.pv (.lst xs)=>some xs
 |_=>none
theorem CH(z:Z K A st){o:Obj}(hf:o.isFreed=false){nx:List SO→Nat→Option (Option PV)}{pi:Nat→Obj→Prop}{ok:Xt→Nat→Prop}(I:pJ K.C (sz z) nx pi ok)(hp:pi 0 o)(hok:ok z.X st.cells.length){Q:aB→aG→Prop}
  (q:∀(z':Z K A st) it o pi ok,z.le z'→z'.X.W it=none→z'.s.heap.get? it=some o→pJ K.C it nx pi ok→pi 0 o→ok z'.X st.cells.length→Q (.ref it) z'.s):Q (.ref (sz z)) {z.s with heap:=z.s.heap.push o}:=
 q (z.push o z.s.toks) _ o pi ok Z.le0 (z.R.fresh (cZ _)) (oA _ hf) I hp hok
theorem aLW:kD K Qk:=fun z a x xs hf d Q q=>by
 cases a with
 |ref=>exact aT hf
 |pv p=>cases p with
  |lst l=>cases hf;cases d with | mk r vs ep hw hl=>exact Gi ⟨_,z.R.val _ _ hw,rfl,_,rfl⟩ (CH z rfl aGX ⟨rfl,rfl⟩ ⟨hw,by rw [iH] at hl;exact hl⟩ q)
  |_=>exact aT hf
noncomputable def Qm(_:St):SV→Option (List PV)
 |.pv (.tup xs)=>some xs
 |_=>none
theorem aLZ:kD K Qm:=fun z a x xs hf d Q q=>by
 cases a with
 |ref=>exact aT hf
 |pv p=>cases p with
  |tup l=>cases hf;cases d with | mk r vs ep hw hl=>exact wpAny_pyIter_tuple ⟨_,z.R.val _ _ hw,rfl,_,rfl⟩ (CH z rfl aHa ⟨rfl,rfl⟩ ⟨hw,by rw [iH] at hl;exact hl⟩ q)
  |_=>exact aT hf
noncomputable def Qi(_:St):SV→Option (List PV)
 |.pv (.bytes l)=>some (NG l)
 |_=>none
theorem aLT:kD K Qi:=fun z a x xs hf d Q q=>by
 cases a with
 |ref=>exact aT hf
 |pv p=>cases p with
  |bytes l=>cases d with | mk b t=>obtain rfl:=bO hf;exact KBw.pyIter_bytes (CH z rfl aGU ⟨rfl,rfl⟩ trivial q)
  |_=>exact aT hf
noncomputable def Vn(a b c:Int):Option (List PV):=match Gv a b c with
 |true=>some (qO (Gu a b c).toNat a c)
 |false=>none
noncomputable def Ak(_:St):SV→Option (List PV)
 |.pv (.rng a b c)=>Vn a b c
 |_=>none
theorem aJL(a b c:Int):0≤Gu a b c:=by
 exact iteInduction (motive:=(0≤ ·)) (fun hc=>iteInduction (motive:=(0≤ ·)) (fun h=>Int.le_add_one (Int.ediv_nonneg (Int.le_sub_one_of_lt (Hd h)) (Int.le_of_lt hc))) fun _=>Int.le_refl 0)
  fun hc=>iteInduction (motive:=(0≤ ·)) (fun h=>Int.le_add_one (Int.ediv_nonneg (Int.le_sub_one_of_lt (Hd h)) (Int.neg_nonneg_of_nonpos (Int.not_lt.mp hc)))) fun _=>Int.le_refl 0
theorem aLX:kD K Ak:=fun z a x xs hf d Q q=>by
 cases a with
 |ref=>exact aT hf
 |pv p=>cases p with
  |rng a b c=>
   have hf:(match Gv a b c with | true=>some (qO (Gu a b c).toNat a c) | false=>none)=some xs:=hf
   cases hs:Gv a b c with
   |false=>rw [hs] at hf;exact aT hf
   |true=>
    rw [hs] at hf;obtain rfl:=bO hf
    cases d with | mk r t u w hw=>
    refine wpAny_pyIter_range (z.R.val _ _ hw) hs (CH z rfl aGY ?_ trivial q)
    show _=_
    simp [SU (aJL a b c)]
  |_=>exact aT hf
noncomputable def CJ(a:SV):M SV:=gT a (fun b=>rt (.pv (.rng 0 b 1))) er
theorem QT:jZ K (fun v=>call (.type "range") [v]) CJ:=fun {A st} z a x dx=>
 .onI (T:=fun x=>K.wp A (call (.type "range") [x])) dx (fun i t=>.fro _ _ (fun _ e=>.mk _ _ _ _ e) fun Q q=>call_range_1 q) .er
noncomputable def QR(a b:SV):M SV:=gT a (fun i=>gT b (fun j=>rt (.pv (.rng i j 1))) er) er
theorem Ej:gG K (fun v w=>call (.type "range") [v,w]) QR:=fun {A st} z a b x y dx dy=>
 .onI (T:=fun x=>K.wp A (call (.type "range") [x,y])) dx (fun i t=>.onI (T:=fun y=>K.wp A (call (.type "range") [.int i t,y])) dy (fun j u=>.fro _ _ (fun _ e=>.mk _ _ _ _ e) fun Q q=>call_range_2 q) .er) .er
noncomputable def Ed(a b c:SV):M SV:=gT a (fun i=>gT b (fun j=>gT c (fun k=>gd (!decide (k=0) && FW k) (rt (.pv (.rng i j k)))) er) er) er
theorem Vx:yJ K (fun v w u=>call (.type "range") [v,w,u]) Ed:=fun {A st} z a b c x y u dx dy du=>
 .onI (T:=fun x=>K.wp A (call (.type "range") [x,y,u])) dx (fun i t=>.onI (T:=fun y=>K.wp A (call (.type "range") [.int i t,y,u])) dy (fun j t'=>.onI (T:=fun u=>K.wp A (call (.type "range") [.int i t,.int j t',u])) du (fun k t''=>.gd fun e=>by
  have e:=hZ _ _▸e
  exact .fro _ _ (fun _ e=>.mk _ _ _ _ e) fun Q q=>call_range_3 (Cc e.1) q (.inl (Te e.2))) .er) .er) .er
end
noncomputable instance:DecidableEq PV:=fun a b=>SI (a=b)
noncomputable def eqL:List Nat→List Nat→Bool
 | [],[]=>true
 |a::as,b::bs=>match bV a b with
  |true=>eqL as bs
  |false=>false
 |_,_=>false
theorem jL{a b:List Nat}:eqL a b=true↔a=b:=by
 induction a generalizing b with
 |nil=>cases b with
  |nil=>exact⟨fun _=>rfl,fun _=>rfl⟩
  |cons=>exact⟨fun h=>(nomatch h),fun h=>nomatch h⟩
 |cons x a ih=>cases b with
  |nil=>exact⟨fun h=>(nomatch h),fun h=>nomatch h⟩
  |cons y b=>
   show(match bV x y with | true=>eqL a b | false=>false)=true↔_
   cases q:bV x y with
   |true=>cases sH q;exact ih.trans ⟨fun e=>e▸rfl,fun e=>(List.cons.inj e).2⟩
   |false=>exact⟨fun h=>(nomatch h),fun e=>absurd (List.cons.inj e).1 (Nat.ne_of_beq_eq_false q)⟩
noncomputable def eqI(a b:Int):Bool:=match a,b with
 |.ofNat a,.ofNat b=>bV a b
 |.negSucc a,.negSucc b=>bV a b
 |_,_=>false
theorem EF{a b:Int}:eqI a b=true↔a=b:=by
 cases a with
 |ofNat a=>cases b with
  |ofNat b=>exact⟨fun h=>congrArg Int.ofNat (sH h),fun h=>by cases h;exact DB a⟩
  |negSucc b=>exact⟨fun h=>absurd h mK,fun h=>Int.noConfusion h⟩
 |negSucc a=>cases b with
  |ofNat b=>exact⟨fun h=>absurd h mK,fun h=>Int.noConfusion h⟩
  |negSucc b=>exact⟨fun h=>congrArg Int.negSucc (sH h),fun h=>by cases h;exact DB a⟩
noncomputable def jC(x y:PV):Bool:=match x with
 |.int a=>match y with
  |.int b=>eqI a b
  |_=>false
 |.bytes a=>match y with
  |.bytes b=>eqL a b
  |_=>false
 |.str a=>match y with
  |.str b=>eqL a b
  |_=>false
 |x=>match FN x,FN y with
  |some (a,b),some (c,d)=>match eqL b d with
   |true=>a==c
   |false=>false
  |_,_=>false
theorem OM{p:PV}(h:KD.int.fits p):∃ i,p= .int i:=by cases p <;> first | exact⟨_,rfl⟩ | exact nomatch h
theorem OL{p:PV}(h:KD.bytes.fits p):∃ i,p= .bytes i:=by cases p <;> first | exact⟨_,rfl⟩ | exact nomatch h
theorem ON{p:PV}(h:KD.str.fits p):∃ i,p= .str i:=by cases p <;> first | exact⟨_,rfl⟩ | exact nomatch h
theorem ZE{p:PV}(h:KD.pair.fits p):∃ b l,p= .tup [.bool b,.bytes l]:=by
 have h:(FN p).isSome=true:=h
 unfold FN at h;split at h
 ·exact⟨_,_,rfl⟩
 ·exact eP h
theorem Aa{α:Type}{f:α→PV}(hf:∀ a b,f a=f b→a=b){a b:α}{c:Bool}(h:c=true↔a=b):c=true↔f a=f b:=h.trans ⟨fun e=>e▸rfl,hf a b⟩
theorem aHp{kd:KD}{a b:PV}(ha:kd.fits a)(hb:kd.fits b):jC a b=true↔a=b:=by
 cases kd with
 |int=>obtain⟨i,rfl⟩:=OM ha;obtain⟨j,rfl⟩:=OM hb;exact Aa (fun _ _=>PV.int.inj) EF
 |bytes=>obtain⟨i,rfl⟩:=OL ha;obtain⟨j,rfl⟩:=OL hb;exact Aa (fun _ _=>PV.bytes.inj) jL
 |str=>obtain⟨i,rfl⟩:=ON ha;obtain⟨j,rfl⟩:=ON hb;exact Aa (fun _ _=>PV.str.inj) jL
 |pair=>
  obtain⟨x,l,rfl⟩:=ZE ha;obtain⟨y,m,rfl⟩:=ZE hb
  show(match eqL l m with | true=>x==y | false=>false)=true↔_
  cases h:eqL l m with
  |true=>cases jL.mp h;exact beq_iff_eq.trans ⟨fun e=>e▸rfl,fun e=>by cases e;rfl⟩
  |false=>exact⟨fun h=>(nomatch h),fun e=>by cases e;rw [jL.mpr rfl] at h;cases h⟩
theorem PJ{kd:KD}{a b:PV}(ha:kd.fits a)(hb:kd.fits b):jC a b=decide (a=b):=by
 rw [qS,aHp ha hb,decide_eq_true_eq]
section
variable{α:Type}
noncomputable def dR:List PV→List α→PV→Option α
 |k::ks,v::vs,p=>match jC k p with
  |true=>some v
  |false=>dR ks vs p
 |_,_,_=>none
noncomputable def dhas:List PV→PV→Bool
 |k::ks,p=>match jC k p with
  |true=>true
  |false=>dhas ks p
 | [],_=>false
noncomputable def vG:List PV→List α→PV→α→List α
 |k::ks,v::vs,p,y=>match jC k p with
  |true=>y::vs
  |false=>v::vG ks vs p y
 |_,vs,_,_=>vs
noncomputable def dZ(ks:List PV)(vs:List α)(p:PV)(y:α):List PV×List α:=match dhas ks p with
 |true=>(ks,vG ks vs p y)
 |false=>(ks++[p],vs++[y])
end
structure KB(C:Cx)(kd:KD){K:Type}[DecidableEq K](κ:HA C.prog C.w K)(enc:K→PV):Prop where
 inj:∀ {a b:K},enc a=enc b→a=b
 den:∀ {W:Addr→Option bU} {k:K} {v:aB},bF C W (enc k) v↔κ.is k v=true
 ex:∀ {W:Addr→Option bU} {p:PV} {v:aB},kd.fits p→bF C W p v→∃ k,p=enc k
 hash:∀ k,zM C kd (enc k)=κ.hash k
 fits:∀ k,kd.fits (enc k)
theorem QA(l:List UInt8):(l.map cJ).map tW=l:=by
 rw [iY,show(tW∘cJ)=id from funext fun x=>UInt8.ofNat_toNat,GQ]
theorem JK{a b:List UInt8}(h:a.map cJ=b.map cJ):a=b:=by
 rw [←QA a,h,QA]
theorem xR(x:Str):(⟨x.cps.toList.toArray⟩:Str)=x:=rfl
theorem aHl(C:Cx):KB C .int (intKind C.prog C.w) PV.int where
 inj h:=PV.int.inj h
 den {W k v}:=⟨fun d=>by cases d;exact intKind_is ..,fun h=>by
  have h:v.isInt k=true:=h
  cases v with
  |int i t=>cases (show i=k by simpa [Value.isInt] using h);exact .mk t
  |_=>cases h⟩
 ex f _:=OM f
 hash _:=rfl
 fits _:=rfl
noncomputable def aEO(x:Str):PV:=.str x.cps.toList
noncomputable def aEN(l:List UInt8):PV:=.bytes (l.map cJ)
theorem LD{l:List Nat}{v:aB}(d:lQ l v):∃ x t,v= .str x t∧x.cps.toList=l:=by cases d with | mk x t=>exact⟨x,t,rfl,rfl⟩
theorem wQ{l:List Nat}{v:aB}(d:iU l v):∃ b t,v= .bytes b t∧b.toList.map cJ=l:=by cases d with | mk b t=>exact⟨b,t,rfl,rfl⟩
theorem aHm(C:Cx):KB C .str (strKind C.prog C.w) aEO where
 inj {a b} h:=by rw [←xR a,←xR b,PV.str.inj h]
 den {W k v}:=⟨fun d=>by
  obtain⟨x,t,rfl,e⟩:=LD d
  cases (show x=k by rw [←xR x,←xR k,e]);exact strKind_is ..,fun h=>by obtain⟨t,rfl⟩:=Value.isStrOf_shape h;exact .mk k t⟩
 ex f d:=by
  obtain⟨l,rfl⟩:=ON f
  obtain⟨x,t,rfl,rfl⟩:=LD d
  exact⟨x,rfl⟩
 hash k:=by show(strKind C.prog C.w).hash ⟨k.cps.toList.toArray⟩=_;rw [xR]
 fits _:=rfl
theorem aHk(C:Cx):KB C .bytes (AZ C.prog C.w) aEN where
 inj h:=JK (PV.bytes.inj h)
 den {W k v}:=⟨fun d=>by
  obtain⟨b,t,rfl,e⟩:=wQ d
  cases JK e;show(b.toList==b.toList)=true;exact beq_self_eq_true _,fun h=>by
  obtain⟨t,rfl⟩:=PG h
  exact iU.mk k.toArray t⟩
 ex f d:=by
  obtain⟨l,rfl⟩:=OL f
  obtain⟨b,t,rfl,rfl⟩:=wQ d
  exact⟨b.toList,rfl⟩
 hash k:=by show(AZ C.prog C.w).hash ((k.map cJ).map tW)=_;rw [QA]
 fits _:=rfl
noncomputable abbrev W0:Addr→Option bU:=fun _=>none
noncomputable def NO(C:Cx)(kd:KD)(p:PV)(v:aB):Bool:=@decide (kd.fits p∧bF C W0 p v) (SI _)
theorem XQ{C:Cx}{kd:KD}{p:PV}{v:aB}:NO C kd p v=true↔kd.fits p∧bF C W0 p v:=@decide_eq_true_iff _ (SI _)
theorem KB.key{C:Cx}{kd:KD}{K:Type}[DecidableEq K]{κ:HA C.prog C.w K}{enc:K→PV}(B:KB C kd κ enc){p:PV}{v:aB}(h:NO C kd p v=true):∃ k,p=enc k∧κ.is k v=true:=by
 have h:=XQ.mp h
 obtain⟨k,rfl⟩:=B.ex h.1 h.2
 exact⟨k,rfl,B.den.mp h.2⟩
noncomputable def Ds{C:Cx}{kd:KD}{K:Type}[DecidableEq K]{κ:HA C.prog C.w K}{enc:K→PV}(B:KB C kd κ enc):HA C.prog C.w PV where
 is:=NO C kd
 hash:=zM C kd
 inj v a b ha hb:=by
  obtain⟨k,rfl,h1⟩:=B.key ha
  obtain⟨k',rfl,h2⟩:=B.key hb
  exact(κ.inj v k k' h1 h2).symm▸rfl
 byValue p v h:=by obtain⟨k,rfl,h1⟩:=B.key h;exact κ.byValue k v h1
 pyHash {A E s p v Q} h q:=by obtain⟨k,rfl,h1⟩:=B.key h;rw [B.hash] at q;exact κ.pyHash h1 q
 eqBool {A E s a b u v Q} ha hb q:=by
  obtain⟨k,rfl,h1⟩:=B.key ha
  obtain⟨k',rfl,h2⟩:=B.key hb
  refine κ.eqBool h1 h2 ?_
  rwa [show decide (enc k=enc k')=decide (k=k') from decide_eq_decide.mpr ⟨B.inj,fun e=>e▸rfl⟩] at q
 «strs» p x t v h:=by
  obtain⟨k,rfl,h1⟩:=B.key h
  rw [←κ.strs k x t v h1,qS,XQ,←B.den (W:=W0)]
  exact⟨fun h=>h.2,fun h=>⟨B.fits k,h⟩⟩
noncomputable def kk(C:Cx):KD→HA C.prog C.w PV
 |.bytes=>Ds (aHk C)
 |.str=>Ds (aHm C)
 |_=>Ds (aHl C)
noncomputable def gL:KD→Bool
 |.pair=>true
 |_=>false
theorem zN{C:Cx}{kd:KD}(h:gL kd=false){W:Addr→Option bU}{p:PV}{v:aB}:(kk C kd).is p v=true↔kd.fits p∧bF C W p v:=by
 have e:(kk C kd).is p v=NO C kd p v∧(kd.fits p→(bF C W0 p v↔bF C W p v)):=by
  cases kd with
  |int=>exact⟨rfl,fun f=>by obtain⟨i,rfl⟩:=OM f;exact Iff.rfl⟩
  |bytes=>exact⟨rfl,fun f=>by obtain⟨i,rfl⟩:=OL f;exact Iff.rfl⟩
  |str=>exact⟨rfl,fun f=>by obtain⟨i,rfl⟩:=ON f;exact Iff.rfl⟩
  |pair=>exact eP h
 rw [e.1,XQ];exact and_congr_right e.2
theorem Qz{C:Cx}{kd:KD}(h:gL kd=false):(kk C kd).hash=zM C kd:=by
 cases kd with
 |pair=>exact eP h
 |_=>rfl
section
variable{C:Cx}{kd:KD}{W:Addr→Option bU}{α:Type}{P:α→aB→Prop}
theorem aJs(h:gL kd=false)(es:List qC):∀ {ks:List PV} {vs:List α},aS (bF C W) ks (es.map (·.key))→aS P vs (es.map (·.val))→(∀ k∈ks,kd.fits k)→Pairs (kk C kd) es (ks.zip (es.map (·.val)))∧ks.length=es.length:=by
 induction es with
 |nil=>intro ks vs hk hv hf;cases ks with
  |nil=>exact⟨.nil,rfl⟩
  |cons=>cases hk
 |cons e es ih=>intro ks vs hk hv hf;cases ks with
  |nil=>cases hk
  |cons k ks=>cases vs with
   |nil=>cases hv
   |cons v vs=>cases hk with | mk w ws d hk=>cases hv with | mk w' ws' _ hv=>
    obtain⟨a,b⟩:=ih hk hv fun k hm=>hf k (.tail _ hm)
    exact⟨.cons ((zN h).mpr ⟨hf _ (.head _),d⟩) rfl a,congrArg lN b⟩
theorem Au{es:List qC}{kvs:List (PV×aB)}(h:gL kd=false)(pr:Pairs (kk C kd) es kvs):aS (bF C W) (kvs.map (·.1)) (es.map (·.key))∧es.map (·.val)=kvs.map (·.2)∧(∀ k∈kvs.map (·.1),kd.fits k)∧(es.map (·.hash)=(kvs.map (·.1)).map (zM C kd)↔∀ e∈es,∃ k,(kk C kd).is k e.key=true∧e.hash=(kk C kd).hash k):=by
 induction pr with
 |nil=>exact⟨rfl,rfl,fun _ h=>(nomatch h),fun _ _ h=>(nomatch h),fun _=>rfl⟩
 | @cons e kv es kvs a b _ ih=>
  obtain⟨h1,h2,h3,h4⟩:=ih
  have da:=(zN (W:=W) h).mp a
  refine⟨.mk da.2 h1,by rw [iX,iX,h2,b],fun k hk=> ?_,fun hh x hx=> ?_,fun hh=> ?_⟩
  ·cases hk with
   |head=>exact da.1
   |tail _ hk=>exact h3 k hk
  ·rw [iX,iX,iX] at hh
   injection hh with e1 e2
   cases hx with
   |head=>exact⟨_,a,by rw [e1,Qz h]⟩
   |tail _ hx=>exact h4.mp e2 x hx
  ·obtain⟨k,hk,he⟩:=hh e (.head _)
   rw [iX,iX,iX,h4.mpr fun x hx=>hh x (.tail _ hx),he,Qz h,(kk C kd).inj _ _ _ hk a]
theorem sD{ks:List PV}{vs:List aB}(h:ks.length=vs.length):(ks.zip vs).map (·.1)=ks:=List.map_fst_zip (dS h)
theorem Gq{ks:List PV}{vs:List aB}(h:ks.length=vs.length):(ks.zip vs).map (·.2)=vs:=List.map_snd_zip (dS h.symm)
theorem EB{hp:Heap}{a:Addr}{o:Obj}{ks:List PV}{vs:List α}(h:gL kd=false)(ho:hp.get? a=some o)(d:iK C kd ks (aS (bF C W) ks) (aS P vs) o):∃ vals,aS P vs vals∧ks.length=vals.length∧hp.DictOf (kk C kd) a (ks.zip vals):=by
 cases d with | mk es ep hc hd hk hv hh hf hn=>
 obtain⟨pr,hl⟩:=aJs h es.toList hk hv hf
 have hl:ks.length=(es.toList.map (·.val)).length:=by rw [bT];exact hl
 refine⟨_,hv,hl,o,es,ep,ho,hc,hd,fun e he=>(Au (W:=W) h pr).2.2.2.mp (by rw [sD hl];exact hh) e (Array.mem_toList_iff.mpr he),pr,by rw [sD hl];exact hn⟩
theorem Cq{hp:Heap}{a:Addr}{kvs:List (PV×aB)}{vs:List α}(h:gL kd=false)(x:hp.DictOf (kk C kd) a kvs)(d:aS P vs (kvs.map (·.2))):∃ o,hp.get? a=some o∧iK C kd (kvs.map (·.1)) (aS (bF C W) (kvs.map (·.1))) (aS P vs) o:=by
 obtain⟨o,es,ep,ho,hc,hd,hk,pr,hn⟩:=x
 obtain⟨h1,h2,h3,h4⟩:=Au (W:=W) h pr
 exact⟨o,ho,.mk es ep hc hd h1 (h2▸d) (h4.mpr fun e he=>hk e (Array.mem_toList_iff.mp he)) h3 hn⟩
end
section
variable{α:Type}{P:α→aB→Prop}{kd:KD}{ks:List PV}{vs:List α}{vals:List aB}{p:PV}{y:α}{v:aB}
noncomputable def pI(P:α→aB→Prop):Option α→Option aB→Prop
 |some y,some v=>P y v
 |none,none=>True
 |_,_=>False
theorem pI.some(h:pI P (some y) o):∃ v,o=Option.some v∧P y v:=by
 cases o with
 |none=>exact h.elim
 |some v=>exact⟨v,rfl,h⟩
theorem pI.none(h:pI P none o):o=Option.none:=by
 cases o with
 |none=>rfl
 |some v=>exact h.elim
theorem pI.isSome(h:pI P r o):r.isSome=o.isSome:=by
 cases r with
 |none=>rw [h.none];rfl
 |some y=>obtain⟨v,rfl,_⟩:=h.some;rfl
noncomputable def CG(f:α→SV)(c:SV):Option α→SV
 |some y=>f y
 |none=>c
theorem pI.orD{P':SV→aB→Prop}(h:pI P r o)(hf:∀ y v,P y v→P' (f y) v)(hc:P' c w):P' (CG f c r) (o.getD w):=by
 cases r with
 |none=>exact(h.none).symm▸hc
 |some y=>obtain⟨v,rfl,d⟩:=h.some;exact hf _ _ d
theorem aPH:qR ((k,v)::r) p=if k=p then some v else qR r p:=by
 unfold qR;rw [List.find?_cons]
 by_cases h:k=p
 ·rw [if_pos h,decide_eq_true h];rfl
 ·rw [if_neg h,decide_eq_false h]
theorem Lz(hf:∀ k∈ks,kd.fits k)(hp:kd.fits p)(d:aS P vs vals)(hl:ks.length=vals.length):pI P (dR ks vs p) (qR (ks.zip vals) p):=by
 induction ks generalizing vs vals with
 |nil=>exact trivial
 |cons k ks ih=>cases vs with
  |nil=>subst d;cases hl
  |cons v vs=>cases d with | mk w ws a as=>
   rw [List.zip_cons_cons,aPH]
   show pI P (match jC k p with | true=>some v | false=>dR ks vs p) _
   rw [PJ (hf _ (.head _)) hp]
   by_cases h:k=p
   ·rw [if_pos h,decide_eq_true h];exact a
   ·rw [if_neg h,decide_eq_false h];exact ih (fun k hk=>hf k (.tail _ hk)) as (wA hl)
theorem aEs(hf:∀ k∈ks,kd.fits k)(hp:kd.fits p)(hl:ks.length=vals.length):(ks.zip vals).any (fun kv=>decide (kv.1=p))=dhas ks p:=by
 induction ks generalizing vals with
 |nil=>rfl
 |cons k ks ih=>cases vals with
  |nil=>cases hl
  |cons v vals=>
   show(decide (k=p) || (ks.zip vals).any _)=(match jC k p with | true=>true | false=>dhas ks p)
   refine(PJ (hf _ (.head _)) hp).symm▸(ih (fun k hk=>hf k (.tail _ hk)) (wA hl)).symm▸?_
   cases decide (k=p) <;> rfl
theorem aEH(hf:∀ k∈ks,kd.fits k)(hp:kd.fits p)(hl:ks.length=vals.length)(hn:ks.Nodup):(ks.zip vals).map (fun kv=>if kv.1=p then(kv.1,v) else kv)=ks.zip (vG ks vals p v):=by
 induction ks generalizing vals with
 |nil=>rfl
 |cons k ks ih=>cases vals with
  |nil=>cases hl
  |cons w vals=>
   have hn:=List.nodup_cons.mp hn
   have hl:=wA hl
   rw [List.zip_cons_cons,iX]
   show _=(k::ks).zip (match jC k p with | true=>v::vals | false=>w::vG ks vals p v)
   rw [PJ (hf _ (.head _)) hp]
   by_cases h:k=p
   ·rw [if_pos h,decide_eq_true h,map_store_of_not_mem _ _ _ ((sD hl).symm▸(h)▸hn.1)];rfl
   ·rw [if_neg h,decide_eq_false h,ih (fun k hk=>hf k (.tail _ hk)) hl hn.2];rfl
theorem aEG:∀ {ks:List PV} {vs:List α},(vG ks vs p y).length=vs.length:=by
 intro ks
 induction ks with
 |nil=>exact fun {vs}=>by cases vs <;> rfl
 |cons k ks ih=>intro vs;cases vs with
  |nil=>rfl
  |cons v vs=>
   show(match jC k p with | true=>y::vs | false=>v::vG ks vs p y).length=_
   cases jC k p with
   |true=>rfl
   |false=>exact congrArg lN ih
theorem aEF(dy:P y v)(ks:List PV):∀ {vs:List α} {vals:List aB},aS P vs vals→aS P (vG ks vs p y) (vG ks vals p v):=by
 induction ks with
 |nil=>intro vs vals d;cases vs with
  |nil=>subst d;exact rfl
  |cons=>cases d with | mk w ws a as=>exact .mk a as
 |cons k ks ih=>intro vs vals d;cases vs with
  |nil=>subst d;exact rfl
  |cons v' vs=>cases d with | mk w ws a as=>
   show aS P (match jC k p with | true=>y::vs | false=>v'::vG ks vs p y) (match jC k p with | true=>v::ws | false=>w::vG ks ws p v)
   cases jC k p with
   |true=>exact .mk dy as
   |false=>exact .mk a (ih as)
theorem XR(hf:∀ k∈ks,kd.fits k)(hp:kd.fits p)(d:aS P vs vals)(hl:ks.length=vals.length)(hn:ks.Nodup)(dy:P y v):(dZ ks vs p y).1=(pY (ks.zip vals) p v).map (·.1)∧aS P (dZ ks vs p y).2 ((pY (ks.zip vals) p v).map (·.2)):=by
 have e:pY (ks.zip vals) p v=(dZ ks vals p v).1.zip (dZ ks vals p v).2∧(dZ ks vals p v).1.length=(dZ ks vals p v).2.length∧(dZ ks vs p y).1=(dZ ks vals p v).1∧aS P (dZ ks vs p y).2 (dZ ks vals p v).2:=by
  unfold pY dZ;refine(aEs hf hp hl).symm▸?_
  cases dhas ks p with
  |true=>exact⟨aEH hf hp hl hn,hl.trans aEG.symm,rfl,aEF dy ks d⟩
  |false=>exact⟨by show ks.zip vals++[(p,v)]=(ks++[p]).zip (vals++[v]);rw [List.zip_append hl];rfl,by rw [fH,fH,hl];rfl,rfl,d.app (.one dy)⟩
 exact(e.1).symm▸(sD e.2.1).symm▸(Gq e.2.1).symm▸e.2.2
noncomputable def kG(kd:KD)(p:PV):Bool:=match gL kd with
 |true=>false
 |false=>kd.fitsB p
theorem JE(h:kG kd p=true):gL kd=false∧kd.fits p:=by
 unfold kG at h
 cases q:gL kd with
 |true=>rw [q] at h;exact eP h
 |false=>rw [q] at h;exact⟨rfl,h⟩
end
section
variable{K:KK}{A:aR}{st:St}{z:Z K A st}{α β:Type}{D:Dn α β}{T:aB→WP β}{a b:SV}{x y:aB}{P:α→aB→Prop}
theorem JD(q:kG kd p=true)(d:bF K.C z.X.W p y):(kk K.C kd).is p y=true:=(zN (JE q).1).mpr ⟨(JE q).2,d⟩
theorem JV{hp:Heap}(q:kG kd p=true)(ho:hp.get? l=some o)(d:iK K.C kd ks (bQ K.C z.X ks) (aS P vs) o):
  ∃ vals,hp.DictOf (kk K.C kd) l (ks.zip vals)∧pI P (dR ks vs p) (qR (ks.zip vals) p)∧(ks.zip vals).length=ks.length∧∀ {v:α} {y:aB},P v y→(dZ ks vs p v).1=(pY (ks.zip vals) p y).map (·.1)∧aS P (dZ ks vs p v).2 ((pY (ks.zip vals) p y).map (·.2)):=by
 have hk:=JE q
 obtain⟨vals,d',hl,hd⟩:=EB hk.1 ho d
 cases d with | mk es ep hc hd' _ _ hh hf hn=>
 exact⟨vals,hd,Lz hf hk.2 d' hl,by rw [←bT,sD hl],fun dy=>XR hf hk.2 d' hl hn dy⟩
theorem Dr{hp:Heap}(q:kG kd p=true){r:List PV×List α}(hd:hp.DictOf (kk K.C kd) l kvs)(e:r.1=kvs.map (·.1)∧aS P r.2 (kvs.map (·.2))):∃ o,hp.get? l=some o∧iK K.C kd r.1 (bQ K.C z.X r.1) (aS P r.2) o:=by
 rw [e.1];exact Cq (JE q).1 hd e.2
noncomputable def JY(a b:SV)(k:Option PV→M α):M α:=kJ a (fun kd ks vs=>lK b fun p=>gd (kG kd p) (k (dR ks vs p))) er
theorem Go.onF{k:Option PV→M α}(dx:z.d dV a x)(dy:z.d dV b y)(h:∀ kd p l kvs r,(kk K.C kd).is p y=true→(l==rZ)=false→z.s.heap.DictOf (kk K.C kd) l kvs→pI (bF K.C z.X.W) r (qR kvs p)→Go z D (T (.ref l)) (k r st)):Go z D (T x) (JY a b k st):=
 .onD (T:=T) dx (fun kd ks vs l o ns ho d=>.onP (T:=fun _=>T (.ref l)) dy fun p dp=>.gd fun q=>by
  obtain⟨vals,hd,f,_⟩:=JV q ho d
  exact h kd p l _ _ (JD q dp) ns hd f) .er
noncomputable def QK(a b:SV)(k:Option SV→M α):M α:=CD a (fun _ kd ks vs=>lK b fun p=>gd (kG kd p) (k (dR ks vs p))) er
theorem Go.onFS{k:Option SV→M α}(dx:z.d dV a x)(dy:z.d dV b y)(h:∀ kd p l kvs r,(kk K.C kd).is p y=true→(l==rZ)=false→z.s.heap.DictOf (kk K.C kd) l kvs→pI (fK K.C z.X st.cells.length) r (qR kvs p)→Go z D (T (.ref l)) (k r st)):Go z D (T x) (QK a b k st):=
 .onSC (T:=T) dx (fun i kd ks vs o hw ho d=>.onP (T:=fun _=>T (.ref (z.X.ρ i))) dy fun p dp=>.gd fun q=>by
  obtain⟨vals,hd,f,_⟩:=JV q ho d
  exact h kd p _ _ _ (JD q dp) (z.noSys hw) hd f) .er
theorem Go.tok1{a:α}{x:β}(d:z.d D a x)(h:∀ Q,Q x {z.s with toks:=n}→w Q z.s):Go z D w (some (a,st)):=.ret (z.tok n) Z.le0 d h
noncomputable def cX(a:SV):M Unit:=kJ a (fun _ _ _=>rt ()) er
theorem NV{s:aG}(ho:s.heap.get? l=some o)(d:iK K.C kd ks p q o):s.TypeIs (.ref l) "dict"∧∀ r,qE l= .ref r→∃ ob,s.heap.get? r=some ob∧ob.dict=none:=by
 cases d with | mk es ep hc hd=>exact⟨⟨_,ho,hc.1⟩,fun r e=>by cases e;exact⟨_,ho,hc.2.1⟩⟩
theorem pC:sN K "dict" cX:=fun {A st} z a x d=>
 .onD (T:=fun x Q s=>s.TypeIs x "dict"∧(∀ l,x= .ref l→∃ ob,s.heap.get? l=some ob∧ob.dict=none)∧Q () s) d (fun kd ks vs l o ns ho d=>.same trivial fun Q q=>⟨(NV ho d).1,(NV ho d).2,q⟩) .er
noncomputable def Ae(a:SV):M Unit:=CD a (fun _ _ _ _=>rt ()) er
theorem Ur:sN K "dict" Ae:=fun {A st} z a x d=>
 .onSC (T:=fun x Q s=>s.TypeIs x "dict"∧(∀ l,x= .ref l→∃ ob,s.heap.get? l=some ob∧ob.dict=none)∧Q () s) d (fun i kd ks vs o hw ho d=>.same trivial fun Q q=>⟨(NV ho d).1,(NV ho d).2,q⟩) .er
theorem rS:mL "dict" "get" "dict.get":=⟨Gy,F.slot_dict_get,F.type_dict_get⟩
theorem aIq:mL "dict" "setdefault" "dict.setdefault":=⟨Gy,F.slot_dict_setdefault,F.type_dict_setdefault⟩
theorem aFY{kvs:List (PV×aB)}{a:SV}(hk:(kk K.C kd).is p y=true)(ns:(l==rZ)=false)(hd:z.s.heap.DictOf (kk K.C kd) l kvs)(d:z.d dV a ((qR kvs p).getD .none)):Go z dV (K.wp A (call (.builtin "dict.get") [.ref l,y])) (rt a st):=
 .tok1 d fun Q q=>NI F.slot_dict_get hd.typeIs F.entry_dict_get (F.args_dict_get_2 _ _) (meets_dict_get (kk K.C kd) l hk ns) ⟨_,hd.mapOf,q⟩
theorem Oh{kvs:List (PV×aB)}{a:SV}(hk:(kk K.C kd).is p y=true)(ns:(l==rZ)=false)(hd:z.s.heap.DictOf (kk K.C kd) l kvs)(d:z.d dV a ((qR kvs p).getD u)):Go z dV (K.wp A (call (.builtin "dict.get") [.ref l,y,u])) (rt a st):=
 .tok1 d fun Q q=>NI F.slot_dict_get hd.typeIs F.entry_dict_get (F.args_dict_get_3 _ _ _) (meets_dict_get_default (kk K.C kd) l hk ns u) ⟨_,hd.mapOf,q⟩
noncomputable def dY(a b:SV):M SV:=JY a b fun r=>rt (CG .pv (.pv .none) r)
theorem vP:gG K (fun x y=>call (.builtin "dict.get") [x,y]) dY:=fun {A st} z a b x y dx dy=>
 .onF (T:=fun x=>K.wp A (call (.builtin "dict.get") [x,y])) dx dy fun kd p l kvs r hk ns hd f=>aFY hk ns hd (f.orD (P':=z.d dV) (fun _ _ h=>h) rfl)
noncomputable def Lr(a b c:SV):M SV:=JY a b fun r=>rt (CG .pv c r)
theorem aLl:yJ K (fun x y u=>call (.builtin "dict.get") [x,y,u]) Lr:=fun {A st} z a b c x y u dx dy du=>
 .onF (T:=fun x=>K.wp A (call (.builtin "dict.get") [x,y,u])) dx dy fun kd p l kvs r hk ns hd f=>Oh hk ns hd (f.orD (P':=z.d dV) (fun _ _ h=>h) du)
noncomputable def We(a b c:SV):M SV:=QK a b fun r=>rt (CG id c r)
theorem aLL:yJ K (fun x y u=>call (.builtin "dict.get") [x,y,u]) We:=fun {A st} z a b c x y u dx dy du=>
 .onFS (T:=fun x=>K.wp A (call (.builtin "dict.get") [x,y,u])) dx dy fun kd p l kvs r hk ns hd f=>Oh hk ns hd (f.orD (P':=z.d dV) (fun _ _ h=>h) du)
theorem Qh{kvs:List (PV×aB)}{a:SV}(hk:(kk K.C kd).is p y=true)(hd:z.s.heap.DictOf (kk K.C kd) l kvs)(hv:qR kvs p=some v)(d:z.d dV a v):Go z dV (pF K A (.ref l) y) (rt a st):=
 .tok1 d fun Q q=>⟨"dict",_,hd.typeIs,F.slot_dict_getitem.lookup,wpAny_getItem_of hk hd.mapOf hv q⟩
noncomputable def Ah(a b:SV):M SV:=JY a b fun r=>eZ r fun y=>rt (.pv y)
theorem aLp:wJ K Ah:=fun {A st} z a b x y dx dy=>
 .onF (T:=fun x=>pF K A x y) dx dy fun kd p l kvs r hk ns hd f=>.onSome fun v e=>by subst e;obtain⟨w,hv,d⟩:=f.some;exact Qh hk hd hv d
noncomputable def Ai(a b:SV):M SV:=QK a b fun r=>eZ r fun y=>rt y
theorem aLr:wJ K Ai:=fun {A st} z a b x y dx dy=>
 .onFS (T:=fun x=>pF K A x y) dx dy fun kd p l kvs r hk ns hd f=>.onSome fun v e=>by subst e;obtain⟨w,hv,d⟩:=f.some;exact Qh hk hd hv d
theorem aGI{M:jR}(h:aI M A (BD c v) (fun b=>Q (.bool b)) E s):aI M A (eW .In v c) Q E s:=aF (fX h fun _ _ z=>bG z)
theorem aIX{M:jR}(h:aI M A (BD c v) (fun b=>Q (.bool (!b))) E s):aI M A (eW .NotIn v c) Q E s:=aF (fX h fun _ _ z=>bG z)
noncomputable def HE(K:KK)(f:SV→SV→M Bool):Prop:=∀ {A:aR} {st:St} (z:Z K A st) {a b:SV} {x y:aB},z.d dV a x→z.d dV b y→Go z dB (K.wp A (BD y x)) (f a b st)
theorem Eg{f:SV→SV→M Bool}(h:HE K f):kC K (eW .In) f:=fun z a b x y dx dy r s e Q q=>aGI (h z dx dy r s e _ fun z' x l d=>by cases (d:_=_);exact q z' _ l rfl)
noncomputable def sX(f:SV→SV→M Bool)(a b:SV):M Bool:=bd (f a b) fun r=>rt (!r)
theorem Ei{f:SV→SV→M Bool}(h:HE K f):kC K (eW .NotIn) (sX f):=fun z a b x y dx dy=>
 (h z dx dy).ruB (u:=fun r Q=>Q (.bool (!r))) (fun Q q=>aIX q) fun z₁ l₁=>.rt rfl fun Q q=>q
noncomputable def zK(a b:SV):M Bool:=JY b a fun r=>rt r.isSome
theorem Vs:HE K zK:=fun {A st} z a b x y dx dy=>
 .onF (T:=fun y=>K.wp A (BD y x)) dy dx fun kd p l kvs r hk ns hd f=>.tok1 (x:=(qR kvs p).isSome) (f.isSome:_=_) fun Q q=>
  Gg hd.typeIs SM (NI SM hd.typeIs F.entry_dict_contains (F.args_dict_contains_2 _ _) (meets_dict_contains (kk K.C kd) l hk ns) ⟨_,hd.mapOf,uM q⟩)
theorem ZD(q:(kG kd p && decide (n≤1000000))=true):kG kd p=true∧n≤fR:=by
 have q:=hZ _ _▸q;exact⟨q.1,gM (of_decide_eq_true q.2)⟩
noncomputable def Wk(a b c:SV):M Unit:=xK a (fun k kd ks vs=>lK b fun p=>lK c fun y=>gd (kG kd p && decide (ks.length≤1000000)) fun st=>some ((),fG st k (.dict kd (dZ ks vs p y).1 (dZ ks vs p y).2))) er
theorem aFl{h:Heap}{p:Obj→Prop}(x:∃ o,h.get? l=some o∧p o):∃ o,h.get? l=some o:=x.imp fun _ q=>q.1
theorem aBr(hw:X.W (X.ρ k)=some (.cell k))(x:∃ o,h.get? (X.ρ k)=some o∧p o):tL X k h p:=x.elim fun o q=>.mk o hw q.1 q.2
theorem Go.on{δ:Type}{D:Dn α δ}{w:WP δ}(h:∀ Q:δ→aG→Prop,(∀ a st',o=some (a,st')→∀(z':Z K A st') x,z.le z'→z'.d D a x→Q x z'.s)→w Q z.s):Go z D w o:=fun a st' e Q q=>h Q fun a' s' e'=>by rw [e] at e';obtain⟨rfl,rfl⟩:=gA e';exact q
theorem Z.setD(z:Z K A st){b:α}{x:β}(hw:z.X.W (z.X.ρ k)=some (.cell k))(g:uP (z.X.ρ k) z.s.heap h')(hx:∃ o,h'.get? (z.X.ρ k)=some o∧p o)(hc:tL z.X k h' p→jH K.C z.X st.cells.length k h' c)(d:D K.C z.X st.cells.length b x){Q:β→aG→Prop}(q:∀(z':Z K A (fG st k c)) x,z.le z'→z'.d D b x→Q x z'.s):Q x {z.s with heap:=h',toks:=t}:=
 Go.setC (z:=z) (D:=D) (w:=fun Q _=>Q x {z.s with heap:=h',toks:=t}) h' t hw g (aFl hx) (hc (aBr hw hx)) d (fun Q q=>q) b _ rfl Q q
theorem aLG:wI K Wk:=fun {A st} z a b c x y u dx dy du=>
 .onDC (T:=fun x=>K.wp A (rX x y u)) dx (fun k kd ks vs o hw ho d=>.onP (T:=fun y=>K.wp A (rX (.ref (z.X.ρ k)) y u)) dy fun p dp=>.onP (T:=fun u=>K.wp A (rX (.ref (z.X.ρ k)) y u)) du fun w dw=>.gd fun q=>by
  have q:=ZD q
  obtain⟨vals,hd,f,hl,pu⟩:=JV q.1 ho d
  exact .on fun Q q'=>wpAny_setItem_pairs (JD q.1 dp) hd (fun h' hd' sb=>z.setD (D:=dU) hw sb (Dr q.1 hd' (pu dw)) id trivial (q' _ _ rfl)) (by rw [hl];exact q.2)) .er
noncomputable def Eo(a b c:SV):M Unit:=CD a (fun k kd ks vs=>lK b fun p=>gd (kG kd p && decide (ks.length≤1000000)) fun st=>some ((),fG st k (.sdict kd (dZ ks vs p c).1 (dZ ks vs p c).2))) er
theorem aLJ:wI K Eo:=fun {A st} z a b c x y u dx dy du=>
 .onSC (T:=fun x=>K.wp A (rX x y u)) dx (fun k kd ks vs o hw ho d=>.onP (T:=fun y=>K.wp A (rX (.ref (z.X.ρ k)) y u)) dy fun p dp=>.gd fun q=>by
  have q:=ZD q
  obtain⟨vals,hd,f,hl,pu⟩:=JV (z:=z) q.1 ho d
  exact .on fun Q q'=>wpAny_setItem_pairs (JD q.1 dp) hd (fun h' hd' sb=>z.setD (D:=dU) hw sb (Dr q.1 hd' (pu du)) id trivial (q' _ _ rfl)) (by rw [hl];exact q.2)) .er
noncomputable def Wh(a b c:SV):M SV:=CD a (fun k kd ks vs=>lK b fun p=>gd (kG kd p && decide (ks.length≤1000000)) (match dR ks vs p with
 |some y=>rt y
 |none=>fun st=>some (c,fG st k (.sdict kd (dZ ks vs p c).1 (dZ ks vs p c).2)))) er
theorem aLK:yJ K (fun x y u=>call (.builtin "dict.setdefault") [x,y,u]) Wh:=fun {A st} z a b c x y u dx dy du=>
 .onSC (T:=fun x=>K.wp A (call (.builtin "dict.setdefault") [x,y,u])) dx (fun k kd ks vs o hw ho d=>.onP (T:=fun y=>K.wp A (call (.builtin "dict.setdefault") [.ref (z.X.ρ k),y,u])) dy fun p dp=>.gd fun q=>by
  have q:=ZD q
  obtain⟨vals,hd,f,hl,pu⟩:=JV (z:=z) q.1 ho d
  have go:∀ Q,(∀ v,qR (ks.zip vals) p=some v→Q v {z.s with toks:=z.s.toks+1})→(qR (ks.zip vals) p=none→∀ h',h'.DictOf (kk K.C kd) (z.X.ρ k) (pY (ks.zip vals) p u)→uP (z.X.ρ k) z.s.heap h'→Q u {z.s with heap:=h',toks:=z.s.toks+1})→K.wp A (call (.builtin "dict.setdefault") [.ref (z.X.ρ k),y,u]) Q z.s:=fun Q h1 h2=>
   NI F.slot_dict_setdefault hd.typeIs F.entry_dict_setdefault (F.args_dict_setdefault_3 _ _ _) (kt_meets_setdefault (kk K.C kd) _ (JD q.1 dp) (z.noSys hw) u) ⟨_,hd,by rw [hl];exact q.2,h1,h2⟩
  cases e:dR ks vs p with
  |some w=>
   rw [e] at f;obtain⟨w',hv,dw⟩:=f.some
   exact .tok1 dw fun Q q=>go Q (fun v hv'=>by rw [hv] at hv';obtain rfl:=bO hv';exact q) fun n=>by rw [hv] at n;cases n
  |none=>
   replace f:=(e)▸f
   exact .on fun Q q'=>go Q (fun v hv=>by rw [f.none] at hv;exact aT hv) fun _ h' hd' sb=>z.setD (D:=dV) hw sb (Dr q.1 hd' (pu du)) id du (q' _ _ rfl)) .er
noncomputable def Ri(a:SV):M SV:=kJ a (fun kd ks vs=>gd (!gL kd && decide (ks.length≤1000000)) (rt (.pv (.int ks.length)))) er
theorem aLy:jZ K (fun v=>call (.builtin "len") [v]) Ri:=fun {A st} z a x dx=>
 .onD (T:=fun x=>K.wp A (call (.builtin "len") [x])) dx (fun kd ks vs l o ns ho d=>.gd fun e=>by
  have e:=hZ _ _▸e
  obtain⟨vals,d',hl,hd⟩:=EB (by simpa using e.1) ho d
  have hz:(ks.zip vals).length=ks.length:=by rw [←bT,sD hl]
  exact .ret (z.tok (z.s.toks+1+1)) Z.le0 (EX (congrArg Nat.cast hz.symm) _) fun Q q=>call_len_dict ns hd (by rw [hz];exact PQ (of_decide_eq_true e.2)) q) .er
theorem Md(a:p [])(b:q []):iK C kd [] p q {cls:=.type "dict",data:=.dict #[]}:=.mk #[] 0 ⟨rfl,rfl,rfl⟩ rfl a b rfl (fun _ h=>(nomatch h)) pK
noncomputable def uH(kd:KD):M SV:=fun st=>some (.ref st.cells.length,⟨st.loc,st.cells++[.dict kd [] []]⟩)
noncomputable def Ta(kd:KD):M SV:=fun st=>some (.ref st.cells.length,⟨st.loc,st.cells++[.sdict kd [] []]⟩)
noncomputable def wH(kd:KD):PE K:=⟨uH kd,fun e=>.Dict [] [] e.pos,3,fun _=>rfl,fun e _ _ z=>.newC _ z.s.toks (By rfl (Md rfl rfl)) fun Q q=>wpAny_Dict_empty q⟩
noncomputable def aAC(kd:KD):PE K:=⟨Ta kd,fun e=>.Dict [] [] e.pos,3,fun _=>rfl,fun e _ _ z=>.newC _ z.s.toks (By rfl (Md rfl rfl)) fun Q q=>wpAny_Dict_empty q⟩
end
noncomputable abbrev zY(C:Cx):HeapKind C.prog C.w (List AM):=tupleKind (Bq C.prog C.w)
inductive MI(P:List AM→Prop):PV→Prop
 |mk (b:Bool) (l:List UInt8) (h:P [.inl b,.inr l]):MI P (.tup [.bool b,.bytes (l.map cJ)])
theorem MI.ex(h:MI P p):∃ b l,p= .tup [.bool b,.bytes (l.map cJ)]∧P [.inl b,.inr l]:=by
 cases h with | mk b l h=>exact⟨b,l,rfl,h⟩
theorem aJp(C:Cx)(b:Bool)(l:List UInt8):zM C .pair (.tup [.bool b,.bytes (l.map cJ)])=(zY C).hash [.inl b,.inr l]:=by
 show tupleKeyHash (Bq C.prog C.w) [.inl b,.inr ((l.map cJ).map tW)]=_
 rw [QA];rfl
noncomputable def xM(C:Cx):HeapKind C.prog C.w PV where
 is h p a:=MI (fun k=>(zY C).is h k a) p
 hash:=zM C .pair
 draws _:=3
 room:=(zY C).room
 inj hx hy:=by
  obtain⟨b,l,rfl,h⟩:=hx.ex
  obtain⟨b',l',rfl,h'⟩:=hy.ex
  cases (zY C).inj h h';rfl
 keeps x ho hd hs:=by cases x with | mk b l h=>exact .mk b l ((zY C).keeps h ho hd hs)
 pyHash hu hk q:=by cases hk with | mk b l h=>rw [aJp] at q;exact(zY C).pyHash hu h q
 eqBool {A E s x y a b Q} hu hx hy q:=by
  obtain⟨b,l,rfl,h⟩:=hx.ex
  obtain⟨b',l',rfl,h'⟩:=hy.ex
  refine(zY C).eqBool hu h h' ?_
  rwa [show decide (PV.tup [.bool b,.bytes (l.map cJ)]= .tup [.bool b',.bytes (l'.map cJ)])=decide (([.inl b,.inr l]:List AM)= [.inl b',.inr l']) from decide_eq_decide.mpr ⟨fun e=>by injection e with e;injection e with e1 e2;injection e1 with e1;injection e2 with e2;injection e2 with e2;rw [e1,JK e2],fun e=>by cases e;rfl⟩] at q
 quiet hk q:=by cases hk with | mk b l h=>exact(zY C).quiet h q
theorem Dd(hf:KD.pair.fits p)(d:bF C W p v):∃ a,v= .ref a∧∀ h:Heap,(∀ a o,W a=some (.fro o)→h.get? a=some o)→(xM C).is h p a:=by
 obtain⟨b,l,rfl⟩:=ZE hf
 cases d with | mk a vs ep hw hl=>
 cases hl with | mk v1 ws d1 hl=>
 cases hl with | mk v2 ws d2 hl=>
 subst d1;cases hl
 obtain⟨bb,t,rfl,rfl⟩:=wQ d2
 exact⟨a,rfl,fun h fro=>.mk b bb.toList ⟨_,_,_,fro _ _ hw,rfl,rfl,.cons (by show(b==b)=true;exact beq_self_eq_true _) (.cons (beq_self_eq_true (a:=bb.toList):isBytes bb.toList (.bytes bb t)=true) .nil)⟩⟩
theorem aGR(x:(xM C).is h p a):KD.pair.fits p:=by cases x;rfl
section
variable{C:Cx}{W:Addr→Option bU}{α:Type}{P:α→aB→Prop}
noncomputable abbrev zO(x:PV×Addr×aB):PV×aB:=(x.1,x.2.2)
theorem aJt(fro:∀ a o,W a=some (.fro o)→hp.get? a=some o)(es:List qC):∀ {ks:List PV},aS (bF C W) ks (es.map (·.key))→es.map (·.hash)=ks.map (zM C .pair)→(∀ k∈ks,KD.pair.fits k)→
  ∃ xs:List (PV×Addr×aB),xs.map (·.1)=ks∧es.map (·.val)=xs.map (·.2.2)∧es=xs.map (entryOfKey (xM C))∧(∀ x∈xs,bF C W x.1 (.ref x.2.1))∧∀ x∈xs,(xM C).is hp x.1 x.2.1:=by
 induction es with
 |nil=>intro ks hk _ _;cases ks with
  |nil=>exact⟨[],rfl,rfl,rfl,fun _ h=>(nomatch h),fun _ h=>(nomatch h)⟩
  |cons=>cases hk
 |cons e es ih=>intro ks hk hh hf;cases ks with
  |nil=>cases hk
  |cons k ks=>
   obtain⟨eh,ek,ev⟩:=e
   cases hk with | mk w ws d hk=>
   rw [iX,iX] at hh
   injection hh with h1 h2
   obtain⟨xs,e1,e2,e3,e4,e5⟩:=ih hk h2 fun k hm=>hf k (.tail _ hm)
   obtain⟨a,rfl,hi⟩:=Dd (hf _ (.head _)) d
   refine⟨(k,a,ev)::xs,congrArg _ e1,congrArg _ e2,?_,List.forall_mem_cons.mpr ⟨d,e4⟩,List.forall_mem_cons.mpr ⟨hi hp fro,e5⟩⟩
   rw [iX,←e3]
   exact congrArg (fun h=>(⟨h,.ref a,ev⟩:qC)::es) h1
theorem aBq{xs:List (PV×Addr×aB)}:qR (xs.map zO) p=(atKey xs p).map (·.2):=by
 unfold qR atKey;rw [List.find?_map,Option.map_map,Option.map_map];rfl
theorem aOR{xs:List (PV×Addr×aB)}:(storedH xs p a v).map zO=pY (xs.map zO) p v:=by
 unfold storedH pY
 have e:(atKey xs p).isSome=(xs.map zO).any fun kv=>decide (kv.1=p):=by
  unfold atKey;rw [Hq,List.isSome_find?,List.any_map];rfl
 refine(e).symm▸?_
 by_cases h:((xs.map zO).any fun kv=>decide (kv.1=p))=true
 ·rw [if_pos h,if_pos h,iY,iY]
  refine LX fun x _=> ?_
  show zO (putAt p v x)=if x.1=p then(x.1,v) else zO x
  unfold putAt
  by_cases q:x.1=p
  ·rw [if_pos q,if_pos q]
  ·rw [if_neg q,if_neg q]
 ·rw [if_neg h,if_neg h,cW];rfl
theorem aIk{xs:List (PV×Addr×aB)}{R:PV→Addr→Prop}(h:∀ x∈xs,R x.1 x.2.1)(h':R p a):∀ x∈storedH xs p a v,R x.1 x.2.1:=by
 intro x hx
 unfold storedH at hx
 by_cases q:(atKey xs p).isSome=true
 ·rw [if_pos q] at hx
  obtain⟨y,hy,rfl⟩:=List.mem_map.mp hx
  unfold putAt
  by_cases q:y.1=p
  ·rw [if_pos q];exact h y hy
  ·rw [if_neg q];exact h y hy
 ·rw [if_neg q,uR] at hx
  rcases hx with hx | hx
  ·exact h x hx
  ·cases List.mem_singleton.mp hx;exact h'
theorem aHt{xs:List (PV×Addr×aB)}(h:∀ x∈xs,bF C W x.1 (.ref x.2.1)):aS (bF C W) (xs.map (·.1)) (xs.map fun x=>.ref x.2.1):=by
 induction xs with
 |nil=>exact rfl
 |cons x xs ih=>exact .mk (h x (.head _)) (ih fun y hy=>h y (.tail _ hy))
theorem Uc{hp:Heap}(fro:∀ a o,W a=some (.fro o)→hp.get? a=some o)(q:KD.pair.fits p)(ho:hp.get? l=some o)(d:iK C .pair ks (aS (bF C W) ks) (aS P vs) o):
  ∃ xs,hp.DictOfH (xM C) l xs∧pI P (dR ks vs p) ((atKey xs p).map (·.2))∧xs.length=ks.length∧(∀ x∈xs,bF C W x.1 (.ref x.2.1))∧∀ {v:α} {y:aB} {a:Addr},P v y→(dZ ks vs p v).1=(storedH xs p a y).map (·.1)∧aS P (dZ ks vs p v).2 ((storedH xs p a y).map (·.2.2)):=by
 cases d with | mk es ep hc hd hk hv hh hf hn=>
 obtain⟨xs,e1,e2,e3,e4,e5⟩:=aJt fro es.toList hk hh hf
 replace hv:=(e2)▸hv
 have hl:ks.length=(xs.map (·.2.2)).length:=by rw [←e1,bT,bT]
 have ez:ks.zip (xs.map (·.2.2))=xs.map zO:=by rw [←e1,List.zip_map']
 refine⟨xs,⟨o,es,ep,ho,hc,hd,e3,e5,e1▸hn⟩,?_,by rw [←e1,bT],e4,fun {v y a} dy=> ?_⟩
 ·rw [←aBq,←ez];exact Lz hf q hv hl
 ·have:=XR hf q hv hl hn dy
  rw [ez,←aOR,iY,iY] at this;exact this
theorem aJq{hp:Heap}{xs:List (PV×Addr×aB)}{r:List PV×List α}(hd:hp.DictOfH (xM C) l xs)(e4:∀ x∈xs,bF C W x.1 (.ref x.2.1))(e:r.1=xs.map (·.1)∧aS P r.2 (xs.map (·.2.2))):∃ o,hp.get? l=some o∧iK C .pair r.1 (aS (bF C W) r.1) (aS P r.2) o:=by
 obtain⟨o,es,ep,ho,hc,hd,he,hi,hn⟩:=hd
 refine⟨o,ho,.mk es ep hc hd ?_ ?_ ?_ ?_ ?_⟩
 ·rw [e.1,he,iY];exact aHt e4
 ·rw [he,iY];exact e.2
 ·rw [e.1,he,iY,iY];rfl
 ·exact(e.1).symm▸fun k hk=>by obtain⟨x,hx,rfl⟩:=List.mem_map.mp hk;exact aGR (hi x hx)
 ·rw [e.1];exact hn
end
section
variable{K:KK}{A:aR}{st:St}{z:Z K A st}{α β:Type}{D:Dn α β}{T:aB→aB→WP β}{a b:SV}{x y:aB}
theorem Qd(h:(gL kd && KD.pair.fitsB p)=true):kd= .pair∧KD.pair.fits p:=by
 have h:=hZ _ _▸h
 cases kd with
 |pair=>exact⟨rfl,h.2⟩
 |_=>cases h.1
theorem Z.froG(z:Z K A st):∀ a o,z.X.W a=some (.fro o)→z.s.heap.get? a=some o:=fun a o q=>z.R.val _ _ q
noncomputable def Cw(a b:SV)(k:Option PV→M α):M α:=kJ a (fun kd ks vs=>lK b fun p=>gd (gL kd && KD.pair.fitsB p) (k (dR ks vs p))) er
theorem Go.onFP{k:Option PV→M α}(dx:z.d dV a x)(dy:z.d dV b y)(h:∀ p l ka xs r,(xM K.C).is z.s.heap p ka→(l==rZ)=false→z.s.heap.DictOfH (xM K.C) l xs→pI (bF K.C z.X.W) r ((atKey xs p).map (·.2))→Go z D (T (.ref l) (.ref ka)) (k r st)):Go z D (T x y) (Cw a b k st):=
 .onD (T:=fun x=>T x y) dx (fun kd ks vs l o ns ho d=>.onP dy fun p dp=>.gd fun q=>by
  obtain⟨rfl,q⟩:=Qd q
  obtain⟨ka,rfl,hi⟩:=Dd q dp
  obtain⟨xs,hd,f,_⟩:=Uc z.froG q ho d
  exact h p l ka xs _ (hi _ z.froG) ns hd f) .er
theorem Ek(hA:lG A K.n):(xM K.C).room A.in1:=
 sI (lC hA.lim) (bR rfl)
noncomputable def PB(a b:SV):M Bool:=Cw b a fun r=>rt r.isSome
theorem Vt:HE K PB:=fun {A st} z a b x y dx dy=>
 .onFP (T:=fun y x=>K.wp A (BD y x)) dy dx fun p l ka xs r hk ns hD f=>.tok1 (show _=_ from by rw [f.isSome,Hq]) fun Q q=>by
  refine Gg hD.typeIs SM (RN SM hD.typeIs F.entry_dict_contains ?_ (F.args_dict_contains_2 _ _))
  show aI _ _ (dictGet l (.ref ka) >>= _) _ _ z.s
  refine aF (wpAny_dictGet_heap (Ek z.hA) hk hD ?_)
  cases hf:atKey xs p with
  |some v=>
   rw [hf] at q
   exact bG ⟨_,rfl,uM q⟩
  |none=>
   rw [hf] at q
   exact aF (wpAny_pendingKey_other ns (bG ⟨_,rfl,uM q⟩))
noncomputable def Qg(a b:SV):M SV:=Cw a b fun r=>eZ r fun y=>rt (.pv y)
theorem aLq:wJ K Qg:=fun {A st} z a b x y dx dy=>
 .onFP dx dy fun p l ka xs r hk ns hD f=>.onSome fun v e=>by
  subst e;obtain⟨w,hv,d⟩:=f.some
  obtain⟨u,hu,rfl⟩:=Option.map_eq_some_iff.mp hv
  exact .tok1 (d:z.d dV (.pv v) u.2) fun Q q=>⟨"dict",_,hD.typeIs,F.slot_dict_getitem.lookup,wpAny_getItem_heap (Ek z.hA) hk hD hu q⟩
noncomputable def Wn(a b c:SV):M Unit:=xK a (fun k kd ks vs=>lK b fun p=>lK c fun y=>gd ((gL kd && KD.pair.fitsB p) && decide (ks.length≤1000000)) fun st=>some ((),fG st k (.dict kd (dZ ks vs p y).1 (dZ ks vs p y).2))) er
theorem aLI:wI K Wn:=fun {A st} z a b c x y u dx dy du=>
 .onDC (T:=fun x=>K.wp A (rX x y u)) dx (fun k kd ks vs o hw ho d=>.onP (T:=fun y=>K.wp A (rX (.ref (z.X.ρ k)) y u)) dy fun p dp=>.onP (T:=fun u=>K.wp A (rX (.ref (z.X.ρ k)) y u)) du fun w dw=>.gd fun q=>by
  have q:=hZ _ _▸q
  obtain⟨rfl,q1⟩:=Qd q.1
  obtain⟨ka,rfl,hi⟩:=Dd q1 dp
  obtain⟨xs,hd,f,hl,e4,pu⟩:=Uc z.froG q1 ho d
  exact .on fun Q q'=>wpAny_setItem_heap (Ek z.hA) (hi _ z.froG) hd (fun h' hd' sb=>z.setD hw sb (aJq hd' (aIk (R:=fun x a=>bF K.C z.X.W x (.ref a)) e4 dp) (pu dw)) id trivial (q' _ _ rfl)) (by rw [hl];exact gM (of_decide_eq_true q.2))) .er
end
section
variable{K:KK}{A:aR}{st st':St}{z:Z K A st}{α β γ δ:Type}
noncomputable def Z.frzX(z:Z K A st)(k:Nat):Xt:=z.X.maskR .fro (BF k) z.s.heap
theorem Z.frzTr(z:Z K A st)(k n:Nat):Tr (BF k) z.X z.s.heap n (z.frzX k) z.s.heap n:=.maskR n (fun _=>rfl) fun _ _ h=>h
noncomputable def Z.frz(z:Z K A st)(k:Nat):Z K A (fG st k .dead):=
 ⟨z.frzX k,z.s,z.hA,Tr.rel (by rw [CM];exact z.frzTr k _) z.R z.R.still (fun _=>rfl) rfl rfl (fun _=>rfl) (by rw [CM];exact Ko trivial)⟩
theorem aFi(k:Nat):BF k (.cell k)=true:=DB k
theorem Go.frz(d:vY z.X.W (z.frzX k).W→(∀ a o,z.X.W a=some (.cell k)→z.s.heap.get? a=some o→(z.frzX k).W a=some (.fro o))→bF K.C (z.frzX k).W p x):Go z dV (fun Q s=>Q x s) (some (.pv p,fG st k .dead)):=
 .ret (z.frz k) (by show z.X.le _ (z.frzX k) (st.cells.set k .dead).length;rw [CM];exact(z.frzTr k _).le (fun _=>rfl) fun _=>rfl) (d (z.frzTr k 0).low.fro fun a o e ho=>Bl e (aFi k) ho) fun Q q=>q
noncomputable def GL(K:KK)(f:SV→M SV):Prop:=∀ {A:aR} {st:St} (z:Z K A st) {a:SV} {x:aB},z.d dV a x→Go z dV (fun Q s=>Q x s) (f a st)
noncomputable def fJ(g:GL K f)(a:PE K):PE K:=⟨bd a.m f,a.r,a.c,a.hc,fun e A st z=>(a.ok e z).ru (fun Q q=>q) fun z₁ l dx=>g z₁ dx⟩
noncomputable def OQ(k:Nat)(c:SO):M SV:=fun st=>match c with
 |.list xs=>some (.pv (.lst xs),fG st k .dead)
 |.dict kd ks vs=>some (.pv (.dct kd ks vs),fG st k .dead)
 |.inst c fs=>match pQ fs with
  |some xs=>some (.pv (.obj c xs),fG st k .dead)
  |none=>none
 |_=>none
noncomputable def cE(a:SV):M SV:=fun st=>match a with
 |.pv x=>some (.pv x,st)
 |.ref k=>match st.cells[k]? with
  |some c=>OQ k c st
  |none=>none
noncomputable def aQL:SV→M SV:=cE
theorem fD:GL K cE:=fun {A st} z a x d=>by
 cases a with
 |pv p=>exact .same d fun Q q=>q
 |ref k=>
  obtain⟨_,rfl⟩:=d
  show Go z dV _ (match st.cells[k]? with | some c=>OQ k c st | none=>none)
  cases q:st.cells[k]? with
  |none=>exact .no
  |some c=>
   have ck:=z.R.cells _ _ q
   cases c with
   |list xs=>cases ck with | mk o hw ho r=>cases r with | mk vs ep hl=>exact .frz fun l f=>oL.mk _ vs ep (f _ _ hw ho) (by rw [iH];exact aS.imp (bF.mono l) _ _ hl)
   |dict kd ks vs=>cases ck with | mk o hw ho r=>exact .frz fun l f=>tN.mk _ o (f _ _ hw ho) (z.noSys hw) (by rw [iH,iH];exact r.imp (aS.imp (bF.mono l) _) (aS.imp (bF.mono l) _) o)
   |inst c fs=>
    show Go z dV _ (match pQ fs with | some xs=>some (.pv (.obj c xs),fG st k .dead) | none=>none)
    cases qa:pQ fs with
    |none=>exact .no
    |some xs=>
     cases ck with | mk o hw hw' ne hi ho f=>
     cases f with | mk es ep hc hd hk hv=>
     have hx:=MU fs hv xs qa
     have hlen:xs.length=fs.length:=hx.len.trans (aS.len hv).symm
     exact .frz fun l f=>AO.mk _ _ o (f _ _ hw hi) (f _ _ hw' ho) (.mk es ep hc hd (hlen▸hk) (by rw [iH];exact aS.imp (bF.mono l) _ _ hx))
   |_=>exact .no
noncomputable def Z.adX(z:Z K A st)(a:Addr):Xt:=z.X.add a (.cell st.cells.length) (pZ z.X.ρ st.cells.length a) z.X.δ
theorem Z.adTr(z:Z K A st)(a:Addr)(hn:z.X.W a=none)(hx:∃ o,z.s.heap.get? a=some o)(c:SO):Tr (fun _=>false) z.X z.s.heap st.cells.length (z.adX a) z.s.heap (st.cells++[c]).length:=
 .add z.R.val hn (fun _ _ e=>e) hx (by rw [xC];exact oG _) RM
noncomputable def Z.adC(z:Z K A st)(a:Addr)(hn:z.X.W a=none)(hx:∃ o,z.s.heap.get? a=some o)(c:SO)(hc:jH K.C (z.adX a) (st.cells++[c]).length st.cells.length z.s.heap c):Z K A ⟨st.loc,st.cells++[c]⟩:=
 ⟨z.adX a,z.s,z.hA,(z.adTr a hn hx c).rel z.R z.R.still (fun _=>rfl) rfl rfl (fun _=>rfl) (XA (ex:=fun _=>false) (fun _=>rfl) (fun _ _=>rfl) hc)⟩
theorem Il(ho:z.s.heap.get? a=some o)(d:p o):tL (z.adX a) st.cells.length z.s.heap p:=
 .mk o (by show(z.adX a).W (pZ _ _ _ _)=_;rw [qA];exact DL) (by rw [show(z.adX a).ρ st.cells.length=a from qA];exact ho) d
theorem Go.adC(hn:z.X.W a=none)(ho:z.s.heap.get? a=some o)(d:z.X.low st.cells.length (z.adX a) (st.cells++[c]).length→p o)(hc:tL (z.adX a) st.cells.length z.s.heap p→jH K.C (z.adX a) (st.cells++[c]).length st.cells.length z.s.heap c):Go z dV (fun Q s=>Q (.ref a) s) (some (.ref st.cells.length,⟨st.loc,st.cells++[c]⟩)):=
 .ret (z.adC a hn ⟨o,ho⟩ c (hc (Il ho (d (z.adTr a hn ⟨o,ho⟩ c).low)))) ((z.adTr a hn ⟨o,ho⟩ c).le (fun _=>rfl) fun _=>rfl) ⟨by show _ < (st.cells++[c]).length;rw [xC];exact yA _,congrArg qE qA.symm⟩ fun Q q=>q
theorem aIl(kvs:List (PV×aB)):∀ acc:List (PV×aB),((acc++kvs).map (·.1)).Nodup→merged acc kvs=acc++kvs:=by
 induction kvs with
 |nil=>exact fun acc _=>(gQ _).symm
 |cons kv kvs ih=>
  intro acc h
  have hx:pY acc kv.1 kv.2=acc++[kv]:=if_neg fun q=>by
   obtain⟨x,hx,e⟩:=List.any_eq_true.mp q
   rw [cW,List.nodup_append] at h
   exact h.2.2 _ (LZ hx) _ (.head _) (of_decide_eq_true e)
  have e:acc++kv::kvs=(acc++[kv])++kvs:=by rw [gP];rfl
  show merged (pY acc kv.1 kv.2) kvs=_
  rw [hx,ih _ (e▸h),e]
noncomputable def JS:List PV→Bool
 | []=>true
 |k::ks=>match dhas ks k with
  |true=>false
  |false=>JS ks
noncomputable def DM(kd:KD):List PV→Bool
 | []=>true
 |k::ks=>match kd.fitsB k with
  |true=>DM kd ks
  |false=>false
theorem aEt{kd:KD}(ks:List PV)(hf:∀ k∈ks,kd.fits k)(hp:kd.fits p)(h:dhas ks p=false):p∉ks:=by
 induction ks with
 |nil=>exact fun h=>nomatch h
 |cons x xs ih=>
  have h:(match jC x p with | true=>true | false=>dhas xs p)=false:=h
  replace h:=(PJ (hf _ (.head _)) hp)▸h
  by_cases q:x=p
  ·rw [decide_eq_true q] at h;exact eP h
  ·rw [decide_eq_false q] at h
   rw [AL,not_or];exact⟨fun e=>q e.symm,ih (fun k hk=>hf k (.tail _ hk)) h⟩
theorem Qx{kd:KD}(ks:List PV)(hf:DM kd ks=true):(∀ k∈ks,kd.fits k)∧(JS ks=true→ks.Nodup):=by
 induction ks with
 |nil=>exact⟨fun _ h=>(nomatch h),fun _=>pK⟩
 |cons x xs ih=>
  have hf:(match kd.fitsB x with | true=>DM kd xs | false=>false)=true:=hf
  cases q:kd.fitsB x with
  |false=>rw [q] at hf;exact eP hf
  |true=>
   replace hf:=(q)▸hf
   refine⟨List.forall_mem_cons.mpr ⟨q,(ih hf).1⟩,fun h=> ?_⟩
   have h:(match dhas xs x with | true=>false | false=>JS xs)=true:=h
   cases q':dhas xs x with
   |true=>rw [q'] at h;exact eP h
   |false=>rw [q'] at h;exact List.nodup_cons.mpr ⟨aEt xs (ih hf).1 q q',(ih hf).2 h⟩
noncomputable def dP(ks:List PV):Dn (List SV) (List (aB×aB)):=fun C X n vs ws=>bQ C X ks (ws.map (·.1))∧fP C X n vs (ws.map (·.2))
structure PD(K:KK) where
 m:M (List SV)
 ks:List PV
 rk:List (Option Expr)→List (Option Expr)
 rv:List Expr→List Expr
 f:List (Option Expr)→List Expr→Pos→List (Sem aB×Sem aB)
 n:Nat
 shape:∀ es vs pos,(evalEachOpt (rk es) K.env).zip ((evalEach (rv vs) K.env).map fun v=>do let x ←v;standAt pos;pure x)=(f es vs pos).map fun p=>(some p.1,p.2)
 len:∀ es vs pos,(f es vs pos).length=n
 ok:∀ es vs pos {A:aR} {st:St} (z:Z K A st),Go z (dP ks) (K.wp A (evalPairs (f es vs pos))) (m st)
noncomputable def xo:Expr→List (Option Expr)
 |.Dict ks _ _=>ks
 |_=>[]
noncomputable def Pl:List (Option Expr)→Expr
 |some e::_=>e
 |_=>dT []
noncomputable def HH:PD K:=⟨rt [],[],fun _=>[],fun _=>[],fun _ _ _=>[],0,fun _ _ _=>rfl,fun _ _ _=>rfl,fun _ _ _ _ _ z=>.rt (x:=[]) ⟨rfl,rfl⟩ fun Q q=>evalPairs_nil q⟩
theorem aGr(b:PE K)(r:PD K)(e:Expr)(es:List (Option Expr))(vs:List Expr)(pos:Pos)(dx:bF K.C z.X.W k x):Go z (dP (k::r.ks)) (fun Q=>K.wp A (do let x ←eval (b.r e) K.env;standAt pos;pure x) fun y=>K.wp A (evalPairs (r.f es vs pos)) fun ws=>Q ((x,y)::ws)) (HX b.m r.m st):=
 (b.ok _ z).ru (fun Q q=>aF (fX q fun _ _ h=>aF (Gj (bG h)))) fun {_ _ y} z₂ l₂ dy=>(r.ok es vs pos z₂).ru (fun Q q=>q) fun {sv st₃ ws} z₃ l₃ d=>.rt (x:=(x,y)::ws) ⟨.mk (((l₂.t l₃).v dx:z₃.d dV (.pv k) x)) d.1,.mk (l₃.v dy) d.2⟩ fun Q q=>q
noncomputable def yK(a:PE K)(b:PE K)(r:PD K)(ha:a.m=rt (.pv k):=by rfl):PD K:=⟨HX b.m r.m,k::r.ks,fun es=>some (a.r (Pl es))::r.rk es.tail,fun vs=>b.r (dT vs)::r.rv vs.tail,
 fun es vs pos=>(eval (a.r (Pl es)) K.env,do let x ←eval (b.r (dT vs)) K.env;standAt pos;pure x)::r.f es.tail vs.tail pos,r.n+1,fun es vs pos=>congrArg (_:: ·) (r.shape es.tail vs.tail pos),fun es vs pos=>congrArg lN (r.len _ _ _),
 fun es vs pos A st z sv st' e Q q=>evalPairs_cons (a.ok _ z (.pv k) st (by rw [ha];rfl) _ fun z₁ x l dx=>aGr b r _ _ _ _ dx sv st' e Q fun z' x l' d=>q z' x (l.t l') d)⟩
theorem aDF(h:gL kd=false)(ws:List (aB×aB)):∀ {ks:List PV},aS (bF C W) ks (ws.map (·.1))→(∀ k∈ks,kd.fits k)→Carries (kk C kd) ws (ks.zip (ws.map (·.2)))∧ks.length=(ws.map (·.2)).length:=by
 induction ws with
 |nil=>intro ks d _;cases ks with
  |nil=>exact⟨trivial,rfl⟩
  |cons=>cases d
 |cons w ws ih=>intro ks d hf;cases ks with
  |nil=>cases d
  |cons k ks=>cases d with | mk v vs a as=>
   have:=ih as fun k hk=>hf k (.tail _ hk)
   exact⟨⟨(zN h).mpr ⟨hf _ (.head _),a⟩,rfl,this.1⟩,congrArg lN this.2⟩
noncomputable def JF(kd:KD)(ks:List PV):Bool:=match gL kd with
 |true=>false
 |false=>match DM kd ks with
  |true=>JS ks
  |false=>false
theorem aHs(h:JF kd ks=true):gL kd=false∧(∀ k∈ks,kd.fits k)∧ks.Nodup:=by
 unfold JF at h
 cases q:gL kd with
 |true=>rw [q] at h;exact eP h
 |false=>
  rw [q] at h
  have h:(match DM kd ks with | true=>JS ks | false=>false)=true:=h
  cases q':DM kd ks with
  |false=>rw [q'] at h;exact eP h
  |true=>rw [q'] at h;exact⟨rfl,(Qx ks q').1,(Qx ks q').2 h⟩
theorem Og(e:gd b k st=some r){P:Prop}(h:b=true→k st=some r→P):P:=by
 cases b with
 |true=>exact h rfl e
 |false=>exact aT e
noncomputable abbrev zB:Obj:={cls:=.type "dict",data:=.dict #[]}
theorem Ow(pd:PD K){f:List SV→M SV}(es:List (Option Expr))(vs:List Expr)(pos:Pos)(h0:bV pd.n 0=false)(hl:qD pd.n 15=true)(k:∀ {st₁:St} {sv:List SV} {D:Addr} {o:Obj} (z₂:Z K A st₁),z₂.X.W D=none→z₂.s.heap.get? D=some o→iK K.C kd pd.ks (bQ K.C z₂.X pd.ks) (fP K.C z₂.X st₁.cells.length sv) o→Go z₂ dV (fun Q s=>Q (.ref D) s) (f sv st₁)):
  Go z dV (K.wp A (eval (.Dict (pd.rk es) (pd.rv vs) pos) K.env)) (bd pd.m (fun sv=>gd (JF kd pd.ks) (f sv)) st):=by
 intro a st' e Q q
 refine lH e fun sv st₁ e₁ e₂=>Og e₂ fun hb e₃=> ?_
 obtain⟨hp,hf,hn⟩:=aHs hb
 have hW:z.X.W (sz z)=none:=z.R.fresh (cZ _)
 have ho:(z.s.heap.push zB).get? (sz z)=some zB:=oA _ rfl
 refine wpAny_Dict_pairs (knd:=kk K.C kd) (pd.shape es vs pos) (fun h=> ?_) (by rw [pd.len];exact bR hl) (pd.ok es vs pos ((z.push zB z.s.toks).put (sz z) (some (.iter zB)) _ z.s.toks (.inl hW) (fun _ _ _ e=>e) (rQ ho)) sv st₁ e₁ _ fun z₁ ws l d=> ?_)
 ·have:=pd.len es vs pos;rw [h] at this;rw [←this] at h0;exact eP h0
 obtain⟨hc,hz⟩:=aDF hp ws d.1 hf
 have le:z.X.le st.cells.length z₁.X st₁.cells.length:=Xt.le.trans (kR Z.le0 hW) l
 have hWD:z₁.X.W (sz z)=some (.iter zB):=l.iter _ _ kW
 refine⟨_,hc,⟨_,#[],0,z₁.R.val _ _ hWD,⟨rfl,rfl,rfl⟩,rfl,fun e he=>(by cases Array.mem_toList_iff.mpr he),.nil,pK⟩,fun h' hd' sb=> ?_⟩
 rw [aIl _ [] (by rw [oD,sD hz];exact hn),oD] at hd'
 obtain⟨o,h1,h2⟩:=Cq (W:=z₁.X.W) (P:=fK K.C z₁.X st₁.cells.length) (vs:=sv) hp hd' ((Gq hz).symm▸d.2)
 rw [sD hz] at h2
 have lw:z₁.X.low st₁.cells.length (z₁.X.put (sz z) none) st₁.cells.length:=(Tr.put (r:=none) z₁.R.val (.inr ⟨_,hWD⟩) (rH sb) fun _ z=>nomatch z).low
 exact k (z₁.put (sz z) none h' (z₁.s.toks+ws.length) (.inr ⟨_,hWD⟩) (rH sb) fun _ z=>nomatch z) kW h1 (h2.imp (fun _=>bQ.mono lw) (fun _=>fP.mono lw) o) a st' e₃ Q fun z' x l' d=>q z' x (Xt.le.trans (kR le hW) l') d
noncomputable def Br(kd:KD)(ks:List PV)(vs:List SV):M SV:=gd (JF kd ks) fun st=>some (.ref st.cells.length,⟨st.loc,st.cells++[.sdict kd ks vs]⟩)
noncomputable def QC(kd:KD)(ks:List PV)(vs:List SV):M SV:=gd (JF kd ks) fun st=>match pQ vs with
 |some xs=>some (.ref st.cells.length,⟨st.loc,st.cells++[.dict kd ks xs]⟩)
 |none=>none
noncomputable def Hx(kd:KD)(pd:PD K)(h0:bV pd.n 0=false:=by rfl)(hl:qD pd.n 15=true:=by rfl):PE K:=⟨bd pd.m (Br kd pd.ks),fun e=>.Dict (pd.rk (xo e)) (pd.rv (xs e)) e.pos,3,fun _=>rfl,fun e _ _ z=>Ow pd _ _ _ h0 hl fun z₂ hn ho d=>
 .adC hn ho (fun l=>d.imp (fun _=>bQ.mono l) (fun _=>fP.mono l) _) id⟩
noncomputable def UE(kd:KD)(pd:PD K)(h0:bV pd.n 0=false:=by rfl)(hl:qD pd.n 15=true:=by rfl):PE K:=⟨bd pd.m (QC kd pd.ks),fun e=>.Dict (pd.rk (xo e)) (pd.rv (xs e)) e.pos,3,fun _=>rfl,fun e _ _ z=>Ow pd _ _ _ h0 hl fun {st₁ sv D o} z₂ hn ho d=>by
 cases q:pQ sv with
 |none=>exact .no
 |some xs=>exact .adC hn ho (fun l=>d.imp (fun _=>bQ.mono l) (fun _ dv=>bQ.mono l (MU sv dv xs q)) _) id⟩
end
section
variable{K:KK}{A:aR}{st:St}{z:Z K A st}{α β:Type}{E:aB→aG→Prop}
noncomputable def pS{α:Type}(lo hi:Option Int)(xs:List α):List α:=(xs.drop (lo.elim 0 (clipAt xs.length))).take (hi.elim xs.length (clipAt xs.length) - lo.elim 0 (clipAt xs.length))
noncomputable def aEn:Dn (Option Int) aB:=fun _ _ _ v x=>IsPart x v
structure PP(K:KK) where
 m:M (Option Int)
 r:Option Expr→Option Expr
 ok:∀(e:Option Expr) {A:aR} {st:St} (z:Z K A st),Go z aEn (K.wp A (evalPart (r e) K.env)) (m st)
noncomputable def HG:PP K:=⟨rt none,fun _=>none,fun _ _ _ z=>.rt (x:=.none) IsPart.none fun Q q=>wpAny_evalPart_none q⟩
noncomputable def Ja(a:SV):M (Option Int):=gT a (fun i=>rt (some i)) er
noncomputable def hdP:Option Expr→Expr
 |some e=>e
 |none=>dT []
noncomputable def tS(a:PE K):PP K:=⟨bd a.m Ja,fun e=>some (a.r (hdP e)),fun e A st z=>(a.ok _ z).ru (u:=fun x Q=>Q x) (fun Q q=>wpAny_evalPart_some q) fun z₁ l₁ dx=>.onI (T:=fun x Q=>Q x) dx (fun i t=>.rt (x:=.int i t) (IsPart.int i t) fun Q q=>q) .er⟩
noncomputable def Zg:Expr→Option Expr
 |.Slice lo _ _ _=>lo
 |_=>none
noncomputable def Gn:Expr→Option Expr
 |.Slice _ hi _ _=>hi
 |_=>none
theorem aOt{E:aB→aG→Prop}{s:aG}{sl:Addr}{a b n:Nat}{u v:Tok}{Q:Int×Int×Nat→aG→Prop}(hs:s.heap.IsSliceOf sl (.int a u) (.int b v) .none)(hab:a≤b)(hb:b≤n)(h:Q ((a:Int),1,b - a) s):
  aI (aK K.C.prog K.C.w) A (Builtin.Slice.sliceApplied (.ref sl) (pure (n:Int))) Q E s:=by
 obtain⟨os,hos,hcs,hds⟩:=id hs
 refine aF (aF (wpAny_field hos hds (x:=.int a u) rfl (aF (wpAny_field hos hds (x:=.int b v) rfl (aF (wpAny_field hos hds (x:=.none) rfl (bG ?_)))))))
 refine aF (slicePart_none ?_)
 refine AB (decide_eq_false (by decide)) ?_
 refine aF (slicePart_int (aF (slicePart_int (aF (bG ?_)))))
 have e1:Gw (some (a:Int)) (some (b:Int)) 1 (n:Int)=((a:Int),(b:Int)):=by
  unfold Gw
  exact Prod.ext (Int.min_eq_left (Int.ofNat_le.mpr (aP hab hb))) (Int.min_eq_left (Int.ofNat_le.mpr hb))
 have e2:SD (a:Int) (b:Int) 1=b - a:=by
  unfold SD
  have h1:(1:Int) > 0:=by decide
  simp only [h1,if_true,Int.ediv_one]
  split
  ·rw [Int.sub_add_cancel];exact Int.toNat_sub b a
  ·rename_i h;exact(Nat.sub_eq_zero_of_le (Int.ofNat_le.mp (Int.not_lt.mp h))).symm
 show aI _ _ (match Gw (some (a:Int)) (some (b:Int)) 1 (n:Int) with | (lo,hi)=>pure (lo,(1:Int),SD lo hi 1)) _ _ s
 refine(e1).symm▸?_
 show aI _ _ (pure ((a:Int),(1:Int),SD (a:Int) (b:Int) 1)) _ _ s
 refine(e2).symm▸?_
 exact bG h
theorem aJy(xs:Array aB)(a k:Nat):((uT k).filterMap fun(j:Nat)=>xs[((a:Int)+(j:Int)*1).toNat]?).toArray=((xs.toList.drop a).take k).toArray:=by
 have e:(fun(j:Nat)=>xs[((a:Int)+(j:Int)*1).toNat]?)=fun j=>xs[a+j]?:=by
  funext j
  have:((a:Int)+(j:Int)*1).toNat=a+j:=by rw [Int.mul_one];rfl
  rw [this]
 refine(e).symm▸?_
 have:=pick_run xs a k
 rw [List.filterMap_map] at this
 have e2:((fun x=>xs[x]?)∘fun x=>a+x)=fun j=>xs[a+j]?:=rfl
 rw [e2] at this
 rw [this]
theorem aGa{E:aB→aG→Prop}{s:aG}{t sl:Addr}{items:Array aB}{a b:Nat}{u v:Tok}{Q:aB→aG→Prop}(ht:IsTup s.heap t items)(hs:s.heap.IsSliceOf sl (.int a u) (.int b v) .none)(h1:1≤a)(hab:a≤b)(hb:b≤items.size)
  (h:Q (.ref s.heap.objs.size) {s with heap:=s.heap.push {cls:=.type "tuple",data:=.seq ((items.toList.drop a).take (b - a)).toArray}})
  (hsz:items.size≤fR):aI (aK K.C.prog K.C.w) A (getItem (.ref t) (.ref sl)) Q E s:=by
 have hdrop:sizeOk (.seq ((items.toList.drop a).take (b - a)).toArray):=by
  show((items.toList.drop a).take (b - a)).toArray.size≤fR
  rw [iE,CX,TK,qB]
  exact aP (Nat.min_le_right ..) (aP (Nat.sub_le ..) hsz)
 obtain⟨os,hos,hcs,hds⟩:=id hs
 have hTs:s.TypeIs (.ref sl) "slice":=⟨os,hos,hcs⟩
 unfold getItem
 try with_reducible refine pG ?_
 first | refine aF (bG ?_) | skip
 refine aF (wpAny_sequenceKey ht.typeIs rfl ?_)
 refine aF (wpAny_callSpecial?_slot (name:=uY "__getitem__") ht.typeIs slot_tuple_getitem
  (RN slot_tuple_getitem ht.typeIs entry_tuple_getitem ?_ (args_tuple_getitem _ _)))
 show aI _ _ (Builtin.Tuple.tupleItemsOf (.ref t) >>= _) _ _ s
 refine aF (tupleItemsOf_ ht ?_)
 refine aF (LL hTs ?_)
 refine GB (decide_eq_true (by decide)) ?_
 refine aF (aOt hs hab hb ?_)
 have hno:¬(((a:Int)==0 && (1:Int)==1 && (b - a)==items.size)=true):=by
  have:((a:Int)==0)=false:=by rw [beq_eq_false_iff_ne];exact fun e=>absurd (Int.ofNat.inj e▸h1:1≤0) (by decide)
  rw [this];simp
 show aI _ _ (if ((a:Int)==0 && (1:Int)==1 && (b - a)==items.size)=true then _ else _) _ _ s
 rw [if_neg hno,aJy items a]
 first
  |exact aF (m:=SE _) (GC (bG ⟨_,rfl,bG h⟩) hdrop)
  |exact aF (m:=SE _) (GC (aF (bG (bG ⟨_,rfl,bG h⟩))) hdrop)
  |exact aF (aF (m:=SE _) (GC (bG (bG ⟨_,rfl,bG h⟩)) hdrop))
  |exact aF (aF (m:=SE _) (GC (bG ⟨_,rfl,bG h⟩) hdrop))
noncomputable def QJ(i:Int)(n:Nat):Bool:=decide (1≤i) && decide (i≤n)
theorem Ct{i:Int}{n:Nat}(h:QJ i n=true):1≤i∧i≤n:=by
 have h:=hZ _ _▸h;exact⟨of_decide_eq_true h.1,of_decide_eq_true h.2⟩
theorem Cu{i:Int}{n:Nat}(h:1≤i∧i≤n):(i.toNat:Int)=i∧1≤i.toNat∧i.toNat≤n:=
 have e:=SU (Int.le_trans (by decide) h.1)
 ⟨e,Int.ofNat_le.mp (show((1:Nat):Int)≤_ by rw [e];exact h.1),Int.ofNat_le.mp (by rw [e];exact h.2)⟩
noncomputable def Lm(xs:List PV)(lo hi:Option Int):M SV:=match lo with
 |some i=>match hi with
  |some j=>gd (QJ i xs.length && (decide (i≤j) && QJ j xs.length)) (rt (.pv (.tup ((xs.drop i.toNat).take (j.toNat - i.toNat)))))
  |none=>gd (QJ i xs.length) (rt (.pv (.tup (xs.drop i.toNat))))
 |none=>er
noncomputable def QZ(a:SV)(lo hi:Option Int):M SV:=kU a (fun l=>dQ l.length (rt (.pv (.bytes (pS lo hi l))))) (CE a (fun xs=>dQ xs.length (Lm xs lo hi))
 (iI a (fun xs=>dQ xs.length fun st=>some (.ref st.cells.length,⟨st.loc,st.cells++[.list (pS lo hi xs)]⟩)) er))
theorem aBW{b:Array UInt8}{lo hi:Option Int}{t:Tok}:z.d dV (.pv (.bytes (pS lo hi (b.toList.map cJ)))) (.bytes (KBy.picked b lo hi) t):=by
 rw [KBc.picked_eq]
 have e:pS lo hi (b.toList.map cJ)=(List.take (hi.elim b.size (clipAt b.size) - lo.elim 0 (clipAt b.size)) (List.drop (lo.elim 0 (clipAt b.size)) b.toList)).toArray.toList.map cJ:=by
  unfold pS
  rw [bT,qB,LY,List.map_drop]
 rw [e];exact iU.mk _ t
theorem aGk{vl vu:aB}{lo hi:Option Int}{t sa:Addr}{xs:List PV}{vs:List aB}{ep:Nat}(pl:IsPart vl lo)(pu:IsPart vu hi)(hs:z.s.heap.IsSliceOf sa vl vu .none)(ht:z.s.heap.get? t=some (mI vs ep))(d:bQ K.C z.X xs vs)(hz:(iZ vs).size≤1000000):Go z dV (pF K A (.ref t) (.ref sa)) (Lm xs lo hi st):=by
 have hT:IsTup z.s.heap t vs.toArray:=⟨_,ht,rfl,_,rfl⟩
 have hl:xs.length=vs.toArray.size:=by rw [iE];exact d.len
 cases pl with
 |none=>exact .er
 |int i u=>cases pu with
  |none=>
   exact .gd fun e=>by
    obtain⟨e1,e2,e3⟩:=Cu (Ct e)
    rw [hl] at e3
    exact .newT z.s.toks (d.drop i.toNat) fun Q q=>⟨"tuple",_,hT.typeIs,slot_tuple_getitem.lookup,getItem_tuple_from (a:=i.toNat) hT (by rw [e1];exact hs) e2 e3 q (gM hz)⟩
  |int j v=>
   exact .gd fun e=>by
    have e:=hZ _ _▸e
    have e':=hZ _ _▸e.2
    obtain⟨e1,e2,e3⟩:=Cu (Ct e.1)
    obtain⟨f1,f2,f3⟩:=Cu (Ct e'.2)
    rw [hl] at f3
    exact .newT z.s.toks ((d.drop i.toNat).take _) fun Q q=>⟨"tuple",_,hT.typeIs,slot_tuple_getitem.lookup,aGa (a:=i.toNat) (b:=j.toNat) hT ((e1).symm▸(f1).symm▸hs) e2 (Int.toNat_le_toNat (of_decide_eq_true e'.1)) f3 q (gM hz)⟩
theorem aLN{vl vu x:aB}{lo hi:Option Int}{sa:Addr}{a:SV}(pl:IsPart vl lo)(pu:IsPart vu hi)(hs:z.s.heap.IsSliceOf sa vl vu .none)(dx:z.d dV a x):Go z dV (pF K A x (.ref sa)) (QZ a lo hi st):=
 .onB (T:=fun x=>pF K A x (.ref sa)) dx (fun b t=>.fitB fun h=>.tok (x:=fun k=>.bytes (KBy.picked b lo hi) k) (fun k=>aBW) fun Q q=>⟨"bytes","bytes.__getitem__",iJ _ _ _,FB.slot_bytes_getitem.lookup,getItem_meets (iJ _ _ _) rfl FB.slot_bytes_getitem FB.entry_bytes_getitem (FB.args_bytes_getitem_2 _ _) (KBc.meets_slice2 b t _ pl pu) ⟨hs,aP (KBc.size_picked_le b lo hi) (gM h),fun t' k=>q k t'⟩⟩)
 (.onT (T:=fun x=>pF K A x (.ref sa)) dx (fun xs l vs ep _ ht d=>.fitL d fun h=>aGk pl pu hs ht d h)
 (.onL (T:=fun x=>pF K A x (.ref sa)) dx (fun xs l vs ep hl d=>.fitL d fun h=>by
  have dc:bQ K.C z.X (pS lo hi xs) (pS lo hi vs):=by unfold pS;exact(d.len).symm▸(d.drop _).take _
  refine .newL z.s.toks dc fun Q q=>⟨"list",_,qK hl,list_getitem_lookup,wpAny_getItem_list_slice ⟨_,hl,rfl,_,rfl⟩ hs pl pu .none (by decide) ?_ (gM h)⟩
  rw [slicePick_plain];exact q) .er))
noncomputable def yI(a:PE K)(l h:PP K):PE K:=⟨bd a.m fun a=>bd l.m fun l=>bd h.m fun u=>QZ a l u,fun e=>.Subscript (a.r (x1 e)) (.Slice (l.r (Zg (x2 e))) (h.r (Gn (x2 e))) none (x2 e).pos) e.pos,3,fun _=>rfl,
 fun e A _ z=>(a.ok _ z).ru (u:=fun x Q=>K.wp A (eval (.Slice (l.r (Zg (x2 e))) (h.r (Gn (x2 e))) none (x2 e).pos) K.env) fun i s=>pF K A x i Q s) (fun Q q=>Subscript_ (fX q fun _ _ q=>fX q fun _ _ ⟨T,id,hT,hl,hg⟩=>tail_any hT hl hg rfl)) fun {_ _ x} z₁ l₁ dx=>(l.ok _ z₁).ru (u:=fun vl Q=>K.wp A (evalPart (h.r (Gn (x2 e))) K.env) fun vu s=>pF K A x (.ref s.heap.objs.size) Q {s with heap:=s.heap.push {cls:=.type "slice",data:=.fields #[vl,vu,.none]}})
  (fun Q q=>wpAny_Slice (fX q fun _ _ q=>fX q fun _ _ q=>wpAny_evalPart_none q)) fun {_ _ vl} z₂ l₂ pl=>(h.ok _ z₂).ru (u:=fun vu Q s=>pF K A x (.ref s.heap.objs.size) Q {s with heap:=s.heap.push {cls:=.type "slice",data:=.fields #[vl,vu,.none]}}) (fun Q q=>q) fun {_ _ vu} z₃ l₃ pu=>
   .from (z₃.push {cls:=.type "slice",data:=.fields #[vl,vu,.none]} z₃.s.toks) Z.le0 (aLN (z:=z₃.push {cls:=.type "slice",data:=.fields #[vl,vu,.none]} z₃.s.toks) pl pu (Heap.IsSliceOf.new ..) ((l₂.t l₃).v dx)) fun Q q=>q⟩
end
section
open PySem PySem.W PySem.Calls PyProof.Rows PySem.SeqAt
noncomputable def mR(f:PV→PV→Option Bool):List PV→List PV→Option Bool
 | [],ys=>match ys with
  | []=>some true
  |_::_=>some false
 |x::xs,ys=>match ys with
  | []=>some false
  |y::ys=>match f x y with
   |some a=>match mR f xs ys with
    |some b=>some (a && b)
    |none=>none
   |none=>none
noncomputable def Mk(f:PV→PV→Option Bool)(x y:PV):Option Bool:=match x with
 |.none=>match y with
  |.none=>some true
  |.tup _=>some false
  |_=>none
 |.bool a=>match y with
  |.bool b=>some (a==b)
  |_=>none
 |.int a=>match y with
  |.int b=>some (eqI a b)
  |_=>none
 |.str a=>match y with
  |.str b=>some (eqL a b)
  |_=>none
 |.bytes a=>match y with
  |.bytes b=>some (eqL a b)
  |_=>none
 |.tup xs=>match y with
  |.none=>some false
  |.tup ys=>mR f xs ys
  |_=>none
 |.lst xs=>match y with
  |.lst ys=>mR f xs ys
  |_=>none
 |_=>none
noncomputable def jA:Nat→PV→PV→Option Bool
 |0,_,_=>none
 |n+1,x,y=>Mk (jA n) x y
inductive uO(f:PV→PV→Option Bool):PV→PV→Bool→Prop
 |nn:uO f .none .none true
 |nt (xs:List PV):uO f .none (.tup xs) false
 |tn (xs:List PV):uO f (.tup xs) .none false
 |bb (a b:Bool):uO f (.bool a) (.bool b) (a==b)
 |ii (a b:Int):uO f (.int a) (.int b) (eqI a b)
 |ss (a b:List Nat):uO f (.str a) (.str b) (eqL a b)
 |yy (a b:List Nat):uO f (.bytes a) (.bytes b) (eqL a b)
 |tt (xs ys:List PV) (b:Bool) (h:mR f xs ys=some b):uO f (.tup xs) (.tup ys) b
 |ll (xs ys:List PV) (b:Bool) (h:mR f xs ys=some b):uO f (.lst xs) (.lst ys) b
theorem Mi(h:Mk f x y=some b):uO f x y b:=by
 cases x with
 |none=>cases y with
  |none=>obtain rfl:=bO h;exact .nn
  |tup=>obtain rfl:=bO h;exact .nt _
  |_=>exact aT h
 |bool=>cases y with
  |bool=>obtain rfl:=bO h;exact .bb _ _
  |_=>exact aT h
 |int=>cases y with
  |int=>obtain rfl:=bO h;exact .ii _ _
  |_=>exact aT h
 |str=>cases y with
  |str=>obtain rfl:=bO h;exact .ss _ _
  |_=>exact aT h
 |bytes=>cases y with
  |bytes=>obtain rfl:=bO h;exact .yy _ _
  |_=>exact aT h
 |tup=>cases y with
  |none=>obtain rfl:=bO h;exact .tn _
  |tup=>exact .tt _ _ _ h
  |_=>exact aT h
 |lst=>cases y with
  |lst=>exact .ll _ _ _ h
  |_=>exact aT h
 |_=>exact aT h
theorem Mh{xs ys:List PV}(h:mR f (x::xs) (y::ys)=some b):∃ a c,f x y=some a∧mR f xs ys=some c∧b=(a && c):=by
 have h:(match f x y with | some a=>(match mR f xs ys with | some b=>some (a && b) | none=>none) | none=>none)=some b:=h
 cases q:f x y with
 |none=>rw [q] at h;exact aT h
 |some a=>
  replace h:=(q)▸h
  cases q':mR f xs ys with
  |none=>rw [q'] at h;exact aT h
  |some c=>rw [q'] at h;obtain rfl:=bO h;exact⟨a,c,rfl,rfl,rfl⟩
noncomputable def KH(f:PV→PV→Option Bool)(xs ys:List PV)(j:Nat):Bool:=match xs[j]? with
 |some x=>match ys[j]? with
  |some y=>(f x y).getD false
  |none=>true
 |none=>true
theorem XU{f:PV→PV→Option Bool}(xs:List PV):∀ {ys:List PV} {b:Bool},mR f xs ys=some b→
  b=((uT (min xs.length ys.length)).all (KH f xs ys) && xs.length==ys.length)∧∀ j x y,xs[j]? =some x→ys[j]? =some y→f x y=some (KH f xs ys j):=by
 induction xs with
 |nil=>intro ys b h;cases ys with
  |nil=>obtain rfl:=bO h;exact⟨rfl,fun _ _ _ e=>nomatch e⟩
  |cons=>obtain rfl:=bO h;exact⟨by rw [LW,Nat.zero_min];rfl,fun _ _ _ e=>nomatch e⟩
 |cons x xs ih=>intro ys b h;cases ys with
  |nil=>obtain rfl:=bO h;exact⟨by rw [LW,Nat.min_zero];rfl,fun _ _ _ _ e=>nomatch e⟩
  |cons y ys=>
   obtain⟨a,c,q,h1,rfl⟩:=Mh h
   obtain⟨rfl,h2⟩:=ih h1
   have p0:KH f (x::xs) (y::ys) 0=a:=by show(f x y).getD false=a;rw [q];rfl
   refine⟨?_,fun j x' y' e e'=> ?_⟩
   ·rw [show min (x::xs).length (y::ys).length=min xs.length ys.length+1 from Nat.succ_min_succ ..,show((x::xs).length==(y::ys).length)=(xs.length==ys.length) from by rw [qS,beq_iff_eq,beq_iff_eq];exact Nat.succ_inj,Hj,List.all_cons,List.all_map,p0,Bool.and_assoc];rfl
   ·cases j with
    |zero=>cases e;obtain rfl:=bO e';exact(p0).symm▸q
    |succ j=>exact h2 j x' y' e e'
theorem aAT{xs ys:List PV}(h:mR f xs ys=some b):(xs.length=ys.length→(uT xs.length).all (KH f xs ys)=b)∧(xs.length≠ys.length→b=false):=by
 have e:=(XU xs h).1
 exact⟨fun q=>by rw [e,←q,Nat.min_self,beq_self_eq_true,Bool.and_true],fun q=>by rw [e,beq_eq_false_iff_ne.mpr q,RW]⟩
theorem Wj{f:List aB→Nat→Obj}(hf:∀ vs n,(f vs n).data= .seq vs.toArray n)(e:some (bU.fro (f vs n))=some (.fro (f ws m))):vs=ws:=by
 have e:=congrArg Obj.data (bU.fro.inj (bO e))
 rw [hf,hf] at e
 injection e with e;injection e
section
variable{C:Cx}{W:Addr→Option bU}
theorem aEr(n:Nat):∀ {x y:PV} {b:Bool} {v:aB},jA n x y=some b→bF C W x v→bF C W y v→b=true:=by
 induction n with
 |zero=>intro x y b v h;exact aT h
 |succ n ih=>
  have all:∀(xs:List PV) {ys:List PV} {b:Bool} {vs:List aB},mR (jA n) xs ys=some b→DenL C W xs vs→DenL C W ys vs→b=true:=by
   intro xs
   induction xs with
   |nil=>intro ys b vs h d d';cases ys with
    |nil=>obtain rfl:=bO h;rfl
    |cons=>subst d;cases d'
   |cons x xs ihx=>intro ys b vs h d d';cases ys with
    |nil=>subst d';cases d
    |cons y ys=>
     cases d with | mk v vs d ds=>
     cases d' with | mk v vs d' ds'=>
     obtain⟨a,c,q,h1,rfl⟩:=Mh h
     rw [ih q d d',ihx h1 ds ds'];rfl
  intro x y b v h d d'
  cases Mi h with
  |nn=>rfl
  |nt=>subst d;cases d'
  |tn=>subst d';cases d
  |bb=>subst d;cases d';exact beq_self_eq_true _
  |ii=>cases d;cases d';exact EF.mpr rfl
  |ss=>cases d;cases d';exact jL.mpr rfl
  |yy=>cases d;cases d';exact jL.mpr rfl
  |tt xs ys b h=>cases d with | mk a vs ep hw hl=>cases d' with | mk a vs' ep' hw' hl'=>cases Wj (fun _ _=>rfl) (hw.symm.trans hw');exact all xs h hl hl'
  |ll xs ys b h=>cases d with | mk a vs ep hw hl=>cases d' with | mk a vs' ep' hw' hl'=>cases Wj (f:=cC) (fun _ _=>rfl) (hw.symm.trans hw');exact all xs h hl hl'
theorem aFd(a b:Int):(a==b)=eqI a b:=by rw [qS,beq_iff_eq,EF]
theorem aFg(a b:Str):(a==b)=eqL a.cps.toList b.cps.toList:=by
 rw [qS,beq_iff_eq,jL]
 exact⟨fun e=>e▸rfl,fun h=>by rw [←xR a,←xR b,h]⟩
theorem aFe(b c:Array UInt8):(b.toList==c.toList)=eqL (b.toList.map cJ) (c.toList.map cJ):=by
 rw [qS,beq_iff_eq,jL]
 exact⟨fun h=>by rw [h],JK⟩
noncomputable def aGN:aB→Bool
 |.float ..=>true
 |_=>false
structure UK(A:aR)(s:aG)(v w:aB)(b:Bool):Prop where
 eq:RcAt A s v w b
 ne:RcNeAt A s v w (!b)
 nf:aGN v=false:=by rfl
theorem aFa(hs:v=w→b=true)(h:UK A s v w b):EqAt A s v w b:=fun prog wd E Q q=>by
 refine pG (wpAny_ite_split (fun hab=> ?_) (fun _=> ?_))
 ·rw [hs (eq_of_beq hab)] at q
  exact aF (xW (bG q))
 ·have nf:=h.nf
  cases v with
  |float=>exact eP nf
  |_=>exact aF (h.eq prog wd E _ (uM q))
inductive wK(C:Cx)(W:Addr→Option bU)(h:Heap)(x:PV)(v:aB):Prop
 |den (d:bF C W x v)
 |lst (xs:List PV) (l:Addr) (vs:List aB) (hx:x= .lst xs) (hv:v= .ref l) (hl:h.IsList l vs.toArray) (d:aS (bF C W) xs vs)
theorem wK.plain(s:wK C W h x v)(n:∀ xs,x≠ .lst xs):bF C W x v:=by
 cases s with
 |den d=>exact d
 |lst xs l vs hx=>exact absurd hx (n xs)
variable{s:aG}(fro:∀ a o,W a=some (.fro o)→s.heap.get? a=some o)
include fro in
theorem wK.list{xs:List PV}(q:wK C W s.heap (.lst xs) v):∃ l vs,v= .ref l∧s.heap.IsList l (iZ vs)∧aS (bF C W) xs vs:=by
 cases q with
 |den d=>cases d with | mk a vs ep hw hl=>exact⟨a,vs,rfl,⟨_,fro _ _ hw,rfl,ep,rfl⟩,iH xs▸hl⟩
 |lst ys l vs hx hv hl d=>cases hx;exact⟨l,vs,hv,hl,d⟩
include fro in
theorem RI{xs:List PV}(d:bF C W (.tup xs) v):∃ l vs,v= .ref l∧s.heap.IsTuple l (iZ vs)∧aS (bF C W) xs vs:=by
 cases d with | mk a vs ep hw hl=>exact⟨a,vs,rfl,⟨_,fro _ _ hw,rfl,ep,rfl⟩,iH xs▸hl⟩
theorem QN{xs ys:List PV}(hf:∀ {x y:PV} {b:Bool} {v w:aB},jA n x y=some b→bF C W x v→bF C W y w→EqAt A s v w b)(h:mR (jA n) xs ys=some b)(d:aS (bF C W) xs vs)(d':aS (bF C W) ys ws)(j:Nat)(h1:j < vs.toArray.size)(h2:j < ws.toArray.size):EqAt A s vs.toArray[j] ws.toArray[j] (KH (jA n) xs ys j):=by
 have l1:j < xs.length:=d.len▸h1
 have l2:j < ys.length:=d'.len▸h2
 obtain⟨v,hv,dv⟩:=d.get (tP l1)
 obtain⟨w,hw,dw⟩:=d'.get (tP l2)
 rw [List.getElem_toArray,List.getElem_toArray,(List.getElem?_eq_some_iff.mp hv).2,(List.getElem?_eq_some_iff.mp hw).2]
 exact hf ((XU xs h).2 j _ _ (tP l1) (tP l2)) dv dw
include fro in
theorem Up{A:aR}{n:Nat}{x y:PV}{v w:aB}{r:Bool}(hu:A.units < cLine)(sub:∀ {x y:PV} {b:Bool} {v w:aB},jA n x y=some b→bF C W x v→bF C W y w→EqAt A.in1 s v w b)(h:jA (n+1) x y=some r)(dv:wK C W s.heap x v)(dw:wK C W s.heap y w):UK A s v w r:=by
 cases Mi h with
 |nn=>cases dv.plain (fun _ e=>nomatch e);cases dw.plain (fun _ e=>nomatch e);exact⟨RcAt.none_none,RcNeAt.none_none,rfl⟩
 |nt=>cases dv.plain (fun _ e=>nomatch e);obtain⟨l,vs,rfl,hl,_⟩:=RI fro (dw.plain (fun _ e=>nomatch e));exact⟨RcAt.none_tuple hl hu,RcNeAt.none_tuple hl hu,rfl⟩
 |tn=>cases dw.plain (fun _ e=>nomatch e);obtain⟨l,vs,rfl,hl,_⟩:=RI fro (dv.plain (fun _ e=>nomatch e));exact⟨RcAt.tuple_none hl hu,RcNeAt.tuple_none hl hu,rfl⟩
 |bb=>cases dv.plain (fun _ e=>nomatch e);cases dw.plain (fun _ e=>nomatch e);exact⟨RcAt.bool_bool _ _,RcNeAt.bool_bool _ _,rfl⟩
 |ii=>cases dv.plain (fun _ e=>nomatch e);cases dw.plain (fun _ e=>nomatch e);rw [←aFd];exact⟨RcAt.int_int _ _ _ _,RcNeAt.int_int _ _ _ _,rfl⟩
 |ss=>
  obtain⟨p,t,rfl,rfl⟩:=LD (dv.plain (fun _ e=>nomatch e))
  obtain⟨q,u,rfl,rfl⟩:=LD (dw.plain (fun _ e=>nomatch e))
  rw [←aFg];exact⟨RcAt.str_str _ _ _ _,RcNeAt.str_str _ _ _ _,rfl⟩
 |yy=>
  obtain⟨p,t,rfl,rfl⟩:=wQ (dv.plain (fun _ e=>nomatch e))
  obtain⟨q,u,rfl,rfl⟩:=wQ (dw.plain (fun _ e=>nomatch e))
  rw [←aFe];exact⟨fun prog w E Q h=>eq_bytes h,fun prog w E Q h=>ne_bytes h,rfl⟩
 |tt xs ys r h=>
  obtain⟨l,vs,rfl,hl,d⟩:=RI fro (dv.plain (fun _ e=>nomatch e))
  obtain⟨l',vs',rfl,hl',d'⟩:=RI fro (dw.plain (fun _ e=>nomatch e))
  have e:=(XU xs h).1
  replace e:=(iE).symm▸(iE).symm▸(d'.len)▸(d.len)▸e
  rw [e];exact⟨RcAt.tuples hl hl' hu (QN sub h d d'),RcNeAt.tuples hl hl' hu (QN sub h d d'),rfl⟩
 |ll xs ys r h=>
  obtain⟨l,vs,rfl,hl,d⟩:=dv.list fro
  obtain⟨l',vs',rfl,hl',d'⟩:=dw.list fro
  have e:=aAT h
  replace e:=(iE).symm▸(iE).symm▸(d'.len)▸(d.len)▸e
  by_cases hs:(iZ vs).size=(iZ vs').size
  ·rw [←e.1 hs];exact⟨RcAt.lists hl hl' hs hu (QN sub h d d'),RcNeAt.lists hl hl' hs hu (QN sub h d d'),rfl⟩
  ·rw [e.2 hs];exact⟨RcAt.lists_lengths hl hl' (bne_iff_ne.mpr hs) hu,RcNeAt.lists_lengths hl hl' (bne_iff_ne.mpr hs) hu,rfl⟩
include fro in
theorem aEZ(n:Nat):∀ {A:aR} {x y:PV} {b:Bool} {v w:aB},A.units+n < cLine→jA n x y=some b→bF C W x v→bF C W y w→EqAt A s v w b:=by
 induction n with
 |zero=>intro A x y b v w hu h;exact aT h
 |succ n ih=>
  intro A x y b v w hu h d d'
  exact aFa (fun e=>by subst e;exact aEr _ h d d') (Up fro (sI (oF ..) hu) (fun h d d'=>ih (by rw [show A.in1.units+n=A.units+(n+1) from Nat.add_right_comm ..];exact hu) h d d') h (.den d) (.den d'))
end
section
variable{K:KK}{A:aR}{st:St}{z:Z K A st}{α β δ:Type}{D:Dn α δ}{T:aB→WP δ}{a:SV}{x:aB}
noncomputable def aJI(st:St)(a:SV):Option PV:=match a with
 |.pv x=>some x
 |.ref k=>match st.cells[k]? with
  |some c=>match c with
   |.list xs=>some (.lst xs)
   |_=>none
  |none=>none
noncomputable def KG(a:SV)(k:PV→M α):M α:=fun st=>match aJI st a with
 |some x=>k x st
 |none=>none
theorem Go.onV(d:z.d dV a x)(h:∀ p,wK K.C z.X.W z.s.heap p x→Go z D w (k p st)):Go z D w (KG a k st):=by
 cases a with
 |pv p=>exact h p (.den d)
 |ref i=>
  show Go z D w (match (match st.cells[i]? with | some c=>(match c with | .list xs=>some (PV.lst xs) | _=>none) | none=>none) with | some x=>k x st | none=>none)
  cases q:st.cells[i]? with
  |none=>exact .no
  |some c=>cases c with
   |list xs=>cases z.R.cells _ _ q with | mk o hw ho r=>cases r with | mk vs ep hl=>exact h _ (.lst xs _ vs rfl d.2 ⟨_,ho,rfl,ep,rfl⟩ hl)
   |_=>exact .no
theorem Wa(h:lG A n):A.units+100 < cLine:=sI (lM h.lim 100) (bR rfl)
theorem Z.sub(z:Z K A st){x y:PV}(h:jA 7 x y=some b)(d:bF K.C z.X.W x v)(d':bF K.C z.X.W y w):EqAt A.in1 z.s v w b:=
 aEZ z.froG 7 (sI (oE (bR rfl:8≤100) A.units) (Wa z.hA)) h d d'
theorem Z.rc(z:Z K A st){x y:PV}(h:jA 8 x y=some r)(dv:wK K.C z.X.W z.s.heap x v)(dw:wK K.C z.X.W z.s.heap y w):UK A z.s v w r:=
 Up z.froG (sI (oF ..) (Wa z.hA)) z.sub h dv dw
noncomputable def cN(a b:SV):M Bool:=KG a fun x=>KG b fun y=>eZ (jA 8 x y) rt
noncomputable def oZ(a b:SV):M Bool:=KG a fun x=>KG b fun y=>eZ (jA 8 x y) fun r=>rt (!r)
theorem fA:kC K (eW .Eq) cN:=fun {A st} z a b x y dx dy=>.onV dx fun p sp=>.onV dy fun q sq=>.onSome fun r e=>Go.rt rfl fun Q h=>(z.rc e sp sq).eq _ _ _ _ h
theorem vQ:kC K (eW .NotEq) oZ:=fun {A st} z a b x y dx dy=>.onV dx fun p sp=>.onV dy fun q sq=>.onSome fun r e=>Go.rt rfl fun Q h=>(z.rc e sp sq).ne _ _ _ _ h
noncomputable def wN(n:Nat):List PV→PV→Option Bool
 | [],_=>some false
 |x::xs,p=>match jA n x p with
  |some a=>match wN n xs p with
   |some b=>some (a || b)
   |none=>none
  |none=>none
theorem aAY(xs:List PV):∀ {vs:List aB} {b:Bool},wN n xs p=some b→aS P xs vs→∃ L:List (aB×Bool),L.map (·.1)=vs∧b=L.any (·.2)∧∀ q∈L,∃ x,jA n x p=some q.2∧P x q.1:=by
 induction xs with
 |nil=>intro vs b h d;obtain rfl:=bO h;subst d;exact⟨[],rfl,rfl,fun _ h=>nomatch h⟩
 |cons x xs ih=>
  intro vs b h d
  cases d with | mk v vs d ds=>
  have h:(match jA n x p with | some a=>(match wN n xs p with | some b=>some (a || b) | none=>none) | none=>none)=some b:=h
  cases q:jA n x p with
  |none=>rw [q] at h;exact aT h
  |some a=>
   rw [q] at h
   have h:(match wN n xs p with | some b=>some (a || b) | none=>none)=some b:=h
   cases q':wN n xs p with
   |none=>rw [q'] at h;exact aT h
   |some c=>
    rw [q'] at h;obtain rfl:=bO h
    obtain⟨L,e1,e2,e3⟩:=ih q' ds
    exact⟨(v,a)::L,congrArg _ e1,by rw [e2];rfl,List.forall_mem_cons.mpr ⟨⟨x,q,d⟩,e3⟩⟩
theorem aAX{L:List (aB×Bool)}{P:aB→Bool→Prop}(h:∀ q∈L,P q.1 q.2):∃ e:aB→Bool,(∀ v∈L.map (·.1),P v (e v))∧(L.map (·.1)).any e=L.any (·.2):=by
 have hd:∀ v,Decidable ((v,true)∈L):=fun v=>SI _
 refine⟨fun v=>@decide _ (hd v),fun v hv=> ?_,?_⟩
 ·obtain⟨⟨v,c⟩,hq,rfl⟩:=List.mem_map.mp hv
  show P v (@decide _ (hd v))
  by_cases m:(v,true)∈L
  ·rw [decide_eq_true m];exact h _ m
  ·rw [decide_eq_false m]
   cases c with
   |true=>exact absurd hq m
   |false=>exact h _ hq
 ·rw [qS,List.any_eq_true,List.any_eq_true]
  refine⟨fun⟨v,_,e⟩=>⟨(v,true),of_decide_eq_true e,rfl⟩,fun⟨⟨v,c⟩,hq,e⟩=> ?_⟩
  cases (e:c=true)
  exact⟨v,LZ hq,decide_eq_true hq⟩
noncomputable def Ig(s:aG)(l:Addr)(vs:List aB):Prop:=s.heap.IsTuple l vs.toArray∨s.heap.IsList l vs.toArray
noncomputable def Tu(a:SV)(k:List PV→M α):M α:=CE a k (iI a k er)
theorem Go.onR(d:z.d dV a x)(h:∀ xs l vs,Ig z.s l vs→bQ K.C z.X xs vs→Go z D (T (.ref l)) (k xs st)):Go z D (T x) (Tu a k st):=
 .onT d (fun xs l vs ep _ hl dl=>h xs l vs (.inl ⟨_,hl,rfl,ep,rfl⟩) dl) (.onL d (fun xs l vs ep hl dl=>h xs l vs (.inr ⟨_,hl,rfl,ep,rfl⟩) dl) .er)
noncomputable def uC(a b:SV):M Bool:=lK a fun p=>Tu b fun xs=>eZ (wN 7 xs p) rt
theorem aGJ{p:PV}{xs:List PV}(dp:bF K.C z.X.W p y)(hl:Ig z.s l vs)(d:bQ K.C z.X xs vs)(e:wN 7 xs p=some r):(∀ Q,Q (.bool r) z.s→K.wp A (eW .In y (.ref l)) Q z.s)∧∀ Q,Q (.bool (!r)) z.s→K.wp A (eW .NotIn y (.ref l)) Q z.s:=by
 obtain⟨L,rfl,rfl,h⟩:=aAY xs e d
 obtain⟨f,h1,h2⟩:=aAX (P:=fun v b=>EqAt A.in1 z.s v y b) fun q hq=>let⟨x,e,d⟩:=h q hq;z.sub e d dp
 have h1':∀ v,v∈(L.map (·.1)).toArray→EqAt A.in1 z.s v y (f v):=fun v hv=>h1 v (List.mem_toArray.mp hv)
 have h2':(L.map (·.1)).toArray.any f=L.any (·.2):=(h2)▸List.any_toArray
 refine(h2')▸?_
 rcases hl with hl | hl
 ·exact⟨fun Q q=>in_tupleAt f hl h1' q,fun Q q=>notIn_tupleAt f hl h1' q⟩
 ·exact⟨fun Q q=>in_listAt f hl h1' q,fun Q q=>notIn_listAt f hl h1' q⟩
theorem Oz{x y:aB}(dx:z.d dV a x)(dy:z.d dV b y):Go z dB (fun Q s=>∃ r,((∀ Q,Q (.bool r) s→K.wp A (eW .In x y) Q s)∧∀ Q,Q (.bool (!r)) s→K.wp A (eW .NotIn x y) Q s)∧Q r s) (uC a b st):=
 .onP (T:=fun _ Q s=>∃ r,((∀ Q,Q (.bool r) s→K.wp A (eW .In x y) Q s)∧∀ Q,Q (.bool (!r)) s→K.wp A (eW .NotIn x y) Q s)∧Q r s) dx fun p dp=>.onR (T:=fun y Q s=>∃ r,((∀ Q,Q (.bool r) s→K.wp A (eW .In x y) Q s)∧∀ Q,Q (.bool (!r)) s→K.wp A (eW .NotIn x y) Q s)∧Q r s) dy fun xs l vs hl d=>.onSome fun r e=>Go.rt (D:=dB) rfl fun Q q=>⟨r,aGJ dp hl d e,q⟩
theorem aLm:kC K (eW .In) uC:=fun z a b x y dx dy r s' e Q q=>
 (Oz dx dy r s' e (fun v s=>Q (.bool v) s) fun z' v l d=>by cases (show r=v from d);exact q z' _ l rfl).elim fun r h=>h.1.1 _ h.2
theorem aLC:kC K (eW .NotIn) (sX uC):=fun z a b x y dx dy=>
 (Oz dx dy).ruB (fun Q q=>q.elim fun r h=>h.1.2 _ h.2) fun z₁ l=>.rt rfl fun Q q=>q
end
end
section
set_option tactic.hygienic true
open PySem PySem.W PySem.Calls PyProof.Rows PySem.Builtin PySem.Builtin.Bytes
theorem aBT:xV (.type "bytes") "__index__"=pure none:=by rw [mJ,lU];kernel_rfl
section
variable{prog:iB}{w:eR}{A:aR}{E:aB→aG→Prop}{s:aG}
noncomputable def BM(b c:Array UInt8)(w:Option (Nat×Nat)):Int:=match w.bind (fun(x:Nat×Nat)=>find? b c x.1 x.2) with
 |some i=>(i:Int)
 |none=>-1
noncomputable def CR(n m:Nat)(lo:Option Int):Option (Nat×Nat):=
 if (Min.min (n:Int) (if (none:Option Int).getD (n:Int) < 0 then Max.max 0 ((none:Option Int).getD (n:Int)+(n:Int)) else(none:Option Int).getD (n:Int)) - if lo.getD 0 < 0 then Max.max 0 (lo.getD 0+(n:Int)) else lo.getD 0) < (m:Int) then none
 else some ((if lo.getD 0 < 0 then Max.max 0 (lo.getD 0+(n:Int)) else lo.getD 0).toNat,(Min.min (n:Int) (if (none:Option Int).getD (n:Int) < 0 then Max.max 0 ((none:Option Int).getD (n:Int)+(n:Int)) else(none:Option Int).getD (n:Int))).toNat)
theorem Nq(b c:Array UInt8)(w':Option (Nat×Nat)):(w'.bind fun x=>if false=true then rfind? b c x.fst x.snd else find? b c x.fst x.snd)=w'.bind (fun(x:Nat×Nat)=>find? b c x.1 x.2):=by
 cases w' with
 |none=>rfl
 |some x=>simp
theorem aFy(b c:Array UInt8)(t u:Tok)
  (h:Q (.done (.ret (.int (BM b c (CR b.size c.size none)) s.toks))) {s with toks:=s.toks+1}):
  aI (aK prog w) A (Builtin.«bytes.find» ⟨[.bytes b t,.bytes c u],[]⟩) Q E s:=by
 refine aF (aF (dW rfl ?_))
 refine aF (dW rfl ?_)
 refine aF (dW rfl ?_)
 refine aF (dW LQ ?_)
 refine aF (bG ?_)
 refine aF (dW rfl ?_)
 refine bG ?_
 unfold CR at h
 dsimp only
 rw [Nq]
 unfold BM at h
 split
 ·rename_i i e
  rw [e] at h
  exact fun Γ p hΓ=>h
 ·rename_i e
  rw [e] at h
  exact aF (xW (by rw [if_neg mK];exact fun Γ p hΓ=>h))
theorem aBJ(i:Int)(v:Tok):bound? (some (.int i v))=pure (some i):=rfl
theorem aFz(b c:Array UInt8)(t u v:Tok)(i:Int)
  (h:Q (.done (.ret (.int (BM b c (CR b.size c.size (some i))) s.toks))) {s with toks:=s.toks+1}):
  aI (aK prog w) A (Builtin.«bytes.find» ⟨[.bytes b t,.bytes c u,.int i v],[]⟩) Q E s:=by
 refine aF (aF (dW rfl ?_))
 refine aF (dW (aBJ i v) ?_)
 refine aF (dW rfl ?_)
 refine aF (dW LQ ?_)
 refine aF (bG ?_)
 refine aF (dW rfl ?_)
 refine bG ?_
 unfold CR at h
 dsimp only
 rw [Nq]
 unfold BM at h
 split
 ·rename_i i e
  rw [e] at h
  exact fun Γ p hΓ=>h
 ·rename_i e
  rw [e] at h
  exact aF (xW (by rw [if_neg mK];exact fun Γ p hΓ=>h))
theorem aHV(b:Array UInt8)(t:Tok)(hz:b.size≤fR)(h:Q (.done (.ret (.bytes (b.toList.map toLower).toArray s.toks))) {s with toks:=s.toks+1}):
  aI (aK prog w) A (Builtin.«bytes.lower» ⟨[.bytes b t],[]⟩) Q E s:=by
 refine aF (dW rfl ?_)
 refine aF (dW rfl ?_)
 exact aF (wpAny_mkBytes (bG h) (by simpa using hz))
theorem aGK(b:Array UInt8)(t:Tok)(hh:A.handled=none)(h:∀ h' tk e,Heap.NewExc s.heap h' e "TypeError"→E (.ref e) {s with heap:=h',toks:=tk}):
  aI (aK prog w) A (asIndex (.bytes b t)) Q E s:=by
 refine aF (dW rfl ?_)
 refine aF ?_
 refine aF (AD (iJ s b t) aBT ?_)
 refine bG ?_
 refine aF (dW rfl ?_)
 exact wpAny_raiseErrorMade plainExc_TypeError hh h
theorem aGH(b c:Array UInt8)(t u:Tok)(hh:A.handled=none)
  (h:∀ h' tk,(∀ a o,s.heap.get? a=some o→h'.get? a=some o)→Q (.done (.ret (.bool (find? b c 0 b.size).isSome))) {s with heap:=h',toks:=tk}):
  aI (aK prog w) A (Builtin.«bytes.__contains__» ⟨[.bytes b t,.bytes c u],[]⟩) Q E s:=by
 refine aF (dW rfl ?_)
 refine aF ?_
 refine aF (Gf (aGK c u hh fun h' tk e ex=> ?_))
 refine aF (dW LQ ?_)
 refine aF (dW LQ ?_)
 exact aF (xW (bG (bG (h h' tk ex.keeps))))
theorem aGG(b:Array UInt8)(t:Tok)(i:Int)(u:Tok)(h0:0≤i)(h1:i < 256)(h:Q (.done (.ret (.bool (b.contains i.toNat.toUInt8)))) s):
  aI (aK prog w) A (Builtin.«bytes.__contains__» ⟨[.bytes b t,.int i u],[]⟩) Q E s:=by
 refine aF (dW rfl ?_)
 refine aF ?_
 refine aF (Gf (dW rfl ?_))
 refine aF (dW LQ ?_)
 dsimp only
 exact AB (decide_eq_false (Tn h0 h1)) (bG (bG h))
end
noncomputable def pos1(c:Nat):List Nat→Option Nat
 | []=>none
 |x::xs=>match bV x c with
  |true=>some 0
  |false=>match pos1 c xs with
   |some i=>some (i+1)
   |none=>none
theorem Ui(c:Nat):∀(xs:List Nat),(uT xs.length).find? (fun i=>xs[i]? ==some c)=pos1 c xs
 | []=>rfl
 |x::xs=>by
  rw [tQ,Hj,List.find?_cons,pos1]
  cases h:bV x c with
  |true=>
   have:=sH h
   subst this
   simp
  |false=>
   have hne:=Nat.ne_of_beq_eq_false h
   have e:(((x::xs)[0]?)==some c)=false:=by simpa using hne
   rw [e]
   simp only [List.find?_map]
   have:((fun i=>(x::xs)[i]? ==some c)∘lN)=fun i=>xs[i]? ==some c:=by funext i;simp
   rw [this,Ui c xs]
   cases pos1 c xs <;> rfl
theorem aFq(b:Array UInt8)(i:Nat)(c:UInt8):(b.extract i (i+1)== #[c])=(b[i]? ==some c):=by
 rw [qS,beq_iff_eq,beq_iff_eq]
 constructor
 ·intro h
  have h1:=congrArg (fun a=>a[0]?) h
  have h2:0 < Min.min (i+1) b.size - i∧b[i]? =some c:=by simpa [Array.getElem?_extract] using h1
  exact h2.2
 ·intro h
  refine Array.ext_getElem? fun j=> ?_
  obtain⟨hi,hv⟩:=Array.getElem?_eq_some_iff.mp h
  rw [Array.getElem?_extract,ME (a:=i+1) hi,Nat.add_sub_cancel_left]
  cases j with
  |zero=>exact(if_pos Nat.one_pos).trans h
  |succ j=>exact if_neg (Nat.not_lt.mpr (lC (jS j)))
theorem Yc(x c:UInt8):(x==c)=bV x.toNat c.toNat:=by
 rw [qS,beq_iff_eq,Nat.beq_eq]
 exact⟨fun h=>by rw [h],fun h=>UInt8.toNat_inj.mp h⟩
theorem Np(b:Array UInt8)(c:UInt8)(lo:Nat)(hlo:lo≤b.size):find? b #[c] lo b.size=(pos1 c.toNat ((b.toList.map cJ).drop lo)).map (· +lo):=by
 unfold find?
 have hl:((b.toList.map cJ).drop lo).length=b.size - lo:=by simp
 rw [←Ui,hl,List.find?_map]
 have e1:b.size+1 - (lo+ #[c].size)=b.size - lo:=by simp
 rw [e1]
 congr 1
 apply congrArg (fun p=>List.find? p (uT (b.size - lo)))
 funext i
 show(b.extract (i+lo) (i+lo+1)== #[c])=_
 rw [aFq,LV,iW,GD,vZ i lo]
 cases b[lo+i]? with
 |none=>rfl
 |some x=>simp [Yc];rw [qS];simp
noncomputable def IK(l:List Nat)(c:Nat)(lo:Nat):Int:=match pos1 c (l.drop lo) with
 |some i=>((i+lo:Nat):Int)
 |none=>-1
theorem Nn(b:Array UInt8)(c:UInt8)(lo:Nat)(hlo:lo≤b.size):BM b #[c] (CR b.size (#[c]:Array UInt8).size (some (lo:Int)))=IK (b.toList.map cJ) c.toNat lo:=by
 have hm:(if ((b.size:Nat):Int) < 0 then Max.max 0 (((b.size:Nat):Int)+(b.size:Int)) else((b.size:Nat):Int))=(b.size:Int):=if_neg (Int.not_lt.mpr (SS _))
 have hn:(if ((lo:Nat):Int) < 0 then Max.max 0 (((lo:Nat):Int)+(b.size:Int)) else((lo:Nat):Int))=(lo:Int):=if_neg (Int.not_lt.mpr (SS _))
 unfold CR
 simp only [Option.getD_none,Option.getD_some,hm,hn,Int.min_self]
 unfold BM IK
 by_cases h:((b.size:Nat):Int) - (lo:Int) < ((#[c]:Array UInt8).size:Int)
 ·rw [if_pos h]
  have:lo=b.size:=TN hlo (Int.ofNat_le.mp (Int.le_of_sub_nonpos (Int.le_of_lt_add_one h)))
  subst this
  rw [List.drop_of_length_le (by simp)];rfl
 ·rw [if_neg h]
  simp only [Option.bind_some,Int.toNat_natCast]
  refine(Np b c lo hlo).symm▸?_
  cases pos1 c.toNat ((b.toList.map cJ).drop lo) <;> rfl
theorem aFA(b:Array UInt8)(c:UInt8):BM b #[c] (CR b.size (#[c]:Array UInt8).size none)=IK (b.toList.map cJ) c.toNat 0:=Nn b c 0 (jS _)
theorem Ex:Slot "bytes" "find" "bytes.find":=
 .of (owner:="bytes") (n:="find") (by rw [mJ,lU];kernel_rfl) (by kernel_rfl) (by decide+kernel) (by decide+kernel)
  (by first | exact .inl (by decide+kernel) | exact .inr (by kernel_rfl)) (by rw [qH];kernel_rfl)
theorem aPw:typeOf (.builtin "bytes.find")=pure (.type "method_descriptor"):=by show NC _=_;rw [NF];kernel_rfl
theorem Mf:rG table "bytes.find"=some Builtin.«bytes.find»:=wX (by kernel_rfl)
theorem aBj(a b:aB):lT "bytes.find" ⟨[a,b],[]⟩:=by unfold lT;kernel_rfl
theorem aBk(a b c:aB):lT "bytes.find" ⟨[a,b,c],[]⟩:=by unfold lT;kernel_rfl
theorem Xb:Slot "bytes" "lower" "bytes.lower":=
 .of (owner:="bytes") (n:="lower") (by rw [mJ,lU];kernel_rfl) (by kernel_rfl) (by decide+kernel) (by decide+kernel)
  (by first | exact .inl (by decide+kernel) | exact .inr (by kernel_rfl)) (by rw [qH];kernel_rfl)
theorem aPy:typeOf (.builtin "bytes.lower")=pure (.type "method_descriptor"):=by show NC _=_;rw [NF];kernel_rfl
theorem aEY:rG table "bytes.lower"=some Builtin.«bytes.lower»:=wX (by kernel_rfl)
theorem aBm(a:aB):lT "bytes.lower" ⟨[a],[]⟩:=by unfold lT;kernel_rfl
theorem So:mL "bytes" "find" "bytes.find":=⟨Ha,Ex,aPw⟩
theorem aIo:mL "bytes" "lower" "bytes.lower":=⟨Ha,Xb,aPy⟩
end
section
variable{α β:Type}
noncomputable def lS(f:PV→Option β):List PV→Option (List β)
 | []=>some []
 |x::r=>match f x with
  |some b=>match lS f r with
   |some l=>some (b::l)
   |none=>none
  |none=>none
theorem DN(h:∀ x b v,f x=some b→P x v→R b v)(xs:List PV):∀ {vs:List aB} {l:List β},lS f xs=some l→aS P xs vs→aS R l vs:=by
 induction xs with
 |nil=>intro vs l e d;obtain rfl:=bO e;exact d
 |cons x r ih=>
  intro vs l e d
  have e:(match f x with | some b=>(match lS f r with | some l=>some (b::l) | none=>none) | none=>none)=some l:=e
  cases q:f x with
  |none=>rw [q] at e;exact aT e
  |some b=>
   replace e:=(q)▸e
   have e:(match lS f r with | some l=>some (b::l) | none=>none)=some l:=e
   cases q':lS f r with
   |none=>rw [q'] at e;exact aT e
   |some m=>rw [q'] at e;obtain rfl:=bO e;cases d with | mk v ws a as=>exact .mk (h _ _ _ q a) (ih q' as)
noncomputable def DP(p:PV):Option Int:=match p with
 |.int i=>some i
 |_=>none
noncomputable def sP(p:PV):Option (List Nat):=match p with
 |.bytes i=>some i
 |_=>none
noncomputable def WJ(p:PV):Option (List Nat):=match p with
 |.str i=>some i
 |_=>none
theorem Iz(h:DP p=some i):p= .int i:=by cases p <;> first | exact congrArg _ (bO h) | exact aT h
theorem MW(h:sP p=some i):p= .bytes i:=by cases p <;> first | exact congrArg PV.bytes (bO h) | exact aT h
theorem aBo(h:WJ p=some i):p= .str i:=by cases p <;> first | exact congrArg PV.str (bO h) | exact aT h
end
section
variable{K:KK}{A:aR}{st:St}{z:Z K A st}{α β:Type}{D:Dn α β}{w:WP β}
theorem Go.keeps(d:z.d D a x)(h:∀ Q,(∀ h' tk,(∀ b o,z.s.heap.get? b=some o→h'.get? b=some o)→Q x {z.s with heap:=h',toks:=tk})→w Q z.s):Go z D w (some (a,st)):=fun a' s' e Q q=>by
 obtain⟨rfl,rfl⟩:=gA e;exact h Q fun h' tk k=>q (z.to _ (z.R.still.to h' tk) k) x Z.le0 d
noncomputable def JO(i j:Int):Int:=match decide (j < i) with
 |true=>j
 |false=>i
theorem aIr:jQ (JO i j) (if j < i then .int j u else .int i t):=by
 unfold JO
 by_cases h:j < i
 ·rw [if_pos h,decide_eq_true h];exact .mk u
 ·rw [if_neg h,decide_eq_false h];exact .mk t
noncomputable def JP(a b:SV):M SV:=gT a (fun i=>gT b (fun j=>rt (.pv (.int (JO i j)))) er) er
theorem Vv:gG K (fun v w=>call (.builtin "min") [v,w]) JP:=fun {A st} z a b x y dx dy=>
 .onI (T:=fun x=>K.wp A (call (.builtin "min") [x,y])) dx (fun i t=>.onI (T:=fun y=>K.wp A (call (.builtin "min") [.int i t,y])) dy (fun j u=>.keeps (aIr) fun Q q=>min_two_ints z.hA.handled q) .er) .er
noncomputable def Bm(i j:Int):Int:=match decide (i < j) with
 |true=>j
 |false=>i
theorem aIi:jQ (Bm i j) (if i < j then .int j u else .int i t):=by
 unfold Bm
 by_cases h:i < j
 ·rw [if_pos h,decide_eq_true h];exact .mk u
 ·rw [if_neg h,decide_eq_false h];exact .mk t
noncomputable def Sj(a b:SV):M SV:=gT a (fun i=>gT b (fun j=>rt (.pv (.int (Bm i j)))) er) er
theorem aLA:gG K (fun v w=>call (.builtin "max") [v,w]) Sj:=fun {A st} z a b x y dx dy=>
 .onI (T:=fun x=>K.wp A (call (.builtin "max") [x,y])) dx (fun i t=>.onI (T:=fun y=>K.wp A (call (.builtin "max") [.int i t,y])) dy (fun j u=>.keeps (aIi) fun Q q=>max_two_ints z.hA.handled q) .er) .er
noncomputable def JX(l:List Nat)(k:Nat→M α):M α:=match l with
 | []=>er
 |c::r=>match r with
  | []=>k c
  |_::_=>er
theorem Go.on1(h:∀ c,l= [c]→Go z D w (k c st)):Go z D w (JX l k st):=by
 cases l with
 |nil=>exact .er
 |cons c r=>cases r with
  |nil=>exact h c rfl
  |cons=>exact .er
noncomputable def Tx(a:SV):M SV:=zR a (fun l=>JX l fun c=>rt (.pv (.int (c:Nat)))) er
theorem aLD:jZ K (fun v=>call (.builtin "ord") [v]) Tx:=fun {A st} z a x dx=>
 .onS (T:=fun x=>K.wp A (call (.builtin "ord") [x])) dx (fun b t=>.on1 fun c e=>by
  cases (show b=⟨#[c]⟩ by rw [←xR b,e])
  exact .ret (z.tok (z.s.toks+1)) Z.le0 (jQ.mk _) fun Q q=>PySem.P.ord_of_char q) .er
noncomputable def Xi(a:SV):M SV:=gT a (fun i=>gd (decide (0≤i) && decide (i < 1000000)) (rt (.pv (.str ((toString i:String):Str).cps.toList)))) er
theorem aOx{a:Int}(h0:0≤a)(h1:a < 1000000):a.natAbs.log2 < 20:=by
 by_cases z:a.natAbs=0
 ·rw [z];decide
 ·exact(Nat.log2_lt z).mpr (DE (Int.ofNat_lt.mp (Int.lt_of_le_of_lt (Int.le_of_eq (Int.natAbs_of_nonneg h0)) h1)) (bR rfl))
theorem aLO:jZ K (fun v=>call (.type "str") [v]) Xi:=fun {A st} z a x dx=>
 .onI (T:=fun x=>K.wp A (call (.type "str") [x])) dx (fun i t=>.gd fun e=>by
  have e:=hZ _ _▸e
  exact .ret (z.tok (z.s.toks+1)) Z.le0 (lQ.mk _ _) fun Q q=>PySem.P.str_of_int (AN (aOx (of_decide_eq_true e.1) (of_decide_eq_true e.2)) (bR rfl)) q) .er
noncomputable def PC(a:SV):M SV:=gT a (fun i=>rt (.pv (.int i))) er
theorem aLn:jZ K (fun v=>call (.type "int") [v]) PC:=fun {A st} z a x dx=>
 .onI (T:=fun x=>K.wp A (call (.type "int") [x])) dx (fun i t=>.rt (jQ.mk t) fun Q q=>call_int_int q) .er
noncomputable def Fq(a:SV):M SV:=CE a (fun xs=>rt (.pv (.tup xs))) er
theorem aLP:jZ K (fun v=>call (.type "tuple") [v]) Fq:=fun {A st} z a x dx=>
 .onT (T:=fun x=>K.wp A (call (.type "tuple") [x])) dx (fun xs l vs ep hw hl d=>.rt (oL.mk l vs ep hw (by rw [iH];exact d)) fun Q q=>call_tuple_same ⟨_,hl,rfl,ep,rfl⟩ q) .er
noncomputable def JW(p:PV):Option Nat:=match DP p with
 |some i=>match decide (0≤i) && decide (i < 256) with
  |true=>some i.toNat
  |false=>none
 |none=>none
inductive TS(n:Nat):aB→Prop
 |mk (i:Int) (t:Tok) (h:0≤i∧i < 256) (e:i.toNat=n):TS n (.int i t)
theorem aJh(p:PV)(n:Nat)(v:aB)(h:JW p=some n)(d:bF C W p v):TS n v:=by
 unfold JW at h
 cases q:DP p with
 |none=>rw [q] at h;exact aT h
 |some i=>
  rw [q] at h
  have h:(match decide (0≤i) && decide (i < 256) with | true=>some i.toNat | false=>none)=some n:=h
  cases q':decide (0≤i) && decide (i < 256) with
  |false=>rw [q'] at h;exact aT h
  |true=>
   rw [q'] at h;obtain rfl:=bO h
   have q':=hZ _ _▸q'
   cases Iz q;cases d with | mk t=>exact .mk i t ⟨of_decide_eq_true q'.1,of_decide_eq_true q'.2⟩ rfl
theorem aJi(l:List Nat):∀ {vs:List aB},aS TS l vs→∃ ns:List Int,IntsAre vs ns∧(∀ n∈ns,0≤n∧n < 256)∧ns.map Int.toNat=l:=by
 induction l with
 |nil=>intro vs d;subst d;exact⟨[],.nil,fun _ h=>(nomatch h),rfl⟩
 |cons n l ih=>
  intro vs d
  cases d with | mk v ws a as=>
  cases a with | mk i t h e=>
  obtain⟨ns,h1,h2,rfl⟩:=ih as
  exact⟨i::ns,.cons i t h1,List.forall_mem_cons.mpr ⟨h,h2⟩,congrArg (·::_) e⟩
theorem aBV(h:∀ n∈ns,0≤n∧n < 256):(byteArr ns).toList.map cJ=ns.map Int.toNat:=by
 unfold byteArr
 simp only [iY]
 refine LX fun n hn=> ?_
 exact Cn (h n hn).1 (h n hn).2
noncomputable def Jv(a:SV):M SV:=iI a (fun xs=>eZ (lS JW xs) fun l=>dQ xs.length (rt (.pv (.bytes l)))) er
theorem aLi:jZ K (fun v=>call (.type "bytes") [v]) Jv:=fun {A st} z a x dx=>
 .onL (T:=fun x=>K.wp A (call (.type "bytes") [x])) dx (fun xs l vs ep hl d=>.onSome fun m e=>.fitL d fun h=>by
  obtain⟨ns,h1,h2,rfl⟩:=aJi m (DN aJh xs e d)
  refine fun a' s' e Q q=>call_bytes_ints ⟨_,hl,rfl,ep,rfl⟩ h1 h2 (gM h) z.hA.handled fun h' t k hk=> ?_
  obtain⟨rfl,rfl⟩:=gA e;exact q (z.to _ (z.R.still.to h' k) hk) _ Z.le0 (aBV h2▸iU.mk (byteArr ns) t:iU _ _)) .er
noncomputable def Bx(a:SV):M SV:=gT a (fun i=>rt (.pv (.int (-i)))) er
noncomputable def Hy(a:PE K):PE K:=⟨bd a.m Bx,fun e=>.UnaryOp .USub (a.r (x1 e)) e.pos,1,fun _=>rfl,fun e A _ z=>(a.ok _ z).ru (fun Q q=>wpAny_UnaryOp q) fun z₁ l₁ dx=>
 .onI (T:=fun x=>K.wp A (unaryOp .USub x)) dx (fun i t=>.ret (z₁.tok (z₁.s.toks+1)) Z.le0 (jQ.mk _) fun Q q=>PySem.P.neg_int q) .er⟩
theorem aS.rep{xs:List α}(h:aS P xs vs)(k:Nat):aS P (mZ k xs).flatten (mZ k vs).flatten:=by
 induction k with
 |zero=>exact rfl
 |succ k ih=>rw [List.replicate_succ,List.replicate_succ,TF,TF];exact h.app ih
noncomputable def Sq(a b:SV):M SV:=iI a (fun xs=>gT b (fun k=>gd (decide (0≤k) && (decide (k≤10000) && decide (xs.length≤100))) fun st=>some (.ref st.cells.length,⟨st.loc,st.cells++[.list (mZ k.toNat xs).flatten]⟩)) er) er
theorem aLB:gG K (jU .Mult) Sq:=fun {A st} z a b x y dx dy=>
 .onL (T:=fun x=>K.wp A (jU .Mult x y)) dx (fun xs l vs ep ho d=>.onI (T:=fun y=>K.wp A (jU .Mult (.ref l) y)) dy (fun k u=>.gd fun e=>by
  have e:=hZ _ _▸e
  have e':=hZ _ _▸e.2
  have h0:=of_decide_eq_true e.1
  have h1:=of_decide_eq_true e'.1
  have h2:=of_decide_eq_true e'.2
  rw [d.len] at h2
  have hsz':vs.toArray.size*k.toNat≤1000000:=Nat.mul_le_mul h2 (Int.toNat_le.mpr h1)
  refine .newL z.s.toks (d.rep k.toNat) fun Q q=>wpAny_binaryOp_repeat_ref rfl (qK ho) (fun s'=>typeIs_int s' k u) noFill_list_mul F.fills_int_mul F.slot_int_rmul repeat_list F.slot_int_index.lookup
    (mQ F.slot_int_rmul (typeIs_int z.s k u) F.entry_int_rmul (F.args_int_rmul_2 _ _) (lm_int_rmul_list_any k u l vs.toArray ep none #[])
     ⟨ho,rfl,qK ho,mQ F.slot_list_mul (qK ho) F.entry_list_mul (F.args_list_mul_2 _ _)
      (lm_list_mul_any l vs.toArray ep none #[] k u (nn (Bool.and_eq_true_iff.mpr ⟨decide_eq_true (Int.le_trans (by decide) h0),decide_eq_true (Int.lt_of_le_of_lt h1 (by decide))⟩)) (Nat.not_lt.mpr (aP hsz' (bR rfl))) (fun h=>Nat.not_lt.mpr (gM hsz') (of_decide_eq_true h)))
      ⟨ho,?_⟩⟩)
  rw [listMul_foldl_if];exact q) .er) .er
noncomputable def xB(a:SV):M Unit:=kU a (fun _=>rt ()) er
theorem FO:sN K "bytes" xB:=fun {A st} z a x d=>
 .onB (T:=fun x Q s=>s.TypeIs x "bytes"∧(∀ l,x= .ref l→∃ ob,s.heap.get? l=some ob∧ob.dict=none)∧Q () s) d (fun b t=>.same trivial fun Q q=>⟨iJ _ _ _,fun l e=>(nomatch e),q⟩) .er
theorem Dc(h:b.toList.map cJ= [c]):∃ x:UInt8,b= #[x]∧x.toNat=c:=by
 obtain⟨l⟩:=b
 cases l with
 |nil=>cases h
 |cons x l=>cases l with
  |nil=>exact⟨x,rfl,(List.cons.inj h).1⟩
  |cons=>cases h
noncomputable def Nk(a b:SV):M SV:=kU a (fun l=>kU b (fun m=>JX m fun c=>rt (.pv (.int (IK l c 0)))) er) er
theorem aLj:gG K (fun x y=>call (.builtin "bytes.find") [x,y]) Nk:=fun {A st} z a b x y dx dy=>
 .onB (T:=fun x=>K.wp A (call (.builtin "bytes.find") [x,y])) dx (fun b t=>.onB (T:=fun y=>K.wp A (call (.builtin "bytes.find") [.bytes b t,y])) dy (fun c u=>.on1 fun c' e=>by
  obtain⟨x,rfl,rfl⟩:=Dc e
  exact .ret (z.tok (z.s.toks+1)) Z.le0 (EX (aFA b x).symm z.s.toks) fun Q q=>mQ Ex (iJ _ _ _) Mf (aBj _ _) (.of_wp fun prog w A R s h=>aFy b #[x] t u ⟨_,rfl,h⟩) q) .er) .er
noncomputable def Nl(a b i:SV):M SV:=kU a (fun l=>kU b (fun m=>JX m fun c=>gT i (fun i=>gd (decide (0≤i) && decide (i≤l.length)) (rt (.pv (.int (IK l c i.toNat))))) er) er) er
theorem aLk:yJ K (fun x y z=>call (.builtin "bytes.find") [x,y,z]) Nl:=fun {A st} z a b c x y u dx dy du=>
 .onB (T:=fun x=>K.wp A (call (.builtin "bytes.find") [x,y,u])) dx (fun b t=>.onB (T:=fun y=>K.wp A (call (.builtin "bytes.find") [.bytes b t,y,u])) dy (fun c t'=>.on1 fun c' e=>.onI (T:=fun u=>K.wp A (call (.builtin "bytes.find") [.bytes b t,.bytes c t',u])) du (fun i p=>.gd fun e'=>by
  obtain⟨x,rfl,rfl⟩:=Dc e
  have e':=hZ _ _▸e'
  have h0:=of_decide_eq_true e'.1
  have h1:=of_decide_eq_true e'.2
  rw [bT,qB] at h1
  have hw:=Nn b x i.toNat (Int.toNat_le.mpr h1)
  rw [SU h0] at hw
  exact .ret (z.tok (z.s.toks+1)) Z.le0 (EX hw.symm z.s.toks) fun Q q=>mQ Ex (iJ _ _ _) Mf (aBk _ _ _) (.of_wp fun prog w A R s h=>aFz b #[x] t t' p i ⟨_,rfl,h⟩) q) .er) .er) .er
noncomputable def PU(c:Nat):Nat:=match qD 65 c,qD c 90 with
 |true,true=>c+32
 |_,_=>c
theorem aHT(c:UInt8):(Gs c).toNat=PU c.toNat:=by
 have:∀ i:Fin 256,(Gs (tW i.val)).toNat=PU (tW i.val).toNat:=by decide+kernel
 have h:=this ⟨c.toNat,c.toNat_lt⟩
 rwa [UInt8.ofNat_toNat] at h
noncomputable def Rt(a:SV):M SV:=kU a (fun l=>dQ l.length (rt (.pv (.bytes (l.map PU))))) er
theorem aHU{b:Array UInt8}:(b.toList.map cJ).map PU=(b.toList.map Gs).toArray.toList.map cJ:=by
 rw [iY,iY];exact LX fun c _=>(aHT c).symm
theorem aLz:jZ K (fun x=>call (.builtin "bytes.lower") [x]) Rt:=fun {A st} z a x dx=>
 .onB (T:=fun x=>K.wp A (call (.builtin "bytes.lower") [x])) dx (fun b t=>.fitB fun h=>.ret (z.tok (z.s.toks+1)) Z.le0 (aHU▸iU.mk _ z.s.toks:iU _ _) fun Q q=>
  mQ Xb (iJ _ _ _) aEY (aBm _) (.of_wp fun prog w A R s h'=>aHV b t (gM h) ⟨_,rfl,h'⟩) q) .er
noncomputable def IY:List Nat→Nat→Bool
 | [],_=>false
 |x::xs,c=>match bV x c with
  |true=>true
  |false=>IY xs c
theorem aGw(l:List UInt8)(c:UInt8):IY (l.map cJ) c.toNat=l.contains c:=by
 induction l with
 |nil=>rfl
 |cons x l ih=>
  rw [iX,IY,List.contains_cons,←ih,show(c==x)=bV x.toNat c.toNat by rw [←Yc,qS,beq_iff_eq,beq_iff_eq];exact eq_comm]
  cases bV x.toNat c.toNat <;> rfl
noncomputable def Ab(a b:SV):M Bool:=kU b (fun l=>kU a (fun m=>JX m fun c=>rt (pos1 c l).isSome) (gT a (fun i=>gd (decide (0≤i) && decide (i < 256)) (rt (IY l i.toNat))) er)) er
theorem Vr:HE K Ab:=fun {A st} z a b x y dx dy=>
 .onB (T:=fun y=>K.wp A (BD y x)) dy (fun b t=>.onB (T:=fun x=>K.wp A (BD (.bytes b t) x)) dx (fun c u=>.on1 fun c' e=>by
  obtain⟨x,rfl,rfl⟩:=Dc e
  have:(pos1 x.toNat (b.toList.map cJ)).isSome=(Builtin.Bytes.find? b #[x] 0 b.size).isSome:=by rw [Np b x 0 (jS _),Hq,List.drop_zero]
  exact .keeps this fun Q q=>Gg (iJ _ _ _) SN
   (mQ SN (iJ _ _ _) FB.entry_bytes_contains (FB.args_bytes_contains_2 _ _) (S:=fun A R s=>A.handled=none∧∀ h' tk,(∀ a o,s.heap.get? a=some o→h'.get? a=some o)→R (.ok (.ret (.bool (Builtin.Bytes.find? b #[x] 0 b.size).isSome))) {s with heap:=h',toks:=tk}) (.of_wp fun prog w A R s h=>aGH (A:=A.in1) b #[x] t u h.1 fun h' tk k=>⟨_,rfl,h.2 h' tk k⟩) ⟨z.hA.handled,fun h' tk k=>uM (q h' tk k)⟩))
  (.onI (T:=fun x=>K.wp A (BD (.bytes b t) x)) dx (fun i u=>.gd fun e=>by
   have e:=hZ _ _▸e
   have h0:=of_decide_eq_true e.1
   have h1:=of_decide_eq_true e.2
   have e1:(i.toNat.toUInt8).toNat=i.toNat:=Cn h0 h1
   have e2:IY (b.toList.map cJ) i.toNat=b.contains i.toNat.toUInt8:=by rw [←e1,aGw,e1];simp
   exact .rt (e2:_=_) fun Q q=>Gg (iJ _ _ _) SN
    (mQ SN (iJ _ _ _) FB.entry_bytes_contains (FB.args_bytes_contains_2 _ _) (.of_wp fun prog w A R s h=>aGG b t i u h0 h1 ⟨_,rfl,h⟩) (uM q))) .er)) .er
end
section
open PySem PySem.W PySem.Calls PyProof.Rows PySem.Builtin PySem.Builtin.Bytes
section
variable{prog:iB}{w:eR}{A:aR}{E:aB→aG→Prop}{s:aG}
theorem aPf{id:String}{b:Array UInt8}{t:Tok}:takeBufferQuiet? id (.bytes b t) 0=pure (some (b,none)):=by
 kernel_rfl
inductive nY:List aB→List (Array UInt8)→Prop
 |nil:nY [] []
 |cons (b:Array UInt8) (t:Tok) {vs:List aB} {bs:List (Array UInt8)} (h:nY vs bs):nY (.bytes b t::vs) (b::bs)
theorem nY.len{vs:List aB}{bs:List (Array UInt8)}(h:nY vs bs):vs.length=bs.length:=by
 induction h with
 |nil=>rfl
 |cons _ _ _ ih=>simp [ih]
theorem nY.at{vs:List aB}{bs:List (Array UInt8)}(h:nY vs bs):∀ {i:Nat},i < vs.length→∃ b t,vs[i]? =some (.bytes b t)∧bs[i]? =some b:=by
 induction h with
 |nil=>intro i hi;cases hi
 |cons b t _ ih=>
  intro i hi
  cases i with
  |zero=>exact⟨b,t,rfl,rfl⟩
  |succ i=>exact ih (by simpa using hi)
theorem nY.taken{vs:List aB}{bs:List (Array UInt8)}(h:nY vs bs):∀ i,(((vs.take i).map fun v=>(v,(none:Option aB))).any (·.1.onHeap))=false:=by
 induction h with
 |nil=>intro i;simp
 |cons b t _ ih=>
  intro i
  cases i with
  |zero=>rfl
  |succ i=>simp only [Hm,iX,List.any_cons,ih i];rfl
theorem Qp(keep:List aB){Q:Unit→aG→Prop}(h:Q () s):∀(l:List (aB×Option aB)),(∀ p∈l,p.2=none)→aI (aK prog w) A (joinLetGo l keep) Q E s
 | [],_=>bG h
 |(x,o)::r,hn=>by
  cases hn _ (.head _)
  refine aF (wpAny_letGo ?_)
  exact Qp keep h r fun p hp=>hn p (.tail _ hp)
theorem aQM{β:Type}(x:aB)(f:aB→β)(g:Array aB→β):joinM.match_1 (fun _=>β) [x].toArray f g=f x:=rfl
theorem aHe{β:Type}(items:Array aB)(f:aB→β)(g:Array aB→β)(h:items.size≠1):joinM.match_1 (fun _=>β) items f g=g items:=by
 unfold joinM.match_1
 rw [dif_neg h]
noncomputable def HS:aB→Array UInt8
 |.bytes b _=>b
 |_=>#[]
theorem rg0(vs:List aB):xZ ([:vs.toArray.size]:Std.Legacy.Range).start ([:vs.toArray.size]:Std.Legacy.Range).size ([:vs.toArray.size]:Std.Legacy.Range).step=xZ 0 vs.length 1:=by simp [Std.Legacy.Range.size]
theorem Gk{α:Type}{m m':Sem α}{Q:α→aG→Prop}(e:m=m')(h:aI (aK prog w) A m' Q E s):aI (aK prog w) A m Q E s:=e▸h
inductive JI(s:aG)(vs:List aB)(bs:List (Array UInt8)):List Nat→Array (Array UInt8)×List (aB×Option aB)→aG→Prop
 |mk (i:Nat) (h:i≤vs.length):JI s vs bs ((xZ 0 vs.length 1).drop i) ((bs.take i).toArray,(vs.take i).map fun v=>(v,none)) s
inductive JT(s:aG)(vs:List aB)(bs:List (Array UInt8))(x:aB)(rest:List Nat)(b:Array (Array UInt8)×List (aB×Option aB))(s':aG):Prop
 |mk (e:s'.heap=s.heap) (ok:decide ((Kind.bytes==Kind.bytearray || b.2.any (·.1.onHeap))=true)=false) (t:∀ id,takeBufferQuiet? id x 0=pure (some (HS x,none))) (n:JI s vs bs rest (b.1.push (HS x),b.2++[(x,none)]) s')
section
variable{vs:List aB}{bs:List (Array UInt8)}{x:aB}{rest:List Nat}{b:Array (Array UInt8)×List (aB×Option aB)}{s':aG}
theorem JT.e':JT s vs bs x rest b s'→s'.heap=s.heap | ⟨e,_,_,_⟩=>e
theorem JT.ok':JT s vs bs x rest b s'→decide ((Kind.bytes==Kind.bytearray || b.2.any (·.1.onHeap))=true)=false | ⟨_,e,_,_⟩=>e
theorem JT.t':JT s vs bs x rest b s'→∀ id,takeBufferQuiet? id x 0=pure (some (HS x,none)) | ⟨_,_,e,_⟩=>e
theorem JT.n':JT s vs bs x rest b s'→JI s vs bs rest (b.1.push (HS x),b.2++[(x,none)]) s' | ⟨_,_,_,e⟩=>e
end
theorem JI.turn{vs:List aB}{bs:List (Array UInt8)}(hb:nY vs bs)(i:Nat)(rest:List Nat)(b':Array (Array UInt8)×List (aB×Option aB))(s':aG)(h:JI s vs bs (i::rest) b' s'):JT s vs bs (vs.toArray.getD i .none) rest b' s':=by
 generalize e:i::rest=l at h
 cases h with
 |mk j hj=>
  have hlt:j < vs.length:=Nat.lt_of_le_of_ne hj fun q=>by rw [q,List.drop_of_length_le (by simp)] at e;exact(nomatch e)
  rw [aAm (by simpa using hlt)] at e
  simp only [List.getElem_range',kL,Nat.one_mul,SX] at e
  obtain⟨rfl,rfl⟩:=e
  obtain⟨c,u,hv,hc⟩:=hb.at hlt
  refine(show vs.toArray.getD i Value.none= .bytes c u by rw [Array.getD_eq_getD_getElem?];simp [hv]).symm▸?_
  refine⟨rfl,decide_eq_false (by rw [hb.taken i];decide),fun _=>aPf,?_⟩
  have:=JI.mk (s:=s) (bs:=bs) (i+1) hlt
  rw [Hk,Hk,hv,hc] at this
  simpa [HS] using this
theorem JI.fin{vs:List aB}{bs:List (Array UInt8)}(hb:nY vs bs)(b':Array (Array UInt8)×List (aB×Option aB))(s':aG)(h:JI s vs bs [] b' s'):s=s'∧bs.toArray=b'.1∧∀ p∈b'.2,p.2=none:=by
 generalize e: []=l at h
 cases h with
 |mk j hj=>
  have:=congrArg AK e
  simp only [TK,List.length_range',LW] at this
  obtain rfl:=TN hj (Nat.sub_eq_zero_iff_le.mp this.symm)
  exact⟨rfl,by rw [hb.len,List.take_length],fun p hp=>by obtain⟨v,_,rfl⟩:=List.mem_map.mp hp;rfl⟩
theorem JI.end{bs:List (Array UInt8)}{b:Array UInt8}{b':Array (Array UInt8)×List (aB×Option aB)}{s':aG}{Q:AR→aG→Prop}(h:s=s'∧bs.toArray=b'.1∧∀ p∈b'.2,p.2=none)(h4:Q (.done (.ret (.bytes (joined b bs) s.toks))) {s with toks:=s.toks+1}):
  Q (.done (.ret (.bytes (joined b b'.1.toList) s'.toks))) {s' with toks:=s'.toks+1}:=by
 obtain⟨rfl,e,_⟩:=h
 refine(e)▸?_
 exact h4
theorem Qo{v:aB}{Q:aB→aG→Prop}(hT:s.TypeIs v "list")(h:Q v s):aI (aK prog w) A (joinItems v) Q E s:=
 aF (LL hT (GB rfl (bG h)))
theorem JI.sz{bs:List (Array UInt8)}{b:Array UInt8}{b':Array (Array UInt8)×List (aB×Option aB)}{s':aG}(h:s=s'∧bs.toArray=b'.1∧∀ p∈b'.2,p.2=none)(h4:(joined b bs).size≤fR):(joined b b'.1.toList).size≤fR:=by
 exact(h.2.1)▸h4
theorem aHd(b:Array UInt8)(t:Tok)(l:Addr)(c:Array UInt8)(u:Tok)(ep:Nat)(ho:s.heap.get? l=some {cls:=.type "list",data:=.seq [MP c u].toArray ep})(hT:s.TypeIs (.ref l) "list"){Q:AR→aG→Prop}
  (h1:Q (.done (.ret (.bytes c u))) s):aI (aK prog w) A (Builtin.«bytes.join» ⟨[.bytes b t,.ref l],[]⟩) Q E s:=by
 refine aF (dW (a:=(MP b t,qE l)) rfl ?_)
 refine aF (Qo hT ?_)
 refine aF (RQ ho rfl ?_)
 refine GB rfl (aF (LL (iJ s c u) ?_))
 exact GB rfl (aF (xW (bG h1)))
theorem dne(n:Nat):decide ((n != n)=true)=false:=by simp
theorem aHc(b:Array UInt8)(t:Tok)(l:Addr)(vs:List aB)(bs:List (Array UInt8))(hb:nY vs bs)(ep:Nat)(ho:s.heap.get? l=some {cls:=.type "list",data:=.seq vs.toArray ep})(hT:s.TypeIs (.ref l) "list"){Q:AR→aG→Prop}(hn:vs.toArray.size≠1)
  (h2:decide (tooLong (bs.toArray.foldl (· + ·.size) (b.size*(bs.toArray.size - 1)))=true)=false) (h3:(joined b bs).size≤fR) (h4:Q (.done (.ret (.bytes (joined b bs) s.toks))) {s with toks:=s.toks+1}):
  aI (aK prog w) A (Builtin.«bytes.join» ⟨[.bytes b t,.ref l],[]⟩) Q E s:=by
 refine aF (dW (a:=(MP b t,qE l)) rfl ?_)
 refine aF (Qo hT ?_)
 refine aF (RQ ho rfl ?_)
 refine GB rfl ?_
 refine Gk (aHe _ _ _ hn) (aF (Gk (Std.Legacy.Range.forIn_eq_forIn_range' ..) (Gk (congrArg (fun l=>forIn l _ _) (rg0 vs)) (wpAny_forIn_list _ (JI s vs bs) _ (fun i rest b' s' h=> ?_) (fun b' s' h=> ?_) _ _ (.mk 0 (jS _))))))
 ·have T:=JI.turn hb i rest b' s' h
  have ho':s'.heap.get? l=_:=T.e'▸ho
  refine aF (RQ ho' rfl ?_)
  refine AB T.ok' (aF (pG (dW (T.t' _) ?_)))
  refine aF (RQ ho' rfl (AB (dne _) (bG T.n')))
 ·have T:=JI.fin hb b' s' h
  refine aF (dW (a:=b) rfl (AB (T.2.1▸h2) ?_))
  exact aF (wpAny_mkBytes (Q:=fun a s'=>aI _ _ (holding (a::_) point >>= _) _ _ s') (aF (pG (wpAny_point (aF (Qp _ (bG (JI.end T h4)) b'.2 T.2.2))))) (JI.sz T h3))
theorem nY.one{vs:List aB}{bs:List (Array UInt8)}(hb:nY vs bs){C:Prop}(m:vs.toArray.size≠1→C)(o:∀ c u,vs= [.bytes c u]→C):C:=by
 cases hb with
 |nil=>exact m (by decide)
 |cons c u hr=>cases hr with
  |nil=>exact o c u rfl
  |cons _ _ _=>exact m (by simp)
theorem aHb(b:Array UInt8)(t:Tok)(l:Addr)(vs:List aB)(bs:List (Array UInt8))(hb:nY vs bs)(ep:Nat)(ho:s.heap.get? l=some {cls:=.type "list",data:=.seq vs.toArray ep}){Q:AR→aG→Prop}
  (h1:∀ c u,vs= [.bytes c u]→Q (.done (.ret (.bytes c u))) s)
  (h2:tooLong (bs.toArray.foldl (· + ·.size) (b.size*(bs.toArray.size - 1)))=false) (h3:(joined b bs).size≤fR) (h4:Q (.done (.ret (.bytes (joined b bs) s.toks))) {s with toks:=s.toks+1}):
  aI (aK prog w) A (Builtin.«bytes.join» ⟨[.bytes b t,.ref l],[]⟩) Q E s:=by
 exact hb.one (fun hone=>aHc b t l vs bs hb ep ho ⟨_,ho,rfl⟩ hone (by rw [h2];rfl) h3 h4) fun c u e=>aHd b t l c u ep (e▸ho) ⟨_,ho,rfl⟩ (h1 c u e)
end
theorem Qq:∀(bs:List (Array UInt8)),(joined #[] bs).toList=(bs.map GF).flatten:=by
 intro bs
 unfold joined
 have key:∀(l:List (Array UInt8×Nat)) (out:Array UInt8),(l.foldl (fun out (x:Array UInt8×Nat)=>(if x.2 > 0 then out++#[] else out)++x.1) out).toList=out.toList++(l.map (fun x=>x.1.toList)).flatten:=by
  intro l
  induction l with
  |nil=>intro out;simp
  |cons x l ih=>
   intro out
   rw [List.foldl_cons,ih]
   simp
 have:=key bs.zipIdx #[]
 rw [this]
 congr 1
 rw [show(fun(x:Array UInt8×Nat)=>x.1.toList)=GF∘Prod.fst from rfl,←iY]
 simp
theorem Xa:Slot "bytes" "join" "bytes.join":=
 .of (owner:="bytes") (n:="join") (by rw [mJ,lU];kernel_rfl) (by kernel_rfl) (by decide+kernel) (by decide+kernel)
  (by first | exact .inl (by decide+kernel) | exact .inr (by kernel_rfl)) (by rw [qH];kernel_rfl)
theorem aPx:typeOf (.builtin "bytes.join")=pure (.type "method_descriptor"):=by show NC _=_;rw [NF];kernel_rfl
theorem aEX:rG table "bytes.join"=some Builtin.«bytes.join»:=wX (by kernel_rfl)
theorem aBl(a b:aB):lT "bytes.join" ⟨[a,b],[]⟩:=by unfold lT;kernel_rfl
theorem Bn:mL "bytes" "join" "bytes.join":=⟨Ha,Xa,aPx⟩
theorem aIn:mL "str" "join" "str.join":=⟨F.plainAttrs_str,F.slot_str_join,F.type_str_join⟩
theorem Nt(bs:List (Array UInt8)):(bs.map fun b=>b.toList.map cJ).flatten=((bs.map GF).flatten).map cJ:=by
 induction bs with
 |nil=>rfl
 |cons b bs ih=>simp [ih]
theorem aMt(bs:List (Array UInt8)):∀ k,(bs.toArray.foldl (fun x (y:Array UInt8)=>x+y.size) k)=k+(bs.map GF).flatten.length:=by
 induction bs with
 |nil=>intro k;simp
 |cons b bs ih=>intro k;have:=ih (k+b.size);simp at this ⊢;exact this.trans (uU ..)
theorem Oo(ss:List DG):(LN ⟨#[]⟩ ss).cps.toList=(ss.map fun x=>x.cps.toList).flatten:=by
 have key:∀(l:List DG) (a:Array Nat),(l.foldl (fun acc p=>acc++(#[]:Array Nat)++p.cps) a).toList=a.toList++(l.map fun x=>x.cps.toList).flatten:=by
  intro l
  induction l with
  |nil=>intro a;simp
  |cons x l ih=>intro a;rw [List.foldl_cons,ih];simp
 cases ss with
 |nil=>rfl
 |cons x r=>
  have:=key r x.cps
  exact this
theorem aPb(ss:List DG):∀ k,(ss.toArray.foldl (fun x (y:DG)=>x+y.length+(⟨#[]⟩:DG).length) k)=k+(ss.map fun x=>x.cps.toList).flatten.length:=by
 induction ss with
 |nil=>intro k;simp
 |cons b bs ih=>
  intro k
  have:=ih (k+b.length)
  simp [PySem.Str.length] at this ⊢
  exact this.trans (uU ..)
theorem aBX(l:List (List Nat)):∀ {vs:List aB},aS iU l vs→∃ bs,nY vs bs∧(bs.map fun b=>b.toList.map cJ)=l:=by
 induction l with
 |nil=>intro vs d;subst d;exact⟨[],.nil,rfl⟩
 |cons n l ih=>
  intro vs d
  cases d with | mk v ws a as=>
  obtain⟨b,t,rfl,rfl⟩:=wQ a
  obtain⟨bs,h1,rfl⟩:=ih as
  exact⟨b::bs,.cons b t h1,rfl⟩
theorem aOT(l:List (List Nat)):∀ {vs:List aB},aS lQ l vs→∃ ss:List (DG×Tok),vs=strValues ss∧(ss.map fun p=>p.1.cps.toList)=l:=by
 induction l with
 |nil=>intro vs d;subst d;exact⟨[],rfl,rfl⟩
 |cons n l ih=>
  intro vs d
  cases d with | mk v ws a as=>
  obtain⟨b,t,rfl,rfl⟩:=LD a
  obtain⟨ss,rfl,rfl⟩:=ih as
  exact⟨(b,t)::ss,rfl,rfl⟩
section
variable{K:KK}{A:aR}{st:St}{z:Z K A st}{α β:Type}{D:Dn α β}{w:WP β}
noncomputable def Cv(l:List Nat)(k:M α):M α:=match l with
 | []=>k
 |_::_=>er
theorem Go.on0{l:List Nat}{k:M α}(h:l= []→Go z D w (k st)):Go z D w (Cv l k st):=by
 cases l with
 |nil=>exact h rfl
 |cons=>exact .er
theorem Ju{C:Cx}{W:Addr→Option bU}(x:PV)(b:List Nat)(v:aB)(h:sP x=some b)(d:bF C W x v):iU b v:=by cases MW h;exact d
theorem aOO{C:Cx}{W:Addr→Option bU}(x:PV)(b:List Nat)(v:aB)(h:WJ x=some b)(d:bF C W x v):lQ b v:=by cases aBo h;exact d
noncomputable def EZ(a b:SV):M SV:=kU a (fun l=>Cv l (iI b (fun xs=>eZ (lS sP xs) fun ls=>dQ ls.flatten.length (rt (.pv (.bytes ls.flatten)))) er)) er
theorem Eh:gG K (fun x y=>call (.builtin "bytes.join") [x,y]) EZ:=fun {A st} z a b x y dx dy=>
 .onB (T:=fun x=>K.wp A (call (.builtin "bytes.join") [x,y])) dx (fun b t=>.on0 fun e=>.onL (T:=fun y=>K.wp A (call (.builtin "bytes.join") [.bytes b t,y])) dy (fun xs l vs ep hl d=>.onSome fun ls e'=>.fit fun hz=>by
  have eb:b= #[]:=by obtain⟨l⟩:=b;cases l with
   |nil=>rfl
   |cons=>cases e
  subst eb
  obtain⟨bs,hbs,rfl⟩:=aBX ls (DN Ju xs e' d)
  rw [Nt,bT] at hz
  have hsz:(joined #[] bs).size≤1000000:=by rw [←qB,Qq];exact hz
  refine fun a' s' e Q q=>mQ Xa (iJ _ _ _) aEX (aBl _ _) (S:=fun A R s=>s.heap.get? l=some (cC vs ep)∧∀ c u k,c.toList=(bs.map GF).flatten→R (.ok (.ret (.bytes c u))) {s with toks:=k})
   (.of_wp fun prog w A R s h=>aHb #[] t l vs bs hbs ep h.1 (fun c u hv=>⟨_,rfl,?_⟩) ?_ (gM hsz) ⟨_,rfl,h.2 _ _ _ (Qq bs)⟩) ⟨hl,fun c u k hc=> ?_⟩
  ·refine h.2 c u s.toks ?_
   subst hv
   cases hbs with
   |cons _ _ hr=>cases hr;simp
  ·have:=aMt bs ((#[]:Array UInt8).size*(bs.toArray.size - 1))
   refine decide_eq_false ?_
   rw [this]
   simp only [iE,LW,Nat.zero_mul,kL]
   exact Nat.not_lt.mpr (gM hz)
  ·obtain⟨rfl,rfl⟩:=gA e
   exact q (z.tok k) _ Z.le0 (show iU _ _ by rw [Nt,←hc];exact iU.mk c u)) .er) .er
noncomputable def Al(a b:SV):M SV:=zR a (fun l=>Cv l (iI b (fun xs=>eZ (lS WJ xs) fun ls=>dQ ls.flatten.length (rt (.pv (.str ls.flatten)))) er)) er
theorem aLs:gG K (fun x y=>call (.builtin "str.join") [x,y]) Al:=fun {A st} z a b x y dx dy=>
 .onS (T:=fun x=>K.wp A (call (.builtin "str.join") [x,y])) dx (fun b t=>.on0 fun e=>.onL (T:=fun y=>K.wp A (call (.builtin "str.join") [.str b t,y])) dy (fun xs l vs ep hl d=>.onSome fun ls e'=>.fit fun hz=>by
  have ep:b=⟨#[]⟩:=by rw [←xR b,e]
  subst ep
  obtain⟨ss,rfl,rfl⟩:=aOT ls (DN aOO xs e' d)
  rw [show ss.map (fun p=>p.1.cps.toList)=(ss.map (·.1)).map fun x=>x.cps.toList by rw [iY];rfl] at hz ⊢
  have hlen:(LN ⟨#[]⟩ (ss.map (·.1))).length≤fR:=by
   show(LN ⟨#[]⟩ (ss.map (·.1))).cps.size≤fR
   rw [←qB,Oo];exact gM hz
  have ok:lQ ((ss.map (·.1)).map fun x=>x.cps.toList).flatten (.str (LN ⟨#[]⟩ (ss.map (·.1))) z.s.toks):=by rw [←Oo];exact .mk _ _
  refine fun a' s' e Q q=>mQ F.slot_str_join (typeIs_str _ _ _) F.entry_str_join (F.args_str_join_2 _ _) (meets_str_join_list ⟨#[]⟩ t l ss ?_) ⟨⟨_,hl,rfl,_,rfl⟩,?_⟩
  ·have:=aPb (ss.map (·.1)) 0
   refine decide_eq_false ?_
   rw [this,kL]
   exact Nat.not_lt.mpr (gM hz)
  ·obtain⟨rfl,rfl⟩:=gA e
   have many:(Made.str (LN ⟨#[]⟩ (ss.map (·.1)))).post Q z.s:=⟨hlen,q (z.tok (z.s.toks+1)) _ Z.le0 ok⟩
   cases ss with
   |nil=>exact many
   |cons p r=>cases r with
    |nil=>exact q z _ Z.le0 (show lQ _ _ by rw [show(([p].map (·.1)).map fun x:DG=>x.cps.toList).flatten=p.1.cps.toList from gQ _];exact .mk _ _)
    |cons p' r'=>exact many) .er) .er
end
end
section
open PySem PySem.W PySem.Calls PyProof.Rows PySem.Builtin PySem.Builtin.Bytes
theorem aBS:xV (.type "bytes") "__bytes__"=pure (some (.builtin "bytes.__bytes__")):=by rw [mJ,lU];kernel_rfl
theorem aBx:xV (.type "bytearray") "__bytes__"=pure none:=by rw [mJ,lU];kernel_rfl
theorem aBy:xV (.type "bytearray") "__index__"=pure none:=by rw [mJ,lU];kernel_rfl
theorem WL:xV (.type "bytearray") "__buffer__"=pure (some (.builtin "bytearray.__buffer__")):=by rw [mJ,lU];kernel_rfl
theorem aBA:xV (.type "bytearray") "__release_buffer__"=pure (some (.builtin "bytearray.__release_buffer__")):=by rw [mJ,lU];kernel_rfl
theorem Jf:isSubtype (.type "bytearray") (.type "bytearray")=pure true:=by rw [qH];kernel_rfl
section
variable{prog:iB}{w:eR}{A:aR}{E:aB→aG→Prop}{s:aG}
theorem aIM(b:Array UInt8)(t:Tok)(h:Q (.done (.ret (.bytes b t))) s):
  aI (aK prog w) A (Builtin.«bytes.__new__» ⟨[.type "bytes",.bytes b t],[]⟩) Q E s:=by
 refine aF (dW rfl ?_)
 refine DS rfl ?_
 refine aF (dW F.bm_sub ?_)
 refine DS rfl ?_
 refine aF (dW (F.bm_bind _) ?_)
 refine aF (dW rfl ?_)
 refine aF (dW rfl ?_)
 refine DS rfl ?_
 refine aF (AD (iJ s b t) aBS ?_)
 refine aF (xW ?_)
 refine aF (LL (iJ s b t) ?_)
 refine bm_if_true rfl ?_
 exact dW rfl h
theorem aDB(b:Array UInt8)(t:Tok)(h:Q (.bytes b t) s):aI (aK prog w) A (call (.type "bytes") [.bytes b t]) Q E s:=
 callType_new F.bm_called (by decide) (F.bm_typeCall _) (F.bm_newCall _) (fun obj=>F.args_object_init_2 obj _) F.bm_entry
  (.of_wp fun prog w A R s h=>aIM b t ⟨_,rfl,h⟩) ⟨iJ _ _ _,h⟩
theorem aBz(hT:s.TypeIs (.ref a) "bytearray")(h:Q true s):aI (aK prog w) A (slotIsOwn (.ref a) "__buffer__") Q E s:=by
 have key:∀ x:String,x="bytearray"→aI (aK prog w) A (isInstance (.ref a) (.type x)) Q E s:=fun x hx=>by rw [hx];exact RO hT Jf h
 refine aF (AD hT WL ?_)
 dsimp only
 refine AB (decide_eq_false (by decide+kernel)) ?_
 exact key _ (by kernel_rfl)
theorem Jd(hT:s.TypeIs (.ref a) "bytearray")(h:Q true s):aI (aK prog w) A (slotIsOwn (.ref a) "__release_buffer__") Q E s:=by
 have key:∀ x:String,x="bytearray"→aI (aK prog w) A (isInstance (.ref a) (.type x)) Q E s:=fun x hx=>by rw [hx];exact RO hT Jf h
 refine aF (AD hT aBA ?_)
 dsimp only
 refine AB (decide_eq_false (by decide+kernel)) ?_
 exact key _ (by kernel_rfl)
theorem aBu{id:String}(ho:s.heap.get? a=some o)(hc:o.cls= .type "bytearray")(hd:o.data= .bytearray b n)(h:Q (some b) s):
  aI (aK prog w) A (buffer? id (.ref a) full) Q E s:=by
 have hT:s.TypeIs (.ref a) "bytearray":=⟨o,ho,hc⟩
 refine aF (AD hT WL ?_)
 try dsimp only
 refine aF (aBz hT ?_)
 refine AB (decide_eq_false (by decide)) ?_
 refine aF (AD hT WL ?_)
 try dsimp only
 refine aF ?_
 refine aF (Jd hT (bG ?_))
 refine AB (decide_eq_false (by decide)) ?_
 refine aF ?_
 refine aF (aF (vW ho ?_))
 refine(hd).symm▸?_
 exact bG (bG (bG h))
theorem aIL(a:Addr){n:Nat}(ho:s.heap.get? a=some o)(hc:o.cls= .type "bytearray")(hd:o.data= .bytearray b n)(hz:b.size≤fR)(h:Q (.done (.ret (.bytes b s.toks))) {s with toks:=s.toks+1}):
  aI (aK prog w) A (Builtin.«bytes.__new__» ⟨[.type "bytes",.ref a],[]⟩) Q E s:=by
 have hT:s.TypeIs (.ref a) "bytearray":=⟨o,ho,hc⟩
 refine aF (dW rfl ?_)
 refine DS rfl ?_
 refine aF (dW F.bm_sub ?_)
 refine DS rfl ?_
 refine aF (dW (F.bm_bind _) ?_)
 refine aF (dW rfl ?_)
 refine aF (dW rfl ?_)
 refine DS rfl ?_
 refine aF (AD hT aBx ?_)
 refine aF (aF ?_)
 refine aF (vW ho ?_)
 refine(hd).symm▸?_
 refine bG (bG ?_)
 refine DS rfl ?_
 refine aF (AD hT aBy ?_)
 refine bm_if_true rfl ?_
 first
  |show aI _ _ (Builtin.Bytes.buffer? "bytes.__new__" (.ref a) true >>= _) _ _ _
  |(refine aF ?_;show aI _ _ (Builtin.Bytes.buffer? "bytes.__new__" (.ref a) true >>= _) _ _ _)
 refine aF (aBu ho hc hd ?_)
 refine aF (xW (aF (wpAny_mkBytes ?_ hz)))
 first
  |exact dW rfl h
  |exact aF (dW rfl (bG h))
  |exact dW rfl (bG h)
end
theorem Ww:Slot "bytearray" "__len__" "bytearray.__len__":=
 .of (owner:="bytearray") (n:="__len__") (by rw [mJ,lU];kernel_rfl) (by kernel_rfl) (by decide+kernel) (by decide+kernel)
  (by first | exact .inl (by kernel_rfl) | exact .inr (by decide+kernel)) (by rw [qH];kernel_rfl)
theorem aES:rG table "bytearray.__len__"=some Builtin.«bytearray.__len__»:=wX (by kernel_rfl)
theorem aBf(a:aB):lT "bytearray.__len__" ⟨[a],[]⟩:=by unfold lT;kernel_rfl
theorem Wx:Slot "bytearray" "reverse" "bytearray.reverse":=
 .of (owner:="bytearray") (n:="reverse") (by rw [mJ,lU];kernel_rfl) (by kernel_rfl) (by decide+kernel) (by decide+kernel)
  (by first | exact .inl (by decide+kernel) | exact .inr (by kernel_rfl)) (by rw [qH];kernel_rfl)
theorem aPv:typeOf (.builtin "bytearray.reverse")=pure (.type "method_descriptor"):=by show NC _=_;rw [NF];kernel_rfl
theorem aEU:rG table "bytearray.reverse"=some Builtin.«bytearray.reverse»:=wX (by kernel_rfl)
theorem aBg(a:aB):lT "bytearray.reverse" ⟨[a],[]⟩:=by unfold lT;kernel_rfl
theorem Ue:PlainAttrs "bytearray":=⟨⟨"bytearray.__getattribute__",by rw [mJ,lU];kernel_rfl,by kernel_rfl⟩,by rw [mJ,lU];kernel_rfl⟩
theorem aIp:mL "bytearray" "reverse" "bytearray.reverse":=⟨Ue,Wx,aPv⟩
section
variable{K:KK}{A:aR}{st:St}{z:Z K A st}{α β δ:Type}{D:Dn α δ}{T:aB→WP δ}{a:SV}{x:aB}
noncomputable abbrev nJ(b:Array UInt8):Obj:={cls:=.type "bytearray",data:=.bytearray b 0}
noncomputable def FL(a:SV)(k:Nat→List Nat→M α)(e:M α):M α:=fun st=>match a with
 |.ref i=>match st.cells[i]? with
  |some c=>match c with
   |.barr l=>k i l st
   |_=>e st
  |none=>e st
 |.pv _=>e st
theorem Go.onBA(d:z.d dV a x)(h:∀ i b,z.X.W (z.X.ρ i)=some (.cell i)→z.s.heap.get? (z.X.ρ i)=some (nJ b)→Go z D (T (.ref (z.X.ρ i))) (k i (b.toList.map cJ) st))(h':Go z D (T x) (e st)):Go z D (T x) (FL a k e st):=by
 cases a with
 |pv=>exact h'
 |ref i=>
  show Go z D (T x) (match st.cells[i]? with | some c=>(match c with | .barr l=>k i l st | _=>e st) | none=>e st)
  cases q:st.cells[i]? with
  |none=>exact h'
  |some c=>cases c with
   |barr l=>cases z.R.cells _ _ q with | mk o hw ho r=>cases r with | mk b e=>subst e;cases d.2;exact h i b hw ho
   |_=>exact h'
theorem MY{s:aG}(h:s.heap.get? l=some (nJ b)):s.TypeIs (.ref l) "bytearray":=⟨_,h,rfl⟩
noncomputable def Ac(a:SV):M Unit:=FL a (fun _ _=>rt ()) er
theorem Uq:sN K "bytearray" Ac:=fun {A st} z a x d=>
 .onBA (T:=fun x Q s=>s.TypeIs x "bytearray"∧(∀ l,x= .ref l→∃ ob,s.heap.get? l=some ob∧ob.dict=none)∧Q () s) d (fun i b hw ho=>.same trivial fun Q q=>⟨MY ho,fun l e=>by cases e;exact⟨_,ho,rfl⟩,q⟩) .er
noncomputable def Rh(a:SV):M SV:=FL a (fun _ l=>dQ l.length (rt (.pv (.int l.length)))) er
theorem aLx:jZ K (fun v=>call (.builtin "len") [v]) Rh:=fun {A st} z a x dx=>
 .onBA (T:=fun x=>K.wp A (call (.builtin "len") [x])) dx (fun i b hw ho=>.fitB fun hz=>.tok (EX Rk) fun Q q=>
  PyProof.Rows.call_len_slot (MY ho) Ww (fun Q' hq'=>mQ Ww (MY ho) aES (aBf _) (S:=fun A R s=>s.heap.get? (z.X.ρ i)=some (nJ b)∧R (.ok (.ret (.int b.size s.toks))) {s with toks:=s.toks+1}) (.of_wp fun prog w A R s h=>by
   refine aF (dW rfl ?_)
   refine aF ?_
   refine aF (aF (vW h.1 ?_))
   refine bG (bG ?_)
   exact fun Γ p hΓ=>⟨_,rfl,h.2⟩) ⟨ho,hq'⟩) (Int.not_lt.mpr (SS _)) (Int.not_le.mpr (PQ hz)) (q _ _)) .er
theorem Je:wC (·.reverse) (nJ b)=nJ b.reverse:=rfl
noncomputable def Ut(a:SV):M SV:=FL a (fun k l=>dQ l.length (JU k (.barr l.reverse))) er
theorem aLF:jZ K (fun x=>call (.builtin "bytearray.reverse") [x]) Ut:=fun {A st} z a x dx=>
 .onBA (T:=fun x=>K.wp A (call (.builtin "bytearray.reverse") [x])) dx (fun i b hw ho=>.fitB fun hz=>by
  have ho':(z.s.heap.update (z.X.ρ i) (wC (·.reverse))).get? (z.X.ρ i)=some (nJ b.reverse):=by rw [←Je];exact uQ _ ho rfl
  exact .setC _ z.s.toks hw (sF ..) ⟨_,ho'⟩ (.mk _ hw ho' (.mk _ (by rw [Array.toList_reverse,List.map_reverse]))) rfl fun Q q=>
   mQ Wx (MY ho) aEU (aBg _) (S:=fun A R s=>s.heap.get? (z.X.ρ i)=some (nJ b)∧R (.ok (.ret .none)) {s with heap:=s.heap.update (z.X.ρ i) (wC (·.reverse))}) (.of_wp fun prog w A R s h=>by
    refine aF (dW rfl ?_)
    refine aF ?_
    refine aF (vW h.1 ?_)
    refine aF (wpAny_update h.1 ?_)
    refine Gh (o:=nJ b.reverse) (by rw [←Je];exact uQ _ h.1 rfl) ?_ (bG ⟨_,rfl,h.2⟩)
    exact if_neg (Nat.not_lt.mpr (aP (dS Array.size_reverse) (gM hz)))) ⟨ho,q⟩) .er
noncomputable def yW(a:SV):M SV:=kU a (fun l=>rt (.pv (.bytes l))) (FL a (fun _ l=>dQ l.length (rt (.pv (.bytes l)))) (Jv a))
theorem CK:jZ K (fun v=>call (.type "bytes") [v]) yW:=fun {A st} z a x dx=>
 .onB (T:=fun x=>K.wp A (call (.type "bytes") [x])) dx (fun b t=>.rt (iU.mk b t) fun Q q=>aDB b t q)
 (.onBA (T:=fun x=>K.wp A (call (.type "bytes") [x])) dx (fun i b hw ho=>.fitB fun hz=>.ret (z.tok (z.s.toks+1)) Z.le0 (iU.mk b _) fun Q q=>
  callType_new F.bm_called (by decide) (F.bm_typeCall _) (F.bm_newCall _) (fun obj=>F.args_object_init_2 obj _) F.bm_entry
   (S:=fun A R s=>s.heap.get? (z.X.ρ i)=some (nJ b)∧R (.ok (.ret (.bytes b s.toks))) {s with toks:=s.toks+1})
   (.of_wp fun prog w A R s h=>aIL (z.X.ρ i) h.1 rfl rfl (gM hz) ⟨_,rfl,h.2⟩) ⟨ho,iJ _ _ _,q⟩) (aLi z dx))
end
end
noncomputable def pR(cap:List (Option Nat))(loc:List (Option SV)):List (Option SV):=cap.map fun c=>match c with
 |some j=>(loc[j]?).join
 |none=>none
noncomputable def iG(g:PV→M Unit)(t:M Bool)(m:M SV):List PV→M (List PV)
 | []=>rt []
 |x::xs=>bd (g x) fun _=>bd t fun ok=>match ok with
  |true=>bd m fun y=>lK y fun y=>bd (iG g t m xs) fun ys=>rt (y::ys)
  |false=>iG g t m xs
noncomputable def EV{α:Type}(cap:List (Option Nat))(k:M α):M α:=fun st=>match k ⟨pR cap st.loc,st.cells⟩ with
 |some (ys,st')=>some (ys,⟨st.loc,st'.cells⟩)
 |none=>none
noncomputable def BC(f:St→SV→Option (List PV))(cap:List (Option Nat))(g:PV→M Unit)(t:M Bool)(m:M SV)(a:SV):M (List PV):=fun st=>match f st a with
 |some xs=>dQ xs.length (EV cap (iG g t m xs)) st
 |none=>none
noncomputable def eH(f:St→SV→Option (List PV))(src:M SV)(cap:List (Option Nat))(g:PV→M Unit)(t:M Bool)(m:M SV):M SV:=bd src fun a=>bd (BC f cap g t m a) fun ys=>rt (.pv (.lst ys))
noncomputable def NL(f:St→SV→Option (List PV))(src:M SV)(cap:List (Option Nat))(g:PV→M Unit)(t:M Bool)(m:M SV):M SV:=bd src fun a=>bd (BC f cap g t m a) fun ys st=>some (.ref st.cells.length,⟨st.loc,st.cells++[.list ys]⟩)
noncomputable def vE(cs:List (Str×Addr)):List (Str×pM)→List (Str×Addr)→List (Str×Addr)
 | [],acc=>acc
 |p::r,acc=>vE cs r (match p.2== .free with
  |true=>match cs.lookup p.1 with
   |some c=>(p.1,c)::acc
   |none=>acc
  |false=>acc)
theorem aDL(h:∀ x,(x,DA)∈scope.names→(env.cells.lookup x).isSome=true):closureFor scope env=pure (vE env.cells scope.names []):=by
 unfold closureFor
 have key:∀(l:List (Str×pM)) (acc:List (Str×Addr)),(∀ x,(x,DA)∈l→(env.cells.lookup x).isSome=true)→
   (forIn l acc fun(p:Str×pM) (cs:List (Str×Addr))=>(match p with
    |(name,kind)=>if kind== .free then do let c ←cellOf env name;pure (SQ ((name,c)::cs)) else pure (SQ cs):Sem (ForInStep (List (Str×Addr)))))=pure (vE env.cells l acc):=by
  intro l
  induction l with
  |nil=>intro acc _;rfl
  |cons p r ih=>
   intro acc hp
   obtain⟨x,k⟩:=p
   rw [List.forIn_cons]
   dsimp only [vE]
   cases hk:k==DA with
   |true=>
    cases (eq_of_beq hk)
    obtain⟨c,hc⟩:=Option.isSome_iff_exists.mp (hp x (.head _))
    refine(if_pos rfl).symm▸(hc).symm▸(show cellOf env x=pure c by unfold cellOf;rw [hc]).symm▸?_
    exact ih _ fun y hy=>hp y (.tail _ hy)
   |false=>
    rw [if_neg mK]
    exact ih _ fun y hy=>hp y (.tail _ hy)
 have:=key scope.names [] h
 simpa using this
noncomputable def HT(sl:aL)(c:Option Nat)(p:Str×pM):Bool:=match p.2 with
 |.free=>match c with
  |some j=>eI sl j .cell && nm sl j==p.1
  |none=>false
 |.cell=>false
 |_=>c.isNone
noncomputable def DU(sl:aL):List (Option Nat)→aL→Bool
 |cap,[]=>cap.isEmpty
 |cap,p::ps=>match cap with
  |c::cs=>match HT sl c p with
   |true=>DU sl cs ps
   |false=>false
  | []=>false
noncomputable def Fs(k:pM):pM:=match k with
 |.free=>.cell
 |k=>k
noncomputable def pU(nms:aL):aL:=nms.map fun p=>(p.1,Fs p.2)
noncomputable def jV(nms:aL):Scope:=⟨.function,nms,false,false,[]⟩
noncomputable def nK(sl:aL)(cap:List (Option Nat))(nms:aL):Bool:=match xO (jV (pU nms)) with
 |true=>DU sl cap nms
 |false=>false
section
variable{sl nms:aL}{cap:List (Option Nat)}
theorem DX(h:nK sl cap nms=true):xO (jV (pU nms))=true∧DU sl cap nms=true:=by
 unfold nK at h
 cases q:xO (jV (pU nms)) with
 |true=>rw [q] at h;exact⟨rfl,h⟩
 |false=>rw [q] at h;exact eP h
theorem NJ(nms:aL):∀ {cap:List (Option Nat)},DU sl cap nms=true→∀ {i:Nat} {p:Str×pM},nms[i]? =some p→∃ c,cap[i]? =some c∧HT sl c p=true:=by
 induction nms with
 |nil=>intro cap _ i p e;exact aT e
 |cons q ps ih=>
  intro cap h i p e
  cases cap with
  |nil=>exact eP h
  |cons c cs=>
   have h:(match HT sl c q with | true=>DU sl cs ps | false=>false)=true:=h
   cases z:HT sl c q with
   |false=>rw [z] at h;exact eP h
   |true=>
    rw [z] at h
    cases i with
    |zero=>obtain rfl:=bO e;exact⟨c,rfl,z⟩
    |succ i=>exact ih h e
theorem ZM{i:Nat}(e:(pU nms)[i]? =some (x,k)):∃ k',nms[i]? =some (x,k')∧Fs k'=k:=by
 unfold pU at e
 replace e:=(iW)▸e
 obtain⟨p,hp,e⟩:=Option.map_eq_some_iff.mp e
 cases e;exact⟨p.2,hp,rfl⟩
variable(h:DU sl cap nms=true)
include h in
theorem Kh{i:Nat}(e:nms[i]? =some (x,.free)):∃ j,cap[i]? =some (some j)∧sl[j]? =some (x,.cell):=by
 obtain⟨c,hc,q⟩:=NJ nms h e
 cases c with
 |none=>exact eP q
 |some j=>
  have q:(eI sl j .cell && nm sl j==x)=true:=q
  have q:=hZ _ _▸q
  exact⟨j,hc,eq_of_beq q.2▸kF q.1⟩
include h in
theorem Kj{x:Str}(e:(x,DA)∈nms):∃(i:Nat) (j:Nat),nms[i]? =some (x,.free)∧cap[i]? =some (some j)∧sl[j]? =some (x,.cell):=by
 obtain⟨i,hi⟩:=List.mem_iff_getElem?.mp e
 obtain⟨j,a,b⟩:=Kh h hi
 exact⟨i,j,hi,a,b⟩
include h in
theorem aDD{x:Str}{i:Nat}(e:(pU nms)[i]? =some (x,.cell)):nms[i]? =some (x,.free):=by
 obtain⟨k,hk,u⟩:=ZM e
 obtain⟨c,_,q⟩:=NJ nms h hk
 cases k with
 |free=>exact hk
 |cell=>exact eP q
 |_=>cases u
include h in
theorem aDE{i:Nat}(e:(pU nms)[i]? =some (x,.local))(hl:(pR cap loc)[i]? =some (some sv)):False:=by
 obtain⟨k,hk,u⟩:=ZM e
 obtain⟨c,hc,q⟩:=NJ nms h hk
 unfold pR at hl
 rw [iW,hc] at hl
 cases k with
 | «local»=>cases c with
  |none=>cases hl
  |some=>exact eP q
 |_=>cases u
theorem aIV{x:Str}{i:Nat}(e:(pU nms)[i]? =some (x,.free)):False:=by
 obtain⟨k,_,u⟩:=ZM e
 cases k <;> cases u
theorem aDJ(hc:cs.lookup x=some c):∀(l:aL) {acc:List (Str×Addr)},(x,DA)∈l∨acc.lookup x=some c→(vE cs l acc).lookup x=some c:=by
 intro l
 induction l with
 |nil=>intro acc h;exact h.elim (fun h=>nomatch h) id
 |cons p r ih=>
  intro acc h
  refine ih ?_
  cases hk:p.2==DA with
  |false=>exact h.imp (fun h=>by cases h with
    |head=>exact eP hk
    |tail _ h=>exact h) id
  |true=>
   by_cases hx:x=p.1
   ·right;rw [←hx,hc];show(match x==x with | true=>some c | false=>_)=_;rw [beq_self_eq_true]
   ·refine h.imp (fun h=>by cases h with
     |head=>exact absurd rfl hx
     |tail _ h=>exact h) fun h=> ?_
    cases cs.lookup p.1 with
    |none=>exact h
    |some d=>show(match x==p.1 with | true=>some d | false=>acc.lookup x)=_;exact(beq_eq_false_iff_ne.mpr hx).symm▸h
end
section
variable{K:KK}{A:aR}{st:St}{z:Z K A st}{nms:aL}{cap:List (Option Nat)}(h:nK K.sl cap nms=true)
include h in
theorem Us(z:Z K A st):relabel (jV nms) K.env=jV (pU nms):=by
 show(⟨.function,nms.map _,false,false,[]⟩:Scope)=⟨.function,pU nms,false,false,[]⟩
 congr 1
 refine LX fun p hp=> ?_
 obtain⟨x,k⟩:=p
 show(if (k==DA && K.env.scope.kind== .function && K.env.kindOf x==some .cell)=true then(x,NameKind.cell) else(x,k))=(x,Fs k)
 by_cases q:k= .free
 ·subst q
  obtain⟨i,j,_,_,hj⟩:=Kj (DX h).2 hp
  rw [z.R.fr.st.kind,z.R.fr.st.kinds hj];rfl
 ·rw [if_neg ((beq_eq_false_iff_ne.mpr q).symm▸mK)]
  cases k <;> first | rfl | exact absurd rfl q
include h in
theorem aEb{Y:Xt}{cells:List SO}(hY:Y.W D=some .frame)(hn:h'.Ns D fun _=>none)(le:(z.X.mask NU z.s.heap).le st.cells.length Y cells.length)(g:∀ b o,z.s.heap.get? b=some o→h'.get? b=some o):
  GK K.C Y (pU nms) (compEnvC (jV nms) (vE K.env.cells nms []) D K.env) (pR cap st.loc) cells.length h':=by
 have hc:=(DX h).2
 have F:=z.R.fr
 have low:z.X.low st.cells.length Y cells.length:=z.holdLow.trans le.low
 refine⟨⟨?_,congrArg Scope.names (Us h z),F.st.globals,F.st.builtins,fun q=>nomatch q⟩,hY,⟨_,hn,fun i x sv e hl=>(aDE hc e hl).elim⟩,fun i x e=> ?_,fun i x sv e hl=>(aIV e).elim⟩
 ·show xO (relabel (jV nms) K.env)=true
  rw [Us h z];exact(DX h).1
 ·have hi:=aDD hc e
  obtain⟨j,hcj,hj⟩:=Kh hc hi
  obtain⟨c,v₀,a,b,⟨o,ho,hd⟩,t⟩:=F.cell j x hj
  have hW:∃ o',(z.X.mask NU z.s.heap).W c=some (.held o'):=b.elim (fun b=>⟨o,Bl b rfl ho⟩) fun⟨_,o',b⟩=>⟨o',FI b rfl⟩
  obtain⟨o',hW⟩:=hW
  refine⟨c,v₀,aDJ a _ (.inl (oB hi)),.inr ⟨rfl,o',le.held _ _ hW⟩,⟨o,g _ _ ho,hd⟩,fun sv hl=> ?_⟩
  unfold pR at hl
  rw [iW,hcj] at hl
  obtain⟨v,hv,d⟩:=t sv (by
   have hl:(st.loc[j]?).join=some sv:=bO hl
   cases q:st.loc[j]? with
   |none=>rw [q] at hl;exact aT hl
   |some y=>rw [q] at hl;exact congrArg some hl)
  exact⟨v,hv,fK.mono low _ _ d⟩
end
structure yR where
 g:PV→M Unit
 t:M Bool
 m:M SV
 rt:Expr→Expr
 ri:List Expr→List Expr
 re:Expr→Expr
noncomputable abbrev Fg(es:List Expr)(env:Env):Sem Bool:=forIn es true fun c r=>if r=true then do let ok ←isTrue c env (eval c env);pure (SQ ok) else pure (SQ r)
structure MG(K:KK)(T:yR):Prop where
 okg:∀(e:Expr) {A:aR} {st:St} (z:Z K A st) {p:PV} {v:aB},bF K.C z.X.W p v→Go z dU (K.wp A (rC (T.rt e) K.env v)) (T.g p st)
 okt:∀(es:List Expr) {A:aR} {st:St} (z:Z K A st),Go z dB (K.wp A (Fg (T.ri es) K.env)) (T.t st)
 okm:∀(e:Expr) {A:aR} {st:St} (z:Z K A st),Go z dV (K.wp A (eval (T.re e) K.env)) (T.m st)
 lets:∀(e:Expr) (it v:aB),JH (T.rt e) it v=pure ()
structure TV(K:KK) where
 m:M Bool
 r:List Expr→List Expr
 ok:∀(es:List Expr) {A:aR} {st:St} (z:Z K A st),Go z dB (K.wp A (Fg (r es) K.env)) (m st)
structure PI(K:KK) where
 T:yR
 ok:MG K T
section
variable{K:KK}{A:aR}{st st':St}{z:Z K A st}
noncomputable def oH:TV K:=⟨rt true,fun _=>[],fun _ _ _ z=>.rt (x:=true) rfl fun Q q=>wpAny_tests_nil q⟩
noncomputable def DI(a:PT K):TV K:=⟨a.m,fun es=>[a.r (dT es)],fun es _ _ z=>(a.ok _ z).imp fun Q q=>wpAny_tests_one q⟩
noncomputable def cP(g:PA K)(t:TV K)(a:PE K)(h:∀(e:Expr) (it v:aB),JH (g.r e) it v=pure ():=by intro _ _ _;rfl):PI K:=⟨⟨g.g,t.m,a.m,g.r,t.r,a.r⟩,g.ok,t.ok,a.ok,h⟩
theorem aEJ{α:Type}{xs:List α}{i:Nat}(h:xs[i]? =none):xs.drop i= []:=List.drop_eq_nil_iff.mpr (List.getElem?_eq_none_iff.mp h)
theorem XS{α:Type}{xs:List α}{i:Nat}{y:α}(h:xs[i]? =some y):xs.drop i=y::xs.drop (i+1):=by
 obtain⟨hi,rfl⟩:=List.getElem?_eq_some_iff.mp h
 exact aAm hi
inductive GI(K:KK)(A:aR)(X₀:Xt)(n0:Nat)(it D:Addr)(pi:Nat→Obj→Prop)(ok:Xt→Nat→Prop)(xs ys:List PV)(T:yR)(st':St):Nat→aG→Prop
 |mk {st₁:St} (z₁:Z K A st₁) (i:Nat) (o:Obj) (ds:List PV) (vs:List aB) (ep:Nat) (rest:List PV) (l:X₀.le n0 z₁.X st₁.cells.length) (hW:z₁.X.W it=some (.iter o)) (hp:pi i o) (hok:ok z₁.X st₁.cells.length) (hD:z₁.X.W D=some (.iter (cC vs ep)))
  (dl:bQ K.C z₁.X ds vs) (hl:ds.length≤i) (e:iG T.g T.t T.m (xs.drop i) st₁=some (rest,st')) (hy:ds++rest=ys):GI K A X₀ n0 it D pi ok xs ys T st' (xs.drop i).length z₁.s
theorem Yi{xs:List PV}{i:Nat}{y:PV}(q:xs[i]? =some y):(xs.drop (i+1)).length < (xs.drop i).length:=by rw [XS q];exact yA _
section
variable{T:yR}{xs rest ys ds:List PV}{i:Nat}{st₁ st':St}{γ:Type}
theorem aEa{C:St→List PV→Prop}(q:xs[i]? =none)(e:iG T.g T.t T.m (xs.drop i) st₁=some (rest,st'))(hy:ds++rest=ys)(k:C st₁ ds):C st' ys:=by
 replace e:=(aEJ q)▸e
 obtain⟨rfl,rfl⟩:=gA e
 rw [←hy,gQ]
 exact k
theorem aGC{b b':Bool}{P Q:Prop}{f g:M γ}{r:γ×St}(e:(match b with | true=>f | false=>g) st₁=some r)(h:b=b')(kt:f st₁=some r→P)(kf:g st₁=some r→Q):if b'=true then P else Q:=by
 subst h
 cases b with
 |false=>exact kf e
 |true=>exact kt e
theorem aJj{y:SV}{f:PV→M γ}{r:γ×St}(e:lK y f st₁=some r){P:Prop}(k:∀ w,y= .pv w→f w st₁=some r→P):P:=by
 cases y with
 |ref=>exact aT e
 |pv w=>exact k w rfl e
theorem Wb{α:Type}{a b:α}(e:rt a st₁=some (b,st')):b=a∧st₁=st':=by obtain⟨rfl,rfl⟩:=gA e;exact⟨rfl,rfl⟩
end
theorem aEe{T:yR}(O:MG K T){X₀:Xt}{n0:Nat}{it D:Addr}{pi:Nat→Obj→Prop}{ok:Xt→Nat→Prop}{xs ys:List PV}(I:pJ K.C it (lJ xs) pi ok)(hbig:xs.length≤1000000)(hne:it≠D)(hit0:X₀.W it=none)(hD0:X₀.W D=none)(te ee:Expr)(es:List Expr){Fn:aG→Prop}{E:aB→aG→Prop}
  (hF:∀(z₁:Z K A st') o vs ep,X₀.le n0 z₁.X st'.cells.length→z₁.X.W it=some (.iter o)→z₁.X.W D=some (.iter (cC vs ep))→bQ K.C z₁.X ys vs→∀ h' tk,lL it z₁.s.heap h'→Fn {z₁.s with heap:=h',toks:=tk}) (n:Nat) (s:aG) (h:GI K A X₀ n0 it D pi ok xs ys T st' n s):
  aI (aK K.C.prog K.C.w) A (pyNext (.ref it)) (fun r s₁=>match r with
   |none=>Fn s₁
   |some v=>aI (aK K.C.prog K.C.w) A (rC (T.rt te) K.env v) (fun _ s₂=>aI (aK K.C.prog K.C.w) A (Fg (T.ri es) K.env) (fun ok' s₃=>
     if ok'=true then aI (aK K.C.prog K.C.w) A (eval (T.re ee) K.env) (fun x s₄=>aI (aK K.C.prog K.C.w) A (call (.builtin "list.append") [.ref D,x]) (fun _ s₅=>∃ m,m < n∧GI K A X₀ n0 it D pi ok xs ys T st' m s₅) E s₄) E s₃
     else ∃ m,m < n∧GI K A X₀ n0 it D pi ok xs ys T st' m s₃) E s₂) E s₁) E s:=by
 cases h with | mk z₁ i o ds vs ep rest l hW hp hok hD dl hl e hy=>
 have ho:=z₁.R.val _ _ hW
 cases q:xs[i]? with
 |none=>exact vV (I.fin z₁.wd z₁.hA.handled hok ho hp (congrArg some q) fun h' tk ex=>aEa (C:=fun st' ys=>(∀(z₁:Z K A st') o vs ep,X₀.le n0 z₁.X st'.cells.length→z₁.X.W it=some (.iter o)→z₁.X.W D=some (.iter (cC vs ep))→bQ K.C z₁.X ys vs→∀ h' tk,lL it z₁.s.heap h'→Fn {z₁.s with heap:=h',toks:=tk})→Fn {z₁.s with heap:=h',toks:=tk}) q e hy (fun hF=>hF z₁ o vs ep l hW hD dl h' tk ex) hF)
 |some y=>
  have hi:=FH q
  rw [XS q] at e
  refine vV (I.item z₁.wd hok ho hp (congrArg some q) fun v h' o' tk dv sb ho' hp'=> ?_)
  have lw:∀ n,z₁.X.low n (z₁.X.put it (some (.iter o'))) n:=fun n=>(Tr.put (n:=n) (r:=some (bU.iter o')) z₁.R.val (.inr ⟨o,hW⟩) (rH sb) (rQ ho')).low
  refine lH e fun _ st₂ e₁ e₂=>lH e₂ fun b st₃ e₃ e₄=>vV (O.okg te (z₁.put it (some (.iter o')) h' tk (.inr ⟨o,hW⟩) (rH sb) (rQ ho')) (bF.mono (lw 0).fro _ _ dv) _ st₂ e₁ _ fun z₃ _ l₃ _=>vV (O.okt es z₃ b st₃ e₃ _ fun z₄ b' l₄ eb=> ?_))
  have L:=(kR (r:=some (.iter o')) l hit0).trans (l₃.t l₄)
  have hW₄:=(l₃.t l₄).iter it o' kW
  have hD₄:=(l₃.t l₄).iter D (cC vs ep) ((iR hne.symm).trans hD)
  have lo:=(lw _).trans (l₃.t l₄).low
  refine aGC e₄ eb (fun e₄=>lH e₄ fun sv st₄ e₅ e₆=>aJj e₆ fun w hw e₆=>lH e₆ fun ys' st₅ e₇ e₈=>vV (O.okm ee z₄ _ st₄ e₅ _ fun z₅ x l₅ dx=> ?_)) fun e₄=>⟨_,Yi q,.mk z₄ (i+1) o' ds vs ep rest L hW₄ hp' (I.mono lo hok) hD₄ (bQ.mono lo dl) (GS hl) e₄ hy⟩
  have hD₅:=l₅.iter _ _ hD₄
  have hoD:=z₅.R.val _ _ hD₅
  have hz:(iZ vs).size≤fR:=by rw [iE,←dl.len];exact aP hl (aP (DD hi) (gM hbig))
  have g:(z₅.s.heap.update D (gB fun xs=>xs.push x)).get? D=some (cC (vs++[x]) _):=(uQ _ hoD rfl).trans (congrArg some (Bk (Hi ..)))
  refine mQ Gz (qK hoD) F.entry_list_append (F.args_list_append_2 _ _) (Zh _ vs.toArray ep x hz) ⟨hoD,?_⟩
  have sbD:=sF z₅.s.heap D (gB fun xs=>xs.push x)
  have lD:=(Tr.put (n:=st₄.cells.length) (r:=some (.iter (cC (vs++[x]) _))) z₅.R.val (.inr ⟨_,hD₅⟩) (rH sbD) (rQ g)).low
  have lo₅:=lo.trans (l₅.low.trans lD)
  exact⟨_,Yi q,.mk (z₅.put D (some (.iter (cC (vs++[x]) _))) _ z₅.s.toks (.inr ⟨_,hD₅⟩) (rH sbD) (rQ g)) (i+1) o' (ds++[w]) (vs++[x]) _ ys' (kR (L.trans l₅) hD0) ((iR hne).trans (l₅.iter _ _ hW₄)) hp' (I.mono lo₅ hok) kW
   (aS.app (bQ.mono lo₅ dl) (.one (bF.mono lD.fro _ _ (by rw [hw] at dx;exact dx)))) (by rw [fH];exact lC hl) ((Wb e₈).2▸e₇) (by rw [gP];exact(congrArg (ds++ ·) (Wb e₈).1).symm.trans hy)⟩
end
noncomputable def Wd.add{C:Cx}{cells:List SO}(y:Wd C cells)(a:Addr)(r:bU)(hn:y.X.W a=none)(hr:gY y.s.heap a r):Wd C cells:=
 ⟨y.X.put a (some r),y.s,(Tr.add (n:=cells.length) (ρ:=y.X.ρ) (δ:=y.X.δ) y.R.val hn (fun _ _ e=>e) hr (cZ _) fun _ _=>rfl).relC y.R y.R.still (fun _=>rfl) fun _ _ e=>.inl ⟨e,rfl,rfl⟩⟩
theorem xD{f:Obj→bU}{X:Xt}{ex:bU→Bool}{h:Heap}{a:Addr}(e:X.W a=none):(X.maskR f ex h).W a=none:=by
 show(match X.W a with | some r=>_ | none=>_)=_;rw [e]
section
variable{K:KK}{A:aR}{st st':St}{z:Z K A st}
theorem Z.adFTr(z:Z K A st)(a:Addr)(o:Obj)(hn:z.X.W a=none)(ho:z.s.heap.get? a=some o)(n:Nat):Tr (fun _=>false) z.X z.s.heap n (z.X.put a (some (.fro o))) z.s.heap n:=
 Tr.add (ρ:=z.X.ρ) (δ:=z.X.δ) z.R.val hn (fun _ _ e=>e) ho (cZ _) fun _ _=>rfl
noncomputable def Z.adF(z:Z K A st)(a:Addr)(o:Obj)(hn:z.X.W a=none)(ho:z.s.heap.get? a=some o):Z K A st:=
 ⟨z.X.put a (some (.fro o)),z.s,z.hA,(z.adFTr a o hn ho _).rel z.R z.R.still (fun _=>rfl) rfl rfl (fun _=>rfl) fun _ _ e=>.inl ⟨e,rfl,rfl⟩⟩
inductive vX(z:Z K A st)(ys:List PV)(st':St)(D Ca:Addr):aG→Prop
 |mk (z₁:Z K A st) (z₂:Z K A st') (vs:List aB) (ep:Nat) (oC:Obj) (mC:Str→Option aB) (l1:z.le z₁) (hD0:z₁.X.W D=none) (hC0:z₁.X.W Ca=none) (l2:z₁.le z₂) (hD:z₂.X.W D=some (.iter (cC vs ep))) (hC:z₂.X.W Ca=some (.iter oC)) (hne:Ca≠D) (hn:z₂.s.heap.Ns Ca mC) (dl:bQ K.C z₂.X ys vs):vX z ys st' D Ca z₂.s
inductive CT(z:Z K A st)(v:SV)(st':St)(D Ca:Addr):aG→Prop
 |mk (z₁:Z K A st) (z₂:Z K A st') (oC:Obj) (mC:Str→Option aB) (l1:z.le z₁) (hC0:z₁.X.W Ca=none) (l2:z₁.le z₂) (hC:z₂.X.W Ca=some (.iter oC)) (hn:z₂.s.heap.Ns Ca mC) (d:z₂.d dV v (.ref D)):CT z v st' D Ca z₂.s
theorem sW{h:Heap}{a:Addr}(q:bU)(e:none=some q):gY h a q:=nomatch e
noncomputable def Z.drop(z:Z K A st)(a:Addr){o:Obj}(h:z.X.W a=some (.iter o)):Z K A st:=z.put a none z.s.heap z.s.toks (.inr ⟨o,h⟩) (fun _ _ _ e=>e) sW
theorem Z.dropLow(z:Z K A st)(a:Addr){o:Obj}(h:z.X.W a=some (.iter o))(n:Nat):z.X.low n (z.X.put a none) n:=(Tr.put (r:=none) z.R.val (.inr ⟨o,h⟩) (fun _ _ _ e=>e) (sW (h:=z.s.heap))).low
theorem vX.fro{ys:List PV}{D Ca:Addr}{s:aG}(c:vX z ys st' D Ca s):CT z (.pv (.lst ys)) st' D Ca s:=by
 cases c with | mk z₁ z₂ vs ep oC mC l1 hD0 hC0 l2 hD hC hne hn dl=>
 have ho:=z₂.R.val _ _ hD
 have T:=(z₂.drop D hD).adFTr D (cC vs ep) kW ho
 have lw:=(z₂.dropLow D hD st'.cells.length).trans (T _).low
 exact .mk z₁ ((z₂.drop D hD).adF D (cC vs ep) kW ho) oC mC l1 hC0 (Xt.le.trans (kR l2 hD0) ((T _).le (fun _=>rfl) fun _=>rfl)) ((iR hne).trans ((iR hne).trans hC)) hn (oL.mk (p:=DenL _ _ ys) D vs ep kW (by rw [iH];exact aS.imp (bF.mono lw.fro) _ _ dl))
theorem vX.cel{ys:List PV}{D Ca:Addr}{s:aG}(c:vX z ys st' D Ca s):CT z (.ref st'.cells.length) ⟨st'.loc,st'.cells++[.list ys]⟩ D Ca s:=by
 cases c with | mk z₁ z₂ vs ep oC mC l1 hD0 hC0 l2 hD hC hne hn dl=>
 have ho:=z₂.R.val _ _ hD
 have T:=(z₂.drop D hD).adTr D kW ⟨_,ho⟩ (.list ys)
 have lw:=(z₂.dropLow D hD st'.cells.length).trans T.low
 exact .mk z₁ ((z₂.drop D hD).adC D kW ⟨_,ho⟩ (.list ys) (Il (z:=z₂.drop D hD) ho (.mk vs ep (bQ.mono lw dl)))) oC mC l1 hC0 (Xt.le.trans (kR l2 hD0) (T.le (fun _=>rfl) fun _=>rfl)) ((HM hne).trans ((iR hne).trans hC)) hn ⟨by show _ < (st'.cells++[_]).length;rw [xC];exact yA _,congrArg qE qA.symm⟩
theorem aGE{cap:List (Option Nat)}{k:M (List PV)}{ys:List PV}(e:EV cap k st=some (ys,st')):∃ st₂,k ⟨pR cap st.loc,st.cells⟩=some (ys,st₂)∧st'=⟨st.loc,st₂.cells⟩:=by
 unfold EV at e
 cases q:k ⟨pR cap st.loc,st.cells⟩ with
 |none=>rw [q] at e;exact aT e
 |some r=>rw [q] at e;obtain⟨rfl,rfl⟩:=gA e;exact⟨r.2,rfl,rfl⟩
theorem aDY{f:St→SV→Option (List PV)}{cap:List (Option Nat)}{g:PV→M Unit}{t:M Bool}{m:M SV}{a:SV}{ys:List PV}(e:BC f cap g t m a st=some (ys,st')){P:Prop}(k:∀ xs st₂,f st a=some xs→xs.length≤1000000→iG g t m xs ⟨pR cap st.loc,st.cells⟩=some (ys,st₂)→st'=⟨st.loc,st₂.cells⟩→P):P:=by
 have e:(match f st a with | some xs=>dQ xs.length (EV cap (iG g t m xs)) st | none=>none)=some (ys,st'):=e
 cases q:f st a with
 |none=>rw [q] at e;exact aT e
 |some xs=>
  rw [q] at e
  exact Og e fun hz e=>(aGE e).elim fun st₂ e=>k xs st₂ q (of_decide_eq_true hz) e.1 e.2
noncomputable abbrev EU(K:KK)(nms:aL)(cenv:Env):KK:=⟨K.C,K.n,pU nms,cenv⟩
noncomputable def Ld(K:KK)(A:aR)(e:Expr)(nms:aL)(use:Option (aB→Sem Unit))(x:aB):WP aB:=fun Q s₁=>aI (aK K.C.prog K.C.w) A (pyIter x) (fun it s₂=>aI (aK K.C.prog K.C.w) A (newList []) (fun acc s₃=>aI (aK K.C.prog K.C.w) A (newFunctionEnv (jV nms) K.env.globals (vE K.env.cells nms []) [] K.env.qual none .none (some K.env)) (fun cenv s₄=>
 codeAny (aK K.C.prog K.C.w) A (.compStart e 0 it acc {cenv with scope:=relabel (jV nms) K.env}) (compPost (aK K.C.prog K.C.w) A nE use Q acc cenv.locals) s₄) nE s₃) nE s₂) nE s₁
inductive Zl(z:Z K A st)(nms:aL)(cap:List (Option Nat))(it D Ca:Addr)(o:Obj):Prop where
 |mk (zc:Z (EU K nms (compEnvC (jV nms) (vE K.env.cells nms []) Ca K.env)) A ⟨pR cap st.loc,st.cells⟩) (es:zc.s=z.s) (le:z.hold.X.le st.cells.length zc.X st.cells.length) (hit:zc.X.W it=some (.iter o)) (hD:zc.X.W D=some (.iter (cC [] 0)))
theorem aEc{nms:aL}{cap:List (Option Nat)}(h:nK K.sl cap nms=true){it D Ca:Addr}{o:Obj}(h1:it≠D)(h2:it≠Ca)(h3:Ca≠D)(w1:z.X.W it=none)(w2:z.X.W D=none)(w3:z.X.W Ca=none)(o1:z.s.heap.get? it=some o)(o2:z.s.heap.get? D=some (cC [] 0))(o3:z.s.heap.Ns Ca fun _=>none):Zl z nms cap it D Ca o:=by
 have v1:z.hold.X.W it=none:=xD w1
 have v2:(z.hold.X.put it (some (.iter o))).W D=none:=(iR h1.symm).trans (xD w2)
 have v3:((z.hold.X.put it (some (.iter o))).put D (some (.iter (cC [] 0)))).W Ca=none:=(iR h3).trans ((iR h2.symm).trans (xD w3))
 have l0:z.hold.X.le st.cells.length (((z.hold.X.put it (some (.iter o))).put D (some (.iter (cC [] 0)))).put Ca (some .frame)) st.cells.length:=kR (kR (kR (.refl ..) v1) (xD w2)) (xD w3)
 exact⟨⟨_,z.s,z.hA,⟨(((z.hold.add it (.iter o) v1 o1).add D (.iter (cC [] 0)) v2 o2).add Ca .frame v3 (let⟨o,_,_,q,_⟩:=o3;⟨o,q⟩)).R,aEb h kW o3 l0 fun _ _ e=>e⟩⟩,rfl,l0,(iR h2).trans ((iR h1).trans kW),(iR h3.symm).trans kW⟩
theorem Tr.unframe{X:Xt}{h:Heap}{n:Nat}{a:Addr}{o:Obj}(v:∀ a r,X.W a=some r→gY h a r)(hW:X.W a=some .frame)(ho:h.get? a=some o):Tr XY X h n (X.put a (some (.iter o))) h n:=by
 have ne:∀ {b r},X.W b=some r→XY r=false→b≠a:=fun {b r} e q c=>by rw [c,hW] at e;obtain rfl:=bO e;cases q
 refine⟨⟨fun b p e=>(iR (ne e rfl)).trans e,fun _ _=>rfl,cZ _⟩,fun b r e q=>⟨(iR (ne e q)).trans e,rfl⟩,fun b r e=> ?_⟩
 by_cases c:b=a
 ·rw [c,kW] at e;obtain rfl:=bO e;rw [c];exact .inr ho
 ·rw [iR c] at e;exact .inr (v b r e)
theorem aEd{nms:aL}{cenv:Env}{it D Ca:Addr}{ys:List PV}{z₀:Z K A st}{st₂:St}(l0:z₀.le z)(hl:cenv.locals=Ca)(h1:it≠D)(h2:it≠Ca)(h3:Ca≠D)(w1:z.X.W it=none)(w2:z.X.W D=none)(w3:z.X.W Ca=none)
  (z₁:Z (EU K nms cenv) A st₂) {o:Obj} {vs:List aB} {ep:Nat} (l:z.hold.X.le st.cells.length z₁.X st₂.cells.length) (hW:z₁.X.W it=some (.iter o)) (hD:z₁.X.W D=some (.iter (cC vs ep))) (dl:bQ K.C z₁.X ys vs) (h':Heap) (tk:Nat) (ex:lL it z₁.s.heap h'):vX z₀ ys ⟨st.loc,st₂.cells⟩ D Ca {z₁.s with heap:=h',toks:=tk}:=by
 subst hl
 have T1:=Tr.put (n:=st₂.cells.length) (r:=none) z₁.R.val (.inr ⟨o,hW⟩) ex sW
 have R2:=(z₁.put it none h' tk (.inr ⟨o,hW⟩) ex sW).R
 obtain⟨mC,hn,_⟩:=R2.fr.ns
 obtain⟨oC,hoC⟩:∃ oC,h'.get? cenv.locals=some oC:=let⟨o,_,_,q,_⟩:=hn;⟨o,q⟩
 have T2:=Tr.unframe (n:=st₂.cells.length) R2.val R2.fr.nsW hoC
 have le':z.hold.X.le st.cells.length ((z₁.X.put it none).put cenv.locals (some (.iter oC))) st₂.cells.length:=kR (kR l (xD w1)) (xD w3)
 have Y:∀(y:Wd K.C st₂.cells) (le:z.hold.X.le st.cells.length y.X st₂.cells.length),y.X=(z₁.X.put it none).put cenv.locals (some (.iter oC))→y.s= {z₁.s with heap:=h',toks:=tk}→vX z₀ ys ⟨st.loc,st₂.cells⟩ D cenv.locals y.s:=fun y le e1 e2=>by
  have back:∀ {a p},z.X.W a=none→y.X.W a=some (.iter p)→(z.backX y).W a=some (.iter p):=fun w q=>Fu rfl q fun p ep=>by rw [w] at ep;exact aT ep
  exact .mk z (z.back y le) vs ep oC mC l0 w2 w3 ((z.backTr y le).le (fun _=>rfl) fun _=>rfl) (back w2 (by rw [e1];exact(iR h3.symm).trans ((iR h1.symm).trans hD))) (back w3 (by rw [e1];exact kW)) h3 (show y.s.heap.Ns _ _ by rw [e2];exact hn) (bQ.mono (z.backLow y le) (by rw [e1];exact bQ.mono (T1.low.trans T2.low) dl))
 exact Y ⟨_,_,T2.relC R2.toRelC R2.still (fun _=>rfl) fun _ _ e=>.inl ⟨e,rfl,rfl⟩⟩ le' rfl rfl
theorem Ov{T:yR}{f:St→SV→Option (List PV)}{a:SV}{x:aB}{nms:aL}{cap:List (Option Nat)}{ys:List PV}(h:nK K.sl cap nms=true)(O:∀ cenv,MG (EU K nms cenv) T)(hf:kD K f)(dx:z.d dV a x)(e:BC f cap T.g T.t T.m a st=some (ys,st'))(te ie ee:Expr)(es:List Expr)(pos:Pos){use:Option (aB→Sem Unit)}{Q:aB→aG→Prop}
  (hq:∀ D Ca s,vX z ys st' D Ca s→compPost (aK K.C.prog K.C.w) A nE use Q (.ref D) Ca (.ok .next) s):Ld K A (.ListComp (T.re ee) [⟨T.rt te,ie,T.ri es,0⟩] (jV nms) pos) nms use x Q z.s:=by
 refine aDY e fun xs st₂ qf hz qP est=> ?_
 subst est
 refine hf z qf dx _ fun z₁ it o pi ok l hit ho I hp hok=>GC (wpAny_newFunctionEnv (fun p hp q=> ?_) (fun _ h=>nomatch h) (fun h₁ hns hsb=> ?_) rfl)
 ·obtain⟨i,hi⟩:=List.mem_iff_getElem?.mp hp
  obtain⟨c,_,q'⟩:=NJ nms (DX h).2 hi
  unfold HT at q';rw [q] at q';exact eP q'
 have hlt:=mY ho
 have hCa:(z₁.s.heap.push (cC [] 0)).objs.size=sz z₁+1:=Heap.size_push ..
 have g:∀ b o,(z₁.s.heap.push (cC [] 0)).get? b=some o→h₁.get? b=some o:=fun b o q=>hsb.extBut b o (qU (mY q)) (gW _ q)
 have h1:it≠sz z₁:=qU hlt
 have h2:it≠(z₁.s.heap.push (cC [] 0)).objs.size:=by rw [hCa];exact qU (Nat.lt_succ_of_lt hlt)
 have h3:(z₁.s.heap.push (cC [] 0)).objs.size≠sz z₁:=by rw [hCa];exact TR _
 have w2:z₁.X.W (sz z₁)=none:=z₁.R.fresh (cZ _)
 have w3:z₁.X.W (z₁.s.heap.push (cC [] 0)).objs.size=none:=z₁.R.fresh (by rw [hCa];exact oG _)
 have g0:∀ b o,z₁.s.heap.get? b=some o→h₁.get? b=some o:=fun b o q=>g b o (gW _ q)
 let zt:Z K A st:=z₁.to {z₁.s with heap:=h₁,toks:=z₁.s.toks+0} (z₁.R.still.to _ _) g0
 obtain⟨zc,ces,cle,chit,chD⟩:=aEc (z:=zt) h h1 h2 h3 hit w2 w3 (g0 _ _ ho) (g _ _ (oA _ rfl)) hns
 have low:zt.X.low st.cells.length zc.X st.cells.length:=zt.holdLow.trans cle.low
 have start:GI (EU K nms _) A _ st.cells.length it (sz z₁) pi ok xs ys T st₂ (xs.drop 0).length zc.s:=.mk zc 0 o [] [] 0 ys cle chit hp (I.mono low hok) chD rfl (cZ _) qP rfl
 rw [ces] at start
 have loop:=codeAny_compLoop_tests (target:=T.rt te) (iter:=ie) (scope:=jV nms) (pos:=pos) (R:=compPost (aK K.C.prog K.C.w) A nE use Q (.ref (sz z₁)) _) _ (fun n s hs=>aEe (O _) I hz h1 (xD hit) (xD w2) te ee es (fun z₂ o' vs ep le hW hD dl h' tk ex=>hq _ _ _ (aEd (z:=zt) (cenv:=compEnvC (jV nms) (vE K.env.cells nms []) (z₁.s.heap.push (cC [] 0)).objs.size K.env) l rfl h1 h2 h3 hit w2 w3 z₂ le hW hD dl h' tk ex)) n s hs) _ start ((O default).lets te _)
 exact codeAny_compStart_list loop (vV (I.self (g0 _ _ ho) hp loop))
end
noncomputable def Zf:Expr→Expr×List SJ
 |.ListComp e gs _ _=>(e,gs)
 |_=>(dT [],[])
noncomputable def hdC:List SJ→SJ
 |g::_=>g
 | []=>⟨dT [],dT [],[],0⟩
noncomputable def xce(e:Expr):Expr:=(Zf e).1
noncomputable def Gm(e:Expr):SJ:=hdC (Zf e).2
section
variable{K:KK}{A:aR}{st st':St}{z:Z K A st}{nms:aL}{cap:List (Option Nat)}
theorem aIS(h:nK K.sl cap nms=true)(p:Str×pM)(hp:p∈nms)(hk:p.2= .local):nms.lookup p.1=some .local:=by
 obtain⟨i,hi⟩:=List.mem_iff_getElem?.mp hp
 have F:tO (pU nms) {scope:=jV (pU nms),locals:=0,globals:=jX,cells:=[],builtins:=wO}:=⟨(DX h).1,rfl,rfl,rfl,fun q=>nomatch q⟩
 have hn:=F.facts.2.1
 unfold pU at hn
 rw [iY] at hn
 exact hk▸Bf hn hi
theorem aDK(h:nK K.sl cap nms=true)(z:Z K A st):closureFor (jV nms) K.env=pure (vE K.env.cells nms []):=aDL fun x hx=>by
 obtain⟨i,j,_,_,hj⟩:=Kj (DX h).2 hx
 obtain⟨c,v₀,a,_⟩:=z.R.fr.cell j x hj
 rw [a];rfl
noncomputable def GP(K:KK)(k:List PV→M SV):Prop:=∀ {A:aR} {st:St} {z:Z K A st} {ys:List PV} {st' st'':St} {v:SV} {D Ca:Addr} {s:aG},k ys st'=some (v,st'')→vX z ys st' D Ca s→CT z v st'' D Ca s
theorem YZ:GP K fun ys=>rt (.pv (.lst ys)):=fun e c=>by obtain⟨rfl,rfl⟩:=gA e;exact c.fro
theorem ZA:GP K fun ys st=>some (.ref st.cells.length,⟨st.loc,st.cells++[.list ys]⟩):=fun e c=>by obtain⟨rfl,rfl⟩:=gA e;exact c.cel
theorem aFw(c:CT z v st' D Ca s)(q:∀(z':Z K A st') x,z.le z'→z'.d dV v x→Q x z'.s):compPost (aK K.C.prog K.C.w) A nE none Q (.ref D) Ca (.ok .next) s:=by
 cases c with | mk z₁ z₂ oC mC l1 hC0 l2 hC hn d=>
 refine⟨mC,hn,fun h' sb=>q (z₂.put Ca none h' z₂.s.toks (.inr ⟨oC,hC⟩) (rH sb) sW) _ (Xt.le.trans l1 (kR l2 hC0)) (fK.mono (Tr.put z₂.R.val (.inr ⟨oC,hC⟩) (rH sb) sW).low _ _ d)⟩
theorem aFx(c:CT z v st' D Ca s)(hs:lP K i)(q:∀(z':Z K A ⟨st'.loc.set i (some v),st'.cells⟩),z.le z'→Q z'.s):compPost (aK K.C.prog K.C.w) A nE (some (rC (.Name (nm K.sl i) p) K.env)) (fun _=>Q) (.ref D) Ca (.ok .next) s:=by
 cases c with | mk z₁ z₂ oC mC l1 hC0 l2 hC hn d=>
 refine OV hs d (fun Q h=>Yw h) () _ rfl _ fun z₃ _ l₃ _=> ?_
 have hC₃:=l₃.iter _ _ hC
 refine⟨mC,Cd ((z₃.R.val _ _ hC₃:_=some _).trans (z₂.R.val _ _ hC:_=some _).symm) hn,fun h' sb=>q (z₃.put Ca none h' z₃.s.toks (.inr ⟨oC,hC₃⟩) (rH sb) sW) (Xt.le.trans l1 (kR (l2.t l₃) hC0))⟩
theorem Lf(h:nK K.sl cap nms=true)(a:PE K)(z:Z K A st)(q:K.wp A (eval (a.r ie) K.env) (fun x s=>Ld K A (.ListComp ee [⟨te,a.r ie,es,0⟩] (jV nms) pos) nms use x Q s) z.s):aI (aK K.C.prog K.C.w) A (comprehension (.ListComp ee [⟨te,a.r ie,es,0⟩] (jV nms) pos) (jV nms) K.env p (newList []) false (eval (a.r ie) K.env) use) Q nE z.s:=
 wpAny_comprehension_free rfl (OO (a.hc _)) (aDK h z) rfl (fun x hx hl=>aIS h x hx hl) q
noncomputable def XJ(k:List PV→M SV)(f:St→SV→Option (List PV))(src:M SV)(cap:List (Option Nat))(g:PV→M Unit)(t:M Bool)(m:M SV):M SV:=bd src fun a=>bd (BC f cap g t m a) k
noncomputable abbrev sJ(K:KK)(nms:aL):=∀ cenv,PI (EU K nms cenv)
noncomputable def sJ.T(I:sJ K nms):yR:=(I default).T
noncomputable abbrev Dt(a:PE K)(T:yR)(nms:aL)(e:Expr)(pos:Pos):Expr:=.ListComp (T.re (xce e)) [⟨T.rt (Gm e).target,a.r (Gm e).iter,T.ri (Gm e).ifs,0⟩] (jV nms) pos
theorem Hb{I:sJ K nms}(hI:∀ cenv,(I cenv).T=I.T)(cenv:Env):MG (EU K nms cenv) I.T:=hI cenv▸(I cenv).ok
noncomputable def UD(hk:GP K k)(hf:kD K f)(nms:aL)(cap:List (Option Nat))(a:PE K)(I:sJ K nms)(h:nK K.sl cap nms=true)(hI:∀ cenv,(I cenv).T=I.T):PE K:=
 ⟨XJ k f a.m cap I.T.g I.T.t I.T.m,fun e=>Dt a I.T nms e e.pos,0,fun _=>rfl,fun e A st z=>(a.ok _ z).ru (fun Q q=>by rw [KK.wp,eval_ListComp];exact Lf h a z q) fun z₁ l₁ dx v st' e' Q q=>
  lH e' fun ys st₂ e₁ e₂=>Ov h (Hb hI) hf dx e₁ _ _ _ _ _ fun D Ca s c=>aFw (hk e₂ c) q⟩
noncomputable def nF(hf:kD K f)(nms:aL)(cap:List (Option Nat))(a:PE K)(I:sJ K nms)(h:nK K.sl cap nms=true:=by rfl)(hI:∀ cenv,(I cenv).T=I.T:=by intro _;rfl):PE K:=UD YZ hf nms cap a I h hI
noncomputable def aAy(hf:kD K f)(nms:aL)(cap:List (Option Nat))(a:PE K)(I:sJ K nms)(h:nK K.sl cap nms=true:=by rfl)(hI:∀ cenv,(I cenv).T=I.T:=by intro _;rfl):PE K:=UD ZA hf nms cap a I h hI
noncomputable def xS(sl:aL)(i:Nat)(nms:aL):Bool:=match eI sl i .local with
 |true=> !(nms.any fun p=>p.1==nm sl i && (p.2== .local || p.2== .cell))
 |false=>false
theorem Xp(q:lP K i)(z:Z K A st){pos p:Pos}:FY (.ListComp ee gs (jV nms) pos) (some (.Name (nm K.sl i) {p with line:=pos.line})) l K.env=pure (xS K.sl i nms):=by
 have F:=z.R.fr.st
 show pure (K.env.blockKind== .function && K.env.kindOf (nm K.sl i)==some .local && pos.line==pos.line && !(nms.any _))=pure _
 rw [beq_self_eq_true,Bool.and_true,show K.env.blockKind= .function from by unfold Env.blockKind;rw [F.kind];rfl]
 unfold xS
 rcases q with q | ⟨q,_⟩
 ·rw [F.kinds (kF q),q];rfl
 ·refine(F.kinds (kF q)).symm▸?_
  cases c:eI K.sl i .local with
  |false=>rfl
  |true=>have:=(kF q).symm.trans (kF c);exact(nomatch this)
noncomputable def Wg(t:Stmt):Pos:={(yT t).pos with line:=(yE t).pos.line}
theorem aQD(qs:lP K i)(hs:xS K.sl i nms=true)(z:Z K A st){pos p tp:Pos}
  (q:aI (aK K.C.prog K.C.w) A (comprehension (.ListComp ee gs (jV nms) pos) (jV nms) K.env (firstIterPos gs pos) (newList []) (firstAsync gs) (firstIter gs K.env) (some (rC (.Name (nm K.sl i) {p with line:=pos.line}) K.env))) (fun _=>Q .next) nE z.s):K.wp A (exec (.Assign [.Name (nm K.sl i) {p with line:=pos.line}] (.ListComp ee gs (jV nms) pos) tp) K.env) Q z.s:=by
 refine(exec_Assign_Name_used _ _ _ _ ((Xp qs z).trans (congrArg pure hs))).symm▸?_
 exact aF (Gj (aF (aF (fX q fun _ _ h=>bG (bG h)))))
noncomputable def Ht(hk:GP K k)(i:Nat)(qs:lP K i)(hf:kD K f)(nms:aL)(cap:List (Option Nat))(a:PE K)(I:sJ K nms)(h:nK K.sl cap nms=true)(hI:∀ cenv,(I cenv).T=I.T)(hs:xS K.sl i nms=true):P1 K:=
 ⟨bd (XJ k f a.m cap I.T.g I.T.t I.T.m) fun v=>bd (tE i v) fun _=>rt .next,fun t=>.Assign [.Name (nm K.sl i) (Wg t)] (Dt a I.T nms (yE t) (yE t).pos) t.pos,fun t A st z fl st' e Q q=>by
  refine lH e fun v st₂ e₁ e₂=>lH e₁ fun x st₁ e₃ e₄=>lH e₄ fun ys st₃ e₅ e₆=> ?_
  refine aQD qs hs z (Lf h a z ((a.ok _ z) _ _ e₃ _ fun z₁ x l₁ dx=>Ov h (Hb hI) hf dx e₅ _ _ _ _ _ fun D Ca s c=>aFx (Q:=Q .next) (hk e₆ c) qs fun z' l=> ?_))
  obtain⟨rfl,rfl⟩:=gA e₂
  exact q z' .next (l₁.t l) rfl⟩
noncomputable def UA(i:Nat)(q:lP K i)(hf:kD K f)(nms:aL)(cap:List (Option Nat))(a:PE K)(I:sJ K nms)(h:nK K.sl cap nms=true:=by rfl)(hI:∀ cenv,(I cenv).T=I.T:=by intro _;rfl)(hs:xS K.sl i nms=true:=by rfl):P1 K:=Ht YZ i q hf nms cap a I h hI hs
noncomputable def aAt(i:Nat)(q:lP K i)(hf:kD K f)(nms:aL)(cap:List (Option Nat))(a:PE K)(I:sJ K nms)(h:nK K.sl cap nms=true:=by rfl)(hI:∀ cenv,(I cenv).T=I.T:=by intro _;rfl)(hs:xS K.sl i nms=true:=by rfl):P1 K:=Ht ZA i q hf nms cap a I h hI hs
noncomputable def Hu(hk:GP K k)(i:Nat)(q:lP K i)(hf:kD K f)(nms:aL)(cap:List (Option Nat))(a:PE K)(I:sJ K nms)(h:nK K.sl cap nms=true)(hI:∀ cenv,(I cenv).T=I.T)(hs:xS K.sl i nms=false):P1 K:=
 ⟨bd (XJ k f a.m cap I.T.g I.T.t I.T.m) fun v=>bd (tE i v) fun _=>rt .next,fun t=>.Assign [.Name (nm K.sl i) (Wg t)] (Dt a I.T nms (yE t) (yE t).pos) t.pos,
  fun t _ _ z=>((UD hk hf nms cap a I h hI).ok (yE t) z).ru (u:=fun x Q=>K.wp _ (storeName K.env (nm K.sl i) x) fun _=>Q .next) (fun Q k=>wpAny_Assign_Name k ((Xp q z).trans (congrArg pure hs))) fun z₁ l₁ dx=>IX q dx (rfl:dF _ _ _ Fl.next Flow.next) fun Q k=>k⟩
noncomputable def aQJ(i:Nat)(q:lP K i)(hf:kD K f)(nms:aL)(cap:List (Option Nat))(a:PE K)(I:sJ K nms)(h:nK K.sl cap nms=true:=by rfl)(hI:∀ cenv,(I cenv).T=I.T:=by intro _;rfl)(hs:xS K.sl i nms=false:=by rfl):P1 K:=Hu YZ i q hf nms cap a I h hI hs
noncomputable def aQK(i:Nat)(q:lP K i)(hf:kD K f)(nms:aL)(cap:List (Option Nat))(a:PE K)(I:sJ K nms)(h:nK K.sl cap nms=true:=by rfl)(hI:∀ cenv,(I cenv).T=I.T:=by intro _;rfl)(hs:xS K.sl i nms=false:=by rfl):P1 K:=Hu ZA i q hf nms cap a I h hI hs
end
section
set_option tactic.hygienic true
noncomputable def oX:List Nat→List Nat→Bool
 | [],[]=>false
 | [],_::_=>true
 |_::_,[]=>false
 |x::xs,y::ys=>match bX x y with
  |true=>true
  |false=>match bX y x with
   |true=>false
   |false=>oX xs ys
theorem Ry:∀(b c:List UInt8),Builtin.Bytes.holds "__lt__" (RZ b c)=oX (b.map cJ) (c.map cJ)
 | [],[]=>rfl
 | [],_::_=>rfl
 |_::_,[]=>rfl
 |x::xs,y::ys=>by
  rw [iX,iX,oX,RZ]
  have e1:(x < y)↔bX x.toNat y.toNat=true:=by rw [Nat.blt_eq];exact VT
  have e2:(x > y)↔bX y.toNat x.toNat=true:=by rw [Nat.blt_eq];exact VT
  by_cases h:x < y
  ·rw [if_pos h,e1.mp h];rfl
  ·rw [if_neg h,(LM _).mp fun q=>h (e1.mpr q)]
   by_cases g:x > y
   ·rw [if_pos g,e2.mp g];rfl
   ·rw [if_neg g,(LM _).mp fun q=>g (e2.mpr q)]
    exact Ry xs ys
section
variable{prog:iB}{w:eR}{A:aR}{E:aB→aG→Prop}{s:aG}
theorem Wy:Slot "bytes" "__lt__" "bytes.__lt__":=
 .of (owner:="bytes") (n:="__lt__") (by rw [mJ,lU];kernel_rfl) (by kernel_rfl) (by decide+kernel) (by decide+kernel)
  (by first | exact .inl (by kernel_rfl) | exact .inr (by decide+kernel)) (by rw [qH];kernel_rfl)
theorem aEW:rG table "bytes.__lt__"=some Builtin.«bytes.__lt__»:=wX (by kernel_rfl)
theorem aBi(a b:aB):lT "bytes.__lt__" ⟨[a,b],[]⟩:=by unfold lT;kernel_rfl
theorem aBU:isSubtype (.type "bytes") (.type "bytes")=pure true:=by rw [qH];kernel_rfl
theorem aDA(h:Q (.bool (oX (b.toList.map cJ) (c.toList.map cJ))) s):
  aI (aK prog w) A (call (.builtin "bytes.__lt__") [.bytes b t,.bytes c u]) Q E s:=by
 refine RN Wy (iJ s b t) aEW ?_ (aBi _ _)
 have h1:=aBU
 rw [←Ry] at h
 obtain⟨hp,g,d,tk,os⟩:=s
 wp_walk
 exact⟨_,rfl,h⟩
theorem Tw(h:Q (oX (b.toList.map cJ) (c.toList.map cJ)) s):aI (aK prog w) A (oneLt' true (.bytes b t) (.bytes c u)) Q E s:=by
 rw [oneLt'_eq]
 refine aF (wpAny_cRoomFor_byValue rfl ?_)
 refine aF (wpAny_callSpecialIfBound?_slot (iJ s b t) Wy (aDA ?_))
 exact uM h
noncomputable def vM{α:Type}(lt:Nat→Nat→Option Bool):KasT α→Option α
 |.ret a=>some a
 |.ask i j k=>match lt i j with
  |some b=>vM lt (k b)
  |none=>none
theorem Aq{α:Type}{I:aG→Prop}(hc:∀ i j b C s,lt i j=some b→I s→(∀ s',I s'→C b s')→cmp i j C s){Q:α→aG→Prop}:
  ∀ {t:KasT α} {a:α} {s:aG},vM lt t=some a→I s→(∀ s',I s'→Q a s')→t.kasWp cmp Q s
 |.ret a,b,s,h,hi,hq=>by
  obtain rfl:=bO h;exact hq s hi
 |.ask i j k,b,s,h,hi,hq=>by
  unfold vM at h
  split at h
  ·rename_i c q
   exact hc i j c _ s q hi fun s' hi'=>Aq hc h hi' hq
  ·exact aT h
theorem aOB{a:Addr}{n:Nat}{vs:List aB}{κ:SortKind}(ho:s.heap.get? a=some (fQ "list" vs.toArray n))(h2:2≤vs.length)(h64:vs.length < 64)
  (hkind:∀(s':aG) (Q:SortKind→aG→Prop),lL a s.heap s'.heap→Q κ s'→aI (aK prog w) A (keyKind' vs.toArray) Q (fun _ _=>False) s')
  (hlt:∀(s':aG) (i j:Nat) (b:Bool) (C:Bool→aG→Prop),lt i j=some b→lL a s.heap s'.heap→C b s'→aI (aK prog w) A (keyLt' κ (vs.getD i Value.none) (vs.getD j Value.none)) C (fun _ _=>False) s')
  (hrun:vM lt (zL vs.length)=some p)
  (h:∀ h' c,lL a s.heap h'→h'.get? a=some (fQ "list" (iZ (p.toList.map fun i=>vs.getD i Value.none)) c)→P (.done (.ret .none)) {s with heap:=h'}):
  aI (aK prog w) A (Builtin.«list.sort» ⟨[.ref a],[]⟩) P E s:=by
 have s1:=sF s.heap a (gB fun _=>(#[]:Array aB))
 obtain⟨e1,ho1⟩:∃ e1,(s.heap.update a (gB fun _=>(#[]:Array aB))).get? a=some (fQ "list" #[] e1):=⟨_,IT ho fun _=>#[]⟩
 generalize hH:((s.heap.update a (gB fun _=>(#[]:Array aB))).push (fQ "tuple" vs.toArray 0)).push (fQ "list" #[] 0)=H3
 have ext3:lL a s.heap H3:=fun b x hb e=>by
  refine(hH)▸?_
  exact gW _ (gW _ ((s1.2 b hb).trans e))
 have na3:H3.get? a=some (fQ "list" #[] e1):=by
  rw [←hH];exact gW _ (gW _ ho1)
 rw [list_sort_plain]
 refine aF (listItems_at ho rfl ?_)
 refine aF (BY ho rfl ?_ (vO h64) (jS _))
 refine aF (KR ho1 rfl ?_)
 refine aF (wpAny_newTuple ?_ (vO h64))
 refine aF (RP ?_ (jS _))
 refine pG ?_
 show aI (aK prog w) A _ P E {s with heap:=((s.heap.update a (gB fun _=>(#[]:Array aB))).push (fQ "tuple" vs.toArray 0)).push (fQ "list" #[] 0)}
 refine(hH).symm▸?_
 have hn2:¬vs.toArray.size < 2:=Nat.not_lt.mpr h2
 rw [if_neg hn2,if_neg hn2]
 refine aF (nV (hkind {s with heap:=H3} (fun κ' s'=>κ'=κ∧s'= {s with heap:=H3}) ext3 ⟨rfl,rfl⟩) (fun κ' s' hk=> ?_) fun _ _ x=>x.elim)
 obtain⟨rfl,rfl⟩:=hk
 have ask:(zL vs.length).kasWp (kas_ask prog w A κ' vs) (fun q s'=>q=p∧s'= {s with heap:=H3}) {s with heap:=H3}:=
  Aq (I:=fun s'=>s'= {s with heap:=H3}) (fun i j b C s' hb hs hC=>by
   subst hs
   exact hlt _ i j b C hb ext3 (hC _ rfl)) hrun rfl fun s' hs=>⟨rfl,hs⟩
 refine aF (nV (kat_run (Q:=fun st' s'=>∃ q:Array Nat,q.size=vs.length∧arrOf st'=q.map (kas_item (vs.toArray.zip vs.toArray))∧failedOf st'=none∧q=p∧s'= {s with heap:=H3})
  rfl h2 h64 (fun p' st' s' a1 a2 a3 a4=>⟨p',a1,a2,a3,a4⟩) ask) ?_ fun _ _ e=>e)
 rintro⟨⟨⟩,st'⟩ s' ⟨q,hp,har,hf,rfl,rfl⟩
 dsimp only
 have hout:=kat_snds rfl har
 have hsz:(iZ (q.toList.map fun i=>vs.getD i Value.none)).size=vs.length:=by rw [iE,bT,qB,hp]
 refine(hout).symm▸?_
 have s2:=sF H3 a (gB fun _=>iZ (q.toList.map fun i=>vs.getD i Value.none))
 obtain⟨c2,hc2⟩:∃ c2,(H3.update a (gB fun _=>iZ (q.toList.map fun i=>vs.getD i Value.none))).get? a=some (fQ "list" (iZ (q.toList.map fun i=>vs.getD i Value.none)) c2):=⟨_,IT na3 fun _=>iZ (q.toList.map fun i=>vs.getD i Value.none)⟩
 refine aF (KR na3 rfl ?_)
 refine aF (BY na3 rfl ?_ (jS _) (aP (dS hsz) (GS (vO h64))))
 refine(hf).symm▸?_
 simp only [bne_self_eq_false,GH,if_false]
 exact bG (h _ c2 (fun b x hb e=>(s2.2 b hb).trans (ext3 b x hb e)) hc2)
theorem aOD{vs:List aB}(ho:s.heap.get? a=some (fQ "list" vs.toArray n))(h2:vs.length < 2)
  (h:∀ h' c,lL a s.heap h'→h'.get? a=some (fQ "list" vs.toArray c)→P (.done (.ret .none)) {s with heap:=h'}):
  aI (aK prog w) A (Builtin.«list.sort» ⟨[.ref a],[]⟩) P E s:=by
 have ha:a < s.heap.objs.size:=mY ho
 have s1:=sF s.heap a (gB fun _=>(#[]:Array aB))
 obtain⟨e1,ho1⟩:∃ e1,(s.heap.update a (gB fun _=>(#[]:Array aB))).get? a=some (fQ "list" #[] e1):=⟨_,IT ho fun _=>#[]⟩
 generalize hH:((s.heap.update a (gB fun _=>(#[]:Array aB))).push (fQ "tuple" vs.toArray 0)).push (fQ "list" #[] 0)=H3
 have ext3:lL a s.heap H3:=fun b x hb e=>by
  refine(hH)▸?_
  exact gW _ (gW _ ((s1.2 b hb).trans e))
 have na3:H3.get? a=some (fQ "list" #[] e1):=by
  rw [←hH];exact gW _ (gW _ ho1)
 rw [list_sort_plain]
 refine aF (listItems_at ho rfl ?_)
 refine aF (BY ho rfl ?_ (Bh h2) (jS _))
 refine aF (KR ho1 rfl ?_)
 refine aF (wpAny_newTuple ?_ (Bh h2))
 refine aF (RP ?_ (jS _))
 refine pG ?_
 show aI (aK prog w) A _ P E {s with heap:=((s.heap.update a (gB fun _=>(#[]:Array aB))).push (fQ "tuple" vs.toArray 0)).push (fQ "list" #[] 0)}
 refine(hH).symm▸?_
 dsimp only
 have hn2:vs.toArray.size < 2:=h2
 rw [if_pos hn2,if_pos hn2]
 refine aF (bG ?_)
 rw [StateT.run_pure]
 refine aF (bG ?_)
 dsimp only
 have hout:(arrOf (SortSt.mk' general' (vs.toArray.zip vs.toArray) #[] 7 none)).map (·.2)=vs.toArray:=by
  show(vs.toArray.zip vs.toArray).map (·.2)=vs.toArray
  apply Array.toList_inj.mp
  simp [List.map_snd_zip]
 refine(hout).symm▸?_
 have s2:=sF H3 a (gB fun _=>vs.toArray)
 obtain⟨c2,hc2⟩:∃ c2,(H3.update a (gB fun _=>vs.toArray)).get? a=some (fQ "list" vs.toArray c2):=⟨_,IT na3 fun _=>vs.toArray⟩
 refine aF (KR na3 rfl ?_)
 refine aF (BY na3 rfl ?_ (jS _) (GS (Bh h2)))
 simp only [bne_self_eq_false,GH,if_false]
 exact bG (h _ c2 (fun b x hb e=>(s2.2 b hb).trans (ext3 b x hb e)) hc2)
end
end
theorem aS.of_get{α β:Type}{P:α→β→Prop}(xs:List α):∀ {vs:List β},xs.length=vs.length→(∀(i:Nat) (x:α) (v:β),xs[i]? =some x→vs[i]? =some v→P x v)→aS P xs vs:=by
 induction xs with
 |nil=>intro vs h _;cases vs with
  |nil=>exact rfl
  |cons=>cases h
 |cons x xs ih=>intro vs h k;cases vs with
  |nil=>cases h
  |cons v vs=>exact .mk (k 0 x v rfl rfl) (ih (wA h) fun i x v a b=>k (i+1) x v a b)
noncomputable def uI(xs:List PV):List Nat→Option (List PV)
 | []=>some []
 |i::is=>match xs[i]? with
  |some x=>match uI xs is with
   |some r=>some (x::r)
   |none=>none
  |none=>none
noncomputable def BZ(lt:PV→PV→Option Bool)(keys:List PV)(i j:Nat):Option Bool:=match keys[i]? with
 |some a=>match keys[j]? with
  |some b=>lt a b
  |none=>none
 |none=>none
noncomputable def tH(lt:PV→PV→Option Bool)(keys vals:List PV):Option (List PV):=match bX vals.length 2 with
 |true=>some vals
 |false=>match bX vals.length 64 with
  |true=>match vM (BZ lt keys) (zL vals.length) with
   |some p=>uI vals p.toList
   |none=>none
  |false=>none
noncomputable def FG(x y:PV):Option Bool:=match sP x with
 |some a=>match sP y with
  |some b=>some (oX a b)
  |none=>none
 |none=>none
theorem Ud{xs:List PV}(d:aS P xs vs)(is:List Nat):∀ {ys:List PV},uI xs is=some ys→aS P ys (is.map fun i=>vs.getD i Value.none):=by
 induction is with
 |nil=>intro ys h;obtain rfl:=bO h;exact rfl
 |cons i is ih=>
  intro ys h
  have h:(match xs[i]? with | some x=>(match uI xs is with | some r=>some (x::r) | none=>none) | none=>none)=some ys:=h
  cases q:xs[i]? with
  |none=>rw [q] at h;exact aT h
  |some x=>
   replace h:=(q)▸h
   cases q':uI xs is with
   |none=>rw [q'] at h;exact aT h
   |some r=>
    rw [q'] at h;obtain rfl:=bO h
    obtain⟨v,hv,dv⟩:=d.get q
    exact .mk (show P x (vs.getD i Value.none) by rw [LS,hv];exact dv) (ih q')
theorem Rx{xs:List PV}(d:aS P xs vs)(h:BZ lt xs i j=some b):∃ x y,lt x y=some b∧P x (vs.getD i Value.none)∧P y (vs.getD j Value.none):=by
 have h:(match xs[i]? with | some a=>(match xs[j]? with | some b=>lt a b | none=>none) | none=>none)=some b:=h
 cases q:xs[i]? with
 |none=>rw [q] at h;exact aT h
 |some x=>
  rw [q] at h
  have h:(match xs[j]? with | some b=>lt x b | none=>none)=some b:=h
  cases q':xs[j]? with
  |none=>rw [q'] at h;exact aT h
  |some y=>
   rw [q'] at h
   obtain⟨v,hv,dv⟩:=d.get q
   obtain⟨w,hw,dw⟩:=d.get q'
   exact⟨x,y,h,by rw [LS,hv];exact dv,by rw [LS,hw];exact dw⟩
theorem Xh{ks xs ys:List PV}(h:tH lt ks xs=some ys){P:Prop}(k1:xs.length < 2→ys=xs→P)(k2:∀ p,2≤xs.length→xs.length < 64→vM (BZ lt ks) (zL xs.length)=some p→uI xs p.toList=some ys→P):P:=by
 unfold tH at h
 cases q:bX xs.length 2 with
 |true=>rw [q] at h;obtain rfl:=bO h;exact k1 (Nat.blt_eq.mp q) rfl
 |false=>
  rw [q] at h
  cases q':bX xs.length 64 with
  |false=>rw [q'] at h;exact aT h
  |true=>
   rw [q'] at h
   have h:(match vM (BZ lt ks) (zL xs.length) with | some p=>uI xs p.toList | none=>none)=some ys:=h
   cases q'':vM (BZ lt ks) (zL xs.length) with
   |none=>rw [q''] at h;exact aT h
   |some p=>
    rw [q''] at h
    exact k2 p (Nat.le_of_not_lt fun h=>by rw [Nat.blt_eq.mpr h] at q;exact eP q) (Nat.blt_eq.mp q') q'' h
section
variable{K:KK}{A:aR}{st:St}{z:Z K A st}{α β:Type}{D:Dn α β}{T:aB→WP β}{a:SV}{x:aB}
noncomputable def UL(z:Z K A st)(x:aB)(xs:List PV):Prop:=xs.length≤1000000→∀ {A':aR} {Q:List aB→aG→Prop},A'.handled=none→(∀ h' tk vs,(∀ b o,z.s.heap.get? b=some o→h'.get? b=some o)→bQ K.C z.X xs vs→Q vs {z.s with heap:=h',toks:=tk})→aI (aK K.C.prog K.C.w) A' (collect x) Q nE z.s
theorem aOJ{xs:List PV}(hl:z.s.heap.get? l=some (cC vs ep))(dl:bQ K.C z.X xs vs):UL z (.ref l) xs:=fun hz A' Q _ hQ=>by
 refine collect_list ⟨_,hl,rfl,ep,rfl⟩ (hQ _ z.s.toks vs (fun b o q=> ?_) dl) (by rw [←dl.len];exact gM hz)
 rw [Heap.get?_update_ne _ _ _ _ (qU (mY q))]
 exact gW _ q
theorem aOI(hp:gL kd=false)(ns:(l==rZ)=false)(ho:z.s.heap.get? l=some o)(d:iK K.C kd ks (bQ K.C z.X ks) (bQ K.C z.X vs) o):UL z (.ref l) ks:=fun hz A' Q hA hQ=>by
 obtain⟨vals,_,hl,o',es,ep,ha⟩:=EB hp ho d
 have hlen:(ks.zip vals).length=ks.length:=by rw [←bT,sD hl]
 refine kdu_collect (kdl_dict ns) hA ⟨o',es,ha⟩ (by rw [hlen];exact gM hz) fun h' tk acc hk hacc=>hQ h' tk acc.toList hk (.of_get ks ?_ fun i x v hx hv=> ?_)
 ·exact(hlen)▸(hacc.1)▸Array.length_toList.symm
 ·obtain⟨k,w,e1,e2⟩:=hacc.2 i v ((GD)▸hv)
  have:((ks.zip vals).map (·.1))[i]? =some k:=by rw [iW,e1];rfl
  replace this:=(hx)▸(sD hl)▸this
  obtain rfl:=bO this
  exact((zN hp).mp e2).2
noncomputable def KC(a:SV)(k:List PV→M α):M α:=iI a k (kJ a (fun kd ks _=>gd (!gL kd) (k ks)) er)
theorem QG(e:(!gL kd)=true):gL kd=false:=by cases h:gL kd with
 |false=>rfl
 |true=>rw [h] at e;exact eP e
theorem Go.onSrc(d:z.d dV a x)(h:∀ y xs,UL z y xs→Go z D (T y) (k xs st)):Go z D (T x) (KC a k st):=
 .onL d (fun xs l vs ep hl dl=>h _ xs (aOJ hl dl)) (.onD (T:=T) d (fun kd ks vs l o ns ho dd=>.gd fun e=>h _ ks (aOI (QG e) ns ho dd)) .er)
theorem Z.listC(z:Z K A st){D:Addr}(g:∀ b o,z.s.heap.get? b=some o→h'.get? b=some o)(hD:z.X.W D=none)(ho:h'.get? D=some (cC ws c))(d:bQ K.C z.X ys ws){Q:aB→aG→Prop}(q:∀(z':Z K A ⟨st.loc,st.cells++[.list ys]⟩) x,z.le z'→z'.d dV (.ref st.cells.length) x→Q x z'.s):Q (.ref D) {z.s with heap:=h',toks:=tk}:=
 Go.adC (z:=z.to {z.s with heap:=h',toks:=tk} (z.R.still.to h' tk) g) hD ho (fun l=>.mk ws c (bQ.mono l d)) id _ _ rfl Q fun z' x l d=>q z' x l d
noncomputable def Bz(ys:List PV):M SV:=fun st=>some (.ref st.cells.length,⟨st.loc,st.cells++[.list ys]⟩)
noncomputable def nR(a:SV):M SV:=KC a fun xs=>dQ xs.length (eZ (lS sP xs) fun ls=>eZ (tH FG xs xs) Bz)
theorem aBR(d:aS iU ls vs):∀ v∈vs,∃ b t,v= .bytes b t:=by
 induction ls generalizing vs with
 |nil=>subst d;exact fun _ h=>nomatch h
 |cons l ls ih=>cases d with | mk v ws a as=>cases a with | mk b t=>exact List.forall_mem_cons.mpr ⟨⟨b,t,rfl⟩,ih as⟩
theorem aHY{x y:PV}(h:FG x y=some b)(dx:bF C W x v)(dy:bF C W y w)(q:Q b s):aI (aK prog wd) A (oneLt' true v w) Q E s:=by
 unfold FG at h
 cases e:sP x with
 |none=>rw [e] at h;exact aT h
 |some l=>
  replace h:=(e)▸h
  cases e':sP y with
  |none=>rw [e'] at h;exact aT h
  |some m=>
   rw [e'] at h;obtain rfl:=bO h
   cases MW e;cases MW e'
   obtain⟨b1,t1,rfl,rfl⟩:=wQ dx
   obtain⟨b2,t2,rfl,rfl⟩:=wQ dy
   exact Tw q
theorem KO:jZ K (fun v=>call (.builtin "sorted") [v]) nR:=fun {A st} z a x dx=>
 .onSrc (T:=fun x=>K.wp A (call (.builtin "sorted") [x])) dx fun x xs S=>.fit fun hz=>.onSome fun ls hb=>.onSome fun ys hs r st' e Q q=>by
  obtain⟨rfl,rfl⟩:=gA e
  refine Calls.call_function_entry kind_sorted plain_sorted entry_sorted (args_sorted1 _) ?_
  refine aF (m:=checkCount "sorted" 1 1 _) (bG (aF (S hz (A':=A.in1) z.hA.handled fun h1 tk vs K1 dl=> ?_)))
  have hlen:vs.length≤fR:=by rw [←dl.len];exact gM hz
  refine aF (RP ?_ hlen)
  have hD:z.X.W h1.objs.size=none:=by
   cases e:z.X.W h1.objs.size with
   |none=>rfl
   |some r=>obtain⟨o,ho⟩:=(z.R.val _ _ e).ex;exact absurd (mY (K1 _ _ ho)) (GU _)
  have hoL:(h1.push (fQ "list" vs.toArray 0)).get? h1.objs.size=some (fQ "list" vs.toArray 0):=oA _ rfl
  refine aF (pG (RN slot_list_sort ⟨_,hoL,rfl⟩ entry_list_sort ?_ (args_list_sort _)))
  have fin:∀ h' c ws,lL h1.objs.size (h1.push (fQ "list" vs.toArray 0)) h'→h'.get? h1.objs.size=some (cC ws c)→bQ K.C z.X ys ws→
    (fun fin s'=>∃ v,fin=PySem.Fin.done (.ret v)∧aI (aK K.C.prog K.C.w) A.in1 (ret (.ref h1.objs.size)) (fun fin s'=>∃ v,fin= .done (.ret v)∧Q v s') nE s') (.done (.ret .none)) {z.s with heap:=h',toks:=tk}:=fun h' c ws ex ho d=>
   ⟨_,rfl,bG ⟨_,rfl,z.listC (fun b o e=>ex b o (qU (mY (K1 _ _ e))) (gW _ (K1 _ _ e))) hD ho d q⟩⟩
  refine Xh hs (fun h2 e=> ?_) fun p h2 h64 hrun hp=> ?_
  ·subst e
   exact aOD hoL ((dl.len)▸h2) fun h' c ex ho=>fin h' c vs ex ho dl
  ·rw [dl.len] at h2 h64 hrun
   refine aOB (s:={z.s with heap:=h1.push (fQ "list" vs.toArray 0),toks:=tk}) (κ:=oneType') hoL h2 h64 (fun s' Q' _ hQ=>kas_kind (T:=.type "bytes") h2 (fun v hv=> ?_) rfl (by decide) hQ) (fun s' i j b C' hb' _ hC=> ?_) hrun fun h' c ex ho=>fin h' c _ ex ho (Ud dl _ hp)
   ·obtain⟨b,t,rfl⟩:=aBR (DN Ju xs hb dl) v hv
    exact Looks.of_pure rfl
   ·obtain⟨y,w,q1,d1,d2⟩:=Rx dl hb'
    rw [keyLt'_oneType];exact aHY q1 d1 d2 hC
end
noncomputable def FE(f:Fn):List PV→M (List PV)
 | []=>rt []
 |x::xs=>bd (lV f [.pv x]) fun k=>lK k fun k=>bd (FE f xs) fun ks=>rt (k::ks)
noncomputable def RK{α:Type}(l:List PV)(k:PV→PV→Option α):Option α:=match l with
 | []=>none
 |x::r=>match r with
  | []=>none
  |y::r=>match r with
   | []=>k x y
   |_::_=>none
theorem Yk{α:Type}{l:List PV}{k:PV→PV→Option α}{a:α}(h:RK l k=some a):∃ x y,l= [x,y]∧k x y=some a:=by
 cases l with
 |nil=>exact aT h
 |cons x r=>cases r with
  |nil=>exact aT h
  |cons y r=>cases r with
   |nil=>exact⟨x,y,rfl,h⟩
   |cons=>exact aT h
noncomputable def uD(p:PV):Option (List Nat×Int):=match p with
 |.tup l=>RK l fun x y=>match sP x with
  |some a=>match DP y with
   |some i=>some (a,i)
   |none=>none
  |none=>none
 |_=>none
inductive GG(W:Addr→Option bU):List Nat×Int→aB→Prop
 |mk (a:Addr) (b:Array UInt8) (t:Tok) (i:Int) (u:Tok) (ep:Nat) (hw:W a=some (.fro (mI [.bytes b t,.int i u] ep))):GG W (b.toList.map cJ,i) (.ref a)
theorem Ar{C:Cx}{W:Addr→Option bU}(p:PV)(q:List Nat×Int)(v:aB)(h:uD p=some q)(d:bF C W p v):GG W q v:=by
 cases p with
 |tup l=>
  obtain⟨x,y,rfl,h1⟩:=Yk h
  have h:(match sP x with | some a=>(match DP y with | some i=>some (a,i) | none=>none) | none=>none)=some q:=h1
  cases e:sP x with
  |none=>rw [e] at h;exact aT h
  |some a=>
   replace h:=(e)▸h
   cases e':DP y with
   |none=>rw [e'] at h;exact aT h
   |some i=>
    rw [e'] at h;obtain rfl:=bO h
    cases MW e;cases Iz e'
    cases d with | mk r vs ep hw hl=>
    cases hl with | mk v1 ws d1 hl=>
    cases hl with | mk v2 ws d2 hl=>
    subst hl
    obtain⟨b,t,rfl,rfl⟩:=wQ d1
    cases d2 with | mk u=>exact .mk r b t i u ep hw
 |_=>exact aT h
noncomputable def PX(a b:List Nat×Int):Bool:=match eqL a.1 b.1 with
 |true=>decide (a.2 < b.2)
 |false=>oX a.1 b.1
noncomputable def rR(x y:PV):Option Bool:=match uD x with
 |some a=>match uD y with
  |some b=>some (PX a b)
  |none=>none
 |none=>none
theorem aHj{W:Addr→Option bU}{h:Heap}(fro:∀ a o,W a=some (.fro o)→h.get? a=some o)(l:List (List Nat×Int)):∀ {ws:List aB},aS (GG W) l ws→∃ fs,KatTups h ws fs∧fs.length=ws.length∧∀ v∈fs,∃ b t,v= .bytes b t:=by
 induction l with
 |nil=>intro ws d;subst d;exact⟨[],.nil,rfl,fun _ h=>(nomatch h)⟩
 |cons k l ih=>
  intro ws d
  cases d with | mk w ws a as=>
  cases a with | mk a b t i u ep hw=>
  obtain⟨fs,h1,h2,h3⟩:=ih as
  exact⟨.bytes b t::fs,.cons (fro _ _ hw) rfl rfl rfl h1,congrArg lN h2,List.forall_mem_cons.mpr ⟨⟨b,t,rfl⟩,h3⟩⟩
theorem aHq{prog:iB}{wd:eR}{A:aR}{s:aG}{W:Addr→Option bU}(fro:∀ a o,W a=some (.fro o)→s.heap.get? a=some o){x y:List Nat×Int}{v w:aB}{Q:Bool→aG→Prop}{E:aB→aG→Prop}(dx:GG W x v)(dy:GG W y w)(hq:Q (PX x y) s):
  aI (aK prog wd) A (keyLt' (tuples' true) v w) Q E s:=by
 cases dx with | mk a b1 t i u ep hw=>
 cases dy with | mk a' b2 t' j u' ep' hw'=>
 refine kat_lt (fro _ _ hw) rfl (fro _ _ hw') rfl (kat_cons (eqBool_bytes ?_))
 unfold PX at hq
 cases q:eqL (b1.toList.map cJ) (b2.toList.map cJ) with
 |true=>
  dsimp only at hq
  rw [q] at hq
  rw [decide_eq_true (JK (jL.mp q))]
  refine kat_yes (kat_cons (wpAny_eqBool_int ?_))
  by_cases hij:i=j
  ·subst hij
   rw [beq_self_eq_true]
   refine kat_yes (kat_nil ?_)
   rwa [show decide (i < i)=decide ((#[MP b1 t,Value.int i u]:Array aB).size < (#[MP b2 t',Value.int i u']:Array aB).size) by simp] at hq
  ·refine(beq_eq_false_iff_ne.mpr hij).symm▸?_
   exact kat_no (kat_one _ _ (lt_int hq))
 |false=>
  dsimp only at hq
  rw [q] at hq
  rw [decide_eq_false (fun e:b1.toList=b2.toList=>by rw [e,jL.mpr rfl] at q;exact eP q)]
  exact kat_no (Tw hq)
section
variable{K:KK}{A:aR}{st st':St}{z:Z K A st}{n:Nat}
inductive He(z:Z K A st)(X₀:Xt)(n0:Nat)(f:Fn)(xs ks:List PV)(st':St)(kS a:Addr)(e1:Nat)(i:Nat):aG→Prop
 |mk {st₁:St} (z₁:Z K A st₁) (kA:List aB) (e:Nat) (ds rest:List PV) (l:X₀.le n0 z₁.X st₁.cells.length) (lw:z.X.low st.cells.length z₁.X st₁.cells.length) (hk:z₁.X.W kS=some (.iter (cC kA e))) (hD:z₁.X.W a=some (.iter (cC [] e1))) (dk:bQ K.C z₁.X ds kA) (hm:FE f (xs.drop i) st₁=some (rest,st')) (hds:ds++rest=ks) (hdl:ds.length=i):He z X₀ n0 f xs ks st' kS a e1 i z₁.s
theorem aHu{A':aR}{fa:Addr}{f:Fn}{xs ks:List PV}{vs:List aB}{a kS:Addr}{e1:Nat}{P:AR→aG→Prop}{E:aB→aG→Prop}(hf:RF K.C n fa f)(hA:lG A' n)(hm:FE f xs st=some (ks,st'))(dl:bQ K.C z.X xs vs)(h64:vs.length < 64)
  (hk:z.X.W kS=some (.iter (cC [] 0))) (hD:z.X.W a=some (.iter (cC [] e1))) (hne:kS≠a) {X₀:Xt} {n0:Nat} (l0:X₀.le n0 z.X st.cells.length) (h0:X₀.W kS=none)
  (h:∀(z':Z K A st') kA e,X₀.le n0 z'.X st'.cells.length→z.X.low st.cells.length z'.X st'.cells.length→z'.X.W kS=some (.iter (cC kA e))→z'.X.W a=some (.iter (cC [] e1))→bQ K.C z'.X ks kA→ks.length=xs.length→aI (aK K.C.prog K.C.w) A' (ksk_end a false vs.toArray e1 (.ref kS) kA.toArray) P E z'.s):
  aI (aK K.C.prog K.C.w) A' (ksk_rest a (.ref fa) false vs.toArray e1 (.ref kS)) P E z.s:=by
 refine aF (xW ?_)
 first
  |rw [List.forIn_toArray]
  |(rw [←Array.forIn_toList];simp only [List.toList_toArray])
  |rw [←Array.forIn_toList]
 refine aF (ksk_fold (He z X₀ n0 f xs ks st' kS a e1) vs 0 z.s (.mk z [] 0 [] ks l0 Z.le0.low hk hD rfl hm rfl rfl) ?step ?done)
 case step=>
  intro j x s' hx c
  rw [kL] at c ⊢
  cases c with | mk z₁ kA e ds rest l lw hk hD dk hm hds hdl=>
  have hj:=FH hx
  obtain⟨y,hy⟩:∃ y,xs[j]? =some y:=⟨_,tP (dl.len▸hj)⟩
  obtain⟨v,hv,dv⟩:=dl.get hy
  rw [hx] at hv;obtain rfl:=bO hv
  replace hm:=(XS hy)▸hm
  refine lH hm fun k st₂ q₁ hm=> ?_
  cases k with
  |ref=>exact aT hm
  |pv k=>
   refine lH hm fun ks' st₃ q₂ hm=> ?_
   obtain⟨rfl,rfl⟩:=gA hm
   refine aF (Gf (wpAny_call (NN (IW (z:=z₁) hf hA (show z₁.d dL [.pv y] [x] from .one (bF.mono lw.fro _ _ dv)) _ _ q₁ (fun r s=>aI (aK K.C.prog K.C.w) A' _ _ E s) fun z₂ r l₂ dr=> ?_) fun _ _ h=>h)))
   have hk1:=l₂.iter _ _ hk
   have nk:=z₂.R.val _ _ hk1
   have s1:=sF z₂.s.heap kS (gB (·.push r))
   obtain⟨c2,hc2⟩:∃ c2,(z₂.s.heap.update kS (gB (·.push r))).get? kS=some (cC (kA++[r]) c2):=⟨_,(uQ _ nk rfl).trans (congrArg some (Bk (Hi ..)))⟩
   have hz:kA.toArray.size < 64:=by rw [iE,←dk.len,hdl];exact DE hj h64
   refine aF (BY nk rfl ?_ (vO hz) (aP (dS (Array.size_push ..)) (lC (vO hz))))
   have lp:=(Tr.put (n:=st₂.cells.length) (r:=some (.iter (cC (kA++[r]) c2))) z₂.R.val (.inr ⟨_,hk1⟩) (rH s1) (rQ hc2)).low
   have lo:=l₂.low.trans lp
   exact bG ⟨rfl,.mk (z₂.put kS (some (.iter (cC (kA++[r]) c2))) _ z₂.s.toks (.inr ⟨_,hk1⟩) (rH s1) (rQ hc2)) (kA++[r]) c2 (ds++[k]) ks' (kR (l.trans l₂) h0) (lw.trans lo) kW ((iR hne.symm).trans (l₂.iter _ _ hD)) (aS.app (bQ.mono lo dk) (.one (bF.mono lp.fro _ _ dr))) q₂ (by rw [gP];exact hds) (by rw [fH,hdl];rfl)⟩
 case done=>
  intro s' c
  cases c with | mk z₁ kA e ds rest l lw hk hD dk hm hds hdl=>
  rw [kL] at hm hdl
  replace hm:=(List.drop_length)▸(dl.len).symm▸hm
  obtain⟨rfl,rfl⟩:=gA hm
  rw [gQ] at hds
  subst hds
  try dsimp only
  exact aF (listItems_at (z₁.R.val _ _ hk) rfl (h z₁ kA e l lw hk hD dk (hdl.trans dl.len.symm)))
theorem Xd{s:aG}{st:SortSt}{a kS:Addr}{e e1:Nat}{keys:Array aB}{out:List aB}{P:AR→aG→Prop}{E:aB→aG→Prop}(nk:s.heap.get? kS=some (fQ "list" keys e))(na:s.heap.get? a=some (fQ "list" #[] e1))(hne:kS≠a)(hz:keys.size < 64)(hz2:out.length < 64)
  (hout:(arrOf st).map (·.2)=out.toArray) (hf:failedOf st=none)
  (h:∀ h1 h2 c,lL kS s.heap h1→lL a h1 h2→h2.get? a=some (fQ "list" out.toArray c)→P (.done (.ret .none)) {s with heap:=h2}):
  aI (aK K.C.prog K.C.w) A (ksk_tail a false e1 (.ref kS) st) P E s:=by
 have s1:=sF s.heap kS (gB fun _=>(#[]:Array aB))
 have na1:(s.heap.update kS (gB fun _=>(#[]:Array aB))).get? a=some (fQ "list" #[] e1):=(s1.2 a hne.symm).trans na
 have s2:=sF (s.heap.update kS (gB fun _=>(#[]:Array aB))) a (gB fun _=>out.toArray)
 obtain⟨c2,hc2⟩:∃ c2,((s.heap.update kS (gB fun _=>(#[]:Array aB))).update a (gB fun _=>out.toArray)).get? a=some (fQ "list" out.toArray c2):=
  ⟨_,IT na1 fun _=>out.toArray⟩
 unfold ksk_tail
 try dsimp only
 refine aF (BY nk rfl ?_ (vO hz) (jS _))
 refine aF (wpAny_letGo ?_)
 refine aF (KR na1 rfl ?_)
 rw [hout]
 simp only [GH,if_false]
 refine aF (BY na1 rfl ?_ (jS _) (GS (vO hz2)))
 rw [hf]
 simp only [bne_self_eq_false,GH,if_false]
 exact bG (h _ _ c2 (fun b o hb ho=>(s1.2 b hb).trans ho) (fun b o hb ho=>(s2.2 b hb).trans ho) hc2)
end
section
variable{K:KK}{A:aR}{st st':St}{z:Z K A st}{n:Nat}
theorem aHZ{x y:PV}{b:Bool}(h:rR x y=some b):∃ p q,uD x=some p∧uD y=some q∧b=PX p q:=by
 unfold rR at h
 cases e:uD x with
 |none=>rw [e] at h;exact aT h
 |some p=>
  rw [e] at h
  cases e':uD y with
  |none=>rw [e'] at h;exact aT h
  |some q=>rw [e'] at h;obtain rfl:=bO h;exact⟨p,q,rfl,rfl,rfl⟩
theorem aOz{A':aR}{a kS:Addr}{e e1:Nat}{kv vs:List aB}{ks xs ys:List PV}{l:List (List Nat×Int)}{P:AR→aG→Prop}{E:aB→aG→Prop}(nk:z.s.heap.get? kS=some (cC kv e))(na:z.s.heap.get? a=some (cC [] e1))(hne:kS≠a)(h64:vs.length < 64)
  (dk:bQ K.C z.X ks kv) (dl:bQ K.C z.X xs vs) (hlen:kv.length=vs.length) (hall:lS uD ks=some l) (hs:tH rR ks xs=some ys)
  (h:∀ h1 h2 c out,lL kS z.s.heap h1→lL a h1 h2→h2.get? a=some (cC out c)→bQ K.C z.X ys out→P (.done (.ret .none)) {z.s with heap:=h2}):
  aI (aK K.C.prog K.C.w) A' (ksk_end a false vs.toArray e1 (.ref kS) kv.toArray) P E z.s:=by
 have hz:kv.toArray.size < 64:=by rw [iE,hlen];exact h64
 unfold ksk_end
 dsimp only [GH,if_false]
 refine Xh hs (fun hlt e=> ?_) fun p h2 _ hrun hp=> ?_
 ·subst e
  have h2:vs.toArray.size < 2:=by rw [iE,←dl.len];exact hlt
  rw [if_pos h2,if_pos h2]
  refine aF (bG ?_)
  rw [StateT.run_pure]
  refine aF (bG ?_)
  refine Xd nk na hne hz h64 ?_ rfl fun h1 h2 c x1 x2 x3=>h h1 h2 c vs x1 x2 x3 dl
  show(kv.toArray.zip vs.toArray).map (·.2)=vs.toArray
  apply Array.toList_inj.mp
  simp [List.map_snd_zip,hlen]
 ·rw [dl.len] at h2 hrun
  have hn2:¬vs.toArray.size < 2:=by rw [iE];exact Nat.not_lt.mpr h2
  rw [if_neg hn2,if_neg hn2]
  obtain⟨fs,t1,t2,t3⟩:=aHj z.froG l (DN Ar ks hall dk)
  refine aF (kat_kind (T:=.type "bytes") t1 (by rw [t2,hlen];exact AN Nat.zero_lt_two h2) (fun v hv=> ?_) rfl ?_)
  ·obtain⟨b,t,rfl⟩:=t3 v hv
   exact Looks.of_pure rfl
  ·have hT:(HK "bytes" != HK "tuple")=true:=rfl
   refine(hT).symm▸?_
   have ask:(zL vs.length).kasWp (kas_ask K.C.prog K.C.w A' (tuples' true) kv) (fun q s'=>q=p∧s'=z.s) z.s:=
    Aq (I:=fun s'=>s'=z.s) (fun i j b C' s' hb hs' hC=>by
     subst hs'
     obtain⟨x,y,hxy,d1,d2⟩:=Rx dk hb
     obtain⟨p1,p2,e1,e2,rfl⟩:=aHZ hxy
     exact aHq z.froG (Ar _ _ _ e1 d1) (Ar _ _ _ e2 d2) (hC _ rfl)) hrun rfl fun s' hs'=>⟨rfl,hs'⟩
   refine aF (nV (kat_run (Q:=fun st' s'=>∃ q:Array Nat,q.size=vs.length∧arrOf st'=q.map (kas_item (kv.toArray.zip vs.toArray))∧failedOf st'=none∧q=p∧s'=z.s)
    hlen h2 h64 (fun p' st' s' a1 a2 a3 a4=>⟨p',a1,a2,a3,a4⟩) ask) ?_ fun _ _ e=>e)
   rintro⟨⟨⟩,st'⟩ s' ⟨q,hq,har,hf,rfl,rfl⟩
   exact Xd nk na hne hz (by rw [bT,qB,hq];exact h64) (kat_snds hlen har) hf fun h1 h2 c x1 x2 x3=>h h1 h2 c _ x1 x2 x3 (Ud dl _ hp)
noncomputable def CO(f:Fn)(a:SV):M SV:=KC a fun xs=>gd (bX xs.length 60) (bd (FE f xs) fun ks=>eZ (lS uD ks) fun _=>eZ (tH rR ks xs) Bz)
theorem Tv{α β:Type}{o:Option α}{k:α→M β}{r:β×St}(e:eZ o k st=some r){P:Prop}(h:∀ x,o=some x→k x st=some r→P):P:=by
 cases o with
 |none=>exact aT e
 |some x=>exact h x rfl e
theorem aHr{A':aR}{fa:Addr}{f:Fn}{xs ks ys:List PV}{l:List (List Nat×Int)}{vs:List aB}{H1:Heap}{D:Addr}{tk:Nat}{P:AR→aG→Prop}{Q:aB→aG→Prop}{E:aB→aG→Prop}(hf:RF K.C n fa f)(hA:lG A' n)(K2:∀ b o,z.s.heap.get? b=some o→H1.get? b=some o)(D0:z.X.W D=none)(hoL:H1.get? D=some (cC vs 0))(dl:bQ K.C z.X xs vs)(h60:vs.length < 60)
  (hm:FE f xs st=some (ks,st')) (hall:lS uD ks=some l) (hs:tH rR ks xs=some ys) (q:∀(z':Z K A ⟨st'.loc,st'.cells++[.list ys]⟩) x,z.le z'→z'.d dV (.ref st'.cells.length) x→Q x z'.s) (hD:∀ b o,z.s.heap.get? b=some o→b≠D) (hP:∀ s',Q (.ref D) s'→P (.done (.ret .none)) s'):
  aI (aK K.C.prog K.C.w) A' (Builtin.«list.sort» ⟨[.ref D],[(uY "key",.ref fa)]⟩) P E {z.s with heap:=H1,toks:=tk}:=by
 have h64:vs.length < 64:=DE h60 (bR rfl)
 have hz:vs.length≤fR:=vO h64
 rw [ksk_t1]
 have s1:=sF H1 D (gB fun _=>(#[]:Array aB))
 obtain⟨e1,ho1⟩:∃ e1,(H1.update D (gB fun _=>(#[]:Array aB))).get? D=some (fQ "list" #[] e1):=⟨_,IT hoL fun _=>#[]⟩
 refine aF (listItems_at hoL rfl (aF (BY hoL rfl ?_ (by rw [iE];exact hz) (jS _))))
 refine aF (KR ho1 rfl (aF (wpAny_newTuple (aF (RP (pG ?_) (jS _))) hz)))
 have K3:∀ b o,z.s.heap.get? b=some o→((H1.update D (gB fun _=>(#[]:Array aB))).push (fQ "tuple" vs.toArray 0)).get? b=some o:=fun b o e=>gW _ ((s1.2 b (hD b o e)).trans (K2 _ _ e))
 have hDH:((H1.update D (gB fun _=>(#[]:Array aB))).push (fQ "tuple" vs.toArray 0)).get? D=some (cC [] e1):=gW _ ho1
 show aI _ _ (ksk_rest D (.ref fa) false vs.toArray e1 (.ref ((H1.update D (gB fun _=>(#[]:Array aB))).push (fQ "tuple" vs.toArray 0)).objs.size)) _ _ {z.s with heap:=((H1.update D (gB fun _=>(#[]:Array aB))).push (fQ "tuple" vs.toArray 0)).push (fQ "list" #[] 0),toks:=tk}
 generalize (H1.update D (gB fun _=>(#[]:Array aB))).push (fQ "tuple" vs.toArray 0)=H2 at K3 hDH ⊢
 have hne:H2.objs.size≠D:=(qU (mY hDH)).symm
 have hK:z.X.W H2.objs.size=none:=by
  cases e:z.X.W H2.objs.size with
  |none=>rfl
  |some r=>obtain⟨o,ho⟩:=(z.R.val _ _ e).ex;exact absurd (mY (K3 _ _ ho)) (GU _)
 have hoK:(H2.push (cC [] 0)).get? H2.objs.size=some (cC [] 0):=oA _ rfl
 have hoD:(H2.push (cC [] 0)).get? D=some (cC [] e1):=gW _ hDH
 have lX:z.X.le st.cells.length ((z.X.put D (some (.iter (cC [] e1)))).put H2.objs.size (some (.iter (cC [] 0)))) st.cells.length:=kR (kR (.refl ..) D0) hK
 refine aHu (z:=((z.to {z.s with heap:=H2.push (cC [] 0),toks:=tk} (z.R.still.to _ _) fun b o e=>gW _ (K3 b o e)).put D (some (.iter (cC [] e1))) (H2.push (cC [] 0)) tk (.inl D0) (fun _ _ _ e=>e) (rQ hoD)).put H2.objs.size (some (.iter (cC [] 0))) (H2.push (cC [] 0)) tk (.inl ((iR hne).trans hK)) (fun _ _ _ e=>e) (rQ hoK))
  (X₀:=z.X) hf hA hm (bQ.mono lX.low dl) h64 kW ((iR hne.symm).trans kW) hne lX hK fun z' kA e l low hk hDZ dk hlen=> ?_
 refine aOz (z:=z') (z'.R.val _ _ hk) (z'.R.val _ _ hDZ) hne h64 dk (bQ.mono (lX.low.trans low) dl) (by rw [←dk.len,hlen,dl.len]) hall hs fun h2 h3 c out x1 x2 x3 do'=>hP _ ?_
 have hD1:(z'.X.put H2.objs.size none).W D=some (.iter (cC [] e1)):=(iR hne.symm).trans hDZ
 have l1:=(Tr.put (n:=st'.cells.length) (r:=none) z'.R.val (.inr ⟨_,hk⟩) x1 sW).low
 have l2:=(Tr.put (n:=st'.cells.length) (r:=none) (z'.put H2.objs.size none h2 z'.s.toks (.inr ⟨_,hk⟩) x1 sW).R.val (.inr ⟨_,hD1⟩) x2 sW).low
 exact((z'.put H2.objs.size none h2 z'.s.toks (.inr ⟨_,hk⟩) x1 sW).put D none h3 z'.s.toks (.inr ⟨_,hD1⟩) x2 sW).listC (tk:=z'.s.toks) (fun _ _ e=>e) kW x3 (bQ.mono (l1.trans l2) do') fun z'' x l' d=>q z'' x (Xt.le.trans (kR (kR l hK) D0) l') d
theorem aMb(hA:lG A (n+1)):lG A.in1.in1 n:=⟨hA.handled,(hA.mono (oG n)).depth,aP (lM (rm (k:=2) (bR rfl)) 200) hA.units⟩
theorem aGt{fa:Addr}{f:Fn}{a:SV}{x:aB}(hn:n+1≤K.n)(hf:RF K.C n fa f)(dx:z.d dV a x):Go z dV (K.wp A (call (.builtin "sorted") [x] [(uY "key",.ref fa)])) (CO f a st):=
 .onSrc (T:=fun x=>K.wp A (call (.builtin "sorted") [x] [(uY "key",.ref fa)])) dx fun x xs S=>.gd fun hz r st' e Q q=>by
  refine lH e fun ks st₁ hm e=>Tv e fun l hall e=>Tv e fun ys hs e=> ?_
  obtain⟨rfl,rfl⟩:=gA e
  have hz':xs.length < 60:=Nat.blt_eq.mp hz
  refine call_function_entry_kw kind_sorted plain_sorted entry_sorted (ksk_s1 _ _) ?_
  refine aF (m:=checkCount "sorted" 1 1 _) (bG (aF (S (aP (DD hz') (bR rfl)) (A':=A.in1) z.hA.handled fun h1 tk vs K1 dl=> ?_)))
  have h60:vs.length < 60:=by rw [←dl.len];exact hz'
  refine aF (RP ?_ (vO (DE h60 (bR rfl))))
  have hoL:(h1.push (fQ "list" vs.toArray 0)).get? h1.objs.size=some (fQ "list" vs.toArray 0):=oA _ rfl
  have D0:z.X.W h1.objs.size=none:=by
   cases e:z.X.W h1.objs.size with
   |none=>rfl
   |some r=>obtain⟨o,ho⟩:=(z.R.val _ _ e).ex;exact absurd (mY (K1 _ _ ho)) (GU _)
  refine aF (pG (wpAny_call_entry_kw slot_list_sort ⟨_,hoL,rfl⟩ entry_list_sort ?_ (ksk_l1 _ _)))
  exact aHr (A':=A.in1.in1) hf (aMb (z.hA.mono hn)) (fun b o e=>gW _ (K1 _ _ e)) D0 hoL dl h60 hm hall hs q (fun b o e=>qU (mY (K1 _ _ e))) fun s' h=>⟨_,rfl,bG ⟨_,rfl,h⟩⟩
noncomputable def Gp:Expr→List Keyword
 |.Call _ _ ks _=>ks
 |_=>[]
noncomputable def ZV:List Keyword→Keyword
 |k::_=>k
 | []=>⟨none,dT [],default⟩
noncomputable def UG{fa:Addr}{f:Fn}(i j:Nat)(g:Gl K.C (nm K.sl i) (.builtin "sorted"))(gf:Gl K.C (nm K.sl j) (.ref fa))(hf:RF K.C n fa f)(a:PE K)(hn:n+1≤K.n:=by exact bR rfl)(h:eI K.sl i .globalImplicit=true:=by rfl)(h':eI K.sl j .globalImplicit=true:=by rfl):PE K:=
 ⟨bd a.m (CO f),fun e=>.Call (.Name (nm K.sl i) (xq e)) [a.r (dT (xs e))] [⟨some (uY "key"),.Name (nm K.sl j) (ZV (Gp e)).value.pos,(ZV (Gp e)).pos⟩] e.pos,2,fun _=>rfl,fun e A st z=>
  (a.ok _ z).ru (u:=fun x Q s=>K.wp A (eval (.Name (nm K.sl j) (ZV (Gp e)).value.pos) K.env) (fun f=>K.wp A (call (.builtin "sorted") [x] [(uY "key",f)]) Q) s) (fun Q q=>wpAny_Call_Name_kw (nX h g (callWith_kw (he:=FX a _ _) (hplain:=by rw [FX a];rfl) (by rw [FX a];exact xY (fX q fun _ _ q=>SH (kws_cons (fX q fun _ _ q=>kws_nil q))))))) fun z₁ l₁ dx=>(aGt hn hf dx).imp fun Q q=>nX h' gf q⟩
end
section
variable{K:KK}{A:aR}{st st':St}{z:Z K A st}{n:Nat}
noncomputable def KY(l:List Nat):List PV:=l.map fun c=>.str [c]
theorem Wv{x:Str}{i:Nat}{cells:List SO}{r:Option PV}(h:lJ (KY x.cps.toList) cells i=some r):r=(x.cps[i]?).map fun c=>.str [c]:=by
 have h:=bO h
 unfold KY at h
 rw [iW,GD] at h;exact h.symm
theorem aGZ{C:Cx}{x:Str}{t:Tok}{it:Addr}:pJ C it (lJ (KY x.cps.toList)) (BS "str_ascii_iterator" (.str x t)) (fun _ _=>True) where
 mono _ _:=trivial
 item y ok ho hp hx hq:=by
  obtain⟨c,hc,e⟩:=Option.map_eq_some_iff.mp (Wv hx).symm
  subst e
  exact wpAny_pyNext_ascii_item (hp.at ho) (c:=c) hc fun h' ⟨o',ho',hc',hd'⟩ sb=>hq _ h' o' _ (lQ.mk ⟨#[c]⟩ _) sb ho' ⟨hc',hd'⟩
 fin y hh ok ho hp hx hq:=wpAny_pyNext_ascii_end hh (hp.at ho) (Option.map_eq_none_iff.mp (Wv hx).symm) fun h' ex=>hq h' _ ex
 self ho hp hq:=wpAny_pyIter_striter_ascii (hp.at ho) hq
 lets ho hp hq:=BX ho hp.1 (by kernel_rfl) hq
noncomputable def DO:List Nat→Bool
 | []=>true
 |c::cs=>match bX c 128 with
  |true=>DO cs
  |false=>false
theorem aAR(l:List Nat)(h:DO l=true):l.all (· < 128)=true:=by
 induction l with
 |nil=>rfl
 |cons c cs ih=>
  have h:(match bX c 128 with | true=>DO cs | false=>false)=true:=h
  cases q:bX c 128 with
  |false=>rw [q] at h;exact eP h
  |true=>rw [q] at h;rw [List.all_cons,decide_eq_true (Nat.blt_eq.mp q),ih h];rfl
noncomputable def sgL(l:List Nat):Option (List PV):=match DO l with
 |true=>some (KY l)
 |false=>none
noncomputable def Ql(_:St):SV→Option (List PV)
 |.pv (.str l)=>sgL l
 |_=>none
theorem aLY:kD K Ql:=fun z a x xs hf d Q q=>by
 cases a with
 |ref=>exact aT hf
 |pv p=>cases p with
  |str l=>
   cases d with | mk x t=>
   have hf:(match DO x.cps.toList with | true=>some (KY x.cps.toList) | false=>none)=some xs:=hf
   cases h:DO x.cps.toList with
   |false=>rw [h] at hf;exact aT hf
   |true=>rw [h] at hf;obtain rfl:=bO hf;exact wpAny_pyIter_ascii ((Array.all_toList)▸aAR _ h) (CH z rfl aGZ ⟨rfl,rfl⟩ trivial q)
  |_=>exact aT hf
noncomputable def aGP(d:Addr)(k ep:Nat)(i:Nat)(o:Obj):Prop:=o.cls= .type "dict_keyiterator"∧o.data= .fields #[.ref d,.int i 0,.int k 0,.int ep 0]
theorem aGW{C:Cx}{kd:KD}(hp:gL kd=false){d it:Addr}{o:Obj}{kvs:List (PV×aB)}{ep:Nat}(hat:∀ h:Heap,h.get? d=some o→h.DictAt (kk C kd) d kvs ep):pJ C it (lJ (kvs.map (·.1))) (aGP d kvs.length ep) (fun X _=>X.W d=some (.fro o)) where
 mono l h:=l.fro _ _ h
 item y ok ho hp' hx hq:=by
  have hx:=bO hx
  replace hx:=(iW)▸hx
  obtain⟨p,q,rfl⟩:=Option.map_eq_some_iff.mp hx
  exact wpAny_pyNext_dict_item ⟨_,ho,hp'.1,hp'.2⟩ (hat _ (y.R.val _ _ ok)) (k:=p.1) (v:=p.2) q fun key h' hk ⟨o',ho',hc',hd'⟩ sb=>hq _ h' o' _ ((zN hp).mp hk).2 sb ho' ⟨hc',hd'⟩
 fin y hh ok ho hp' hx hq:=by
  have hx:=bO hx
  rw [iW] at hx
  exact wpAny_pyNext_dict_end hh ⟨_,ho,hp'.1,hp'.2⟩ (hat _ (y.R.val _ _ ok)) (Option.map_eq_none_iff.mp hx) fun h' ex=>hq h' _ ex
 self ho hp hq:=wpAny_pyIter_keyiter ⟨_,ho,hp.1,hp.2⟩ hq
 lets ho hp hq:=BX ho hp.1 (by kernel_rfl) hq
noncomputable def kyL(kd:KD)(ks:List PV):Option (List PV):=match gL kd with
 |false=>some ks
 |true=>none
noncomputable def Qj(_:St):SV→Option (List PV)
 |.pv (.dct kd ks _)=>kyL kd ks
 |_=>none
theorem aLV:kD K Qj:=fun z a x xs hf d Q q=>by
 cases a with
 |ref=>exact aT hf
 |pv p=>cases p with
  |dct kd ks vs=>
   have hf:(match gL kd with | false=>some ks | true=>none)=some xs:=hf
   cases hp:gL kd with
   |true=>rw [hp] at hf;exact aT hf
   |false=>
    rw [hp] at hf;cases hf
    cases d with | mk l o hw ns dd=>
    rw [iH,iH] at dd
    have hob:=z.R.val _ _ hw
    obtain⟨vals,_,hl,o',es,ep,ho',rest⟩:=EB (hp:=z.s.heap) hp hob dd
    cases bO ((hob:z.s.heap.get? l=some o).symm.trans ho')
    have I:=aGW (it:=sz z) hp (d:=l) (o:=o) (kvs:=xs.zip vals) (ep:=ep) fun h e=>⟨o,es,e,rest⟩
    replace I:=(sD hl)▸I
    exact wpAny_pyIter_dict ns ⟨o,es,hob,rest⟩ (CH z rfl I ⟨rfl,rfl⟩ hw q)
  |_=>exact aT hf
noncomputable def Ad(a:SV):M SV:=kU a (fun _=>rt (.pv (.bool true))) er
noncomputable def Af(a:SV):M SV:=kU a (fun _=>rt (.pv (.bool false))) er
theorem Xl:isSubtype (.type "bytes") (.type "str")=pure false:=by rw [qH];kernel_rfl
theorem aOX:isSubtype (.type "bytes") (.type "bytes")=pure true:=by rw [qH];kernel_rfl
theorem aAW{b:Array UInt8}{t:Tok}:AnswersAll (fun s=>s.TypeIs (.bytes b t) "bytes") (.bytes b t) [.type "bytes",.type "str"] [true,false]:=
 ⟨.of_true F.isi_meta_bytes aOX,⟨fun _ _ _ _ _ _ s hs=>by
  obtain⟨h,g,d,t,os⟩:=s
  exact isinstance_nested_false_bytes (by decide) F.isi_meta_str Xl (hs.2 (t+1)),trivial⟩⟩
noncomputable def EY(K:KK)(A:aR)(e:Expr)(x:aB):WP aB:=fun Q s=>K.wp A (eval e K.env) (fun y=>K.wp A (call (.builtin "isinstance") [x,y]) Q) s
theorem aGn{k:Nat}{p:Pos}{a:SV}{x:aB}(gs:Gl K.C (nm K.sl k) (.type "str"))(h:eI K.sl k .globalImplicit=true)(dx:z.d dV a x):Go z dV (EY K A (.Name (nm K.sl k) p) x) (Af a st):=
 .onB (T:=EY K A (.Name (nm K.sl k) p)) dx (fun b t=>.ret (z.tok (z.s.toks+1)) (x:=.bool false) Z.le0 rfl fun Q q=>nX h gs (call_isinstance (S:=fun _ R s=>R (.ok (.ret (.bool false))) {s with toks:=s.toks+1}) (fun _ _ _ _ s hs=>by
  obtain⟨h,g,d,t,os⟩:=s
  exact isinstance_outer (isinstance_nested_false_bytes (by decide) F.isi_meta_str Xl hs)) q)) .er
theorem aGm{j k:Nat}{p q tp:Pos}{tk:Nat}{a:SV}{x:aB}(gb:Gl K.C (nm K.sl j) (.type "bytes"))(gs:Gl K.C (nm K.sl k) (.type "str"))(h:eI K.sl j .globalImplicit=true)(h':eI K.sl k .globalImplicit=true)(dx:z.d dV a x):Go z dV (EY K A (.Tuple [.Name (nm K.sl j) p,.Name (nm K.sl k) q] tk tp) x) (Ad a st):=
 .onB (T:=EY K A (.Tuple [.Name (nm K.sl j) p,.Name (nm K.sl k) q] tk tp)) dx (fun b t=>.on fun Q hq=>wpAny_Tuple (xY (nX h gb (xY (nX h' gs (SH ⟨bR rfl,call_isinstance (isinstance_tuple aAW) ⟨iJ _ _ _,oA _ rfl,fun tk=>hq _ _ rfl (z.push (mI [.type "bytes",.type "str"] 0) tk) (.bool true) Z.le0 rfl⟩⟩)))):aI (aK K.C.prog K.C.w) A (pX [(false,eval (.Name (nm K.sl j) p) K.env),(false,eval (.Name (nm K.sl k) q) K.env)]) _ nE z.s)) .er
noncomputable def aAB(i k:Nat)(g:Gl K.C (nm K.sl i) (.builtin "isinstance"))(gs:Gl K.C (nm K.sl k) (.type "str"))(a:PE K)(h:eI K.sl i .globalImplicit=true:=by rfl)(h':eI K.sl k .globalImplicit=true:=by rfl):PE K:=
 ⟨bd a.m Af,fun e=>.Call (.Name (nm K.sl i) (xq e)) [a.r (dT (xs e)),.Name (nm K.sl k) (hd2 (xs e)).pos] [] e.pos,2,fun _=>rfl,fun e A _ z=>
  (a.ok _ z).ru (u:=EY K A (.Name (nm K.sl k) (hd2 (xs e)).pos)) (fun Q q=>xX (congrArg (gF _) (rY (a.hc _) _)) (nX h g (NH q))) fun z₁ l₁ dx=>aGn gs h' dx⟩
noncomputable def aAA(i j k:Nat)(g:Gl K.C (nm K.sl i) (.builtin "isinstance"))(gb:Gl K.C (nm K.sl j) (.type "bytes"))(gs:Gl K.C (nm K.sl k) (.type "str"))(a:PE K)(h:eI K.sl i .globalImplicit=true:=by rfl)(h':eI K.sl j .globalImplicit=true:=by rfl)(h'':eI K.sl k .globalImplicit=true:=by rfl):PE K:=
 ⟨bd a.m Ad,fun e=>.Call (.Name (nm K.sl i) (xq e)) [a.r (dT (xs e)),.Tuple [.Name (nm K.sl j) (dT (xs (hd2 (xs e)))).pos,.Name (nm K.sl k) (hd2 (xs (hd2 (xs e)))).pos] (xk (hd2 (xs e))) (hd2 (xs e)).pos] [] e.pos,2,fun _=>rfl,fun e A _ z=>
  (a.ok _ z).ru (u:=EY K A (.Tuple [.Name (nm K.sl j) (dT (xs (hd2 (xs e)))).pos,.Name (nm K.sl k) (hd2 (xs (hd2 (xs e)))).pos] (xk (hd2 (xs e))) (hd2 (xs e)).pos)) (fun Q q=>xX (congrArg (gF _) (rY (a.hc _) _)) (nX h g (NH q))) fun z₁ l₁ dx=>aGm gb gs h' h'' dx⟩
noncomputable def Iy(p:PV):Option Bool:=match p with
 |.bool b=>some b
 |_=>none
theorem aBI{C:Cx}{W:Addr→Option bU}(p:PV)(b:Bool)(v:aB)(h:Iy p=some b)(d:bF C W p v):Value.bool b=v:=by
 cases p <;> first | exact(bO h)▸d | exact aT h
noncomputable def WI:List Bool→Bool
 | []=>false
 |b::r=>match b with
  |true=>true
  |false=>WI r
theorem aBa(bs:List Bool):(uT bs.length).any (fun i=>bs.getD i false)=WI bs:=by
 induction bs with
 |nil=>rfl
 |cons b bs ih=>
  rw [tQ,Hj,List.any_cons,List.any_map,show((fun i=>(b::bs).getD i false)∘lN)=fun i=>bs.getD i false from rfl,ih]
  cases b <;> rfl
noncomputable def MV(a:SV):M SV:=match a with
 |.pv (.lst xs)=>eZ (lS Iy xs) fun bs=>rt (.pv (.bool (WI bs)))
 |_=>er
theorem aLh:jZ K (fun v=>call (.builtin "any") [v]) MV:=fun {A st} z a x dx=>by
 cases a with
 |ref=>exact .er
 |pv p=>cases p with
  |lst xs=>
   cases dx with | mk l vs ep hw hl=>
   rw [iH] at hl
   refine .onSome fun bs hb=>.on fun Q q=> ?_
   have ds:=DN aBI xs hb hl
   have ho:=z.R.val _ _ hw
   refine call_any_walk (Gi ⟨_,ho,rfl,_,rfl⟩ ⟨_,_,_,_,_,_,fun i=>bs.getD i false,rfl,Walks.list (A:=A.in1) z.hA.handled z.s.heap.objs.size l (qU (mY ho)) vs.toArray,⟨⟨_,oA _ rfl,rfl,rfl⟩,⟨_,gW _ ho,rfl,_,rfl⟩⟩,?_,?_⟩)
   ·intro i v s' Q' E' hP hQ
    have hv:vs[i]? =some v:=by simpa using hP
    obtain⟨b,hb⟩:∃ b,bs[i]? =some b:=⟨_,tP (by rw [ds.len];exact FH hv)⟩
    obtain⟨v',hv',e⟩:=ds.get hb
    rw [hv] at hv';obtain rfl:=bO hv';subst e
    have hQ':Q' (bs.getD i false) s':=hQ
    rw [LS,hb] at hQ'
    exact uM hQ'
   ·intro h' tk hk
    rw [show vs.toArray.size=bs.length from by rw [iE,ds.len],aBa]
    exact q _ _ rfl (z.to _ (z.R.still.to h' tk) fun b o e=>hk b o (by simp;exact qU (mY e)) (gW _ e)) (.bool _) Z.le0 rfl
  |_=>exact .er
end
section
variable{prog:iB}{w:eR}{A:aR}{E:aB→aG→Prop}{s:aG}
theorem aFZ{a:Addr}{xs:Array aB}{k:Nat}{name:Str}{Q:Option aB→aG→Prop}
  (hx:s.heap.get? a=some {cls:=.type "list",data:=.seq xs k}) (hmiss:xV (.type "list") name=pure none) (hname:(["__module__","__name__","__qualname__","__doc__","__annotations__"]:List Str).contains name=false) (hA:A.handled=none)
  (h:∀ h' tk,(∀ b o,s.heap.get? b=some o→h'.get? b=some o)→Q none {s with heap:=h',toks:=tk}) (hsz:name.length+100≤fR:=by size_fits):
  aI (aK prog w) A (getAttr? (.ref a) name) Q E s:=by
 obtain⟨hp,g,d,tk,os⟩:=s
 have hT:∀ tk',(⟨hp,g,d,tk',os⟩:aG).TypeIs (.ref a) "list":=fun _=>⟨_,hx,rfl⟩
 have f1:=sub_AttributeError
 have f3:=F.slot_list_getattribute.lookup
 have f4:=F.slot_list_getattribute.bind (.ref a)
 have f5:=am_list_getattr_none
 have key:∀ tk t,aI (aK prog w) A (getAttrBy (.ref a) (.str name t) false) (fun _ _=>False) (fun e s'=>∃ e' h' tk',e= .ref e'∧s'=⟨h',g,d,tk',os⟩∧Heap.NewExcOf hp h' e' "AttributeError") ⟨hp,g,d,tk,os⟩:=by
  intro tk t
  unfold getAttrBy
  repeat (any_goals (first | assumption | exact hT _ | ((with_reducible show aI _ _ (call (Value.builtin "list.__getattribute__") _ _) _ _ _);refine mQ F.slot_list_getattribute (hT _) am_entry_list_getattribute (F.args_list_getattribute_2 _ _) (meets_getattribute_miss_list a xs k #[] name _ hmiss hname hsz) ⟨hx,hA,fun h' tk' e hx'=> ?_⟩) | wp_step))
  obtain⟨t',u',he⟩:=hx'.there
  unfold getattributeRaised
  repeat (any_goals (first | assumption | wp_step))
  exact⟨_,_,_,rfl,rfl,hx'.of⟩
 refine aF (wpAny_mkText (aF (Gf (nV (key _ _) (fun _ _ x=>x.elim) ?_))))
 rintro e s' ⟨e',h',tk',rfl,rfl,hn⟩
 obtain⟨ob,vs,he,hc,_⟩:=hn.there
 refine aF (RO (T:="AttributeError") (b:=true) ⟨_,he,hc⟩ f1 ?_)
 exact bG (h _ _ hn.keeps)
end
theorem QO:plainId "dict.update.loop"=true:=by kernel_rfl
theorem Mg:rG table "dict.update.loop"=some Builtin.«dict.update.loop»:=wX (by kernel_rfl)
theorem aHM:xV (.type "list") "keys"=pure none:=by rw [mJ,lU];kernel_rfl
section
variable{K:KK}{A:aR}{st st':St}{z:Z K A st}{n:Nat}
theorem JN:mL "dict" "items" "dict.items":=⟨Gy,F.slot_dict_items,F.type_dict_items⟩
noncomputable def qI(a:SV):M SV:=match a with
 |.pv (.dct kd ks vs)=>gd (!gL kd) (rt (.pv (.itv kd ks vs)))
 |_=>er
theorem KL:jZ K (fun x=>call (.builtin "dict.items") [x]) qI:=fun {A st} z a x dx=>by
 cases a with
 |ref=>exact .er
 |pv p=>cases p with
  |dct kd ks vs=>
    refine .gd fun hp=> ?_
    have hp:=QG hp
    cases dx with | mk l o hw ns dd=>
    obtain⟨vals,_,_,hd⟩:=EB (hp:=z.s.heap) (W:=z.X.W) (P:=bF K.C z.X.W) hp (z.R.val _ _ hw) (by rw [iH,iH] at dd;exact dd)
    exact .fro _ z.s.toks (fun le e=>AH.mk (p:=tN _ (iK _ kd ks (DenL _ _ ks) (DenL _ _ vs))) _ l e (bF.mono le (.dct kd ks vs) _ (tN.mk (p:=iK _ kd ks (DenL _ _ ks) (DenL _ _ vs)) l o hw ns dd))) fun Q q=>
     NI F.slot_dict_items hd.typeIs F.entry_dict_items (F.args_dict_items_1 _) (meets_dict_items (kk K.C kd) l ns) ⟨⟨_,hd⟩,q⟩
  |_=>exact .er
noncomputable def Xt.adopt(X:Xt)(h:Heap)(as:List Addr):Xt:=⟨fun b=>match decide (b∈as) with
 |true=>(h.get? b).map .fro
 |false=>X.W b,X.ρ,X.δ⟩
theorem Im{X:Xt}{h:Heap}{as:List Addr}{a:Addr}(ha:a∈as):(X.adopt h as).W a=(h.get? a).map .fro:=by
 show(match decide (a∈as) with | true=>_ | false=>_)=_;rw [decide_eq_true ha]
theorem WG{X:Xt}{h:Heap}{as:List Addr}{a:Addr}(ha:a∉as):(X.adopt h as).W a=X.W a:=by
 show(match decide (a∈as) with | true=>_ | false=>_)=_;rw [decide_eq_false ha]
theorem Tr.adopt{X:Xt}{h:Heap}{as:List Addr}(n:Nat)(h0:∀ a∈as,X.W a=none):Tr (fun _=>false) X h n (X.adopt h as) h n:=by
 have k:∀ a r,X.W a=some r→(X.adopt h as).W a=some r:=fun a r e=>(WG fun q=>by rw [h0 a q] at e;exact aT e).trans e
 refine⟨⟨fun a o e=>k a _ e,fun _ _=>rfl,cZ _⟩,fun a r e _=>⟨k a r e,rfl⟩,fun a r e=> ?_⟩
 by_cases q:a∈as
 ·replace e:=(Im q)▸e;obtain⟨o,ho,rfl⟩:=Option.map_eq_some_iff.mp e;exact .inr ho
 ·rw [WG q] at e;exact .inl ⟨e,rfl⟩
noncomputable def Z.adopt(z:Z K A st)(as:List Addr)(h0:∀ a∈as,z.X.W a=none):Z K A st:=⟨z.X.adopt z.s.heap as,z.s,z.hA,(Tr.adopt _ h0).rel z.R z.R.still (fun _=>rfl) rfl rfl (fun _=>rfl) fun _ _ e=>.inl ⟨e,rfl,rfl⟩⟩
noncomputable def QM:List PV→List PV→List PV
 |k::ks,vs=>match vs with
  |v::vs=>.tup [k,v]::QM ks vs
  | []=>[]
 | [],_=>[]
theorem aJr{C:Cx}{W:Addr→Option bU}(ks:List PV):∀ {vs:List PV} {as:List Addr},ks.length=as.length→vs.length=as.length→(∀(i:Nat) (k v:PV) (a:Addr),ks[i]? =some k→vs[i]? =some v→as[i]? =some a→∃ key x,bF C W k key∧bF C W v x∧W a=some (.fro (mI [key,x] 0)))→aS (bF C W) (QM ks vs) (as.map qE):=by
 induction ks with
 |nil=>intro vs as h _ _;cases as with
  |nil=>exact rfl
  |cons=>cases h
 |cons k ks ih=>intro vs as h h' p;cases as with
  |nil=>cases h
  |cons a as=>cases vs with
   |nil=>cases h'
   |cons v vs=>
    obtain⟨key,x,d1,d2,hw⟩:=p 0 k v a rfl rfl rfl
    exact .mk (oL.mk (p:=DenL C W [k,v]) a [key,x] 0 hw (.mk _ _ d1 (.mk _ _ d2 rfl))) (ih (wA h) (wA h') fun i k v a e1 e2 e3=>p (i+1) k v a e1 e2 e3)
noncomputable def qJ(a:SV):M SV:=match a with
 |.pv (.itv kd ks vs)=>gd (!gL kd && decide (ks.length≤1000000)) (Bz (QM ks vs))
 |_=>er
theorem KN:jZ K (fun v=>call (.type "list") [v]) qJ:=fun {A st} z a x dx=>by
 cases a with
 |ref=>exact .er
 |pv p=>cases p with
  |itv kd ks vs=>
    refine .gd fun e=>.on fun Q q=> ?_
    have e:=hZ _ _▸e
    have hp:=QG e.1
    cases dx with | mk r l hr dd=>
    cases dd with | mk _ o hw ns dd=>
    rw [iH,iH] at dd
    obtain⟨vals,dv,hl,o',es,ep,ho',hc,hd',hk,pr,hn⟩:=EB (hp:=z.s.heap) hp (z.R.val _ _ hw) dd
    have hlen:(ks.zip vals).length=ks.length:=by rw [←bT (f:=Prod.fst),sD hl]
    refine kdx_call (knd:=kk K.C kd) (kvs:=ks.zip vals) (ep:=ep) z.hA.handled ⟨_,z.R.val _ _ hr,rfl,rfl⟩ ⟨o',es,ho',hc,hd',hk,pr,hn⟩ (by rw [hlen];exact gM (of_decide_eq_true e.2)) fun h' tk acc c as Kp hS hl' hG hacc=> ?_
    rw [hlen] at hl'
    have hG0:∀ a∈as,z.X.W a=none:=fun a h=>z.R.fresh (DD (hG.above a h))
    have fl:=(Tr.adopt (X:=z.X) (h:=h') st.cells.length hG0).low.fro
    have dL:aS (bF K.C (z.X.adopt h' as).W) (QM ks vs) (as.map qE):=aJr ks hl'.symm (dv.len.trans (hl.symm.trans hl'.symm)) fun i k v a e1 e2 e3=>by
     obtain⟨key,k',x,f1,f2,f3⟩:=hG.pairs i a e3
     have g1:((ks.zip vals).map (·.1))[i]? =some k':=by rw [iW,f1];rfl
     have g2:((ks.zip vals).map (·.2))[i]? =some x:=by rw [iW,f1];rfl
     rw [sD hl,e1] at g1;obtain rfl:=bO g1
     replace g2:=(Gq hl)▸g2
     obtain⟨y,hy,dy⟩:=dv.get e2
     rw [g2] at hy;obtain rfl:=bO hy
     exact⟨key,x,((zN hp).mp f2).2,bF.mono fl _ _ dy,by rw [Im (oB e3),f3];rfl⟩
    replace hS:=(show acc=(as.map qE).toArray by rw [←hacc,Array.toArray_toList])▸hS
    have hno:z.s.heap.objs.size∉as:=fun h=>GU _ (hG.above _ h)
    exact((z.to {z.s with heap:=h',toks:=tk} (z.R.still.to h' tk) Kp).adopt as hG0).listC (h':=h') (tk:=tk) (fun _ _ e=>e) ((WG hno).trans (z.R.fresh (cZ _))) hS dL fun z'' x l d=>q _ _ rfl z'' x (Xt.le.trans ((Tr.adopt (X:=z.X) (h:=h') _ hG0).le (fun _=>rfl) fun _=>rfl) l) d
  |_=>exact .er
end
noncomputable def jY(kd:KD):List PV→List PV→List PV→Option (List PV×List PV)
 | [],ks,vs=>some (ks,vs)
 |x::r,ks,vs=>match asTup x with
  |some l=>RK l fun k v=>match kG kd k with
   |true=>jY kd r (dZ ks vs k v).1 (dZ ks vs k v).2
   |false=>none
  |none=>none
where asTup (x:PV):Option (List PV):=match x with
 |.tup l=>some l
 |_=>none
theorem aBp{x:PV}{l:List PV}(h:jY.asTup x=some l):x= .tup l:=by cases x <;> first | exact congrArg _ (bO h) | exact aT h
theorem aJD{kd:KD}{x:PV}{r ks vs:List PV}{o:List PV×List PV}(h:jY kd (x::r) ks vs=some o):∃ k v,x= .tup [k,v]∧kG kd k=true∧jY kd r (dZ ks vs k v).1 (dZ ks vs k v).2=some o:=by
 have h:(match jY.asTup x with | some l=>RK l (fun k v=>match kG kd k with | true=>jY kd r (dZ ks vs k v).1 (dZ ks vs k v).2 | false=>none) | none=>none)=some o:=h
 cases q:jY.asTup x with
 |none=>rw [q] at h;exact aT h
 |some l=>
  rw [q] at h
  obtain⟨k,v,rfl,h1⟩:=Yk h
  cases q':kG kd k with
  |false=>rw [q'] at h1;exact aT h1
  |true=>rw [q'] at h1;exact⟨k,v,aBp q,q',h1⟩
theorem aOS(kvs:List (PV×aB))(k:PV)(v:aB):(pY kvs k v).length≤kvs.length+1:=by
 unfold pY
 split
 ·rw [bT];exact oG _
 ·rw [fH];exact cZ _
theorem aQI{kvs:List (PV×aB)}:(kvs.map (·.1)).zip (kvs.map (·.2))=kvs:=by rw [List.zip_map'];exact GQ _
section
variable{C:Cx}{W:Addr→Option bU}
theorem aEE{kd:KD}{kvs:List (PV×aB)}{ws:List PV}{k v:PV}{x:aB}{h:Heap}{d:Addr}(hp:gL kd=false)(hk:kd.fits k)(hd:h.DictOf (kk C kd) d kvs)(dw:aS (bF C W) ws (kvs.map (·.2)))(dv:bF C W v x):(dZ (kvs.map (·.1)) ws k v).1=(pY kvs k x).map (·.1)∧aS (bF C W) (dZ (kvs.map (·.1)) ws k v).2 ((pY kvs k x).map (·.2)):=by
 obtain⟨o,es,ep,ho,hc,hd',hko,pr,hn⟩:=hd
 have:=XR (Au (W:=W) hp pr).2.2.1 hk dw (by rw [bT,bT]) hn dv
 rwa [aQI] at this
theorem aPG{kd:KD}(hp:gL kd=false){A:aR}{h0:Heap}{l it d:Addr}{all:Array aB}{R:Result→aG→Prop}(hA:A.handled=none)(fro:∀ a o,W a=some (.fro o)→h0.get? a=some o)
  (hl0:h0.IsList l all) (hit0:h0.objs.size≤it) (hd0:h0.objs.size≤d) (hne:it≠d) (xs:List PV):
  ∀(vs:List aB) (i:Nat) (s:aG) (kvs:List (PV×aB)) (ws ks' vs':List PV),all.toList.drop i=vs→aS (bF C W) xs vs→jY kd xs (kvs.map (·.1)) ws=some (ks',vs')→aS (bF C W) ws (kvs.map (·.2))→kvs.length+xs.length≤1000000→
   (∀ b o,h0.get? b=some o→s.heap.get? b=some o)→s.heap.IsListIter it l i→s.heap.DictOf (kk C kd) d kvs→
   (∀ h' tk kvs',(∀ b o,h0.get? b=some o→h'.get? b=some o)→h'.DictOf (kk C kd) d kvs'→ks'=kvs'.map (·.1)→aS (bF C W) vs' (kvs'.map (·.2))→R (.ok (.ret .none)) {s with heap:=h',toks:=tk})→
   codeAny (aK C.prog C.w) A (.builtin "dict.update.loop" ⟨[.ref d,.ref it,rawInt i,.none],[]⟩) R s:=by
 have no:∀ {a:Addr},h0.objs.size≤a→∀ b o,h0.get? b=some o→b≠a:=fun h b o e q=>absurd (mY e) ((q).symm▸Nat.not_lt.mpr h)
 have at_:∀ {vs:List aB} {i:Nat},all.toList.drop i=vs→all[i]? =vs[0]?:=fun hv=>by rw [←hv,LV,Nat.add_zero,GD]
 induction xs with
 |nil=>
  intro vs i s kvs ws ks' vs' hv dl hpt dw hz hk hit hd hR
  subst dl;obtain⟨rfl,rfl⟩:=gA hpt
  refine codeAny_builtin Mg ?_
  refine(RU QO _).symm▸?_
  exact aF (Yx hA hit (let⟨o,ho,r⟩:=hl0;⟨o,hk _ _ ho,r⟩) (at_ hv) fun h' ex=>aF (bG (bG (hR h' s.toks kvs (fun b o e=>ex b o (no hit0 b o e) (hk _ _ e)) (let⟨o,es,ep,ho,r⟩:=hd;⟨o,es,ep,ex _ _ hne.symm ho,r⟩) rfl dw))))
 |cons x xs ih=>
  intro vs i s kvs ws ks' vs' hv dl hpt dw hz hk hit hd hR
  obtain⟨k,v,rfl,q,hpt⟩:=aJD hpt
  have q:=JE q
  cases dl with | mk w ws' dx dr=>
  cases dx with | mk a tv m hw ht=>
  cases ht with | mk vk _ dk ht=>
  cases ht with | mk vv _ dv ht=>
  subst ht
  have hdr:all.toList.drop (i+1)=ws':=by have:=congrArg (List.drop 1) hv;rwa [List.drop_drop] at this
  have hot:=fro _ _ hw
  refine codeAny_builtin Mg ?_
  refine(RU QO _).symm▸?_
  refine aF (Yy hit (let⟨o,ho,r⟩:=hl0;⟨o,hk _ _ ho,r⟩) (at_ hv) fun h' hit' sb=> ?_)
  have hd':h'.DictOf (kk C kd) d kvs:=let⟨o,es,ep,ho,r⟩:=hd;⟨o,es,ep,(sb.2 _ hne.symm).trans ho,r⟩
  have K':∀ b o,h0.get? b=some o→h'.get? b=some o:=fun b o e=>(sb.2 b (no hit0 b o e)).trans (hk _ _ e)
  have hot':=K' _ _ hot
  refine aF (pG (aF (wpAny_tryCatch ?_)))
  refine aF (LL (T:="tuple") ⟨_,hot',rfl⟩ ?_)
  refine GB (decide_eq_true (by decide)) ?_
  refine aF (RQ hot' rfl (bG ?_))
  refine pG (wpAny_dictSet_pairs ((zN hp).mpr ⟨q.2,dk⟩) hd' (fun h2 hd2 sb2=> ?_) (by rw [sizeLine_eq];exact aP (TO hz) (by decide)))
  obtain⟨e1,e2⟩:=aEE hp q.2 hd' dw dv
  rw [e1] at hpt
  exact bG ⟨Di QO _,ih ws' (i+1) {s with heap:=h2,toks:=s.toks+1} (pY kvs k vv) _ ks' vs' hdr dr hpt e2 (aP (lM (aOS kvs k vv) _) (aP (dS (wB _ _)) hz))
   (fun b o e=>(sb2.2 b (no hd0 b o e)).trans (K' _ _ e)) (let⟨o,ho,r⟩:=hit';⟨o,(sb2.2 _ hne).trans ho,r⟩) hd2 fun h3 tk kvs' a1 a2 a3 a4=>hR h3 tk kvs' a1 a2 a3 a4⟩
end
section
variable{K:KK}{A:aR}{st st':St}{z:Z K A st}{n:Nat}
noncomputable def zA(kd:KD)(a:SV):M SV:=iI a (fun xs=>gd (!gL kd && decide (xs.length≤1000000)) (eZ (jY kd xs [] []) fun r st=>some (.ref st.cells.length,⟨st.loc,st.cells++[.dict kd r.1 r.2]⟩))) er
theorem Vp(kd:KD):jZ K (fun v=>call (.type "dict") [v]) (zA kd):=fun {A st} z a x dx=>
 .onL (T:=fun x=>K.wp A (call (.type "dict") [x])) dx (fun xs l ws ep hol dl=>.gd fun e=>.onSome fun r hput=>.on fun Q q=>by
  have e:=hZ _ _▸e
  have hp:=QG e.1
  refine callType_codes (Q₁:=fun obj s₁=>obj= .ref z.s.heap.objs.size∧s₁= {z.s with heap:=z.s.heap.push zB}) F.kt_called_dict (F.kt_typeCall_dict_1 _) F.entry_dict_init (kt_code_dict_new _ ⟨rfl,rfl⟩) ?_
  rintro obj s₁ ⟨rfl,rfl⟩
  have hnew:(z.s.heap.push zB).DictOf (kk K.C kd) z.s.heap.objs.size []:=Heap.DictOf.new z.s.heap
  have hl1:(z.s.heap.push zB).get? l=some (cC ws ep):=gW _ hol
  refine⟨hnew.typeIs,F.args_dict_init_2 _ _,?_⟩
  refine aF ?_
  refine aF (wpAny_notOrdered_dict hnew.typeIs ?_)
  refine bG ?_
  show aI _ _ (Builtin.Dict.updateFrom "dict.__init__" z.s.heap.objs.size (.ref l) [] .none) _ _ _
  refine aF (LL (T:="list") ⟨_,hl1,rfl⟩ ?_)
  refine GB (decide_eq_true (by decide)) ?_
  refine aF (aFZ hl1 aHM (by kernel_rfl) z.hA.handled fun h2 tk K2=> ?_)
  refine aF (xW (aF (Gi ⟨_,K2 _ _ hl1,rfl,_,rfl⟩ ?_)))
  have hnew2:h2.DictOf (kk K.C kd) z.s.heap.objs.size []:=let⟨o,es,ep,ho,r⟩:=hnew;⟨o,es,ep,K2 _ _ ho,r⟩
  have hlt:z.s.heap.objs.size < h2.objs.size:=let⟨o,es,ep,ho,r⟩:=hnew2;mY ho
  refine bG ⟨Di QO _,aPG hp (A:=A.in1) (W:=z.X.W) (h0:=z.s.heap) (all:=ws.toArray) z.hA.handled z.froG ⟨_,hol,rfl,_,rfl⟩ (DD hlt) (cZ _) (Nat.ne_of_gt hlt) xs ws 0 _ [] [] r.1 r.2 rfl dl hput rfl (by rw [LW,kL];exact of_decide_eq_true e.2)
    (fun b o e=>gW _ (K2 _ _ (gW _ e))) ⟨_,oA _ rfl,rfl,rfl⟩ (let⟨o,es,ep,ho,r⟩:=hnew2;⟨o,es,ep,gW _ ho,r⟩) fun h' tk' kvs' K' hd' e1 d'=>⟨rfl,?_⟩⟩
  obtain⟨o',ho',ok'⟩:=Cq (W:=z.X.W) hp hd' d'
  rw [←e1] at ok'
  exact Go.adC (z:=z.to {z.s with heap:=h',toks:=tk'} (z.R.still.to h' tk') K') (c:=.dict kd r.1 r.2) (z.R.fresh (cZ _)) ho' (fun l=>ok'.imp (fun _=>bQ.mono l) (fun _=>bQ.mono l) _) id _ _ rfl Q fun z'' x l d=>q _ _ rfl z'' x l d) .er
end
noncomputable def RD(j:Nat)(p:PV):SV→SV
 |.ref i=>match bV i j with
  |true=>.pv p
  |false=>.ref i
 |.pv v=>.pv v
noncomputable def ZC:List SV→Option Nat
 | []=>none
 |x::r=>match x with
  |.ref j=>some j
  |.pv _=>ZC r
section
variable{K:KK}{A:aR}{st st':St}{z:Z K A st}{n:Nat}
theorem aOU{C:Cx}{X:Xt}{m j:Nat}{p:PV}(h:bF C X.W p (.ref (X.ρ j)))(x:SV)(v:aB)(d:fK C X m x v):fK C X m (RD j p x) v:=by
 cases x with
 |pv q=>exact d
 |ref i=>
  show fK C X m (match bV i j with | true=>.pv p | false=>.ref i) v
  cases q:bV i j with
  |false=>exact d
  |true=>obtain⟨_,rfl⟩:=d;cases sH q;exact h
theorem Xj{C:Cx}{X:Xt}{m j:Nat}{p:PV}(h:bF C X.W p (.ref (X.ρ j)))(xs:List SV)(vs:List aB)(d:fP C X m xs vs):fP C X m (xs.map (RD j p)) vs:=aS.map xs vs (aS.imp (aOU h) xs vs d)
noncomputable def LP(K:KK)(m:M Unit):Prop:=∀ {A:aR} {st:St} (z:Z K A st),Go z dU (fun Q s=>Q () s) (m st)
noncomputable def aJu(c:SO):Option (List SV):=match c with
 |.inst _ fs=>some fs
 |.sdict _ _ vs=>some vs
 |.dict ..=>some []
 |_=>none
noncomputable def Dq(k j:Nat)(p:PV):M Unit:=fun st=>match st.cells[k]? with
 |some c=>match c with
  |.inst c fs=>some ((),fG st k (.inst c (fs.map (RD j p))))
  |.sdict kd ks vs=>some ((),fG st k (.sdict kd ks (vs.map (RD j p))))
  |_=>none
 |none=>none
noncomputable def Od(k:Nat):M Unit:=fun st=>eZ (st.cells[k]?) (fun c=>eZ (aJu c) fun fs=>match ZC fs with
 |some j=>bd (cE (.ref j)) fun v=>lK v fun p=>Dq k j p
 |none=>rt ()) st
theorem aFP{j:Nat}{v:SV}(h:cE (.ref j) st=some (v,st')):j < st.cells.length:=by
 have h:(match st.cells[j]? with | some c=>OQ j c st | none=>none)=some (v,st'):=h
 cases q:st.cells[j]? with
 |none=>rw [q] at h;exact aT h
 |some c=>exact(List.getElem?_eq_some_iff.mp q).1
theorem El(a:Addr)(h:Heap):uP a h h:=⟨rfl,fun _ _=>rfl⟩
theorem aGs{k j:Nat}{p:PV}(d:bF K.C z.X.W p (.ref (z.X.ρ j))):Go z dU (fun Q s=>Q () s) (Dq k j p st):=by
 unfold Dq
 cases q:st.cells[k]? with
 |none=>exact .no
 |some c=>
  have ck:=z.R.cells _ _ q
  cases c with
  |inst c fs=>cases ck with | mk o hw hw' ne hi ho f=>exact .setC (D:=dU) (x:=()) z.s.heap z.s.toks hw (El _ _) ⟨_,hi⟩ (.mk o hw hw' ne hi ho (by rw [bT];exact f.imp (Xj d fs) o)) trivial fun Q q=>q
  |sdict kd ks vs=>cases ck with | mk o hw ho f=>exact .setC (D:=dU) (x:=()) z.s.heap z.s.toks hw (El _ _) ⟨_,ho⟩ (.mk o hw ho (f.imp (fun _ h=>h) (Xj d vs) o)) trivial fun Q q=>q
  |_=>exact .no
theorem Oy{j:Nat}{k:PV→M Unit}(h:∀ {st₁:St} (z₁:Z K A st₁) p,z.le z₁→cE (.ref j) st=some (.pv p,st₁)→bF K.C z₁.X.W p (.ref (z₁.X.ρ j))→Go z₁ dU (fun Q s=>Q () s) (k p st₁)):Go z dU (fun Q s=>Q () s) (bd (cE (.ref j)) (fun v=>lK v k) st):=fun a s e Q q=>lH e fun v st₁ e₁ e₂=>by
 have hj:=aFP e₁
 refine fD z (a:=.ref j) (x:=.ref (z.X.ρ j)) ⟨hj,rfl⟩ v st₁ e₁ (fun y s=>y= .ref (z.X.ρ j)→Q () s) (fun z₁ y l d ey=> ?_) rfl
 subst ey
 cases v with
 |ref=>exact aT e₂
 |pv p=>exact h z₁ p l e₁ (by rw [l.low.ρ j hj];exact d) a s e₂ Q fun z' x l'=>q z' x (l.t l')
theorem aGe{k:Nat}:LP K (Od k):=fun z=>.onSome fun c _=>.onSome fun fs _=>by
 cases ZC fs with
 |none=>exact .rt (D:=dU) (x:=()) trivial fun Q q=>q
 |some j=>exact Oy fun z₁ p _ _ d=>aGs d
noncomputable def OR:Nat→Nat→M Unit
 |0,_=>rt ()
 |m+1,k=>bd (Od k) fun _=>OR m k
theorem Om(m:Nat){k:Nat}:LP K (OR m k):=by
 induction m with
 |zero=>exact fun z=>.rt (D:=dU) (x:=()) trivial fun Q q=>q
 |succ m ih=>exact fun z=>(aGe z).ru (u:=fun _ Q s=>Q () s) (fun Q q=>q) fun z₁ l _=>ih z₁
noncomputable def Oc(m:Nat)(a:SV):M SV:=match a with
 |.ref k=>bd (OR m k) fun _=>cE (.ref k)
 |.pv x=>rt (.pv x)
theorem aGd{m:Nat}:GL K (Oc m):=fun {A st} z a x d=>by
 cases a with
 |pv p=>exact .same d fun Q q=>q
 |ref k=>exact(Om m z).ru (u:=fun _ Q s=>Q x s) (fun Q q=>q) fun z₁ l _=>fD z₁ (l.v d)
noncomputable def Oe(m:Nat)(a:SV):M SV:=match a with
 |.ref k=>bd (OR m k) fun _ st=>eZ (st.cells[k]?) (fun c=>match c with
  |.sdict kd ks vs=>eZ (pQ vs) fun xs st=>some (.ref k,fG st k (.dict kd ks xs))
  |.dict ..=>rt (.ref k)
  |_=>er) st
 |.pv x=>rt (.pv x)
theorem aGf{m:Nat}:GL K (Oe m):=fun {A st} z a x d=>by
 cases a with
 |pv p=>exact .same d fun Q q=>q
 |ref k=>
  refine(Om m z).ru (u:=fun _ Q s=>Q x s) (fun Q q=>q) fun {_ st₁ _} z₁ l _=>.onSome fun c q=> ?_
  have d₁:=l.v d
  have ck:=z₁.R.cells _ _ q
  cases c with
  |sdict kd ks vs=>cases ck with | mk o hw ho f=>exact .onSome fun xs e=>.setC (D:=dV) (x:=x) z₁.s.heap z₁.s.toks hw (El _ _) ⟨_,ho⟩ (.mk o hw ho (f.imp (fun _ h=>h) (fun ws dv=>MU vs dv xs e) o)) d₁ fun Q q=>q
  |dict=>exact .same d₁ fun Q q=>q
  |_=>exact .er
noncomputable def kT(vs:List SV):M SV:=QP vs fun xs=>rt (.pv (.lst xs))
noncomputable def nG(as:kM K):PE K:=⟨bd as.m kT,fun e=>.List (as.r (xs e)) e.pos,3,fun _=>rfl,fun e _ _ z=>(as.ok _ _ z).ru (fun Q q=>wpAny_List q) fun {_ _ ws} z₁ l₁ ds=>.plains ds fun xs dl hz=>.fro (cC ws 0) z₁.s.toks (fun l e=>oL.mk (p:=DenL _ _ xs) _ ws 0 e (by rw [iH];exact aS.imp (bF.mono l) _ _ dl)) fun Q q=>⟨gM hz,q⟩⟩
noncomputable def ZN(i:Nat):M Unit:=fun st=>match st.loc[i]? with
 |some o=>match o with
  |some v=>match v with
   |.ref k=>bd (cE (.ref k)) (fun v=>lK v fun p st=>some ((),⟨st.loc.set i (some (.pv p)),st.cells⟩)) st
   |.pv _=>some ((),st)
  |none=>some ((),st)
 |none=>some ((),st)
theorem aFO{j:Nat}{v:SV}(h:cE (.ref j) st=some (v,st')):st'.loc=st.loc:=by
 have h:(match st.cells[j]? with | some c=>OQ j c st | none=>none)=some (v,st'):=h
 cases q:st.cells[j]? with
 |none=>rw [q] at h;exact aT h
 |some c=>
  replace h:=(q)▸h
  cases c with
  |list=>obtain⟨rfl,rfl⟩:=gA h;rfl
  |dict=>obtain⟨rfl,rfl⟩:=gA h;rfl
  |inst c fs=>
   have h:(match pQ fs with | some xs=>some (SV.pv (.obj c xs),fG st j .dead) | none=>none)=some (v,st'):=h
   cases q':pQ fs with
   |none=>rw [q'] at h;exact aT h
   |some xs=>rw [q'] at h;obtain⟨rfl,rfl⟩:=gA h;rfl
  |_=>exact aT h
theorem Z.setVarAs(z:Z K A st){i:Nat}{a b:SV}(hl:st.loc[i]? =some (some a))(conv:∀ v,fK K.C z.X st.cells.length a v→fK K.C z.X st.cells.length b v):uX K.C z.X K.sl K.env ⟨st.loc.set i (some b),st.cells⟩ z.s:=by
 have F:=z.R.fr
 have get:∀ {j:Nat} {sv:SV},(st.loc.set i (some b))[j]? =some (some sv)→∃ sw,st.loc[j]? =some (some sw)∧∀ v,fK K.C z.X st.cells.length sw v→fK K.C z.X st.cells.length sv v:=fun {j sv} e=>(zW e).elim (fun q=>⟨a,by rw [q.1];exact hl,by cases q.2;exact conv⟩) fun q=>⟨sv,q.2,fun _ h=>h⟩
 refine⟨z.R.toRelC,F.st,F.nsW,?_,fun j x e=> ?_,fun j x sv e e'=> ?_⟩
 ·obtain⟨m,hm,hs⟩:=F.ns
  exact⟨m,hm,fun j x sv e e'=>let⟨sw,g,k⟩:=get e';let⟨v,hv,dv⟩:=hs j x sw e g;⟨v,hv,k v dv⟩⟩
 ·obtain⟨c,v₀,a1,a2,a3,a4⟩:=F.cell j x e
  exact⟨c,v₀,a1,a2,a3,fun sv e'=>let⟨sw,g,k⟩:=get e';let⟨v,hv,dv⟩:=a4 sw g;⟨v,hv,k v dv⟩⟩
 ·obtain⟨sw,g,k⟩:=get e'
  obtain⟨c,o,v,a1,a2,a3,dv⟩:=F.free j x sw e g
  exact⟨c,o,v,a1,a2,a3,k v dv⟩
theorem aGg{i:Nat}:LP K (ZN i):=fun {A st} z=>by
 unfold ZN
 cases hl:st.loc[i]? with
 |none=>exact .same (D:=dU) (x:=()) trivial fun Q q=>q
 |some o=>cases o with
  |none=>exact .same (D:=dU) (x:=()) trivial fun Q q=>q
  |some v=>cases v with
   |pv=>exact .same (D:=dU) (x:=()) trivial fun Q q=>q
   |ref k=>exact Oy fun {st₁} z₁ p l e d=>.ret (st':=⟨st₁.loc.set i (some (.pv p)),st₁.cells⟩) (D:=dU) (x:=()) ⟨z₁.X,z₁.s,z₁.hA,z₁.setVarAs (a:=.ref k) (b:=.pv p) ((aFO e).symm▸hl) fun v h=>by obtain⟨_,rfl⟩:=h;exact d⟩ Z.le0 trivial fun Q q=>q
noncomputable def aAz{u:M Unit}(g:LP K u)(a:PE K):PE K:=⟨bd u fun _=>a.m,a.r,a.c,a.hc,fun e A st z=>(g z).ru (u:=fun _=>K.wp A (eval (a.r e) K.env)) (fun Q q=>q) fun z₁ l _=>a.ok e z₁⟩
end
section
variable{prog:iB}{w:eR}{A:aR}{E:aB→aG→Prop}{s:aG}
theorem aOv:Slot "bytes" "__le__" "bytes.__le__":=
 .of (owner:="bytes") (n:="__le__") (by rw [mJ,lU];kernel_rfl) (by kernel_rfl) (by decide+kernel) (by decide+kernel)
  (by first | exact .inl (by kernel_rfl) | exact .inr (by decide+kernel)) (by rw [qH];kernel_rfl)
theorem aEV:rG table "bytes.__le__"=some Builtin.«bytes.__le__»:=wX (by kernel_rfl)
theorem aBh(a b:aB):lT "bytes.__le__" ⟨[a,b],[]⟩:=by unfold lT;kernel_rfl
theorem Tz:∀(b c:List UInt8),Builtin.Bytes.holds "__le__" (RZ b c)= !oX (c.map cJ) (b.map cJ)
 | [],[]=>rfl
 | [],_::_=>rfl
 |_::_,[]=>rfl
 |x::xs,y::ys=>by
  rw [iX,iX,oX,RZ]
  have e1:(x < y)↔bX x.toNat y.toNat=true:=by rw [Nat.blt_eq];exact VT
  have e2:(x > y)↔bX y.toNat x.toNat=true:=by rw [Nat.blt_eq];exact VT
  by_cases h:x < y
  ·have h':¬x > y:=fun g=>Nat.lt_asymm (UInt8.lt_iff_toNat_lt.mp h) (UInt8.lt_iff_toNat_lt.mp g)
   rw [if_pos h,(LM _).mp fun q=>h' (e2.mpr q),e1.mp h];rfl
  ·rw [if_neg h]
   by_cases g:x > y
   ·rw [if_pos g,e2.mp g];rfl
   ·rw [if_neg g,(LM _).mp fun q=>g (e2.mpr q),(LM _).mp fun q=>h (e1.mpr q)]
    exact Tz xs ys
theorem aGh(b c:Array UInt8)(t u:Tok):Gives (Builtin.«bytes.__le__» ⟨[.bytes b t,.bytes c u],[]⟩) (.val (.bool (!oX (c.toList.map cJ) (b.toList.map cJ)))):=by
 refine .of_wp fun M A E s Q hq=> ?_
 show aI M A (isInstance (.bytes c u) (.type "bytes") >>= fun r=>_) _ E s
 refine aF (RO (iJ s c u) F.sub_bytes_bytes ?_)
 exact bG ⟨_,rfl,by rw [←Tz] at hq;exact hq⟩
theorem aHG{b c:Array UInt8}{t u:Tok}{Q:aB→aG→Prop}(h:Q (.bool (!oX (c.toList.map cJ) (b.toList.map cJ))) s):aI (aK prog w) A (eW .LtE (.bytes b t) (.bytes c u)) Q E s:=
 compareOp_gives (op:=.LtE) (iJ s b t) (iJ s c u) aOv aEV (aBh _ _) (aGh b c t u) (fun e=>nomatch e) h
end
section
variable{K:KK}{A:aR}{st st':St}{z:Z K A st}{n:Nat}
noncomputable def Rg(a b:SV):M Bool:=kU a (fun x=>kU b (fun y=>rt (!oX y x)) er) er
theorem aLv:kC K (eW .LtE) Rg:=fun {A st} z a b x y dx dy=>
 .onB (T:=fun x=>K.wp A (eW .LtE x y)) dx (fun b t=>.onB (T:=fun y=>K.wp A (eW .LtE (.bytes b t) y)) dy (fun c u=>.rt rfl fun Q q=>aHG q) .er) .er
noncomputable def al{α:Type}(m m':M α):M α:=fun st=>match m st with
 |some r=>some r
 |none=>m' st
theorem Go.al{α δ:Type}{D:Dn α δ}{w:WP δ}{m m':M α}(h:Go z D w (m st))(h':Go z D w (m' st)):Go z D w (al m m' st):=by
 unfold Mine.al
 cases q:m st with
 |some r=>rw [q] at h;exact h
 |none=>exact h'
noncomputable def vA(f g:St→SV→Option (List PV))(st:St)(a:SV):Option (List PV):=match f st a with
 |some r=>some r
 |none=>g st a
theorem HF{f g:St→SV→Option (List PV)}(h:kD K f)(h':kD K g):kD K (vA f g):=fun {A st} z a x xs e=>by
 have e:(match f st a with | some r=>some r | none=>g st a)=some xs:=e
 cases q:f st a with
 |some r=>rw [q] at e;exact h z (q.trans e)
 |none=>rw [q] at e;exact h' z e
theorem AU{t:aB→aB→Sem aB}{f g:SV→SV→M Bool}(h:kC K t f)(h':kC K t g):kC K t fun a b=>al (f a b) (g a b):=fun z _ _ _ _ d e=>.al (h z d e) (h' z d e)
theorem UJ{f g:SV→SV→M SV}(h:wJ K f)(h':wJ K g):wJ K fun a b=>al (f a b) (g a b):=fun z _ _ _ _ d e=>.al (h z d e) (h' z d e)
theorem UI{f g:SV→SV→SV→M Unit}(h:wI K f)(h':wI K g):wI K fun a b c=>al (f a b c) (g a b c):=fun z _ _ _ _ _ _ d e e'=>.al (h z d e e') (h' z d e e')
theorem aAH{name:Str}{f g:SV→M SV}(h:qW K name f)(h':qW K name g):qW K name fun a=>al (f a) (g a):=fun z _ _ d=>.al (h z d) (h' z d)
noncomputable def Bd(a b:SV):M Bool:=al (wV (fun a b=>decide (a≤b)) a b) (Rg a b)
theorem aLu:kC K (eW .LtE) Bd:=AU aLt aLv
noncomputable def aW(a b:SV):M SV:=al (JC a b) (al (Ah a b) (al (Ai a b) (Qg a b)))
theorem cQ:wJ K aW:=UJ aLo (UJ aLp (UJ aLr aLq))
noncomputable def vK(a b:SV):M Bool:=al (uC a b) (al (Ab a b) (al (zK a b) (PB a b)))
theorem zU:kC K (eW .In) vK:=AU aLm (AU (Eg Vr) (AU (Eg Vs) (Eg Vt)))
noncomputable def fE(a b:SV):M Bool:=al (sX uC a b) (al (sX Ab a b) (al (sX zK a b) (sX PB a b)))
theorem pD:kC K (eW .NotIn) fE:=AU aLC (AU (Ei Vr) (AU (Ei Vs) (Ei Vt)))
noncomputable def iP(a:SV):M SV:=al (Rj a) (al (Ri a) (Rh a))
theorem mG:jZ K (fun v=>call (.builtin "len") [v]) iP:=fun z _ _ d=>.al (aLw z d) (.al (aLy z d) (aLx z d))
noncomputable def zH(a b c:SV):M SV:=al (Lr a b c) (We a b c)
theorem Ef:yJ K (fun x y u=>call (.builtin "dict.get") [x,y,u]) zH:=fun z _ _ _ _ _ _ d e e'=>.al (aLl z d e e') (aLL z d e e')
noncomputable def JA(a:SV):M Unit:=al (cX a) (Ae a)
theorem Du:sN K "dict" JA:=fun z _ _ d=>.al (pC z d) (Ur z d)
noncomputable def fT(a b c:SV):M Unit:=al (Wk a b c) (al (Wm a b c) (al (Eo a b c) (Wn a b c)))
theorem mH:wI K fT:=UI aLG (UI aLH (UI aLJ aLI))
noncomputable def qM(a b:SV):M SV:=al (bZ Sp a b) (Sq a b)
theorem zV:gG K (jU .Mult) qM:=fun z _ _ _ _ d e=>.al (CL aIu z d e) (aLB z d e)
noncomputable def dN:St→SV→Option (List PV):=vA Qk (vA Qm (vA Ak (vA Qi (vA Ql Qj))))
theorem dC:kD K dN:=HF aLW (HF aLZ (HF aLX (HF aLT (HF aLY aLV))))
end
section
open Sem (wp)
section
variable{M:jR}{A:aR}{s:aG}{env:Env}
theorem aQo{l r:Expr}{op:Operator}{pos:Pos}{Q:aB→aG→Prop}(h:bB M A (eval l env) (fun a s₁=>bB M A (eval r env) (fun b s₂=>bB M A (jU op a b) Q s₂) s₁) s):bB M A (eval (.BinOp l op r pos) env) Q s:=by
 rw [eval_BinOp]
 exact bE (hV h fun a s₁ h₁=>bE (nW (hV h₁ fun b s₂ h₂=>bE (pH (aQz h₂)))))
theorem aQs{e:Expr}{pos:Pos}{Q:Flow→aG→Prop}(h:bB M A (eval e env) (fun v=>Q (.ret v)) s):bB M A (exec (.Return (some e) pos) env) Q s:=by
 rw [exec_Return_some]
 exact bE (pH (bE (hV h fun v s₁ h₁=>dD h₁)))
theorem aQn{x:Str}{pos':Pos}{value:Expr}{pos:Pos}{Q:Flow→aG→Prop}(h:bB M A (eval value env) (fun v s₁=>aI M A (storeName env x v) (fun _=>Q .next) (fun _ _=>False) s₁) s)
  (hs:FY value (some (.Name x pos')) pos.line env=pure false:=by rfl):bB M A (exec (.Assign [.Name x pos'] value pos) env) Q s:=by
 rw [exec_Assign_Name env x pos' value pos hs]
 exact bE (pH (bE (hV h fun v s₁ h₁=>bE (pH (bE (fU (wpAny_bindName (nV h₁ (fun _ _ x=>dD x) fun _ _ x=>x))))))))
theorem aQw{st:Stmt}{rest:List Stmt}{Q:Flow→aG→Prop}(h:bB M A (exec st env) (fun f s'=>match f with | .next=>bB M A (execs rest env) Q s' | f=>Q f s') s):bB M A (execs (st::rest) env) Q s:=by
 rw [execs_cons]
 refine bE (hV h fun f s' h'=> ?_)
 cases f <;> first | exact h' | exact dD h'
theorem aQr{elts:List Expr}{pos:Pos}{Q:aB→aG→Prop}
  (h:bB M A (pX (gF pos (fO elts env))) (fun vs s₁=>vs.length≤fR∧Q (.ref s₁.heap.objs.size) {s₁ with heap:=s₁.heap.push {cls:=.type "list",data:=.seq vs.toArray}}) s):bB M A (eval (.List elts pos) env) Q s:=by
 rw [arm_eval_List]
 exact bE (pH (bE (hV h fun vs s₁ h₁=>fU (GC h₁.2 (by show vs.toArray.size≤fR;rw [iE];exact h₁.1)))))
theorem aQt{elts:List Expr}{k:Nat}{pos:Pos}{Q:aB→aG→Prop}
  (h:bB M A (pX (gF pos (fO elts env))) (fun vs s₁=>vs.length≤fR∧Q (.ref s₁.heap.objs.size) {s₁ with heap:=s₁.heap.push {cls:=.type "tuple",data:=.seq vs.toArray}}) s):bB M A (eval (.Tuple elts k pos) env) Q s:=by
 rw [arm_eval_Tuple]
 exact bE (pH (bE (hV h fun vs s₁ h₁=>fU (GC h₁.2 (by show vs.toArray.size≤fR;rw [iE];exact h₁.1)))))
theorem Ez{Q:List aB→aG→Prop}(h:Q [] s):bB M A (pX []) Q s:=dD h
theorem Xg{x:Sem aB}{rest:List (Bool×Sem aB)}{Q:List aB→aG→Prop}
  (h:bB M A x (fun v s₁=>bB M A (pX rest) (fun vs s₂=>Q (v::vs) s₂) s₁) s):bB M A (pX ((false,x)::rest)) Q s:=by
 rw [pX]
 refine bE (hV h fun v s₁ h₁=> ?_)
 exact bE (dD (bE (nW (hV h₁ fun vs s₂ h₂=>dD h₂))))
theorem aBc{f:aB}{pos:Pos}{es:List Expr}{Q:Args→aG→Prop}(h:bB M A (pX (gF pos (fO es env))) (fun vs s'=>Q ⟨vs,[]⟩ s') s)(hp:∀ t r,gF pos (fO es env)=t::r→t.1=false):
  bB M A (evalArgs f true (gF pos (fO es env)) []) Q s:=by
 cases q:gF pos (fO es env) with
 |nil=>
  rw [q] at h
  refine bE (hV h fun vs s' h'=> ?_)
  refine nW ?_
  exact bE (dD (bE (dD (dD h'))))
 |cons t r=>
  obtain⟨b,x⟩:=t
  have:=hp _ _ q
  dsimp only at this
  subst this
  rw [q] at h
  refine bE (hV h fun vs s' h'=> ?_)
  refine nW ?_
  exact bE (dD (bE (dD (dD h'))))
theorem aQx{α:Type}{M:jR}{c:Prop}{d:Decidable c}{a b:Sem α}{Q:α→aG→Prop}(h:bB M A a Q s)(h':bB M A b Q s):bB M A (if c then a else b) Q s:=by
 by_cases e:c
 ·rw [if_pos e];exact h
 ·rw [if_neg e];exact h'
theorem Kf{pos:Pos}{a:Addr}{o:Obj}{fd:qT}{first:List aB}{args:List (Bool×Sem aB)}{Q:aB→aG→Prop}
  (h:bB M A (evalArgs (.ref a) true args []) (fun x s₁=>(s₁.heap.get? a=some o∧o.data= .func fd)∧bB M A (call (.ref a) (first++x.pos) x.kw) Q s₁) s):bB M A (oR pos (.ref a) first args []) Q s:=by
 refine bE (nW (hV h fun x s₁ h₁=>bE (pH ?_)))
 have tail:∀ {t:Sem aB},bB M A t Q s₁→bB M A (t >>= fun r=>holding [r] point >>= fun _=>pure r) Q s₁:=
  fun ht=>bE (hV ht fun r s₂ hr=>bE (nW (RS (dD hr))))
 have hk:∀ {β:Type} {k:Keeper→Sem β} {Q':β→aG→Prop},bB M A (k .frame) Q' s₁→bB M A (keeperOf (.ref a) >>= k) Q' s₁:=fun hk=>by
  refine bE (fU ?_)
  refine aF (vW h₁.1.1 ?_)
  refine(h₁.1.2).symm▸?_
  exact bG hk
 refine hk ?_
 generalize (args.any (·.1) || _)=b
 cases b with
 |true=>exact tail (Zb h₁.2)
 |false=>exact aQx (tail h₁.2) (tail (Zb h₁.2))
theorem aDw{Q:aB→aG→Prop}{pos:Pos}{id:String}{first:List aB}{t:Sem aB}(h:bB M A t (fun v s₁=>bB M A (call (.builtin id) (first++[v])) Q s₁) s):
  bB M A (oR pos (.builtin id) first [(false,t)] []) Q s:=
 bE (nW (bE (m:=pX [(false,t)]) (Xg (hV h fun v s₁ h₁=>Ez (bE (dD (nW (bE (dD (bE (dD (dD
  (bE (pH (bE (dD (bE (hV h₁ fun r s₂ hr=>bE (nW (RS (dD hr)))))))))))))))))))))
theorem Yz{Q:aB→aG→Prop}{id:Str}{p pos:Pos}{args:List Expr}(h:bB M A (eval (.Name id p) env) (fun f s₁=>bB M A (oR pos f [] (gF pos (fO args env)) []) Q s₁) s):bB M A (eval (.Call (.Name id p) args [] pos) env) Q s:=by
 rw [arm_eval_Call_Name']
 exact bE h
theorem aQv{Q:aB→aG→Prop}{pos:Pos}{T:String}(h:bB M A (call (.type T) []) Q s):bB M A (oR pos (.type T) [] [] []) Q s:=by
 refine bE (nW (bE (m:=pX []) (Ez (bE (dD (nW (bE (dD (bE (dD (dD ?_)))))))))))
 exact bE (pH (bE (dD (bE (hV h fun r s₂ hr=>bE (nW (RS (dD hr))))))))
end
section
variable{prog:iB}{w:eR}{A:aR}{s:aG}
theorem aIT{id:String}{args:Args}(h:sU.contains id=false):xF (.builtin id args)=true:=by show(!sU.contains id)=true;rw [h];rfl
theorem Ku{id:String}{args:Args}{b:Builtin}{R:Flow→aG→Prop}(hb:rG table id=some b)(hn:sU.contains id=false)
  (h:bB (aK prog w) (A.under (.builtin id args)) (b args) (fun fin s'=>match fin with | .done f=>R f s' | .again c'=>c'.quiet=true∧lW (aK prog w) A c' R s') s):
  lW (aK prog w) A (.builtin id args) R s:=by
 refine BB (aIT hn) ?_
 show bB _ _ (match rG table id with | some b=>b args | none=>unsupported ((withoutEnding? id "#data").getD id)) _ s
 exact(hb).symm▸h
theorem AE{α:Type}{M:jR}{c:Prop}[Decidable c]{a b:Sem α}{Q:α→aG→Prop}(hc:¬c)(h:bB M A b Q s):bB M A (if c then a else b) Q s:=by rw [if_neg hc];exact h
theorem aQR{α:Type}{M:jR}{c:Prop}[Decidable c]{a b:Sem α}{Q:α→aG→Prop}(hc:c)(h:bB M A a Q s):bB M A (if c then a else b) Q s:=by rw [if_pos hc];exact h
theorem aDz{T newId initId:String}{args:List aB}{Q Q₁:aB→aG→Prop}(ft:TypeCalled T newId initId)(hct:checkTypeCall T ⟨args,[]⟩=pure ()){c:aB}{tl:List aB}(hmro:mroOf (.type T)=pure (c::tl))
  (hnew:aI (aK prog w) A.in1 (call (.builtin newId) (.type T::args)) Q₁ (fun _ _=>False) s)
  (hnext:∀ obj s₁,Q₁ obj s₁→s₁.TypeIs obj T∧bB (aK prog w) A.in1 (call (.builtin initId) (obj::args)) (fun r s₂=>r= .none∧Q obj s₂) s₁):
  bB (aK prog w) A (call (.type T) args) Q s:=by
 refine RR (BB rfl (dD ⟨Code.quiet_builtin _ (by kernel_rfl),Ku F.entry_type_call (by decide+kernel) ?_⟩))
 refine(Around.under_plain (weight_type_call_type T args []) (units_type_call_type T args [])).symm▸?_
 refine AE (c:=(HK T==HK "type")=true) (by rw [ft.notType];decide) ?_
 refine AE (by rw [ft.canCreate];decide) ?_
 refine bE (uN hct (bE (uN hmro (AE mK ?_))))
 refine bE (uN ft.made (bE (dD ?_)))
 refine bE (nW (fU (nV hnew (fun obj s₁ ho=> ?_) fun _ _ x=>x)))
 refine bE (fU (RO (hnext obj s₁ ho).1 ft.sub (AE mK ?_)))
 refine bE (nW (bE (fU (AD (hnext obj s₁ ho).1 ft.init.lookup ?_))))
 refine nW (bE (uN (ft.init.bind obj) (bE (hV (hnext obj s₁ ho).2 fun r s₂ hr=>dD ?_))))
 exact AE (by rw [hr.1];decide) (dD hr.2)
end
theorem Bs:mroOf (.type "bytearray")=pure [.type "bytearray",.type "object"]:=by rw [mroOf_type];kernel_rfl
theorem aHS:xV (.type "bytearray") "__new__"=pure (some (.builtin "bytearray.__new__")):=by rw [mJ,lU];kernel_rfl
theorem Ew:Slot "bytearray" "__init__" "bytearray.__init__":=
 .of (owner:="bytearray") (n:="__init__") (by rw [mJ,lU];kernel_rfl) (by kernel_rfl) (by decide+kernel) (by decide+kernel)
  (by first | exact .inl (by kernel_rfl) | exact .inr (by decide+kernel)) (by rw [qH];kernel_rfl)
theorem Xk:isSubtype (.type "bytearray") (.type "bytearray")=pure true:=by rw [qH];kernel_rfl
theorem aDC:TypeCalled "bytearray" "bytearray.__new__" "bytearray.__init__":=
 ⟨by kernel_rfl,by decide+kernel,⟨_,_,Bs⟩,madeBy_type Bs aHS (by decide+kernel),by decide+kernel,Xk,Ew⟩
theorem aPt:checkTypeCall "bytearray" ⟨[],[]⟩=pure ():=by kernel_rfl
theorem aIK:checkBuiltinCall "bytearray.__new__" ⟨[.type "bytearray"],[]⟩=pure ():=by kernel_rfl
theorem aET:rG table "bytearray.__new__"=some Builtin.«list.__new__»:=entryFor_alias (id':="list.__new__") (by rw [fastTable_eq_tree];kernel_rfl) (by kernel_rfl) (by decide+kernel) (by rw [fastTable_eq_tree];kernel_rfl)
theorem Ug:plainId "bytearray.__new__"=true:=by decide+kernel
theorem aER:rG table "bytearray.__init__"=some Builtin.«bytearray.__init__»:=wX (by kernel_rfl)
theorem aBe(a:aB):lT "bytearray.__init__" ⟨[a],[]⟩:=by unfold lT;kernel_rfl
set_option maxRecDepth 1000000 in
set_option maxHeartbeats 4000000 in
theorem aJo:("bytearray.__new__".splitOn ".__new__").headD ""="bytearray":=by simp+decide [String.splitOn,String.splitOnAux]
section
open PySem.Builtin PySem.Builtin.Bytes
variable{prog:iB}{w:eR}{A:aR}{s:aG}{E:aB→aG→Prop}
theorem aDW{Q₁:aB→aG→Prop}
  (h:Q₁ (.ref s.heap.objs.size) {s with heap:=s.heap.push {cls:=.type "bytearray",data:=.bytearray #[]}}):
  codeAny (aK prog w) A (.call (.builtin "bytearray.__new__") ⟨[.type "bytearray"],[]⟩) (wants Q₁ E) s:=by
 refine codeAny_of_tree ?_
 refine aF (dW aIK (bG ⟨Di Ug _,codeAny_builtin_stack aET rfl fun p st=> ?_⟩))
 refine(RU Ug _).symm▸?_
 have hsub:=Xk
 have hown:=aJo
 obtain⟨hp,g,d,tk,os⟩:=s
 simp only [hown]
 wp_walk
 exact h
theorem aBw{Q₁:aB→aG→Prop}(h:Q₁ (.ref s.heap.objs.size) {s with heap:=s.heap.push {cls:=.type "bytearray",data:=.bytearray #[]}}):
  aI (aK prog w) A (call (.builtin "bytearray.__new__") [.type "bytearray"]) Q₁ E s:=by
 refine wpAny_call (codeAny_mono (aDW (E:=E) h) fun r s' hr=> ?_)
 cases r with
 |error e=>exact hr
 |ok f=>cases f <;> exact hr
end
section
variable{prog:iB}{w:eR}{A:aR}{s:aG}
noncomputable def IB(self:aB):Code×Pos→Bool:=fun
  |(.builtin "bytearray.__contains__" ⟨v::_,_⟩,_) | (.builtin "bytearray.__mod__" ⟨v::_,_⟩,_)
  |(.builtin "bytearray.__rmod__" ⟨_::v::_,_⟩,_) | (.builtin "_struct.pack_into.held" ⟨v::_,_⟩,_)=>SA v self
  |(.builtin "bytearray.find.held" ⟨_::_::held,_⟩,_)=>held.any (SA self)
  |(.builtin id ⟨v::_,_⟩,_)=>SA v self && Builtin.Bytes.decodersThatHold.contains id
  |_=>false
theorem aFp(self:aB):RY self=stack >>= fun st=>pure (st.any (IB self)):=rfl
theorem aIW{id:String}{args:Args}(h:xF (.builtin id args)=true):sU.contains id=false:=by
 have:(!sU.contains id)=true:=h
 simpa using this
theorem aIU{id:String}(h:sU.contains id=false):Builtin.Bytes.decodersThatHold.contains id=false:=by
 unfold sU at h
 rw [List.contains_eq_mem,decide_eq_false_iff_not,uR,not_or] at h
 rw [List.contains_eq_mem,decide_eq_false_iff_not]
 exact h.1
theorem JQ{id x:String}(h:sU.contains id=false)(hx:sU.contains x=true):id≠x:=fun e=>by rw [e,hx] at h;exact eP h
theorem aFh(self:aB)(id:String)(args:Args)(q:Pos)(h:sU.contains id=false):IB self (.builtin id args,q)=false:=by
 obtain⟨pos,kw⟩:=args
 unfold IB
 delta IB.match_1
 dsimp only
 refine(dif_neg (JQ (x:="bytearray.__contains__") h (by kernel_rfl))).trans ((dif_neg (JQ (x:="bytearray.__mod__") h (by decide+kernel))).trans ((dif_neg (JQ (x:="bytearray.__rmod__") h (by decide+kernel))).trans
  ((dif_neg (JQ (x:="_struct.pack_into.held") h (by kernel_rfl))).trans ((dif_neg (JQ (x:="bytearray.find.held") h (by decide+kernel))).trans ?_))))
 cases pos with
 |nil=>rfl
 |cons v l=>exact(congrArg (SA v self && ·) (aIU h)).trans (RW _)
theorem Za{M:jR}{self:aB}{Q:Bool→aG→Prop}(h:Q false s):bB M A (RY self) Q s:=by
 intro Γ p hΓ hN
 rw [aFp,Sem.wp_bind']
 show Sem.wp M Γ stack _ _ p s
 unfold stack
 rw [Sem.wp_stack]
 show Q (((Γ.code,p)::Γ.below).any (IB self)) s
 rw [List.any_eq_false.mpr]
 ·exact h
 ·intro x hx
  have hn:xF x.1=true:=by
   cases hx with
   |head=>exact hN.1
   |tail _ hx=>exact hN.2 x hx
  obtain⟨c,q⟩:=x
  cases c with
  |builtin id args=>exact Bool.eq_false_iff.mp (aFh self id args q (aIW hn))
  |_=>exact mK
theorem Ke{id:String}{args:Args}{b:Builtin}{Q:aB→aG→Prop}(hq:plainId id=true)(hn:sU.contains id=false)(hb:rG table id=some b)
  (h:aI (aK prog w) A.in1 (checkBuiltinCall id args) (fun _ s₁=>bB (aK prog w) A.in1 (b args) (fun fin s'=>∃ v,fin= .done (.ret v)∧Q v s') s₁) (fun _ _=>False) s) (hk:args.kw= []):
  bB (aK prog w) A (call (.builtin id) args.pos) Q s:=by
 obtain⟨ps,kw⟩:=args
 dsimp only at hk;subst hk
 refine RR (BB rfl ?_)
 show bB _ A.in1 (do checkBuiltinCall id ⟨ps,[]⟩;again (.builtin id ⟨ps,[]⟩)) _ s
 refine bE (fU (nV h (fun _ s₁ h₁=>dD ⟨Di hq _,Ku hb hn ?_⟩) fun _ _ x=>x))
 refine(RU hq _).symm▸?_
 refine hV h₁ fun fin s' hf=> ?_
 obtain⟨v,rfl,hv⟩:=hf
 exact hv
theorem aBv{a:Addr}{Q:aB→aG→Prop}(ho:s.heap.get? a=some {cls:=.type "bytearray",data:=.bytearray #[] 0})(h:Q .none {s with heap:=s.heap.update a (wC fun _=>#[])}):
  bB (aK prog w) A (call (.builtin "bytearray.__init__") [.ref a]) Q s:=by
 have hT:s.TypeIs (.ref a) "bytearray":=⟨_,ho,rfl⟩
 refine Ke (args:=⟨[.ref a],[]⟩) Ew.plain (by kernel_rfl) aER (Ew.check _ _ _ _ _ _ _ _ hT (aBe _) ?_) rfl
 refine bE (m:=Builtin.Bytes.ownRelease _) (fU (aF (Jd hT (bG ?_))))
 refine AE (by decide) ?_
 refine bE (uN (v:=[none,none,none]) (by rfl) ?_)
 refine bE (uN (v:=()) rfl (bE (uN (v:=()) rfl ?_)))
 refine bE (bE (m:=RY (.ref a)) (Za (bE (m:=Gr (.ref a)) (fU (aF (vW ho (bG ?_)))))))
 refine dD (AE (by decide) ?_)
 exact bE (m:=Builtin.Bytes.write (.ref a) fun _=>#[]) (fU (aF (vW ho (aF (wpAny_update ho (Gh (uQ _ ho rfl) rfl (dD ⟨_,rfl,h⟩)))))))
end
theorem Eu:Slot "bytearray" "append" "bytearray.append":=
 .of (owner:="bytearray") (n:="append") (by rw [mJ,lU];kernel_rfl) (by kernel_rfl) (by decide+kernel) (by decide+kernel)
  (by first | exact .inl (by decide+kernel) | exact .inr (by kernel_rfl)) (by rw [qH];kernel_rfl)
theorem aPu:typeOf (.builtin "bytearray.append")=pure (.type "method_descriptor"):=by show NC _=_;rw [NF];kernel_rfl
theorem aEQ:rG table "bytearray.append"=some Builtin.«bytearray.append»:=wX (by kernel_rfl)
theorem aBd(a b:aB):lT "bytearray.append" ⟨[a,b],[]⟩:=by unfold lT;kernel_rfl
theorem aIm:mL "bytearray" "append" "bytearray.append":=⟨Ue,Eu,aPu⟩
section
variable{prog:iB}{w:eR}{A:aR}{s:aG}
theorem aBt{a:Addr}{b:Array UInt8}{i:Int}{t:Tok}{Q:aB→aG→Prop}(ho:s.heap.get? a=some {cls:=.type "bytearray",data:=.bytearray b 0})(h0:0≤i)(h1:i < 256)(hz:b.size+1≤fR)
  (h:Q .none {s with heap:=s.heap.update a (wC (·.push i.toNat.toUInt8))}):
  bB (aK prog w) A (call (.builtin "bytearray.append") [.ref a,.int i t]) Q s:=by
 have hT:s.TypeIs (.ref a) "bytearray":=⟨_,ho,rfl⟩
 refine Ke (args:=⟨[.ref a,.int i t],[]⟩) Eu.plain (by kernel_rfl) aEQ (Eu.check _ _ _ _ _ _ _ _ hT (aBd _ _) ?_) rfl
 show bB _ _ (Builtin.«bytearray.append» ⟨[.ref a,.int i t],[]⟩) _ s
 refine bE (uN (v:=(.ref a,.int i t)) (by rfl) ?_)
 have hb:Zj (.int i t)=pure i.toNat.toUInt8:=by
  have ha:asIndex (.int i t)=pure i:=rfl
  unfold Zj
  rw [ha,pure_bind]
  have hc:¬((decide (i < 0) || decide (i≥256))=true):=Tn h0 h1
  dsimp only
  rw [if_neg hc]
 refine bE (uN hb ?_)
 have hx:aI (aK prog w) A.in1 (Gr (.ref a)) (fun n s'=>n=0∧s'=s) (fun _ _=>False) s:=by
  exact aF (vW ho (bG ⟨rfl,rfl⟩))
 refine bE ?_
 refine bE (m:=RY (.ref a) <||> (do return (←Gr (.ref a)) > 0)) ?_
 refine bE (Za ?_)
 refine bE (fU (nV hx (fun n s' hn=> ?_) fun _ _ x=>x))
 obtain⟨rfl,rfl⟩:=hn
 refine dD (AE (by decide) (dD ?_))
 have hw:aI (aK prog w) A.in1 (Builtin.Bytes.write (.ref a) (·.push i.toNat.toUInt8)) (fun _ s''=>s''= {s' with heap:=s'.heap.update a (wC (·.push i.toNat.toUInt8))}) (fun _ _=>False) s':=by
  refine aF (vW ho ?_)
  refine aF (wpAny_update ho ?_)
  refine Gh (uQ _ ho rfl) ?_ rfl
  exact if_neg (Nat.not_lt.mpr (aP (dS (Array.size_push ..)) hz))
 refine bE (fU (nV hw (fun _ s'' hs=> ?_) fun _ _ x=>x))
 subst hs
 exact dD ⟨_,rfl,h⟩
end
end
section
variable{K:KK}{A:aR}{st st':St}{z:Z K A st}{n:Nat}
noncomputable def cH(m ms:M Bool):M Bool:=bd m fun x=>match x with
 |true=>ms
 |false=>rt false
noncomputable def hJ(m ms:M Bool):M Bool:=bd m fun x=>match x with
 |true=>rt true
 |false=>ms
structure AP(K:KK)(op:BoolOp) where
 m:M Bool
 r:List Expr→List Expr
 ok:∀(es:List Expr) {A:aR} {st:St} (z:Z K A st),Go z dB (K.wp A (allTrue op (r es) K.env)) (m st)
noncomputable def oI:AP K .And:=⟨rt true,fun _=>[],fun _ _ _ z=>.rt (x:=true) rfl fun Q q=>wpAny_allTrue_And_nil q⟩
noncomputable def yM:AP K .Or:=⟨rt false,fun _=>[],fun _ _ _ z=>.rt (x:=false) rfl fun Q q=>wpAny_allTrue_Or_nil q⟩
theorem Pd{D:Dn Bool Bool}{w w':WP Bool}{m m':M Bool}{b:Bool}(h:Go z D w (m st))(h':Go z D w' (m' st)):Go z D (fun Q s=>if b=true then w Q s else w' Q s) ((match b with | true=>m | false=>m':M Bool) st):=by
 cases b with
 |true=>exact h.imp fun Q q=>q
 |false=>exact h'.imp fun Q q=>q
noncomputable def eG(a:PT K)(as:AP K .And):AP K .And:=⟨cH a.m as.m,fun es=>a.r (dT es)::as.r es.tail,fun es _ _ z=>(a.ok _ z).ruB (u:=fun b Q s=>if b=true then K.wp _ (allTrue .And (as.r es.tail) K.env) Q s else Q false s) (fun Q q=>wpAny_allTrue_And_cons q) fun z₁ l=>Pd (w':=fun Q=>Q false) (as.ok _ z₁) (.rt (x:=false) rfl fun Q q=>q)⟩
noncomputable def oJ(a:PT K)(as:AP K .Or):AP K .Or:=⟨hJ a.m as.m,fun es=>a.r (dT es)::as.r es.tail,fun es _ _ z=>(a.ok _ z).ruB (u:=fun b Q s=>if b=true then Q true s else K.wp _ (allTrue .Or (as.r es.tail) K.env) Q s) (fun Q q=>wpAny_allTrue_Or_cons q) fun z₁ l=>Pd (w:=fun Q=>Q true) (.rt (x:=true) rfl fun Q q=>q) (as.ok _ z₁)⟩
noncomputable def jI{op:BoolOp}(as:AP K op):PT K:=⟨as.m,fun e=>.BoolOp op (as.r (xs e)) e.pos,fun e _ _ z=>(as.ok _ z).imp fun Q q=>wpAny_isTrue_BoolOp q⟩
theorem Pe{w w':WP aB}{m m':M SV}{b:Bool}(h:Go z dV w (m st))(h':Go z dV w' (m' st)):Go z dV (fun Q s=>if b=true then w Q s else w' Q s) ((match b with | true=>m | false=>m':M SV) st):=by
 cases b with
 |true=>exact h.imp fun Q q=>q
 |false=>exact h'.imp fun Q q=>q
noncomputable def aAE(a b:PE K):PE K:=⟨bd a.m fun x=>bd (zZ x) fun t=>match t with | true=>rt x | false=>b.m,fun e=>.BoolOp .Or [a.r (dT (xs e)),b.r (hd2 (xs e))] e.pos,1,fun _=>rfl,fun e A _ z=>
 (a.ok _ z).ru (u:=fun x Q s=>K.wp A (truthy x) (fun t s=>if t=true then Q x s else K.wp A (eval (b.r (hd2 (xs e))) K.env) Q s) s) (fun Q q=>wpAny_Or2 q) fun {_ _ x} z₁ l₁ dx=>(jF z₁ dx).ruB (fun Q q=>q) fun z₂ l₂=>Pe (w:=fun Q=>Q x) (.rt (l₂.v dx) fun Q q=>q) (b.ok _ z₂)⟩
structure MH(K:KK) where
 m:M SV
 rh:List Expr→Expr
 rl:List Expr→List Expr
 ok:∀(es:List Expr) (pos:Pos) {A:aR} {st:St} (z:Z K A st),Go z dV (K.wp A (boolOp pos .And (evalEach (rh es::rl es) K.env))) (m st)
noncomputable def UB(a:PE K):MH K:=⟨a.m,fun es=>a.r (dT es),fun _=>[],fun _ _ _ _ z=>a.ok _ z⟩
theorem aQB{M:jR}{pos:Pos}{env:Env}{x y:Expr}{es:List Expr}{Q:aB→aG→Prop}{s:aG}(h:aI M A (eval x env) (fun v s=>aI M A (truthy v) (fun t s=>if t=true then aI M A (boolOp pos .And (evalEach (y::es) env)) Q nE s else Q v s) nE s) nE s):aI M A (boolOp pos .And (evalEach (x::y::es) env)) Q nE s:=by
 show aI _ A (do
  let v ←eval x env
  standAt pos
  let t ←holding [v] (truthy v)
  match BoolOp.And,t with
  |.And,false | .Or,true=>pure v
  |_,_=>boolOp pos .And (evalEach (y::es) env)) Q nE s
 refine aF (fX h fun v s q=>aF (Gj (aF (pG (fX q fun t s q=> ?_)))))
 cases t with
 |true=>exact q
 |false=>exact bG q
noncomputable def HB(a:PE K)(as:MH K):MH K:=⟨bd a.m fun x=>bd (zZ x) fun t=>match t with | true=>as.m | false=>rt x,fun es=>a.r (dT es),fun es=>as.rh es.tail::as.rl es.tail,fun es pos A _ z=>
 (a.ok _ z).ru (u:=fun x Q s=>K.wp A (truthy x) (fun t s=>if t=true then K.wp A (boolOp pos .And (evalEach (as.rh es.tail::as.rl es.tail) K.env)) Q s else Q x s) s) (fun Q q=>aQB q) fun {_ _ x} z₁ l₁ dx=>(jF z₁ dx).ruB (fun Q q=>q) fun z₂ l₂=>Pe (w':=fun Q=>Q x) (as.ok _ _ z₂) (.rt (l₂.v dx) fun Q q=>q)⟩
noncomputable def UC(as:MH K):PE K:=⟨as.m,fun e=>.BoolOp .And (as.rh (xs e)::as.rl (xs e)) e.pos,1,fun _=>rfl,fun e _ _ z=>as.ok _ _ z⟩
noncomputable def aAD(a:PE K):PE K:=⟨bd a.m fun x=>bd (zZ x) fun b=>rt (.pv (.bool (!b))),fun e=>.UnaryOp .Not (a.r (x1 e)) e.pos,1,fun _=>rfl,fun e A _ z=>
 (a.ok _ z).ru (u:=fun x=>K.wp A (unaryOp .Not x)) (fun Q q=>wpAny_UnaryOp q) fun z₁ l₁ dx=>(jF z₁ dx).ruB (u:=fun b Q=>Q (.bool (!b))) (fun Q q=>not_of q) fun {b _} z₂ l₂=>.rt (x:=.bool (!b)) rfl fun Q q=>q⟩
theorem aDy{M:jR}{T:String}{t u v:Sem aB}{pos:Pos}{Q:aB→aG→Prop}{s:aG}(h:aI M A t (fun x s=>aI M A u (fun y s=>aI M A v (fun w s=>aI M A (call (.type T) [x,y,w]) Q nE s) nE s) nE s) nE s):aI M A (oR pos (.type T) [] [(false,t),(false,u),(false,v)] []) Q nE s:=
 WW rfl (xY (fX h fun _ _ h=>xY (fX h fun _ _ h=>LA h)))
theorem aOP(a b c:PE K)(e e' e'':Expr)(pos:Pos):gF pos (fO [a.r e,b.r e',c.r e''] K.env)= [(false,eval (a.r e) K.env),(false,eval (b.r e') K.env),(false,eval (c.r e'') K.env)]:=by rw [rY (a.hc e),rY (b.hc e'),rY (c.hc e'')];rfl
noncomputable def Jx{T:String}{f:SV→SV→SV→M SV}(i:Nat)(g:Gl K.C (nm K.sl i) (.type T))(hf:yJ K (fun v w u=>call (.type T) [v,w,u]) f)(a b c:PE K)(h:eI K.sl i .globalImplicit=true:=by rfl):PE K:=
 ⟨bd a.m fun x=>bd b.m fun y=>bd c.m fun u=>f x y u,fun e=>.Call (.Name (nm K.sl i) (xq e)) [a.r (dT (xs e)),b.r (hd2 (xs e)),c.r (ZU (xs e))] [] e.pos,2,fun _=>rfl,fun e _ _ z=>(a.ok _ z).ru (fun Q q=>xX (aOP a b c _ _ _ _) (nX h g (aDy q))) fun z₁ l₁ dx=>(b.ok _ z₁).bd fun z₂ l₂ dy=>(c.ok _ z₂).bd fun z₃ l₃ du=>hf z₃ ((l₂.t l₃).v dx) (l₃.v dy) du⟩
structure nA(K:KK) where
 m:M SV
 r:Expr→Expr
 c:Nat
 hc:∀ e,sT (r e)=c+1
 ok:∀(e:Expr) {A:aR} {st:St} (z:Z K A st),Go z dV (K.wpG A (eval (r e) K.env)) (m st)
noncomputable def lE(a:PE K):nA K:=⟨a.m,a.r,a.c,a.hc,fun e _ _ z=>(a.ok e z).imp fun Q q=>fU q⟩
noncomputable def jT(a:P1 K):yC K:=⟨a.m,a.r,fun e _ _ z=>(a.ok e z).imp fun Q q=>fU q⟩
noncomputable def yL(a:PS K):DF K:=⟨a.m,a.r,fun e _ _ z=>(a.ok e z).imp fun Q q=>fU q⟩
theorem gG.g{t:aB→aB→Sem aB}{f:SV→SV→M SV}(h:gG K t f)(z:Z K A st){a b:SV}{x y:aB}(d:z.d dV a x)(e:z.d dV b y):Go z dV (K.wpG A (t x y)) (f a b st):=(h z d e).imp fun Q q=>fU q
noncomputable def UH(K:KK)(t:aB→aB→Sem aB)(f:SV→SV→M SV):Prop:=∀ {A:aR} {st:St} (z:Z K A st) {a b:SV} {x y:aB},z.d dV a x→z.d dV b y→Go z dV (K.wpG A (t x y)) (f a b st)
theorem Ia{t:aB→aB→Sem aB}{f:SV→SV→M SV}(h:gG K t f):UH K t f:=fun z _ _ _ _ d e=>(h z d e).imp fun Q q=>fU q
noncomputable def fW(a:yC K)(as:DF K):DF K:=⟨sq a.m as.m,fun t=>a.r (Pm t)::as.r t.tail,fun t _ _ z=>Pf (w₂:=K.wpG _ (execs (as.r t.tail) K.env)) (fun Q q=>aQw q) (a.ok _ z) fun z₁=>as.ok _ z₁⟩
noncomputable def TZ(a:nA K):yC K:=⟨bd a.m fun v=>rt (.ret v),fun t=>.Return (some (a.r (yE t))) t.pos,fun t _ _ z=>(a.ok _ z).ru (u:=fun x Q=>Q (.ret x)) (fun Q q=>aQs q) fun z₁ l₁ dx=>.rt (x:=.ret _) (.mk _ dx) fun Q q=>q⟩
theorem nA.sw(a:nA K)(h:bV a.c 0=false)(e:Expr)(t:Option Expr)(l:Nat):FY (a.r e) t l K.env=pure false:=by
 obtain⟨m,r,c,hc,ok⟩:=a
 cases c with
 |zero=>exact eP h
 |succ c=>exact Xq (hc e) t l
theorem aQp{prog:iB}{wd:eR}{env:Env}{e:Expr}{pos:Pos}{s:aG}{Q:Flow→aG→Prop}(hi:interactive env=false)(hs:FY e none pos.line env=pure false)(h:bB (aK prog wd) A (eval e env) (fun _=>Q .next) s):bB (aK prog wd) A (exec (.Expr e pos) env) Q s:=by
 rw [exec_Expr env e pos hi hs]
 exact bE (pH (bE (hV h fun _ _ q=>fU (wpAny_dropValue q))))
noncomputable def Hr(a:nA K)(h:bV a.c 0=false:=by rfl):yC K:=⟨bd a.m fun _=>rt .next,fun t=>.Expr (a.r (yE t)) t.pos,fun t _ _ z=>(a.ok _ z).ru (u:=fun _ Q=>Q .next) (fun Q q=>aQp (Qc z) (a.sw h _ _ _) q) fun z₁ l₁ dx=>.rt (x:=.next) rfl fun Q q=>q⟩
noncomputable def aAq(i:Nat)(q:lP K i)(a:nA K)(h:bV a.c 0=false:=by rfl):yC K:=⟨bd a.m fun v=>bd (tE i v) fun _=>rt .next,fun t=>.Assign [.Name (nm K.sl i) (yT t).pos] (a.r (yE t)) t.pos,
 fun t _ _ z=>(a.ok _ z).ru (u:=fun x Q=>K.wp _ (storeName K.env (nm K.sl i) x) fun _=>Q .next) (fun Q k=>aQn k (a.sw h _ _ _)) fun z₁ l₁ dx=>IX q dx (rfl:dF _ _ _ Fl.next Flow.next) fun Q k=>k⟩
noncomputable def MK{op:Operator}{f:SV→SV→M SV}(h:gG K (jU op) f)(a b:nA K):nA K:=⟨bd a.m fun x=>bd b.m fun y=>f x y,fun e=>.BinOp (a.r (x1 e)) op (b.r (x2 e)) e.pos,3,fun _=>rfl,
 fun _ _ _ z=>(a.ok _ z).ru (fun Q=>aQo) fun z₁ l₁ dx=>(b.ok _ z₁).bd fun z₂ l₂ dy=>Ia h z₂ (l₂.v dx) dy⟩
structure yD(K:KK) where
 m:M (List SV)
 r:List Expr→List Expr
 k:Nat
 hk:∀ es,(r es).length=k
 st:∀ es,fO (r es) K.env=(r es).map fun e=>(false,eval e K.env)
 ok:∀(es:List Expr) (pos:Pos) {A:aR} {st:St} (z:Z K A st),Go z dL (K.wpG A (pX (gF pos (fO (r es) K.env)))) (m st)
noncomputable def sL:yD K:=⟨rt [],fun _=>[],0,fun _=>rfl,fun _=>rfl,fun _ _ _ _ z=>.rt (x:=[]) rfl fun Q q=>Ez q⟩
noncomputable def kO(a:nA K)(as:yD K):yD K:=⟨HX a.m as.m,fun es=>a.r (dT es)::as.r es.tail,as.k+1,fun es=>congrArg lN (as.hk _),fun es=>(rY (a.hc _) _).trans (congrArg _ (as.st _)),
 fun es pos _ _ z=>by
  rw [rY (a.hc _)]
  exact(a.ok _ z).ru (fun Q q=>Xg q) fun z₁ l₁ dx=>(as.ok _ pos z₁).ru (fun Q q=>q) fun z₂ l₂ ds=>.rt (.mk (l₂.v dx) ds) fun Q q=>q⟩
theorem Uh{es:List Expr}{env:Env}(h:fO es env=es.map fun e=>(false,eval e env))(pos:Pos)(p:Bool×Sem aB)(hp:p∈gF pos (fO es env)):p.1=false:=by
 rw [h] at hp
 obtain⟨q,hq,rfl⟩:=List.mem_map.mp hp
 obtain⟨e,_,rfl⟩:=List.mem_map.mp hq
 rfl
theorem Nj{es:List Expr}{env:Env}(h:fO es env=es.map fun e=>(false,eval e env))(hk:es.length < 30)(pos:Pos):JM (es.length+([]:List Keyword).length) (gF pos (fO es env)) (backToKw pos (PL [] env))=true:=by
 unfold JM
 refine(show(gF pos (fO es env)).all (fun x=> !x.1)=true from List.all_eq_true.mpr fun p q=>by rw [Uh h pos p q];rfl).symm▸?_
 exact decide_eq_true hk
noncomputable def aAw(as:yD K):nA K:=⟨bd as.m kH,fun e=>.List (as.r (xs e)) e.pos,3,fun _=>rfl,fun e _ _ z=>(as.ok _ _ z).ru (fun Q q=>aQr q) fun z₁ l₁ ds=>.plains ds fun xs dl hz=>.newL z₁.s.toks dl fun Q q=>⟨gM hz,q⟩⟩
noncomputable def aAv{f:SV→M SV}(g:GL K f)(a:nA K):nA K:=⟨bd a.m f,a.r,a.c,a.hc,fun e A st z=>(a.ok e z).ru (u:=fun x Q s=>Q x s) (fun Q q=>q) fun z₁ l dx=>g z₁ dx⟩
theorem Ou{fa:Addr}{f:Fn}{vs:List SV}{ws:List aB}(hn:n≤K.n)(hf:sM K.C n fa f)(d:z.d dL vs ws):Go z dV (K.wpG A (call (.ref fa) ws)) (lV f vs st):=fun v s e Q q=>RR (IW hf (z.hA.mono hn) d v s e Q q)
theorem Oq{as:yD K}{es:List Expr}{pos:Pos}{f:List SV→M SV}{fv:aB}{W:Args→WP aB}{w':WP aB}(hk:∀ Q,bB (aK K.C.prog K.C.w) A (evalArgs fv true (gF pos (fO (as.r es) K.env)) []) (fun a s₁=>W a Q s₁) z.s→w' Q z.s)(h:∀ {st₁:St} {vs:List SV} {ws:List aB} (z₁:Z K A st₁),z.le z₁→z₁.d dL vs ws→Go z₁ dV (W ⟨ws,[]⟩) (f vs st₁)):Go z dV w' (bd as.m f st):=
 (as.ok es pos z).ru (u:=fun ws=>W ⟨ws,[]⟩) (fun Q q=>hk Q (aBc q fun t r e=>Uh (as.st _) pos t (by rw [e];exact .head _))) fun z₁ l d=>h z₁ l d
noncomputable def Nv(K:KK)(A:aR)(fa:Addr)(o:Obj)(fd:qT)(first:List aB)(a:Args):WP aB:=fun Q s₁=>(s₁.heap.get? fa=some o∧o.data= .func fd)∧bB (aK K.C.prog K.C.w) A (call (.ref fa) (first++a.pos) a.kw) Q s₁
noncomputable def HC{fa:Addr}{f:Fn}(i:Nat)(g:Gl K.C (nm K.sl i) (.ref fa))(hi:GO K.C fa)(hf:sM K.C n fa f)(as:yD K)(hn:n≤K.n:=by exact bR rfl)(h:eI K.sl i .globalImplicit=true:=by rfl):nA K:=
 ⟨bd as.m fun vs=>lV f vs,fun e=>.Call (.Name (nm K.sl i) (xq e)) (as.r (xs e)) [] e.pos,2,fun _=>rfl,fun e A st z=>by
  obtain⟨o,fd,ho,hd⟩:=hi
  exact Oq (W:=Nv K A fa o fd []) (fun Q q=>Yz (fU (nX h g (Kf q)))) fun z₁ l ds=>(Ou hn hf ds).imp fun Q q=>⟨⟨z₁.R.keeps0 _ _ ho,hd⟩,q⟩⟩
theorem Zc{M:jR}{o:Expr}{env:Env}{apos pos:Pos}{x f:aB}{first:List aB}{name:Str}{k:Nat}{args:List (Bool×Sem aB)}{kws:List (Option Str×Sem aB)}{Q:aB→aG→Prop}{s:aG}(hl:(apos.endLine==pos.line)=true)(hfew:JM k args kws=true)
  (hg:∀(pl:Sem Bool) (Q:aB×List aB→aG→Prop),Q (f,first) s→aI M A (getMethod x name pl) Q nE s) (h:bB M A (oR pos f first args kws) Q s):bB M A (JL o name apos pos env x k args kws) Q s:=by
 unfold JL
 refine(hfew).symm▸?_
 exact bE (nW (fU (hg _ _ (bE (uN (Sm hl) h)))))
noncomputable abbrev Bt(K:KK)(A:aR)(a:Expr)(name:Str)(apos pos:Pos)(es:List Expr)(x:aB):WP aB:=fun Q s=>bB (aK K.C.prog K.C.w) A (JL a name apos pos K.env x (es.length+([]:List Keyword).length) (gF pos (fO es K.env)) (backToKw pos (PL [] K.env))) Q s
theorem Zd(a:PE K)(h:bV a.c 2=false)(e:Expr){name:Str}{apos pos:Pos}{es:List Expr}{Q:aB→aG→Prop}(q:K.wp A (eval (a.r e) K.env) (fun x s=>Bt K A (a.r e) name apos pos es x Q s) z.s):K.wpG A (eval (.Call (.Attribute (a.r e) name apos) es [] pos) K.env) Q z.s:=by
 rw [arm_eval_Call,a.ab h]
 exact bE (fU (fX q fun x s q=>bE (pH q)))
noncomputable def ML{c:Nat}{name:Str}{fa:Addr}{f:Fn}(F:CZ K.C c name fa)(rf:sM K.C n fa f)(a:PE K)(as:yD K)(hn:n≤K.n:=by exact bR rfl)(h:bV a.c 2=false:=by rfl)(hk:bX as.k 30=true:=by rfl):nA K:=
 ⟨bd a.m fun x=>bd (JB c x) fun _=>bd as.m fun vs=>lV f (x::vs),fun e=>.Call (.Attribute (a.r (x1 (x1 e))) name (xq e)) (as.r (xs e)) [] (nM e),4,fun _=>rfl,fun e A st z=>by
  obtain⟨o,fd,ho,hd⟩:=F.is
  refine(a.ok _ z).ru (u:=Bt K A (a.r (x1 (x1 e))) name (xq e) (nM e) (as.r (xs e))) (fun Q q=>Zd a h _ q) fun {a₁ st₁ x} z₁ l₁ dx=> ?_
  refine(Pa (c:=c) dx).ru (u:=fun _=>K.wpG A (oR (nM e) (.ref fa) [x] (gF (nM e) (fO (as.r (xs e)) K.env)) [])) (fun Q q=>Zc (EE e) (Nj (as.st _) (by rw [as.hk];exact Nat.blt_eq.mp hk) _) (fun pl Q k=>q.1.elim fun fs o=>Ol F o k) q.2.2) fun z₂ l₂ _=> ?_
  exact Oq (W:=Nv K A fa o fd [x]) (fun Q q=>Kf q) fun z₃ l₃ ds=>(Ou hn rf (z₃.cons ((l₂.t l₃).v dx) ds)).imp fun Q q=>⟨⟨z₃.R.keeps0 _ _ ho,hd⟩,q⟩⟩
noncomputable def Hw{T id:String}{name:Str}{g:SV→M Unit}{f:SV→SV→M SV}(F:mL T name id)(hg:sN K T g)(hf:UH K (fun x y=>call (.builtin id) [x,y]) f)(a:PE K)(b:nA K)(h:bV a.c 2=false:=by rfl):nA K:=
 ⟨bd a.m fun x=>bd (g x) fun _=>bd b.m fun y=>f x y,fun e=>.Call (.Attribute (a.r (x1 (x1 e))) name (xq e)) [b.r (dT (xs e))] [] (nM e),4,fun _=>rfl,fun e A st z=>by
  have ht:fO [b.r (dT (xs e))] K.env= [(false,eval (b.r (dT (xs e))) K.env)]:=rY (b.hc _) []
  refine(a.ok _ z).ru (u:=Bt K A (a.r (x1 (x1 e))) name (xq e) (nM e) [b.r (dT (xs e))]) (fun Q q=>Zd a h _ q) fun {a₁ st₁ x} z₁ l₁ dx=> ?_
  refine(hg z₁ dx).ru (u:=fun _=>K.wpG A (oR (nM e) (.builtin id) [x] [(false,eval (b.r (dT (xs e))) K.env)] [])) (fun Q q=>Zc (EE e) (Nj ht (show 1 < 30 by decide) _) (fun pl Q k=>getMethod_builtin q.1 F.pa F.slot F.ty q.2.1 k) ((ht).symm▸q.2.2)) fun z₂ l₂ _=> ?_
  exact(b.ok _ z₂).ru (fun Q q=>aDw q) fun z₃ l₃ dy=>hf z₃ ((l₂.t l₃).v dx) dy⟩
theorem aQA{M:jR}{env:Env}{s:aG}{elts es:List Expr}{k k':Nat}{tpos vpos pos:Pos}{names:List Str}{Q:Flow→aG→Prop}(hw:CP [.Tuple elts k tpos] (.Tuple es k' vpos) env=pure (some names))
  (h:bB M A (pX (gF vpos (fO es env))) (fun ws s₁=>ws.length≤fR∧aI M A (unpackItems (.ref s₁.heap.objs.size) names.length none) (fun items s₂=>aI M A (MX (names.reverse.map fun n=>bindName env n) items.reverse) (fun _=>Q .next) nE s₂) nE {s₁ with heap:=s₁.heap.push (mI ws 0)}) s):bB M A (exec (.Assign [.Tuple elts k tpos] (.Tuple es k' vpos) pos) env) Q s:=by
 rw [exec_Assign]
 refine bE (pH ?_)
 refine(show swapsWithSole [.Tuple elts k tpos] (.Tuple es k' vpos) pos.line env=pure false from rfl).symm▸?_
 refine bE (dD ?_)
 rw [if_neg (by decide)]
 refine bE (aQt (hV h fun ws s₁ q=>⟨q.1,?_⟩))
 rw [hw]
 refine bE (dD ?_)
 exact fU (aF (xW (aF (fX q.2 fun _ _ q=>aF (fX q fun _ _ q=>bG q)))))
noncomputable def Hs(l:Nat)(isr:List Nat)(as:yD K){sc:Scope}(he:K.env.scope=sc)(q:tV K isr:=by exact LC rfl)(hs:qD isr.length 1000=true:=by rfl)
  (hw:∀(k k':Nat) (p p':Pos) (es es':List Expr),CP [.Tuple (rN K.sl l isr.reverse es) k p] (.Tuple (as.r es') k' p') (QU sc)=pure (some (isr.reverse.map (nm K.sl))):=by intro _ _ _ _ _ _;rfl):yC K:=
 ⟨bd as.m fun vs=>bd (vS isr vs.reverse) fun _=>rt .next,fun t=>.Assign [.Tuple (rN K.sl l isr.reverse (xs (yT t))) (xk (yT t)) (yT t).pos] (.Tuple (as.r (xs (yE t))) (xk (yE t)) (yE t).pos) t.pos,
  fun t A _ z=>(as.ok _ _ z).ru (fun Q k=>aQA (Fd he (hw _ _ _ _ _ _)) k) fun z₁ l₁ ds=>
   (Pg q hs ds).ru (u:=fun _ Q=>Q .next) (fun Q q=>q) fun z₂ l₂ _=>.rt (x:=.next) rfl fun Q q=>q⟩
noncomputable def Sz:M SV:=fun st=>some (.ref st.cells.length,⟨st.loc,st.cells++[.barr []]⟩)
noncomputable def aAx(i:Nat)(g:Gl K.C (nm K.sl i) (.type "bytearray"))(h:eI K.sl i .globalImplicit=true:=by rfl):nA K:=⟨Sz,fun e=>.Call (.Name (nm K.sl i) (xq e)) [] [] e.pos,2,fun _=>rfl,fun e A st z=>.on fun Q q=>Yz (fU (nX h g (by
 refine aQv (aDz aDC aPt Bs (Q₁:=fun v s₁=>v= .ref z.s.heap.objs.size∧s₁= {z.s with heap:=z.s.heap.push (nJ #[])}) (aBw ⟨rfl,rfl⟩) fun obj s₁ h=> ?_)
 obtain⟨rfl,rfl⟩:=h
 have ho:(z.s.heap.push (nJ #[])).get? z.s.heap.objs.size=some (nJ #[]):=oA _ rfl
 refine⟨⟨_,ho,rfl⟩,aBv ho ⟨rfl,?_⟩⟩
 have Kp:∀ b o,z.s.heap.get? b=some o→((z.s.heap.push (nJ #[])).update z.s.heap.objs.size (wC fun _=>#[])).get? b=some o:=fun b o q=>by
  rw [Heap.get?_update_ne _ _ _ _ (qU (mY q))]
  exact gW _ q
 have ho':((z.s.heap.push (nJ #[])).update z.s.heap.objs.size (wC fun _=>#[])).get? z.s.heap.objs.size=some (nJ #[]):=uQ _ ho rfl
 exact Go.adC (z:=z.to {z.s with heap:=(z.s.heap.push (nJ #[])).update z.s.heap.objs.size (wC fun _=>#[])} (z.R.still.to _ _) Kp) (c:=.barr []) (p:=RV []) (z.R.fresh (cZ _)) ho' (fun _=>.mk #[] rfl) id _ _ rfl Q fun z' x l d=>q _ _ rfl z' x l d)))⟩
noncomputable def Iu(a b:SV):M SV:=FL a (fun k l=>gT b (fun i=>gd ((decide (0≤i) && decide (i < 256)) && decide (l.length≤100000)) (JU k (.barr (l++[i.toNat])))) er) er
theorem aLS:UH K (fun x y=>call (.builtin "bytearray.append") [x,y]) Iu:=fun {A st} z a b x y dx dy=>
 .onBA (T:=fun x=>K.wpG A (call (.builtin "bytearray.append") [x,y])) dx (fun k b hw ho=>.onI (T:=fun y=>K.wpG A (call (.builtin "bytearray.append") [.ref (z.X.ρ k),y])) dy (fun i t=>.gd fun e=>by
  have e:=hZ _ _▸e
  have e':=hZ _ _▸e.1
  have h0:=of_decide_eq_true e'.1
  have h1:=of_decide_eq_true e'.2
  have hz:=of_decide_eq_true e.2
  rw [bT,qB] at hz
  have ho':(z.s.heap.update (z.X.ρ k) (wC (·.push i.toNat.toUInt8))).get? (z.X.ρ k)=some (nJ (b.push i.toNat.toUInt8)):=uQ _ ho rfl
  exact .setC (D:=dV) (x:=Value.none) _ z.s.toks hw (sF ..) ⟨_,ho'⟩ (.mk _ hw ho' (.mk _ (by
   rw [Array.toList_push,cW]
   exact congrArg (fun x=>_++[x]) (Cn h0 h1)))) rfl fun Q q=>aBt ho h0 h1 (Rz (aP hz (bR rfl))) q) .er) .er
end
noncomputable abbrev kN:M SV:=rt (.pv .none)
noncomputable abbrev kB(b:Bool):M SV:=rt (.pv (.bool b))
noncomputable abbrev kI(i:Int):M SV:=rt (.pv (.int i))
noncomputable abbrev kS(l:List Nat):M SV:=rt (.pv (.str l))
noncomputable abbrev kY(l:List Nat):M SV:=rt (.pv (.bytes l))
noncomputable abbrev b2(m₁ m₂:M SV)(f:SV→SV→M SV):M SV:=bd m₁ fun a=>bd m₂ fun b=>f a b
noncomputable abbrev b3(m₁ m₂ m₃:M SV)(f:SV→SV→SV→M SV):M SV:=bd m₁ fun a=>bd m₂ fun b=>bd m₃ fun c=>f a b c
noncomputable abbrev c2(m₁ m₂:M SV)(f:SV→SV→M Bool):M SV:=bd m₁ fun a=>bd m₂ fun b=>bd (f a b) fun r=>rt (.pv (.bool r))
noncomputable abbrev t2(m₁ m₂:M SV)(f:SV→SV→M Bool):M Bool:=bd m₁ fun a=>bd m₂ fun b=>f a b
noncomputable abbrev tn(m:M Bool):M Bool:=bd m fun b=>rt (!b)
noncomputable abbrev tv(m:M SV):M Bool:=bd m zZ
noncomputable abbrev vn(m:M SV):M SV:=bd m fun a=>bd (zZ a) fun b=>rt (.pv (.bool (!b)))
noncomputable abbrev vor(m₁ m₂:M SV):M SV:=bd m₁ fun a=>bd (zZ a) fun t=>match t with | true=>rt a | false=>m₂
noncomputable abbrev AA(m ms:M SV):M SV:=bd m fun a=>bd (zZ a) fun t=>match t with | true=>ms | false=>rt a
noncomputable abbrev jB(mt:M Bool)(mb mo:M SV):M SV:=bd mt fun c=>match c with | true=>mb | false=>mo
noncomputable abbrev cf(f:Fn)(ms:M (List SV)):M SV:=bd ms fun as=>lV f as
noncomputable abbrev nw(c:Nat)(f:Fn)(ms:M (List SV)):M SV:=bd ms fun as=>QF c f as
noncomputable abbrev mV(g:SV→M Unit)(f:SV→M SV)(m₀:M SV):M SV:=bd m₀ fun a=>bd (g a) fun _=>f a
noncomputable abbrev bL(g:SV→M Unit)(f:SV→SV→M SV)(m₀ m₁:M SV):M SV:=bd m₀ fun a=>bd (g a) fun _=>bd m₁ fun b=>f a b
noncomputable abbrev CA(g:SV→M Unit)(f:SV→SV→SV→M SV)(m₀ m₁ m₂:M SV):M SV:=bd m₀ fun a=>bd (g a) fun _=>bd m₁ fun b=>bd m₂ fun c=>f a b c
noncomputable abbrev mc(c:Nat)(f:Fn)(m₀:M SV)(ms:M (List SV)):M SV:=bd m₀ fun a=>bd (JB c a) fun _=>bd ms fun as=>lV f (a::as)
noncomputable abbrev pV(m:M SV)(ml mh:M (Option Int)):M SV:=bd m fun a=>bd ml fun l=>bd mh fun u=>QZ a l u
noncomputable abbrev bA(i:Nat)(m:M SV):M Fl:=bd m fun v=>bd (tE i v) fun _=>rt .next
noncomputable abbrev eU(f:SV→SV→M Unit)(me mo:M SV):M Fl:=bd me fun c=>bd mo fun a=>bd (f a c) fun _=>rt .next
noncomputable abbrev gH(f:SV→SV→SV→M Unit)(me mo mi:M SV):M Fl:=bd me fun c=>bd mo fun a=>bd mi fun b=>bd (f a b c) fun _=>rt .next
noncomputable abbrev nI(is:List Nat)(ms:M (List SV)):M Fl:=bd ms fun vs=>bd (vS is vs) fun _=>rt .next
noncomputable abbrev oQ(is:List Nat)(ms:M (List SV)):M Fl:=bd ms fun vs=>bd (vS is vs.reverse) fun _=>rt .next
noncomputable abbrev vB(is:List Nat)(m:M SV):M Fl:=bd m fun v=>bd (Fw is v) fun _=>rt .next
noncomputable abbrev au(i:Nat)(f:SV→SV→M SV)(m:M SV):M Fl:=bd (aA i) fun a=>bd m fun b=>bd (f a b) fun c=>bd (tE i c) fun _=>rt .next
noncomputable abbrev Jc(g:SV→M SV)(f:SV→SV→M SV)(k:SV→SV→M Unit)(mo m:M SV):M Fl:=bd mo fun x=>bd (g x) fun a=>bd m fun b=>bd (f a b) fun c=>bd (k x c) fun _=>rt .next
noncomputable abbrev fo(src:M SV)(g:PV→M Unit)(m:M Fl):M Fl:=IL dN src fun x=>bd (g x) fun _=>m
noncomputable abbrev foC(src:M SV)(g:PV→M Unit)(m:M Fl):M Fl:=Nx 100 src fun x=>bd (g x) fun _=>m
noncomputable abbrev nT(i:Nat):PV→M Unit:=fun v=>tE i (.pv v)
noncomputable abbrev bJ(mt:M Bool)(mb mo:M Fl):M Fl:=bd mt fun c=>match c with | true=>mb | false=>mo
noncomputable abbrev re(m:M SV):M Fl:=bd m fun v=>rt (.ret v)
noncomputable abbrev ex(m:M SV):M Fl:=bd m fun _=>rt .next
noncomputable abbrev pa(m:M SV):M (Option Int):=bd m Ja
noncomputable abbrev ge(f:SV→M SV)(m:M SV):M SV:=bd m f
noncomputable abbrev gu(u:M Unit)(m:M SV):M SV:=bd u fun _=>m
noncomputable def ar:List (M SV)→M (List SV)
 | []=>rt []
 |m::ms=>HX m (ar ms)
noncomputable def bl:List (M Fl)→M Fl
 | []=>rt .next
 |m::ms=>sq m (bl ms)
noncomputable abbrev aZ(ms:M (List SV))(f:List SV→M SV):M SV:=bd ms f
noncomputable abbrev mA:=wV fun a b=>decide (a < b)
noncomputable abbrev sR:=wV fun a b=>decide (b < a)
noncomputable abbrev rO:=wV fun a b=>decide (b≤a)
section
variable{C:Cx}{n:Nat}{sl:aL}{a:Addr}{sc:Scope}{body:List Stmt}{names:List Str}{g:List SV→Option (List SV)}{m:M Fl}{k:Nat}
theorem bW(P:lB C a sc body names g)(pk:∀ env:Env,env.scope=sc→env.func.isSome=true→PS ⟨C,n,sl,env⟩)(hm:∀ env he hf,(pk env he hf).m=m:=by intro _ _ _;kernel_rfl)(hr:∀ env he hf,(pk env he hf).r body=body:=by intro _ _ _;kernel_rfl)
  (hsl:sc.names=sl:=by rfl) (hnm:(sl.take names.length).map (·.1)=names:=by rfl) (hpk:De sl names.length=true:=by rfl) (hk:sl.length=k:=by rfl):RF C (n+1) a (bH k g m):=by
 obtain⟨fd,P1,hs,hb⟩:=P.ex
 subst hs;subst hk
 exact aAG P1 hsl ⟨hnm,hpk⟩ hb fun env he hf A st z=>by rw [←hr env he hf,←hm env he hf];exact(pk env he hf).ok body z
theorem DJ(P:lB C a sc body names g)(pk:∀ env:Env,env.scope=sc→env.func.isSome=true→DF ⟨C,n,sl,env⟩)(hm:∀ env he hf,(pk env he hf).m=m:=by intro _ _ _;kernel_rfl)(hr:∀ env he hf,(pk env he hf).r body=body:=by intro _ _ _;kernel_rfl)
  (hsl:sc.names=sl:=by rfl) (hnm:(sl.take names.length).map (·.1)=names:=by rfl) (hpk:De sl names.length=true:=by rfl) (hk:sl.length=k:=by rfl):sM C (n+1) a (bH k g m):=by
 obtain⟨fd,P1,hs,hb⟩:=P.ex
 subst hs;subst hk
 exact aAF P1 hsl ⟨hnm,hpk⟩ hb fun env he hf A st z=>by rw [←hr env he hf,←hm env he hf];exact(pk env he hf).ok body z
end
theorem aLU{K:KK}{A:aR}{st:St}(z:Z K A st){i:Nat}{xs:List PV}{vs:List aB}{ep:Nat}(hi:i < st.cells.length)(hw:z.X.W (z.X.ρ i)=some (.cell i))(ho:z.s.heap.get? (z.X.ρ i)=some (cC vs ep))(d:bQ K.C z.X xs vs)(Q:aB→aG→Prop)
  (q:∀(z':Z K A st) it o pi ok,z.le z'→z'.X.W it=none→z'.s.heap.get? it=some o→pJ K.C it (xI i) pi ok→pi 0 o→ok z'.X st.cells.length→Q (.ref it) z'.s):K.wp A (pyIter (.ref (z.X.ρ i))) Q z.s:=
 Gi ⟨_,ho,rfl,_,rfl⟩ (CH z rfl aGV ⟨rfl,rfl⟩ ⟨hi,rfl⟩ q)
theorem Sl{K:KK}{i:Nat}(e:eI K.sl i .local=true:=by rfl):lP K i:=.inl e
theorem Sc{K:KK}{i:Nat}(h:K.env.func.isSome=true)(e:eI K.sl i .cell=true:=by rfl):lP K i:=.inr ⟨e,h⟩
noncomputable def gN(k:Nat)(as:List SV):Option (List SV):=match bV as.length k with
 |true=>some as
 |false=>none
noncomputable def gD(k:Nat)(ds:List PV)(as:List SV):Option (List SV):=match bV as.length k with
 |true=>some (as++ds.map .pv)
 |false=>none
noncomputable def gO(f g:List SV→Option (List SV))(as:List SV):Option (List SV):=match f as with
 |some r=>some r
 |none=>g as
section
noncomputable def aY(l:List Stmt)(i:Nat):Stmt:=match l[i]? with
 |some s=>s
 |none=>.Pass default
noncomputable def pT:Stmt→Arguments
 |.FunctionDef _ p _ _ _ _ _ _ _ _=>p
 |_=>default
noncomputable def rK:Stmt→List Stmt
 |.FunctionDef _ _ b _ _ _ _ _ _ _=>b
 |_=>[]
noncomputable def rL:Stmt→Scope
 |.FunctionDef _ _ _ _ _ _ s _ _ _=>s
 |_=>default
noncomputable def eV:Stmt→List Stmt
 |.ClassDef _ _ _ b _ _ _ _ _ _ _=>b
 |_=>[]
noncomputable def fL(s:Stmt):List Str:=(pT s).args.map (·.arg)
noncomputable abbrev pB:List Stmt:=PySem.Challenge.pw_nt0314_01.main.body
noncomputable def tg{α:Type}(d:α)(l:List α)(i:Nat):α:=match l[i]? with
 |some r=>r
 |none=>d
noncomputable abbrev fu(a i:Nat):Addr×Stmt:=(a,aY pB i)
noncomputable abbrev me(a i j:Nat):Addr×Stmt:=(a,aY (eV (aY pB i)) j)
noncomputable def tF:List (Addr×Stmt):=[fu 354 39,me 610 54 1,me 799 71 0,me 383 41 1,fu 1000 84,fu 931 73,fu 938 74,fu 945 75,fu 950 76,fu 955 77,fu 976 80,fu 983 81,fu 988 82,fu 995 83,me 687 63 0,fu 95 17,me 124 19 1,fu 83 15,fu 785 69,me 806 71 1,fu 722 64,me 708 63 3,me 750 66 1,me 694 63 1,fu 673 62,fu 666 61,fu 729 65,fu 771 67,fu 778 68,me 820 71 3,me 743 66 0,me 813 71 2,fu 962 78,fu 969 79,fu 1007 85,me 520 50 3,me 534 50 5,me 555 51 0,me 862 71 9,me 883 71 12,me 890 71 13,me 513 50 2,me 562 51 1,fu 442 42,me 603 54 0,fu 456 44,fu 463 45,fu 470 46,me 897 71 14,fu 449 43,fu 477 47,fu 361 40,fu 622 55,me 636 56 0,me 187 22 0,me 194 22 1,me 199 22 2,me 220 23 0,me 145 21 0,me 248 23 4,fu 311 24,me 255 23 5,me 241 23 3,me 234 23 2,me 262 23 6,me 227 23 1,fu 325 26,fu 347 29,fu 102 18,fu 650 57,fu 589 53,fu 1012 86]
noncomputable def tC:List (Str×PV):=[(("ADDED":Str),.str [65]),(("BLOB":Str),.bytes [98,108,111,98]),(("DIR":Str),.int 16384),(("EXEC":Str),.int 33261),(("FILE":Str),.int 33188),(("FOLDER":Str),.str [102,111,108,100,101,114]),(("GONE":Str),.str [68]),(("LINK":Str),.int 40960),(("MODULE":Str),.str [109,111,100,117,108,101]),(("OTHER":Str),.str [77]),(("OTHER_KIND":Str),.str [84]),(("PLAIN":Str),.str [102,105,108,101]),(("POINTER":Str),.str [108,105,110,107]),(("SUB":Str),.int 57344),(("TREE":Str),.bytes [116,114,101,101])]
noncomputable def tB:List (Str×aB):=[(("any":Str),.builtin "any"),(("bytearray":Str),.type "bytearray"),(("bytes":Str),.type "bytes"),(("dict":Str),.type "dict"),(("int":Str),.type "int"),(("isinstance":Str),.builtin "isinstance"),(("len":Str),.builtin "len"),(("list":Str),.type "list"),(("max":Str),.builtin "max"),(("min":Str),.builtin "min"),(("ord":Str),.builtin "ord"),(("range":Str),.type "range"),(("sorted":Str),.builtin "sorted"),(("str":Str),.type "str"),(("tuple":Str),.type "tuple")]
noncomputable def tG:List (Str×Addr):=[(("big_endian":Str),95),(("broken":Str),584),(("by":Str),347),(("check_tree":Str),778),(("combined":Str),622),(("diff_trees":Str),483),(("_law_broken":Str),1000),(("_law_deck":Str),931),(("_law_draw":Str),938),(("_law_file":Str),950),(("_law_is_text":Str),976),(("_law_line":Str),945),(("_law_lines":Str),983),(("_law_next":Str),955),(("_law_numbers":Str),988),(("_law_row":Str),995),(("_law_tree":Str),969),(("_law_version":Str),962),(("_law_word":Str),1007),(("line_further":Str),311),(("lines_of":Str),102),(("myers":Str),325),(("object_are_all":Str),673),(("object_by_eights":Str),722),(("object_has_sign":Str),666),(("object_name_fault":Str),729),(("object_octets":Str),785),(("octets_of":Str),83),(("tree_faults":Str),771),(("treediff_added":Str),456),(("treediff_beside":Str),470),(("treediff_content":Str),650),(("treediff_entries":Str),449),(("treediff_gone":Str),463),(("treediff_is_alike":Str),477),(("treediff_is_binary":Str),491),(("treediff_joined":Str),361),(("treediff_kind":Str),354),(("treediff_numbers":Str),658),(("treediff_order":Str),442),(("treediff_rejoined":Str),589)]
noncomputable def tK:List Str:=[("CountingHasher":Str),("Change":Str),("LineNumbers":Str),("LineSheet":Str),("PathChange":Str),("Spans":Str),("TreediffContents":Str),("CombinedChange":Str),("TreediffNumbers":Str),("Entry":Str),("Tree":Str),("MemoryStore":Str)]
noncomputable def tM:List (Nat×Str×Addr):=[(7,("words":Str),610),(0,("digest":Str),124),(9,("octets":Str),708),(9,("sort_key":Str),694),(2,("number_of":Str),194),(2,("numbers_of":Str),199),(3,("changes":Str),248),(3,("halved":Str),255),(3,("mark":Str),241),(3,("mark_fewest":Str),262),(3,("trimmed":Str),234),(3,("whole":Str),227),(11,("blob":Str),890),(11,("keep":Str),806),(11,("of_kind":Str),883),(11,("row_of":Str),862),(11,("tree":Str),897),(11,("write":Str),813),(11,("write_tree":Str),820),(4,("new_half":Str),414),(4,("old_half":Str),406),(5,("percent_gone":Str),534),(5,("put":Str),513),(5,("shared":Str),520),(10,("octets":Str),750),(6,("spans":Str),562)]
noncomputable def tI:List Addr:=[117,145,187,220,376,506,555,603,636,687,743,799]
noncomputable def VP:List (Nat×Nat):=[(0,0),(5,0)]
noncomputable def VB:List (Nat×Nat):=[(0,1),(2,0)]
noncomputable def UN:List (Nat×Nat):=[(1,0)]
noncomputable def UO:List (Nat×Nat):=[(1,1)]
noncomputable def UQ:List (Nat×Nat):=[(1,2)]
noncomputable def UR:List (Nat×Nat):=[(1,3)]
noncomputable def Ih:List (Nat×Nat):=[(2,1)]
noncomputable def UU:List (Nat×Nat):=[(2,2)]
noncomputable def UM:List (Nat×Nat):=[(3,0)]
noncomputable def UP:List (Nat×Nat):=[(3,1)]
noncomputable def UY:List (Nat×Nat):=[(3,2)]
noncomputable def UT:List (Nat×Nat):=[(3,3)]
noncomputable def VS:List (Nat×Nat):=[(4,0)]
noncomputable def VJ:List (Nat×Nat):=[(4,1)]
noncomputable def VI:List (Nat×Nat):=[(4,2)]
noncomputable def VK:List (Nat×Nat):=[(4,3)]
noncomputable def VF:List (Nat×Nat):=[(4,4),(7,2)]
noncomputable def VE:List (Nat×Nat):=[(4,5),(7,3)]
noncomputable def VG:List (Nat×Nat):=[(4,6)]
noncomputable def VO:List (Nat×Nat):=[(4,7)]
noncomputable def UW:List (Nat×Nat):=[(5,1)]
noncomputable def VQ:List (Nat×Nat):=[(6,0)]
noncomputable def US:List (Nat×Nat):=[(6,1)]
noncomputable def VM:List (Nat×Nat):=[(7,0),(8,0)]
noncomputable def VL:List (Nat×Nat):=[(7,1)]
noncomputable def VN:List (Nat×Nat):=[(8,1)]
noncomputable def VR:List (Nat×Nat):=[(8,2)]
noncomputable def VC:List (Nat×Nat):=[(9,0)]
noncomputable def VD:List (Nat×Nat):=[(9,1)]
noncomputable def VH:List (Nat×Nat):=[(9,2)]
noncomputable def UX:List (Nat×Nat):=[(10,0)]
noncomputable def UZ:List (Nat×Nat):=[(11,0)]
noncomputable def VA:List (Nat×Nat):=[(11,1)]
noncomputable def tA:List (Str×List (Nat×Nat)):=[(("size":Str),VP),(("known":Str),VB),(("a_from":Str),UN),(("a_to":Str),UO),(("b_from":Str),UQ),(("b_to":Str),UR),(("strange":Str),Ih),(("count":Str),UU),(("a":Str),UM),(("b":Str),UP),(("gone":Str),UY),(("come":Str),UT),(("word":Str),VS),(("old_mode":Str),VJ),(("old_id":Str),VI),(("old_path":Str),VK),(("new_mode":Str),VF),(("new_id":Str),VE),(("new_path":Str),VG),(("score":Str),VO),(("counts":Str),UW),(("store":Str),VQ),(("by_id":Str),US),(("path":Str),VM),(("olds":Str),VL),(("put_in":Str),VN),(("taken_out":Str),VR),(("mode":Str),VC),(("name":Str),VD),(("oid":Str),VH),(("entries":Str),UX),(("hasher":Str),UZ),(("kept":Str),VA)]
noncomputable def vJ:Nat→Addr×Stmt:=tg (0,.Pass default) tF
noncomputable def EP:Nat→Str×PV:=tg ("",.none) tC
noncomputable def IS:Nat→Str×aB:=tg ("",.none) tB
noncomputable def IV:Nat→Str×Addr:=tg ("",0) tG
noncomputable def ZO:Nat→Str:=tg "" tK
noncomputable def FJ:Nat→Nat×Str×Addr:=tg (0,"",0) tM
noncomputable def QH:Nat→Addr:=tg 0 tI
noncomputable def xU:Nat→Str×List (Nat×Nat):=tg ("",[]) tA
structure bM(C:Cx):Prop where
 fn:∀ i,bX i 72=true→lB C (vJ i).1 (rL (vJ i).2) (rK (vJ i).2) (fL (vJ i).2) (gN (fL (vJ i).2).length)
 gc:∀ i,bX i 15=true→GN C (EP i).1 (EP i).2
 gb:∀ i,bX i 15=true→Gl C (IS i).1 (IS i).2
 gf:∀ i,bX i 41=true→Gl C (IV i).1 (.ref (IV i).2)
 gk:∀ i,bX i 12=true→Gl C (ZO i) (.ref (C.cls i))
 mt:∀ i,bX i 26=true→CZ C (FJ i).1 (FJ i).2.1 (FJ i).2.2
 nw:∀ i,bX i 12=true→MF C i (QH i)
 tb:∀ i,bX i 33=true→HI C (xU i).1 (xU i).2
 p_CountingHasher_I:lB C 117 (rL (aY (eV (aY pB 19)) 0)) (rK (aY (eV (aY pB 19)) 0)) (fL (aY (eV (aY pB 19)) 0)) (gN 2)
 p_PathChange_I:lB C 376 (rL (aY (eV (aY pB 41)) 0)) (rK (aY (eV (aY pB 41)) 0)) (fL (aY (eV (aY pB 41)) 0)) (gO (gN 9) (gD 8 [.none]))
 p_PathChange_new_half:lB C 414 (rL (aY (eV (aY pB 41)) 5)) (rK (aY (eV (aY pB 41)) 5)) (fL (aY (eV (aY pB 41)) 5)) (gN 2)
 p_PathChange_old_half:lB C 406 (rL (aY (eV (aY pB 41)) 4)) (rK (aY (eV (aY pB 41)) 4)) (fL (aY (eV (aY pB 41)) 4)) (gN 2)
 p_treediff_is_binary:lB C 491 (rL (aY pB 49)) (rK (aY pB 49)) (fL (aY pB 49)) (gD 1 [.int 8000])
 p_Spans_I:lB C 506 (rL (aY (eV (aY pB 50)) 1)) (rK (aY (eV (aY pB 50)) 1)) (fL (aY (eV (aY pB 50)) 1)) (gD 2 [.int 64])
 p_broken:lB C 584 (rL (aY pB 52)) (rK (aY pB 52)) (fL (aY pB 52)) (gN 4)
 p_diff_trees:lB C 483 (rL (aY pB 48)) (rK (aY pB 48)) (fL (aY pB 48)) (gD 3 [.bytes [],.bool true])
 p_treediff_numbers:lB C 658 (rL (aY pB 58)) (rK (aY pB 58)) (fL (aY pB 58)) (gD 2 [.str [109,121,101,114,115]])
 g_OBJECT_MODES:GN C "OBJECT_MODES" (.tup [.int 33188,.int 33261,.int 40960,.int 16384,.int 57344])
 fsz:∀ c,(C.fld c).length≤20
 a_WRAP:∀ {n sl env},qW ⟨C,n,sl,env⟩ "WRAP" (WK 5 (.int 2147483647))
 a_path:∀ {n m sl env f},n+1≤m→RF C n 383 f→qW ⟨C,m,sl,env⟩ "path" (Dp 4 f)
variable{C:Cx}{n:Nat}{sl:aL}{env:Env}
theorem aQ(H:bM C)(i:Nat)(h:bX i 33=true):qW ⟨C,n,sl,env⟩ (xU i).1 (fS (xU i).2):=Vy (H.tb i h)
theorem eT(H:bM C)(i:Nat)(h:bX i 33=true):MM ⟨C,n,sl,env⟩ (xU i).1 (fN (xU i).2):=aMd (H.tb i h) H.fsz
noncomputable abbrev qZ:SV→M SV:=fS VP
noncomputable abbrev Fz:SV→SV→M Unit:=fN VP
noncomputable abbrev uZ:SV→M SV:=fS VB
noncomputable abbrev Yo:SV→SV→M Unit:=fN VB
noncomputable abbrev VV:SV→M SV:=fS UN
noncomputable abbrev aPM:SV→SV→M Unit:=fN UN
noncomputable abbrev VW:SV→M SV:=fS UO
noncomputable abbrev aPN:SV→SV→M Unit:=fN UO
noncomputable abbrev VX:SV→M SV:=fS UQ
noncomputable abbrev aPP:SV→SV→M Unit:=fN UQ
noncomputable abbrev VY:SV→M SV:=fS UR
noncomputable abbrev aPQ:SV→SV→M Unit:=fN UR
noncomputable abbrev aQj:SV→SV→M Unit:=fN Ih
noncomputable abbrev Ij:SV→M SV:=fS UU
noncomputable abbrev Yn:SV→SV→M Unit:=fN UU
noncomputable abbrev AV:SV→M SV:=fS UM
noncomputable abbrev w_a:SV→SV→M Unit:=fN UM
noncomputable abbrev AW:SV→M SV:=fS UP
noncomputable abbrev w_b:SV→SV→M Unit:=fN UP
noncomputable abbrev Ik:SV→M SV:=fS UY
noncomputable abbrev aPV:SV→SV→M Unit:=fN UY
noncomputable abbrev Ii:SV→M SV:=fS UT
noncomputable abbrev aPS:SV→SV→M Unit:=fN UT
noncomputable abbrev wM:SV→M SV:=fS VS
noncomputable abbrev aQl:SV→SV→M Unit:=fN VS
noncomputable abbrev qY:SV→M SV:=fS VJ
noncomputable abbrev aQd:SV→SV→M Unit:=fN VJ
noncomputable abbrev oO:SV→M SV:=fS VI
noncomputable abbrev aQc:SV→SV→M Unit:=fN VI
noncomputable abbrev MS:SV→M SV:=fS VK
noncomputable abbrev aQe:SV→SV→M Unit:=fN VK
noncomputable abbrev oN:SV→M SV:=fS VF
noncomputable abbrev Yq:SV→SV→M Unit:=fN VF
noncomputable abbrev lR:SV→M SV:=fS VE
noncomputable abbrev Yp:SV→SV→M Unit:=fN VE
noncomputable abbrev HL:SV→M SV:=fS VG
noncomputable abbrev aQa:SV→SV→M Unit:=fN VG
noncomputable abbrev WC:SV→M SV:=fS VO
noncomputable abbrev aQh:SV→SV→M Unit:=fN VO
noncomputable abbrev AX:SV→M SV:=fS UW
noncomputable abbrev aPT:SV→SV→M Unit:=fN UW
noncomputable abbrev aAL:SV→M SV:=fS VQ
noncomputable abbrev aQi:SV→SV→M Unit:=fN VQ
noncomputable abbrev VZ:SV→M SV:=fS US
noncomputable abbrev aPR:SV→SV→M Unit:=fN US
noncomputable abbrev Yr:SV→SV→M Unit:=fN VM
noncomputable abbrev WA:SV→M SV:=fS VL
noncomputable abbrev aQf:SV→SV→M Unit:=fN VL
noncomputable abbrev WB:SV→M SV:=fS VN
noncomputable abbrev aQg:SV→SV→M Unit:=fN VN
noncomputable abbrev WD:SV→M SV:=fS VR
noncomputable abbrev aQk:SV→SV→M Unit:=fN VR
noncomputable abbrev oM:SV→M SV:=fS VC
noncomputable abbrev aPY:SV→SV→M Unit:=fN VC
noncomputable abbrev tX:SV→M SV:=fS VD
noncomputable abbrev aPZ:SV→SV→M Unit:=fN VD
noncomputable abbrev qX:SV→M SV:=fS VH
noncomputable abbrev aQb:SV→SV→M Unit:=fN VH
noncomputable abbrev MQ:SV→M SV:=fS UX
noncomputable abbrev aPU:SV→SV→M Unit:=fN UX
noncomputable abbrev aAK:SV→M SV:=fS UZ
noncomputable abbrev aPW:SV→SV→M Unit:=fN UZ
noncomputable abbrev MR:SV→M SV:=fS VA
noncomputable abbrev aPX:SV→SV→M Unit:=fN VA
noncomputable abbrev a_WRAP:SV→M SV:=WK 5 (.int 2147483647)
theorem aJK(H:bM C):qW ⟨C,n,sl,env⟩ "WRAP" a_WRAP:=H.a_WRAP
noncomputable abbrev FA:M SV:=rt (.pv (.str [65]))
noncomputable abbrev An:M SV:=rt (.pv (.bytes [98,108,111,98]))
noncomputable abbrev FC:M SV:=rt (.pv (.int 16384))
noncomputable abbrev Ao:M SV:=rt (.pv (.int 33261))
noncomputable abbrev PH:M SV:=rt (.pv (.int 33188))
noncomputable abbrev Qr:M SV:=rt (.pv (.str [102,111,108,100,101,114]))
noncomputable abbrev BU:M SV:=rt (.pv (.str [68]))
noncomputable abbrev aHf:M SV:=rt (.pv (.int 40960))
noncomputable abbrev Ap:M SV:=rt (.pv (.str [109,111,100,117,108,101]))
noncomputable abbrev FD:M SV:=rt (.pv (.str [77]))
noncomputable abbrev Qt:M SV:=rt (.pv (.str [84]))
noncomputable abbrev BV:M SV:=rt (.pv (.str [102,105,108,101]))
noncomputable abbrev aHg:M SV:=rt (.pv (.str [108,105,110,107]))
noncomputable abbrev aHh:M SV:=rt (.pv (.int 57344))
noncomputable abbrev Qu:M SV:=rt (.pv (.bytes [116,114,101,101]))
noncomputable abbrev Qs:M SV:=rt (.pv (.tup [.int 33188,.int 33261,.int 40960,.int 16384,.int 57344]))
end
section
variable{C:Cx}
noncomputable def aMY:aL:=[("self",.local)]
noncomputable def aCz:M Fl:=(bl [(re (jB (t2 (ge HL (aA 0)) kN oU) (ge MS (aA 0)) (ge HL (aA 0))))])
noncomputable def My:Fn:=(cK 0 (bH 1 (gN 1) aCz))
theorem aKq(H:bM C):RF C 1 383 My:=
 (cU 0 (bW (sl:=aMY) (H.fn 3 rfl) (fun env he hf=>
 (aC (bS (lF (aV rV (aM (aQ H 18 rfl) (L 0)) Kn) (aM (aQ H 15 rfl) (L 0)) (aM (aQ H 18 rfl) (L 0)))) aE))))
noncomputable abbrev a_path:SV→M SV:=fun a=>al (fS VM a) (Dp 4 My a)
theorem zS(H:bM C)(hn:1+1≤n):qW ⟨C,n,sl,env⟩ "path" a_path:=aAH (Vy (H.tb 23 rfl)) (H.a_path hn (aKq H))
noncomputable def aOo:aL:=[("mode",.local),("DIR",.globalImplicit),("FOLDER",.globalImplicit),("LINK",.globalImplicit),("POINTER",.globalImplicit),("SUB",.globalImplicit),("MODULE",.globalImplicit),("PLAIN",.globalImplicit)]
noncomputable def aDr:M Fl:=(bl [(bJ (t2 (aA 0) FC cN) (bl [(re Qr)]) (bl [])),
 (bJ (t2 (aA 0) aHf cN) (bl [(re aHg)]) (bl [])),
 (re (jB (t2 (aA 0) aHh cN) Ap BV))])
noncomputable def rJ:Fn:=(cK 0 (bH 8 (gN 1) aDr))
theorem CI(H:bM C):RF C 1 354 rJ:=
 (cU 0 (bW (sl:=aOo) (H.fn 0 rfl) (fun env he hf=>
 (aC (cG (aV fA (L 0) (Gc 1 (H.gc 2 rfl))) (aC (bS (Gc 2 (H.gc 5 rfl))) aE) aE) (aC (cG (aV fA (L 0) (Gc 3 (H.gc 7 rfl))) (aC (bS (Gc 4 (H.gc 12 rfl))) aE) aE) (aC (bS (lF (aV fA (L 0) (Gc 5 (H.gc 13 rfl))) (Gc 6 (H.gc 8 rfl)) (Gc 7 (H.gc 11 rfl)))) aE))))))
noncomputable def aMw:aL:=[("self",.local),("found",.local),("mode",.local),("oid",.local),("ADDED",.globalImplicit),("GONE",.globalImplicit),("treediff_kind",.globalImplicit),("OTHER",.globalImplicit),("OTHER_KIND",.globalImplicit)]
noncomputable def aCa:M Fl:=(bl [(bA 1 (kS [])),
 (fo (ge WA (aA 0)) (RH [2,3]) (bl [(bJ (t2 (aA 3) kN oU) (bl [(au 1 jM FA)]) (bl [(bJ (t2 (ge lR (aA 0)) kN oU) (bl [(au 1 jM BU)]) (bl [(au 1 jM (jB (t2 (cf rJ (ar [(aA 2)])) (cf rJ (ar [(ge oN (aA 0))])) cN) FD Qt))]))]))])),
 (re (aA 1))])
noncomputable def YA:Fn:=(cK 0 (bH 9 (gN 1) aCa))
theorem aJV(H:bM C):RF C 2 610 YA:=
 (cU 0 (bW (sl:=aMw) (H.fn 1 rfl) (fun env he hf=>
 (aC (cD 1 Sl (Ks "" [])) (aC (iC dC (aM (aQ H 24 rfl) (L 0)) (aAp 484 [2,3]) (aC (cG (aV rV (L 3) Kn) (aC (nD 1 nP (Gc 4 (H.gc 0 rfl))) aE) (aC (cG (aV rV (aM (aQ H 17 rfl) (L 0)) Kn) (aC (nD 1 nP (Gc 5 (H.gc 6 rfl))) aE) (aC (nD 1 nP (lF (aV fA (cI 6 (H.gf 37 rfl) (H.fn 0 rfl).is (CI H) (aD (L 2) aH)) (cI 6 (H.gf 37 rfl) (H.fn 0 rfl).is (CI H) (aD (aM (aQ H 16 rfl) (L 0)) aH))) (Gc 7 (H.gc 9 rfl)) (Gc 8 (H.gc 10 rfl)))) aE)) aE)) aE)) (aC (bS (L 1)) aE))))))
noncomputable def aMx:aL:=[("self",.local),("size",.local)]
noncomputable def aCb:M Fl:=(bl [(eU Fz (aA 1) (aA 0)),
 (eU Yo (uH .bytes) (aA 0))])
noncomputable def Ms:Fn:=(bH 2 (gN 2) aCb)
theorem aJW(H:bM C):RF C 1 117 Ms:=
 (bW (sl:=aMx) H.p_CountingHasher_I (fun env he hf=>
 (aC (fB (eT H 0 rfl) (L 1) (L 0)) (aC (fB (eT H 1 rfl) (wH .bytes) (L 0)) aE))))
noncomputable def aMN:aL:=[("self",.local),("hasher",.local)]
noncomputable def aCo:M Fl:=(bl [(eU aPW (aA 1) (aA 0)),
 (eU aPX (uH .bytes) (aA 0))])
noncomputable def Mx:Fn:=(bH 2 (gN 2) aCo)
theorem aKj(H:bM C):RF C 1 799 Mx:=
 (bW (sl:=aMN) (H.fn 2 rfl) (fun env he hf=>
 (aC (fB (eT H 31 rfl) (L 1) (L 0)) (aC (fB (eT H 32 rfl) (wH .bytes) (L 0)) aE))))
noncomputable def aND:aL:=[(".0",.local),("line",.local),("far",.free)]
noncomputable def aNC:aL:=[("rows",.local),("old",.local),("new",.local),("least",.local),("found",.local),("row",.local),("gone",.local),("near",.local),("far",.cell),("len",.globalImplicit)]
noncomputable def aCN:M Fl:=(bl [(bA 4 (aZ (ar []) kH)),
 (fo (aA 0) (nT 5) (bl [(bA 6 (kI 0)),
 (bJ (t2 (b2 (aA 5) (kI 0) aW) (kS [77]) cN) (bl [(nI [7,8] (ar [(b2 (b2 (aA 1) (b2 (aA 5) (kI 3) aW) aW) (kI 1) aW),(b2 (b2 (aA 2) (b2 (aA 5) (kI 6) aW) aW) (kI 1) aW)])),
 (bA 6 (b2 (kI 10) (ge iP (eH dN (aA 7) [none,none,some 8] (nT 1) (t2 (aA 1) (aA 2) fE) (aA 1))) qM))]) (bl [])),
 (bJ (cH (t2 (b2 (aA 5) (kI 0) aW) (kS [77]) cN) (cH (t2 (aA 6) (aA 3) rO) (rt true))) (bl [(ex (bL cT BW (aA 4) (aZ (ar [(b2 (b2 (aZ (ar [(kS [68])]) cO) (pV (aA 5) (pa (kI 1)) (pa (kI 4))) bP) (aZ (ar [(kI 0),kN,kN]) cO) bP),(b2 (aZ (ar [(kS [65]),(kI 0),kN,kN]) cO) (pV (aA 5) (pa (kI 4)) (rt none)) bP)]) kT)))]) (bl [(ex (bL cT dH (aA 4) (aA 5)))]))])),
 (re (ge cE (aA 4)))])
noncomputable def YN:Fn:=(cK 0 (bH 10 (gN 4) aCN))
theorem aKE(H:bM C):RF C 1 1000 YN:=
 (cU 0 (bW (sl:=aNC) (H.fn 4 rfl) (fun env he hf=>
 (aC (cD 4 Sl (mN aH)) (aC (iC dC (L 0) (dA 5) (aC (cD 6 Sl (Ki 0)) (aC (cG (aV fA (cM cQ (L 5) (Ki 0)) (Ks "M" [77])) (aC (wF 749 [7,8] (aD (cM cQ (cM cQ (L 1) (cM cQ (L 5) (Ki 3))) (Ki 1)) (aD (cM cQ (cM cQ (L 2) (cM cQ (L 5) (Ki 6))) (Ki 1)) aH)) he (q:=LB hf rfl)) (aC (cD 6 Sl (aX zV (Ki 10) (iN 9 (H.gb 6 rfl) mG (nF dC aND [none,none,some 8] (L 7) (fun _=>cP (dA 1) (DI (aV pD (L 1) (Lc 2))) (L 1)))))) aE)) aE) (aC (cG (jI (eG (aV fA (cM cQ (L 5) (Ki 0)) (Ks "M" [77])) (eG (aV FT (L 6) (L 3)) oI))) (aC (gC (dX Sn gU Vq (L 4) (nG (aD (aX cR (aX cR (eQ (aD (Ks "D" [68]) aH)) (yI (L 5) (tS (Ki 1)) (tS (Ki 4)))) (eQ (aD (Ki 0) (aD Kn (aD Kn aH))))) (aD (aX cR (eQ (aD (Ks "A" [65]) (aD (Ki 0) (aD Kn (aD Kn aH))))) (yI (L 5) (tS (Ki 4)) HG)) aH))))) aE) (aC (gC (dX jD gU jE (L 4) (L 5))) aE)) aE)))) (aC (bS (fJ fD (L 4))) aE))))))
noncomputable def aNF:aL:=[(".0",.local),("cell",.local),("int",.globalImplicit)]
noncomputable def aNE:aL:=[("script",.local),("cell",.local),("left",.local),("mixed",.local)]
noncomputable def aCO:M Fl:=(bl [(oQ [3,2] (ar [(NL dN (ge cE (pV (aA 0) (rt none) (pa (kI 24)))) [none,none,none] (nT 1) (rt true) (b2 (ge PC (aA 1)) (kI 1000003) (bZ mD))),(kI 6363)])),
 (foC (aA 2) (nT 1) (bl [(bA 3 (b2 (b2 (b2 (b2 (aA 3) (kI 31) qM) (aA 1) bP) (kI 1) bP) (kI 1000003) (bZ mD)))])),
 (re (aZ (ar [(aA 2),(aA 3)]) (Br .str [.str [108,101,102,116],.str [109,105,120,101,100]])))])
noncomputable def YO:Fn:=(bH 4 (gN 1) aCO)
theorem aKF(H:bM C):RF C 1 931 YO:=
 (bW (sl:=aNE) (H.fn 5 rfl) (fun env he hf=>
 (aC (yG 692 [3,2] (aD (aAy dC aNF [none,none,none] (fJ fD (yI (L 0) HG (tS (Ki 24)))) (fun _=>cP (dA 1) oH (aX sZ (kP 2 (H.gb 4 rfl) aLn (L 1)) (Ki 1000003)))) (aD (Ki 6363) aH)) he) (aC (aAu 100 (L 2) (dA 1) (aC (cD 3 Sl (aX sZ (aX cR (aX cR (aX zV (L 3) (Ki 31)) (L 1)) (Ki 1)) (Ki 1000003))) aE) aLU) (aC (bS (Hx .str (yK (Ks "left" [108,101,102,116]) (L 2) (yK (Ks "mixed" [109,105,120,101,100]) (L 3) HH)))) aE)))))
noncomputable def aNG:aL:=[("deck",.local),("many",.local)]
noncomputable def aCP:M Fl:=(bl [(bJ (t2 (b2 (aA 0) (kS [108,101,102,116]) aW) (aZ (ar []) kT) oZ) (bl [(re (b2 (bL cT Ra (b2 (aA 0) (kS [108,101,102,116]) aW) (kI 0)) (aA 1) (bZ mD)))]) (bl [])),
 (gH fT (b2 (b2 (b2 (b2 (aA 0) (kS [109,105,120,101,100]) aW) (kI 4801) qM) (kI 97) bP) (kI 1000003) (bZ mD)) (aA 0) (kS [109,105,120,101,100])),
 (re (b2 (b2 (b2 (aA 0) (kS [109,105,120,101,100]) aW) (kI 7) (bZ BL)) (aA 1) (bZ mD)))])
noncomputable def wY:Fn:=(cK 8 (bH 2 (gN 2) aCP))
theorem QQ(H:bM C):RF C 1 938 wY:=
 (cU 8 (bW (sl:=aNG) (H.fn 6 rfl) (fun env he hf=>
 (aC (cG (aV vQ (cM cQ (L 0) (Ks "left" [108,101,102,116])) (nG aH)) (aC (bS (aX sZ (dX Bo gU aLE (cM cQ (L 0) (Ks "left" [108,101,102,116])) (Ki 0)) (L 1))) aE) aE) (aC (lO mH (aX sZ (aX cR (aX zV (cM cQ (L 0) (Ks "mixed" [109,105,120,101,100])) (Ki 4801)) (Ki 97)) (Ki 1000003)) (L 0) (Ks "mixed" [109,105,120,101,100])) (aC (bS (aX sZ (aX FR (cM cQ (L 0) (Ks "mixed" [109,105,120,101,100])) (Ki 7)) (L 1))) aE))))))
noncomputable def aNK:aL:=[("w",.local),("bytes",.globalImplicit)]
noncomputable def aCS:M Fl:=(bl [(gH fT (b2 (b2 (aA 0) (kS [99,111,117,110,116]) aW) (kI 1) bP) (aA 0) (kS [99,111,117,110,116])),
 (re (ge yW (aZ (ar [(b2 (kI 65) (b2 (b2 (b2 (aA 0) (kS [99,111,117,110,116]) aW) (kI 100) (bZ BL)) (kI 10) (bZ mD)) bP),(b2 (kI 48) (b2 (b2 (b2 (aA 0) (kS [99,111,117,110,116]) aW) (kI 10) (bZ BL)) (kI 10) (bZ mD)) bP),(b2 (kI 48) (b2 (b2 (aA 0) (kS [99,111,117,110,116]) aW) (kI 10) (bZ mD)) bP),(kI 10)]) kT)))])
noncomputable def BI:Fn:=(cK 8 (bH 2 (gN 1) aCS))
theorem Vf(H:bM C):RF C 1 945 BI:=
 (cU 8 (bW (sl:=aNK) (H.fn 7 rfl) (fun env he hf=>
 (aC (lO mH (aX cR (cM cQ (L 0) (Ks "count" [99,111,117,110,116])) (Ki 1)) (L 0) (Ks "count" [99,111,117,110,116])) (aC (bS (kP 1 (H.gb 2 rfl) CK (nG (aD (aX cR (Ki 65) (aX sZ (aX FR (cM cQ (L 0) (Ks "count" [99,111,117,110,116])) (Ki 100)) (Ki 10))) (aD (aX cR (Ki 48) (aX sZ (aX FR (cM cQ (L 0) (Ks "count" [99,111,117,110,116])) (Ki 10)) (Ki 10))) (aD (aX cR (Ki 48) (aX sZ (cM cQ (L 0) (Ks "count" [99,111,117,110,116])) (Ki 10))) (aD (Ki 10) aH))))))) aE)))))
noncomputable def aNI:aL:=[(".0",.local),("k",.local),("_law_line",.globalImplicit),("w",.free)]
noncomputable def aNH:aL:=[("deck",.local),("w",.cell),("lines",.local),("range",.globalImplicit),("_law_draw",.globalImplicit),("FILE",.globalImplicit)]
noncomputable def aCQ:M Fl:=(bl [(bA 2 (NL dN (ge CJ (kI 10)) [none,none,none,some 1] (nT 1) (rt true) (cf BI (ar [(aA 3)])))),
 (bJ (t2 (cf wY (ar [(aA 0),(kI 4)])) (kI 3) cN) (bl [(gH fT (b2 (kY [0]) (pV (b2 (aA 2) (kI 0) aW) (pa (kI 1)) (rt none)) bP) (aA 2) (kI 0))]) (bl [])),
 (re (aZ (ar [PH,(ge cE (aA 2))]) cO))])
noncomputable def EI:Fn:=(cK 8 (bH 6 (gN 2) aCQ))
theorem Dw(H:bM C):RF C 2 950 EI:=
 (cU 8 (bW (sl:=aNH) (H.fn 8 rfl) (fun env he hf=>
 (aC (aAt 2 Sl dC aNI [none,none,none,some 1] (kP 3 (H.gb 11 rfl) QT (Ki 10)) (fun _=>cP (dA 1) oH (cI 2 (H.gf 11 rfl) (H.fn 7 rfl).is (Vf H) (aD (Lc 3) aH)))) (aC (cG (aV fA (cI 4 (H.gf 8 rfl) (H.fn 6 rfl).is (QQ H) (aD (L 0) (aD (Ki 4) aH))) (Ki 3)) (aC (lO mH (aX cR (Ky [0] [0]) (yI (cM cQ (L 2) (Ki 0)) (tS (Ki 1)) HG)) (L 2) (Ki 0)) aE) aE) (aC (bS (eQ (aD (Gc 5 (H.gc 4 rfl)) (aD (fJ fD (L 2)) aH)))) aE))))))
end
section
variable{C:Cx}
noncomputable def aNN:aL:=[(".0",.local),("k",.local),("_law_line",.globalImplicit),("w",.free)]
noncomputable def aNM:aL:=[("deck",.local),("w",.cell),("sheet",.local),("found",.local),("path",.local),("way",.local),("old",.local),("many",.local),("_law_draw",.globalImplicit),("_law_file",.globalImplicit),("range",.globalImplicit),("FILE",.globalImplicit),("EXEC",.globalImplicit)]
noncomputable def aCU:M Fl:=(bl [(bA 3 (uH .bytes)),
 (fo (aZ (ar [(kY [97]),(kY [98]),(kY [99])]) cO) (nT 4) (bl [(oQ [6,5] (ar [(cf wY (ar [(aA 0),(kI 8)])),(bL cX dY (aA 2) (aA 4))])),
 (bJ (t2 (aA 6) kN oU) (bl [(bJ (t2 (aA 5) (kI 4) mA) (bl [(gH fT (cf EI (ar [(aA 0),(aA 1)])) (aA 3) (aA 4))]) (bl []))]) (bl [(bJ (t2 (aA 5) (kI 4) mA) (bl [(bA 7 (cf wY (ar [(aA 0),(kI 11)]))),
 (gH fT (aZ (ar [(b2 (aA 6) (kI 0) aW),(ge cE (b2 (pV (b2 (aA 6) (kI 1) aW) (rt none) (pa (b2 (kI 10) (aA 7) (bZ eO)))) (eH dN (ge CJ (aA 7)) [none,none,none,some 1] (nT 1) (rt true) (cf BI (ar [(aA 3)]))) bP))]) cO) (aA 3) (aA 4))]) (bl [(bJ (t2 (aA 5) (kI 4) cN) (bl [(gH fT (aZ (ar [(b2 (b2 PH Ao bP) (b2 (aA 6) (kI 0) aW) (bZ eO)),(b2 (aA 6) (kI 1) aW)]) cO) (aA 3) (aA 4))]) (bl [(bJ (t2 (aA 5) (kI 5) sR) (bl [(gH fT (aA 6) (aA 3) (aA 4))]) (bl []))]))]))]))])),
 (re (ge cE (aA 3)))])
noncomputable def OH:Fn:=(cK 8 (bH 13 (gN 3) aCU))
theorem Vh(H:bM C):RF C 3 955 OH:=
 (cU 8 (bW (sl:=aNM) (H.fn 9 rfl) (fun env he hf=>
 (aC (cD 3 Sl (wH .bytes)) (aC (iC dC (eQ (aD (Ky [97] [97]) (aD (Ky [98] [98]) (aD (Ky [99] [99]) aH)))) (dA 4) (aC (yG 712 [6,5] (aD (cI 8 (H.gf 8 rfl) (H.fn 6 rfl).is (QQ H) (aD (L 0) (aD (Ki 8) aH))) (aD (dX rS pC vP (L 2) (L 4)) aH)) he) (aC (cG (aV rV (L 6) Kn) (aC (cG (aV nQ (L 5) (Ki 4)) (aC (lO mH (cI 9 (H.gf 9 rfl) (H.fn 8 rfl).is (Dw H) (aD (L 0) (aD (Lc 1) aH))) (L 3) (L 4)) aE) aE) aE) (aC (cG (aV nQ (L 5) (Ki 4)) (aC (cD 7 Sl (cI 8 (H.gf 8 rfl) (H.fn 6 rfl).is (QQ H) (aD (L 0) (aD (Ki 11) aH)))) (aC (lO mH (eQ (aD (cM cQ (L 6) (Ki 0)) (aD (fJ fD (aX cR (yI (cM cQ (L 6) (Ki 1)) HG (tS (aX hU (Ki 10) (L 7)))) (nF dC aNN [none,none,none,some 1] (kP 10 (H.gb 11 rfl) QT (L 7)) (fun _=>cP (dA 1) oH (cI 2 (H.gf 11 rfl) (H.fn 7 rfl).is (Vf H) (aD (Lc 3) aH)))))) aH))) (L 3) (L 4)) aE)) (aC (cG (aV fA (L 5) (Ki 4)) (aC (lO mH (eQ (aD (aX hU (aX cR (Gc 11 (H.gc 4 rfl)) (Gc 12 (H.gc 3 rfl))) (cM cQ (L 6) (Ki 0))) (aD (cM cQ (L 6) (Ki 1)) aH))) (L 3) (L 4)) aE) (aC (cG (aV zT (L 5) (Ki 5)) (aC (lO mH (L 6) (L 3) (L 4)) aE) aE) aE)) aE)) aE)) aE))) (aC (bS (fJ fD (L 3))) aE))))))
noncomputable def aNJ:aL:=[("version",.local)]
noncomputable def aCR:M Fl:=(bl [(re (vor (c2 (aA 0) kN oU) (c2 (kY [0]) (bL xB EZ (kY []) (b2 (aA 0) (kI 1) aW)) fE)))])
noncomputable def EJ:Fn:=(cK 0 (bH 1 (gN 1) aCR))
theorem Ve(H:bM C):RF C 1 976 EJ:=
 (cU 0 (bW (sl:=aNJ) (H.fn 10 rfl) (fun env he hf=>
 (aC (bS (aAE (qV rV (L 0) Kn) (qV pD (Ky [0] [0]) (dX Bn FO Eh (Ky [] []) (cM cQ (L 0) (Ki 1)))))) aE))))
noncomputable def aNL:aL:=[("version",.local)]
noncomputable def aCT:M Fl:=(bl [(re (jB (t2 (aA 0) kN oU) (aZ (ar []) kT) (b2 (aA 0) (kI 1) aW)))])
noncomputable def OG:Fn:=(cK 0 (bH 1 (gN 1) aCT))
theorem Vg(H:bM C):RF C 1 983 OG:=
 (cU 0 (bW (sl:=aNL) (H.fn 11 rfl) (fun env he hf=>
 (aC (bS (lF (aV rV (L 0) Kn) (nG aH) (cM cQ (L 0) (Ki 1)))) aE))))
noncomputable def aNP:aL:=[(".0",.local),("line",.local),("far",.free)]
noncomputable def aNQ:aL:=[(".0",.local),("line",.local),("near",.free)]
noncomputable def aNO:aL:=[("old",.local),("new",.local),("near",.cell),("far",.cell),("_law_is_text",.globalImplicit),("_law_lines",.globalImplicit),("len",.globalImplicit)]
noncomputable def aCV:M Fl:=(bl [(bJ (hJ (tn (tv (cf EJ (ar [(aA 0)])))) (hJ (tn (tv (cf EJ (ar [(aA 1)])))) (rt false))) (bl [(re (aZ (ar [kN,kN]) cO))]) (bl [])),
 (nI [2,3] (ar [(cf OG (ar [(aA 0)])),(cf OG (ar [(aA 1)]))])),
 (re (aZ (ar [(ge iP (eH dN (aA 3) [none,none,some 2] (nT 1) (t2 (aA 1) (aA 2) fE) (aA 1))),(ge iP (eH dN (aA 2) [none,none,some 3] (nT 1) (t2 (aA 1) (aA 2) fE) (aA 1)))]) cO))])
noncomputable def IH:Fn:=(cK 0 (bH 7 (gN 2) aCV))
theorem aKG(H:bM C):RF C 2 988 IH:=
 (cU 0 (bW (sl:=aNO) (H.fn 12 rfl) (fun env he hf=>
 (aC (cG (jI (oJ (Ic (kE jF (cI 4 (H.gf 10 rfl) (H.fn 10 rfl).is (Ve H) (aD (L 0) aH)))) (oJ (Ic (kE jF (cI 4 (H.gf 10 rfl) (H.fn 10 rfl).is (Ve H) (aD (L 1) aH)))) yM))) (aC (bS (eQ (aD Kn (aD Kn aH)))) aE) aE) (aC (wF 739 [2,3] (aD (cI 5 (H.gf 12 rfl) (H.fn 11 rfl).is (Vg H) (aD (L 0) aH)) (aD (cI 5 (H.gf 12 rfl) (H.fn 11 rfl).is (Vg H) (aD (L 1) aH)) aH)) he (q:=LB hf rfl)) (aC (bS (eQ (aD (iN 6 (H.gb 6 rfl) mG (nF dC aNQ [none,none,some 2] (Lc 3) (fun _=>cP (dA 1) (DI (aV pD (L 1) (Lc 2))) (L 1)))) (aD (iN 6 (H.gb 6 rfl) mG (nF dC aNP [none,none,some 3] (Lc 2) (fun _=>cP (dA 1) (DI (aV pD (L 1) (Lc 2))) (L 1)))) aH)))) aE))))))
noncomputable def aNR:aL:=[("change",.local),("old",.local)]
noncomputable def aCW:M Fl:=(bl [(bA 1 (aZ (ar [(ge qY (aA 0)),(ge oO (aA 0)),(ge MS (aA 0))]) cO)),
 (re (b2 (b2 (aZ (ar [(ge wM (aA 0))]) cO) (aA 1) bP) (aZ (ar [(ge oN (aA 0)),(ge lR (aA 0)),(ge HL (aA 0))]) cO) bP))])
noncomputable def BJ:Fn:=(cK 0 (bH 2 (gN 1) aCW))
theorem Dx(H:bM C):RF C 1 995 BJ:=
 (cU 0 (bW (sl:=aNR) (H.fn 13 rfl) (fun env he hf=>
 (aC (cD 1 Sl (eQ (aD (aM (aQ H 13 rfl) (L 0)) (aD (aM (aQ H 14 rfl) (L 0)) (aD (aM (aQ H 15 rfl) (L 0)) aH))))) (aC (bS (aX cR (aX cR (eQ (aD (aM (aQ H 12 rfl) (L 0)) aH)) (L 1)) (eQ (aD (aM (aQ H 16 rfl) (L 0)) (aD (aM (aQ H 17 rfl) (L 0)) (aD (aM (aQ H 18 rfl) (L 0)) aH)))))) aE)))))
noncomputable def aMz:aL:=[("self",.local),("mode",.local),("name",.local),("oid",.local)]
noncomputable def aCd:M Fl:=(bl [(eU aPY (aA 1) (aA 0)),
 (eU aPZ (aA 2) (aA 0)),
 (eU aQb (aA 3) (aA 0))])
noncomputable def YB:Fn:=(bH 4 (gN 4) aCd)
theorem aJY(H:bM C):RF C 1 687 YB:=
 (bW (sl:=aMz) (H.fn 14 rfl) (fun env he hf=>
 (aC (fB (eT H 27 rfl) (L 1) (L 0)) (aC (fB (eT H 28 rfl) (L 2) (L 0)) (aC (fB (eT H 29 rfl) (L 3) (L 0)) aE)))))
noncomputable def aNj:aL:=[(".0",.local),("at",.local),("many",.free),("number",.free)]
noncomputable def aNi:aL:=[("number",.cell),("many",.cell),("bytes",.globalImplicit),("range",.globalImplicit)]
noncomputable def Ka:M Fl:=(bl [(re (ge yW (eH dN (ge CJ (aA 1)) [none,none,some 1,some 0] (nT 1) (rt true) (b2 (b2 (aA 3) (b2 (kI 8) (b2 (b2 (aA 2) (kI 1) (bZ eO)) (aA 1) (bZ eO)) qM) (bZ Wr)) (kI 255) (bZ Ir)))))])
noncomputable def YK:Fn:=(cK 0 (bH 4 (gN 2) Ka))
theorem aKx(H:bM C):RF C 1 95 YK:=
 (cU 0 (bW (sl:=aNi) (H.fn 15 rfl) (fun env he hf=>
 (aC (bS (kP 2 (H.gb 2 rfl) CK (nF dC aNj [none,none,some 1,some 0] (kP 3 (H.gb 11 rfl) QT (Lc 1)) (fun _=>cP (dA 1) oH (aX aLg (aX aLM (Lc 3) (aX zV (Ki 8) (aX hU (aX hU (Lc 2) (Ki 1)) (L 1)))) (Ki 255)))))) aE))))
noncomputable def aMy:aL:=[("self",.local),("octets",.local),("content",.local),("bytes",.globalImplicit),("len",.globalImplicit),("big_endian",.globalImplicit)]
noncomputable def aCc:M Fl:=(bl [(bA 2 (ge yW (aA 1))),
 (bJ (t2 (aA 2) (ge uZ (aA 0)) fE) (bl [(gH fT (b2 (ge iP (ge uZ (aA 0))) (kI 1) bP) (ge uZ (aA 0)) (aA 2))]) (bl [])),
 (re (cf YK (ar [(b2 (ge uZ (aA 0)) (aA 2) aW),(ge qZ (aA 0))])))])
noncomputable def NW:Fn:=(cK 8 (bH 6 (gN 2) aCc))
theorem aJX(H:bM C):RF C 2 124 NW:=
 (cU 8 (bW (sl:=aMy) (H.fn 16 rfl) (fun env he hf=>
 (aC (cD 2 Sl (kP 3 (H.gb 2 rfl) CK (L 1))) (aC (cG (aV pD (L 2) (aM (aQ H 1 rfl) (L 0))) (aC (lO mH (aX cR (iN 4 (H.gb 6 rfl) mG (aM (aQ H 1 rfl) (L 0))) (Ki 1)) (aM (aQ H 1 rfl) (L 0)) (L 2)) aE) aE) (aC (bS (cI 5 (H.gf 0 rfl) (H.fn 15 rfl).is (aKx H) (aD (cM cQ (aM (aQ H 1 rfl) (L 0)) (L 2)) (aD (aM (aQ H 0 rfl) (L 0)) aH)))) aE))))))
noncomputable def aOe:aL:=[(".0",.local),("sign",.local),("ord",.globalImplicit)]
noncomputable def aOd:aL:=[("text",.local),("numbers",.local),("number",.local),("BadObject",.globalImplicit),("bytes",.globalImplicit)]
noncomputable def aDh:M Fl:=(bl [(bA 1 (eH dN (aA 0) [none,none,none] (nT 1) (rt true) (ge Tx (aA 1)))),
 (fo (aA 1) (nT 2) (bl [(bJ (t2 (aA 2) (kI 255) sR) (bl [er]) (bl []))])),
 (re (ge yW (aA 1)))])
noncomputable def Nf:Fn:=(cK 0 (bH 5 (gN 1) aDh))
theorem aKQ(H:bM C):RF C 1 83 Nf:=
 (cU 0 (bW (sl:=aOd) (H.fn 17 rfl) (fun env he hf=>
 (aC (UA 1 Sl dC aOe [none,none,none] (L 0) (fun _=>cP (dA 1) oH (iN 2 (H.gb 10 rfl) aLD (L 1)))) (aC (iC dC (L 1) (dA 2) (aC (cG (aV zT (L 2) (Ki 255)) (aC pO aE) aE) aE)) (aC (bS (kP 4 (H.gb 2 rfl) CK (L 1))) aE))))))
noncomputable def aOc:aL:=[("kind",.local),("content",.local),("octets_of",.globalImplicit),("str",.globalImplicit),("len",.globalImplicit)]
noncomputable def aDg:M Fl:=(bl [(re (b2 (b2 (b2 (b2 (aA 0) (kY [32]) bP) (cf Nf (ar [(ge Xi (ge iP (aA 1)))])) bP) (kY [0]) bP) (aA 1) bP))])
noncomputable def EK:Fn:=(cK 0 (bH 5 (gN 2) aDg))
theorem aKP(H:bM C):RF C 2 785 EK:=
 (cU 0 (bW (sl:=aOc) (H.fn 18 rfl) (fun env he hf=>
 (aC (bS (aX cR (aX cR (aX cR (aX cR (L 0) (Ky [32] [32])) (cI 2 (H.gf 27 rfl) (H.fn 17 rfl).is (aKQ H) (aD (kP 3 (H.gb 13 rfl) aLO (iN 4 (H.gb 6 rfl) mG (L 1))) aH))) (Ky [0] [0])) (L 1))) aE))))
end
section
variable{C:Cx}
noncomputable def aMP:aL:=[("self",.local),("kind",.local),("content",.local),("thing",.local),("oid",.local),("object_octets",.globalImplicit)]
noncomputable def aCq:M Fl:=(bl [(bA 4 (mc 0 NW (ge aAK (aA 0)) (ar [(cf EK (ar [(aA 1),(aA 2)]))]))),
 (bJ (t2 (aA 4) (ge MR (aA 0)) fE) (bl [(gH fT (aZ (ar [(aA 1),(aA 3)]) cO) (ge MR (aA 0)) (aA 4))]) (bl [])),
 (re (aA 4))])
noncomputable def ID:Fn:=(cK 8 (bH 6 (gN 4) aCq))
theorem Ux(H:bM C):RF C 3 806 ID:=
 (cU 8 (bW (sl:=aMP) (H.fn 19 rfl) (fun env he hf=>
 (aC (cD 4 Sl (gX (H.mt 1 rfl) (aJX H) (aM (aQ H 31 rfl) (L 0)) (aD (cI 5 (H.gf 26 rfl) (H.fn 18 rfl).is (aKP H) (aD (L 1) (aD (L 2) aH))) aH))) (aC (cG (aV pD (L 4) (aM (aQ H 32 rfl) (L 0))) (aC (lO mH (eQ (aD (L 1) (aD (L 3) aH))) (aM (aQ H 32 rfl) (L 0)) (L 4)) aE) aE) (aC (bS (L 4)) aE))))))
noncomputable def aNZ:aL:=[("number",.local),("digits",.local),("bytearray",.globalImplicit),("len",.globalImplicit),("bytes",.globalImplicit)]
noncomputable def aDd:M Fl:=(bl [(bA 1 Sz),
 (lA 64 (hJ (t2 (aA 0) (kI 0) sR) (hJ (t2 (ge iP (aA 1)) (kI 0) cN) (rt false))) (bl [(ex (bL Ac Iu (aA 1) (b2 (kI 48) (b2 (aA 0) (kI 8) (bZ mD)) bP))),
 (bA 0 (b2 (aA 0) (kI 8) (bZ BL)))])),
 (ex (mV Ac Ut (aA 1))),
 (re (ge yW (aA 1)))])
noncomputable def Nc:Fn:=(cK 0 (bH 5 (gN 1) aDd))
theorem aKM(H:bM C):sM C 1 722 Nc:=
 (cU 0 (DJ (sl:=aNZ) (H.fn 20 rfl) (fun env he hf=>
 (fW (aAq 1 Sl (aAx 2 (H.gb 1 rfl))) (fW (aAs 64 (jI (oJ (aV zT (L 0) (Ki 0)) (oJ (aV fA (iN 3 (H.gb 6 rfl) mG (L 1)) (Ki 0)) yM))) (fW (Hr (Hw aIm Uq aLS (L 1) (lE (aX cR (Ki 48) (aX sZ (L 0) (Ki 8)))))) (fW (jT (cD 0 Sl (aX FR (L 0) (Ki 8)))) (yL aE)))) (fW (jT (gC (wG aIp Uq aLF (L 1)))) (fW (jT (bS (kP 4 (H.gb 2 rfl) CK (L 1)))) (yL aE))))))))
noncomputable def aMA:aL:=[("self",.local),("object_by_eights",.globalImplicit)]
noncomputable def aCe:M Fl:=(bl [(re (b2 (b2 (b2 (b2 (cf Nc (ar [(ge oM (aA 0))])) (kY [32]) bP) (ge tX (aA 0)) bP) (kY [0]) bP) (ge qX (aA 0)) bP))])
noncomputable def Mt:Fn:=(cK 0 (bH 2 (gN 1) aCe))
theorem aJZ(H:bM C):sM C 2 708 Mt:=
 (cU 0 (DJ (sl:=aMA) (H.fn 21 rfl) (fun env he hf=>
 (fW (TZ (MK cR (MK cR (MK cR (MK cR (HC 1 (H.gf 23 rfl) (H.fn 20 rfl).is (aKM H) (kO (lE (aM (aQ H 27 rfl) (L 0))) sL)) (lE (Ky [32] [32]))) (lE (aM (aQ H 28 rfl) (L 0)))) (lE (Ky [0] [0]))) (lE (aM (aQ H 29 rfl) (L 0))))) (yL aE)))))
noncomputable def aNe:aL:=[("self",.local),("parts",.local),("entry",.local)]
noncomputable def aCE:M Fl:=(bl [(bA 1 (aZ (ar []) kH)),
 (fo (ge MQ (aA 0)) (nT 2) (bl [(ex (bL cT dH (aA 1) (mc 9 Mt (aA 2) (ar []))))])),
 (re (bL xB EZ (kY []) (aA 1)))])
noncomputable def YJ:Fn:=(cK 0 (bH 3 (gN 1) aCE))
theorem aKv(H:bM C):sM C 3 750 YJ:=
 (cU 0 (DJ (sl:=aNe) (H.fn 22 rfl) (fun env he hf=>
 (fW (jT (cD 1 Sl (mN aH))) (fW (aAr dC (aM (aQ H 30 rfl) (L 0)) (dA 2) (fW (Hr (Hw jD gU (Ia jE) (L 1) (ML (H.mt 2 rfl) (aJZ H) (L 2) sL))) (yL aE))) (fW (jT (bS (dX Bn FO Eh (Ky [] []) (L 1)))) (yL aE)))))))
noncomputable def aMB:aL:=[("self",.local),("DIR",.globalImplicit)]
noncomputable def aCf:M Fl:=(bl [(re (jB (t2 (ge oM (aA 0)) FC cN) (b2 (ge tX (aA 0)) (kY [47]) bP) (ge tX (aA 0))))])
noncomputable def IC:Fn:=(cK 0 (bH 2 (gN 1) aCf))
theorem Uu(H:bM C):RF C 1 694 IC:=
 (cU 0 (bW (sl:=aMB) (H.fn 23 rfl) (fun env he hf=>
 (aC (bS (lF (aV fA (aM (aQ H 27 rfl) (L 0)) (Gc 1 (H.gc 2 rfl))) (aX cR (aM (aQ H 28 rfl) (L 0)) (Ky [47] [47])) (aM (aQ H 28 rfl) (L 0)))) aE))))
noncomputable def aNY:aL:=[("octets",.local),("signs",.local),("sign",.local)]
noncomputable def Kc:M Fl:=(bl [(fo (aA 0) (nT 2) (bl [(bJ (t2 (aA 2) (aA 1) fE) (bl [(re (kB false))]) (bl []))])),
 (re (kB true))])
noncomputable def OI:Fn:=(cK 0 (bH 3 (gN 2) Kc))
theorem aKL(H:bM C):RF C 1 673 OI:=
 (cU 0 (bW (sl:=aNY) (H.fn 24 rfl) (fun env he hf=>
 (aC (iC dC (L 0) (dA 2) (aC (cG (aV pD (L 2) (L 1)) (aC (bS (Kb false)) aE) aE) aE)) (aC (bS (Kb true)) aE)))))
noncomputable def aOa:aL:=[("octets",.local),("signs",.local),("sign",.local),("bytes",.globalImplicit)]
noncomputable def aDe:M Fl:=(bl [(fo (aA 1) (nT 2) (bl [(bJ (t2 (bL xB Nk (aA 0) (ge yW (aZ (ar [(aA 2)]) kT))) (kI 0) rO) (bl [(re (kB true))]) (bl []))])),
 (re (kB false))])
noncomputable def Nd:Fn:=(cK 0 (bH 4 (gN 2) aDe))
theorem aKN(H:bM C):RF C 1 666 Nd:=
 (cU 0 (bW (sl:=aOa) (H.fn 25 rfl) (fun env he hf=>
 (aC (iC dC (L 1) (dA 2) (aC (cG (aV FT (dX So FO aLj (L 0) (kP 3 (H.gb 2 rfl) CK (nG (aD (L 2) aH)))) (Ki 0)) (aC (bS (Kb true)) aE) aE) aE)) (aC (bS (Kb false)) aE)))))
noncomputable def aOb:aL:=[("name",.local),("object_has_sign",.globalImplicit)]
noncomputable def aDf:M Fl:=(bl [(bJ (t2 (aA 0) (kY []) cN) (bl [(re (kS [97,110,32,101,109,112,116,121,32,110,97,109,101]))]) (bl [])),
 (bJ (t2 (aA 0) (aZ (ar [(kY [46]),(kY [46,46])]) cO) vK) (bl [(re (kS [97,32,110,97,109,101,32,111,102,32,100,111,116,115]))]) (bl [])),
 (bJ (t2 (mV xB Rt (aA 0)) (kY [46,103,105,116]) cN) (bl [(re (kS [116,104,101,32,110,97,109,101,32,111,102,32,116,104,101,32,115,116,111,114,101,32,105,116,115,101,108,102]))]) (bl [])),
 (bJ (tv (cf Nd (ar [(aA 0),(kY [47,0])]))) (bl [(re (kS [97,32,110,97,109,101,32,119,105,116,104,32,97,32,115,116,114,111,107,101,32,111,114,32,97,32,110,111,117,103,104,116]))]) (bl [])),
 (re kN)])
noncomputable def YT:Fn:=(cK 0 (bH 2 (gN 1) aDf))
theorem aKO(H:bM C):RF C 2 729 YT:=
 (cU 0 (bW (sl:=aOb) (H.fn 26 rfl) (fun env he hf=>
 (aC (cG (aV fA (L 0) (Ky [] [])) (aC (bS (Ks "an empty name" [97,110,32,101,109,112,116,121,32,110,97,109,101])) aE) aE) (aC (cG (aV zU (L 0) (eQ (aD (Ky [46] [46]) (aD (Ky [46,46] [46,46]) aH)))) (aC (bS (Ks "a name of dots" [97,32,110,97,109,101,32,111,102,32,100,111,116,115])) aE) aE) (aC (cG (aV fA (wG aIo FO aLz (L 0)) (Ky [46,103,105,116] [46,103,105,116])) (aC (bS (Ks "the name of the store itself" [116,104,101,32,110,97,109,101,32,111,102,32,116,104,101,32,115,116,111,114,101,32,105,116,115,101,108,102])) aE) aE) (aC (cG (kE jF (cI 1 (H.gf 24 rfl) (H.fn 25 rfl).is (aKN H) (aD (L 0) (aD (Ky [47,0] [47,0]) aH)))) (aC (bS (Ks "a name with a stroke or a nought" [97,32,110,97,109,101,32,119,105,116,104,32,97,32,115,116,114,111,107,101,32,111,114,32,97,32,110,111,117,103,104,116])) aE) aE) (aC (bS Kn) aE))))))))
noncomputable def aOf:aL:=[("tree",.local),("found",.local),("known",.local),("ahead",.local),("entry",.local),("odd",.local),("OBJECT_MODES",.globalImplicit),("object_name_fault",.globalImplicit),("object_are_all",.globalImplicit)]
noncomputable def aDi:M Fl:=(bl [(oQ [3,2,1] (ar [(aZ (ar []) kH),(uH .bytes),kN])),
 (fo (ge MQ (aA 0)) (nT 4) (bl [(bJ (t2 (ge oM (aA 4)) Qs fE) (bl [(ex (bL cT dH (aA 1) (kS [97,32,109,111,100,101,32,116,104,97,116,32,105,115,32,110,111,110,101])))]) (bl [])),
 (bA 5 (cf YT (ar [(ge tX (aA 4))]))),
 (bJ (t2 (aA 5) kN qG) (bl [(ex (bL cT dH (aA 1) (aA 5)))]) (bl [])),
 (bJ (t2 (ge tX (aA 4)) (aA 2) vK) (bl [(ex (bL cT dH (aA 1) (kS [97,32,110,97,109,101,32,116,119,105,99,101])))]) (bl [(bJ (cH (t2 (aA 3) kN qG) (cH (t2 (mc 9 IC (aA 4) (ar [])) (aA 3) Bd) (rt true))) (bl [(ex (bL cT dH (aA 1) (kS [101,110,116,114,105,101,115,32,111,117,116,32,111,102,32,111,114,100,101,114])))]) (bl []))])),
 (bJ (tv (cf OI (ar [(ge qX (aA 4)),(kY [0])]))) (bl [(ex (bL cT dH (aA 1) (kS [97,110,32,105,100,32,111,102,32,110,111,117,103,104,116,115])))]) (bl [])),
 (gH fT (kB true) (aA 2) (ge tX (aA 4))),
 (bA 3 (mc 9 IC (aA 4) (ar [])))])),
 (re (ge cE (aA 1)))])
noncomputable def YU:Fn:=(cK 0 (bH 9 (gN 1) aDi))
theorem aKS(H:bM C):RF C 3 771 YU:=
 (cU 0 (bW (sl:=aOf) (H.fn 27 rfl) (fun env he hf=>
 (aC (yG 599 [3,2,1] (aD (mN aH) (aD (wH .bytes) (aD Kn aH))) he) (aC (iC dC (aM (aQ H 30 rfl) (L 0)) (dA 4) (aC (cG (aV pD (aM (aQ H 27 rfl) (L 4)) (Gc 6 H.g_OBJECT_MODES)) (aC (gC (dX jD gU jE (L 1) (Ks "a mode that is none" [97,32,109,111,100,101,32,116,104,97,116,32,105,115,32,110,111,110,101]))) aE) aE) (aC (cD 5 Sl (cI 7 (H.gf 25 rfl) (H.fn 26 rfl).is (aKO H) (aD (aM (aQ H 28 rfl) (L 4)) aH))) (aC (cG (aV xN (L 5) Kn) (aC (gC (dX jD gU jE (L 1) (L 5))) aE) aE) (aC (cG (aV zU (aM (aQ H 28 rfl) (L 4)) (L 2)) (aC (gC (dX jD gU jE (L 1) (Ks "a name twice" [97,32,110,97,109,101,32,116,119,105,99,101]))) aE) (aC (cG (jI (eG (aV xN (L 3) Kn) (eG (aV aLu (gX (H.mt 3 rfl) (Uu H) (L 4) aH) (L 3)) oI))) (aC (gC (dX jD gU jE (L 1) (Ks "entries out of order" [101,110,116,114,105,101,115,32,111,117,116,32,111,102,32,111,114,100,101,114]))) aE) aE) aE)) (aC (cG (kE jF (cI 8 (H.gf 22 rfl) (H.fn 24 rfl).is (aKL H) (aD (aM (aQ H 29 rfl) (L 4)) (aD (Ky [0] [0]) aH)))) (aC (gC (dX jD gU jE (L 1) (Ks "an id of noughts" [97,110,32,105,100,32,111,102,32,110,111,117,103,104,116,115]))) aE) aE) (aC (lO mH (Kb true) (L 2) (aM (aQ H 28 rfl) (L 4))) (aC (cD 3 Sl (gX (H.mt 3 rfl) (Uu H) (L 4) aH)) aE)))))))) (aC (bS (fJ fD (L 1))) aE))))))
noncomputable def aNm:aL:=[("tree",.local),("found",.local),("tree_faults",.globalImplicit),("len",.globalImplicit),("BadObject",.globalImplicit)]
noncomputable def aCJ:M Fl:=(bl [(bA 1 (cf YU (ar [(aA 0)]))),
 (bJ (t2 (ge iP (aA 1)) (kI 0) sR) (bl [er]) (bl []))])
noncomputable def YL:Fn:=(cK 0 (bH 5 (gN 1) aCJ))
theorem aKB(H:bM C):RF C 4 778 YL:=
 (cU 0 (bW (sl:=aNm) (H.fn 28 rfl) (fun env he hf=>
 (aC (cD 1 Sl (cI 2 (H.gf 28 rfl) (H.fn 27 rfl).is (aKS H) (aD (L 0) aH))) (aC (cG (aV zT (iN 3 (H.gb 6 rfl) mG (L 1)) (Ki 0)) (aC pO aE) aE) aE)))))
end
section
variable{C:Cx}
noncomputable def aMU:aL:=[("self",.local),("tree",.local),("check_tree",.globalImplicit),("TREE",.globalImplicit)]
noncomputable def aCv:M Fl:=(bl [(ex (cf YL (ar [(aA 1)]))),
 (re (mc 11 ID (aA 0) (ar [Qu,(mc 10 YJ (aA 1) (ar [])),(aA 1)])))])
noncomputable def YH:Fn:=(cK 8 (bH 4 (gN 2) aCv))
theorem aKn(H:bM C):sM C 5 820 YH:=
 (cU 8 (DJ (sl:=aMU) (H.fn 29 rfl) (fun env he hf=>
 (fW (jT (gC (cI 2 (H.gf 3 rfl) (H.fn 28 rfl).is (aKB H) (aD (L 1) aH)))) (fW (TZ (ML (H.mt 13 rfl) (Hz (Ux H)) (L 0) (kO (lE (Gc 3 (H.gc 14 rfl))) (kO (ML (H.mt 24 rfl) (aKv H) (L 1) sL) (kO (lE (L 1)) sL))))) (yL aE))))))
noncomputable def aNd:aL:=[("self",.local),("entries",.local)]
noncomputable def aCD:M Fl:=(bl [(eU aPU (aA 1) (aA 0))])
noncomputable def YI:Fn:=(bH 2 (gN 2) aCD)
theorem aKu(H:bM C):RF C 1 743 YI:=
 (bW (sl:=aNd) (H.fn 30 rfl) (fun env he hf=>
 (aC (fB (eT H 30 rfl) (L 1) (L 0)) aE)))
noncomputable def aMT:aL:=[("self",.local),("kind",.local),("content",.local),("BLOB",.globalImplicit),("BadObject",.globalImplicit),("bytes",.globalImplicit)]
noncomputable def aCu:M Fl:=(bl [(bJ (t2 (aA 1) An oZ) (bl [er]) (bl [])),
 (re (mc 11 ID (aA 0) (ar [An,(aA 2),(ge yW (aA 2))])))])
noncomputable def OB:Fn:=(cK 8 (bH 6 (gN 3) aCu))
theorem aKm(H:bM C):RF C 4 813 OB:=
 (cU 8 (bW (sl:=aMT) (H.fn 31 rfl) (fun env he hf=>
 (aC (cG (aV vQ (L 1) (Gc 3 (H.gc 1 rfl))) (aC pO aE) aE) (aC (bS (gX (H.mt 13 rfl) (Ux H) (L 0) (aD (Gc 3 (H.gc 1 rfl)) (aD (L 2) (aD (kP 5 (H.gb 2 rfl) CK (L 2)) aH))))) aE)))))
noncomputable def aNT:aL:=[("w",.local),("version",.local)]
noncomputable def aCY:M Fl:=(bl [(re (jB (t2 (aA 1) kN oU) (aZ (ar [(kI 0),kN]) cO) (aZ (ar [(b2 (aA 1) (kI 0) aW),(mc 11 OB (b2 (aA 0) (kS [115,116,111,114,101]) aW) (ar [(kY [98,108,111,98]),(bL xB EZ (kY []) (b2 (aA 1) (kI 1) aW))]))]) cO)))])
noncomputable def rI:Fn:=(cK 8 (bH 2 (gN 2) aCY))
theorem Dz(H:bM C):RF C 5 962 rI:=
 (cU 8 (bW (sl:=aNT) (H.fn 32 rfl) (fun env he hf=>
 (aC (bS (lF (aV rV (L 1) Kn) (eQ (aD (Ki 0) (aD Kn aH))) (eQ (aD (cM cQ (L 1) (Ki 0)) (aD (gX (H.mt 17 rfl) (aKm H) (cM cQ (L 0) (Ks "store" [115,116,111,114,101])) (aD (Ky [98,108,111,98] [98,108,111,98]) (aD (dX Bn FO Eh (Ky [] []) (cM cQ (L 1) (Ki 1))) aH))) aH))))) aE))))
noncomputable def aNS:aL:=[("w",.local),("sheet",.local),("entries",.local),("path",.local),("mode",.local),("oid",.local),("sorted",.globalImplicit),("_law_version",.globalImplicit),("Entry",.globalImplicit),("Tree",.globalImplicit)]
noncomputable def aCX:M Fl:=(bl [(bA 2 (aZ (ar []) kH)),
 (fo (ge cE (ge nR (aA 1))) (nT 3) (bl [(vB [4,5] (cf rI (ar [(aA 0),(b2 (aA 1) (aA 3) aW)]))),
 (ex (bL cT dH (aA 2) (ge cE (nw 9 YB (ar [(aA 4),(aA 3),(aA 5)])))))])),
 (re (mc 11 YH (b2 (aA 0) (kS [115,116,111,114,101]) aW) (ar [(ge cE (nw 10 YI (ar [(ge cE (aA 2))])))])))])
noncomputable def II:Fn:=(cK 8 (bH 10 (gN 2) aCX))
theorem Dy(H:bM C):sM C 6 969 II:=
 (cU 8 (DJ (sl:=aNS) (H.fn 33 rfl) (fun env he hf=>
 (fW (jT (cD 2 Sl (mN aH))) (fW (jT (iC dC (fJ fD (iN 6 (H.gb 12 rfl) KO (L 1))) (dA 3) (aC (yH 729 [4,5] (cI 7 (H.gf 17 rfl) (H.fn 32 rfl).is (Dz H) (aD (L 0) (aD (cM cQ (L 1) (L 3)) aH)))) (aC (gC (dX jD gU jE (L 2) (fJ fD (mO 8 (H.gk 9 rfl) (H.nw 9 rfl) (aJY H) (aD (L 4) (aD (L 3) (aD (L 5) aH))))))) aE)))) (fW (TZ (ML (H.mt 18 rfl) (aKn H) (cM cQ (L 0) (Ks "store" [115,116,111,114,101])) (kO (lE (fJ fD (mO 9 (H.gk 10 rfl) (H.nw 10 rfl) (aKu H) (aD (fJ fD (L 2)) aH)))) sL))) (yL aE)))))))
noncomputable def aNU:aL:=[("old",.local),("new",.local)]
noncomputable def aCZ:M Fl:=(bl [(re (jB (t2 (aA 0) kN oU) (kS [65]) (jB (t2 (aA 1) kN oU) (kS [68]) (kS [77]))))])
noncomputable def YQ:Fn:=(cK 0 (bH 2 (gN 2) aCZ))
theorem aKH(H:bM C):RF C 1 1007 YQ:=
 (cU 0 (bW (sl:=aNU) (H.fn 34 rfl) (fun env he hf=>
 (aC (bS (lF (aV rV (L 0) Kn) (Ks "A" [65]) (lF (aV rV (L 1) Kn) (Ks "D" [68]) (Ks "M" [77])))) aE))))
noncomputable def aMV:aL:=[("self",.local),("word",.local),("old_mode",.local),("old_id",.local),("old_path",.local),("new_mode",.local),("new_id",.local),("new_path",.local),("score",.local)]
noncomputable def aCw:M Fl:=(bl [(eU aQl (aA 1) (aA 0)),
 (eU aQd (aA 2) (aA 0)),
 (eU aQc (aA 3) (aA 0)),
 (eU aQe (aA 4) (aA 0)),
 (eU Yq (aA 5) (aA 0)),
 (eU Yp (aA 6) (aA 0)),
 (eU aQa (aA 7) (aA 0)),
 (eU aQh (aA 8) (aA 0))])
noncomputable def BG:Fn:=(bH 9 (gO (gN 9) (gD 8 [.none])) aCw)
theorem FP(H:bM C):RF C 1 376 BG:=
 (bW (sl:=aMV) H.p_PathChange_I (fun env he hf=>
 (aC (fB (eT H 12 rfl) (L 1) (L 0)) (aC (fB (eT H 13 rfl) (L 2) (L 0)) (aC (fB (eT H 14 rfl) (L 3) (L 0)) (aC (fB (eT H 15 rfl) (L 4) (L 0)) (aC (fB (eT H 16 rfl) (L 5) (L 0)) (aC (fB (eT H 17 rfl) (L 6) (L 0)) (aC (fB (eT H 18 rfl) (L 7) (L 0)) (aC (fB (eT H 19 rfl) (L 8) (L 0)) aE))))))))))
noncomputable def aMW:aL:=[("self",.local),("score",.local),("PathChange",.globalImplicit),("ADDED",.globalImplicit)]
noncomputable def aCx:M Fl:=(bl [(re (ge cE (nw 4 BG (ar [FA,(kI 0),kN,kN,(ge oN (aA 0)),(ge lR (aA 0)),(ge HL (aA 0)),(aA 1)]))))])
noncomputable def OC:Fn:=(cK 0 (bH 4 (gN 2) aCx))
theorem aKo(H:bM C):RF C 3 414 OC:=
 (cU 0 (bW (sl:=aMW) H.p_PathChange_new_half (fun env he hf=>
 (aC (bS (fJ fD (mO 2 (H.gk 4 rfl) (H.nw 4 rfl) (FP H) (aD (Gc 3 (H.gc 0 rfl)) (aD (Ki 0) (aD Kn (aD Kn (aD (aM (aQ H 16 rfl) (L 0)) (aD (aM (aQ H 17 rfl) (L 0)) (aD (aM (aQ H 18 rfl) (L 0)) (aD (L 1) aH))))))))))) aE))))
noncomputable def aMX:aL:=[("self",.local),("score",.local),("PathChange",.globalImplicit),("GONE",.globalImplicit)]
noncomputable def aCy:M Fl:=(bl [(re (ge cE (nw 4 BG (ar [BU,(ge qY (aA 0)),(ge oO (aA 0)),(ge MS (aA 0)),(kI 0),kN,kN,(aA 1)]))))])
noncomputable def OD:Fn:=(cK 0 (bH 4 (gN 2) aCy))
theorem aKp(H:bM C):RF C 3 406 OD:=
 (cU 0 (bW (sl:=aMX) H.p_PathChange_old_half (fun env he hf=>
 (aC (bS (fJ fD (mO 2 (H.gk 4 rfl) (H.nw 4 rfl) (FP H) (aD (Gc 3 (H.gc 6 rfl)) (aD (aM (aQ H 13 rfl) (L 0)) (aD (aM (aQ H 14 rfl) (L 0)) (aD (aM (aQ H 15 rfl) (L 0)) (aD (Ki 0) (aD Kn (aD Kn (aD (L 1) aH))))))))))) aE))))
noncomputable def aNc:aL:=[("self",.local),("other",.local),("found",.local),("number",.local),("min",.globalImplicit)]
noncomputable def aCC:M Fl:=(bl [(bA 2 (kI 0)),
 (fo (ge AX (aA 0)) (nT 3) (bl [(au 2 jM (b2 (b2 (ge AX (aA 0)) (aA 3) aW) (CA JA zH (ge AX (aA 1)) (aA 3) (kI 0)) JP))])),
 (re (aA 2))])
noncomputable def IG:Fn:=(cK 0 (bH 5 (gN 2) aCC))
theorem aKt(H:bM C):RF C 1 520 IG:=
 (cU 0 (bW (sl:=aNc) (H.fn 35 rfl) (fun env he hf=>
 (aC (cD 2 Sl (Ki 0)) (aC (iC dC (aM (aQ H 20 rfl) (L 0)) (dA 3) (aC (nD 2 nP (WS 4 (H.gb 9 rfl) Vv (cM cQ (aM (aQ H 20 rfl) (L 0)) (L 3)) (HD rS Du Ef (aM (aQ H 20 rfl) (L 1)) (L 3) (Ki 0)))) aE)) (aC (bS (L 2)) aE))))))
end
section
variable{C:Cx}
noncomputable def aNa:aL:=[("self",.local),("other",.local),("min",.globalImplicit)]
noncomputable def aCB:M Fl:=(bl [(re (jB (t2 (ge qZ (aA 0)) (kI 0) cN) (kI 0) (b2 (b2 (b2 (ge qZ (aA 0)) (b2 (ge qZ (aA 0)) (mc 5 IG (aA 0) (ar [(aA 1)])) JP) (bZ eO)) (kI 100) qM) (ge qZ (aA 0)) (bZ BL))))])
noncomputable def IF:Fn:=(cK 0 (bH 3 (gN 2) aCB))
theorem aKs(H:bM C):RF C 2 534 IF:=
 (cU 0 (bW (sl:=aNa) (H.fn 36 rfl) (fun env he hf=>
 (aC (bS (lF (aV fA (aM (aQ H 0 rfl) (L 0)) (Ki 0)) (Ki 0) (aX FR (aX zV (aX hU (aM (aQ H 0 rfl) (L 0)) (WS 2 (H.gb 9 rfl) Vv (aM (aQ H 0 rfl) (L 0)) (gX (H.mt 23 rfl) (aKt H) (L 0) (aD (L 1) aH)))) (Ki 100)) (aM (aQ H 0 rfl) (L 0))))) aE))))
noncomputable def aNf:aL:=[("self",.local),("store",.local)]
noncomputable def aCF:M Fl:=(bl [(eU aQi (aA 1) (aA 0)),
 (eU aPR (uH .bytes) (aA 0))])
noncomputable def Mz:Fn:=(bH 2 (gN 2) aCF)
theorem aKw(H:bM C):RF C 1 555 Mz:=
 (bW (sl:=aNf) (H.fn 37 rfl) (fun env he hf=>
 (aC (fB (eT H 21 rfl) (L 1) (L 0)) (aC (fB (eT H 22 rfl) (wH .bytes) (L 0)) aE))))
noncomputable def aMR:aL:=[("self",.local),("oid",.local),("MissingObject",.globalImplicit)]
noncomputable def aCs:M Fl:=(bl [(bJ (t2 (aA 1) (ge MR (aA 0)) fE) (bl [er]) (bl [])),
 (re (b2 (ge MR (aA 0)) (aA 1) aW))])
noncomputable def YG:Fn:=(cK 8 (bH 3 (gN 2) aCs))
theorem aKk(H:bM C):RF C 1 862 YG:=
 (cU 8 (bW (sl:=aMR) (H.fn 38 rfl) (fun env he hf=>
 (aC (cG (aV pD (L 1) (aM (aQ H 32 rfl) (L 0))) (aC pO aE) aE) (aC (bS (cM cQ (aM (aQ H 32 rfl) (L 0)) (L 1))) aE)))))
noncomputable def aMQ:aL:=[("self",.local),("oid",.local),("kind",.local),("told",.local),("thing",.local),("BadObject",.globalImplicit),("hex_of",.globalImplicit)]
noncomputable def aCr:M Fl:=(bl [(vB [3,4] (mc 11 YG (aA 0) (ar [(aA 1)]))),
 (bJ (t2 (aA 3) (aA 2) oZ) (bl [er]) (bl [])),
 (re (aA 4))])
noncomputable def NZ:Fn:=(cK 8 (bH 7 (gN 3) aCr))
theorem Uy(H:bM C):RF C 2 883 NZ:=
 (cU 8 (bW (sl:=aMQ) (H.fn 39 rfl) (fun env he hf=>
 (aC (yH 671 [3,4] (gX (H.mt 15 rfl) (aKk H) (L 0) (aD (L 1) aH))) (aC (cG (aV vQ (L 3) (L 2)) (aC pO aE) aE) (aC (bS (L 4)) aE))))))
noncomputable def aMO:aL:=[("self",.local),("oid",.local),("BLOB",.globalImplicit)]
noncomputable def aCp:M Fl:=(bl [(re (mc 11 NZ (aA 0) (ar [(aA 1),An])))])
noncomputable def NY:Fn:=(cK 8 (bH 3 (gN 2) aCp))
theorem Uw(H:bM C):RF C 3 890 NY:=
 (cU 8 (bW (sl:=aMO) (H.fn 40 rfl) (fun env he hf=>
 (aC (bS (gX (H.mt 14 rfl) (Uy H) (L 0) (aD (L 1) (aD (Gc 2 (H.gc 1 rfl)) aH)))) aE))))
noncomputable def aNb:aL:=[("self",.local),("number",.local),("many",.local)]
noncomputable def Jz:M Fl:=(bl [(Jc qZ jM Fz (aA 0) (aA 2)),
 (gH fT (b2 (CA JA zH (ge AX (aA 0)) (aA 1) (kI 0)) (aA 2) bP) (ge AX (aA 0)) (aA 1))])
noncomputable def BH:Fn:=(pA (bH 3 (gN 3) Jz))
theorem Uz(H:bM C):RF C 1 513 BH:=
 (tR (bW (sl:=aNb) (H.fn 41 rfl) (fun env he hf=>
 (aC (Hv (aQ H 0 rfl) (eT H 0 rfl) nP (L 0) (L 2)) (aC (lO mH (aX cR (HD rS Du Ef (aM (aQ H 20 rfl) (L 0)) (L 1) (Ki 0)) (L 2)) (aM (aQ H 20 rfl) (L 0)) (L 1)) aE)))))
noncomputable def aOm:aL:=[("octets",.local),("look",.local)]
noncomputable def aDp:M Fl:=(bl [(re (c2 (kY [0]) (pV (aA 0) (rt none) (pa (aA 1))) vK))])
noncomputable def vI:Fn:=(cK 0 (bH 2 (gD 1 [.int 8000]) aDp))
theorem Eb(H:bM C):RF C 1 491 vI:=
 (cU 0 (bW (sl:=aOm) H.p_treediff_is_binary (fun env he hf=>
 (aC (bS (qV zU (Ky [0] [0]) (yI (L 0) HG (tS (L 1))))) aE))))
noncomputable def aMZ:aL:=[("self",.local),("octets",.local),("longest",.local),("is_text",.local),("number",.local),("many",.local),("at",.local),("octet",.local),("treediff_is_binary",.globalImplicit),("range",.globalImplicit),("len",.globalImplicit)]
noncomputable def aCA:M Fl:=(bl [(eU Fz (kI 0) (aA 0)),
 (eU aPT (uH .int) (aA 0)),
 (bA 3 (vn (cf vI (ar [(aA 1)])))),
 (nI [4,5] (ar [(kI 0),(kI 0)])),
 (fo (ge CJ (ge iP (aA 1))) (nT 6) (bl [(bA 7 (b2 (aA 1) (aA 6) aW)),
 (bJ (cH (tv (aA 3)) (cH (t2 (aA 7) (kI 13) cN) (cH (t2 (pV (aA 1) (pa (b2 (aA 6) (kI 1) bP)) (pa (b2 (aA 6) (kI 2) bP))) (kY [10]) cN) (rt true)))) (bl [(rt .cont)]) (bl [])),
 (bA 4 (b2 (b2 (b2 (b2 (aA 4) (kI 1009) qM) (aA 7) bP) (kI 1) bP) (ge a_WRAP (aA 0)) (bZ mD))),
 (au 5 jM (kI 1)),
 (bJ (hJ (t2 (aA 7) (kI 10) cN) (hJ (t2 (aA 5) (aA 2) cN) (rt false))) (bl [(ex (mc 5 BH (aA 0) (ar [(aA 4),(aA 5)]))),
 (nI [4,5] (ar [(kI 0),(kI 0)]))]) (bl []))])),
 (bJ (t2 (aA 5) (kI 0) sR) (bl [(ex (mc 5 BH (aA 0) (ar [(aA 4),(aA 5)])))]) (bl []))])
noncomputable def IE:Fn:=(bH 11 (gD 2 [.int 64]) aCA)
theorem aKr(H:bM C):RF C 2 506 IE:=
 (bW (sl:=aMZ) H.p_Spans_I (fun env he hf=>
 (aC (fB (eT H 0 rfl) (Ki 0) (L 0)) (aC (fB (eT H 20 rfl) (wH .int) (L 0)) (aC (cD 3 Sl (aAD (cI 8 (H.gf 35 rfl) H.p_treediff_is_binary.is (Eb H) (aD (L 1) aH)))) (aC (wF 405 [4,5] (aD (Ki 0) (aD (Ki 0) aH)) he) (aC (iC dC (kP 9 (H.gb 11 rfl) QT (iN 10 (H.gb 6 rfl) mG (L 1))) (dA 6) (aC (cD 7 Sl (cM cQ (L 1) (L 6))) (aC (cG (jI (eG (kE jF (L 3)) (eG (aV fA (L 7) (Ki 13)) (eG (aV fA (yI (L 1) (tS (aX cR (L 6) (Ki 1))) (tS (aX cR (L 6) (Ki 2)))) (Ky [10] [10])) oI)))) (aC DH aE) aE) (aC (cD 4 Sl (aX sZ (aX cR (aX cR (aX zV (L 4) (Ki 1009)) (L 7)) (Ki 1)) (aM (aJK H) (L 0)))) (aC (nD 5 nP (Ki 1)) (aC (cG (jI (oJ (aV fA (L 7) (Ki 10)) (oJ (aV fA (L 5) (L 2)) yM))) (aC (gC (gX (H.mt 22 rfl) (Uz H) (L 0) (aD (L 4) (aD (L 5) aH)))) (aC (wF 414 [4,5] (aD (Ki 0) (aD (Ki 0) aH)) he) aE)) aE) aE)))))) (aC (cG (aV zT (L 5) (Ki 0)) (aC (gC (gX (H.mt 22 rfl) (Uz H) (L 0) (aD (L 4) (aD (L 5) aH)))) aE) aE) aE))))))))
noncomputable def aNg:aL:=[("self",.local),("oid",.local),("Spans",.globalImplicit)]
noncomputable def WV:M Fl:=(bl [(bJ (t2 (aA 1) (ge VZ (aA 0)) fE) (bl [(gH fT (ge (Oc 2) (nw 5 IE (ar [(mc 11 NY (ge aAL (aA 0)) (ar [(aA 1)]))]))) (ge VZ (aA 0)) (aA 1))]) (bl [])),
 (re (b2 (ge VZ (aA 0)) (aA 1) aW))])
noncomputable def zE:Fn:=(pA (bH 3 (gN 2) WV))
theorem Va(H:bM C):RF C 4 562 zE:=
 (tR (bW (sl:=aNg) (H.fn 42 rfl) (fun env he hf=>
 (aC (cG (aV pD (L 1) (aM (aQ H 22 rfl) (L 0))) (aC (lO mH (fJ (aGd (m:=2)) (mO 2 (H.gk 5 rfl) (H.nw 5 rfl) (aKr H) (aD (gX (H.mt 12 rfl) (Uw H) (aM (aQ H 21 rfl) (L 0)) (aD (L 1) aH)) aH))) (aM (aQ H 22 rfl) (L 0)) (L 1)) aE) aE) (aC (bS (cM cQ (aM (aQ H 22 rfl) (L 0)) (L 1))) aE)))))
noncomputable def aOq:aL:=[("change",.local),("GONE",.globalImplicit)]
noncomputable def aDt:M Fl:=(bl [(re (aZ (ar [(ge a_path (aA 0)),(jB (t2 (ge wM (aA 0)) BU cN) (kI 0) (kI 1))]) cO))])
noncomputable def BK:Fn:=(cK 0 (bH 2 (gN 1) aDt))
theorem Ec(H:bM C):RF C 3 442 BK:=
 (cU 0 (bW (sl:=aOq) (H.fn 43 rfl) (fun env he hf=>
 (aC (bS (eQ (aD (aM (zS H (bR rfl)) (L 0)) (aD (lF (aV fA (aM (aQ H 12 rfl) (L 0)) (Gc 1 (H.gc 6 rfl))) (Ki 0) (Ki 1)) aH)))) aE))))
end
section
variable{C:Cx}
noncomputable def aNk:aL:=[("store",.local),("changes",.local),("least",.local),("smallest",.local),("contents",.local),("found",.local),("change",.local),("kinds",.local),("old",.local),("new",.local),("gone",.local),("TreediffContents",.globalImplicit),("treediff_kind",.globalImplicit),("OTHER",.globalImplicit),("PLAIN",.globalImplicit),("sorted",.globalImplicit),("treediff_order",.globalImplicit)]
noncomputable def aCH:M Fl:=(bl [(bA 4 (nw 6 Mz (ar [(aA 0)]))),
 (bA 5 (aZ (ar []) kH)),
 (fo (aA 1) (nT 6) (bl [(bA 7 (aZ (ar [(cf rJ (ar [(ge qY (aA 6))])),(cf rJ (ar [(ge oN (aA 6))]))]) cO)),
 (bJ (cH (t2 (ge wM (aA 6)) FD cN) (cH (t2 (aA 7) (aZ (ar [BV,BV]) cO) cN) (cH (t2 (ge oO (aA 6)) (ge lR (aA 6)) oZ) (rt true)))) (bl [(oQ [9,8] (ar [(mc 6 zE (aA 4) (ar [(ge oO (aA 6))])),(mc 6 zE (aA 4) (ar [(ge lR (aA 6))]))])),
 (bA 10 (mc 5 IF (aA 8) (ar [(aA 9)]))),
 (bJ (cH (t2 (ge qZ (aA 8)) (aA 3) rO) (cH (t2 (ge qZ (aA 8)) (kI 0) sR) (cH (t2 (aA 10) (aA 2) rO) (rt true)))) (bl [(ex (bL cT dH (aA 5) (mc 4 OD (aA 6) (ar [(aA 10)])))),
 (ex (bL cT dH (aA 5) (mc 4 OC (aA 6) (ar [(aA 10)])))),
 (rt .cont)]) (bl []))]) (bl [])),
 (ex (bL cT dH (aA 5) (aA 6)))])),
 (re (ge cE (ge (CO BK) (aA 5))))])
noncomputable def OF:Fn:=(cK 8 (bH 17 (gN 4) aCH))
theorem Vc(H:bM C):RF C 5 584 OF:=
 (cU 8 (bW (sl:=aNk) H.p_broken (fun env he hf=>
 (aC (cD 4 Sl (mO 11 (H.gk 6 rfl) (H.nw 6 rfl) (aKw H) (aD (L 0) aH))) (aC (cD 5 Sl (mN aH)) (aC (iC dC (L 1) (dA 6) (aC (cD 7 Sl (eQ (aD (cI 12 (H.gf 37 rfl) (H.fn 0 rfl).is (CI H) (aD (aM (aQ H 13 rfl) (L 6)) aH)) (aD (cI 12 (H.gf 37 rfl) (H.fn 0 rfl).is (CI H) (aD (aM (aQ H 16 rfl) (L 6)) aH)) aH)))) (aC (cG (jI (eG (aV fA (aM (aQ H 12 rfl) (L 6)) (Gc 13 (H.gc 9 rfl))) (eG (aV fA (L 7) (eQ (aD (Gc 14 (H.gc 11 rfl)) (aD (Gc 14 (H.gc 11 rfl)) aH)))) (eG (aV vQ (aM (aQ H 14 rfl) (L 6)) (aM (aQ H 17 rfl) (L 6))) oI)))) (aC (yG 452 [9,8] (aD (gX (H.mt 25 rfl) (Va H) (L 4) (aD (aM (aQ H 14 rfl) (L 6)) aH)) (aD (gX (H.mt 25 rfl) (Va H) (L 4) (aD (aM (aQ H 17 rfl) (L 6)) aH)) aH)) he) (aC (cD 10 Sl (gX (H.mt 21 rfl) (aKs H) (L 8) (aD (L 9) aH))) (aC (cG (jI (eG (aV FT (aM (aQ H 0 rfl) (L 8)) (L 3)) (eG (aV zT (aM (aQ H 0 rfl) (L 8)) (Ki 0)) (eG (aV FT (L 10) (L 2)) oI)))) (aC (gC (dX jD gU jE (L 5) (gX (H.mt 20 rfl) (aKp H) (L 6) (aD (L 10) aH)))) (aC (gC (dX jD gU jE (L 5) (gX (H.mt 19 rfl) (aKo H) (L 6) (aD (L 10) aH)))) (aC DH aE))) aE) aE))) aE) (aC (gC (dX jD gU jE (L 5) (L 6))) aE)))) (aC (bS (fJ fD (UG 15 16 (H.gb 12 rfl) (H.gf 39 rfl) (Ec H) (L 5)))) aE)))))))
noncomputable def aMv:aL:=[("self",.local),("path",.local),("olds",.local),("new_mode",.local),("new_id",.local)]
noncomputable def aBZ:M Fl:=(bl [(eU Yr (aA 1) (aA 0)),
 (eU aQf (aA 2) (aA 0)),
 (eU Yq (aA 3) (aA 0)),
 (eU Yp (aA 4) (aA 0))])
noncomputable def XZ:Fn:=(bH 5 (gN 5) aBZ)
theorem aJU(H:bM C):RF C 1 603 XZ:=
 (bW (sl:=aMv) (H.fn 44 rfl) (fun env he hf=>
 (aC (fB (eT H 23 rfl) (L 1) (L 0)) (aC (fB (eT H 24 rfl) (L 2) (L 0)) (aC (fB (eT H 16 rfl) (L 3) (L 0)) (aC (fB (eT H 17 rfl) (L 4) (L 0)) aE))))))
noncomputable def aOg:aL:=[("path",.local),("entry",.local),("PathChange",.globalImplicit),("ADDED",.globalImplicit)]
noncomputable def aDj:M Fl:=(bl [(re (ge cE (nw 4 BG (ar [FA,(kI 0),kN,kN,(ge oM (aA 1)),(ge qX (aA 1)),(aA 0)]))))])
noncomputable def Ng:Fn:=(cK 0 (bH 4 (gN 2) aDj))
theorem aKT(H:bM C):RF C 3 456 Ng:=
 (cU 0 (bW (sl:=aOg) (H.fn 45 rfl) (fun env he hf=>
 (aC (bS (fJ fD (mO 2 (H.gk 4 rfl) (H.nw 4 rfl) (FP H) (aD (Gc 3 (H.gc 0 rfl)) (aD (Ki 0) (aD Kn (aD Kn (aD (aM (aQ H 27 rfl) (L 1)) (aD (aM (aQ H 29 rfl) (L 1)) (aD (L 0) aH)))))))))) aE))))
noncomputable def aOk:aL:=[("path",.local),("entry",.local),("PathChange",.globalImplicit),("GONE",.globalImplicit)]
noncomputable def aDn:M Fl:=(bl [(re (ge cE (nw 4 BG (ar [BU,(ge oM (aA 1)),(ge qX (aA 1)),(aA 0),(kI 0),kN,kN]))))])
noncomputable def Nh:Fn:=(cK 0 (bH 4 (gN 2) aDn))
theorem aKV(H:bM C):RF C 3 463 Nh:=
 (cU 0 (bW (sl:=aOk) (H.fn 46 rfl) (fun env he hf=>
 (aC (bS (fJ fD (mO 2 (H.gk 4 rfl) (H.nw 4 rfl) (FP H) (aD (Gc 3 (H.gc 6 rfl)) (aD (aM (aQ H 27 rfl) (L 1)) (aD (aM (aQ H 29 rfl) (L 1)) (aD (L 0) (aD (Ki 0) (aD Kn (aD Kn aH)))))))))) aE))))
noncomputable def aOh:aL:=[("path",.local),("old",.local),("new",.local),("kinds",.local),("word",.local),("treediff_added",.globalImplicit),("treediff_gone",.globalImplicit),("treediff_kind",.globalImplicit),("FOLDER",.globalImplicit),("OTHER",.globalImplicit),("OTHER_KIND",.globalImplicit),("PathChange",.globalImplicit)]
noncomputable def aDk:M Fl:=(bl [(bJ (t2 (aA 1) kN oU) (bl [(re (jB (t2 (aA 2) kN oU) (aZ (ar []) kT) (aZ (ar [(cf Ng (ar [(aA 0),(aA 2)]))]) kT)))]) (bl [])),
 (bJ (t2 (aA 2) kN oU) (bl [(re (aZ (ar [(cf Nh (ar [(aA 0),(aA 1)]))]) kT))]) (bl [])),
 (bA 3 (aZ (ar [(cf rJ (ar [(ge oM (aA 1))])),(cf rJ (ar [(ge oM (aA 2))]))]) cO)),
 (bJ (cH (t2 Qr (aA 3) vK) (cH (t2 (b2 (aA 3) (kI 0) aW) (b2 (aA 3) (kI 1) aW) oZ) (rt true))) (bl [er]) (bl [])),
 (bA 4 (jB (t2 (b2 (aA 3) (kI 0) aW) (b2 (aA 3) (kI 1) aW) cN) FD Qt)),
 (re (aZ (ar [(ge cE (nw 4 BG (ar [(aA 4),(ge oM (aA 1)),(ge qX (aA 1)),(aA 0),(ge oM (aA 2)),(ge qX (aA 2)),(aA 0)])))]) kT))])
noncomputable def OJ:Fn:=(cK 0 (bH 12 (gN 3) aDk))
theorem aKU(H:bM C):RF C 4 470 OJ:=
 (cU 0 (bW (sl:=aOh) (H.fn 47 rfl) (fun env he hf=>
 (aC (cG (aV rV (L 1) Kn) (aC (bS (lF (aV rV (L 2) Kn) (nG aH) (nG (aD (cI 5 (H.gf 29 rfl) (H.fn 45 rfl).is (aKT H) (aD (L 0) (aD (L 2) aH))) aH)))) aE) aE) (aC (cG (aV rV (L 2) Kn) (aC (bS (nG (aD (cI 6 (H.gf 33 rfl) (H.fn 46 rfl).is (aKV H) (aD (L 0) (aD (L 1) aH))) aH))) aE) aE) (aC (cD 3 Sl (eQ (aD (cI 7 (H.gf 37 rfl) (H.fn 0 rfl).is (CI H) (aD (aM (aQ H 27 rfl) (L 1)) aH)) (aD (cI 7 (H.gf 37 rfl) (H.fn 0 rfl).is (CI H) (aD (aM (aQ H 27 rfl) (L 2)) aH)) aH)))) (aC (cG (jI (eG (aV zU (Gc 8 (H.gc 5 rfl)) (L 3)) (eG (aV vQ (cM cQ (L 3) (Ki 0)) (cM cQ (L 3) (Ki 1))) oI))) (aC pO aE) aE) (aC (cD 4 Sl (lF (aV fA (cM cQ (L 3) (Ki 0)) (cM cQ (L 3) (Ki 1))) (Gc 9 (H.gc 9 rfl)) (Gc 10 (H.gc 10 rfl)))) (aC (bS (nG (aD (fJ fD (mO 11 (H.gk 4 rfl) (H.nw 4 rfl) (FP H) (aD (L 4) (aD (aM (aQ H 27 rfl) (L 1)) (aD (aM (aQ H 29 rfl) (L 1)) (aD (L 0) (aD (aM (aQ H 27 rfl) (L 2)) (aD (aM (aQ H 29 rfl) (L 2)) (aD (L 0) aH))))))))) aH))) aE)))))))))
noncomputable def aMS:aL:=[("self",.local),("oid",.local),("TREE",.globalImplicit)]
noncomputable def aCt:M Fl:=(bl [(re (mc 11 NZ (aA 0) (ar [(aA 1),Qu])))])
noncomputable def OA:Fn:=(cK 8 (bH 3 (gN 2) aCt))
theorem aKl(H:bM C):RF C 3 897 OA:=
 (cU 8 (bW (sl:=aMS) (H.fn 48 rfl) (fun env he hf=>
 (aC (bS (gX (H.mt 14 rfl) (Uy H) (L 0) (aD (L 1) (aD (Gc 2 (H.gc 14 rfl)) aH)))) aE))))
noncomputable def aOj:aL:=[("store",.local),("tree",.local),("found",.local),("entry",.local)]
noncomputable def aDm:M Fl:=(bl [(bA 2 (uH .bytes)),
 (bJ (t2 (aA 1) kN qG) (bl [(fo (ge MQ (mc 11 OA (aA 0) (ar [(aA 1)]))) (nT 3) (bl [(gH fT (aA 3) (aA 2) (ge tX (aA 3)))]))]) (bl [])),
 (re (ge cE (aA 2)))])
noncomputable def EL:Fn:=(cK 8 (bH 4 (gN 2) aDm))
theorem Vm(H:bM C):RF C 4 449 EL:=
 (cU 8 (bW (sl:=aOj) (H.fn 49 rfl) (fun env he hf=>
 (aC (cD 2 Sl (wH .bytes)) (aC (cG (aV xN (L 1) Kn) (aC (iC dC (aM (aQ H 30 rfl) (gX (H.mt 16 rfl) (aKl H) (L 0) (aD (L 1) aH))) (dA 3) (aC (lO mH (L 3) (L 2) (aM (aQ H 28 rfl) (L 3))) aE)) aE) aE) (aC (bS (fJ fD (L 2))) aE))))))
noncomputable def aOl:aL:=[("old",.local),("new",.local)]
noncomputable def aDo:M Fl:=(bl [(re (AA (c2 (aA 0) kN qG) (AA (c2 (aA 1) kN qG) (AA (c2 (ge oM (aA 0)) (ge oM (aA 1)) cN) (c2 (ge qX (aA 0)) (ge qX (aA 1)) cN)))))])
noncomputable def IJ:Fn:=(cK 0 (bH 2 (gN 2) aDo))
theorem aKW(H:bM C):RF C 1 477 IJ:=
 (cU 0 (bW (sl:=aOl) (H.fn 50 rfl) (fun env he hf=>
 (aC (bS (UC (HB (qV xN (L 0) Kn) (HB (qV xN (L 1) Kn) (HB (qV fA (aM (aQ H 27 rfl) (L 0)) (aM (aQ H 27 rfl) (L 1))) (UB (qV fA (aM (aQ H 29 rfl) (L 0)) (aM (aQ H 29 rfl) (L 1))))))))) aE))))
noncomputable def aOn:aL:=[("folder",.local),("name",.local)]
noncomputable def aDq:M Fl:=(bl [(re (jB (tv (aA 0)) (b2 (b2 (aA 0) (kY [47]) bP) (aA 1) bP) (aA 1)))])
noncomputable def YV:Fn:=(cK 0 (bH 2 (gN 2) aDq))
theorem aKX(H:bM C):RF C 1 361 YV:=
 (cU 0 (bW (sl:=aOn) (H.fn 51 rfl) (fun env he hf=>
 (aC (bS (lF (kE jF (L 0)) (aX cR (aX cR (L 0) (Ky [47] [47])) (L 1)) (L 1))) aE))))
noncomputable def aNq:aL:=[(".0",.local),("name",.local)]
noncomputable def aNr:aL:=[(".0",.local),("name",.local),("olds",.free)]
noncomputable def aNp:aL:=[("store",.local),("one",.local),("other",.local),("prefix",.local),("deep",.local),("found",.local),("waiting",.local),("left",.local),("right",.local),("here",.local),("olds",.cell),("news",.local),("name",.local),("names",.local),("old",.local),("new",.local),("path",.local),("was_folder",.local),("is_folder",.local),("treediff_entries",.globalImplicit),("sorted",.globalImplicit),("treediff_is_alike",.globalImplicit),("treediff_joined",.globalImplicit),("DIR",.globalImplicit),("treediff_beside",.globalImplicit),("treediff_order",.globalImplicit)]
noncomputable def aCL:M Fl:=(bl [(bA 5 (aZ (ar []) kH)),
 (bA 6 (aZ (ar [(aZ (ar [(aA 1),(aA 2),(aA 3)]) cO)]) kH)),
 (lA 64 (tv (aA 6)) (bl [(vB [7,8,9] (mV cT Av (aA 6))),
 (bJ (t2 (aA 7) (aA 8) cN) (bl [(rt .cont)]) (bl [])),
 (nI [10,11] (ar [(cf EL (ar [(aA 0),(aA 7)])),(cf EL (ar [(aA 0),(aA 8)]))])),
 (bA 13 (ge cE (ge nR (b2 (eH dN (aA 10) [none,none] (nT 1) (rt true) (aA 1)) (eH dN (aA 11) [none,none,some 10] (nT 1) (t2 (aA 1) (aA 2) fE) (aA 1)) bP)))),
 (fo (aA 13) (nT 12) (bl [(oQ [15,14] (ar [(bL cX dY (aA 10) (aA 12)),(bL cX dY (aA 11) (aA 12))])),
 (bJ (tv (cf IJ (ar [(aA 14),(aA 15)]))) (bl [(rt .cont)]) (bl [])),
 (bA 16 (cf YV (ar [(aA 9),(aA 12)]))),
 (bJ (tv (aA 4)) (bl [(bA 17 (AA (c2 (aA 14) kN qG) (c2 (ge oM (aA 14)) FC cN))),
 (bA 18 (AA (c2 (aA 15) kN qG) (c2 (ge oM (aA 15)) FC cN))),
 (bJ (hJ (tv (aA 17)) (hJ (tv (aA 18)) (rt false))) (bl [(ex (bL cT dH (aA 6) (aZ (ar [(jB (tv (aA 17)) (ge qX (aA 14)) kN),(jB (tv (aA 18)) (ge qX (aA 15)) kN),(aA 16)]) cO)))]) (bl [])),
 (bA 14 (jB (tv (aA 17)) kN (aA 14))),
 (bA 15 (jB (tv (aA 18)) kN (aA 15)))]) (bl [])),
 (ex (bL cT BW (aA 5) (cf OJ (ar [(aA 16),(aA 14),(aA 15)]))))]))])),
 (re (ge cE (ge (CO BK) (aA 5))))])
noncomputable def EH:Fn:=(cK 8 (bH 26 (gD 3 [.bytes [],.bool true]) aCL))
theorem Vd(H:bM C):RF C 5 483 EH:=
 (cU 8 (bW (sl:=aNp) H.p_diff_trees (fun env he hf=>
 (aC (cD 5 Sl (mN aH)) (aC (cD 6 Sl (mN (aD (eQ (aD (L 1) (aD (L 2) (aD (L 3) aH)))) aH))) (aC (uV 64 (kE jF (L 6)) (aC (yH 377 [7,8,9] (wG Bo gU Vw (L 6))) (aC (cG (aV fA (L 7) (L 8)) (aC DH aE) aE) (aC (wF 380 [10,11] (aD (cI 19 (H.gf 32 rfl) (H.fn 49 rfl).is (Vm H) (aD (L 0) (aD (L 7) aH))) (aD (cI 19 (H.gf 32 rfl) (H.fn 49 rfl).is (Vm H) (aD (L 0) (aD (L 8) aH))) aH)) he (q:=LB hf rfl)) (aC (cD 13 Sl (fJ fD (iN 20 (H.gb 12 rfl) KO (aX cR (nF dC aNq [none,none] (Lc 10) (fun _=>cP (dA 1) oH (L 1))) (nF dC aNr [none,none,some 10] (L 11) (fun _=>cP (dA 1) (DI (aV pD (L 1) (Lc 2))) (L 1))))))) (aC (iC dC (L 13) (dA 12) (aC (yG 383 [15,14] (aD (dX rS pC vP (Lc 10) (L 12)) (aD (dX rS pC vP (L 11) (L 12)) aH)) he) (aC (cG (kE jF (cI 21 (H.gf 34 rfl) (H.fn 50 rfl).is (aKW H) (aD (L 14) (aD (L 15) aH)))) (aC DH aE) aE) (aC (cD 16 Sl (cI 22 (H.gf 36 rfl) (H.fn 51 rfl).is (aKX H) (aD (L 9) (aD (L 12) aH)))) (aC (cG (kE jF (L 4)) (aC (cD 17 Sl (UC (HB (qV xN (L 14) Kn) (UB (qV fA (aM (aQ H 27 rfl) (L 14)) (Gc 23 (H.gc 2 rfl))))))) (aC (cD 18 Sl (UC (HB (qV xN (L 15) Kn) (UB (qV fA (aM (aQ H 27 rfl) (L 15)) (Gc 23 (H.gc 2 rfl))))))) (aC (cG (jI (oJ (kE jF (L 17)) (oJ (kE jF (L 18)) yM))) (aC (gC (dX jD gU jE (L 6) (eQ (aD (lF (kE jF (L 17)) (aM (aQ H 29 rfl) (L 14)) Kn) (aD (lF (kE jF (L 18)) (aM (aQ H 29 rfl) (L 15)) Kn) (aD (L 16) aH)))))) aE) aE) (aC (cD 14 Sl (lF (kE jF (L 17)) Kn (L 14))) (aC (cD 15 Sl (lF (kE jF (L 18)) Kn (L 15))) aE))))) aE) (aC (gC (dX Sn gU Vq (L 5) (cI 24 (H.gf 30 rfl) (H.fn 47 rfl).is (aKU H) (aD (L 16) (aD (L 14) (aD (L 15) aH)))))) aE)))))) aE)))))) (aC (bS (fJ fD (UG 20 25 (H.gb 12 rfl) (H.gf 39 rfl) (Ec H) (L 5)))) aE)))))))
end
section
variable{C:Cx}
noncomputable def aNo:aL:=[(".0",.local),("row",.local),("path",.free)]
noncomputable def aNn:aL:=[("store",.local),("parents",.local),("tree",.local),("by_parent",.local),("parent",.local),("row",.local),("change",.local),("found",.local),("path",.cell),("olds",.local),("diff_trees",.globalImplicit),("sorted",.globalImplicit),("any",.globalImplicit),("CombinedChange",.globalImplicit)]
noncomputable def aCK:M Fl:=(bl [(bA 3 (aZ (ar []) kH)),
 (fo (aA 1) (nT 4) (bl [(bA 5 (uH .bytes)),
 (fo (cf EH (ar [(aA 0),(aA 4),(aA 2)])) (nT 6) (bl [(gH fT (aA 6) (aA 5) (ge a_path (aA 6)))])),
 (ex (bL cT dH (aA 3) (ge cE (aA 5))))])),
 (bA 7 (aZ (ar []) kH)),
 (fo (jB (tv (gu (ZN 3) (aA 3))) (ge cE (ge nR (b2 (aA 3) (kI 0) aW))) (aZ (ar []) kT)) (nT 8) (bl [(bJ (tv (ge MV (eH dN (aA 3) [none,none,some 8] (nT 1) (rt true) (c2 (aA 2) (aA 1) fE)))) (bl [(rt .cont)]) (bl [])),
 (bA 9 (aZ (ar []) kH)),
 (fo (aA 3) (nT 5) (bl [(bA 6 (b2 (aA 5) (aA 8) aW)),
 (ex (bL cT dH (aA 9) (aZ (ar [(ge qY (aA 6)),(ge oO (aA 6))]) cO)))])),
 (bA 6 (b2 (b2 (aA 3) (kI 0) aW) (aA 8) aW)),
 (ex (bL cT dH (aA 7) (ge cE (nw 7 XZ (ar [(aA 8),(ge cE (aA 9)),(ge oN (aA 6)),(ge lR (aA 6))])))))])),
 (re (ge cE (aA 7)))])
noncomputable def YM:Fn:=(cK 8 (bH 14 (gN 3) aCK))
theorem aKC(H:bM C):RF C 6 622 YM:=
 (cU 8 (bW (sl:=aNn) (H.fn 52 rfl) (fun env he hf=>
 (aC (cD 3 Sl (mN aH)) (aC (iC dC (L 1) (dA 4) (aC (cD 5 Sl (wH .bytes)) (aC (iC dC (cI 10 (H.gf 5 rfl) H.p_diff_trees.is (Vd H) (aD (L 0) (aD (L 4) (aD (L 2) aH)))) (dA 6) (aC (lO mH (L 6) (L 5) (aM (zS H (bR rfl)) (L 6))) aE)) (aC (gC (dX jD gU jE (L 3) (fJ fD (L 5)))) aE)))) (aC (cD 7 Sl (mN aH)) (aC (iC dC (lF (kE jF (aAz (aGg (i:=3)) (L 3))) (fJ fD (iN 11 (H.gb 12 rfl) KO (cM cQ (L 3) (Ki 0)))) (nG aH)) (dA 8 (Sc hf)) (aC (cG (kE jF (iN 12 (H.gb 0 rfl) aLh (nF dC aNo [none,none,some 8] (L 3) (fun _=>cP (dA 1) oH (qV pD (Lc 2) (L 1)))))) (aC DH aE) aE) (aC (cD 9 Sl (mN aH)) (aC (iC dC (L 3) (dA 5) (aC (cD 6 Sl (cM cQ (L 5) (Lc 8))) (aC (gC (dX jD gU jE (L 9) (eQ (aD (aM (aQ H 13 rfl) (L 6)) (aD (aM (aQ H 14 rfl) (L 6)) aH))))) aE))) (aC (cD 6 Sl (cM cQ (cM cQ (L 3) (Ki 0)) (Lc 8))) (aC (gC (dX jD gU jE (L 7) (fJ fD (mO 13 (H.gk 7 rfl) (H.nw 7 rfl) (aJU H) (aD (Lc 8) (aD (fJ fD (L 9)) (aD (aM (aQ H 16 rfl) (L 6)) (aD (aM (aQ H 17 rfl) (L 6)) aH)))))))) aE)))))) (aC (bS (fJ fD (L 7))) aE))))))))
noncomputable def aNh:aL:=[("self",.local),("path",.local),("put_in",.local),("taken_out",.local)]
noncomputable def aCG:M Fl:=(bl [(eU Yr (aA 1) (aA 0)),
 (eU aQg (aA 2) (aA 0)),
 (eU aQk (aA 3) (aA 0))])
noncomputable def zF:Fn:=(bH 4 (gN 4) aCG)
theorem Vb(H:bM C):RF C 1 636 zF:=
 (bW (sl:=aNh) (H.fn 53 rfl) (fun env he hf=>
 (aC (fB (eT H 23 rfl) (L 1) (L 0)) (aC (fB (eT H 25 rfl) (L 2) (L 0)) (aC (fB (eT H 26 rfl) (L 3) (L 0)) aE)))))
noncomputable def aMC:aL:=[("self",.local)]
noncomputable def aCg:M Fl:=(bl [(eU Yo (uH .pair) (aA 0)),
 (eU aQj (aZ (ar []) kH) (aA 0)),
 (eU Yn (kI 0) (aA 0))])
noncomputable def YC:Fn:=(bH 1 (gN 1) aCg)
theorem aKa(H:bM C):RF C 1 187 YC:=
 (bW (sl:=aMC) (H.fn 54 rfl) (fun env he hf=>
 (aC (fB (eT H 1 rfl) (wH .pair) (L 0)) (aC (fB (eT H 6 rfl) (mN aH) (L 0)) (aC (fB (eT H 7 rfl) (Ki 0) (L 0)) aE)))))
noncomputable def aMD:aL:=[("self",.local),("line",.local),("key",.local),("number",.local),("other",.local),("isinstance",.globalImplicit),("bytes",.globalImplicit),("str",.globalImplicit)]
noncomputable def WU:M Fl:=(bl [(bJ (tv (ge Ad (aA 1))) (bl [(bA 2 (aZ (ar [(ge Af (aA 1)),(aA 1)]) cO)),
 (bJ (t2 (aA 2) (ge uZ (aA 0)) fE) (bl [(gH fT (ge Ij (aA 0)) (ge uZ (aA 0)) (aA 2)),
 (Jc Ij jM Yn (aA 0) (kI 1))]) (bl [])),
 (re (b2 (ge uZ (aA 0)) (aA 2) aW))]) (bl [])),
 er,
 er,
 er,
 er])
noncomputable def EG:Fn:=(pA (bH 8 (gN 2) WU))
theorem aKb(H:bM C):RF C 1 194 EG:=
 (tR (bW (sl:=aMD) (H.fn 55 rfl) (fun env he hf=>
 (aC (cG (kE jF (aAA 5 6 7 (H.gb 5 rfl) (H.gb 2 rfl) (H.gb 13 rfl) (L 1))) (aC (cD 2 Sl (eQ (aD (aAB 5 7 (H.gb 5 rfl) (H.gb 13 rfl) (L 1)) (aD (L 1) aH)))) (aC (cG (aV pD (L 2) (aM (aQ H 1 rfl) (L 0))) (aC (lO mH (aM (aQ H 7 rfl) (L 0)) (aM (aQ H 1 rfl) (L 0)) (L 2)) (aC (Hv (aQ H 7 rfl) (eT H 7 rfl) nP (L 0) (Ki 1)) aE)) aE) (aC (bS (cM cQ (aM (aQ H 1 rfl) (L 0)) (L 2))) aE))) aE) (aC pO (aC pO (aC pO (aC pO aE))))))))
noncomputable def aMF:aL:=[(".0",.local),("line",.local),("self",.free)]
noncomputable def aME:aL:=[("self",.cell),("lines",.local)]
noncomputable def Jy:M Fl:=(bl [(re (eH dN (aA 1) [none,none,some 0] (nT 1) (rt true) (mc 2 EG (aA 2) (ar [(aA 1)]))))])
noncomputable def zD:Fn:=(pA (bH 2 (gN 2) Jy))
theorem Uv(H:bM C):RF C 2 199 zD:=
 (tR (bW (sl:=aME) (H.fn 56 rfl) (fun env he hf=>
 (aC (bS (nF dC aMF [none,none,some 0] (L 1) (fun _=>cP (dA 1) oH (gX (H.mt 4 rfl) (aKb H) (Lc 2) (aD (L 1) aH))))) aE))))
noncomputable def aMG:aL:=[("self",.local),("a",.local),("b",.local),("numbers",.local),("LineNumbers",.globalImplicit),("len",.globalImplicit)]
noncomputable def aCh:M Fl:=(bl [(bA 3 (nw 2 YC (ar []))),
 (eU w_a (mc 2 zD (aA 3) (ar [(aA 1)])) (aA 0)),
 (eU w_b (mc 2 zD (aA 3) (ar [(aA 2)])) (aA 0)),
 (eU aPV (b2 (aZ (ar [(kB false)]) kT) (ge iP (aA 1)) qM) (aA 0)),
 (eU aPS (b2 (aZ (ar [(kB false)]) kT) (ge iP (aA 2)) qM) (aA 0))])
noncomputable def NX:Fn:=(bH 6 (gN 3) aCh)
theorem aKc(H:bM C):RF C 3 220 NX:=
 (bW (sl:=aMG) (H.fn 57 rfl) (fun env he hf=>
 (aC (cD 3 Sl (mO 4 (H.gk 2 rfl) (H.nw 2 rfl) (aKa H) aH)) (aC (fB (eT H 8 rfl) (gX (H.mt 5 rfl) (Uv H) (L 3) (aD (L 1) aH)) (L 0)) (aC (fB (eT H 9 rfl) (gX (H.mt 5 rfl) (Uv H) (L 3) (aD (L 2) aH)) (L 0)) (aC (fB (eT H 10 rfl) (aX zV (nG (aD (Kb false) aH)) (iN 5 (H.gb 6 rfl) mG (L 1))) (L 0)) (aC (fB (eT H 11 rfl) (aX zV (nG (aD (Kb false) aH)) (iN 5 (H.gb 6 rfl) mG (L 2))) (L 0)) aE)))))))
noncomputable def aMu:aL:=[("self",.local),("a_from",.local),("a_to",.local),("b_from",.local),("b_to",.local)]
noncomputable def aBY:M Fl:=(bl [(eU aPM (aA 1) (aA 0)),
 (eU aPN (aA 2) (aA 0)),
 (eU aPP (aA 3) (aA 0)),
 (eU aPQ (aA 4) (aA 0))])
noncomputable def Mr:Fn:=(bH 5 (gN 5) aBY)
theorem aJT(H:bM C):RF C 1 145 Mr:=
 (bW (sl:=aMu) (H.fn 58 rfl) (fun env he hf=>
 (aC (fB (eT H 2 rfl) (L 1) (L 0)) (aC (fB (eT H 3 rfl) (L 2) (L 0)) (aC (fB (eT H 4 rfl) (L 3) (L 0)) (aC (fB (eT H 5 rfl) (L 4) (L 0)) aE))))))
noncomputable def aMH:aL:=[("self",.local),("found",.local),("at",.local),("far",.local),("a_from",.local),("b_from",.local),("len",.globalImplicit),("Change",.globalImplicit)]
noncomputable def aCi:M Fl:=(bl [(bA 1 (aZ (ar []) kH)),
 (nI [2,3] (ar [(kI 0),(kI 0)])),
 (lA 64 (hJ (t2 (aA 2) (ge iP (ge AV (aA 0))) mA) (hJ (t2 (aA 3) (ge iP (ge AW (aA 0))) mA) (rt false))) (bl [(oQ [5,4] (ar [(aA 2),(aA 3)])),
 (lA 64 (cH (t2 (aA 2) (ge iP (ge AV (aA 0))) mA) (cH (tv (b2 (ge Ik (aA 0)) (aA 2) aW)) (rt true))) (bl [(au 2 jM (kI 1))])),
 (lA 64 (cH (t2 (aA 3) (ge iP (ge AW (aA 0))) mA) (cH (tv (b2 (ge Ii (aA 0)) (aA 3) aW)) (rt true))) (bl [(au 3 jM (kI 1))])),
 (bJ (hJ (t2 (aA 2) (aA 4) sR) (hJ (t2 (aA 3) (aA 5) sR) (rt false))) (bl [(ex (bL cT dH (aA 1) (ge cE (nw 1 Mr (ar [(aA 4),(aA 2),(aA 5),(aA 3)])))))]) (bl [(au 2 jM (kI 1)),
 (au 3 jM (kI 1))]))])),
 (re (ge cE (aA 1)))])
noncomputable def YD:Fn:=(pA (bH 8 (gN 1) aCi))
theorem aKd(H:bM C):RF C 3 248 YD:=
 (tR (bW (sl:=aMH) (H.fn 59 rfl) (fun env he hf=>
 (aC (cD 1 Sl (mN aH)) (aC (wF 129 [2,3] (aD (Ki 0) (aD (Ki 0) aH)) he) (aC (uV 64 (jI (oJ (aV nQ (L 2) (iN 6 (H.gb 6 rfl) mG (aM (aQ H 8 rfl) (L 0)))) (oJ (aV nQ (L 3) (iN 6 (H.gb 6 rfl) mG (aM (aQ H 9 rfl) (L 0)))) yM))) (aC (yG 131 [5,4] (aD (L 2) (aD (L 3) aH)) he) (aC (uV 64 (jI (eG (aV nQ (L 2) (iN 6 (H.gb 6 rfl) mG (aM (aQ H 8 rfl) (L 0)))) (eG (kE jF (cM cQ (aM (aQ H 10 rfl) (L 0)) (L 2))) oI))) (aC (nD 2 nP (Ki 1)) aE)) (aC (uV 64 (jI (eG (aV nQ (L 3) (iN 6 (H.gb 6 rfl) mG (aM (aQ H 9 rfl) (L 0)))) (eG (kE jF (cM cQ (aM (aQ H 11 rfl) (L 0)) (L 3))) oI))) (aC (nD 3 nP (Ki 1)) aE)) (aC (cG (jI (oJ (aV zT (L 2) (L 4)) (oJ (aV zT (L 3) (L 5)) yM))) (aC (gC (dX jD gU jE (L 1) (fJ fD (mO 7 (H.gk 1 rfl) (H.nw 1 rfl) (aJT H) (aD (L 4) (aD (L 2) (aD (L 5) (aD (L 3) aH)))))))) aE) (aC (nD 2 nP (Ki 1)) (aC (nD 3 nP (Ki 1)) aE))) aE))))) (aC (bS (fJ fD (L 1))) aE)))))))
noncomputable def aNV:aL:=[("reach",.local),("lane",.local),("max",.globalImplicit)]
noncomputable def aDa:M Fl:=(bl [(bJ (t2 (b2 (aA 1) (kI 1) (bZ eO)) (aA 0) fE) (bl [(re (b2 (aA 0) (b2 (aA 1) (kI 1) bP) aW))]) (bl [])),
 (bJ (t2 (b2 (aA 1) (kI 1) bP) (aA 0) fE) (bl [(re (b2 (b2 (aA 0) (b2 (aA 1) (kI 1) (bZ eO)) aW) (kI 1) bP))]) (bl [])),
 (re (b2 (b2 (b2 (aA 0) (b2 (aA 1) (kI 1) (bZ eO)) aW) (kI 1) bP) (b2 (aA 0) (b2 (aA 1) (kI 1) bP) aW) Sj))])
noncomputable def YR:Fn:=(pA (bH 3 (gN 2) aDa))
theorem Vi(H:bM C):RF C 1 311 YR:=
 (tR (bW (sl:=aNV) (H.fn 60 rfl) (fun env he hf=>
 (aC (cG (aV pD (aX hU (L 1) (Ki 1)) (L 0)) (aC (bS (cM cQ (L 0) (aX cR (L 1) (Ki 1)))) aE) aE) (aC (cG (aV pD (aX cR (L 1) (Ki 1)) (L 0)) (aC (bS (aX cR (cM cQ (L 0) (aX hU (L 1) (Ki 1))) (Ki 1))) aE) aE) (aC (bS (WS 2 (H.gb 8 rfl) aLA (aX cR (cM cQ (L 0) (aX hU (L 1) (Ki 1))) (Ki 1)) (cM cQ (L 0) (aX cR (L 1) (Ki 1))))) aE))))))
noncomputable def aMI:aL:=[("self",.local),("part",.local),("a_low",.local),("a_high",.local),("b_low",.local),("b_high",.local),("wide",.local),("tall",.local),("slant",.local),("ahead",.local),("behind",.local),("many",.local),("lane",.local),("at",.local),("range",.globalImplicit),("line_further",.globalImplicit),("BadState",.globalImplicit)]
noncomputable def aCj:M Fl:=(bl [(vB [2,3,4,5] (aA 1)),
 (oQ [7,6] (ar [(b2 (aA 3) (aA 2) (bZ eO)),(b2 (aA 5) (aA 4) (bZ eO))])),
 (bA 8 (b2 (aA 6) (aA 7) (bZ eO))),
 (oQ [10,9] (ar [(aZ (ar [(kI 0)]) (QC .int [.int 0])),(aZ (ar [(kI 0)]) (QC .int [.int 0]))])),
 (fo (b2 (kI 1) (b2 (b2 (b2 (b2 (aA 6) (aA 7) bP) (kI 1) bP) (kI 2) (bZ BL)) (kI 1) bP) QR) (nT 11) (bl [(fo (b3 (ge Bx (aA 11)) (b2 (aA 11) (kI 1) bP) (kI 2) Ed) (nT 12) (bl [(bA 13 (cf YR (ar [(aA 9),(aA 12)]))),
 (lA 64 (cH (t2 (aA 13) (aA 6) mA) (cH (t2 (b2 (aA 13) (aA 12) (bZ eO)) (aA 7) mA) (cH (t2 (b2 (ge AV (aA 0)) (b2 (aA 2) (aA 13) bP) aW) (b2 (ge AW (aA 0)) (b2 (b2 (aA 4) (aA 13) bP) (aA 12) (bZ eO)) aW) cN) (rt true)))) (bl [(au 13 jM (kI 1))])),
 (gH fT (aA 13) (aA 9) (aA 12)),
 (bJ (cH (t2 (b2 (aA 8) (kI 2) (bZ mD)) (kI 1) cN) (cH (t2 (b2 (aA 8) (aA 12) (bZ eO)) (aA 10) vK) (cH (t2 (b2 (aA 13) (b2 (aA 10) (b2 (aA 8) (aA 12) (bZ eO)) aW) bP) (aA 6) rO) (rt true)))) (bl [(re (aZ (ar [(b2 (aA 2) (aA 13) bP),(b2 (b2 (aA 4) (aA 13) bP) (aA 12) (bZ eO))]) cO))]) (bl []))])),
 (fo (b3 (ge Bx (aA 11)) (b2 (aA 11) (kI 1) bP) (kI 2) Ed) (nT 12) (bl [(bA 13 (cf YR (ar [(aA 10),(aA 12)]))),
 (lA 64 (cH (t2 (aA 13) (aA 6) mA) (cH (t2 (b2 (aA 13) (aA 12) (bZ eO)) (aA 7) mA) (cH (t2 (b2 (ge AV (aA 0)) (b2 (b2 (aA 3) (kI 1) (bZ eO)) (aA 13) (bZ eO)) aW) (b2 (ge AW (aA 0)) (b2 (b2 (b2 (aA 5) (kI 1) (bZ eO)) (aA 13) (bZ eO)) (aA 12) bP) aW) cN) (rt true)))) (bl [(au 13 jM (kI 1))])),
 (gH fT (aA 13) (aA 10) (aA 12)),
 (bJ (cH (t2 (b2 (aA 8) (kI 2) (bZ mD)) (kI 0) cN) (cH (t2 (b2 (aA 8) (aA 12) (bZ eO)) (aA 9) vK) (cH (t2 (b2 (aA 13) (b2 (aA 9) (b2 (aA 8) (aA 12) (bZ eO)) aW) bP) (aA 6) rO) (rt true)))) (bl [(re (aZ (ar [(b2 (aA 3) (aA 13) (bZ eO)),(b2 (b2 (aA 5) (aA 13) (bZ eO)) (aA 12) bP)]) cO))]) (bl []))]))])),
 er])
noncomputable def Mu:Fn:=(pA (bH 17 (gN 2) aCj))
theorem aKe(H:bM C):RF C 2 255 Mu:=
 (tR (bW (sl:=aMI) (H.fn 61 rfl) (fun env he hf=>
 (aC (yH 144 [2,3,4,5] (L 1)) (aC (yG 145 [7,6] (aD (aX hU (L 3) (L 2)) (aD (aX hU (L 5) (L 4)) aH)) he) (aC (cD 8 Sl (aX hU (L 6) (L 7))) (aC (yG 147 [10,9] (aD (UE .int (yK (Ki 0) (Ki 0) HH)) (aD (UE .int (yK (Ki 0) (Ki 0) HH)) aH)) he) (aC (iC dC (WT 14 (H.gb 11 rfl) Ej (Ki 1) (aX cR (aX FR (aX cR (aX cR (L 6) (L 7)) (Ki 1)) (Ki 2)) (Ki 1))) (dA 11) (aC (iC dC (Jx 14 (H.gb 11 rfl) Vx (Hy (L 11)) (aX cR (L 11) (Ki 1)) (Ki 2)) (dA 12) (aC (cD 13 Sl (cI 15 (H.gf 19 rfl) (H.fn 60 rfl).is (Vi H) (aD (L 9) (aD (L 12) aH)))) (aC (uV 64 (jI (eG (aV nQ (L 13) (L 6)) (eG (aV nQ (aX hU (L 13) (L 12)) (L 7)) (eG (aV fA (cM cQ (aM (aQ H 8 rfl) (L 0)) (aX cR (L 2) (L 13))) (cM cQ (aM (aQ H 9 rfl) (L 0)) (aX hU (aX cR (L 4) (L 13)) (L 12)))) oI)))) (aC (nD 13 nP (Ki 1)) aE)) (aC (lO mH (L 13) (L 9) (L 12)) (aC (cG (jI (eG (aV fA (aX sZ (L 8) (Ki 2)) (Ki 1)) (eG (aV zU (aX hU (L 8) (L 12)) (L 10)) (eG (aV FT (aX cR (L 13) (cM cQ (L 10) (aX hU (L 8) (L 12)))) (L 6)) oI)))) (aC (bS (eQ (aD (aX cR (L 2) (L 13)) (aD (aX hU (aX cR (L 4) (L 13)) (L 12)) aH)))) aE) aE) aE))))) (aC (iC dC (Jx 14 (H.gb 11 rfl) Vx (Hy (L 11)) (aX cR (L 11) (Ki 1)) (Ki 2)) (dA 12) (aC (cD 13 Sl (cI 15 (H.gf 19 rfl) (H.fn 60 rfl).is (Vi H) (aD (L 10) (aD (L 12) aH)))) (aC (uV 64 (jI (eG (aV nQ (L 13) (L 6)) (eG (aV nQ (aX hU (L 13) (L 12)) (L 7)) (eG (aV fA (cM cQ (aM (aQ H 8 rfl) (L 0)) (aX hU (aX hU (L 3) (Ki 1)) (L 13))) (cM cQ (aM (aQ H 9 rfl) (L 0)) (aX cR (aX hU (aX hU (L 5) (Ki 1)) (L 13)) (L 12)))) oI)))) (aC (nD 13 nP (Ki 1)) aE)) (aC (lO mH (L 13) (L 10) (L 12)) (aC (cG (jI (eG (aV fA (aX sZ (L 8) (Ki 2)) (Ki 0)) (eG (aV zU (aX hU (L 8) (L 12)) (L 9)) (eG (aV FT (aX cR (L 13) (cM cQ (L 9) (aX hU (L 8) (L 12)))) (L 6)) oI)))) (aC (bS (eQ (aD (aX hU (L 3) (L 13)) (aD (aX cR (aX hU (L 5) (L 13)) (L 12)) aH)))) aE) aE) aE))))) aE))) (aC pO aE)))))))))
end
section
variable{C:Cx}
noncomputable def aMJ:aL:=[("self",.local),("part",.local),("a_low",.local),("a_high",.local),("b_low",.local),("b_high",.local),("place",.local),("range",.globalImplicit)]
noncomputable def aCk:M Fl:=(bl [(vB [2,3,4,5] (aA 1)),
 (fo (b2 (aA 2) (aA 3) QR) (nT 6) (bl [(gH fT (kB true) (ge Ik (aA 0)) (aA 6))])),
 (fo (b2 (aA 4) (aA 5) QR) (nT 6) (bl [(gH fT (kB true) (ge Ii (aA 0)) (aA 6))]))])
noncomputable def Mv:Fn:=(pA (bH 8 (gN 2) aCk))
theorem aKf(H:bM C):RF C 1 241 Mv:=
 (tR (bW (sl:=aMJ) (H.fn 62 rfl) (fun env he hf=>
 (aC (yH 121 [2,3,4,5] (L 1)) (aC (iC dC (WT 7 (H.gb 11 rfl) Ej (L 2) (L 3)) (dA 6) (aC (lO mH (Kb true) (aM (aQ H 10 rfl) (L 0)) (L 6)) aE)) (aC (iC dC (WT 7 (H.gb 11 rfl) Ej (L 4) (L 5)) (dA 6) (aC (lO mH (Kb true) (aM (aQ H 11 rfl) (L 0)) (L 6)) aE)) aE))))))
noncomputable def aML:aL:=[("self",.local),("part",.local),("a_low",.local),("a_high",.local),("b_low",.local),("b_high",.local)]
noncomputable def aCm:M Fl:=(bl [(vB [2,3,4,5] (aA 1)),
 (lA 64 (cH (t2 (aA 2) (aA 3) mA) (cH (t2 (aA 4) (aA 5) mA) (cH (t2 (b2 (ge AV (aA 0)) (aA 2) aW) (b2 (ge AW (aA 0)) (aA 4) aW) cN) (rt true)))) (bl [(au 2 jM (kI 1)),
 (au 4 jM (kI 1))])),
 (lA 64 (cH (t2 (aA 2) (aA 3) mA) (cH (t2 (aA 4) (aA 5) mA) (cH (t2 (b2 (ge AV (aA 0)) (b2 (aA 3) (kI 1) (bZ eO)) aW) (b2 (ge AW (aA 0)) (b2 (aA 5) (kI 1) (bZ eO)) aW) cN) (rt true)))) (bl [(au 3 (bZ eO) (kI 1)),
 (au 5 (bZ eO) (kI 1))])),
 (re (aZ (ar [(aA 2),(aA 3),(aA 4),(aA 5)]) cO))])
noncomputable def Mw:Fn:=(pA (bH 6 (gN 2) aCm))
theorem aKh(H:bM C):RF C 1 234 Mw:=
 (tR (bW (sl:=aML) (H.fn 63 rfl) (fun env he hf=>
 (aC (yH 111 [2,3,4,5] (L 1)) (aC (uV 64 (jI (eG (aV nQ (L 2) (L 3)) (eG (aV nQ (L 4) (L 5)) (eG (aV fA (cM cQ (aM (aQ H 8 rfl) (L 0)) (L 2)) (cM cQ (aM (aQ H 9 rfl) (L 0)) (L 4))) oI)))) (aC (nD 2 nP (Ki 1)) (aC (nD 4 nP (Ki 1)) aE))) (aC (uV 64 (jI (eG (aV nQ (L 2) (L 3)) (eG (aV nQ (L 4) (L 5)) (eG (aV fA (cM cQ (aM (aQ H 8 rfl) (L 0)) (aX hU (L 3) (Ki 1))) (cM cQ (aM (aQ H 9 rfl) (L 0)) (aX hU (L 5) (Ki 1)))) oI)))) (aC (nD 3 Vu (Ki 1)) (aC (nD 5 Vu (Ki 1)) aE))) (aC (bS (eQ (aD (L 2) (aD (L 3) (aD (L 4) (aD (L 5) aH)))))) aE)))))))
noncomputable def aMK:aL:=[("self",.local),("part",.local),("waiting",.local),("a_low",.local),("a_high",.local),("b_low",.local),("b_high",.local),("at",.local),("far",.local)]
noncomputable def aCl:M Fl:=(bl [(bA 2 (aZ (ar [(aA 1)]) kH)),
 (lA 64 (t2 (aA 2) (aZ (ar []) kT) oZ) (bl [(vB [3,4,5,6] (mc 3 Mw (aA 0) (ar [(mV cT Av (aA 2))]))),
 (bJ (hJ (t2 (aA 3) (aA 4) cN) (hJ (t2 (aA 5) (aA 6) cN) (rt false))) (bl [(ex (mc 3 Mv (aA 0) (ar [(aZ (ar [(aA 3),(aA 4),(aA 5),(aA 6)]) cO)])))]) (bl [(vB [7,8] (mc 3 Mu (aA 0) (ar [(aZ (ar [(aA 3),(aA 4),(aA 5),(aA 6)]) cO)]))),
 (ex (bL cT dH (aA 2) (aZ (ar [(aA 3),(aA 7),(aA 5),(aA 8)]) cO))),
 (ex (bL cT dH (aA 2) (aZ (ar [(aA 7),(aA 4),(aA 8),(aA 6)]) cO)))]))]))])
noncomputable def YE:Fn:=(pA (bH 9 (gN 2) aCl))
theorem aKg(H:bM C):RF C 3 262 YE:=
 (tR (bW (sl:=aMK) (H.fn 64 rfl) (fun env he hf=>
 (aC (cD 2 Sl (mN (aD (L 1) aH))) (aC (uV 64 (aV vQ (L 2) (nG aH)) (aC (yH 168 [3,4,5,6] (gX (H.mt 10 rfl) (aKh H) (L 0) (aD (wG Bo gU Vw (L 2)) aH))) (aC (cG (jI (oJ (aV fA (L 3) (L 4)) (oJ (aV fA (L 5) (L 6)) yM))) (aC (gC (gX (H.mt 8 rfl) (aKf H) (L 0) (aD (eQ (aD (L 3) (aD (L 4) (aD (L 5) (aD (L 6) aH))))) aH))) aE) (aC (yH 172 [7,8] (gX (H.mt 7 rfl) (aKe H) (L 0) (aD (eQ (aD (L 3) (aD (L 4) (aD (L 5) (aD (L 6) aH))))) aH))) (aC (gC (dX jD gU jE (L 2) (eQ (aD (L 3) (aD (L 7) (aD (L 5) (aD (L 8) aH))))))) (aC (gC (dX jD gU jE (L 2) (eQ (aD (L 7) (aD (L 4) (aD (L 8) (aD (L 6) aH))))))) aE)))) aE))) aE)))))
noncomputable def aMM:aL:=[("self",.local),("len",.globalImplicit)]
noncomputable def aCn:M Fl:=(bl [(re (aZ (ar [(kI 0),(ge iP (ge AV (aA 0))),(kI 0),(ge iP (ge AW (aA 0)))]) cO))])
noncomputable def YF:Fn:=(pA (bH 2 (gN 1) aCn))
theorem aKi(H:bM C):RF C 1 227 YF:=
 (tR (bW (sl:=aMM) (H.fn 65 rfl) (fun env he hf=>
 (aC (bS (eQ (aD (Ki 0) (aD (iN 1 (H.gb 6 rfl) mG (aM (aQ H 8 rfl) (L 0))) (aD (Ki 0) (aD (iN 1 (H.gb 6 rfl) mG (aM (aQ H 9 rfl) (L 0))) aH)))))) aE))))
noncomputable def aNX:aL:=[("a",.local),("b",.local),("sheet",.local),("LineSheet",.globalImplicit)]
noncomputable def aDc:M Fl:=(bl [(bA 2 (nw 3 NX (ar [(aA 0),(aA 1)]))),
 (ex (mc 3 YE (aA 2) (ar [(mc 3 YF (aA 2) (ar []))]))),
 (re (mc 3 YD (aA 2) (ar [])))])
noncomputable def YS:Fn:=(cK 0 (bH 4 (gN 2) aDc))
theorem aKJ(H:bM C):RF C 5 325 YS:=
 (cU 0 (bW (sl:=aNX) (H.fn 66 rfl) (fun env he hf=>
 (aC (cD 2 Sl (mO 3 (H.gk 3 rfl) (H.nw 3 rfl) (aKc H) (aD (L 0) (aD (L 1) aH)))) (aC (gC (gX (H.mt 9 rfl) (aKg H) (L 2) (aD (gX (H.mt 11 rfl) (aKi H) (L 2) aH) aH))) (aC (bS (gX (H.mt 6 rfl) (aKd H) (L 2) aH)) aE))))))
noncomputable def aNl:aL:=[("how",.local),("a",.local),("b",.local),("myers",.globalImplicit),("patience",.globalImplicit),("histogram",.globalImplicit),("BadState",.globalImplicit)]
noncomputable def aCI:M Fl:=(bl [(bJ (t2 (aA 0) (kS [109,121,101,114,115]) cN) (bl [(re (cf YS (ar [(aA 1),(aA 2)])))]) (bl [])),
 er,
 er,
 er])
noncomputable def uA:Fn:=(cK 0 (bH 7 (gN 3) aCI))
theorem aKz(H:bM C):RF C 6 347 uA:=
 (cU 0 (bW (sl:=aNl) (H.fn 67 rfl) (fun env he hf=>
 (aC (cG (aV fA (L 0) (Ks "myers" [109,121,101,114,115])) (aC (bS (cI 3 (H.gf 21 rfl) (H.fn 66 rfl).is (aKJ H) (aD (L 1) (aD (L 2) aH)))) aE) aE) (aC pO (aC pO (aC pO aE)))))))
noncomputable def aNW:aL:=[("octets",.local),("found",.local),("begun",.local),("ended",.local),("len",.globalImplicit)]
noncomputable def aDb:M Fl:=(bl [(bA 1 (aZ (ar []) kH)),
 (bA 2 (kI 0)),
 (lA 64 (t2 (aA 2) (ge iP (aA 0)) mA) (bl [(bA 3 (CA xB Nl (aA 0) (kY [10]) (aA 2))),
 (bA 3 (jB (t2 (aA 3) (kI 0) mA) (ge iP (aA 0)) (b2 (aA 3) (kI 1) bP))),
 (ex (bL cT dH (aA 1) (pV (aA 0) (pa (aA 2)) (pa (aA 3))))),
 (bA 2 (aA 3))])),
 (re (ge cE (aA 1)))])
noncomputable def vH:Fn:=(cK 0 (bH 5 (gN 1) aDb))
theorem Vj(H:bM C):RF C 1 102 vH:=
 (cU 0 (bW (sl:=aNW) (H.fn 68 rfl) (fun env he hf=>
 (aC (cD 1 Sl (mN aH)) (aC (cD 2 Sl (Ki 0)) (aC (uV 64 (aV nQ (L 2) (iN 4 (H.gb 6 rfl) mG (L 0))) (aC (cD 3 Sl (HD So FO aLk (L 0) (Ky [10] [10]) (L 2))) (aC (cD 3 Sl (lF (aV nQ (L 3) (Ki 0)) (iN 4 (H.gb 6 rfl) mG (L 0)) (aX cR (L 3) (Ki 1)))) (aC (gC (dX jD gU jE (L 1) (yI (L 0) (tS (L 2)) (tS (L 3))))) (aC (cD 2 Sl (L 3)) aE))))) (aC (bS (fJ fD (L 1))) aE)))))))
noncomputable def aOi:aL:=[("store",.local),("mode",.local),("oid",.local),("treediff_kind",.globalImplicit),("MODULE",.globalImplicit),("octets_of",.globalImplicit),("hex_of",.globalImplicit)]
noncomputable def aDl:M Fl:=(bl [(bJ (t2 (aA 2) kN oU) (bl [(re (kY []))]) (bl [])),
 (bJ (t2 (cf rJ (ar [(aA 1)])) Ap cN) (bl [er]) (bl [])),
 (re (mc 11 NY (aA 0) (ar [(aA 2)])))])
noncomputable def wZ:Fn:=(cK 8 (bH 7 (gN 3) aDl))
theorem Vl(H:bM C):RF C 4 650 wZ:=
 (cU 8 (bW (sl:=aOi) (H.fn 69 rfl) (fun env he hf=>
 (aC (cG (aV rV (L 2) Kn) (aC (bS (Ky [] [])) aE) aE) (aC (cG (aV fA (cI 3 (H.gf 37 rfl) (H.fn 0 rfl).is (CI H) (aD (L 1) aH)) (Gc 4 (H.gc 8 rfl))) (aC pO aE) aE) (aC (bS (gX (H.mt 12 rfl) (Uw H) (L 0) (aD (L 2) aH))) aE))))))
noncomputable def aOp:aL:=[("store",.local),("changes",.local),("how",.local),("found",.local),("change",.local),("old",.local),("new",.local),("put_in",.local),("taken_out",.local),("part",.local),("treediff_content",.globalImplicit),("treediff_is_binary",.globalImplicit),("TreediffNumbers",.globalImplicit),("by",.globalImplicit),("lines_of",.globalImplicit)]
noncomputable def aDs:M Fl:=(bl [(bA 3 (aZ (ar []) kH)),
 (fo (aA 1) (nT 4) (bl [(bA 5 (cf wZ (ar [(aA 0),(ge qY (aA 4)),(ge oO (aA 4))]))),
 (bA 6 (cf wZ (ar [(aA 0),(ge oN (aA 4)),(ge lR (aA 4))]))),
 (bJ (hJ (tv (cf vI (ar [(aA 5)]))) (hJ (tv (cf vI (ar [(aA 6)]))) (rt false))) (bl [(ex (bL cT dH (aA 3) (ge cE (nw 8 zF (ar [(ge a_path (aA 4)),kN,kN]))))),
 (rt .cont)]) (bl [])),
 (nI [7,8] (ar [(kI 0),(kI 0)])),
 (fo (cf uA (ar [(aA 2),(cf vH (ar [(aA 5)])),(cf vH (ar [(aA 6)]))])) (nT 9) (bl [(au 7 jM (b2 (ge VY (aA 9)) (ge VX (aA 9)) (bZ eO))),
 (au 8 jM (b2 (ge VW (aA 9)) (ge VV (aA 9)) (bZ eO)))])),
 (ex (bL cT dH (aA 3) (ge cE (nw 8 zF (ar [(ge a_path (aA 4)),(aA 7),(aA 8)])))))])),
 (re (ge cE (aA 3)))])
noncomputable def YW:Fn:=(cK 8 (bH 15 (gD 2 [.str [109,121,101,114,115]]) aDs))
theorem aKY(H:bM C):RF C 7 658 YW:=
 (cU 8 (bW (sl:=aOp) H.p_treediff_numbers (fun env he hf=>
 (aC (cD 3 Sl (mN aH)) (aC (iC dC (L 1) (dA 4) (aC (cD 5 Sl (cI 10 (H.gf 31 rfl) (H.fn 69 rfl).is (Vl H) (aD (L 0) (aD (aM (aQ H 13 rfl) (L 4)) (aD (aM (aQ H 14 rfl) (L 4)) aH))))) (aC (cD 6 Sl (cI 10 (H.gf 31 rfl) (H.fn 69 rfl).is (Vl H) (aD (L 0) (aD (aM (aQ H 16 rfl) (L 4)) (aD (aM (aQ H 17 rfl) (L 4)) aH))))) (aC (cG (jI (oJ (kE jF (cI 11 (H.gf 35 rfl) H.p_treediff_is_binary.is (Eb H) (aD (L 5) aH))) (oJ (kE jF (cI 11 (H.gf 35 rfl) H.p_treediff_is_binary.is (Eb H) (aD (L 6) aH))) yM))) (aC (gC (dX jD gU jE (L 3) (fJ fD (mO 12 (H.gk 8 rfl) (H.nw 8 rfl) (Vb H) (aD (aM (zS H (bR rfl)) (L 4)) (aD Kn (aD Kn aH))))))) (aC DH aE)) aE) (aC (wF 530 [7,8] (aD (Ki 0) (aD (Ki 0) aH)) he) (aC (iC dC (cI 13 (H.gf 2 rfl) (H.fn 67 rfl).is (aKz H) (aD (L 2) (aD (cI 14 (H.gf 20 rfl) (H.fn 68 rfl).is (Vj H) (aD (L 5) aH)) (aD (cI 14 (H.gf 20 rfl) (H.fn 68 rfl).is (Vj H) (aD (L 6) aH)) aH)))) (dA 9) (aC (nD 7 nP (aX hU (aM (aQ H 5 rfl) (L 9)) (aM (aQ H 4 rfl) (L 9)))) (aC (nD 8 nP (aX hU (aM (aQ H 3 rfl) (L 9)) (aM (aQ H 2 rfl) (L 9)))) aE))) (aC (gC (dX jD gU jE (L 3) (fJ fD (mO 12 (H.gk 8 rfl) (H.nw 8 rfl) (Vb H) (aD (aM (zS H (bR rfl)) (L 4)) (aD (L 7) (aD (L 8) aH))))))) aE))))))) (aC (bS (fJ fD (L 3))) aE))))))
noncomputable def aOs:aL:=[(".0",.local),("half",.local),("ADDED",.globalImplicit)]
noncomputable def aOr:aL:=[("changes",.local),("halves",.local),("change",.local),("found",.local),("both",.local),("new",.local),("ADDED",.globalImplicit),("GONE",.globalImplicit),("len",.globalImplicit),("PathChange",.globalImplicit),("OTHER",.globalImplicit),("sorted",.globalImplicit),("treediff_order",.globalImplicit)]
noncomputable def aDu:M Fl:=(bl [(bA 1 (Ta .bytes)),
 (fo (aA 0) (nT 2) (bl [(bJ (cH (t2 (ge wM (aA 2)) (aZ (ar [FA,BU]) cO) vK) (cH (t2 (ge WC (aA 2)) kN qG) (rt true))) (bl [(ex (bL cT dH (CA Ae Wh (aA 1) (ge a_path (aA 2)) (aZ (ar []) kH)) (aA 2)))]) (bl []))])),
 (bA 3 (aZ (ar []) kH)),
 (fo (aA 0) (nT 2) (bl [(bA 4 (jB (cH (t2 (ge wM (aA 2)) (aZ (ar [FA,BU]) cO) vK) (cH (t2 (ge WC (aA 2)) kN qG) (rt true))) (CA JA zH (ge (Oe 8) (aA 1)) (ge a_path (aA 2)) (aZ (ar []) kT)) (aZ (ar []) kT))),
 (bJ (t2 (ge iP (aA 4)) (kI 2) mA) (bl [(ex (bL cT dH (aA 3) (aA 2)))]) (bl [(bJ (t2 (ge wM (aA 2)) BU cN) (bl [(bA 5 (b2 (eH dN (aA 4) [none,none,none] (nT 1) (t2 (ge wM (aA 1)) FA cN) (aA 1)) (kI 0) aW)),
 (ex (bL cT dH (aA 3) (ge cE (nw 4 BG (ar [FD,(ge qY (aA 2)),(ge oO (aA 2)),(ge MS (aA 2)),(ge oN (aA 5)),(ge lR (aA 5)),(ge HL (aA 5)),(ge WC (aA 2))])))))]) (bl []))]))])),
 (re (ge cE (ge (CO BK) (aA 3))))])
noncomputable def EM:Fn:=(cK 0 (bH 13 (gN 1) aDu))
theorem aKZ(H:bM C):RF C 5 589 EM:=
 (cU 0 (bW (sl:=aOr) (H.fn 70 rfl) (fun env he hf=>
 (aC (cD 1 Sl (aAC .bytes)) (aC (iC dC (L 0) (dA 2) (aC (cG (jI (eG (aV zU (aM (aQ H 12 rfl) (L 2)) (eQ (aD (Gc 6 (H.gc 0 rfl)) (aD (Gc 7 (H.gc 6 rfl)) aH)))) (eG (aV xN (aM (aQ H 19 rfl) (L 2)) Kn) oI))) (aC (gC (dX jD gU jE (HD aIq Ur aLK (L 1) (aM (zS H (bR rfl)) (L 2)) (mN aH)) (L 2))) aE) aE) aE)) (aC (cD 3 Sl (mN aH)) (aC (iC dC (L 0) (dA 2) (aC (cD 4 Sl (lF (jI (eG (aV zU (aM (aQ H 12 rfl) (L 2)) (eQ (aD (Gc 6 (H.gc 0 rfl)) (aD (Gc 7 (H.gc 6 rfl)) aH)))) (eG (aV xN (aM (aQ H 19 rfl) (L 2)) Kn) oI))) (HD rS Du Ef (fJ (aGf (m:=8)) (L 1)) (aM (zS H (bR rfl)) (L 2)) (nG aH)) (nG aH))) (aC (cG (aV nQ (iN 8 (H.gb 6 rfl) mG (L 4)) (Ki 2)) (aC (gC (dX jD gU jE (L 3) (L 2))) aE) (aC (cG (aV fA (aM (aQ H 12 rfl) (L 2)) (Gc 7 (H.gc 6 rfl))) (aC (cD 5 Sl (cM cQ (nF dC aOs [none,none,none] (L 4) (fun _=>cP (dA 1) (DI (aV fA (aM (aQ H 12 rfl) (L 1)) (Gc 2 (H.gc 0 rfl)))) (L 1))) (Ki 0))) (aC (gC (dX jD gU jE (L 3) (fJ fD (mO 9 (H.gk 4 rfl) (H.nw 4 rfl) (FP H) (aD (Gc 10 (H.gc 9 rfl)) (aD (aM (aQ H 13 rfl) (L 2)) (aD (aM (aQ H 14 rfl) (L 2)) (aD (aM (aQ H 15 rfl) (L 2)) (aD (aM (aQ H 16 rfl) (L 5)) (aD (aM (aQ H 17 rfl) (L 5)) (aD (aM (aQ H 18 rfl) (L 5)) (aD (aM (aQ H 19 rfl) (L 2)) aH)))))))))))) aE)) aE) aE)) aE))) (aC (bS (fJ fD (UG 11 12 (H.gb 12 rfl) (H.gf 39 rfl) (Ec H) (L 3)))) aE))))))))
end
section
variable{C:Cx}
noncomputable def aNt:aL:=[(".0",.local),("change",.local),("_law_row",.globalImplicit)]
noncomputable def aNu:aL:=[(".0",.local),("path",.local),("_law_numbers",.globalImplicit),("new",.free),("old",.free)]
noncomputable def aNv:aL:=[(".0",.local),("told",.local)]
noncomputable def aNw:aL:=[(".0",.local),("change",.local),("_law_row",.globalImplicit)]
noncomputable def aNx:aL:=[(".0",.local),("change",.local),("_law_row",.globalImplicit)]
noncomputable def aNy:aL:=[(".0",.local),("side",.local),("_law_word",.globalImplicit),("here",.free)]
noncomputable def aNz:aL:=[(".0",.local),("side",.local),("_law_version",.globalImplicit),("w",.free)]
noncomputable def aNA:aL:=[(".0",.local),("side",.local),("tuple",.globalImplicit)]
noncomputable def aNB:aL:=[(".0",.local),("row",.local)]
noncomputable def aNs:aL:=("script",.local)::("deck",.local)::("w",.cell)::("old",.cell)::("new",.cell)::("least",.local)::("store",.local)::("one",.local)::("other",.local)::("changes",.local)::("rows",.local)::("paths",.local)::("path",.local)::("due",.local)::("told",.local)::("parted",.local)::("some",.local)::("mate",.local)::("sides",.local)::("here",.cell)::("words",.local)::("_law_deck",.globalImplicit)::("MemoryStore",.globalImplicit)::("CountingHasher",.globalImplicit)::("_law_file",.globalImplicit)::("_law_next",.globalImplicit)::("_law_draw",.globalImplicit)::("_law_tree",.globalImplicit)::("diff_trees",.globalImplicit)::("sorted",.globalImplicit)::("dict",.globalImplicit)::("list",.globalImplicit)::("treediff_numbers",.globalImplicit)::("broken",.globalImplicit)::("_law_broken",.globalImplicit)::("treediff_rejoined",.globalImplicit)::("combined",.globalImplicit)::("_law_version",.globalImplicit)::[]
noncomputable def aCM:M Fl:=(bl [(nI [1,2] (ar [(cf YO (ar [(aA 0)])),(aZ (ar [(nw 11 Mx (ar [(nw 0 Ms (ar [(kI 4)]))])),(kI 0)]) (Br .str [.str [115,116,111,114,101],.str [99,111,117,110,116]]))])),
 (bA 3 (ge cE (aZ (ar [(cf EI (ar [(aA 1),(aA 2)])),(cf EI (ar [(aA 1),(aA 2)]))]) (QC .bytes [.bytes [97],.bytes [98]])))),
 (bA 4 (cf OH (ar [(aA 1),(aA 2),(aA 3)]))),
 (bA 5 (b2 (aZ (ar [(kI 10),(kI 60),(kI 100)]) kT) (cf wY (ar [(aA 1),(kI 3)])) aW)),
 (oQ [8,7,6] (ar [(b2 (aA 2) (kS [115,116,111,114,101]) aW),(cf II (ar [(aA 2),(aA 3)])),(cf II (ar [(aA 2),(aA 4)]))])),
 (bA 9 (cf EH (ar [(aA 6),(aA 7),(aA 8)]))),
 (bA 10 (eH dN (aA 9) [none,none,none] (nT 1) (rt true) (cf BJ (ar [(aA 1)])))),
 (bA 11 (ge cE (ge nR (ge (zA .bytes) (b2 (ge qJ (mV cX qI (aA 3))) (ge qJ (mV cX qI (aA 4))) bP))))),
 (bA 13 (eH dN (aA 11) [none,none,none,some 4,some 3] (nT 1) (t2 (bL cX dY (aA 4) (aA 1)) (bL cX dY (aA 3) (aA 1)) oZ) (b2 (aZ (ar [(aA 1)]) cO) (cf IH (ar [(bL cX dY (aA 4) (aA 1)),(bL cX dY (aA 3) (aA 1))])) bP))),
 (bJ (t2 (eH dN (cf YW (ar [(aA 6),(aA 9)])) [none,none] (nT 1) (rt true) (aZ (ar [(ge a_path (aA 1)),(ge WB (aA 1)),(ge WD (aA 1))]) cO)) (aA 13) oZ) (bl [(re (kB false))]) (bl [])),
 (bA 15 (cf OF (ar [(aA 6),(aA 9),(aA 5),(kI 40)]))),
 (bJ (t2 (eH dN (aA 15) [none,none,none] (nT 1) (rt true) (cf BJ (ar [(aA 1)]))) (cf YN (ar [(aA 10),(aA 3),(aA 4),(aA 5)])) oZ) (bl [(re (kB false))]) (bl [])),
 (fo (aZ (ar [(cf EM (ar [(aA 15)])),(aA 9),(cf OF (ar [(aA 6),(aA 9),(aA 5),(kI 41)]))]) cO) (nT 16) (bl [(bJ (t2 (eH dN (aA 16) [none,none,none] (nT 1) (rt true) (cf BJ (ar [(aA 1)]))) (aA 10) oZ) (bl [(re (kB false))]) (bl []))])),
 (bA 17 (cf OH (ar [(aA 1),(aA 2),(aA 3)]))),
 (oQ [13,14] (ar [(cf YM (ar [(aA 6),(ge cE (aZ (ar [(aA 7),(cf II (ar [(aA 2),(aA 17)]))]) kH)),(aA 8)])),(aZ (ar []) kH)])),
 (fo (ge cE (ge nR (ge (zA .bytes) (b2 (b2 (ge qJ (mV cX qI (aA 3))) (ge qJ (mV cX qI (aA 4))) bP) (ge qJ (mV cX qI (aA 17))) bP)))) (nT 12) (bl [(nI [18,19] (ar [(aZ (ar [(bL cX dY (aA 3) (aA 12)),(bL cX dY (aA 17) (aA 12))]) kT),(bL cX dY (aA 4) (aA 12))])),
 (bJ (t2 (aA 19) (aA 18) fE) (bl [(bA 20 (bL Ag Al (kS []) (eH dN (aA 18) [none,none,none,some 19] (nT 1) (rt true) (cf YQ (ar [(aA 1),(aA 3)]))))),
 (ex (bL cT dH (aA 13) (b2 (b2 (aZ (ar [(aA 12),(eH dN (aA 18) [none,none,none,some 2] (nT 1) (rt true) (cf rI (ar [(aA 3),(aA 1)])))]) cO) (cf rI (ar [(aA 2),(aA 19)])) bP) (aZ (ar [(aA 20)]) cO) bP)))]) (bl []))])),
 (re (c2 (eH dN (aA 14) [none,none] (nT 1) (rt true) (aZ (ar [(ge a_path (aA 1)),(eH dN (ge WA (aA 1)) [none,none,none] (nT 1) (rt true) (ge Fq (aA 1))),(ge oN (aA 1)),(ge lR (aA 1)),(mc 7 YA (aA 1) (ar []))]) cO)) (aA 13) cN))])
noncomputable def Na:Fn:=(bH 38 (gN 1) aCM)
theorem aKD(H:bM C):sM C 8 1012 Na:=
 (DJ (sl:=aNs) (H.fn 71 rfl) (fun env he hf=>
 (fW (jT (wF 759 [1,2] (aD (cI 21 (H.gf 7 rfl) (H.fn 5 rfl).is (aKF H) (aD (L 0) aH)) (aD (Hx .str (yK (Ks "store" [115,116,111,114,101]) (mO 22 (H.gk 11 rfl) (H.nw 11 rfl) (aKj H) (aD (mO 23 (H.gk 0 rfl) (H.nw 0 rfl) (aJW H) (aD (Ki 4) aH)) aH)) (yK (Ks "count" [99,111,117,110,116]) (Ki 0) HH))) aH)) he (q:=LB hf rfl))) (fW (jT (cD 3 (Sc hf) (fJ fD (UE .bytes (yK (Ky [97] [97]) (cI 24 (H.gf 9 rfl) (H.fn 8 rfl).is (Dw H) (aD (L 1) (aD (Lc 2) aH))) (yK (Ky [98] [98]) (cI 24 (H.gf 9 rfl) (H.fn 8 rfl).is (Dw H) (aD (L 1) (aD (Lc 2) aH))) HH)))))) (fW (jT (cD 4 (Sc hf) (cI 25 (H.gf 13 rfl) (H.fn 9 rfl).is (Vh H) (aD (L 1) (aD (Lc 2) (aD (Lc 3) aH)))))) (fW (jT (cD 5 Sl (cM cQ (nG (aD (Ki 10) (aD (Ki 60) (aD (Ki 100) aH)))) (cI 26 (H.gf 8 rfl) (H.fn 6 rfl).is (QQ H) (aD (L 1) (aD (Ki 3) aH)))))) (fW (Hs 763 [8,7,6] (kO (lE (cM cQ (Lc 2) (Ks "store" [115,116,111,114,101]))) (kO (HC 27 (H.gf 16 rfl) (H.fn 33 rfl).is (Dy H) (kO (lE (Lc 2)) (kO (lE (Lc 3)) sL))) (kO (HC 27 (H.gf 16 rfl) (H.fn 33 rfl).is (Dy H) (kO (lE (Lc 2)) (kO (lE (Lc 4)) sL))) sL))) he) (fW (jT (cD 9 Sl (cI 28 (H.gf 5 rfl) H.p_diff_trees.is (Vd H) (aD (L 6) (aD (L 7) (aD (L 8) aH)))))) (fW (jT (UA 10 Sl dC aNt [none,none,none] (L 9) (fun _=>cP (dA 1) oH (cI 2 (H.gf 15 rfl) (H.fn 13 rfl).is (Dx H) (aD (L 1) aH))))) (fW (jT (cD 11 Sl (fJ fD (iN 29 (H.gb 12 rfl) KO (kP 30 (H.gb 3 rfl) (Vp .bytes) (aX cR (kP 31 (H.gb 7 rfl) KN (wG JN pC KL (Lc 3))) (kP 31 (H.gb 7 rfl) KN (wG JN pC KL (Lc 4))))))))) (fW (jT (UA 13 Sl dC aNu [none,none,none,some 4,some 3] (L 11) (fun _=>cP (dA 1) (DI (aV vQ (dX rS pC vP (Lc 4) (L 1)) (dX rS pC vP (Lc 3) (L 1)))) (aX cR (eQ (aD (L 1) aH)) (cI 2 (H.gf 14 rfl) (H.fn 12 rfl).is (aKG H) (aD (dX rS pC vP (Lc 4) (L 1)) (aD (dX rS pC vP (Lc 3) (L 1)) aH))))))) (fW (jT (cG (aV vQ (nF dC aNv [none,none] (cI 32 (H.gf 38 rfl) H.p_treediff_numbers.is (aKY H) (aD (L 6) (aD (L 9) aH))) (fun _=>cP (dA 1) oH (eQ (aD (aM (zS H (bR rfl)) (L 1)) (aD (aM (aQ H 25 rfl) (L 1)) (aD (aM (aQ H 26 rfl) (L 1)) aH)))))) (L 13)) (aC (bS (Kb false)) aE) aE)) (fW (jT (cD 15 Sl (cI 33 (H.gf 1 rfl) H.p_broken.is (Vc H) (aD (L 6) (aD (L 9) (aD (L 5) (aD (Ki 40) aH))))))) (fW (jT (cG (aV vQ (nF dC aNw [none,none,none] (L 15) (fun _=>cP (dA 1) oH (cI 2 (H.gf 15 rfl) (H.fn 13 rfl).is (Dx H) (aD (L 1) aH)))) (cI 34 (H.gf 6 rfl) (H.fn 4 rfl).is (aKE H) (aD (L 10) (aD (Lc 3) (aD (Lc 4) (aD (L 5) aH)))))) (aC (bS (Kb false)) aE) aE)) (fW (jT (iC dC (eQ (aD (cI 35 (H.gf 40 rfl) (H.fn 70 rfl).is (aKZ H) (aD (L 15) aH)) (aD (L 9) (aD (cI 33 (H.gf 1 rfl) H.p_broken.is (Vc H) (aD (L 6) (aD (L 9) (aD (L 5) (aD (Ki 41) aH))))) aH)))) (dA 16) (aC (cG (aV vQ (nF dC aNx [none,none,none] (L 16) (fun _=>cP (dA 1) oH (cI 2 (H.gf 15 rfl) (H.fn 13 rfl).is (Dx H) (aD (L 1) aH)))) (L 10)) (aC (bS (Kb false)) aE) aE) aE))) (fW (jT (cD 17 Sl (cI 25 (H.gf 13 rfl) (H.fn 9 rfl).is (Vh H) (aD (L 1) (aD (Lc 2) (aD (Lc 3) aH)))))) (fW (Hs 777 [13,14] (kO (HC 36 (H.gf 4 rfl) (H.fn 52 rfl).is (Hz (aKC H)) (kO (lE (L 6)) (kO (aAv fD (aAw (kO (lE (L 7)) (kO (HC 27 (H.gf 16 rfl) (H.fn 33 rfl).is (Dy H) (kO (lE (Lc 2)) (kO (lE (L 17)) sL))) sL)))) (kO (lE (L 8)) sL)))) (kO (lE (mN aH)) sL)) he) (fW (jT (iC dC (fJ fD (iN 29 (H.gb 12 rfl) KO (kP 30 (H.gb 3 rfl) (Vp .bytes) (aX cR (aX cR (kP 31 (H.gb 7 rfl) KN (wG JN pC KL (Lc 3))) (kP 31 (H.gb 7 rfl) KN (wG JN pC KL (Lc 4)))) (kP 31 (H.gb 7 rfl) KN (wG JN pC KL (L 17))))))) (dA 12) (aC (wF 779 [18,19] (aD (nG (aD (dX rS pC vP (Lc 3) (L 12)) (aD (dX rS pC vP (L 17) (L 12)) aH))) (aD (dX rS pC vP (Lc 4) (L 12)) aH)) he (q:=LB hf rfl)) (aC (cG (aV pD (Lc 19) (L 18)) (aC (cD 20 Sl (dX aIn aJP aLs (Ks "" []) (nF dC aNy [none,none,none,some 19] (L 18) (fun _=>cP (dA 1) oH (cI 2 (H.gf 18 rfl) (H.fn 34 rfl).is (aKH H) (aD (L 1) (aD (Lc 3) aH))))))) (aC (gC (dX jD gU jE (L 13) (aX cR (aX cR (eQ (aD (L 12) (aD (nF dC aNz [none,none,none,some 2] (L 18) (fun _=>cP (dA 1) oH (cI 2 (H.gf 17 rfl) (H.fn 32 rfl).is (Dz H) (aD (Lc 3) (aD (L 1) aH))))) aH))) (cI 37 (H.gf 17 rfl) (H.fn 32 rfl).is (Dz H) (aD (Lc 2) (aD (Lc 19) aH)))) (eQ (aD (L 20) aH))))) aE)) aE) aE)))) (fW (jT (bS (qV fA (nF dC aNB [none,none] (L 14) (fun _=>cP (dA 1) oH (eQ (aD (aM (zS H (bR rfl)) (L 1)) (aD (nF dC aNA [none,none,none] (aM (aQ H 24 rfl) (L 1)) (fun _=>cP (dA 1) oH (kP 2 (H.gb 14 rfl) aLP (L 1)))) (aD (aM (aQ H 16 rfl) (L 1)) (aD (aM (aQ H 17 rfl) (L 1)) (aD (gX (H.mt 0 rfl) (aJV H) (L 1) aH) aH)))))))) (L 13)))) (yL aE))))))))))))))))))))
end
section
open Sem (wp)
noncomputable abbrev VU(q:iB)(loose:List Str)(XP:(Str→Option aB)→Heap→Prop)(YP:eR→Heap→Prop)(r:RowW)(d:DefRec)(kwd:List (Str×Expr))(run:aB→List aB→Sem aB):Prop:=
 ∀(w:eR) (s₀ s₁:aG) (mg mb:Str→Option aB),Ground q loose r.records XP w s₀ mg mb s₁.heap→YP w s₁.heap→∀(a:Addr) (o:Obj) (pm cd doc dV kV:aB),s₁.heap.get? a=some o→
  o.data= .func {docDef d.name d.params d.body d.scope pm cd doc with defaults:=dV,kwdefaults:=kV}→s₁.heap.CodeRec cd d.name→Dflts mg s₁.heap d.params kwd dV kV→mg d.name=some (.ref a)→s₁.gens= #[]→
  ∀(args:List WData) (vals:List aB) (as:List Addr),r.claim.pre args=true→WData.layableAll args=true→ReadsAllW r.records (classAt s₀.heap) s₁.heap vals args as→WellAll w.params s₁.heap vals args→(∀ a∈as,(a==rZ)=false)→
   bB (aK r.prog w) callerA (run (.ref a) vals) (fun v s'=>GoodWG r.claim (classAt s₀.heap) (ExcName.means s₀.heap) args s₁ (.ok (.ret v)) s') s₁
theorem aII:ND ⟨.builtin "claim.caller" {},none,none,[],none⟩:=⟨by kernel_rfl,fun _ h=>(nomatch h)⟩
theorem aPl{prog:iB}{w:eR}{t:Sem Fin}{s:aG}{R:Result→aG→Prop}(hreg:s.asleep)
  (h:bB (aK prog w) callerA t (fun fin s'=>∃ f,fin= .done f∧(R (.ok f) s'∧leftWithCleanup s'.gens=false)) s):
  ∃ n r s' s'',runN (denote table) prog w n s ⟨t,.builtin "claim.caller" {},default,[]⟩= .halted (outcomeOf r) s'∧
   schedN (denote table) prog w n (.single s ⟨t,.builtin "claim.caller" {},default,[]⟩)= .halted (outcomeOf r) s'∧s'.forget=s''.forget∧R r s'':=by
 have h0:wp (aK prog w) ⟨.builtin "claim.caller" {},none,none,[],none⟩ t (Sem.finPost (aK prog w) ⟨.builtin "claim.caller" {},none,none,[],none⟩ fun r s'=>R r s'∧leftWithCleanup s'.gens=false) (fun e _ s'=>R (.error e) s'∧leftWithCleanup s'.gens=false) default s:=by
  refine MN _ _ t (fun fin p' s' h'=> ?_) (fun _ _ _ h'=>h'.elim) default s (h _ default caller_in aII)
  obtain⟨f,rfl,hf⟩:=h'
  exact hf
 obtain⟨n,r,s₁,s₂,hs,hn,hfo,hR⟩:=wp_halts_full (M:=aK prog w) (R:=R) hreg h0
 exact⟨n,r,s₂,s₁,hn,hs,hfo,hR⟩
theorem aDx{c:ClaimW}{tree:List aB→Sem Fin}{w:eR}{s:aG}{free:Addr→Prop}{gens:Prop}{kept:Heap→Prop}(hz:s.asleep)(hgens:s.gens= #[])
  (hspec:∀ args,c.pre args=true→WData.layableAll args=true→
   ∀ ord:List qC→List qC,(∀ l,(ord l).Perm l)→
   ∃ vs s₁,layAllW c.records (classAt s.heap) w.params ord args s=some (vs,s₁)∧
    bB (aK c.prog w) callerA (tree vs) (fun fin s'=>∃ f,fin= .done f∧(c.Ends s args vs s₁ (.ok f) s'∧s'.os=s.os∧AllBare s'.gens∧kept s'.heap)) s₁):
  c.CallFrom (fun vs=>⟨tree vs,.builtin "claim.caller" {},default,[]⟩) w free gens kept s:=by
 intro args hpre hlay ord hord
 obtain⟨vs,s₁,hlaid,sT⟩:=hspec args hpre hlay ord hord
 have hal:=layAllW_rest _ _ _ hlaid
 obtain⟨k,r,s',s'',hrun,hsched,hfo,hcase,hos,hkp⟩:=aPl (prog:=c.prog) (w:=w) (t:=tree vs) (s:=s₁)
  (R:=fun r s'=>c.Ends s args vs s₁ r s'∧s'.os=s.os∧kept s'.heap)
  (Shared.asleep_of_life hal.2.2.2 hz)
  (hV sT (by
   rintro fin s' ⟨f,e,h1,h2,h3,h4⟩
   exact⟨f,e,⟨h1,h2,h4⟩,leftWithCleanup_false_of_bare h3⟩))
 obtain⟨eh,_,_,eo,_⟩:=Shared.forget_eq hfo
 have hcase:=hcase.congr eh
 have hkp:kept s'.heap:=by first | exact eh▸hkp | (rw [eh] at hkp;exact hkp) | (rw [←eh] at hkp;exact hkp)
 rw [←eo] at hos
 have hlife:s'.heap.life=s.heap.life:=(runN_life _ _ _ hrun).trans hal.2.2.2
 refine⟨vs,s₁,hlaid,k,_,s',hsched,?_,(fun _ i x hx=>by rw [hgens] at hx;simp at hx),hkp,by rw [hlife],Shared.rest_eq hos⟩
 rcases hcase with⟨v,h⟩ | ⟨e,ob,cls,h⟩
 ·exact .inl ⟨v,congrArg outcomeOf h.1,h.2.1,h.2.2.1,h.2.2.2.1,fun b o y _=>h.2.2.2.2.1 b o y,h.2.2.2.2.2⟩
 ·exact .inr ⟨e,ob,cls,congrArg outcomeOf h.1,h.2.1,h.2.2.1,h.2.2.2.1,h.2.2.2.2.1,fun b o y _=>h.2.2.2.2.2 b o y⟩
theorem aJl{r:RowW}{run:aB→List aB→Sem aB}{tree:List aB→Sem Fin}{q:iB}{loose defs kps:List Str}{writes:Bool}{Xt:aG→Bool}{XP:(Str→Option aB)→Heap→Prop}{α:Type}{Yf:aG→α}{Ya:eR→α}{YP:eR→Heap→Prop}{N:Nat}
  (left:LeftO r.prog q loose Xt Yf Ya N) (hY:∀ w s,Yf s=Ya w→YP w s.heap) (hYk:∀ w h h',YP w h→(∀ b o,h.get? b=some o→h'.get? b=some o)→YP w h') (hX:∀ s,Xt s=true→XP (s.heap.nsMap jX) s.heap) (hXk:∀ mg h h',XP mg h→(∀ b o,h.get? b=some o→h'.get? b=some o)→XP mg h')
  (hRf:∀ s,Xt s=true→RecFacts r.records s.heap) (hwr:(!writes || r.records.isEmpty)=true) (ok:(chainsOk q && opensWell r.prog && (PySem.W.frees r && r.within.isEmpty))=true) (hb:r.prog.bare) (hw:r.promised)
  (ht:∀ vs (w:eR) (s:aG) mg f (Q:Fin→aG→Prop),s.heap.Ns jX mg→mg r.name=some f→bB (aK r.prog w) callerA (run f vs) (fun v s'=>Q (.done (.ret v)) s') s→bB (aK r.prog w) callerA (tree vs) Q s)
  (pin:∀ w s,s.heap.isNs jX=true→Ground q loose [] XP w s (s.heap.nsMap jX) (s.heap.nsMap wO) s.heap→∀ n∈defs,isTheDefsW r.prog s.heap n)
  (call:∀(w:eR) (s₀ s₁:aG) (mg mb:Str→Option aB),Ground q loose r.records XP w s₀ mg mb s₁.heap→YP w s₁.heap→∀(args:List WData) (vs:List aB) (as:List Addr),
   r.claim.pre args=true→WData.layableAll args=true→Laid r.records w s₀ s₁ args vs as→rZ < s₀.heap.objs.size→∃ f,mg r.name=some f∧
    bB (aK r.prog w) callerA (run f vs) (fun v s'=>GoodWG r.claim (classAt s₀.heap) (ExcName.means s₀.heap) args s₁ (.ok (.ret v)) s') s₁):r.claim.HoldsOpenBy (fun vs=>⟨tree vs,.builtin "claim.caller" {},default,[]⟩) defs kps writes:=by
 obtain⟨ok,k5⟩:=Bool.and_eq_true_iff.mp ok
 obtain⟨hch,o1⟩:=Bool.and_eq_true_iff.mp ok
 obtain⟨k5,k6⟩:=Bool.and_eq_true_iff.mp k5
 obtain⟨hsame,hu,ha,hap,hm⟩:=frees_parts k5
 refine⟨⟨hb,o1,by show r.makers.map _= [];rw [hm];rfl⟩,hw.witness,fun w=>⟨(left.behind hX hch w).1,fun s' hs'=> ?_⟩⟩
 obtain⟨s₀,hf,hg0,s,hT,hz,hgens,hg,G00,y⟩:=(left.behind (XP:=fun mg h=>XP mg h∧RecFacts r.records h) (fun s hs=>⟨hX s hs,hRf s hs⟩) hch w).2 s' hs'
 have G0:Ground q loose [] XP w s (s.heap.nsMap jX) (s.heap.nsMap wO) s.heap:=⟨G00.T,G00.B,G00.D,G00.TE,G00.TD,G00.W,G00.X.1,G00.cls,G00.has,G00.apart,G00.once,G00.K⟩
 have RF:=G00.X.2
 have hT':=hT
 refine⟨s₀,hf,hg0,s,hT,pin w s hg G0,RF.1,RF.2.1,?_⟩
 have hgens:s.gens= #[]:=Array.eq_empty_of_size_eq_zero (beq_iff_eq.mp hgens)
 have G:Ground q loose r.records XP w s _ _ s.heap:=RF.ground G0
 refine aDx (c:=r.claim) hz hgens fun args hpre hlay ord hord=> ?_
 obtain⟨⟨vs,s₁⟩,hlaid⟩:=Option.isSome_iff_exists.mp (layAllW_isSome (P:=w.params) (ord:=ord) G.has args r.args s (pre_splitW hpre).1)
 have keeps:=layAllW_keeps _ _ _ hlaid
 have hal:=layAllW_rest _ _ _ hlaid
 obtain⟨as,hrd,hin,hold⟩:=reads_layAllW hord _ _ _ hlaid hlay s₁.heap (fun _ _ e=>e)
 have L:Laid r.records w s s₁ args vs as:=⟨⟨ord,hord,hlaid⟩,hrd,hin,hold,keeps,hal.1.trans hgens,hal.2.2.1⟩
 have G₁:=G.keeps hXk keeps
 obtain⟨f,hf,h⟩:=call w s s₁ _ _ G₁ (hYk _ _ _ (hY w s y) keeps) args vs as hpre hlay L G.low
 have hi:=ident_freeW hu ha hap
 have hwi:r.claim.within= []:=List.isEmpty_iff.mp k6
 exact⟨vs,s₁,hlaid,ht vs w s₁ _ f _ G₁.T.g hf (hV h (fun v s' g=>⟨_,rfl,have z:=g.laid (c:=r.claim) hsame hwi hi L;⟨z.1,z.2.1,z.2.2,fun q=>⟨namesKept_of hT' hg kps keeps g.2.1.old,noTable hwr q⟩⟩⟩))⟩
theorem aQy{M:jR}{A:aR}{s:aG}{Q:Option aB→aG→Prop}{a:Addr}{m:Str→Option aB}{x:Str}(hg:s.heap.Ns a m)(h:Q (m x) s):bB M A (nsGet a x) Q s:=fU (wpAny_nsGet hg h)
theorem aGz{r:OpenRow}{q:iB}{loose:List Str}{Xt:aG→Bool}{XP:(Str→Option aB)→Heap→Prop}{α:Type}{Yf:aG→α}{Ya:eR→α}{YP:eR→Heap→Prop}{d:DefRec}{kwd:List (Str×Expr)}{N:Nat}
  (left:LeftO r.prog q loose Xt Yf Ya N) (hY:∀ w s,Yf s=Ya w→YP w s.heap) (hYk:∀ w h h',YP w h→(∀ b o,h.get? b=some o→h'.get? b=some o)→YP w h')
  (hX:∀ s,Xt s=true→XP (s.heap.nsMap jX) s.heap) (hXk:∀ mg h h',XP mg h→(∀ b o,h.get? b=some o→h'.get? b=some o)→XP mg h')
  (hdef:defOf q r.name=some (d,kwd)) (hp:r.prog.theDef r.name=some (d.params,d.body,d.scope)) (hk:kwWritten? d.params.kwonlyargs d.params.kw_defaults=some kwd) (hRf:∀ s,Xt s=true→RecFacts r.records s.heap) (hwr:(!r.writes || r.records.isEmpty)=true)
  (k1:r.wellSaid=true) (ok:(chainsOk q && opensWell r.prog && (PySem.W.frees r.toRowW && r.within.isEmpty))=true) (hb:r.prog.bare) (hw:r.toRowW.promised)
  (call:VU q loose XP YP r.toRowW d kwd fun f vs=>PySem.call f vs):r.Holds:=by
 refine⟨k1,hw,aJl (r:=r.toRowW) (run:=fun f vs=>PySem.call f vs) (tree:=fun vs=>do match ←nsGet mainNs r.name with
   |some f=>do ret (←PySem.call f vs)
   |none=>unsupported "claim.caller:no-such-global") left hY hYk hX hXk hRf hwr ok hb hw
  (fun vs w s mg f Q hg hf h=>bE (aQy hg (by rw [hf];exact bE (hV h (fun _ _ x=>dD x)))))
  (fun w s hg G n hn=> ?_) fun w s₀ s₁ mg mb G Y args vs as hpre hlay L low=> ?_⟩
 ·obtain rfl:n=r.name:=by split at hn <;> simp_all
  exact pinned_of_view hg G hdef hp hk
 ·obtain⟨a,o,pm,cd,doc,dV,kV,h1,h2,h3,h4,h5⟩:=G.fn hdef
  exact⟨.ref a,h1,call w s₀ s₁ mg mb G Y a o pm cd doc dV kV h2 h3 h4 h5 (defOf_name hdef▸h1) L.gens args vs as hpre hlay L.reads L.well (L.low low)⟩
end
noncomputable abbrev pW:iB:=PySem.Challenge.pw_nt0314_01
noncomputable def vw:iB:={pW with main:={pW.main with body:=[aY pB 86]}}
noncomputable def lo:List Str:=(["_wall","BLOB","TREE","COMMIT","FILE","EXEC","LINK","DIR","SUB","HEX_SIGNS","GitError","BadObject","MissingObject","BadState","octets_of","hex_of","big_endian","lines_of","CountingHasher","Change","LineNumbers","LineSheet","line_further","line_rising","myers","patience","histogram","by","ADDED","GONE","OTHER","OTHER_KIND","PLAIN","POINTER","MODULE","FOLDER","treediff_kind","treediff_joined","PathChange","treediff_order","treediff_entries","treediff_added","treediff_gone","treediff_beside","treediff_is_alike","diff_trees","treediff_is_binary","Spans","TreediffContents","broken","treediff_rejoined","CombinedChange","combined","TreediffNumbers","treediff_content","treediff_numbers","OBJECT_MODES","object_has_sign","object_are_all","Entry","object_by_eights","object_name_fault","Tree","tree_faults","check_tree","object_octets","MemoryStore","_law_deck","_law_draw","_law_line","_law_file","_law_next","_law_version","_law_tree","_law_is_text","_law_lines","_law_numbers","_law_row","_law_broken","_law_word"]:List String).map uY
noncomputable def PZ:List (Str×WData):=[]
noncomputable def rW:RowW:=PySem.Challenge.rw_nt0314_01.row.toRowW
noncomputable def RT(s:aG):Bool:=xlAt vw PZ s && recOk (RowW.records rW) s
theorem aMg:PySem.Challenge.rw_nt0314_01.wellSaid=true:=by
 unfold OpenLaw.wellSaid OpenRow.wellSaid OpenRow.partSaid looksOpen
 repeat' (with_reducible refine look_both ?_ ?_)
 all_goals decide+kernel
section
variable{α:Type}(Yf:aG→α)(Ya:eR→α)(YP:eR→Heap→Prop)
theorem hdo(left:LeftO pW vw lo RT Yf Ya 14300)(hY:∀ w s,Yf s=Ya w→YP w s.heap)(hYk:∀ w h h',YP w h→(∀ b o,h.get? b=some o→h'.get? b=some o)→YP w h')
  (call:∀ d kwd,d.name=("law":Str)→VU vw lo (XL vw PZ) YP rW d kwd fun f vs=>PySem.call f vs):PySem.Challenge.rw_nt0314_01.Holds:=by
 w_on
 refine holds_law aMg fun said=> ?_
 refine aGz (q:=vw) (loose:=lo) (Xt:=RT) (XP:=XL vw PZ) (Yf:=Yf) (Ya:=Ya) (YP:=YP) (N:=14300) left hY hYk (fun s e=>xl_of s (Bool.and_eq_true_iff.mp e).1) XL.keeps (by rfl) (by rfl) (by rfl) (fun s e=>recFacts_of (Bool.and_eq_true_iff.mp e).2) (by rfl) (by assumption) (by decide+kernel) ⟨rfl,rfl,rfl,rfl,rfl,by decide+kernel⟩ ?hw ?hc
 case hw=>w_witness2
 refine call _ _ ?_
 rfl
end
noncomputable def LH(ok:Thread→Bool)(st:tU→Thread→Option (tU×Thread)):Nat→tU→Thread→Option tU
 |0,_,_=>none
 |n+1,s,t=>match through t with
  |true=>some s
  |false=>match ok t with
   |false=>none
   |true=>match st s t with
    |some (s',t')=>LH ok st n s' t'
    |none=>none
theorem Ye{tb:String→Option Builtin}{p:iB}{w:eR}{n₀:Nat}{ann:Option aB}:∀ {n:Nat} {s s':tU} {t:Thread},LH (stepOk n₀ ann) (stepT (denote tb) p w) n s t=some s'→topRun tb p w n₀ ann n s.abs t=some s'.abs
 |0,_,_,_,h=>by cases h
 |n+1,s,s',t,h=>by
  unfold LH at h
  unfold topRun
  cases ht:through t with
  |true=>rw [ht] at h;cases h;rfl
  |false=>
   replace h:=(ht)▸h
   dsimp only at h ⊢
   cases hk:stepOk n₀ ann t with
   |false=>rw [hk] at h;cases h
   |true=>
    replace h:=(hk)▸h
    dsimp only at h ⊢
    cases hs:stepT (denote tb) p w s t with
    |none=>rw [hs] at h;cases h
    |some x=>
     obtain⟨s₁,t₁⟩:=x
     rw [hs] at h
     rw [stepT_spec hs]
     exact Ye h
noncomputable def Qa:BT→Nat→List Obj→BT
 |t,_,[]=>t
 |t,i,o::os=>Qa (t.ins i o) (i+1) os
noncomputable def S0(P:Params)(os:OsState):tU:={tree:=Qa .nil 0 (yV P).objs.toList,n:=(yV P).objs.size,life:=(yV P).life,gens:=#[],drawn:=boot_drawn,toks:=boot_toks,os:=os}
theorem aAI(P:Params)(os:OsState):(S0 P os).abs=⟨yV P,#[],boot_drawn,boot_toks,os⟩:=by kernel_rfl
noncomputable def WH:Option aB:=some (.ref 6)
section
variable{p q:iB}{loose:List Str}{Xt:aG→Bool}{α:Type}{Yf:aG→α}{Ya:eR→α}{N n₀:Nat}{ann:Option aB}{H:Params→Heap}{g:Array GenState}{d:Drawn}{k:Nat}
theorem aHI{S:Params→OsState→tU}(hS:∀ P os,(S P os).abs=⟨H P,g,d,k,os⟩)
  (open_:∀ w:eR,(fencedOpening treeTable p w N).map (fun s=>(s.heap,s.gens,s.drawn,s.toks))=some (H w.params,g,d,k))
  (size:∀ P,((H P).isNs jX && g.size==0,(H P).objs.size,(H P).nsMap jX "__annotations__")=(true,n₀,ann))
  (run:∀(w:eR) (os:OsState),(LH (stepOk n₀ ann) (stepT (denote treeTable) p w) N (S w.params os) (topStub p)).map (fun s=>(staticsOk (OZ p.main.body) (H w.params) s.abs.heap && namesBound p s.abs.heap && gensDone s.abs && laidKept (H w.params) s.abs.heap,openSeen q loose (OZ p.main.body) Xt true s.abs,Yf s.abs))=some (true,openGood q loose,Ya w)):LeftO p q loose Xt Yf Ya N:=fun w=>by
 obtain⟨⟨h,gs,d',k',os⟩,e,e'⟩:=Option.map_eq_some_iff.mp (open_ w)
 obtain⟨rfl,rfl,rfl,rfl⟩:h=H w.params∧gs=g∧d'=d∧k'=k:=by simpa using e'
 obtain⟨z1,z2,z3⟩:_∧_∧_:=by simpa only [TX] using size w.params
 obtain⟨s,hs,hl⟩:=Option.map_eq_some_iff.mp (run w os)
 obtain⟨l1,l2,l3⟩:_∧_∧_:=by simpa only [TX] using hl
 have r:=Ye hs
 rw [hS] at r
 have t:topFrom treeTable p w N ⟨H w.params,gs,d',k',os⟩=some s.abs:=by
  unfold topFrom
  refine(z1).symm▸(z2).symm▸(z3).symm▸(r).symm▸?_
  show(match staticsOk (OZ p.main.body) (H w.params) s.abs.heap && namesBound p s.abs.heap && gensDone s.abs && laidKept (H w.params) s.abs.heap with | true=>_ | false=>_)=_
  rw [l1]
 unfold openEnds
 rw [e]
 show(topFrom treeTable p w N _).map _=_
 rw [t]
 exact congrArg some (Prod.ext l2 l3)
end
theorem aMs(P:Params):((yV P).isNs jX && (#[]:Array GenState).size==0,(yV P).objs.size,(yV P).nsMap jX "__annotations__")=(true,11,WH):=by kernel_rfl
theorem aJk:opening pW=plainProg pW.main.scope.names:=by kernel_rfl
theorem aFv(s:aG):fenceModules? pW s=some s:=by kernel_rfl
noncomputable def Nu:Data→Option qT
 |.func fd=>some fd
 |_=>none
theorem aFC(h:Nu d=some fd):d= .func fd:=by
 cases d <;> cases h
 rfl
noncomputable def OK(K:Frag)(a:Addr):Option qT:=match K.lookup a with
 |some o=>Nu o.data
 |none=>none
noncomputable def jW(K:Frag)(a:Addr):qT:=match OK K a with
 |some fd=>fd
 |none=>default
noncomputable def YX(K:Frag)(fd:qT):Bool:=fd.closure.isEmpty && fd.globals==jX && fd.builtins==wO && !fd.scope.isCoroutine && !fd.scope.isGenerator && xO fd.scope && codeIn K fd.code fd.qualname
noncomputable def EO(K:Frag)(a:Addr):Bool:=match OK K a with
 |some fd=>YX K fd
 |none=>false
theorem Ni{K:Frag}(h:EO K a=true):∃ o,K.lookup a=some o∧o.data= .func (jW K a)∧YX K (jW K a)=true:=by
 unfold EO at h
 unfold jW
 cases q:OK K a with
 |none=>rw [q] at h;cases h
 |some fd=>
  rw [q] at h
  unfold OK at q
  cases r:K.lookup a with
  |none=>rw [r] at q;cases q
  |some o=>
   rw [r] at q
   exact⟨o,rfl,aFC q,h⟩
section
variable{C:Cx}{a:Addr}{sc:Scope}{body:List Stmt}{names:List Str}{g f:List SV→Option (List SV)}
theorem aFs(h:EO C.K a=true)(hb:(jW C.K a).body= .stmts body)(hs:(jW C.K a).scope=sc)(B:AF C (jW C.K a) names g):lB C a sc body names g:=by
 obtain⟨o,ho,hd,h⟩:=Ni h
 simp only [YX,hZ,RX,List.isEmpty_iff,beq_iff_eq] at h
 obtain⟨⟨⟨⟨⟨⟨h1,h2⟩,h3⟩,h4⟩,h5⟩,h6⟩,h7⟩:=h
 exact⟨_,⟨⟨o,C.kin _ _ ho,hd⟩,codeRec_of C.kin h7,hb,h1,h2,h3,h4,h5,h6⟩,hs,B⟩
theorem aGO(h:EO C.K a=true):GO C a:=by
 obtain⟨o,ho,hd,_⟩:=Ni h
 exact⟨o,_,C.kin _ _ ho,hd⟩
theorem aFS(h:gN k as=some bs):bs=as∧as.length=k:=by
 unfold gN at h
 cases q:bV as.length k <;> rw [q] at h <;> cases h
 exact⟨rfl,sH q⟩
theorem aFR(h:gD k ds as=some bs):bs=as++ds.map .pv∧as.length=k:=by
 unfold gD at h
 cases q:bV as.length k <;> rw [q] at h <;> cases h
 exact⟨rfl,sH q⟩
theorem bN(hb:∀ {cells:List SO} (y:Wd C cells) (vals:List aB),vals.length=k→BindsTo y.s fd ⟨vals,[]⟩ (names.zip vals))(hk:names.length=k):AF C fd names (gN k):=fun y args args' vals h d=>by
 obtain⟨rfl,hl⟩:=aFS h
 exact⟨vals,hb y vals (d.len▸hl),d,hk.trans hl.symm⟩
theorem bD(dv:List aB)(hb:∀ {cells:List SO} (y:Wd C cells) (vals:List aB),vals.length=k→BindsTo y.s fd ⟨vals,[]⟩ (names.zip (vals++dv)))(hk:names.length=k+ds.length)(hd:∀ W,DenL C W ds dv):AF C fd names (gD k ds):=fun y args args' vals h d=>by
 obtain⟨rfl,hl⟩:=aFR h
 exact⟨vals++dv,hb y vals (d.len▸hl),d.app (bQ.s (cast (congrFun (iH ds) dv) (hd y.X.W))),by rw [hk,fH,bT,hl]⟩
theorem aFr(h:lB C a sc body names f)(h':lB C a sc body names g):lB C a sc body names (gO f g):=by
 obtain⟨fd,P,hs,B⟩:=h.ex
 obtain⟨fd',P',_,B'⟩:=h'.ex
 obtain⟨o,ho,hd⟩:=P.obj
 obtain⟨o',ho',hd'⟩:=P'.obj
 cases ho.symm.trans ho'
 cases hd.symm.trans hd'
 refine⟨fd,P,hs,fun y args args' vals e d=> ?_⟩
 unfold gO at e
 cases q:f args with
 |some r=>rw [q] at e;cases e;exact B y q d
 |none=>rw [q] at e;exact B' y e d
end
noncomputable def BA:Nat→Addr:=tg 0 [127,169,202,300,431,537,572,613,639,711,760,922]
noncomputable def ZH:List (List Str):=[["size","known"],["a_from","a_to","b_from","b_to"],["known","strange","count"],["a","b","gone","come"],["word","old_mode","old_id","old_path","new_mode","new_id","new_path","score"],["size","counts"],["store","by_id"],["path","olds","new_mode","new_id"],["path","put_in","taken_out"],["mode","name","oid"],["entries"],["hasher","kept"]]
noncomputable def EN:Nat→List Str:=tg [] ZH
noncomputable def tD:List (Addr×Stmt×aB):=[((117:Addr),(aY (eV (aY pB 19)) 0),.ref 110),((376:Addr),(aY (eV (aY pB 41)) 0),.ref 369),((414:Addr),(aY (eV (aY pB 41)) 5),.ref 407),((406:Addr),(aY (eV (aY pB 41)) 4),.ref 399),((491:Addr),(aY pB 49),.ref 484),((506:Addr),(aY (eV (aY pB 50)) 1),.ref 499),((584:Addr),(aY pB 52),.ref 577),((483:Addr),(aY pB 48),.ref 478),((658:Addr),(aY pB 58),.ref 651)]
noncomputable def tT:List (Addr×Obj):=[(110,⟨.type "tuple",none,.seq #[.int 4 335] 0,#[]⟩),(369,⟨.type "tuple",none,.seq #[.none] 0,#[]⟩),(399,⟨.type "tuple",none,.seq #[.none] 0,#[]⟩),(407,⟨.type "tuple",none,.seq #[.none] 0,#[]⟩),(478,⟨.type "tuple",none,.seq #[.bytes #[] 909,.bool true] 0,#[]⟩),(484,⟨.type "tuple",none,.seq #[.int 8000 916] 0,#[]⟩),(499,⟨.type "tuple",none,.seq #[.int 64 939] 0,#[]⟩),(577,⟨.type "tuple",none,.seq #[.int 60 1047,.int 0 1048] 0,#[]⟩),(651,⟨.type "tuple",none,.seq #[.str (uY "myers") 1165] 0,#[]⟩),(659,⟨.type "tuple",none,.seq #[.int 33188 202,.int 33261 204,.int 40960 206,.int 16384 208,.int 57344 210] 0,#[]⟩)]
noncomputable def Fj:Option (Option aB)→Tok
 |some (some v)=>match v with
  |.int _ t=>t
  |_=>0
 |_=>0
noncomputable def CN:Option (Option aB)→Option (Option aB)
 |some (some v)=>match v with
  |.int i _=>some (some (.int i 0))
  |.str i _=>some (some (.str i 0))
  |.bytes i _=>some (some (.bytes i 0))
  |v=>some (some v)
 |x=>x
noncomputable def Fo:PV→aB
 |.int i=>.int i 0
 |.str l=>.str ⟨l.toArray⟩ 0
 |.bytes l=>.bytes (l.map tW).toArray 0
 |_=>.ref 659
noncomputable abbrev xG(K:Frag)(x:Str):Option (Option aB):=CN (nsIn K jX x)
noncomputable abbrev iT(v:aB):Option (Option aB):=some (some v)
noncomputable def ET(K:Frag)(r:Addr×Stmt×aB):=(EO K r.1,(jW K r.1).body,(jW K r.1).scope,(jW K r.1).params,(jW K r.1).defaults)
noncomputable def zJ(r:Addr×Stmt×aB):=(true,FuncBody.stmts (rK r.2.1),rL r.2.1,pT r.2.1,r.2.2)
noncomputable abbrev OW(r:Addr×Stmt):Addr×Stmt×aB:=(r.1,r.2,.none)
noncomputable def ZT(K:Frag)(A:Nat→Addr)(c:Nat):=let a:=A c;(nN K (.ref a) "__getattribute__",nN K (.ref a) "__getattr__",nN K (.ref a) "__setattr__",hasDictIn K a,plainOver K a,makesIn K a,nN K (.ref a) "__init__",typeIn K (.ref (QH c)),keepIn K (.ref a),xG K (ZO c))
noncomputable def ZS(A:Nat→Addr)(c:Nat):=(iT (.builtin "object.__getattribute__"),some (none:Option aB),iT (.builtin "object.__setattr__"),true,true,true,iT (.ref (QH c)),some (HK "function"),true,iT (.ref (A c)))
noncomputable def Pp(K:Frag)(A:Nat→Addr)(r:Nat×Str×Addr):=(nN K (.ref (A r.1)) r.2.1,typeIn K (.ref r.2.2),EO K r.2.2)
noncomputable def Po(r:Nat×Str×Addr):=(iT (.ref r.2.2),some (HK "function"),true)
noncomputable def Pk(K:Frag)(A:Nat→Addr)(r:Str×List (Nat×Nat)):=r.2.map fun p=>nN K (.ref (A p.1)) r.1
noncomputable def Pj(r:Str×List (Nat×Nat)):=r.2.map fun _=>some (none:Option aB)
noncomputable def Pu(K:Frag)(A:Nat→Addr):=(CN (nN K (.ref (A 5)) "WRAP"),specialIn K (.int 2147483647 (Fj (nN K (.ref (A 5)) "WRAP"))) "__get__",nN K (.ref (A 4)) "path",specialIn K (.ref 384) "__get__",takesIn K (.ref 384),(match recIn K 384 "property" with | some (qE a::_)=>some a | _=>none:Option Addr),xG K "law",xG K "OBJECT_MODES")
noncomputable def Pt:Option (Option aB)×Option (Option aB)×Option (Option aB)×Option (Option aB)×Option Bool×Option Addr×Option (Option aB)×Option (Option aB):=(iT (.int 2147483647 0),some none,iT (.ref 384),iT (.builtin "property.__get__"),some true,some 383,iT (.ref 1012),iT (.ref 659))
noncomputable def Ci(K:Frag):=(tF.map fun r=>ET K (OW r),tD.map (ET K),tT.map fun r=>K.lookup r.1)
noncomputable def Cj:=(tF.map fun r=>zJ (OW r),tD.map zJ,tT.map fun r=>some r.2)
noncomputable def Ck(K:Frag)(A:Nat→Addr):=((uT 12).map (ZT K A),tM.map (Pp K A),tA.map (Pk K A),tC.map fun r=>xG K r.1,tB.map fun r=>xG K r.1,tG.map fun r=>xG K r.1,Pu K A)
noncomputable def Cm(A:Nat→Addr):=((uT 12).map (ZS A),tM.map Po,tA.map Pj,tC.map fun r=>iT (Fo r.2),tB.map fun _=>some (none:Option aB),tG.map fun r=>iT (.ref r.2),Pt)
structure CU(K:Frag)(A:Nat→Addr):Prop where
 f:tF.map (fun r=>ET K (OW r))=tF.map fun r=>zJ (OW r)
 d:tD.map (ET K)=tD.map zJ
 t:(tT.map fun r=>K.lookup r.1)=tT.map fun r=>some r.2
 k:(uT 12).map (ZT K A)=(uT 12).map (ZS A)
 m:tM.map (Pp K A)=tM.map Po
 a:tA.map (Pk K A)=tA.map Pj
 c:(tC.map fun r=>xG K r.1)=tC.map fun r=>iT (Fo r.2)
 b:(tB.map fun r=>xG K r.1)=tB.map fun _=>some (none:Option aB)
 g:(tG.map fun r=>xG K r.1)=tG.map fun r=>iT (.ref r.2)
 x:Pu K A=Pt
theorem aFt{K:Frag}{A:Nat→Addr}(h:Ci K=Cj)(h':Ck K A=Cm A):CU K A:=
 ⟨congrArg (fun x=>x.1) h,congrArg (fun x=>x.2.1) h,congrArg (fun x=>x.2.2) h,congrArg (fun x=>x.1) h',congrArg (fun x=>x.2.1) h',congrArg (fun x=>x.2.2.1) h',congrArg (fun x=>x.2.2.2.1) h',congrArg (fun x=>x.2.2.2.2.1) h',congrArg (fun x=>x.2.2.2.2.2.1) h',congrArg (fun x=>x.2.2.2.2.2.2) h'⟩
noncomputable def AS:List Nat:=[3,127,126,169,168,202,201,300,299,431,430,537,536,572,571,613,612,639,638,711,710,760,759,922,921,82,83,94,95,101,102,110,116,117,123,124,144,145,186,187,193,194,198,199,219,220,226,227,233,234,240,241,247,248,254,255,261,262,310,311,324,325,346,347,353,354,360,361,369,375,376,382,383,384,399,405,406,407,413,414,441,442,448,449,455,456,462,463,469,470,476,477,478,482,483,484,490,491,499,505,506,512,513,519,520,533,534,554,555,561,562,577,583,584,588,589,602,603,609,610,621,622,635,636,649,650,651,657,658,659,665,666,672,673,686,687,693,694,707,708,721,722,728,729,742,743,749,750,770,771,777,778,784,785,798,799,805,806,812,813,819,820,861,862,882,883,889,890,896,897,930,931,937,938,944,945,949,950,954,955,961,962,968,969,975,976,982,983,987,988,994,995,999,1000,1006,1007,1011,1012]
noncomputable def IQ(h:Heap):Frag:=AS.filterMap fun a=>(h.get? a).map fun o=>(a,o)
theorem aFN{h:Heap}{a:Addr}{o:Obj}(l:List Nat):(l.filterMap fun a=>(h.get? a).map fun o=>(a,o)).lookup a=some o→h.get? a=some o:=by
 induction l with
 |nil=>exact fun e=>nomatch e
 |cons b l ih=>
  rw [List.filterMap_cons]
  cases q:h.get? b with
  |none=>exact ih
  |some ob=>
   show(((b,ob)::_).lookup a)=_→_
   rw [List.lookup_cons]
   cases z:(a==b) with
   |true=>exact fun e=>by cases e;rw [beq_iff_eq.mp z];exact q
   |false=>exact ih
theorem aFM(h:Heap):(IQ h).In h:=fun _ _ e=>aFN _ e
section
open PySem.W.Fast
noncomputable def Fe:Thread→Bool:=tw6613529449190102663 11 WH
noncomputable def Ff(w:eR):tU→Thread→Option (tU×Thread):=tw10156331382660048174 (tw11892475500146522536 tw14364793385576792824) pW w
theorem aPd:stepOk 11 WH=Fe:=by unfold Fe;rw [te6613529449190102663]
theorem aPe(w:eR):stepT (denote treeTable) pW w=Ff w:=by unfold Ff;rw [te10156331382660048174,te11892475500146522536,te14364793385576792824]
noncomputable def Xr(w:eR)(os:OsState):Option tU:=LH Fe (Ff w) 14300 (S0 w.params os) (topStub pW)
noncomputable def Cz(t:BT)(n:Nat)(a:Nat):Option Obj:=match bX a n with
 |true=>alive ((t.get a).getD default)
 |false=>none
theorem aGb(t:BT)(n:Nat)(l:Life)(a:Nat):(absHeap t n l).get? a=Cz t n a:=by
 unfold Cz
 cases h:bX a n with
 |false=>exact abs_get_none fun q=>mK (h.symm.trans (Nat.blt_eq.mpr q))
 |true=>
  cases g:t.get a with
  |some o=>exact abs_get (Nat.blt_eq.mp h) g
  |none=>
   unfold Heap.get?
   rw [absHeap_at,if_pos (Nat.blt_eq.mp h),g]
   rfl
noncomputable def ZL(s:tU):Frag:=AS.filterMap fun a=>(Cz s.tree s.n a).map fun o=>(a,o)
theorem aFL(s:tU):IQ s.abs.heap=ZL s:=congrArg (fun(f:Addr→Option Obj)=>AS.filterMap fun a=>(f a).map fun o=>(a,o)) (funext fun a=>aGb s.tree s.n s.life a)
theorem aMf(w:eR)(os:OsState):(Xr w os).map (fun s=>((staticsOk (OZ pW.main.body) (yV w.params) s.abs.heap && namesBound pW s.abs.heap && gensDone s.abs && laidKept (yV w.params) s.abs.heap,tw4187177175401517315 vw lo (OZ pW.main.body) RT true s.abs),Ci (ZL s),Ck (ZL s) BA))=some ((true,openGood vw lo),Cj,Cm BA):=by kernel_rfl
theorem aHH:LeftO pW vw lo RT (fun s=>(Ci (IQ s.heap),Ck (IQ s.heap) BA)) (fun _=>(Cj,Cm BA)) 14300:=
 aHI aAI (boot_open aJk (by decide) aFv) aMs fun w os=>by
  rw [aPd,aPe,te4187177175401517315]
  have h:=aMf w os
  unfold Xr at h
  obtain⟨s,hs,e⟩:=Option.map_eq_some_iff.mp h
  rw [hs]
  simp only [TX] at e
  obtain⟨⟨e1,e2⟩,e3,e4⟩:=e
  rw [←aFL] at e3 e4
  simp only [Option.map_some,e1,e2,e3,e4]
theorem hd0(call:∀ d kwd,d.name=("law":Str)→VU vw lo (XL vw PZ) (fun _ h=>∃ K:Frag,K.In h∧CU K BA) rW d kwd fun f vs=>PySem.call f vs):PySem.Challenge.rw_nt0314_01.Holds:=
 hdo _ _ _ aHH (fun _ s e=>⟨IQ s.heap,aFM _,aFt (congrArg (·.1) e) (congrArg (·.2) e)⟩) (fun _ _ _ ⟨K,i,f⟩ k=>⟨K,i.keeps k,f⟩) call
end
theorem FZ{α:Type}{d:α}{l:List α}{i:Nat}(h:bX i l.length=true):l[i]? =some (tg d l i):=by
 have h:=tP (bR h:i < l.length)
 unfold tg;rw [h]
theorem at_{α β:Type}{d:α}{l:List α}{f g:α→β}(h:l.map f=l.map g){i:Nat}(e:bX i l.length=true):f (tg d l i)=g (tg d l i):=by
 exact List.map_inj_left.mp h _ (oB (FZ e))
theorem KW{x:Option (Option aB)}{v:Option (Option aB)}(h:CN x=v):x=v∨∃ w,x=iT w∧((∃ i t,w= .int i t∧v=iT (.int i 0))∨(∃ i t,w= .str i t∧v=iT (.str i 0))∨∃ i t,w= .bytes i t∧v=iT (.bytes i 0)):=by
 cases x with
 |none=>exact .inl h
 |some x=>cases x with
  |none=>exact .inl h
  |some w=>cases w with
   |int i t=>exact .inr ⟨_,rfl,.inl ⟨i,t,rfl,h.symm⟩⟩
   |str i t=>exact .inr ⟨_,rfl,.inr (.inl ⟨i,t,rfl,h.symm⟩)⟩
   |bytes i t=>exact .inr ⟨_,rfl,.inr (.inr ⟨i,t,rfl,h.symm⟩)⟩
   |_=>exact .inl h
theorem QY{x:Option (Option aB)}{a:Addr}(h:CN x=iT (.ref a)):x=iT (.ref a):=
 (KW h).elim id fun⟨_,_,e⟩=>e.elim (fun⟨_,_,_,e⟩=>nomatch e) fun e=>e.elim (fun⟨_,_,_,e⟩=>nomatch e) fun⟨_,_,_,e⟩=>nomatch e
theorem aMr{x:Option (Option aB)}(h:CN x=some none):x=some none:=
 (KW h).elim id fun⟨_,_,e⟩=>e.elim (fun⟨_,_,_,e⟩=>nomatch e) fun e=>e.elim (fun⟨_,_,_,e⟩=>nomatch e) fun⟨_,_,_,e⟩=>nomatch e
theorem aJO{x:Option (List aB)}{a:Addr}(h:(match x with | some (qE a::_)=>some a | _=>none:Option Addr)=some a):∃ r,x=some (.ref a::r):=by
 cases x with
 |none=>cases h
 |some l=>cases l with
  |nil=>cases h
  |cons v r=>cases v <;> first | (cases h;exact⟨r,rfl⟩) | cases h
theorem Wt{x:Option (Option aB)}{i:Int}(h:CN x=iT (.int i 0)):x=iT (.int i (Fj x)):=
 (KW h).elim (fun e=>by cases e;rfl) fun⟨_,q,e⟩=>e.elim (fun⟨_,_,r,e⟩=>by cases e;cases r;cases q;rfl) fun e=>e.elim (fun⟨_,_,_,e⟩=>nomatch e) fun⟨_,_,_,e⟩=>nomatch e
noncomputable def Tq:PV→Bool
 |.int _=>true
 |.str _=>true
 |.bytes l=>l.all (bX · 256)
 |_=>false
theorem aMq{x:Option (Option aB)}{p:PV}(hp:Tq p=true)(h:CN x=iT (Fo p)):∃ v,x=iT v∧∀ C W,bF C W p v:=by
 cases p with
 |int i=>exact⟨_,Wt h,fun _ _=>.mk _⟩
 |str l=>
  obtain⟨t,e⟩:∃ t,x=iT (.str ⟨l.toArray⟩ t):=(KW h).elim (fun e=>⟨_,e⟩) fun⟨_,q,e⟩=>e.elim (fun⟨_,_,_,e⟩=>nomatch e) fun e=>e.elim (fun⟨_,t,r,e⟩=>⟨t,by cases e;cases r;exact q⟩) fun⟨_,_,_,e⟩=>nomatch e
  exact⟨_,e,fun _ _=>lQ.mk ⟨l.toArray⟩ t⟩
 |bytes l=>
  obtain⟨t,e⟩:∃ t,x=iT (.bytes (l.map tW).toArray t):=(KW h).elim (fun e=>⟨_,e⟩) fun⟨_,q,e⟩=>e.elim (fun⟨_,_,_,e⟩=>nomatch e) fun e=>e.elim (fun⟨_,_,_,e⟩=>nomatch e) fun⟨_,t,r,e⟩=>⟨t,by cases e;cases r;exact q⟩
  have q:(l.map tW).map cJ=l:=by
   rw [iY]
   exact(LX fun n hn=>Nat.mod_eq_of_lt (bR (List.all_eq_true.mp hp n hn))).trans (GQ l)
  exact⟨_,e,fun _ _=>cast (congrArg (fun m=>iU m _) q) (iU.mk (l.map tW).toArray t)⟩
 |_=>cases hp
noncomputable def qF(fd:qT)(P:Arguments)(d:aB):qT:={fd with params:=P,defaults:=d}
noncomputable def LO:Nat→(List aB→Prop)→Prop
 |0,F=>F []
 |k+1,F=>∀ a,LO k fun l=>F (a::l)
theorem Lk(k:Nat):∀ {F:List aB→Prop},LO k F→∀ l,l.length=k→F l:=by
 induction k with
 |zero=>exact fun h l e=>aAn e▸h
 |succ k ih=>
  intro F h l e
  cases l with
  |nil=>cases e
  |cons a l=>exact ih (h a) l (wA e)
noncomputable def BP(r:Addr×Stmt):Prop:=∀ fd,LO (fL r.2).length fun vals=>bindArgs (qF fd (pT r.2) .none) ⟨vals,[]⟩=pure ((fL r.2).zip vals)
noncomputable def Jj:{k:qT→List aB→Option (Array aB)→Sem (List (Str×aB)) // ∀ fd vals,bindArgs fd ⟨vals,[]⟩=seqItems? fd.defaults >>= k fd vals}:=⟨_,fun _ _=>rfl⟩
theorem bY{r:Addr×Stmt}{l:List (Addr×Stmt)}(h:BP r)(hs:∀ r∈l,BP r):∀ x∈r::l,BP x:=List.forall_mem_cons.mpr ⟨h,hs⟩
theorem aBK:∀ r∈tF,BP r:=bY (fun _ _=>rfl) <| bY (fun _ _=>rfl) <| bY (fun _ _ _=>rfl) <| bY (fun _ _=>rfl) <| bY (fun _ _ _ _ _=>rfl) <| bY (fun _ _=>rfl) <| bY (fun _ _ _=>rfl) <| bY (fun _ _=>rfl) <| bY (fun _ _ _=>rfl) <| bY (fun _ _ _ _=>rfl) <| bY (fun _ _=>rfl) <| bY (fun _ _=>rfl) <| bY (fun _ _ _=>rfl) <| bY (fun _ _=>rfl) <| bY (fun _ _ _ _ _=>rfl) <| bY (fun _ _ _=>rfl) <| bY (fun _ _ _=>rfl) <| bY (fun _ _=>rfl) <| bY (fun _ _ _=>rfl) <| bY (fun _ _ _ _ _=>rfl) <| bY (fun _ _=>rfl) <| bY (fun _ _=>rfl) <| bY (fun _ _=>rfl) <| bY (fun _ _=>rfl) <| bY (fun _ _ _=>rfl) <| bY (fun _ _ _=>rfl) <| bY (fun _ _=>rfl) <| bY (fun _ _=>rfl) <| bY (fun _ _=>rfl) <| bY (fun _ _ _=>rfl) <| bY (fun _ _ _=>rfl) <| bY (fun _ _ _ _=>rfl) <| bY (fun _ _ _=>rfl) <| bY (fun _ _ _=>rfl) <| bY (fun _ _ _=>rfl) <| bY (fun _ _ _=>rfl) <| bY (fun _ _ _=>rfl) <| bY (fun _ _ _=>rfl) <| bY (fun _ _ _=>rfl) <| bY (fun _ _ _ _=>rfl) <| bY (fun _ _ _=>rfl) <| bY (fun _ _ _ _=>rfl) <| bY (fun _ _ _=>rfl) <| bY (fun _ _=>rfl) <| bY (fun _ _ _ _ _ _=>rfl) <| bY (fun _ _ _=>rfl) <| bY (fun _ _ _=>rfl) <| bY (fun _ _ _ _=>rfl) <| bY (fun _ _ _=>rfl) <| bY (fun _ _ _=>rfl) <| bY (fun _ _ _=>rfl) <| bY (fun _ _ _=>rfl) <| bY (fun _ _ _ _=>rfl) <| bY (fun _ _ _ _ _=>rfl) <| bY (fun _ _=>rfl) <| bY (fun _ _ _=>rfl) <| bY (fun _ _ _=>rfl) <| bY (fun _ _ _ _=>rfl) <| bY (fun _ _ _ _ _ _=>rfl) <| bY (fun _ _=>rfl) <| bY (fun _ _ _=>rfl) <| bY (fun _ _ _=>rfl) <| bY (fun _ _ _=>rfl) <| bY (fun _ _ _=>rfl) <| bY (fun _ _ _=>rfl) <| bY (fun _ _=>rfl) <| bY (fun _ _ _=>rfl) <| bY (fun _ _ _ _=>rfl) <| bY (fun _ _=>rfl) <| bY (fun _ _ _ _=>rfl) <| bY (fun _ _=>rfl) <| bY (fun _ _=>rfl) <| fun _ h=>nomatch h
section
variable{C:Cx}{a:Addr}{st:Stmt}{k:Nat}
theorem uB{d:aB}{g:List SV→Option (List SV)}(h:ET C.K (a,st,d)=zJ (a,st,d))(B:AF C (qF (jW C.K a) (pT st) d) (fL st) g):lB C a (rL st) (rK st) (fL st) g:=by
 have h4:=congrArg (fun x=>x.2.2.2.1) h
 have h5:=congrArg (fun x=>x.2.2.2.2) h
 refine aFs (congrArg (fun x=>x.1) h) (congrArg (fun x=>x.2.1) h) (congrArg (fun x=>x.2.2.1) h) ?_
 have e:jW C.K a=qF (jW C.K a) (pT st) d:=by
  show _=qF _ (zJ (a,st,d)).2.2.2.1 (zJ (a,st,d)).2.2.2.2
  rw [←h4,←h5];rfl
 rw [e];exact @B
theorem vD{s:aG}{fd:qT}{vals:List aB}{b:List aB→List (Str×aB)}{k:Nat}{T:Addr}{items:Array aB}(ho:s.heap.get? T=some ⟨.type "tuple",none,.seq items 0,#[]⟩)(hd:fd.defaults= .ref T)(h:LO k fun vals=>Jj.1 fd vals (some items)=pure (b vals))(hl:vals.length=k):BindsTo s fd ⟨vals,[]⟩ (b vals):=.of_defaults hd ho rfl (Jj.2 fd vals) (Lk k h vals hl)
theorem vR{cells:List SO}(y:Wd C cells){T:Addr}{o:Obj}(h:C.K.lookup T=some o):y.s.heap.get? T=some o:=y.R.keeps0 _ _ (C.kin _ _ h)
end
section
variable{C:Cx}{mg mb:Str→Option aB}(hF:CU C.K C.cls)
include hF
theorem vF{i:Nat}(h:bX i 9=true):ET C.K (tg default tD i)=zJ (tg default tD i):=at_ hF.d h
theorem tup{i:Nat}(h:bX i 10=true):C.K.lookup (tg default tT i).1=some (tg default tT i).2:=have e:=at_ (d:=default) hF.t h;e
theorem XG{c:Nat}(h:bX c 12=true):ZT C.K C.cls c=ZS C.cls c:=by
 have:=at_ (d:=0) hF.k (i:=c) (by rw [List.length_range];exact h)
 rwa [show tg 0 (uT 12) c=c by unfold tg;rw [List.getElem?_range (bR h)]] at this
theorem NK{c:Nat}(h:bX c 12=true):GJ C c:=
 have e:=XG hF h
 ⟨congrArg (fun x=>x.1) e,congrArg (fun x=>x.2.1) e,congrArg (fun x=>x.2.2.1) e,congrArg (fun x=>x.2.2.2.1) e,congrArg (fun x=>x.2.2.2.2.1) e⟩
end
theorem aFX:tC.all (fun r=>Tq r.2)=true:=by kernel_rfl
theorem aFV:(tB.map fun r=>bootBuiltins r.1)=tB.map fun r=>some r.2:=by kernel_rfl
theorem aFU:tB.all (fun r=> !(r.1=="__name__"))=true:=by kernel_rfl
section
variable{C:Cx}{mg mb:Str→Option aB}(hg:C.base.Ns jX mg)
include hg
theorem OU{x:Str}{v:aB}(e:nsIn C.K jX x=some (some v)):Gl C x v:=.inl ⟨mg,hg,mg_of C.kin hg e⟩
variable(hF:CU C.K C.cls)
include hF
theorem aGi{c:Nat}(h:bX c 12=true):Gl C (ZO c) (.ref (C.cls c)):=OU hg (QY (congrArg (fun x=>x.2.2.2.2.2.2.2.2.2) (XG hF h)))
theorem aGc{i:Nat}(h:bX i 41=true):Gl C (IV i).1 (.ref (IV i).2):=OU hg (QY (x:=nsIn C.K jX (IV i).1) (at_ (d:=(("":Str),(0:Addr))) hF.g h))
theorem aFW{i:Nat}(h:bX i 15=true):GN C (EP i).1 (EP i).2:=
 have e:=at_ (d:=(("":Str),PV.none)) hF.c h
 let⟨v,e,d⟩:=aMq (x:=nsIn C.K jX (EP i).1) (p:=(EP i).2) (List.all_eq_true.mp aFX _ (oB (FZ (d:=(("":Str),PV.none)) h))) e
 ⟨v,OU hg e,fun W _=>d C W⟩
theorem aFT(hb:C.base.Ns wO mb)(hbb:∀ x:Str,x≠"__name__"→mb x=bootBuiltins x){i:Nat}(h:bX i 15=true):Gl C (IS i).1 (IS i).2:=
 have e:=at_ (d:=(("":Str),Value.none)) hF.b h
 have e':=at_ (d:=(("":Str),Value.none)) aFV h
 .inr ⟨mg,mb,hg,mg_none_of C.kin hg (aMr (x:=nsIn C.K jX (IS i).1) e),hb,(hbb _ fun e=>by
  have:=List.all_eq_true.mp aFU _ (oB (FZ (d:=(("":Str),Value.none)) h))
  rw [show(tg (("":Str),Value.none) tB i).1=("__name__":Str) from e] at this
  cases this).trans e'⟩
end
theorem aHR{c j:Nat}{l:List (Nat×Nat)}(h:l.lookup c=some j):(c,j)∈l:=by
 induction l with
 |nil=>cases h
 |cons p l ih=>
  rw [show p::l=(p.1,p.2)::l from rfl,List.lookup_cons] at h
  cases q:(c==p.1) with
  |true=>rw [q] at h;cases h;rw [beq_iff_eq.mp q];exact .head _
  |false=>rw [q] at h;exact .tail _ (ih h)
theorem aIt:tM.all (fun r=>bX r.1 12 && !(EN r.1).contains r.2.1)=true:=by kernel_rfl
theorem aPh:tA.all (fun r=>r.2.all fun p=>bX p.1 12 && ((EN p.1)[p.2]? ==some r.1 && !((EN p.1).take p.2).contains r.1))=true:=by kernel_rfl
theorem aPk{α:Type}(d:α)(l:List α)(i:Nat):tg d l i=d∨tg d l i∈l:=by
 unfold tg
 cases q:l[i]? with
 |none=>exact .inl rfl
 |some r=>exact .inr (oB q)
theorem aFB:(ZH.all fun l=>qD l.length 20)=true:=by kernel_rfl
theorem Td{l:List Str}{x:Str}(h:(!l.contains x)=true):x∉l:=fun hm=>by rw [List.contains_iff_mem.mpr hm] at h;cases h
section
variable{C:Cx}{mg mb:Str→Option aB}(hF:CU C.K C.cls)(eF:C.fld=EN)(hg:C.base.Ns jX mg)(hb:C.base.Ns wO mb)(hbb:∀ x:Str,x≠"__name__"→mb x=bootBuiltins x)
include hF
theorem aFD{i:Nat}(h:bX i 72=true):lB C (vJ i).1 (rL (vJ i).2) (rK (vJ i).2) (fL (vJ i).2) (gN (fL (vJ i).2).length):=
 uB (d:=.none) (at_ (d:=((0:Addr),Stmt.Pass default)) hF.f h) (bN (fun y vals e=>BindsTo.of_eq (Lk _ (aBK _ (oB (FZ (d:=((0:Addr),Stmt.Pass default)) h)) _) vals e)) rfl)
theorem aJc{c:Nat}(h:bX c 12=true):MF C c (QH c):=
 have e:=XG hF h
 ⟨congrArg (fun x=>x.2.2.2.2.2.1) e,congrArg (fun x=>x.2.2.2.2.2.2.1) e,congrArg (fun x=>x.2.2.2.2.2.2.2.1) e,congrArg (fun x=>x.2.2.2.2.2.2.2.2.1) e⟩
include eF
theorem aIs{i:Nat}(h:bX i 26=true):CZ C (FJ i).1 (FJ i).2.1 (FJ i).2.2:=
 have e:=at_ (d:=(0,("":Str),0)) hF.m h
 have k:=Bool.and_eq_true_iff.mp (List.all_eq_true.mp aIt _ (oB (FZ (d:=(0,("":Str),0)) h)))
 ⟨NK hF k.1,congrArg (fun x=>x.1) e,congrArg (fun x=>x.2.1) e,eF▸Td k.2,aGO (congrArg (fun x=>x.2.2) e)⟩
theorem aPg{i:Nat}(h:bX i 33=true):HI C (xU i).1 (xU i).2:=fun c j e=>by
 have hm:(c,j)∈(xU i).2:=aHR e
 have e:=List.map_inj_left.mp (at_ (d:=(("":Str),[])) hF.a h) _ hm
 have k:=Bool.and_eq_true_iff.mp (List.all_eq_true.mp (List.all_eq_true.mp aPh _ (oB (FZ (d:=(("":Str),[])) h))) _ hm)
 have k':=Bool.and_eq_true_iff.mp k.2
 exact⟨NK hF k.1,e,eF▸beq_iff_eq.mp k'.1,eF▸Td k'.2⟩
include hg hb hbb
theorem aGA:bM C where
 fn:=fun _=>aFD hF
 gc:=fun _=>aFW hg hF
 gb:=fun _=>aFT hg hF hb hbb
 gf:=fun _=>aGc hg hF
 gk:=fun _=>aGi hg hF
 mt:=fun _=>aIs hF eF
 nw:=fun _=>aJc hF
 tb:=fun _=>aPg hF eF
 p_CountingHasher_I:=uB (vF hF (i:=0) rfl) (bN (names:=fL (aY (eV (aY pB 19)) 0)) (k:=2) (fun y vals hl=>vD (k:=2) (fd:=qF (jW C.K 117) (pT (aY (eV (aY pB 19)) 0)) (.ref 110)) (b:=fun vals=>(fL (aY (eV (aY pB 19)) 0)).zip vals) (vR y (tup hF (i:=0) rfl)) rfl (fun _ _=>rfl) hl) rfl)
 p_PathChange_I:=aFr (uB (vF hF (i:=1) rfl) (bN (names:=fL (aY (eV (aY pB 41)) 0)) (k:=9) (fun y vals hl=>vD (k:=9) (fd:=qF (jW C.K 376) (pT (aY (eV (aY pB 41)) 0)) (.ref 369)) (b:=fun vals=>(fL (aY (eV (aY pB 41)) 0)).zip vals) (vR y (tup hF (i:=1) rfl)) rfl (fun _ _ _ _ _ _ _ _ _=>rfl) hl) rfl)) (uB (vF hF (i:=1) rfl) (bD (names:=fL (aY (eV (aY pB 41)) 0)) (ds:=[.none]) [.none] (fun y vals hl=>vD (k:=8) (fd:=qF (jW C.K 376) (pT (aY (eV (aY pB 41)) 0)) (.ref 369)) (b:=fun vals=>(fL (aY (eV (aY pB 41)) 0)).zip (vals++([.none]:List aB))) (vR y (tup hF (i:=1) rfl)) rfl (fun _ _ _ _ _ _ _ _=>rfl) hl) rfl fun _=>(jP.mk _ _ (rfl) rfl)))
 p_PathChange_new_half:=uB (vF hF (i:=2) rfl) (bN (names:=fL (aY (eV (aY pB 41)) 5)) (k:=2) (fun y vals hl=>vD (k:=2) (fd:=qF (jW C.K 414) (pT (aY (eV (aY pB 41)) 5)) (.ref 407)) (b:=fun vals=>(fL (aY (eV (aY pB 41)) 5)).zip vals) (vR y (tup hF (i:=3) rfl)) rfl (fun _ _=>rfl) hl) rfl)
 p_PathChange_old_half:=uB (vF hF (i:=3) rfl) (bN (names:=fL (aY (eV (aY pB 41)) 4)) (k:=2) (fun y vals hl=>vD (k:=2) (fd:=qF (jW C.K 406) (pT (aY (eV (aY pB 41)) 4)) (.ref 399)) (b:=fun vals=>(fL (aY (eV (aY pB 41)) 4)).zip vals) (vR y (tup hF (i:=2) rfl)) rfl (fun _ _=>rfl) hl) rfl)
 p_treediff_is_binary:=uB (vF hF (i:=4) rfl) (bD (names:=fL (aY pB 49)) (ds:=[.int 8000]) [.int 8000 916] (fun y vals hl=>vD (k:=1) (fd:=qF (jW C.K 491) (pT (aY pB 49)) (.ref 484)) (b:=fun vals=>(fL (aY pB 49)).zip (vals++([.int 8000 916]:List aB))) (vR y (tup hF (i:=5) rfl)) rfl (fun _=>rfl) hl) rfl fun _=>(jP.mk _ _ (jQ.mk _) rfl))
 p_Spans_I:=uB (vF hF (i:=5) rfl) (bD (names:=fL (aY (eV (aY pB 50)) 1)) (ds:=[.int 64]) [.int 64 939] (fun y vals hl=>vD (k:=2) (fd:=qF (jW C.K 506) (pT (aY (eV (aY pB 50)) 1)) (.ref 499)) (b:=fun vals=>(fL (aY (eV (aY pB 50)) 1)).zip (vals++([.int 64 939]:List aB))) (vR y (tup hF (i:=6) rfl)) rfl (fun _ _=>rfl) hl) rfl fun _=>(jP.mk _ _ (jQ.mk _) rfl))
 p_broken:=uB (vF hF (i:=6) rfl) (bN (names:=fL (aY pB 52)) (k:=4) (fun y vals hl=>vD (k:=4) (fd:=qF (jW C.K 584) (pT (aY pB 52)) (.ref 577)) (b:=fun vals=>(fL (aY pB 52)).zip vals) (vR y (tup hF (i:=7) rfl)) rfl (fun _ _ _ _=>rfl) hl) rfl)
 p_diff_trees:=uB (vF hF (i:=7) rfl) (bD (names:=fL (aY pB 48)) (ds:=[.bytes [],.bool true]) [.bytes #[] 909,.bool true] (fun y vals hl=>vD (k:=3) (fd:=qF (jW C.K 483) (pT (aY pB 48)) (.ref 478)) (b:=fun vals=>(fL (aY pB 48)).zip (vals++([.bytes #[] 909,.bool true]:List aB))) (vR y (tup hF (i:=4) rfl)) rfl (fun _ _ _=>rfl) hl) rfl fun _=>(jP.mk _ _ (iU.mk #[] 909) (jP.mk _ _ (rfl) rfl)))
 p_treediff_numbers:=uB (vF hF (i:=8) rfl) (bD (names:=fL (aY pB 58)) (ds:=[.str [109,121,101,114,115]]) [.str (uY "myers") 1165] (fun y vals hl=>vD (k:=2) (fd:=qF (jW C.K 658) (pT (aY pB 58)) (.ref 651)) (b:=fun vals=>(fL (aY pB 58)).zip (vals++([.str (uY "myers") 1165]:List aB))) (vR y (tup hF (i:=8) rfl)) rfl (fun _ _=>rfl) hl) rfl fun _=>(jP.mk _ _ (lQ.mk (uY "myers") 1165) rfl))
 g_OBJECT_MODES:=⟨.ref 659,OU hg (QY (congrArg (fun x=>x.2.2.2.2.2.2.2) hF.x)),fun W hW=>oL.mk 659 [.int 33188 202,.int 33261 204,.int 40960 206,.int 16384 208,.int 57344 210] 0 (hW _ _ (C.kin _ _ (tup hF (i:=9) rfl))) (jP.mk _ _ (jQ.mk _) (jP.mk _ _ (jQ.mk _) (jP.mk _ _ (jQ.mk _) (jP.mk _ _ (jQ.mk _) (jP.mk _ _ (jQ.mk _) rfl)))))⟩
 fsz:=fun c=>by
  rw [eF]
  rcases aPk [] ZH c with e | e
  ·rw [show EN c= [] from e];exact jS _
  ·exact bR (List.all_eq_true.mp aFB _ e)
 a_WRAP:=aLQ (p:=.int 2147483647) (v:=.int 2147483647 (Fj (nN C.K (.ref (C.cls 5)) "WRAP"))) (NK hF rfl) (Wt (congrArg (fun x=>x.1) hF.x)) (congrArg (fun x=>x.2.1) hF.x) rfl (by rw [eF];decide+kernel) (fun _=>jQ.mk _)
 a_path:=fun hn rf=>by
  obtain⟨r,hr⟩:∃ r,recIn C.K 384 "property"=some (.ref 383::r):=aJO (congrArg (fun x=>x.2.2.2.2.2.1) hF.x)
  exact aLR (p:=384) (rest:=r) hn (NK hF rfl) (congrArg (fun x=>x.2.2.1) hF.x) (congrArg (fun x=>x.2.2.2.1) hF.x) (congrArg (fun x=>x.2.2.2.2.1) hF.x) hr rf
end
end
theorem aJ{α β:Type}{m:M α}{f:α→M β}{a:α}(h:m st=some (a,st₁)):bd m f st=f a st₁:=by unfold bd;rw [h]
theorem MZ{α β:Type}{m:M α}{f:α→M β}{b:β}(h:bd m f st=some (b,st')):∃ a st₁,m st=some (a,st₁)∧f a st₁=some (b,st'):=lH h fun a s e e'=>⟨a,s,e,e'⟩
theorem WO(h:m st=some (.next,st₁)):bl (m::ms) st=bl ms st₁:=aJ h
theorem DR(h:m st=some (.cont,st₁)):bl (m::ms) st=some (.cont,st₁):=aJ h
theorem AY(h:m st=some (.ret v,st₁)):bl (m::ms) st=some (.ret v,st₁):=aJ h
theorem DT(h:f as st.cells=some (v,c)):lV f as st=some (v,⟨st.loc,c⟩):=by unfold lV;rw [h]
theorem eK(hg:g as=some bs)(h:m ⟨tJ k bs,c⟩=some (.ret v,st)):bH k g m as c=some (v,st.cells):=by
 unfold bH;rw [hg];dsimp only;rw [h]
theorem KQ(hg:g as=some bs)(h:m ⟨tJ k bs,c⟩=some (.next,st)):bH k g m as c=some (.pv .none,st.cells):=by
 unfold bH;rw [hg];dsimp only;rw [h]
section
variable{st st₁ st₂ st₃ st₄:St}{a b c v:SV}{as:List SV}{cs:List SO}{m m₀ m₁ m₂ m₃:M SV}{ms:M (List SV)}
theorem nH(h:m st=some (a,st₁))(h':ar l st₁=some (as,st₂)):ar (m::l) st=some (a::as,st₂):=(aJ h).trans ((aJ h').trans rfl)
theorem iL(h:m st=some (a,st₁)):ar [m] st=some ([a],st₁):=nH h rfl
theorem dM(h:m₁ st=some (a,st₁))(h':m₂ st₁=some (b,st₂)):ar [m₁,m₂] st=some ([a,b],st₂):=nH h (iL h')
theorem vC(h:m₁ st=some (a,st₁))(h':m₂ st₁=some (b,st₂)):b2 m₁ m₂ f st=f a b st₂:=(aJ h).trans (aJ h')
theorem jO(h:m₁ st=some (a,st₁))(h':m₂ st₁=some (b,st₂)):t2 m₁ m₂ f st=f a b st₂:=(aJ h).trans (aJ h')
theorem BO(h:m st=some (a,st₁)):ge f m st=f a st₁:=aJ h
theorem OT(h:ms st=some (as,st₁)):aZ ms f st=f as st₁:=aJ h
theorem gK(h:ms st=some (as,st₁))(h':f as st₁.cells=some (v,cs)):cf f ms st=some (v,⟨st₁.loc,cs⟩):=(aJ h).trans (DT h')
theorem aIj(h:m₀ st=some (a,st₁))(hg:g a st₁=some (u,st₂)):mV g f m₀ st=f a st₂:=(aJ h).trans (aJ hg)
theorem qL(h:m₀ st=some (a,st₁))(hg:g a st₁=some (u,st₂))(h':m₁ st₂=some (b,st₃)):bL g f m₀ m₁ st=f a b st₃:=(aJ h).trans ((aJ hg).trans (aJ h'))
theorem Sk(h:m₀ st=some (a,st₁))(hg:g a st₁=some (u,st₂))(h':m₁ st₂=some (b,st₃))(h'':m₂ st₃=some (c,st₄)):CA g f m₀ m₁ m₂ st=f a b c st₄:=(aJ h).trans ((aJ hg).trans ((aJ h').trans (aJ h'')))
theorem jN(h:m₀ st=some (a,st₁))(hg:JB k a st₁=some (u,st₂))(h':ms st₂=some (as,st₃))(h'':f (a::as) st₃.cells=some (v,cs)):mc k f m₀ ms st=some (v,⟨st₃.loc,cs⟩):=(aJ h).trans ((aJ hg).trans ((aJ h').trans (DT h'')))
theorem iM(h:m st=some (v,st₁)):bA i m st=some (.next,⟨st₁.loc.set i (some v),st₁.cells⟩):=(aJ h).trans rfl
theorem HP(h:ms st=some (as,st₁))(h':vS is as st₁=some (u,st₂)):nI is ms st=some (.next,st₂):=(aJ h).trans ((aJ h').trans rfl)
theorem DQ(h:ms st=some (as,st₁))(h':vS is as.reverse st₁=some (u,st₂)):oQ is ms st=some (.next,st₂):=(aJ h).trans ((aJ h').trans rfl)
theorem Jb(h:m st=some (v,st₁))(h':Fw is v st₁=some (u,st₂)):vB is m st=some (.next,st₂):=(aJ h).trans ((aJ h').trans rfl)
theorem aBn(h₁:m₁ st=some (c,st₁))(h₂:m₂ st₁=some (a,st₂))(h₃:m₃ st₂=some (b,st₃))(hf:f a b c st₃=some (u,st₄)):gH f m₁ m₂ m₃ st=some (.next,st₄):=(aJ h₁).trans ((aJ h₂).trans ((aJ h₃).trans ((aJ hf).trans rfl)))
theorem tY(h₁:m₁ st=some (c,st₁))(hf:f a b c st₁=some (u,st₄))(h₂:m₂ st₁=some (a,st₁))(h₃:m₃ st₁=some (b,st₁)):gH f m₁ m₂ m₃ st=some (.next,st₄):=aBn h₁ h₂ h₃ hf
theorem jJ(h:m₁ st=some (a,st))(h':m₂ st=some (b,st))(hf:f a b st=some (v,st₁)):b2 m₁ m₂ f st=some (v,st₁):=(vC h h').trans hf
theorem zG(h:ms st=some (as,st₁))(hf:f as st₁=some (v,st₂)):aZ ms f st=some (v,st₂):=(OT h).trans hf
theorem eX(h:m st=some (a,st₁))(hf:f a st₁=some (v,st₂)):ge f m st=some (v,st₂):=(BO h).trans hf
theorem fF(h:m st=some (v,st₁)):re m st=some (.ret v,st₁):=(aJ h).trans rfl
theorem sQ(h:m st=some (v,st₁)):ex m st=some (.next,st₁):=(aJ h).trans rfl
theorem Wu{m:M Bool}(h:m st=some (t,st₁)):bJ m x y st=(match t with | true=>x | false=>y) st₁:=by
 refine(aJ h).trans ?_
 cases t <;> rfl
theorem ZZ{m:M Bool}(h:m st=some (t,st₁)):jB m x y st=(match t with | true=>x | false=>y) st₁:=by
 refine(aJ h).trans ?_
 cases t <;> rfl
theorem iD{m:M Bool}(h:m st=some (true,st₁))(h':x st₁=r):bJ m x y st=r:=(Wu h).trans h'
theorem eY{m:M Bool}(h:m st=some (false,st₁))(h':y st₁=r):bJ m x y st=r:=(Wu h).trans h'
theorem cY{m:M Fl}(h:m st=some (.next,st₁)):bl [m] st=some (.next,st₁):=(WO h).trans rfl
theorem fC{m:M Fl}(h:m st=some (.ret v,st₁)):bl [m] st=some (.ret v,st₁):=AY h
theorem aO{m:M Fl}(h:m st=some (.next,st₁))(h':bl l st₁=r):bl (m::l) st=r:=(WO h).trans h'
end
theorem NA:∀ {st st₁:St},bl l st=some (.next,st₁)→bl (l++l') st=bl l' st₁:=by
 induction l with
 |nil=>exact fun h=>by cases h;rfl
 |cons m l ih=>
  refine fun h=>lH h fun f st₂ e h2=> ?_
  cases f with
  |next=>exact(WO e).trans (ih h2)
  |cont=>cases h2
  |ret v=>cases h2
theorem Uj{c c' j ex:List SO}(hl:c.length=m)(h0:vT m args=true)(hc:rE m c=true)(h:g args c=some (v,c'++j))(hl':c'.length=m)(hv:uK m v=true)(hc':rE m c'=true):cK m g args (c++ex)=some (v,c'++ex):=by
 unfold cK
 refine(List.take_left' hl).symm▸(List.drop_left' hl).symm▸(h0).symm▸(hc).symm▸(fH).symm▸(hl).symm▸(DC (oF _ _)).symm▸?_
 refine(h).symm▸?_
 dsimp only
 exact(List.take_left' hl').symm▸(hv).symm▸(hc').symm▸rfl
theorem mW{j ex:List SO}(h:g args []=some (.pv v,j))(h0:vT 0 args=true):cK 0 g args ex=some (.pv v,ex):=Uj (c:=[]) rfl h0 rfl h rfl rfl rfl
theorem gR{xs:List PV}{st st₁:St}(h:b x st=some (.next,st₁)):fM (x::xs) b st=fM xs b st₁:=aJ h
theorem IM{xs:List PV}{st st₁:St}(h:b x st=some (.cont,st₁)):fM (x::xs) b st=fM xs b st₁:=aJ h
theorem mT{xs:List PV}(h:src st=some (a,st₁))(h':f st₁ a=some xs):IL f src b st=fM xs b st₁:=by
 refine(aJ h).trans ?_
 rw [h']
theorem aFJ{β:Type}{g:PV→List β}(I:List β→St→Prop):∀(xs:List PV) (acc:List β) (st:St),(∀ x∈xs,∀ acc st,I acc st→∃ st',(b x st=some (.next,st')∨b x st=some (.cont,st'))∧I (acc++g x) st')→I acc st→∃ st',fM xs b st=some (.next,st')∧I (acc++xs.flatMap g) st'
 | [],acc,st,_,i=>⟨st,rfl,by simpa using i⟩
 |x::xs,acc,st,h,i=>by
  obtain⟨st₁,e,i₁⟩:=h x (uS ..) acc st i
  obtain⟨st₂,e₂,i₂⟩:=aFJ I xs _ st₁ (fun y hy=>h y (sG _ hy)) i₁
  refine⟨st₂,?_,by rw [AJ,←gP];exact i₂⟩
  rcases e with e | e
  ·rw [gR e,e₂]
  ·rw [IM e,e₂]
section
variable{f:St→SV→Option (List PV)}{cap:List (Option Nat)}{g:PV→M Unit}{t:M Bool}{m src:M SV}{st st₁ st₂:St}{a:SV}{xs ys:List PV}
theorem onSome_eq{α β:Type}{o:Option α}{k:α→M β}{a:α}(h:o=some a):eZ o k st=k a st:=by rw [h];rfl
theorem Kw(h':f st a=some xs)(hl:xs.length≤1000000)(hc:iG g t m xs ⟨pR cap st.loc,st.cells⟩=some (ys,st₂)):BC f cap g t m a st=some (ys,⟨st.loc,st₂.cells⟩):=by
 unfold BC
 rw [h'];dsimp only
 unfold dQ
 rw [decide_eq_true hl]
 show EV cap (iG g t m xs) st=_
 unfold EV
 rw [hc]
theorem tZ(h:src st=some (a,st₁))(h':f st₁ a=some xs)(hl:xs.length≤1000000)(hc:iG g t m xs ⟨pR cap st₁.loc,st₁.cells⟩=some (ys,st₂)):
  eH f src cap g t m st=some (.pv (.lst ys),⟨st₁.loc,st₂.cells⟩):=(aJ h).trans ((aJ (Kw h' hl hc)).trans rfl)
theorem Kx(h:src st=some (a,st₁))(h':f st₁ a=some xs)(hl:xs.length≤1000000)(hc:iG g t m xs ⟨pR cap st₁.loc,st₁.cells⟩=some (ys,st₂)):
  NL f src cap g t m st=some (.ref st₂.cells.length,⟨st₁.loc,st₂.cells++[.list ys]⟩):=(aJ h).trans ((aJ (Kw h' hl hc)).trans rfl)
end
section
variable{g:PV→M Unit}{t:M Bool}{m:M SV}{x y:PV}{xs ys:List PV}{st st₁ st₂ st₃ st₄:St}
theorem Kz(h0:g x st=some ((),st₁))(h1:t st₁=some (true,st₂))(h2:m st₂=some (.pv y,st₃))(h3:iG g t m xs st₃=some (ys,st₄)):iG g t m (x::xs) st=some (y::ys,st₄):=
 (aJ h0).trans ((aJ h1).trans ((aJ h2).trans ((aJ h3).trans rfl)))
theorem aDZ(h0:g x st=some ((),st₁))(h1:t st₁=some (false,st₂))(h3:iG g t m xs st₂=r):iG g t m (x::xs) st=r:=(aJ h0).trans ((aJ h1).trans h3)
theorem yZ(F:Option SV→St)(q:PV→Bool)(f:PV→PV)(xs:List PV)(h0:∀ x o,g x (F o)=some ((),F (some (.pv x)))):(∀ x∈xs,t (F (some (.pv x)))=some (q x,F (some (.pv x))))→(∀ x∈xs,q x=true→m (F (some (.pv x)))=some (.pv (f x),F (some (.pv x))))→
  ∀ o,∃ o',iG g t m xs (F o)=some ((xs.filter q).map f,F o'):=by
 induction xs with
 |nil=>exact fun _ _ o=>⟨o,rfl⟩
 |cons x xs ih=>
  intro h1 h2 o
  obtain⟨o',e⟩:=ih (fun y hy=>h1 y (.tail _ hy)) (fun y hy=>h2 y (.tail _ hy)) (some (.pv x))
  refine⟨o',?_⟩
  have h1:=h1 x (.head _)
  cases hq:q x with
  |true=>rw [TA hq];exact Kz (h0 x o) (hq▸h1) (h2 x (.head _) hq) e
  |false=>rw [SY ((hq).symm▸mK)];exact aDZ (h0 x o) (hq▸h1) e
end
theorem pP{α:Type}{m m':M α}{r:α×St}(h:m st=some r):al m m' st=some r:=by unfold al;rw [h]
theorem mP{α:Type}{m m':M α}(h:m st=none):al m m' st=m' st:=by unfold al;rw [h]
noncomputable def kK(K:List (List Nat)):List PV:=K.map .bytes
noncomputable def iV:Nat→Nat→List PV
 |0,_=>[]
 |n+1,i=>.int ((i+1:Nat):Int)::iV n (i+1)
noncomputable def dI(n:Nat):List Nat:=[0,0,0,n]
noncomputable def oV:Nat→Nat→List PV
 |0,_=>[]
 |n+1,i=>.bytes (dI (i+1))::oV n (i+1)
structure Dk where
 xs:List Int
 mx:Int
 n:Nat
noncomputable def Dk.dr(ω:Dk)(xs:List Int)(mx:Int):Dk:=⟨xs,mx,ω.n⟩
noncomputable def Dk.inc(ω:Dk)(k:Nat):Dk:=⟨ω.xs,ω.mx,ω.n+k⟩
noncomputable def s8(ω:Dk)(K:List (List Nat))(T:List PV):List SO:=
 [.dead,.list (ω.xs.map .int),.sdict .str [.str [108,101,102,116],.str [109,105,120,101,100]] [.ref 1,.pv (.int ω.mx)],.inst 0 [.pv (.int 4),.ref 4],.dict .bytes (kK K) (iV K.length 0),.inst 11 [.ref 3,.ref 6],.dict .bytes (oV T.length 0) T,.sdict .str [.str [115,116,111,114,101],.str [99,111,117,110,116]] [.ref 5,.pv (.int (ω.n:Nat))]]
theorem iQ{j ex:List SO}(h:g args (s8 ω K T)=some (v,s8 ω' K' T'++j))(h0:vT 8 args=true)(hv:uK 8 v=true):
  cK 8 g args (s8 ω K T++ex)=some (v,s8 ω' K' T'++ex):=Uj rfl h0 rfl h rfl hv rfl
inductive Zm(many:Int)(ω:Dk):Prop
 |mk (d:Int) (xs:List Int) (mx:Int) (h0:0≤d) (h1:d < many) (hx:xs.length≤24) (e:∀ K T ex,wY [.ref 2,.pv (.int many)] (s8 ω K T++ex)=some (.pv (.int d),s8 (ω.dr xs mx) K T++ex))
theorem HZ(many:Int)(hm:0 < many)(ω:Dk)(hx:ω.xs.length≤24):Zm many ω:=by
 have hd:∀ x:Int,mD x many=some (x.fmod many):=fun x=>by
  unfold mD;rw [decide_eq_false (Int.ne_of_gt hm)];rfl
 obtain⟨xs,mx,n⟩:=ω
 cases xs with
 |nil=>
  refine .mk (((mx*4801+97).fmod 1000003 |>.fdiv 7).fmod many) [] ((mx*4801+97).fmod 1000003) (Int.fmod_nonneg_of_pos _ hm) (Int.fmod_lt_of_pos _ hm) (jS _) fun K T ex=> ?_
  let st:St:=⟨[some (.ref 2),some (.pv (.int many))],s8 ⟨[],(mx*4801+97).fmod 1000003,n⟩ K T⟩
  refine iQ (eK (st:=⟨st.loc,st.cells++[]⟩) rfl (aO (st₁:=⟨st.loc,s8 ⟨[],mx,n⟩ K T⟩) (by kernel_rfl) (aO (st₁:=st) (by kernel_rfl) (fC (fF ?_))))) rfl rfl
  exact(vC (a:=.pv (.int (((mx*4801+97).fmod 1000003).fdiv 7))) (st₁:=st) (b:=.pv (.int many)) (by kernel_rfl) rfl).trans (onSome_eq (hd _))
 |cons x xs=>
  refine .mk (x.fmod many) xs mx (Int.fmod_nonneg_of_pos _ hm) (Int.fmod_lt_of_pos _ hm) (aP (oG _) hx) fun K T ex=> ?_
  let st:St:=⟨[some (.ref 2),some (.pv (.int many))],s8 ⟨xs,mx,n⟩ K T⟩
  refine iQ (eK (st:=⟨st.loc,st.cells++[]⟩) rfl (AY (iD (st₁:=⟨st.loc,s8 ⟨x::xs,mx,n⟩ K T⟩) rfl (fC (fF ?_))))) rfl rfl
  refine(vC (a:=.pv (.int x)) (st₁:=st) (b:=.pv (.int many)) ?_ rfl).trans (onSome_eq (hd x))
  show gd (decide ((xs.map PV.int).length≤100000)) (fun s=>some (SV.pv (.int x),fG s 1 (.list (xs.map .int)))) _=_
  rw [bT,decide_eq_true (aP (Nat.le_of_succ_le hx) (bR rfl))]
  rfl
noncomputable def ln(n:Nat):List Nat:=[65,n / 10+48,n % 10+48,10]
noncomputable def lz(n:Nat):List Nat:=[0,n / 10+48,n % 10+48,10]
noncomputable def fr:Nat→Nat→List Nat
 |0,_=>[]
 |k+1,n=>(n+1)::fr k (n+1)
noncomputable def lZ(z:Bool)(n:Nat):List Nat:=match z with
 |true=>lz n
 |false=>ln n
noncomputable def bK(z:Bool):List Nat→List (List Nat)
 | []=>[]
 |n::ns=>lZ z n::ns.map ln
structure aU where
 x:Bool
 z:Bool
 ns:List Nat
noncomputable def mo(x:Bool):Int:=match x with
 |true=>33261
 |false=>33188
noncomputable def lp(ls:List (List Nat)):PV:=.lst (ls.map .bytes)
noncomputable def vp(v:aU):PV:=.tup [.int (mo v.x),lp (bK v.z v.ns)]
noncomputable abbrev Ro(n:Nat):List PV:=[.int (65+(((n:Nat)+1:Int).fdiv 100).fmod 10),.int (48+(((n:Nat)+1:Int).fdiv 10).fmod 10),.int (48+((n:Nat)+1:Int).fmod 10),.int 10]
theorem lnB:∀ n:Fin 99,lS JW (Ro n.val)=some (ln (n.val+1)):=by decide+kernel
theorem aHL(ω:Dk)(K:List (List Nat))(T:List PV)(hn:ω.n < 99)(ex:List SO):BI [.ref 7] (s8 ω K T++ex)=some (.pv (.bytes (ln (ω.n+1))),s8 (ω.inc 1) K T++ex):=by
 let st:St:=⟨[some (.ref 7),none],s8 (ω.inc 1) K T⟩
 refine iQ (eK (st:=⟨st.loc,st.cells++[]⟩) rfl (aO (st₁:=st) rfl (fC (fF ?_)))) rfl rfl
 show eZ (lS JW (Ro ω.n)) (fun l=>dQ 4 (rt (SV.pv (.bytes l)))) _=_
 exact onSome_eq (lnB ⟨ω.n,hn⟩)
theorem Le(K:List (List Nat))(T:List PV)(ex:List SO)(a c:Option SV)(l:List PV):∀(ω:Dk) (b:Option SV),ω.n+l.length≤99→
  ∃ b',iG (nT 1) (rt true) (cf BI (ar [aA 3])) l ⟨[a,b,c,some (.ref 7)],s8 ω K T++ex⟩=some (((fr l.length ω.n).map ln).map .bytes,⟨[a,b',c,some (.ref 7)],s8 (ω.inc l.length) K T++ex⟩):=by
 induction l with
 |nil=>exact fun ω b _=>⟨b,rfl⟩
 |cons x l ih=>
  intro ω b h
  have h:ω.n+1+l.length≤99:=by rw [uU,vZ 1];exact h
  obtain⟨b',e⟩:=ih (ω.inc 1) (some (.pv x)) h
  refine⟨b',(Kz rfl rfl (gK (iL rfl) (aHL ω K T (aP (oF _ _) h) ex)) e).trans ?_⟩
  rw [show(ω.inc 1).inc l.length=ω.inc (x::l).length from congrArg (Dk.mk ω.xs ω.mx) ((uU ..).trans (congrArg (ω.n+ ·) (vZ ..)))]
  rfl
noncomputable def fV(z:Bool)(n:Nat):aU:=⟨false,z,fr 10 n⟩
inductive aAk(ω:Dk):Prop
 |mk (z:Bool) (xs:List Int) (mx:Int) (hx:xs.length≤24) (e:∀ K T ex,EI [.ref 2,.ref 7] (s8 ω K T++ex)=some (.pv (vp (fV z ω.n)),s8 ((ω.inc 10).dr xs mx) K T++ex))
noncomputable def ZF(cs:List SO):St:=⟨[some (.ref 2),some (.ref 7),some (.ref 8),none,none,none],cs⟩
theorem YY(ω:Dk)(hx:ω.xs.length≤24)(hn:ω.n+10≤99):aAk ω:=by
 cases HZ 4 (by decide) (ω.inc 10) hx with
 |mk d xs mx h0 h1 hx e=>
  refine .mk (eqI d 3) xs mx hx fun K T ex=> ?_
  obtain⟨b',hc⟩:=Le K T [] none none (qO 10 0 1) ω none hn
  let L:=((fr 10 ω.n).map ln).map PV.bytes
  let st:St:=ZF (s8 ((ω.inc 10).dr xs mx) K T++[.list L])
  refine iQ (j:=[.dead]) (eK (st:=ZF (s8 ((ω.inc 10).dr xs mx) K T++[.dead])) rfl (aO (iM (Kx (xs:=qO 10 0 1) rfl rfl (bR rfl) ((congrArg (iG _ _ _ _ ⟨_,·⟩) (gQ _)).symm.trans (hc.trans (congrArg (fun l=>some (_,(⟨_,l⟩:St))) (gQ _))))))
   (aO (st₁:=ZF (s8 ((ω.inc 10).dr xs mx) K T++[.list ((bK (eqI d 3) (fr 10 ω.n)).map .bytes)])) ((aJ ((aJ (gK (dM rfl rfl) (e K T [.list L]))).trans rfl:_=some (eqI d 3,st))).trans ?_) (by kernel_rfl)))) rfl rfl
  cases eqI d 3 <;> kernel_rfl
noncomputable def wW(v:aU)(k n:Nat):aU:=⟨v.x,bX k 10 && v.z,v.ns.take (10 - k)++fr k n⟩
inductive sO(v:aU)(n:Nat):Option aU→Nat→Prop
 |gone:sO v n none n
 |flip:sO v n (some ⟨true,v.z,v.ns⟩) n
 |cut (k:Nat) (h:k≤10):sO v n (some (wW v k n)) (n+k)
inductive yQ(n:Nat):Option aU→Nat→Prop
 |no:yQ n none n
 |mk (z:Bool):yQ n (some (fV z n)) (n+10)
noncomputable def yS(ks:List PV)(p:Nat):Option aU→List PV
 |none=>ks
 |some _=>ks++[.bytes [p]]
noncomputable def MT(vs:List PV):Option aU→List PV
 |none=>vs
 |some v=>vs++[vp v]
noncomputable abbrev nBd:M Fl:=oQ [6,5] (ar [(cf wY (ar [(aA 0),(kI 8)])),(bL cX dY (aA 2) (aA 4))])
noncomputable abbrev Bv:M Fl:=bJ (t2 (aA 5) (kI 4) mA) (bl [(gH fT (cf EI (ar [(aA 0),(aA 1)])) (aA 3) (aA 4))]) (bl [])
noncomputable def Ll:M SV:=(b2 (pV (b2 (aA 6) (kI 1) aW) (rt none) (pa (b2 (kI 10) (aA 7) (bZ eO)))) (eH dN (ge CJ (aA 7)) [none,none,none,some 1] (nT 1) (rt true) (cf BI (ar [(aA 3)]))) bP)
noncomputable abbrev Bw:M Fl:=bJ (t2 (aA 5) (kI 4) mA) (bl [(bA 7 (cf wY (ar [(aA 0),(kI 11)]))),
 (gH fT (aZ (ar [(b2 (aA 6) (kI 0) aW),(ge cE Ll)]) cO) (aA 3) (aA 4))]) (bl [(bJ (t2 (aA 5) (kI 4) cN) (bl [(gH fT (aZ (ar [(b2 (b2 PH Ao bP) (b2 (aA 6) (kI 0) aW) (bZ eO)),(b2 (aA 6) (kI 1) aW)]) cO) (aA 3) (aA 4))]) (bl [(bJ (t2 (aA 5) (kI 5) sR) (bl [(gH fT (aA 6) (aA 3) (aA 4))]) (bl []))]))])
noncomputable def nB:M Fl:=bl [nBd,bJ (t2 (aA 6) kN oU) (bl [Bv]) (bl [Bw])]
noncomputable def nS(sh:PV)(o4 o5 o6 o7:Option SV)(cs:List SO)(ks vs:List PV)(ex:List SO):St:=⟨[some (.ref 2),some (.ref 7),some (.pv sh),some (.ref 8),o4,o5,o6,o7,none,none,none,none,none],cs++.dict .bytes ks vs::ex⟩
theorem KS(sh:PV)(p:Nat)(y:PV)(o5 o6 o7:Option SV)(ω:Dk)(K:List (List Nat))(T:List PV)(ks vs:List PV)(ex:List SO)(hkl:ks.length≤9)(hk:dhas ks (.bytes [p])=false):
  fT (.ref 8) (.pv (.bytes [p])) (.pv y) (nS sh (some (.pv (.bytes [p]))) o5 o6 o7 (s8 ω K T) ks vs ex)=some ((),nS sh (some (.pv (.bytes [p]))) o5 o6 o7 (s8 ω K T) (ks++[.bytes [p]]) (vs++[y]) ex):=by
 refine pP ?_
 show gd (true && decide (ks.length≤1000000)) (fun st=>some ((),fG st 8 (.dict .bytes (dZ ks vs (.bytes [p]) y).1 (dZ ks vs (.bytes [p]) y).2))) _=_
 rw [decide_eq_true (aP hkl (bR rfl))]
 unfold dZ
 rw [hk]
 rfl
inductive SW{α:Type}:List α→Prop
 |mk (a b c d e f g i j k:α):SW [a,b,c,d,e,f,g,i,j,k]
theorem vN{α:Type}{P:List α→Prop}(k:∀ a t,t.length=n→P (a::t)):∀ l:List α,l.length=n+1→P l:=fun l h=>by
 cases l with
 |nil=>cases h
 |cons a t=>exact k a t (wA h)
theorem zP{α:Type}{l:List α}:l.length=10→SW l:=
 (vN fun a=>vN fun b=>vN fun c=>vN fun d=>vN fun e=>vN fun f=>vN fun g=>vN fun i=>vN fun j=>vN fun k=>fun t h=>by cases t with
 |nil=>exact .mk ..
 |cons=>cases h) l
theorem RG(k:Nat)(h:k≤10):k=0∨k=1∨k=2∨k=3∨k=4∨k=5∨k=6∨k=7∨k=8∨k=9∨k=10:=(by decide:∀ k:Fin 11,k.val=0∨k.val=1∨k.val=2∨k.val=3∨k.val=4∨k.val=5∨k.val=6∨k.val=7∨k.val=8∨k.val=9∨k.val=10) ⟨k,TQ h⟩
noncomputable abbrev nU(sh:PV)(p:Nat)(d:Int)(v:aU)(o7:Option SV)(cs:List SO)(ks vs:List PV)(ex:List SO):St:=nS sh (some (.pv (.bytes [p]))) (some (.pv (.int d))) (some (.pv (vp v))) o7 cs ks vs ex
theorem Ee(k:Nat):∀ i,(qO k i 1).length=k:=by
 induction k with
 |zero=>exact fun _=>rfl
 |succ k ih=>exact fun i=>congrArg lN (ih _)
section
variable{loc:List (Option SV)}{cs:List SO}{xs ys:List PV}
theorem aOu{lo hi:Option Int}(h:xs.length≤1000000):QZ (.pv (.lst xs)) lo hi ⟨loc,cs⟩=some (.ref cs.length,⟨loc,cs++[.list (pS lo hi xs)]⟩):=by
 show gd (decide (xs.length≤1000000)) (fun st=>some (SV.ref st.cells.length,⟨st.loc,st.cells++[.list (pS lo hi xs)]⟩)) _=_
 rw [decide_eq_true h];rfl
theorem zI:(cs++[c])[cs.length]? =some c:=by rw [CW (cZ _),GX];rfl
theorem aAN(h:cs[j]? =some (.list xs))(hl:xs.length+ys.length≤1000000):bP (.ref j) (.pv (.lst ys)) ⟨loc,cs⟩=some (.ref cs.length,⟨loc,cs++[.list (xs++ys)]⟩):=by
 show iI (.ref j) (fun l=>dQ (l.length+ys.length) fun st=>some (SV.ref st.cells.length,⟨st.loc,st.cells++[.list (l++ys)]⟩)) er ⟨loc,cs⟩=_
 unfold iI
 rw [show mB ⟨loc,cs⟩ (.ref j)=some xs by unfold mB;dsimp only;rw [h]]
 show dQ (xs.length+ys.length) _ _=_
 unfold dQ
 rw [decide_eq_true hl];rfl
theorem OS:cE (.ref cs.length) ⟨loc,cs++[.list xs]⟩=some (.pv (.lst xs),⟨loc,cs++[.dead]⟩):=by
 unfold cE
 dsimp only
 rw [zI]
 show some (PV.lst xs |> SV.pv,fG ⟨loc,cs++[.list xs]⟩ cs.length .dead)=_
 unfold fG
 rw [MB _ _ (cZ _),GX];rfl
end
theorem xA:∀ {n:Nat},(fr k n).length=k:=by
 induction k with
 |zero=>exact rfl
 |succ k ih=>exact congrArg lN ih
theorem sV(z:Bool)(ns:List Nat):(bK z ns).length=ns.length:=by
 cases ns with
 |nil=>rfl
 |cons n ns=>exact congrArg lN (bT ..)
theorem aAP(h:f st a=some r):vA f g st a=some r:=by unfold vA;rw [h]
theorem Io(h:f st a=none):vA f g st a=g st a:=by unfold vA;rw [h]
theorem rng_c(k:Nat)(hk:k≤10):Vn 0 k 1=some (qO k 0 1):=by
 rcases RG k hk with rfl | rfl | rfl | rfl | rfl | rfl | rfl | rfl | rfl | rfl | rfl <;> rfl
theorem aLf(k:Nat)(hk:k≤10)(st:St):dN st (.pv (.rng 0 k 1))=some (qO k 0 1):=
 (Io rfl).trans ((Io rfl).trans (aAP (rng_c k hk:Ak st (.pv (.rng 0 k 1))=_)))
theorem aEh(k:Nat)(hk:k≤10):clipAt 10 (10 - (k:Int))=10 - k:=(by decide:∀ k:Fin 11,clipAt 10 (10 - (k.val:Int))=10 - k.val) ⟨k,TQ hk⟩
theorem Ln(hl:v.ns.length=10)(hk:k≤10):bK (wW v k n).z (wW v k n).ns=(bK v.z v.ns).take (10 - k)++(fr k n).map ln:=by
 obtain⟨x,z,ns⟩:=v
 cases ns with
 |nil=>cases hl
 |cons a ns=>
  rcases Nat.lt_or_eq_of_le hk with h | rfl
  ·obtain⟨j,e⟩:∃ j,10 - k=j+1:=Nat.exists_eq_succ_of_ne_zero (Nat.sub_ne_zero_of_lt h)
   unfold wW
   refine(e).symm▸(show bX k 10=true from DC h).symm▸?_
   show lZ z a::(ns.take j++fr k n).map ln=lZ z a::((ns.map ln).take j++(fr k n).map ln)
   rw [cW,LY]
  ·rfl
theorem aEi(sh:PV)(p:Nat)(d:Int)(v:aU)(hl:v.ns.length=10)(ω:Dk)(K:List (List Nat))(T:List PV)(k:Nat)(hk:k≤10)(hn:ω.n+10≤99)(ks vs:List PV)(ex:List SO):
  ∃ ex',ge cE Ll (nU sh p d v (some (.pv (.int k))) (s8 ω K T) ks vs ex)=some (.pv (lp (bK (wW v k ω.n).z (wW v k ω.n).ns)),nU sh p d v (some (.pv (.int k))) (s8 (ω.inc k) K T) ks vs ex'):=by
 let A:=((bK v.z v.ns).take (10 - k)).map PV.bytes
 let N:=((fr k ω.n).map ln).map PV.bytes
 have hL:(bK v.z v.ns).length=10:=(sV _ _).trans hl
 have hA:pS none (some (10 - (k:Int))) ((bK v.z v.ns).map PV.bytes)=A:=by
  show(((bK v.z v.ns).map PV.bytes).drop 0).take (clipAt ((bK v.z v.ns).map PV.bytes).length (10 - (k:Int)) - 0)=A
  rw [bT,hL,aEh k hk,←List.map_drop,←LY];rfl
 obtain⟨b',hc⟩:=Le K T (SO.dict .bytes ks vs::(ex++[SO.list A])) none none (qO k 0 1) ω none (by rw [Ee];exact aP (oE hk _) hn)
 rw [Ee] at hc
 let st (ω:Dk) (ex:List SO):St:=nU sh p d v (some (.pv (.int k))) (s8 ω K T) ks vs ex
 have e1:(pV (b2 (aA 6) (kI 1) aW) (rt none) (pa (b2 (kI 10) (aA 7) (bZ eO)))) (st ω ex)=some (.ref (ex.length+9),st ω (ex++[SO.list A])):=by
  refine(aJ rfl).trans ((aJ rfl).trans ((aJ rfl).trans ((aOu (by rw [bT,hL];decide)).trans ?_)))
  rw [hA,gP];rfl
 let cs:List SO:=s8 (ω.inc k) K T++SO.dict .bytes ks vs::(ex++[SO.list A])
 have g:cs[ex.length+9]? =some (.list A):=zI
 have hl2:A.length+N.length≤1000000:=by
  rw [bT,bT,bT,xA,CX,hL];exact aP (mM (Nat.min_le_right ..) hk) (bR rfl)
 have e2:eH dN (ge CJ (aA 7)) [none,none,none,some 1] (nT 1) (rt true) (cf BI (ar [(aA 3)])) (st ω (ex++[SO.list A]))=some (.pv (.lst N),⟨(st ω ex).loc,cs⟩):=
  tZ (st₁:=st ω (ex++[SO.list A])) (st₂:=⟨[none,b',none,some (.ref 7)],cs⟩) rfl (aLf k hk _) (by rw [Ee];exact aP hk (by decide)) hc
 refine⟨ex++[.list A]++[.dead],eX ((vC e1 e2).trans (aAN g hl2)) (OS.trans ?_)⟩
 rw [Ln hl hk]
 unfold lp
 rw [cW]
 rfl
inductive Nb(S:Option aU→Nat→Prop)(sh:PV)(p:Nat)(K:List (List Nat))(T:List PV)(ω:Dk)(o4 o5 o6 o7:Option SV)(ks vs:List PV)(ex:List SO):Prop
 |mk (r:Option aU) (ω':Dk) (q4 q5 q6 q7:Option SV) (ex':List SO) (h:S r ω'.n) (hx:ω'.xs.length≤24) (e:(bd (nT 4 (.bytes [p])) fun _=>nB) (nS sh o4 o5 o6 o7 (s8 ω K T) ks vs ex)=some (.next,nS sh q4 q5 q6 q7 (s8 ω' K T) (yS ks p r) (MT vs r) ex'))
section
variable{sh:PV}{p:Nat}{K:List (List Nat)}{T:List PV}{ω ω₁:Dk}{o4 o5 o6 o7:Option SV}{ks vs:List PV}{ex:List SO}
theorem Ss(hd:wY [.ref 2,.pv (.int 8)] (s8 ω K T++.dict .bytes ks vs::ex)=some (.pv (.int d),s8 ω₁ K T++.dict .bytes ks vs::ex))(hD:∀ st,cX (.pv sh) st=some ((),st))(hg:∀ st,dY (.pv sh) (.pv (.bytes [p])) st=some (.pv y,st))
  (h:bJ (t2 (aA 6) kN oU) (bl [Bv]) (bl [Bw]) (nS sh (some (.pv (.bytes [p]))) (some (.pv (.int d))) (some (.pv y)) o7 (s8 ω₁ K T) ks vs ex)=some (.next,st')):(bd (nT 4 (.bytes [p])) fun _=>nB) (nS sh o4 o5 o6 o7 (s8 ω K T) ks vs ex)=some (.next,st'):=
 (aJ rfl).trans (aO (st₁:=nS sh (some (.pv (.bytes [p]))) (some (.pv (.int d))) (some (.pv y)) o7 (s8 ω₁ K T) ks vs ex) (DQ (dM (gK (dM rfl rfl) hd) ((qL rfl (hD _) rfl).trans (hg _))) rfl) (cY h))
theorem aGL{d:Int}(h0:0≤d)(h1:d < 8)(h:¬d < 4):d=4∨d=5∨d=6∨d=7:=by
 obtain⟨k,rfl⟩:=SR h0
 exact(by decide:∀ k:Fin 8,¬((k.val:Int) < 4)→(k.val:Int)=4∨(k.val:Int)=5∨(k.val:Int)=6∨(k.val:Int)=7) ⟨k,Int.ofNat_lt.mp h1⟩ h
theorem Sr(v:aU)(hx:v.x=false)(hl:v.ns.length=10)(hs:sh= .dct .bytes [.bytes [97],.bytes [98]] svs)(hg:dR [.bytes [97],.bytes [98]] svs (.bytes [p])=some (vp v))(hxs:ω.xs.length≤24)(hn:ω.n+10≤99)(hkl:ks.length≤9)(hk:dhas ks (.bytes [p])=false):Nb (sO v ω.n) sh p K T ω o4 o5 o6 o7 ks vs ex:=by
 obtain⟨x,z,ns⟩:=v
 subst hx
 cases HZ 8 (by decide) ω hxs with
 |mk d xs mx d0 d1 hx₁ hd=>
  have go:∀ {st'},Bw (nU sh p d ⟨false,z,ns⟩ o7 (s8 (ω.dr xs mx) K T) ks vs ex)=some (.next,st')→(bd (nT 4 (.bytes [p])) fun _=>nB) (nS sh o4 o5 o6 o7 (s8 ω K T) ks vs ex)=some (.next,st'):=fun {st'} h=>by
   subst hs
   exact Ss (hd _ _ _) (fun _=>rfl) (fun st=>show rt (CG SV.pv (.pv .none) (dR [.bytes [97],.bytes [98]] svs (.bytes [p]))) st=_ by rw [hg];rfl) (eY rfl (cY h))
  by_cases h4:d < 4
  ·cases HZ 11 (by decide) (ω.dr xs mx) hx₁ with
   |mk m xs₂ mx₂ m0 m1 hx₂ hm=>
    obtain⟨k,rfl⟩:=SR m0
    have hk10:k≤10:=Int.ofNat_le.mp (Int.le_of_lt_add_one m1)
    obtain⟨ex',hc⟩:=aEi sh p d ⟨false,z,ns⟩ hl (ω.dr xs₂ mx₂) K T k hk10 hn ks vs ex
    exact .mk (some (wW ⟨false,z,ns⟩ k ω.n)) ((ω.dr xs₂ mx₂).inc k) _ _ _ _ ex' (.cut k hk10) hx₂ (go (iD (show some (decide (d < 4),_)=_ by rw [decide_eq_true h4]) (aO (iM (gK (dM rfl rfl) (hm _ _ _))) (cY (tY (zG (dM rfl hc) rfl) (KS (hkl:=hkl) (hk:=hk) ..) rfl rfl)))))
  ·have same:sO ⟨false,z,ns⟩ ω.n (some ⟨false,z,ns⟩) (ω.dr xs mx).n:=by
    have:=sO.cut (v:=⟨false,z,ns⟩) (n:=ω.n) 0 (jS _)
    rwa [show wW ⟨false,z,ns⟩ 0 ω.n=⟨false,z,ns⟩ by show aU.mk false z (ns.take 10++[])=_;rw [gQ,Hl (dS hl)]] at this
   have go2:∀ {st'},bl [(bJ (t2 (aA 5) (kI 4) cN) (bl [(gH fT (aZ (ar [(b2 (b2 PH Ao bP) (b2 (aA 6) (kI 0) aW) (bZ eO)),(b2 (aA 6) (kI 1) aW)]) cO) (aA 3) (aA 4))]) (bl [(bJ (t2 (aA 5) (kI 5) sR) (bl [(gH fT (aA 6) (aA 3) (aA 4))]) (bl []))]))] (nU sh p d ⟨false,z,ns⟩ o7 (s8 (ω.dr xs mx) K T) ks vs ex)=some (.next,st')→_:=fun {st'} h=>go (eY (show some (decide (d < 4),_)=_ by rw [decide_eq_false h4]) h)
   have hd8:=aGL d0 d1 h4
   rcases hd8 with rfl | rfl | rfl | rfl
   ·exact .mk (some ⟨true,z,ns⟩) (ω.dr xs mx) _ _ _ _ ex .flip hx₁ (go2 (cY (iD rfl (cY (tY (zG (as:=[.pv (.int 33261),.pv (lp (bK z ns))]) rfl rfl) (KS (hkl:=hkl) (hk:=hk) ..) rfl rfl)))))
   ·exact .mk none (ω.dr xs mx) _ _ _ _ ex .gone hx₁ (go2 (cY (eY rfl (cY (eY rfl rfl)))))
   ·exact .mk _ (ω.dr xs mx) _ _ _ _ ex same hx₁ (go2 (cY (eY rfl (cY (iD rfl (cY (tY rfl (KS (hkl:=hkl) (hk:=hk) ..) rfl rfl)))))))
   ·exact .mk _ (ω.dr xs mx) _ _ _ _ ex same hx₁ (go2 (cY (eY rfl (cY (iD rfl (cY (tY rfl (KS (hkl:=hkl) (hk:=hk) ..) rfl rfl)))))))
theorem aIz(hs:sh= .dct .bytes [.bytes [97],.bytes [98]] [w₁,w₂])(hxs:ω.xs.length≤24)(hn:ω.n+10≤99)(hkl:ks.length≤9)(hk:dhas ks (.bytes [99])=false):Nb (yQ ω.n) sh 99 K T ω o4 o5 o6 o7 ks vs ex:=by
 cases HZ 8 (by decide) ω hxs with
 |mk d xs mx d0 d1 hx₁ hd=>
  have go:∀ {st'},Bv (nS sh (some (.pv (.bytes [99]))) (some (.pv (.int d))) (some (.pv .none)) o7 (s8 (ω.dr xs mx) K T) ks vs ex)=some (.next,st')→(bd (nT 4 (.bytes [99])) fun _=>nB) (nS sh o4 o5 o6 o7 (s8 ω K T) ks vs ex)=some (.next,st'):=fun {st'} h=>by
   subst hs
   exact Ss (hd _ _ _) (fun _=>rfl) (fun _=>rfl) (iD rfl (cY h))
  by_cases h4:d < 4
  ·cases YY (ω.dr xs mx) hx₁ hn with
   |mk z xs₂ mx₂ hx₂ hm=>exact .mk (some (fV z ω.n)) ((ω.inc 10).dr xs₂ mx₂) _ _ _ _ _ (.mk z) hx₂ (go (iD (show some (decide (d < 4),_)=_ by rw [decide_eq_true h4]) (cY (tY (gK (dM rfl rfl) (hm _ _ _)) (KS (hkl:=hkl) (hk:=hk) ..) rfl rfl))))
  ·exact .mk none (ω.dr xs mx) (some (.pv (.bytes [99]))) (some (.pv (.int d))) (some (.pv .none)) o7 ex .no hx₁ (go (eY (st₁:=nS sh (some (.pv (.bytes [99]))) (some (.pv (.int d))) (some (.pv .none)) o7 (s8 (ω.dr xs mx) K T) ks vs ex) (show some (decide (d < 4),_)=_ by rw [decide_eq_false h4]) rfl))
end
noncomputable def FU(p:Nat)(v:Option aU):List (Nat×aU):=match v with
 |some v=>[(p,v)]
 |none=>[]
noncomputable def pE(a b c:Option aU):List (Nat×aU):=FU 97 a++FU 98 b++FU 99 c
noncomputable def cS(a b c:Option aU):PV:=.dct .bytes ((pE a b c).map fun e=>.bytes [e.1]) ((pE a b c).map fun e=>vp e.2)
theorem sO.le(h:sO v n r n'):n'≤n+10:=by
 cases h with
 |cut k h=>exact oE h _
 |_=>exact oF _ _
theorem WE(ks:List PV)(p:Nat)(r:Option aU):(yS ks p r).length≤ks.length+1:=by
 cases r with
 |none=>exact oG _
 |some r=>exact dS (fH ..)
theorem Ws(a b c:Option aU):yS (yS (yS [] 97 a) 98 b) 99 c=(pE a b c).map (fun e=>.bytes [e.1])∧MT (MT (MT [] a) b) c=(pE a b c).map (fun e=>vp e.2):=by
 cases a <;> cases b <;> cases c <;> exact⟨rfl,rfl⟩
inductive aAo(va vb:aU)(K:List (List Nat))(T:List PV)(ω:Dk):Prop
 |mk (a b c:Option aU) (n₁ n₂:Nat) (ω':Dk) (h₁:sO va ω.n a n₁) (h₂:sO vb n₁ b n₂) (h₃:yQ n₂ c ω'.n) (hx:ω'.xs.length≤24) (e:∀ ex,OH [.ref 2,.ref 7,.pv (cS (some va) (some vb) none)] (s8 ω K T++ex)=some (.pv (cS a b c),s8 ω' K T++ex))
theorem Tb(va vb:aU)(ha:va.x=false)(hla:va.ns.length=10)(hb:vb.x=false)(hlb:vb.ns.length=10)(K:List (List Nat))(T:List PV)(ω:Dk)(hxs:ω.xs.length≤24)(hn:ω.n+30≤99):aAo va vb K T ω:=by
 let sh:=cS (some va) (some vb) none
 cases Sr (sh:=sh) (p:=97) (ks:=[]) va ha hla rfl rfl hxs (aP (oE (by decide) _) hn) (by decide) rfl with
 |mk a ω₁ p4 p5 p6 p7 ex₁ h₁ hx₁ e₁=>
 have g₁:ω₁.n+20≤99:=aP (lM h₁.le 20) hn
 cases Sr (sh:=sh) (p:=98) (ks:=yS [] 97 a) vb hb hlb rfl rfl hx₁ (aP (oE (by decide) _) g₁) (aP (WE ..) (by decide)) (by cases a <;> rfl) with
 |mk b ω₂ q4 q5 q6 q7 ex₂ h₂ hx₂ e₂=>
 cases aIz (sh:=sh) (ks:=yS (yS [] 97 a) 98 b) rfl hx₂ (aP (lM h₂.le 10) g₁) (aP (WE ..) (lC (aP (WE ..) (by decide)))) (by cases a <;> cases b <;> rfl) with
 |mk c ω₃ r4 r5 r6 r7 ex₃ h₃ hx₃ e₃=>
 rw [(Ws a b c).1,(Ws a b c).2] at e₃
 let F:St:=nS sh none none none none (s8 ω K T) [] [] []
 let G:St:=nS sh r4 r5 r6 r7 (s8 ω₃ K T) ((pE a b c).map (fun e=>.bytes [e.1])) ((pE a b c).map (fun e=>vp e.2)) ex₃
 exact .mk a b c ω₁.n ω₂.n ω₃ h₁ h₂ h₃ hx₃ fun ex=>iQ (eK (st:=⟨G.loc,s8 ω₃ K T++.dead::ex₃⟩) rfl (aO (by rfl) (aO ((mT rfl rfl).trans ((gR e₁).trans ((gR e₂).trans ((gR e₃).trans rfl)))) (fC (fF rfl))))) rfl rfl
section
set_option tactic.hygienic true
section
variable{st:St}{j:Nat}{k:List Nat}{ks vs:List PV}{y:PV}{b:SV}
theorem NQ(h:st.cells[j]? =some (.dict kd ks vs)):BE st (.ref j)=some (kd,ks,vs):=by
 unfold BE;dsimp only;rw [h]
theorem Ts{α:Type}{f:List PV→M α}(h:st.cells[j]? =some (.dict kd ks vs)):iI (.ref j) f er st=none:=by
 unfold iI;rw [show mB st (.ref j)=none by unfold mB;dsimp only;rw [h]];rfl
theorem CB(h:st.cells[j]? =some (.dict .bytes ks vs)):fE (.pv (.bytes k)) (.ref j) st=some ((dR ks vs (.bytes k)).isNone,st):=by
 have h1:sX uC (.pv (.bytes k)) (.ref j) st=none:=by
  unfold sX bd
  exact(show uC (.pv (.bytes k)) (.ref j) st=none from Ts h).symm▸rfl
 have h3:zK (.pv (.bytes k)) (.ref j) st=some ((dR ks vs (.bytes k)).isSome,st):=by
  show kJ (.ref j) _ _ st=_;unfold kJ;rw [NQ h];rfl
 exact(mP h1).trans ((mP rfl).trans (pP ((aJ h3).trans (by cases dR ks vs (.bytes k) <;> rfl))))
variable{kd:KD}{p:PV}
theorem Qf(h:BE st b=some (kd,ks,vs))(q:kG kd p=true)(e:dR ks vs p=some y):Ah b (.pv p) st=some (.pv y,st):=by
 show kJ b _ _ st=_
 unfold kJ
 rw [h]
 show gd (kG kd p) (eZ (dR ks vs p) _) st=_
 rw [q,e];rfl
theorem Oi(h:BE st b=some (kd,ks,vs))(q:kG kd p=true):zH b (.pv p) c st=some (CG .pv c (dR ks vs p),st):=by
 refine pP ?_
 show kJ b _ _ st=_
 unfold kJ
 rw [h]
 show gd (kG kd p) (rt (CG _ c (dR ks vs p))) st=_
 rw [q];rfl
theorem Wl(h:st.cells[j]? =some (.dict kd ks vs))(q:kG kd p=true)(hl:ks.length≤1000)(hn:dhas ks p=false):fT (.ref j) (.pv p) (.pv y) st=some ((),fG st j (.dict kd (ks++[p]) (vs++[y]))):=by
 refine pP ?_
 show xK (.ref j) _ _ st=_
 unfold xK
 dsimp only
 rw [h]
 show gd (kG kd p && decide (ks.length≤1000000)) (fun st=>some ((),fG st j (.dict kd (dZ ks vs p y).1 (dZ ks vs p y).2))) st=_
 rw [q,decide_eq_true (aP hl (bR rfl))]
 unfold dZ
 rw [hn]
 rfl
theorem LF(h:BE st b=some (.bytes,ks,vs))(e:dR ks vs (.bytes k)=some y):aW b (.pv (.bytes k)) st=some (.pv y,st):=(mP rfl).trans (pP (Qf h rfl e))
theorem QX(h:st.cells[j]? =some (.dict .bytes ks vs))(hl:ks.length≤1000)(hn:dhas ks (.bytes k)=false):fT (.ref j) (.pv (.bytes k)) (.pv y) st=some ((),fG st j (.dict .bytes (ks++[.bytes k]) (vs++[y]))):=Wl h rfl hl hn
end
theorem yU{j:Nat}{xs:List PV}{y:PV}(h:st.cells[j]? =some (.list xs))(hl:xs.length≤1000000):dH (.ref j) (.pv y) st=some (.pv .none,fG st j (.list (xs++[y]))):=by
 unfold dH qN
 dsimp only
 rw [h]
 show dQ xs.length _ st=_
 unfold dQ
 rw [decide_eq_true hl]
 rfl
theorem Mq{j:Nat}{xs ys:List PV}(h:st.cells[j]? =some (.list xs))(hl:xs.length+ys.length≤1000000):BW (.ref j) (.pv (.lst ys)) st=some (.pv .none,fG st j (.list (xs++ys))):=by
 unfold BW qN
 dsimp only
 rw [h]
 show dQ (xs.length+ys.length) _ st=_
 unfold dQ
 rw [decide_eq_true hl]
 rfl
section
variable{α:Type}{enc:α→PV}(hk:∀ a b,jC (enc a) (enc b)=true↔a=b)
include hk
theorem PK(h:a≠b):jC (enc a) (enc b)=false:=by
 cases e:jC (enc a) (enc b) with
 |true=>exact absurd ((hk a b).mp e) h
 |false=>rfl
theorem ES:∀ {L:List α} {vs:List PV},k∉L→dR (L.map enc) vs (enc k)=none
 | [],vs,_=>by cases vs <;> rfl
 |l::K,[],_=>rfl
 |l::K,v::vs,h=>by
  show(match jC (enc l) (enc k) with | true=>some v | false=>dR (K.map enc) vs (enc k))=none
  rw [PK hk (fun e=>h (by simp [e]))]
  exact ES (fun m=>h (sG _ m))
theorem ER:∀ {L:List α},k∉L→dhas (L.map enc) (enc k)=false
 | [],_=>rfl
 |l::K,h=>by
  show(match jC (enc l) (enc k) with | true=>true | false=>dhas (K.map enc) (enc k))=false
  rw [PK hk (fun e=>h (by simp [e]))]
  exact ER (fun m=>h (sG _ m))
theorem BQ:∀ {L:List α} {vs:List PV} {i:Nat} {v:PV},L.Nodup→L[i]? =some k→vs[i]? =some v→dR (L.map enc) vs (enc k)=some v
 | [],vs,i,v,_,h,_=>by simp at h
 |l::K,[],i,v,_,_,h=>by simp at h
 |l::K,w::vs,0,v,_,h,h'=>by
  simp only [List.getElem?_cons_zero,TU] at h h'
  subst h h'
  show(match jC (enc l) (enc l) with | true=>some w | false=>dR (K.map enc) vs (enc l))=_
  exact((hk l l).mpr rfl).symm▸rfl
 |l::K,w::vs,i+1,v,hn,h,h'=>by
  simp only [List.getElem?_cons_succ] at h h'
  have hm:k∈K:=oB h
  have hne:l≠k:=fun e=>(List.nodup_cons.mp hn).1 (e▸hm)
  show(match jC (enc l) (enc k) with | true=>some w | false=>dR (K.map enc) vs (enc k))=_
  refine(PK hk hne).symm▸?_
  exact BQ (List.nodup_cons.mp hn).2 h h'
end
theorem aFf(h:k≠l):eqL k l=false:=PK (enc:=PV.bytes) (fun _ _=>jL) h
section
variable{k:List Nat}{K:List (List Nat)}
theorem Ly{vs:List PV}(h:k∉K):dR (kK K) vs (.bytes k)=none:=ES (enc:=PV.bytes) (fun _ _=>jL) h
theorem Lv(h:k∉K):dhas (kK K) (.bytes k)=false:=ER (enc:=PV.bytes) (fun _ _=>jL) h
theorem NP{i:Nat}{v:PV}(n:K.Nodup)(h:K[i]? =some k)(h':vs[i]? =some v):dR (kK K) vs (.bytes k)=some v:=BQ (enc:=PV.bytes) (fun _ _=>jL) n h h'
end
theorem ZW:∀ {n j i:Nat},i < n→(iV n j)[i]? =some (.int ((j+i+1:Nat):Int))
 |0,_,_,h=>absurd h (Nat.not_lt_zero _)
 |n+1,j,0,_=>rfl
 |n+1,j,i+1,h=>by
  exact(ZW (Ho h)).trans (congrArg (fun x:Nat=>some (PV.int (x+1:Nat))) (wB j i))
theorem Px:∀ n j,iV (n+1) j=iV n j++[.int ((j+n+1:Nat):Int)]
 |0,j=>rfl
 |n+1,j=>by
  show _::iV (n+1) (j+1)=_::(iV n (j+1)++_)
  refine(Px n (j+1)).symm▸?_
  have:j+1+n+1=j+(n+1)+1:=congrArg lN (wB j n)
  rw [this]
noncomputable def oK:Nat→Nat→List (List Nat)
 |0,_=>[]
 |n+1,i=>dI (i+1)::oK n (i+1)
theorem zQ:∀ n i,oV n i=kK (oK n i)
 |0,_=>rfl
 |n+1,i=>by show _::oV n (i+1)=_::kK (oK n (i+1));rw [zQ n]
theorem QI(h:dI i=dI j):i=j:=by
 unfold dI at h
 simpa using h
theorem Ti:∀ n i,(oK n i).length=n
 |0,_=>rfl
 |n+1,i=>by show(oK n (i+1)).length+1=_;rw [Ti n]
theorem Ce:∀ {n j i:Nat},i < n→(oK n j)[i]? =some (dI (j+i+1))
 |0,_,_,h=>absurd h (Nat.not_lt_zero _)
 |n+1,j,0,_=>rfl
 |n+1,j,i+1,h=>by
  exact(Ce (Ho h)).trans (congrArg (fun x:Nat=>some (dI (x+1))) (wB j i))
theorem Cf:∀ {n j:Nat} {k:List Nat},k∈oK n j→∃ i,j < i∧i≤j+n∧k=dI i
 |0,_,_,h=>by cases h
 |n+1,j,k,h=>by
  rcases List.mem_cons.mp h with rfl | h
  ·exact⟨j+1,yA j,oE (MD 1 n) j,rfl⟩
  ·obtain⟨i,h1,h2,h3⟩:=Cf h
   exact⟨i,Nat.lt_of_succ_lt h1,aP h2 (dS (wB j n)),h3⟩
theorem Cg:∀ n j,(oK n j).Nodup
 |0,_=>pK
 |n+1,j=>by
  refine List.nodup_cons.mpr ⟨fun h=> ?_,Cg n (j+1)⟩
  obtain⟨i,h1,_,h3⟩:=Cf h
  exact qU h1 (QI h3)
theorem Tj:∀ n j,oK (n+1) j=oK n j++[dI (j+n+1)]
 |0,j=>rfl
 |n+1,j=>by
  show _::oK (n+1) (j+1)=_::(oK n (j+1)++_)
  refine(Tj n (j+1)).symm▸?_
  have:j+1+n+1=j+(n+1)+1:=congrArg lN (wB j n)
  rw [this]
theorem Jh(n:Nat)(h:n < 64)(ex:List SO):YK [.pv (.int (n:Nat)),.pv (.int 4)] ex=some (.pv (.bytes (dI n)),ex):=by
 have:∀ n:Fin 64,(match bH 4 (gN 2) Ka [.pv (.int (n.val:Nat)),.pv (.int 4)] [] with | some (.pv (.bytes l),_)=>decide (l=dI n.val) | _=>false)=true:=by decide+kernel
 have:=this ⟨n,h⟩
 dsimp only at this
 split at this
 ·rename_i l j q
  have:=of_decide_eq_true this
  subst this
  exact mW q rfl
 ·exact eP this
end
theorem Am(K:List (List Nat)):(kK K).length=K.length:=bT ..
theorem aEz(ω:Dk)(K:List (List Nat))(T:List PV)(k:List Nat)(i:Nat)(hn:K.Nodup)(hi:K[i]? =some k)(hl:K.length≤60)(ex:List SO):NW [.ref 3,.pv (.bytes k)] (s8 ω K T++ex)=some (.pv (.bytes (dI (i+1))),s8 ω K T++ex):=by
 have hik:i < K.length:=(List.getElem?_eq_some_iff.mp hi).1
 have hf:dR (kK K) (iV K.length 0) (.bytes k)=some (.int ((i+1:Nat):Int)):=NP hn hi (by rw [ZW hik];rw [kL])
 refine iQ (eK (st:=⟨[some (.ref 3),some (.pv (.bytes k)),some (.pv (.bytes k)),none,none,none],s8 ω K T++[]⟩) rfl (aO (iM (eX rfl rfl)) (aO (eY ((jO rfl rfl).trans ((CB rfl).trans (by rw [hf];rfl))) rfl) (fC (fF ?_))))) rfl rfl
 have e1:b2 (ge uZ (aA 0)) (aA 2) aW ⟨[some (.ref 3),some (.pv (.bytes k)),some (.pv (.bytes k)),none,none,none],s8 ω K T⟩=some (.pv (.int ((i+1:Nat):Int)),⟨[some (.ref 3),some (.pv (.bytes k)),some (.pv (.bytes k)),none,none,none],s8 ω K T⟩):=jJ rfl rfl (LF rfl hf)
 exact gK (st₁:=⟨[some (.ref 3),some (.pv (.bytes k)),some (.pv (.bytes k)),none,none,none],s8 ω K T⟩) (dM e1 rfl) (Jh (i+1) (ul (aP hik hl) rfl) _)
theorem aEy(ω:Dk)(K:List (List Nat))(T:List PV)(k:List Nat)(hn:K.Nodup)(hi:k∉K)(hl:K.length≤50)(ex:List SO):NW [.ref 3,.pv (.bytes k)] (s8 ω K T++ex)=some (.pv (.bytes (dI (K.length+1))),s8 ω (K++[k]) T++ex):=by
 have hn':(K++[k]).Nodup:=List.nodup_append.mpr ⟨hn,List.nodup_cons.mpr ⟨GR,pK⟩,fun a ha b hb e=>by rw [List.mem_singleton.mp hb] at e;exact hi (e▸ha)⟩
 have hf:dR (kK (K++[k])) (iV (K++[k]).length 0) (.bytes k)=some (.int ((K.length+1:Nat):Int)):=NP (i:=K.length) hn' (by simp) (by rw [ZW (by simp)];rw [kL])
 have hc:s8 ω (K++[k]) T=(s8 ω K T).set 4 (.dict .bytes (kK K++[.bytes k]) (iV K.length 0++[.int ((K.length+1:Nat):Int)])):=by
  unfold s8
  rw [show(K++[k]).length=K.length+1 from by simp,Px,kL,show kK (K++[k])=kK K++[.bytes k] from by unfold kK;rw [cW];rfl]
  rfl
 have hlen:ge iP (ge uZ (aA 0)) ⟨[some (.ref 3),some (.pv (.bytes k)),some (.pv (.bytes k)),none,none,none],s8 ω K T⟩=some (.pv (.int (K.length:Nat)),⟨[some (.ref 3),some (.pv (.bytes k)),some (.pv (.bytes k)),none,none,none],s8 ω K T⟩):=by
  refine(BO rfl).trans ?_
  refine(mP rfl).trans (pP ?_)
  show dQ (kK K).length (rt (SV.pv (.int ((kK K).length:Nat)))) _=_
  rw [Am]
  unfold dQ
  rw [decide_eq_true (ub hl rfl:K.length≤1000000)]
  rfl
 refine iQ (eK (st:=⟨[some (.ref 3),some (.pv (.bytes k)),some (.pv (.bytes k)),none,none,none],s8 ω (K++[k]) T++[]⟩) rfl (aO (iM (eX rfl rfl)) (aO (st₁:=⟨[some (.ref 3),some (.pv (.bytes k)),some (.pv (.bytes k)),none,none,none],s8 ω (K++[k]) T⟩) (iD ((jO rfl rfl).trans ((CB rfl).trans (by rw [Ly hi];rfl))) ?_) (fC (fF ?_))))) rfl rfl
 ·refine cY (tY (u:=()) (c:=.pv (.int ((K.length+1:Nat):Int))) ((vC hlen rfl).trans rfl) ((QX rfl (by rw [Am];exact ub hl rfl) (Lv hi)).trans ?_) rfl rfl)
  rw [hc]
  rfl
 ·have e1:b2 (ge uZ (aA 0)) (aA 2) aW ⟨[some (.ref 3),some (.pv (.bytes k)),some (.pv (.bytes k)),none,none,none],s8 ω (K++[k]) T⟩=some (.pv (.int ((K.length+1:Nat):Int)),⟨[some (.ref 3),some (.pv (.bytes k)),some (.pv (.bytes k)),none,none,none],s8 ω (K++[k]) T⟩):=jJ rfl rfl (LF rfl hf)
  exact gK (st₁:=⟨[some (.ref 3),some (.pv (.bytes k)),some (.pv (.bytes k)),none,none,none],s8 ω (K++[k]) T⟩) (dM e1 rfl) (Jh (K.length+1) (ul (lC hl) rfl) _)
inductive Zt(ω:Dk)(K:List (List Nat))(T:List PV)(kd:List Nat)(ct:List Nat)(k:List Nat)(th:PV):Prop
 |mk (K':_) (T':_) (i:_) (hh0:((k∈K∧K'=K∧T'=T)∨(k∉K∧K'=K++[k]∧T'=T++[.tup [.bytes kd,th]]))) (hh1:K'[i]? =some k) (hh2:∀ ex,ID [.ref 5,.pv (.bytes kd),.pv (.bytes ct),.pv th] (s8 ω K T++ex)=some (.pv (.bytes (dI (i+1))),s8 ω K' T'++ex))
theorem aHn(ω:Dk)(K:List (List Nat))(T:List PV)(kd ct k:List Nat)(th:PV)(hn:K.Nodup)(hl:K.length≤50)(ht:T.length=K.length)(ho:∀ ex,EK [.pv (.bytes kd),.pv (.bytes ct)] ex=some (.pv (.bytes k),ex)):Zt ω K T kd ct k th:=by
 by_cases hk:k∈K
 ·obtain⟨i,hi⟩:=TH hk
  have hik:i < K.length:=(List.getElem?_eq_some_iff.mp hi).1
  refine⟨K,T,i,.inl ⟨hk,rfl,rfl⟩,hi,fun ex=> ?_⟩
  have hf:dR (oV T.length 0) T (.bytes (dI (i+1)))=T[i]?:=by
   rw [zQ,ht]
   have:T[i]? =some (T[i]'(Nat.lt_of_lt_of_eq hik ht.symm)):=tP _
   rw [this]
   exact NP (Cg _ _) (by rw [Ce hik,kL]) this
  refine iQ (eK (st:=⟨[some (.ref 5),some (.pv (.bytes kd)),some (.pv (.bytes ct)),some (.pv th),some (.pv (.bytes (dI (i+1)))),none],s8 ω K T++[]⟩) rfl (aO (iM (jN rfl rfl (iL (gK (dM rfl rfl) (ho _))) (aEz ω K T k i hn hi (ub hl rfl) []))) (aO (eY ((jO rfl rfl).trans ((CB rfl).trans (by rw [hf,tP (Nat.lt_of_lt_of_eq hik ht.symm)];rfl))) rfl) (fC (fF rfl))))) rfl rfl
 ·refine⟨K++[k],T++[.tup [.bytes kd,th]],K.length,.inr ⟨hk,rfl,rfl⟩,by simp,fun ex=> ?_⟩
  have hno:dI (K.length+1)∉oK K.length 0:=fun h=>by
   obtain⟨i,_,h2,h3⟩:=Cf h
   exact Nat.not_succ_le_self _ (aP (dS (QI h3)) (aP h2 (dS (kL _))))
  have hc:s8 ω (K++[k]) (T++[.tup [.bytes kd,th]])=(s8 ω (K++[k]) T).set 6 (.dict .bytes (oV T.length 0++[.bytes (dI (K.length+1))]) (T++[.tup [.bytes kd,th]])):=by
   unfold s8
   rw [show(T++[PV.tup [.bytes kd,th]]).length=K.length+1 from by simp [ht],ht,zQ,Tj,kL,zQ,show kK (oK K.length 0++[dI (K.length+1)])=kK (oK K.length 0)++[.bytes (dI (K.length+1))] from by unfold kK;rw [cW];rfl]
   rfl
  refine iQ (eK (st:=⟨[some (.ref 5),some (.pv (.bytes kd)),some (.pv (.bytes ct)),some (.pv th),some (.pv (.bytes (dI (K.length+1)))),none],s8 ω (K++[k]) (T++[.tup [.bytes kd,th]])++[]⟩) rfl (aO (iM (jN rfl rfl (iL (gK (dM rfl rfl) (ho _))) (aEy ω K T k hn hk hl []))) (aO (st₁:=⟨[some (.ref 5),some (.pv (.bytes kd)),some (.pv (.bytes ct)),some (.pv th),some (.pv (.bytes (dI (K.length+1)))),none],s8 ω (K++[k]) (T++[.tup [.bytes kd,th]])⟩) (iD ((jO rfl rfl).trans ((CB rfl).trans (by rw [zQ,ht,Ly hno];rfl))) ?_) (fC (fF rfl))))) rfl rfl
  refine cY (tY (u:=()) (zG (dM rfl rfl) rfl) ((QX rfl (by rw [zQ,Am,Ti];exact aP (dS ht) (ub hl rfl)) (by rw [zQ,ht];exact Lv hno)).trans ?_) rfl rfl)
  rw [hc]
  rfl
noncomputable abbrev En:=Nat×Bool×Nat
inductive It where
 |blob (z:Bool) (ns:List Nat)
 |tree (es:List En)
theorem It.tree.inj(h:It.tree a= .tree b):a=b:=by cases h;rfl
theorem aBH(h:some (It.blob z ns)=some (.blob z' ns')):bK z ns=bK z' ns':=by cases h;rfl
noncomputable def ct(z:Bool)(ns:List Nat):List Nat:=(bK z ns).flatten
noncomputable def e8(x:Bool):List Nat:=match x with
 |true=>[49,48,48,55,53,53]
 |false=>[49,48,48,54,52,52]
noncomputable def ED(e:En):List Nat:=e8 e.2.1++([32,e.1,0]++dI e.2.2)
noncomputable def dg:Nat→List Nat
 |0=>[48]
 |1=>[49,51]
 |2=>[50,54]
 |_=>[51,57]
noncomputable def dJ(e:En):PV:=.obj 9 [.int (mo e.2.1),.bytes [e.1],.bytes (dI e.2.2)]
noncomputable def xT(es:List En):PV:=.obj 10 [.lst (es.map dJ)]
noncomputable def xJ(es:List En):List Nat:=es.flatMap ED
noncomputable def It.key:It→List Nat
 |.blob z ns=>[98,108,111,98]++[32]++[52,48]++[0]++ct z ns
 |.tree es=>[116,114,101,101]++[32]++dg es.length++[0]++xJ es
noncomputable def It.val:It→PV
 |.blob z ns=>.tup [.bytes [98,108,111,98],.bytes (ct z ns)]
 |.tree es=>.tup [.bytes [116,114,101,101],xT es]
noncomputable def It.ok:It→Prop
 |.blob _ ns=>ns.length=10
 |.tree es=>es.length≤3
theorem Ma(h:m / 10+48=n / 10+48∧m % 10+48=n % 10+48):m=n:=
 (Nat.div_add_mod m 10).symm.trans ((congr (congrArg (fun a b=>10*a+b) (Nat.add_right_cancel h.1)) (Nat.add_right_cancel h.2)).trans (Nat.div_add_mod n 10))
theorem Rp(h:ln m=ln n):m=n:=by
 unfold ln at h
 simp only [SX,and_true,true_and] at h
 exact Ma h
theorem Ru(h:lZ z m=lZ z' n):z=z'∧m=n:=by
 unfold lZ ln lz at h
 cases z <;> cases z' <;> simp only [SX,and_true,true_and] at h <;> first | exact⟨rfl,Ma h⟩ | exact absurd h.1 (by decide)
theorem Rw(z:Bool)(n:Nat):(lZ z n).length=4:=by cases z <;> rfl
theorem Si:∀ {a b:List Nat},(a.map ln).flatten=(b.map ln).flatten→a=b
 | [],[],_=>rfl
 | [],_::_,h=>by simp [ln] at h
 |_::_,[],h=>by simp [ln] at h
 |m::a,n::b,h=>by
  obtain⟨h1,h2⟩:=List.append_inj h rfl
  have:=Rp h1
  have:=Si h2
  subst_vars;rfl
theorem Lj(la:a.length=10)(lb:b.length=10)(h:ct z a=ct z' b):z=z'∧a=b:=by
 match a,b,la,lb with
 |m::a,n::b,_,_=>
  unfold ct bK at h
  simp only [TF] at h
  obtain⟨h1,h2⟩:=List.append_inj h (by rw [Rw,Rw])
  obtain⟨h3,h4⟩:=Ru h1
  have:=Si h2
  subst_vars;exact⟨rfl,rfl⟩
theorem aEK(h:ED e=ED e'):e=e':=by
 obtain⟨p,x,i⟩:=e
 obtain⟨p',x',i'⟩:=e'
 unfold ED e8 dI at h
 cases x <;> cases x' <;> simp at h <;> obtain⟨rfl,rfl⟩:=h <;> rfl
theorem NR(e:En):(ED e).length=13:=by
 obtain⟨p,x,i⟩:=e
 cases x <;> rfl
theorem Cp(a:List En):(xJ a).length=13*a.length:=by
 induction a with
 |nil=>rfl
 |cons e a ih=>simp only [xJ,AJ,fH,NR,tQ] at ih ⊢;exact(congrArg (13+ ·) ih).trans (vZ 13 _)
theorem Tp:∀ {a b:List En},xJ a=xJ b→a=b
 | [],[],_=>rfl
 | [],e::b,h=>absurd ((Cp []).symm.trans ((congrArg AK h).trans (Cp (e::b)))) (Nat.succ_ne_zero _).symm
 |e::a,[],h=>by have:=congrArg AK h;simp [xJ,NR] at this
 |e::a,e'::b,h=>by
  obtain⟨h1,h2⟩:=List.append_inj h (by rw [NR,NR])
  have:=aEK h1
  have:=Tp h2
  subst_vars;rfl
theorem kl:∀ n≤3,∀ m≤3,4+1+(dg n).length+1+13*n=4+1+(dg m).length+1+13*m→n=m:=by decide
theorem As{a b:It}(ha:a.ok)(hb:b.ok)(h:a.key=b.key):a=b:=by
 cases a with
 |blob z ns=>
  cases b with
  |blob z' ns'=>
   have:=List.append_cancel_left h
   obtain⟨rfl,rfl⟩:=Lj ha hb this
   rfl
  |tree es=>unfold It.key at h;cases h
 |tree es=>
  cases b with
  |blob z ns=>unfold It.key at h;cases h
  |tree es'=>
   have hl:es.length=es'.length:=by
    have h1:es.length≤3:=ha
    have h2:es'.length≤3:=hb
    have:=congrArg AK h
    simp only [It.key,fH,Cp] at this
    exact kl _ h1 _ h2 this
   simp only [It.key,hl] at h
   have:=Tp (List.append_cancel_left h)
   rw [this]
theorem aJd(z:Bool)(ns:List Nat)(h:ns.length=10)(ex:List SO):EK [.pv (.bytes [98,108,111,98]),.pv (.bytes (ct z ns))] ex=some (.pv (.bytes (It.blob z ns).key),ex):=by
 obtain⟨n₀,n₁,n₂,n₃,n₄,n₅,n₆,n₇,n₈,n₉⟩:=zP h
 refine mW (j:=[]) ?_ rfl
 cases z <;> kernel_rfl
theorem aJe(es:List En)(h:es.length≤3)(ex:List SO):EK [.pv (.bytes [116,114,101,101]),.pv (.bytes (xJ es))] ex=some (.pv (.bytes (It.tree es).key),ex):=by
 refine mW (j:=[]) ?_ rfl
 cases es with
 |nil=>kernel_rfl
 |cons e es=>obtain⟨p,x,i⟩:=e;cases es with
  |nil=>cases x <;> kernel_rfl
  |cons e es=>obtain⟨q,y,j⟩:=e;cases es with
   |nil=>cases x <;> cases y <;> kernel_rfl
   |cons e es=>obtain⟨r,w,k⟩:=e;cases es with
    |nil=>cases x <;> cases y <;> cases w <;> kernel_rfl
    |cons=>exact absurd (TP (TP (TP h))) (Nat.not_succ_le_zero _)
theorem aPp(es:List En)(h:es.length≤3)(ex:List SO):YJ [.pv (xT es)] ex=some (.pv (.bytes (xJ es)),ex):=by
 refine mW (j:=[.list (es.map fun e=>.bytes (ED e))]) ?_ rfl
 match es,h with
 | [],_=>kernel_rfl
 | [(_,x,_)],_=>cases x <;> kernel_rfl
 | [(_,x,_),(_,y,_)],_=>cases x <;> cases y <;> kernel_rfl
 | [(_,x,_),(_,y,_),(_,w,_)],_=>cases x <;> cases y <;> cases w <;> kernel_rfl
section
set_option tactic.hygienic true
theorem aAU(i:Nat)(h:i < 60)(ex:List SO):OI [.pv (.bytes (dI (i+1))),.pv (.bytes [0])] ex=some (.pv (.bool false),ex):=by
 have:∀ n:Fin 60,(match bH 3 (gN 2) Kc [.pv (.bytes (dI (n.val+1))),.pv (.bytes [0])] [] with | some (.pv (.bool b),_)=> !b | _=>false)=true:=by decide+kernel
 have:=this ⟨i,h⟩
 dsimp only at this
 split at this
 ·rename_i b j q
  cases b
  ·exact mW q rfl
  ·exact eP this
 ·exact eP this
noncomputable def Xx:List (M Fl):=[(bJ (t2 (ge oM (aA 4)) Qs fE) (bl [(ex (bL cT dH (aA 1) (kS [97,32,109,111,100,101,32,116,104,97,116,32,105,115,32,110,111,110,101])))]) (bl [])),
 (bA 5 (cf YT (ar [(ge tX (aA 4))]))),
 (bJ (t2 (aA 5) kN qG) (bl [(ex (bL cT dH (aA 1) (aA 5)))]) (bl [])),
 (bJ (t2 (ge tX (aA 4)) (aA 2) vK) (bl [(ex (bL cT dH (aA 1) (kS [97,32,110,97,109,101,32,116,119,105,99,101])))]) (bl [(bJ (cH (t2 (aA 3) kN qG) (cH (t2 (mc 9 IC (aA 4) (ar [])) (aA 3) Bd) (rt true))) (bl [(ex (bL cT dH (aA 1) (kS [101,110,116,114,105,101,115,32,111,117,116,32,111,102,32,111,114,100,101,114])))]) (bl []))]))]
noncomputable def Xw:List (M Fl):=[(gH fT (kB true) (aA 2) (ge tX (aA 4))),
 (bA 3 (mc 9 IC (aA 4) (ar [])))]
noncomputable def LG:M Fl:=bl (Xx++(bJ (tv (cf OI (ar [(ge qX (aA 4)),(kY [0])]))) (bl [(ex (bL cT dH (aA 1) (kS [97,110,32,105,100,32,111,102,32,110,111,117,103,104,116,115])))]) (bl []))::Xw)
noncomputable def sC(es:List En)(ps:List Nat)(o4 o5:Option SV):St:=⟨[some (.pv (xT es)),some (.ref 0),some (.ref 1),some (.pv (match ps.getLast? with | some p=>.bytes [p] | none=>.none)),o4,o5,none,none,none],[.list [],.dict .bytes (ps.map fun p=>.bytes [p]) (ps.map fun _=>.bool true)]⟩
theorem aPi(es:List En)(ps:List Nat)(p:Nat)(x:Bool)(i:Nat)(hi:i < 60)(o4 o5:Option SV)
  (h:bl (Xx) (sC es ps (some (.pv (dJ (p,x,i+1)))) o5)=some (.next,sC es ps (some (.pv (dJ (p,x,i+1)))) (some (.pv .none))))
  (h':bl (Xw) (sC es ps (some (.pv (dJ (p,x,i+1)))) (some (.pv .none)))=some (.next,sC es (ps++[p]) (some (.pv (dJ (p,x,i+1)))) (some (.pv .none)))):
  (bd (nT 4 (dJ (p,x,i+1))) fun _=>LG) (sC es ps o4 o5)=some (.next,sC es (ps++[p]) (some (.pv (dJ (p,x,i+1)))) (some (.pv .none))):=by
 refine(aJ rfl).trans ?_
 refine(NA h).trans ?_
 exact aO (eY ((aJ (gK (dM rfl rfl) (aAU i hi _))).trans rfl) rfl) h'
theorem aPj(es:List En)(ps:List Nat)(p:Nat)(x:Bool)(i:Nat)(hi:i < 60)(o4 o5:Option SV)(hc:(ps,p)∈[([],97),([],98),([97],98),([],99),([97],99),([98],99),([97,98],99)]):
  (bd (nT 4 (dJ (p,x,i+1))) fun _=>LG) (sC es ps o4 o5)=some (.next,sC es (ps++[p]) (some (.pv (dJ (p,x,i+1)))) (some (.pv .none))):=by
 simp only [AL,TX,GR,or_false] at hc
 rcases hc with⟨rfl,rfl⟩ | ⟨rfl,rfl⟩ | ⟨rfl,rfl⟩ | ⟨rfl,rfl⟩ | ⟨rfl,rfl⟩ | ⟨rfl,rfl⟩ | ⟨rfl,rfl⟩ <;> cases x <;> exact aPi _ _ _ _ _ hi _ _ (by kernel_rfl) (by kernel_rfl)
noncomputable def eL(p:Nat)(o:Option (Bool×Nat)):List En:=match o with
 |some (x,i)=>[(p,x,i+1)]
 |none=>[]
noncomputable def eS(a b c:Option (Bool×Nat)):List En:=eL 97 a++eL 98 b++eL 99 c
noncomputable abbrev OE:=Option (Bool×Nat)
noncomputable abbrev DW:List (List Nat×Nat):=[([],97),([],98),([97],98),([],99),([97],99),([98],99),([97,98],99)]
noncomputable def uF(o:Option (Bool×Nat)):Prop:=match o with
 |some (_,i)=>i < 60
 |none=>True
theorem XT(a b c:Option (Bool×Nat)):(eS a b c).length≤3:=by
 cases a <;> cases b <;> cases c <;> exact bR rfl
inductive TfO(es:List En)(ps:List Nat)(p:Nat)(o:OE)(o4 o5:Option SV)(rest:List PV):Prop
 |mk (q4 q5:Option SV) (h:fM ((eL p o).map dJ++rest) (fun x=>bd (nT 4 x) fun _=>LG) (sC es ps o4 o5)=fM rest (fun x=>bd (nT 4 x) fun _=>LG) (sC es (ps++(eL p o).map (·.1)) q4 q5))
theorem Fh(es:List En)(ps:List Nat)(p:Nat)(o:OE)(ho:uF o)(hc:(ps,p)∈[([],97),([],98),([97],98),([],99),([97],99),([98],99),([97,98],99)])(o4 o5:Option SV)(rest:List PV):TfO es ps p o o4 o5 rest:=by
 cases o with
 |none=>exact .mk o4 o5 (by rw [show ps++(eL p none).map (·.1)=ps from gQ ps];rfl)
 |some o=>exact .mk _ _ (gR (aPj es ps p o.1 o.2 ho o4 o5 hc))
theorem aFu(a b c:OE)(ha:uF a)(hb:uF b)(hc:uF c)(ex:List SO):YU [.pv (xT (eS a b c))] ex=some (.pv (.lst []),ex):=by
 let es:=eS a b c
 cases Fh es [] 97 a ha (by decide) none none ((eL 98 b).map dJ++((eL 99 c).map dJ++[])) with
 |mk p4 p5 e₁=>
 cases Fh es ([]++(eL 97 a).map (·.1)) 98 b hb (by cases a with
  |none=>exact(by decide:(([]:List Nat),98)∈DW)
  |some=>exact(by decide:([97],98)∈DW)) p4 p5 ((eL 99 c).map dJ++[]) with
 |mk q4 q5 e₂=>
 cases Fh es ([]++(eL 97 a).map (·.1)++(eL 98 b).map (·.1)) 99 c hc (by cases a with
  |none=>cases b with
   |none=>exact(by decide:(([]:List Nat),99)∈DW)
   |some=>exact(by decide:([98],99)∈DW)
  |some=>cases b with
   |none=>exact(by decide:([97],99)∈DW)
   |some=>exact(by decide:([97,98],99)∈DW)) q4 q5 [] with
 |mk r4 r5 e₃=>
 let ps:=[]++(eL 97 a).map (·.1)++(eL 98 b).map (·.1)++(eL 99 c).map (·.1)
 have e:fM (es.map dJ) (fun x=>bd (nT 4 x) fun _=>LG) (sC es [] none none)=some (.next,sC es ps r4 r5):=
  (congrArg (fun l=>fM l _ _) (show es.map dJ=(eL 97 a).map dJ++((eL 98 b).map dJ++((eL 99 c).map dJ++[])) by show(eS a b c).map dJ=_;unfold eS;rw [gQ,cW,cW,gP])).trans (e₁.trans (e₂.trans e₃))
 exact mW (eK rfl (aO (st₁:=sC es [] none none) rfl (aO ((mT rfl rfl).trans e) (fC (fF rfl))))) rfl
theorem aDI(a b c:Option (Bool×Nat))(ha:uF a)(hb:uF b)(hc:uF c)(ex:List SO):YL [.pv (xT (eS a b c))] ex=some (.pv .none,ex):=
 mW (KQ rfl (aO (iM (gK (iL rfl) (aFu a b c ha hb hc _))) (cY (eY rfl rfl)))) rfl
noncomputable abbrev sS(ω:Dk)(S:List It):List SO:=s8 ω (S.map It.key) (S.map It.val)
structure Gd(S:List It):Prop where
 nodup:S.Nodup
 ok:∀ it∈S,it.ok
structure nZ(S S':List It)(k:Nat):Prop where
 gd:Gd S'
 pre:S <+:S'
 len:S'.length≤S.length+k
theorem nZ.trans(h:nZ S S' k)(h':nZ S' S'' l):nZ S S'' (k+l):=⟨h'.gd,h.pre.trans h'.pre,aP h'.len (aP (lM h.len l) (dS (uU ..)))⟩
theorem KJ(h:S <+:S'){i:Nat}{it:It}(e:S[i]? =some it):S'[i]? =some it:=by
 obtain⟨t,rfl⟩:=h
 rw [LU (List.getElem?_eq_some_iff.mp e).1]
 exact e
theorem aHv(h:Gd S):(S.map It.key).Nodup:=by
 obtain⟨hn,hk⟩:=h
 induction S with
 |nil=>exact pK
 |cons a S ih=>
  rw [iX,MA]
  refine⟨fun hm=> ?_,ih (List.nodup_cons.mp hn).2 fun it h=>hk it (sG _ h)⟩
  obtain⟨b,hb,e⟩:=List.mem_map.mp hm
  have:=As (hk b (sG _ hb)) (hk a (uS ..)) e
  exact(List.nodup_cons.mp hn).1 (this▸hb)
inductive Zu(ω:Dk)(S:List It)(it:It)(kd:List Nat)(ct:List Nat)(th:PV):Prop
 |mk (S':_) (i:_) (hh0:nZ S S' 1) (hh1:S'[i]? =some it) (hh2:∀ ex,ID [.ref 5,.pv (.bytes kd),.pv (.bytes ct),.pv th] (sS ω S++ex)=some (.pv (.bytes (dI (i+1))),sS ω S'++ex))
theorem Qv(ω:Dk)(S:List It)(hg:Gd S)(hl:S.length≤50)(it:It)(hok:it.ok)(kd ct:List Nat)(th:PV)(hv:it.val= .tup [.bytes kd,th])(ho:∀ ex,EK [.pv (.bytes kd),.pv (.bytes ct)] ex=some (.pv (.bytes it.key),ex)):Zu ω S it kd ct th:=by
 obtain⟨K',T',i,hc,hi,hf⟩:=aHn ω (S.map It.key) (S.map It.val) kd ct it.key th (aHv hg) (by rw [bT];exact hl) (by rw [bT,bT]) ho
 rcases hc with⟨hm,rfl,rfl⟩ | ⟨hm,rfl,rfl⟩
 ·refine⟨S,i,⟨hg,TM _,oG _⟩,?_,hf⟩
  rw [iW] at hi
  cases h:S[i]? with
  |none=>rw [h] at hi;exact aT hi
  |some a=>
   rw [h] at hi
   simp only [Option.map_some,TU] at hi
   rw [As (hg.ok a (oB h)) hok hi]
 ·have hnm:it∉S:=fun h=>hm (LZ h)
  refine⟨S++[it],i,⟨⟨?_,?_⟩,List.prefix_append ..,by simp⟩,?_,?_⟩
  ·exact List.nodup_append.mpr ⟨hg.nodup,List.nodup_cons.mpr ⟨GR,pK⟩,fun a ha b hb e=>by rw [List.mem_singleton.mp hb] at e;exact hnm (e▸ha)⟩
  ·intro a ha
   rcases List.mem_append.mp ha with h | h
   ·exact hg.ok a h
   ·rw [List.mem_singleton.mp h];exact hok
  ·have hlt:=(List.getElem?_eq_some_iff.mp hi).1
   by_cases hi':i < S.length
   ·rw [LU (by rw [bT];exact hi'),iW] at hi
    rw [tP hi'] at hi
    simp only [Option.map_some,TU] at hi
    exact absurd (As (hg.ok _ (List.getElem_mem hi')) hok hi) fun e=>hnm (e▸List.getElem_mem hi')
   ·rw [fH,bT] at hlt
    have:i=S.length:=TN (Hn hlt) (Nat.not_lt.mp hi')
    subst this
    simp
  ·intro ex
   rw [hf ex,←hv]
   unfold sS
   rw [cW,cW]
   rfl
inductive aAi(ω:Dk)(S:List It)(z:Bool)(ns:List Nat):Prop
 |mk (S':_) (i:_) (hh0:nZ S S' 1) (hh1:S'[i]? =some (.blob z ns)) (hh2:∀ ex,OB [.ref 5,.pv (.bytes [98,108,111,98]),.pv (.bytes (ct z ns))] (sS ω S++ex)=some (.pv (.bytes (dI (i+1))),sS ω S'++ex))
theorem aQF(ω:Dk)(S:List It)(hg:Gd S)(hl:S.length≤50)(z:Bool)(ns:List Nat)(hn:ns.length=10):aAi ω S z ns:=by
 obtain⟨S',i,h1,h2,h3⟩:=Qv ω S hg hl (.blob z ns) hn [98,108,111,98] (ct z ns) (.bytes (ct z ns)) rfl (aJd z ns hn)
 refine⟨S',i,h1,h2,fun ex=> ?_⟩
 refine iQ (eK rfl (aO (eY rfl rfl) (fC (fF (jN rfl rfl (nH rfl (dM rfl (eX rfl rfl))) (h3 [])))))) rfl rfl
inductive aAj(ω:Dk)(S:List It)(a:Option (Bool×Nat))(b:Option (Bool×Nat))(c:Option (Bool×Nat)):Prop
 |mk (S':_) (i:_) (hh0:nZ S S' 1) (hh1:S'[i]? =some (.tree (eS a b c))) (hh2:∀ ex,YH [.ref 5,.pv (xT (eS a b c))] (sS ω S++ex)=some (.pv (.bytes (dI (i+1))),sS ω S'++ex))
theorem aQG(ω:Dk)(S:List It)(hg:Gd S)(hl:S.length≤50)(a b c:Option (Bool×Nat))(ha:uF a)(hb:uF b)(hc:uF c):aAj ω S a b c:=by
 obtain⟨S',i,h1,h2,h3⟩:=Qv ω S hg hl (.tree (eS a b c)) (XT a b c) [116,114,101,101] (xJ (eS a b c)) (xT (eS a b c)) rfl (aJe _ (XT a b c))
 refine⟨S',i,h1,h2,fun ex=> ?_⟩
 refine iQ (eK rfl (aO (sQ (gK (iL rfl) (aDI a b c ha hb hc _))) (fC (fF (jN rfl rfl (nH rfl (dM (jN rfl rfl rfl (aPp _ (XT a b c) _)) rfl)) (h3 [])))))) rfl rfl
end
noncomputable def aPI(x:Bool)(i:Nat):PV:=.tup [.int (mo x),.bytes (dI (i+1))]
inductive aAh(ω:Dk)(S:List It)(v:aU):Prop
 |mk (S':_) (i:_) (hh0:nZ S S' 1) (hh1:S'[i]? =some (.blob v.z v.ns)) (hh2:∀ ex,rI [.ref 7,.pv (vp v)] (sS ω S++ex)=some (.pv (aPI v.x i),sS ω S'++ex))
theorem Ym(ω:Dk)(S:List It)(hg:Gd S)(hl:S.length≤50)(v:aU)(hn:v.ns.length=10):aAh ω S v:=by
 obtain⟨S',i,h1,h2,h3⟩:=aQF ω S hg hl v.z v.ns hn
 refine⟨S',i,h1,h2,fun ex=> ?_⟩
 have hj:bL xB EZ (kY []) (b2 (aA 1) (kI 1) aW) ⟨[some (.ref 7),some (.pv (vp v))],sS ω S⟩=some (.pv (.bytes (ct v.z v.ns)),⟨[some (.ref 7),some (.pv (vp v))],sS ω S⟩):=by
  obtain⟨x,z,ns⟩:=v
  obtain⟨n₀,n₁,n₂,n₃,n₄,n₅,n₆,n₇,n₈,n₉⟩:=zP hn
  cases z <;> kernel_rfl
 have hw:mc 11 OB (b2 (aA 0) (kS [115,116,111,114,101]) aW) (ar [(kY [98,108,111,98]),(bL xB EZ (kY []) (b2 (aA 1) (kI 1) aW))]) ⟨[some (.ref 7),some (.pv (vp v))],sS ω S⟩=some (.pv (.bytes (dI (i+1))),⟨[some (.ref 7),some (.pv (vp v))],sS ω S'⟩):=
  (jN rfl rfl (dM rfl hj) (h3 [])).trans rfl
 refine iQ (eK (st:=⟨[some (.ref 7),some (.pv (vp v))],sS ω S'++[]⟩) rfl (fC (fF ((ZZ (t:=false) rfl).trans (zG (dM rfl hw) rfl))))) rfl rfl
theorem aPJ(ω:Dk)(S:List It)(ex:List SO):rI [.ref 7,.pv .none] (sS ω S++ex)=some (.pv (.tup [.int 0,.none]),sS ω S++ex):=
 iQ rfl rfl rfl
noncomputable def PW:M Fl:=(bl [(vB [4,5] (cf rI (ar [(aA 0),(b2 (aA 1) (aA 3) aW)]))),
 (ex (bL cT dH (aA 2) (ge cE (nw 9 YB (ar [(aA 4),(aA 3),(aA 5)])))))])
noncomputable def uG(sh:PV)(o3 o4 o5:Option SV)(cs:List SO)(es:List PV)(k:Nat):St:=⟨[some (.ref 7),some (.pv sh),some (.ref 8),o3,o4,o5,none,none,none,none],cs++.list es::.dead::mZ k .dead⟩
inductive Zx(sh:PV)(p:Nat)(v:aU)(ω:Dk)(S:List It)(o3:Option SV)(o4:Option SV)(o5:Option SV)(es:List En)(k:Nat):Prop
 |mk (S':_) (i:_) (o4':_) (o5':_) (hh0:nZ S S' 1) (hh1:S'[i]? =some (.blob v.z v.ns)) (hh2:(bd (nT 3 (.bytes [p])) fun _=>PW) (uG sh o3 o4 o5 (sS ω S) (es.map dJ) k)=some (.next,uG sh (some (.pv (.bytes [p]))) o4' o5' (sS ω S') ((es++[(p,v.x,i+1)]).map dJ) (k+1)))
theorem aIb(sh:PV)(p:Nat)(v:aU)(hn:v.ns.length=10)(hs:∀ st,aW (.pv sh) (.pv (.bytes [p])) st=some (.pv (vp v),st))(ω:Dk)(S:List It)(hg:Gd S)(hl:S.length≤50)(o3 o4 o5:Option SV)(es:List En)(he:es.length≤3)(k:Nat)(hk:k=0∨k=1∨k=2):Zx sh p v ω S o3 o4 o5 es k:=by
 obtain⟨S',i,h1,h2,h3⟩:=Ym ω S hg hl v hn
 refine⟨S',i,some (.pv (.int (mo v.x))),some (.pv (.bytes (dI (i+1)))),h1,h2,?_⟩
 refine(aJ rfl).trans ?_
 refine aO (st₁:=uG sh (some (.pv (.bytes [p]))) (some (.pv (.int (mo v.x)))) (some (.pv (.bytes (dI (i+1))))) (sS ω S') (es.map dJ) k) (Jb (gK (dM rfl (jJ rfl rfl (hs _))) (h3 _)) rfl) ?_
 refine cY (sQ (v:=.pv .none) ((qL (st₃:=uG sh (some (.pv (.bytes [p]))) (some (.pv (.int (mo v.x)))) (some (.pv (.bytes (dI (i+1))))) (sS ω S') (es.map dJ) (k+1)) (b:=.pv (dJ (p,v.x,i+1))) rfl rfl ?_).trans ((yU rfl (by rw [bT];exact ub he rfl)).trans ?_)))
 ·rcases hk with rfl | rfl | rfl <;> rfl
 ·rw [cW]
  rfl
noncomputable def eE(S:List It)(v:Option aU)(o:Option (Bool×Nat)):Prop:=match v,o with
 |none,none=>True
 |some v,some (x,i)=>x=v.x∧S[i]? =some (.blob v.z v.ns)
 |_,_=>False
theorem eE.mono(h:S <+:S')(k:eE S v o):eE S' v o:=by
 cases v <;> cases o <;> first | exact k | exact⟨k.1,KJ h k.2⟩
noncomputable def eJ(v:Option aU):Prop:=match v with
 |some v=>v.ns.length=10
 |none=>True
inductive Zw(sh:PV)(p:Nat)(v:Option aU)(ω:Dk)(S:List It)(o3:Option SV)(o4:Option SV)(o5:Option SV)(es:List En)(k:Nat)(rest:List PV):Prop
 |mk (S':_) (o:_) (o3':_) (o4':_) (o5':_) (k':_) (hh0:k'≤k+1) (hh1:nZ S S' 1) (hh2:eE S' v o) (hh3:fM ((FU p v).map (fun e=>.bytes [e.1])++rest) (fun x=>bd (nT 3 x) fun _=>PW) (uG sh o3 o4 o5 (sS ω S) (es.map dJ) k)=fM rest (fun x=>bd (nT 3 x) fun _=>PW) (uG sh o3' o4' o5' (sS ω S') ((es++eL p o).map dJ) k'))
theorem Bi(sh:PV)(p:Nat)(v:Option aU)(hn:eJ v)(hs:∀ w,v=some w→∀ st,aW (.pv sh) (.pv (.bytes [p])) st=some (.pv (vp w),st))(ω:Dk)(S:List It)(hg:Gd S)(hl:S.length≤50)(o3 o4 o5:Option SV)(es:List En)(he:es.length≤3)(k:Nat)(hk:k≤2)(rest:List PV):Zw sh p v ω S o3 o4 o5 es k rest:=by
 cases v with
 |none=>exact⟨S,none,o3,o4,o5,k,oG _,⟨hg,TM _,oG _⟩,trivial,by rw [show eL p none= [] from rfl,gQ];rfl⟩
 |some v=>
  obtain⟨S',i,o4',o5',h1,h2,h3⟩:=aIb sh p v hn (hs v rfl) ω S hg hl o3 o4 o5 es he k (PO k hk)
  exact⟨S',some (v.x,i),_,_,_,k+1,cZ _,h1,⟨rfl,h2⟩,gR h3⟩
theorem eE.lt(k:eE S v o)(h:S.length≤60):uF o:=by
 cases v <;> cases o <;> first | trivial | exact k.elim | skip
 have:=(List.getElem?_eq_some_iff.mp k.2).1
 exact AN this h
inductive aAf(a:Option aU)(b:Option aU)(c:Option aU)(ω:Dk)(S:List It):Prop
 |mk (S':_) (i:_) (oa:_) (ob:_) (oc:_) (hh0:nZ S S' 4) (hh1:eE S' a oa) (hh2:eE S' b ob) (hh3:eE S' c oc) (hh4:S'[i]? =some (.tree (eS oa ob oc))) (hh5:∀ ex,II [.ref 7,.pv (cS a b c)] (sS ω S++ex)=some (.pv (.bytes (dI (i+1))),sS ω S'++ex))
theorem nZ.to(g:nZ S S' k)(h:S.length≤m)(q:qD (m+k) n=true):S'.length≤n:=aP g.len (aP (lM h k) (bR q))
section
variable{a b c:Option aU}{w:aU}(st:St)
theorem aOV(h:a=some w):aW (.pv (cS a b c)) (.pv (.bytes [97])) st=some (.pv (vp w),st):=by subst h;rfl
theorem aOW(h:b=some w):aW (.pv (cS a b c)) (.pv (.bytes [98])) st=some (.pv (vp w),st):=by subst h;cases a <;> rfl
theorem aOY(h:c=some w):aW (.pv (cS a b c)) (.pv (.bytes [99])) st=some (.pv (vp w),st):=by subst h;cases a <;> cases b <;> rfl
end
theorem aOC(a b c:Option aU)(st:St):nR (.pv (cS a b c)) st=some (.ref st.cells.length,⟨st.loc,st.cells++[.list ((pE a b c).map fun e=>.bytes [e.1])]⟩):=by
 cases a <;> cases b <;> cases c <;> kernel_rfl
theorem IA(p:Nat)(o:Option (Bool×Nat)):(eL p o).length≤1:=by
 cases o with
 |none=>exact jS _
 |some o=>exact cZ _
theorem FF{α:Type}{l m:List α}(h:l.length≤i)(h':m.length≤j):(l++m).length≤i+j:=by
 rw [fH];exact mM h h'
theorem aPo(es:List En)(h:k≤3):ge cE (nw 10 YI (ar [(ge cE (aA 2))])) (uG sh o3 o4 o5 (sS ω S) (es.map dJ) k)=some (.pv (xT es),⟨(uG sh o3 o4 o5 [] [] 0).loc,sS ω S++.dead::.dead::mZ (k+1) .dead⟩):=by
 rcases Rf k h with rfl | rfl | rfl | rfl <;> rfl
theorem Fp(a b c:Option aU)(ha:eJ a)(hb:eJ b)(hc:eJ c)(ω:Dk)(S:List It)(hg:Gd S)(hl:S.length≤40):aAf a b c ω S:=by
 let N (v:Option aU) (p:Nat):List PV:=(FU p v).map fun e=>.bytes [e.1]
 cases Bi (cS a b c) 97 a ha (fun w h st=>aOV st h) ω S hg (aP hl (bR rfl)) none none none [] (jS _) 0 (jS _) (N b 98++N c 99) with
 |mk S₁ oa p3 p4 p5 k₁ hk₁ g₁ ka e₁=>
 have l₁:S₁.length≤41:=g₁.to hl rfl
 have m₁:(eL 97 oa).length≤1:=IA _ _
 cases Bi (cS a b c) 98 b hb (fun w h st=>aOW st h) ω S₁ g₁.gd (aP l₁ (bR rfl)) p3 p4 p5 (eL 97 oa) (aP m₁ (by decide)) k₁ (aP hk₁ (by decide)) (N c 99) with
 |mk S₂ ob q3 q4 q5 k₂ hk₂ g₂ kb e₂=>
 have l₂:S₂.length≤42:=g₂.to l₁ rfl
 have k2:k₂≤2:=aP hk₂ (lC hk₁)
 cases Bi (cS a b c) 99 c hc (fun w h st=>aOY st h) ω S₂ g₂.gd (aP l₂ (bR rfl)) q3 q4 q5 (eL 97 oa++eL 98 ob) (aP (FF m₁ (IA _ _)) (by decide)) k₂ k2 [] with
 |mk S₃ oc r3 r4 r5 k₃ hk₃ g₃ kc e₃=>
 have l₃:S₃.length≤43:=g₃.to l₂ rfl
 have l₃:S₃.length≤60:=aP l₃ (bR rfl)
 have ka₃:=ka.mono (g₂.pre.trans g₃.pre)
 have kb₃:=kb.mono g₃.pre
 cases aQG ω S₃ g₃.gd (g₃.to l₂ rfl) oa ob oc (ka₃.lt l₃) (kb₃.lt l₃) (kc.lt l₃) with
 |mk S₄ i g₄ hi h4=>
 refine .mk S₄ i oa ob oc (((g₁.trans g₂).trans g₃).trans g₄) (ka₃.mono g₄.pre) (kb₃.mono g₄.pre) (kc.mono g₄.pre) hi fun ex=> ?_
 let st₀:St:=⟨[some (.ref 7),some (.pv (cS a b c)),some (.ref 8),none,none,none,none,none,none,none],sS ω S++[.list []]⟩
 have hloop:fM ((pE a b c).map fun e=>.bytes [e.1]) (fun x=>bd (nT 3 x) fun _=>PW) (uG (cS a b c) none none none (sS ω S) [] 0)=some (.next,uG (cS a b c) r3 r4 r5 (sS ω S₃) ((eS oa ob oc).map dJ) k₃):=by
  have e₃:=(congrArg (fun l=>fM l _ _) (gQ (N c 99))).symm.trans e₃
  exact(congrArg (fun l=>fM l _ _) (show((pE a b c).map fun e=>PV.bytes [e.1])=N a 97++(N b 98++N c 99) by unfold pE;rw [cW,cW,gP])).trans (e₁.trans (e₂.trans e₃))
 refine iQ (eK rfl (aO rfl (aO ((mT (eX (eX (st₁:=st₀) rfl (aOC a b c _)) OS) rfl).trans hloop) (fC (fF (.trans (jN (st₃:=⟨(uG (cS a b c) r3 r4 r5 [] [] 0).loc,sS ω S₃++.dead::.dead::mZ (k₃+1) .dead⟩) rfl rfl (iL ?_) (h4 _)) rfl)))))) rfl rfl
 exact aPo _ (aP hk₃ (lC k2))
noncomputable abbrev Ch:=Nat×OE×OE
noncomputable def hO(w:List Nat)(om:Int)(oi op:PV)(nm:Int)(ni np sc:PV):PV:=.obj 4 [.str w,.int om,oi,op,.int nm,ni,np,sc]
noncomputable def aN(i:Nat):PV:=.bytes (dI (i+1))
noncomputable def cp:Ch→PV
 |(p,none,some (x,i))=>hO [65] 0 .none .none (mo x) (aN i) (.bytes [p]) .none
 |(p,some (x,i),none)=>hO [68] (mo x) (aN i) (.bytes [p]) 0 .none .none .none
 |(p,some (x,i),some (y,j))=>hO [77] (mo x) (aN i) (.bytes [p]) (mo y) (aN j) (.bytes [p]) .none
 |(_,none,none)=>.none
noncomputable def dG(p:Nat)(o n:OE):List Ch:=match decide (o=n) with
 |true=>[]
 |false=>[(p,o,n)]
theorem Qw{S:List It}{it:It}(hi:S[i]? =some it):dR (oV (S.map It.val).length 0) (S.map It.val) (.bytes (dI (i+1)))=some it.val:=by
 have hlt:=(List.getElem?_eq_some_iff.mp hi).1
 rw [zQ]
 exact NP (Cg _ _) (by rw [Ce (by rw [bT];exact hlt),kL]) (by rw [iW,hi];rfl)
theorem aMe(ω:Dk)(S:List It){i:Nat}(hi:S[i]? =some it)(hc:uK 8 (.pv it.val)=true)(ex:List SO):YG [.ref 5,.pv (aN i)] (sS ω S++ex)=some (.pv it.val,sS ω S++ex):=by
 refine iQ (eK (st:=⟨[some (.ref 5),some (.pv (aN i)),none],sS ω S++[]⟩) rfl (aO (eY ((jO rfl rfl).trans ((CB rfl).trans (by rw [Qw hi];rfl))) rfl) (fC (fF ?_)))) rfl hc
 have:=LF (st:=⟨[some (.ref 5),some (.pv (aN i)),none],sS ω S⟩) (b:=.ref 6) rfl (Qw hi)
 exact(jJ rfl rfl this).trans rfl
theorem Qy(ω:Dk)(S:List It)(hi:S[i]? =some it)(hv:it.val= .tup [.bytes kd,th])(ex:List SO):NZ [.ref 5,.pv (aN i),.pv (.bytes kd)] (sS ω S++ex)=some (.pv th,sS ω S++ex):=by
 have hr:=aMe ω S hi (by rw [hv];rfl) []
 rw [hv] at hr
 refine iQ (eK (st:=⟨[some (.ref 5),some (.pv (aN i)),some (.pv (.bytes kd)),some (.pv (.bytes kd)),some (.pv th),none,none],sS ω S++[]⟩) rfl (aO (Jb (jN rfl rfl (iL rfl) hr) rfl) (aO (st₁:=⟨[some (.ref 5),some (.pv (aN i)),some (.pv (.bytes kd)),some (.pv (.bytes kd)),some (.pv th),none,none],sS ω S++[]⟩) (eY ((jO rfl rfl).trans ?_) rfl) (fC (fF rfl))))) rfl rfl
 show(match (some (eqL kd kd):Option Bool) with | some r=>some (!r,_) | none=>none)=some (false,(⟨[some (.ref 5),some (.pv (aN i)),some (.pv (.bytes kd)),some (.pv (.bytes kd)),some (.pv th),none,none],sS ω S++[]⟩:St))
 rw [jL.mpr rfl]
 rfl
theorem Jq(ω:Dk)(S:List It){i:Nat}{ns:List Nat}(hi:S[i]? =some (.blob z ns))(ex:List SO):NY [.ref 5,.pv (aN i)] (sS ω S++ex)=some (.pv (.bytes (ct z ns)),sS ω S++ex):=
 iQ (eK rfl (fC (fF (jN rfl rfl (dM rfl rfl) (Qy ω S hi rfl []))))) rfl rfl
theorem aPq(ω:Dk)(S:List It){i:Nat}{es:List En}(hi:S[i]? =some (.tree es))(ex:List SO):OA [.ref 5,.pv (aN i)] (sS ω S++ex)=some (.pv (xT es),sS ω S++ex):=
 iQ (eK rfl (fC (fF (jN rfl rfl (dM rfl rfl) (Qy ω S hi rfl []))))) rfl rfl
noncomputable def eD(a b c:OE):PV:=.dct .bytes ((eS a b c).map fun e=>.bytes [e.1]) ((eS a b c).map dJ)
theorem Me(ω:Dk)(S:List It)(hi:S[i]? =some (.tree (eS a b c)))(ex:List SO):EL [.ref 5,.pv (aN i)] (sS ω S++ex)=some (.pv (eD a b c),sS ω S++ex):=by
 have h1:ge MQ (mc 11 OA (aA 0) (ar [(aA 1)])) ⟨[some (.ref 5),some (.pv (aN i)),some (.ref 8),none],sS ω S++[.dict .bytes [] []]⟩=some (.pv (.lst ((eS a b c).map dJ)),⟨[some (.ref 5),some (.pv (aN i)),some (.ref 8),none],sS ω S++[.dict .bytes [] []]⟩):=
  eX (jN rfl rfl (iL rfl) (aPq ω S hi _)) rfl
 have h2:∃ o,fM ((eS a b c).map dJ) (fun x=>bd (nT 3 x) fun _=>bl [(gH fT (aA 3) (aA 2) (ge tX (aA 3)))]) ⟨[some (.ref 5),some (.pv (aN i)),some (.ref 8),none],sS ω S++[.dict .bytes [] []]⟩=some (.next,⟨[some (.ref 5),some (.pv (aN i)),some (.ref 8),o],sS ω S++[.dict .bytes ((eS a b c).map fun e=>.bytes [e.1]) ((eS a b c).map dJ)]⟩):=by
  clear hi h1
  rcases a with _ | ⟨x,j⟩ <;> rcases b with _ | ⟨y,k⟩ <;> rcases c with _ | ⟨z,l⟩
  ·exact⟨none,by kernel_rfl⟩
  ·exact⟨some (.pv (dJ (99,z,l+1))),by kernel_rfl⟩
  ·exact⟨some (.pv (dJ (98,y,k+1))),by kernel_rfl⟩
  ·exact⟨some (.pv (dJ (99,z,l+1))),by kernel_rfl⟩
  ·exact⟨some (.pv (dJ (97,x,j+1))),by kernel_rfl⟩
  ·exact⟨some (.pv (dJ (99,z,l+1))),by kernel_rfl⟩
  ·exact⟨some (.pv (dJ (98,y,k+1))),by kernel_rfl⟩
  ·exact⟨some (.pv (dJ (99,z,l+1))),by kernel_rfl⟩
 obtain⟨o,h2⟩:=h2
 exact iQ (eK (st:=⟨[some (.ref 5),some (.pv (aN i)),some (.ref 8),o],sS ω S++[.dead]⟩) rfl (aO rfl (aO (iD rfl (cY ((mT h1 rfl).trans h2))) (fC (fF rfl))))) rfl rfl
noncomputable def kt(e:Nat×Int):PV:=.tup [.bytes [e.1],.int e.2]
noncomputable def wd(p:Nat)(A:List Int):List PV:=A.map fun w=>kt (p,w)
noncomputable def uJ(A:List Int):Prop:=A= []∨(∃ w,A= [w])∨A= [0,1]
noncomputable def PY(n i j:Nat):Option Bool:=match bX i n,bX j n with
 |true,true=>some (bX i j)
 |_,_=>none
theorem HQ(h:b≤a):bX a b=false:=by
 cases e:bX a b with
 |false=>rfl
 |true=>exact absurd (bR e) (Nat.not_lt.mpr h)
theorem aHX(hs:∀ x∈ks,lt x x=some false)(h:ks.Pairwise fun a b=>lt a b=some true∧lt b a=some false):BZ lt ks=PY ks.length:=by
 funext i j
 unfold BZ PY
 rcases GV i ks.length with hi | hi
 ·rw [tP hi,show bX i ks.length=true from DC hi]
  rcases GV j ks.length with hj | hj
  ·rw [tP hj,show bX j ks.length=true from DC hj]
   show lt ks[i] ks[j]=some (bX i j)
   have p:=List.pairwise_iff_getElem.mp h
   rcases Nat.lt_trichotomy i j with q | rfl | q
   ·rw [(p i j hi hj q).1,show bX i j=true from DC q]
   ·rw [hs _ (List.getElem_mem _),HQ (cZ i)]
   ·rw [(p j i hj hi q).2,HQ (DD q)]
  ·rw [TG hj,HQ hj]
 ·rw [TG hi,HQ hi]
theorem aJx(xs:List PV):∀ pre:List PV,uI (pre++xs) (xZ pre.length xs.length)=some xs:=by
 induction xs with
 |nil=>exact fun _=>rfl
 |cons x xs ih=>
  intro pre
  have:=ih (pre++[x])
  rw [gP,fH] at this
  show(match (pre++x::xs)[pre.length]? with | some y=>(match uI (pre++x::xs) (xZ (pre.length+1) xs.length) with | some r=>some (y::r) | none=>none) | none=>none)=_
  rw [CW (cZ _),GX]
  show(match uI (pre++([x]++xs)) (xZ (pre.length+ [x].length) xs.length) with | some r=>some (x::r) | none=>none)=_
  rw [this]
theorem aHi:∀ n:Fin 7,(vM (PY n.val) (zL n.val)).map GF=some (xZ 0 n.val):=by decide+kernel
theorem aOK{ks xs:List PV}(hs:∀ x∈ks,lt x x=some false)(h:ks.Pairwise fun a b=>lt a b=some true∧lt b a=some false)(hl:xs.length=ks.length)(h6:ks.length < 7):tH lt ks xs=some xs:=by
 obtain⟨r,e,e'⟩:∃ r,vM (PY ks.length) (zL ks.length)=some r∧r.toList=xZ 0 ks.length:=Option.map_eq_some_iff.mp (aHi ⟨ks.length,h6⟩)
 unfold tH
 refine(aHX hs h).symm▸(hl).symm▸(e).symm▸(show bX ks.length 64=true from DC (aP h6 (by decide))).symm▸?_
 cases bX ks.length 2 with
 |true=>rfl
 |false=>
  show uI xs r.toList=_
  refine(e').symm▸(hl)▸?_
  exact aJx xs []
theorem JG(a b:Nat×Int):rR (kt a) (kt b)=some (match bV a.1 b.1 with | true=>decide (a.2 < b.2) | false=>oX [a.1] [b.1]):=by
 show some (match (match bV a.1 b.1 with | true=>true | false=>false) with | true=>decide (a.2 < b.2) | false=>oX [a.1] [b.1])=_
 cases bV a.1 b.1 <;> rfl
theorem aHx(p:Nat)(w:Int):rR (kt (p,w)) (kt (p,w))=some false:=by
 rw [JG,show bV p p=true from DB p,decide_eq_false (Int.lt_irrefl w)]
theorem Ys:∀ x∈wd p A,rR x x=some false:=fun x hx=>by
 obtain⟨w,_,rfl⟩:=List.mem_map.mp hx;exact aHx p w
theorem Ge{A:List Int}(h:uJ A):(wd p A).Pairwise fun a b=>rR a b=some true∧rR b a=some false:=by
 rcases h with rfl | ⟨w,rfl⟩ | rfl
 ·exact .nil
 ·exact List.pairwise_singleton ..
 ·refine .cons (fun x hx=> ?_) (List.pairwise_singleton ..)
  cases List.mem_singleton.mp hx
  rw [JG,JG,show bV p p=true from DB p]
  exact⟨rfl,rfl⟩
theorem Gb(h:bV p q=false∧bV q p=false∧oX [p] [q]=true∧oX [q] [p]=false):∀ x∈wd p A,∀ y∈wd q B,rR x y=some true∧rR y x=some false:=fun x hx y hy=>by
 obtain⟨w,_,rfl⟩:=List.mem_map.mp hx
 obtain⟨v,_,rfl⟩:=List.mem_map.mp hy
 rw [JG,JG,h.1,h.2.1,h.2.2.1,h.2.2.2];exact⟨rfl,rfl⟩
theorem FV(h:uJ A):A.length≤2:=by
 rcases h with rfl | ⟨w,rfl⟩ | rfl <;> exact bR rfl
theorem Ip{β:Type}{f:PV→Option β}(h:∀ x∈l,∃ y,f x=some y):∃ ys,lS f l=some ys:=by
 induction l with
 |nil=>exact⟨[],rfl⟩
 |cons x l ih=>
  obtain⟨y,e⟩:=h x (.head _)
  obtain⟨ys,e'⟩:=ih fun z hz=>h z (.tail _ hz)
  refine⟨y::ys,?_⟩
  unfold lS
  rw [e,e']
theorem aON(hA:uJ A)(hB:uJ B)(hC:uJ C){xs:List PV}(hx:xs.length=A.length+B.length+C.length):(∃ l,lS uD (wd 97 A++wd 98 B++wd 99 C)=some l)∧tH rR (wd 97 A++wd 98 B++wd 99 C) xs=some xs:=by
 have hl:(wd 97 A++wd 98 B++wd 99 C).length=A.length+B.length+C.length:=by
  rw [fH,fH];unfold wd;rw [bT,bT,bT]
 refine⟨Ip fun x hx=> ?_,aOK (fun x hx=> ?_) (List.pairwise_append.mpr ⟨List.pairwise_append.mpr ⟨Ge hA,Ge hB,Gb (by decide)⟩,Ge hC,fun x hx=>(List.mem_append.mp hx).elim (Gb (by decide) x) (Gb (by decide) x)⟩) (hx.trans hl.symm) ?_⟩
 ·obtain⟨p,w,rfl⟩:∃ p w,x=kt (p,w):=by
   rcases List.mem_append.mp hx with hx | hx
   ·rcases List.mem_append.mp hx with hx | hx <;> (obtain⟨w,_,rfl⟩:=List.mem_map.mp hx;exact⟨_,_,rfl⟩)
   ·obtain⟨w,_,rfl⟩:=List.mem_map.mp hx;exact⟨_,_,rfl⟩
  exact⟨_,rfl⟩
 ·rcases List.mem_append.mp hx with hx | hx
  ·rcases List.mem_append.mp hx with hx | hx <;> exact Ys x hx
  ·exact Ys x hx
 ·rw [hl];exact TQ (mM (mM (FV hA) (FV hB)) (FV hC))
theorem aHw{xs:List PV}:(∀ x∈xs,∀ ex,f [.pv x] ex=some (.pv (k x),ex))→FE f xs st=some (xs.map k,st):=by
 induction xs with
 |nil=>exact fun _=>rfl
 |cons x xs ih=>exact fun h=>(aJ (DT (h x (.head _) _))).trans ((aJ (ih fun y hy=>h y (.tail _ hy))).trans rfl)
theorem Xe{xs:List PV}(hs:mB st a=some xs)(hk:∀ x∈xs,∀ ex,f [.pv x] ex=some (.pv (k x),ex))(hA:uJ A)(hB:uJ B)(hC:uJ C)(he:xs.map k=wd 97 A++wd 98 B++wd 99 C):
  CO f a st=some (.ref st.cells.length,{st with cells:=st.cells++[.list xs]}):=by
 have hl:xs.length=A.length+B.length+C.length:=by
  rw [←bT,he,fH,fH];unfold wd;rw [bT,bT,bT]
 have h60:bX xs.length 60=true:=DC (by rw [hl];exact sI (mM (mM (FV hA) (FV hB)) (FV hC)) (bR rfl))
 obtain⟨⟨l,h1⟩,h2⟩:=aON hA hB hC hl
 rw [←he] at h1 h2
 show iI a _ _ st=_
 unfold iI
 rw [hs]
 show gd (bX xs.length 60) _ st=_
 rw [h60]
 exact(aJ (aHw hk)).trans ((onSome_eq h1).trans ((onSome_eq h2).trans rfl))
theorem Fx(h:m st=some (.pv (.bool true),st₁)):AA m ms st=ms st₁:=(aJ h).trans ((aJ rfl).trans rfl)
theorem WR(h:m₁ st=some (a,st₁))(h':m₂ st₁=some (b,st₂))(hf:f a b st₂=some (r,st₃)):c2 m₁ m₂ f st=some (.pv (.bool r),st₃):=(aJ h).trans ((aJ h').trans ((aJ hf).trans rfl))
noncomputable def oP(p:Nat)(o:OE):PV:=match o with
 |some (x,i)=>dJ (p,x,i+1)
 |none=>.none
noncomputable def one(o n:OE):Prop:=o≠none∨n≠none
theorem XW(i j:Nat):eqL (dI i) (dI j)=decide (i=j):=by
 by_cases h:i=j
 ·subst h;rw [jL.mpr rfl];simp
 ·rw [aFf fun e=>h (QI e)];simp [h]
theorem aAQ(p:Nat)(o n:OE)(h:one o n)(ex:List SO):IJ [.pv (oP p o),.pv (oP p n)] ex=some (.pv (.bool (decide (o=n))),ex):=by
 rcases o with _ | ⟨x,i⟩ <;> rcases n with _ | ⟨y,j⟩
 ·rcases h with h | h <;> exact absurd rfl h
 ·kernel_rfl
 ·kernel_rfl
 ·have e:∀ b,decide (x=y∧i=j)=b→decide (some (x,i)=some (y,j))=b:=by rintro b rfl;simp
  by_cases hxy:x=y
  ·subst hxy
   refine mW (eK (st:=⟨[some (.pv (dJ (p,x,i+1))),some (.pv (dJ (p,x,j+1)))],[]⟩) rfl (fC (fF ((Fx rfl).trans ((Fx (st₁:=⟨[some (.pv (dJ (p,x,i+1))),some (.pv (dJ (p,x,j+1)))],[]⟩) rfl).trans ((Fx (st₁:=⟨[some (.pv (dJ (p,x,i+1))),some (.pv (dJ (p,x,j+1)))],[]⟩) (by cases x <;> rfl)).trans (WR rfl rfl ?_))))))) rfl
   show some (eqL (dI (i+1)) (dI (j+1)),_)=_
   rw [XW,e _ rfl]
   simp
  ·refine(e false (by simp [hxy])).symm▸?_
   cases x <;> cases y <;> first | exact absurd rfl hxy | kernel_rfl
theorem aBB(p:Nat)(o n:OE)(h:one o n)(ex:List SO):OJ [.pv (.bytes [p]),.pv (oP p o),.pv (oP p n)] ex=some (.pv (.lst [cp (p,o,n)]),ex):=by
 rcases o with _ | ⟨x,i⟩ <;> rcases n with _ | ⟨y,j⟩
 ·rcases h with h | h <;> exact absurd rfl h
 ·kernel_rfl
 ·kernel_rfl
 ·cases x <;> cases y <;> kernel_rfl
noncomputable def Lq:List (M Fl):=[(bA 16 (cf YV (ar [(aA 9),(aA 12)]))),
 (bJ (tv (aA 4)) (bl [(bA 17 (AA (c2 (aA 14) kN qG) (c2 (ge oM (aA 14)) FC cN))),
 (bA 18 (AA (c2 (aA 15) kN qG) (c2 (ge oM (aA 15)) FC cN))),
 (bJ (hJ (tv (aA 17)) (hJ (tv (aA 18)) (rt false))) (bl [(ex (bL cT dH (aA 6) (aZ (ar [(jB (tv (aA 17)) (ge qX (aA 14)) kN),(jB (tv (aA 18)) (ge qX (aA 15)) kN),(aA 16)]) cO)))]) (bl [])),
 (bA 14 (jB (tv (aA 17)) kN (aA 14))),
 (bA 15 (jB (tv (aA 18)) kN (aA 15)))]) (bl []))]
noncomputable def XO:M Fl:=bl ((oQ [15,14] (ar [(bL cX dY (aA 10) (aA 12)),(bL cX dY (aA 11) (aA 12))]))::
 (bJ (tv (cf IJ (ar [(aA 14),(aA 15)]))) (bl [(rt .cont)]) (bl []))::(Lq++
 [(ex (bL cT BW (aA 5) (cf OJ (ar [(aA 16),(aA 14),(aA 15)]))))]))
noncomputable def oS(i j:Nat)(D E N:PV)(o12 o14 o15 o16 o17 o18:Option SV)(cs:List SO)(F:List PV)(gb:List SO):St:=
 ⟨[some (.ref 5),some (.pv (aN i)),some (.pv (aN j)),some (.pv (.bytes [])),some (.pv (.bool true)),some (.ref 8),some (.ref 9),some (.pv (aN i)),some (.pv (aN j)),some (.pv (.bytes [])),some (.pv D),some (.pv E),o12,some (.pv N),o14,o15,o16,o17,o18,none,none,none,none,none,none,none],cs++.list F::.list []::gb⟩
inductive Zr(i:Nat)(j:Nat)(p:Nat)(o:OE)(n:OE)(D:PV)(E:PV)(N:PV)(o12:Option SV)(o14:Option SV)(o15:Option SV)(o16:Option SV)(o17:Option SV)(o18:Option SV)(ω:Dk)(K:List (List Nat))(T:List PV)(F:List PV)(gb:List SO):Prop
 |mk (q12:_) (q14:_) (q15:_) (q16:_) (q17:_) (q18:_) (f:_) (hh0:(f= .next∨f= .cont)) (hh1:(bd (nT 12 (.bytes [p])) fun _=>XO) (oS i j D E N o12 o14 o15 o16 o17 o18 (s8 ω K T) F gb)=some (f,oS i j D E N q12 q14 q15 q16 q17 q18 (s8 ω K T) (F++(dG p o n).map cp) gb))
theorem aEp(i j p:Nat)(o n:OE)(h:one o n)(D E N:PV)(hD:cX (.pv D)=fun st=>some ((),st))(hE:cX (.pv E)=fun st=>some ((),st))(gD:∀ st,dY (.pv D) (.pv (.bytes [p])) st=some (.pv (oP p o),st))(gE:∀ st,dY (.pv E) (.pv (.bytes [p])) st=some (.pv (oP p n),st))
  (o12 o14 o15 o16 o17 o18:Option SV) (ω:Dk) (K:List (List Nat)) (T:List PV) (F:List PV) (hF:F.length≤9) (gb:List SO):Zr i j p o n D E N o12 o14 o15 o16 o17 o18 ω K T F gb:=by
 have e1:(oQ [15,14] (ar [(bL cX dY (aA 10) (aA 12)),(bL cX dY (aA 11) (aA 12))])) (oS i j D E N (some (.pv (.bytes [p]))) o14 o15 o16 o17 o18 (s8 ω K T) F gb)=some (.next,oS i j D E N (some (.pv (.bytes [p]))) (some (.pv (oP p o))) (some (.pv (oP p n))) o16 o17 o18 (s8 ω K T) F gb):=
  DQ (dM ((qL rfl (by rw [hD]) rfl).trans (gD _)) ((qL rfl (by rw [hE]) rfl).trans (gE _))) rfl
 have e2:tv (cf IJ (ar [(aA 14),(aA 15)])) (oS i j D E N (some (.pv (.bytes [p]))) (some (.pv (oP p o))) (some (.pv (oP p n))) o16 o17 o18 (s8 ω K T) F gb)=some (decide (o=n),oS i j D E N (some (.pv (.bytes [p]))) (some (.pv (oP p o))) (some (.pv (oP p n))) o16 o17 o18 (s8 ω K T) F gb):=
  (aJ (gK (dM rfl rfl) (aAQ p o n h _))).trans rfl
 cases hon:decide (o=n) with
 |true=>
  have ec:dG p o n= []:=by unfold dG;rw [hon]
  replace e2:=(hon)▸e2
  refine⟨some (.pv (.bytes [p])),some (.pv (oP p o)),some (.pv (oP p n)),o16,o17,o18,.cont,.inr rfl,?_⟩
  refine(ec).symm▸(show F++List.map cp []=F from gQ _).symm▸?_
  exact(aJ rfl).trans (aO e1 (DR (iD e2 rfl)))
 |false=>
  have ec:dG p o n= [(p,o,n)]:=by unfold dG;rw [hon]
  rw [hon] at e2
  have e3:bl Lq (oS i j D E N (some (.pv (.bytes [p]))) (some (.pv (oP p o))) (some (.pv (oP p n))) o16 o17 o18 (s8 ω K T) F gb)=some (.next,oS i j D E N (some (.pv (.bytes [p]))) (some (.pv (oP p o))) (some (.pv (oP p n))) (some (.pv (.bytes [p]))) (some (.pv (.bool false))) (some (.pv (.bool false))) (s8 ω K T) F gb):=by
   clear hon e2 e1 gD gE
   rcases o with _ | ⟨x,i'⟩ <;> rcases n with _ | ⟨y,j'⟩
   ·rcases h with h | h <;> exact absurd rfl h
   ·cases y <;> kernel_rfl
   ·cases x <;> kernel_rfl
   ·cases x <;> cases y <;> kernel_rfl
  refine⟨some (.pv (.bytes [p])),some (.pv (oP p o)),some (.pv (oP p n)),some (.pv (.bytes [p])),some (.pv (.bool false)),some (.pv (.bool false)),.next,.inl rfl,?_⟩
  rw [ec]
  exact(aJ rfl).trans (aO e1 (aO (eY e2 rfl) ((NA e3).trans (cY (sQ ((qL rfl rfl (gK (nH rfl (dM rfl rfl)) (aBB p o n h _))).trans ((Mq rfl (ub (lM hF 1) rfl)).trans rfl)))))))
section
variable{k:Nat}{c:M Bool}{b:M Fl}{st st₁ st₂:St}{f:Fl}
theorem Yu(hc:c st=some (true,st₁))(hb:b st₁=some (f,st₂))(hf:f= .next∨f= .cont):lA (k+1) c b st=lA k c b st₂:=by
 refine(aJ hc).trans ((aJ hb).trans ?_)
 rcases hf with rfl | rfl <;> rfl
theorem Yt(hc:c st=some (false,st₁)):lA (k+1) c b st=some (.next,st₁):=(aJ hc).trans rfl
end
inductive CF:Nat→Int→PV→Prop
 |d (p:Nat) (om:Int) (oi sc:PV):CF p 0 (hO [68] om oi (.bytes [p]) 0 .none .none sc)
 |a (p:Nat) (nm:Int) (ni sc:PV):CF p 1 (hO [65] 0 .none .none nm ni (.bytes [p]) sc)
 |m (p:Nat) (om:Int) (oi:PV) (nm:Int) (ni sc:PV):CF p 1 (hO [77] om oi (.bytes [p]) nm ni (.bytes [p]) sc)
noncomputable def vL(v:PV):PV:=match v with
 |.obj 4 [.str w,_,_,op,_,_,np,_]=>.tup [match np with | .none=>op | _=>np,.int (match eqL w [68] with | true=>0 | false=>1)]
 |_=>.none
theorem CF.k(h:CF p w v):vL v=kt (p,w):=by cases h <;> rfl
theorem CF.order(h:CF p w v)(ex:List SO):BK [.pv v] ex=some (.pv (vL v),ex):=by
 cases h <;> kernel_rfl
noncomputable def od(c:Ch):Int:=match c.2.1,c.2.2 with
 |some _,none=>0
 |_,_=>1
theorem EA(h:one o n):CF p (od (p,o,n)) (cp (p,o,n)):=by
 rcases o with _ | ⟨x,i⟩ <;> rcases n with _ | ⟨y,j⟩
 ·rcases h with h | h <;> exact absurd rfl h
 ·exact .a ..
 ·exact .d ..
 ·exact .m ..
theorem rF(p:Nat)(o n:OE):(o=n∧dG p o n= [])∨(one o n∧o≠n∧dG p o n= [(p,o,n)]):=by
 unfold dG
 by_cases h:o=n
 ·exact .inl ⟨h,by rw [decide_eq_true h]⟩
 ·refine .inr ⟨?_,h,by rw [decide_eq_false h]⟩
  cases o with
  |none=>cases n with
   |none=>exact absurd rfl h
   |some=>exact .inr (by simp)
  |some=>exact .inl (by simp)
theorem XE(p:Nat)(o n:OE):uJ ((dG p o n).map od):=by
 rcases rF p o n with⟨_,e⟩ | ⟨_,_,e⟩ <;> rw [e]
 ·exact .inl rfl
 ·exact .inr (.inl ⟨_,rfl⟩)
theorem XF(p:Nat)(o n:OE):((dG p o n).map cp).map vL=wd p ((dG p o n).map od):=by
 rcases rF p o n with⟨_,e⟩ | ⟨h,_,e⟩ <;> rw [e]
 ·rfl
 ·show [vL (cp (p,o,n))]=_
  rw [(EA h).k];rfl
theorem HW(p:Nat)(o n:OE):∀ v∈(dG p o n).map cp,∃ w,CF p w v:=by
 rcases rF p o n with⟨_,e⟩ | ⟨h,_,e⟩ <;> rw [e]
 ·intro v hv;cases hv
 ·intro v hv
  have:v=cp (p,o,n):=by simpa using hv
  refine(this).symm▸?_
  exact⟨_,EA h⟩
noncomputable def dif(a b c a' b' c':OE):List Ch:=dG 97 a a'++dG 98 b b'++dG 99 c c'
noncomputable def pn(p:Nat)(o n:OE):List Nat:=match o,n with
 |none,none=>[]
 |_,_=>[p]
noncomputable def nms(a b c a' b' c':OE):List Nat:=pn 97 a a'++pn 98 b b'++pn 99 c c'
noncomputable def un(a b c a' b' c':OE):List Nat:=(eS a b c).map (·.1)++((eS a' b' c').map (·.1)).filter fun p=> !((eS a b c).map (·.1)).any (bV p)
noncomputable def pL(l:List Nat):List PV:=l.map fun p=>.bytes [p]
noncomputable def nb(x y z:Bool):List Nat:=(match x with | true=>[97] | false=>[])++(match y with | true=>[98] | false=>[])++(match z with | true=>[99] | false=>[])
theorem Mc(a b c:OE):(eS a b c).map (·.1)=nb a.isSome b.isSome c.isSome:=by
 cases a <;> cases b <;> cases c <;> rfl
theorem Dj(p:Nat)(o n:OE):pn p o n=match o.isSome || n.isSome with | true=>[p] | false=>[]:=by
 cases o <;> cases n <;> rfl
noncomputable def Sx(x y z x' y' z':Bool):List Nat:=nb x y z++(nb x' y' z').filter fun p=> !(nb x y z).any (bV p)
noncomputable def nbL(x y z x' y' z':Bool):Option (List PV):=tH FG (pL (Sx x y z x' y' z')) (pL (Sx x y z x' y' z'))
noncomputable def nbR(x y z x' y' z':Bool):Option (List PV):=some (pL (nb (x || x') (y || y') (z || z')))
theorem aOM(x y z x' y' z':Bool):nbL x y z x' y' z'=nbR x y z x' y' z':=by
 cases x <;> cases y <;> cases z <;> cases x' <;> cases y' <;> cases z' <;> kernel_rfl
theorem aEC(p:Nat)(l:List En):(dR (l.map fun e=>PV.bytes [e.1]) (l.map dJ) (.bytes [p])).isNone= !(l.map (·.1)).any (bV p):=by
 induction l with
 |nil=>rfl
 |cons e l ih=>
  show(match (match bV e.1 p with | true=>true | false=>false) with | true=>some (dJ e) | false=>dR (l.map fun(e:En)=>PV.bytes [e.1]) (l.map dJ) (.bytes [p])).isNone= !(bV p e.1 || (l.map (·.1)).any (bV p))
  refine(show bV p e.1=bV e.1 p from Bool.eq_iff_iff.mpr (by rw [Nat.beq_eq,Nat.beq_eq,eq_comm])).symm▸?_
  cases bV e.1 p with
  |true=>rfl
  |false=>exact ih
theorem aIQ:fE (.pv (.bytes k)) (.pv (.dct .bytes ks vs)) st=some ((dR ks vs (.bytes k)).isNone,st):=by
 have h3:zK (.pv (.bytes k)) (.pv (.dct .bytes ks vs)) st=some ((dR ks vs (.bytes k)).isSome,st):=rfl
 exact(mP rfl).trans ((mP rfl).trans (pP ((aJ h3).trans (by cases dR ks vs (.bytes k) <;> rfl))))
theorem aAV:∃ r,lS sP (pL l)=some r:=Ip fun x hx=>by
 obtain⟨p,_,rfl⟩:=List.mem_map.mp hx;exact⟨_,rfl⟩
section
variable{loc:List (Option SV)}{cs:List SO}
theorem aOA(h:cs[j]? =some (.list (pL l)))(hl:l.length≤1000000)(e:tH FG (pL l) (pL l)=some ys):nR (.ref j) ⟨loc,cs⟩=some (.ref cs.length,⟨loc,cs++[.list ys]⟩):=by
 obtain⟨r,hr⟩:=aAV
 unfold nR KC iI
 rw [show mB ⟨loc,cs⟩ (.ref j)=some (pL l) by unfold mB;dsimp only;rw [h]]
 show dQ (pL l).length _ _=_
 unfold dQ
 rw [show(pL l).length=l.length from bT ..,decide_eq_true hl]
 exact(onSome_eq hr).trans ((onSome_eq e).trans rfl)
theorem aAO{xs ys:List PV}(h:xs.length+ys.length≤1000000):bP (.pv (.lst xs)) (.pv (.lst ys)) ⟨loc,cs⟩=some (.ref cs.length,⟨loc,cs++[.list (xs++ys)]⟩):=by
 show gd (decide (xs.length+ys.length≤1000000)) (fun st=>some (SV.ref st.cells.length,⟨st.loc,st.cells++[.list (xs++ys)]⟩)) _=_
 rw [decide_eq_true h];rfl
theorem NS(a b c:OE):(eS a b c).length≤3:=FF (FF (IA _ _) (IA _ _)) (IA _ _)
theorem aIE(h10:loc[10]? =some (some (.pv (eD a b c))))(h11:loc[11]? =some (some (.pv (eD a' b' c')))):
  ge cE (ge nR (b2 (eH dN (aA 10) [none,none] (nT 1) (rt true) (aA 1)) (eH dN (aA 11) [none,none,some 10] (nT 1) (t2 (aA 1) (aA 2) fE) (aA 1)) bP)) ⟨loc,cs⟩=
   some (.pv (.lst (pL (nms a b c a' b' c'))),⟨loc,cs++[.list (pL (un a b c a' b' c')),.dead]⟩):=by
 have g10:aA 10 ⟨loc,cs⟩=some (.pv (eD a b c),⟨loc,cs⟩):=by unfold aA;dsimp only;rw [h10]
 have g11:aA 11 ⟨loc,cs⟩=some (.pv (eD a' b' c'),⟨loc,cs⟩):=by unfold aA;dsimp only;rw [h11]
 let k1:=(eS a b c).map fun e=>PV.bytes [e.1]
 let k2:=(eS a' b' c').map fun e=>PV.bytes [e.1]
 obtain⟨o,e1⟩:=yZ (g:=nT 1) (t:=rt true) (m:=aA 1) (fun o=>⟨[none,o],cs⟩) (fun _=>true) id k1 (fun _ _=>rfl) (fun _ _=>rfl) (fun _ _ _=>rfl) none
 rw [List.filter_eq_self.mpr fun _ _=>rfl,GQ] at e1
 obtain⟨o',e2⟩:=yZ (g:=nT 1) (t:=t2 (aA 1) (aA 2) fE) (m:=aA 1) (fun o=>⟨[none,o,some (.pv (eD a b c))],cs⟩) (fun x=>match x with | .bytes [p]=> !((eS a b c).map (·.1)).any (bV p) | _=>false) id k2 (fun _ _=>rfl) (fun x hx=>by
  obtain⟨e,_,rfl⟩:=List.mem_map.mp hx
  exact(jO rfl rfl).trans (aIQ.trans (by rw [aEC]))) (fun _ _ _=>rfl) none
 have eu:k1++((k2.filter fun x=>match x with | .bytes [p]=> !((eS a b c).map (·.1)).any (bV p) | _=>false).map id)=pL (un a b c a' b' c'):=by
  unfold un pL
  rw [GQ,cW,iY,TB,TB,iY]
  rfl
 have hl:(un a b c a' b' c').length≤6:=FF (j:=3) (by rw [bT];exact NS a b c) (aP (Hh ..) (by rw [bT];exact NS a' b' c'))
 have hs:tH FG (pL (un a b c a' b' c')) (pL (un a b c a' b' c'))=some (pL (nms a b c a' b' c')):=by
  unfold un nms
  rw [Mc,Mc,Dj,Dj,Dj]
  exact aOM ..
 have ea:b2 (eH dN (aA 10) [none,none] (nT 1) (rt true) (aA 1)) (eH dN (aA 11) [none,none,some 10] (nT 1) (t2 (aA 1) (aA 2) fE) (aA 1)) bP ⟨loc,cs⟩=some (.ref cs.length,⟨loc,cs++[.list (pL (un a b c a' b' c'))]⟩):=by
  refine(vC (tZ g10 rfl ?_ e1) (tZ g11 rfl ?_ (Eq.trans ?_ e2))).trans ?_
  ·rw [bT];exact aP (NS a b c) (by decide)
  ·rw [bT];exact aP (NS a' b' c') (by decide)
  ·rw [show pR [none,none,some 10] loc= [none,none,some (.pv (eD a b c))] by show [none,none,(loc[10]?).join]=_;rw [h10];rfl]
  ·rw [←eu]
   exact aAO (by rw [←fH,eu];exact aP ((bT ..).symm▸hl:(pL (un a b c a' b' c')).length≤6) (by decide))
 refine eX (eX ea (aOA zI (aP hl (by decide)) hs)) (OS.trans ?_)
 rw [gP];rfl
end
theorem aIC(i j:Nat)(a b c a' b' c':OE)(N:PV)(ω:Dk)(K:List (List Nat))(T:List PV):
  ge cE (ge nR (b2 (eH dN (aA 10) [none,none] (nT 1) (rt true) (aA 1)) (eH dN (aA 11) [none,none,some 10] (nT 1) (t2 (aA 1) (aA 2) fE) (aA 1)) bP)) (⟨(oS i j (eD a b c) (eD a' b' c') N none none none none none none [] [] []).loc.set 13 none,s8 ω K T++[.list [],.list []]⟩)=
   some (.pv (.lst (pL (nms a b c a' b' c'))),⟨(oS i j (eD a b c) (eD a' b' c') N none none none none none none [] [] []).loc.set 13 none,s8 ω K T++[.list [],.list [],.list (pL (un a b c a' b' c')),.dead]⟩):=
 (aIE rfl rfl).trans (congrArg (fun l=>some (_,(⟨_,l⟩:St))) (gP ..))
theorem Lu(a b c:OE):(∀ st,dY (.pv (eD a b c)) (.pv (.bytes [97])) st=some (.pv (oP 97 a),st))∧(∀ st,dY (.pv (eD a b c)) (.pv (.bytes [98])) st=some (.pv (oP 98 b),st))∧(∀ st,dY (.pv (eD a b c)) (.pv (.bytes [99])) st=some (.pv (oP 99 c),st)):=by
 rcases a with _ | ⟨_,_⟩ <;> rcases b with _ | ⟨_,_⟩ <;> rcases c with _ | ⟨_,_⟩ <;> exact⟨fun _=>rfl,fun _=>rfl,fun _=>rfl⟩
noncomputable def XN(l:List En)(p:Nat):OE:=match l.find? fun e=>bV e.1 p with
 |some e=>some (e.2.1,e.2.2 - 1)
 |none=>none
theorem Ls(a b c:OE):XN (eS a b c) 97=a∧XN (eS a b c) 98=b∧XN (eS a b c) 99=c:=by
 cases a <;> cases b <;> cases c <;> exact⟨rfl,rfl,rfl⟩
theorem aEL{a b c a' b' c':OE}(h:eS a b c=eS a' b' c'):a=a'∧b=b'∧c=c':=by
 obtain⟨h1,h2,h3⟩:=Ls a b c
 rw [h] at h1 h2 h3
 obtain⟨g1,g2,g3⟩:=Ls a' b' c'
 exact⟨h1.symm.trans g1,h2.symm.trans g2,h3.symm.trans g3⟩
theorem aJA(p:Nat)(o n:OE):(o=none∧n=none∧pn p o n= [])∨(one o n∧pn p o n= [p]):=by
 cases o <;> cases n
 ·exact .inl ⟨rfl,rfl,rfl⟩
 ·exact .inr ⟨.inr (by simp),rfl⟩
 ·exact .inr ⟨.inl (by simp),rfl⟩
 ·exact .inr ⟨.inl (by simp),rfl⟩
theorem yY(p:Nat)(o n:OE):(dG p o n).length≤1:=by
 rcases rF p o n with⟨_,e⟩ | ⟨_,_,e⟩ <;> rw [e] <;> simp
inductive Zq(i:Nat)(j:Nat)(p:Nat)(o:OE)(n:OE)(D:PV)(E:PV)(N:PV)(o12:Option SV)(o14:Option SV)(o15:Option SV)(o16:Option SV)(o17:Option SV)(o18:Option SV)(ω:Dk)(K:List (List Nat))(T:List PV)(F:List PV)(gb:List SO)(rest:List PV):Prop
 |mk (q12:_) (q14:_) (q15:_) (q16:_) (q17:_) (q18:_) (hh0:fM (pL (pn p o n)++rest) (fun x=>bd (nT 12 x) fun _=>XO) (oS i j D E N o12 o14 o15 o16 o17 o18 (s8 ω K T) F gb)=fM rest (fun x=>bd (nT 12 x) fun _=>XO) (oS i j D E N q12 q14 q15 q16 q17 q18 (s8 ω K T) (F++(dG p o n).map cp) gb))
theorem XM(i j p:Nat)(o n:OE)(D E N:PV)(hD:cX (.pv D)=fun st=>some ((),st))(hE:cX (.pv E)=fun st=>some ((),st))(gD:∀ st,dY (.pv D) (.pv (.bytes [p])) st=some (.pv (oP p o),st))(gE:∀ st,dY (.pv E) (.pv (.bytes [p])) st=some (.pv (oP p n),st))
  (o12 o14 o15 o16 o17 o18:Option SV) (ω:Dk) (K:List (List Nat)) (T:List PV) (F:List PV) (hF:F.length≤9) (gb:List SO) (rest:List PV):Zq i j p o n D E N o12 o14 o15 o16 o17 o18 ω K T F gb rest:=by
 rcases aJA p o n with⟨rfl,rfl,e⟩ | ⟨h,ep⟩
 ·exact⟨o12,o14,o15,o16,o17,o18,by rw [show dG p none none= [] from rfl,List.map_nil,gQ];rfl⟩
 ·obtain⟨q12,q14,q15,q16,q17,q18,f,hf,e⟩:=aEp i j p o n h D E N hD hE gD gE o12 o14 o15 o16 o17 o18 ω K T F hF gb
  refine⟨q12,q14,q15,q16,q17,q18,?_⟩
  refine(ep).symm▸?_
  rcases hf with rfl | rfl
  ·exact gR e
  ·exact IM e
theorem eq_bytes(k l:List Nat)(st:St):cN (.pv (.bytes k)) (.pv (.bytes l)) st=some (eqL k l,st):=rfl
theorem aEx(a b c:OE):dif a b c a b c= []:=by
 unfold dif dG
 simp
noncomputable def dE(i j:Nat)(l r h:Option SV)(cs:List SO)(W:List PV):St:=⟨[some (.ref 5),some (.pv (aN i)),some (.pv (aN j)),some (.pv (.bytes [])),some (.pv (.bool true)),some (.ref 8),some (.ref 9),l,r,h,none,none,none,none,none,none,none,none,none,none,none,none,none,none,none,none],cs++[.list [],.list W]⟩
theorem Lx(ω:Dk)(S:List It){i j:Nat}{a b c a' b' c':OE}(hi:S[i]? =some (.tree (eS a b c)))(hj:S[j]? =some (.tree (eS a' b' c')))(ex:List SO):
  EH [.ref 5,.pv (aN i),.pv (aN j)] (sS ω S++ex)=some (.pv (.lst ((dif a b c a' b' c').map cp)),sS ω S++ex):=by
 have hsort:∀ st,mB st (.ref 8)=some ((dif a b c a' b' c').map cp)→CO BK (.ref 8) st=some (.ref st.cells.length,{st with cells:=st.cells++[.list ((dif a b c a' b' c').map cp)]}):=fun st h=>by
  refine Xe (k:=vL) h (fun x hx ex=> ?_) (XE 97 a a') (XE 98 b b') (XE 99 c c') ?_
  ·unfold dif at hx
   rw [cW,cW] at hx
   rcases List.mem_append.mp hx with hx | hx
   ·rcases List.mem_append.mp hx with hx | hx
    ·obtain⟨w,h⟩:=HW _ _ _ x hx;exact h.order ex
    ·obtain⟨w,h⟩:=HW _ _ _ x hx;exact h.order ex
   ·obtain⟨w,h⟩:=HW _ _ _ x hx;exact h.order ex
  ·unfold dif
   rw [cW,cW,cW,cW,XF,XF,XF]
 by_cases hij:i=j
 ·subst hij
  have:eS a b c=eS a' b' c':=It.tree.inj (bO (hi.symm.trans hj))
  obtain⟨rfl,rfl,rfl⟩:=aEL this
  rw [aEx] at hsort ⊢
  refine iQ (j:=[.list [],.list [],.dead]) (eK (st:=⟨(dE i i (some (.pv (aN i))) (some (.pv (aN i))) (some (.pv (.bytes []))) [] []).loc,sS ω S++[.list [],.list [],.dead]⟩) rfl (aO (by rfl) (aO (st₁:=dE i i none none none (sS ω S) [.tup [aN i,aN i,.bytes []]]) (by rfl) (aO (st₁:=dE i i (some (.pv (aN i))) (some (.pv (aN i))) (some (.pv (.bytes []))) (sS ω S) []) ?_ (fC (fF ((BO ((BO rfl).trans (hsort _ rfl))).trans rfl))))))) rfl rfl
  refine(Yu (st₁:=dE i i none none none (sS ω S) [.tup [aN i,aN i,.bytes []]]) (st₂:=dE i i (some (.pv (aN i))) (some (.pv (aN i))) (some (.pv (.bytes []))) (sS ω S) []) (f:=.cont) (by rfl) ?_ (.inr rfl)).trans (Yt (by rfl))
  refine aO (st₁:=dE i i (some (.pv (aN i))) (some (.pv (aN i))) (some (.pv (.bytes []))) (sS ω S) []) (by rfl) (DR (iD ((jO rfl rfl).trans ((eq_bytes ..).trans ?_)) rfl))
  rw [jL.mpr rfl]
 ·obtain⟨ga,gb,gc⟩:=Lu a b c
  obtain⟨ga',gb',gc'⟩:=Lu a' b' c'
  have hD:∀ a b c,cX (.pv (eD a b c))=fun st=>some ((),st):=fun _ _ _=>rfl
  obtain⟨p12,p14,p15,p16,p17,p18,e₁⟩:=XM i j 97 a a' (eD a b c) (eD a' b' c') (.lst (pL (nms a b c a' b' c'))) (hD ..) (hD ..) ga ga' none none none none none none ω (S.map It.key) (S.map It.val) [] (by simp) [.list (pL (un a b c a' b' c')),.dead] (pL (pn 98 b b')++(pL (pn 99 c c')++[]))
  have l₁:=yY 97 a a'
  have l₂:=yY 98 b b'
  obtain⟨q12,q14,q15,q16,q17,q18,e₂⟩:=XM i j 98 b b' (eD a b c) (eD a' b' c') (.lst (pL (nms a b c a' b' c'))) (hD ..) (hD ..) gb gb' p12 p14 p15 p16 p17 p18 ω (S.map It.key) (S.map It.val) ([]++(dG 97 a a').map cp) (ub (aP (dS (bT ..)) l₁) rfl) [.list (pL (un a b c a' b' c')),.dead] (pL (pn 99 c c')++[])
  obtain⟨r12,r14,r15,r16,r17,r18,e₃⟩:=XM i j 99 c c' (eD a b c) (eD a' b' c') (.lst (pL (nms a b c a' b' c'))) (hD ..) (hD ..) gc gc' q12 q14 q15 q16 q17 q18 ω (S.map It.key) (S.map It.val) ([]++(dG 97 a a').map cp++(dG 98 b b').map cp) (by rw [oD,fH,bT,bT];exact ub (mM l₁ l₂) rfl) [.list (pL (un a b c a' b' c')),.dead] []
  have hF: []++(dG 97 a a').map cp++(dG 98 b b').map cp++(dG 99 c c').map cp=(dif a b c a' b' c').map cp:=by
   unfold dif;rw [cW,cW,oD]
  rw [hF] at e₃
  have hN:pL (nms a b c a' b' c')=pL (pn 97 a a')++(pL (pn 98 b b')++(pL (pn 99 c c')++[])):=by
   unfold nms pL;rw [cW,cW,gQ,gP]
  refine iQ (j:=[.list ((dif a b c a' b' c').map cp),.list [],.list (pL (un a b c a' b' c')),.dead,.dead]) (eK (st:=⟨(oS i j (eD a b c) (eD a' b' c') (.lst (pL (nms a b c a' b' c'))) r12 r14 r15 r16 r17 r18 [] [] []).loc,sS ω S++[.list ((dif a b c a' b' c').map cp),.list [],.list (pL (un a b c a' b' c')),.dead,.dead]⟩) rfl (aO (by rfl) (aO (st₁:=dE i j none none none (sS ω S) [.tup [aN i,aN j,.bytes []]]) (by rfl) (aO (st₁:=oS i j (eD a b c) (eD a' b' c') (.lst (pL (nms a b c a' b' c'))) r12 r14 r15 r16 r17 r18 (sS ω S) ((dif a b c a' b' c').map cp) [.list (pL (un a b c a' b' c')),.dead]) ?_ (fC (fF ((BO ((BO rfl).trans (hsort _ rfl))).trans rfl))))))) rfl rfl
  refine(Yu (st₁:=dE i j none none none (sS ω S) [.tup [aN i,aN j,.bytes []]]) (st₂:=oS i j (eD a b c) (eD a' b' c') (.lst (pL (nms a b c a' b' c'))) r12 r14 r15 r16 r17 r18 (sS ω S) ((dif a b c a' b' c').map cp) [.list (pL (un a b c a' b' c')),.dead]) (f:=.next) (by rfl) ?_ (.inl rfl)).trans (Yt (by rfl))
  refine aO (st₁:=dE i j (some (.pv (aN i))) (some (.pv (aN j))) (some (.pv (.bytes []))) (sS ω S) []) (by rfl) (aO (st₁:=dE i j (some (.pv (aN i))) (some (.pv (aN j))) (some (.pv (.bytes []))) (sS ω S) []) (eY ((jO rfl rfl).trans ((eq_bytes ..).trans ?_)) rfl) ?_)
  ·rw [XW,decide_eq_false (fun e=>hij (wA e))]
  have c₁:cf EL (ar [aA 0,aA 7]) (dE i j (some (.pv (aN i))) (some (.pv (aN j))) (some (.pv (.bytes []))) (sS ω S) [])=some (.pv (eD a b c),dE i j (some (.pv (aN i))) (some (.pv (aN j))) (some (.pv (.bytes []))) (sS ω S) []):=(gK (as:=[.ref 5,.pv (aN i)]) (dM rfl rfl) (Me ω S hi _)).trans rfl
  have c₂:cf EL (ar [aA 0,aA 8]) (dE i j (some (.pv (aN i))) (some (.pv (aN j))) (some (.pv (.bytes []))) (sS ω S) [])=some (.pv (eD a' b' c'),dE i j (some (.pv (aN i))) (some (.pv (aN j))) (some (.pv (.bytes []))) (sS ω S) []):=(gK (as:=[.ref 5,.pv (aN j)]) (dM rfl rfl) (Me ω S hj _)).trans rfl
  refine aO (HP (u:=()) (dM c₁ c₂) rfl) ?_
  refine aO (st₁:=oS i j (eD a b c) (eD a' b' c') (.lst (pL (nms a b c a' b' c'))) none none none none none none (sS ω S) [] [.list (pL (un a b c a' b' c')),.dead]) (iM (aIC i j a b c a' b' c' .none ω _ _)) (cY ((mT (a:=.pv (.lst (pL (nms a b c a' b' c')))) (xs:=pL (nms a b c a' b' c')) (by rfl) rfl).trans ?_))
  rw [←hN] at e₁
  exact e₁.trans (e₂.trans (e₃.trans rfl))
noncomputable def lk(l:List Nat):PV:=.tup [.bool false,.bytes l]
theorem PR(a b:List Nat):jC (lk a) (lk b)=true↔a=b:=by
 show(match eqL a b with | true=>(false==false) | false=>false)=true↔a=b
 rw [←jL]
 cases eqL a b <;> simp
noncomputable def iF(n j:Nat):List PV:=(xZ j n).map fun i=>.int (i:Nat)
noncomputable def nC(fs:List SV)(L:List (List Nat)):List SO:=[.inst 3 fs,.inst 2 [.ref 2,.ref 3,.pv (.int (L.length:Nat))],.dict .pair (L.map lk) (iF L.length 0),.list []]
theorem Pw{n j i:Nat}(h:i < n):(iF n j)[i]? =some (.int ((j+i:Nat):Int)):=by
 unfold iF
 rw [iW,List.getElem?_range' h]
 simp
theorem aGB(n j:Nat):iF (n+1) j=iF n j++[.int ((j+n:Nat):Int)]:=by
 unfold iF
 rw [List.range'_concat]
 simp
section
variable{st:St}{j:Nat}{k:List Nat}{ks vs:List PV}{y:PV}
theorem Tc(h:st.cells[j]? =some (.dict .pair ks vs)):fE (.pv (lk k)) (.ref j) st=some ((dR ks vs (lk k)).isNone,st):=by
 have hd:=NQ h
 have h1:sX uC (.pv (lk k)) (.ref j) st=none:=by
  unfold sX bd
  rw [show uC (.pv (lk k)) (.ref j) st=none from Ts h]
 have h3:sX zK (.pv (lk k)) (.ref j) st=none:=by
  unfold sX bd
  rw [show zK (.pv (lk k)) (.ref j) st=none by show kJ (.ref j) _ _ st=_;unfold kJ;rw [hd];rfl]
 have h4:PB (.pv (lk k)) (.ref j) st=some ((dR ks vs (lk k)).isSome,st):=by
  show kJ (.ref j) _ _ st=_;unfold kJ;rw [hd];rfl
 exact(mP h1).trans ((mP rfl).trans ((mP h3).trans ((aJ h4).trans (by cases dR ks vs (lk k) <;> rfl))))
theorem Xn(h:st.cells[j]? =some (.dict .pair ks vs))(e:dR ks vs (lk k)=some y):aW (.ref j) (.pv (lk k)) st=some (.pv y,st):=by
 have hd:=NQ h
 refine(mP rfl).trans ((mP ?_).trans ((mP ?_).trans ?_))
 ·show kJ (.ref j) _ _ st=_;unfold kJ;rw [hd];rfl
 ·unfold Ai QK CD;dsimp only;rw [h];rfl
 ·show kJ (.ref j) _ _ st=_;unfold kJ;rw [hd]
  show eZ (dR ks vs (lk k)) _ st=_
  rw [e];rfl
theorem aMj(h:st.cells[j]? =some (.dict .pair ks vs))(hl:ks.length≤1000)(hn:dhas ks (lk k)=false):fT (.ref j) (.pv (lk k)) (.pv y) st=some ((),fG st j (.dict .pair (ks++[lk k]) (vs++[y]))):=by
 refine(mP ?_).trans ((mP ?_).trans ((mP ?_).trans ?_))
 ·show xK (.ref j) _ _ st=_;unfold xK;dsimp only;rw [h];rfl
 ·show qN (.ref j) _ _ st=_;unfold qN;dsimp only;rw [h];rfl
 ·unfold Eo CD;dsimp only;rw [h];rfl
 ·show xK (.ref j) _ _ st=_;unfold xK;dsimp only;rw [h]
  show gd (true && decide (ks.length≤1000000)) (fun st=>some ((),fG st j (.dict .pair (dZ ks vs (lk k) y).1 (dZ ks vs (lk k) y).2))) st=_
  rw [decide_eq_true (aP hl (bR rfl))]
  unfold dZ
  rw [hn]
  rfl
end
noncomputable def nL(l:List Nat)(o2:Option SV):List (Option SV):=[some (.ref 1),some (.pv (.bytes l)),o2,none,none,none,none,none]
theorem KI{f:Fn}{args:List SV}{cells cells':List SO}{v:SV}(h:f args cells=some (v,cells')):pA f args cells=some (v,CQ v cells.length cells'):=by unfold pA;rw [h]
theorem aJa(fs:List SV)(hf:fs= []∨∃ A,fs= [.pv A])(L:List (List Nat))(hn:L.Nodup)(l:List Nat)(i:Nat)(hi:L[i]? =some l):EG [.ref 1,.pv (.bytes l)] (nC fs L)=some (.pv (.int (i:Nat)),nC fs L):=by
 have hik:=(List.getElem?_eq_some_iff.mp hi).1
 have hd:dR (L.map lk) (iF L.length 0) (lk l)=some (.int (i:Nat)):=BQ PR hn hi (by rw [Pw hik,kL])
 have hrun:bH 8 (gN 2) WU [.ref 1,.pv (.bytes l)] (nC fs L)=some (.pv (.int (i:Nat)),nC fs L):=by
  refine eK (st:=⟨nL l (some (.pv (lk l))),nC fs L⟩) rfl (AY (iD rfl (aO (st₁:=⟨nL l (some (.pv (lk l))),nC fs L⟩) (by rfl) (aO (st₁:=⟨nL l (some (.pv (lk l))),nC fs L⟩) (eY ((jO (a:=.pv (lk l)) (b:=.ref 2) rfl rfl).trans ((Tc (ks:=L.map lk) (vs:=iF L.length 0) rfl).trans (by rw [hd];rfl))) rfl) (fC (fF (jJ (a:=.ref 2) (b:=.pv (lk l)) rfl rfl (Xn rfl hd))))))))
 refine(KI hrun).trans ?_
 rcases hf with rfl | ⟨A,rfl⟩ <;> rfl
theorem aIZ(fs:List SV)(hf:fs= []∨∃ A,fs= [.pv A])(L:List (List Nat))(hn:L.Nodup)(hl:L.length≤100)(l:List Nat)(hi:l∉L):EG [.ref 1,.pv (.bytes l)] (nC fs L)=some (.pv (.int (L.length:Nat)),nC fs (L++[l])):=by
 have hn':(L++[l]).Nodup:=List.nodup_append.mpr ⟨hn,List.nodup_cons.mpr ⟨GR,pK⟩,fun a ha b hb e=>by rw [List.mem_singleton.mp hb] at e;exact hi (e▸ha)⟩
 have hd:dR ((L++[l]).map lk) (iF (L++[l]).length 0) (lk l)=some (.int (L.length:Nat)):=BQ (i:=L.length) PR hn' (by simp) (by rw [Pw (by simp),kL])
 have hc:nC fs (L++[l])= [.inst 3 fs,.inst 2 [.ref 2,.ref 3,.pv (.int ((L.length:Nat)+1:Int))],.dict .pair (L.map lk++[lk l]) (iF L.length 0++[.int (L.length:Nat)]),.list []]:=by
  unfold nC
  rw [show(L++[l]).length=L.length+1 from by simp,aGB,kL,cW]
  rfl
 have hrun:bH 8 (gN 2) WU [.ref 1,.pv (.bytes l)] (nC fs L)=some (.pv (.int (L.length:Nat)),nC fs (L++[l])):=by
  refine eK (st:=⟨nL l (some (.pv (lk l))),nC fs (L++[l])⟩) rfl (AY (iD rfl (aO (st₁:=⟨nL l (some (.pv (lk l))),nC fs L⟩) (by rfl) (aO (st₁:=⟨nL l (some (.pv (lk l))),nC fs (L++[l])⟩) (iD ((jO (a:=.pv (lk l)) (b:=.ref 2) rfl rfl).trans ((Tc (ks:=L.map lk) (vs:=iF L.length 0) rfl).trans (by rw [ES PR hi];rfl))) (aO (tY (u:=()) (a:=.ref 2) (b:=.pv (lk l)) (c:=.pv (.int (L.length:Nat))) (st₁:=⟨nL l (some (.pv (lk l))),nC fs L⟩) rfl (aMj rfl (by rw [bT];exact ub hl rfl) (ER PR hi)) rfl rfl) ?_)) (fC (fF (jJ (a:=.ref 2) (b:=.pv (lk l)) rfl rfl (Xn rfl hd))))))))
  rw [hc]
  rfl
 refine(KI hrun).trans ?_
 rcases hf with rfl | ⟨A,rfl⟩ <;> rfl
noncomputable abbrev DY:List PV→M (List PV):=iG (nT 1) (rt true) (mc 2 EG (aA 2) (ar [(aA 1)]))
noncomputable def cL(o:Option SV):List (Option SV):=[none,o,some (.ref 1)]
theorem Lh(fs:List SV)(hf:fs= []∨∃ A,fs= [.pv A])(L:List (List Nat))(hn:L.Nodup):∀(l:List (List Nat)) (i:Nat) (o:Option SV),(∀ j x,l[j]? =some x→L[i+j]? =some x)→∃ o',DY (l.map .bytes) ⟨cL o,nC fs L⟩=some (iF l.length i,⟨cL o',nC fs L⟩)
 | [],_,o,_=>⟨o,rfl⟩
 |x::l,i,o,h=>by
  obtain⟨o',e⟩:=Lh fs hf L hn l (i+1) (some (.pv (.bytes x))) fun j y hy=>by
   have:=h (j+1) y hy
   exact(wB i j).symm▸this
  refine⟨o',?_⟩
  show iG _ _ _ (.bytes x::l.map .bytes) _=_
  refine(aJ (a:=()) (st₁:=⟨cL (some (.pv (.bytes x))),nC fs L⟩) rfl).trans ((aJ (a:=true) rfl).trans ?_)
  refine(aJ (jN (a:=.ref 1) (st₃:=⟨cL (some (.pv (.bytes x))),nC fs L⟩) rfl rfl (iL rfl) (aJa fs hf L hn x i (h 0 x rfl)))).trans ?_
  exact(aJ e).trans rfl
theorem DZ(fs:List SV)(hf:fs= []∨∃ A,fs= [.pv A]):∀(l L:List (List Nat)) (o:Option SV),(L++l).Nodup→(L++l).length≤100→∃ o',DY (l.map .bytes) ⟨cL o,nC fs L⟩=some (iF l.length L.length,⟨cL o',nC fs (L++l)⟩)
 | [],L,o,_,_=>⟨o,by rw [gQ];rfl⟩
 |x::l,L,o,hn,hl=>by
  have e0:L++x::l=(L++[x])++l:=by simp
  have hnL:L.Nodup:=(List.nodup_append.mp hn).1
  have hx:x∉L:=fun h=>(List.nodup_append.mp hn).2.2 x h x (uS ..) rfl
  obtain⟨o',e⟩:=DZ fs hf l (L++[x]) (some (.pv (.bytes x))) (e0▸hn) (e0▸hl)
  refine⟨o',?_⟩
  show iG _ _ _ (.bytes x::l.map .bytes) _=_
  refine(aJ (a:=()) (st₁:=⟨cL (some (.pv (.bytes x))),nC fs L⟩) rfl).trans ((aJ (a:=true) rfl).trans ?_)
  refine(aJ (jN (a:=.ref 1) (st₃:=⟨cL (some (.pv (.bytes x))),nC fs L⟩) rfl rfl (iL rfl) (aIZ fs hf L hnL (aP (List.sublist_append_left ..).length_le hl) x hx))).trans ?_
  refine(aJ e).trans ?_
  rw [e0,show(L++[x]).length=L.length+1 from by simp]
  rfl
theorem Lg:∀(l l':List PV) {ys ys':List PV} {st st₁ st₂:St},DY l st=some (ys,st₁)→DY l' st₁=some (ys',st₂)→DY (l++l') st=some (ys++ys',st₂)
 | [],l',ys,ys',st,st₁,st₂,h,h'=>by obtain⟨rfl,rfl⟩:=gA h;exact h'
 |x::l,l',ys,ys',st,st₁,st₂,h,h'=>by
  have h:iG _ _ _ (x::l) st=_:=h
  obtain⟨u,s1,e1,h⟩:=MZ h
  obtain⟨t,s2,e2,h⟩:=MZ h
  obtain⟨rfl,rfl⟩:=gA e2
  obtain⟨y,s3,e3,h⟩:=MZ h
  cases y with
  |ref=>exact aT h
  |pv y=>
   obtain⟨zs,s4,e4,h⟩:=MZ h
   cases h
   have:=Lg l l' e4 h'
   show iG _ _ _ (x::(l++l')) st=_
   exact(aJ e1).trans ((aJ (a:=true) rfl).trans ((aJ e3).trans ((aJ this).trans rfl)))
theorem FK(fs:List SV)(hf:fs= []∨∃ A,fs= [.pv A])(L L' l:List (List Nat))(ys:List PV)(hl:l.length≤100)(h:∃ o',DY (l.map .bytes) ⟨cL none,nC fs L⟩=some (ys,⟨cL o',nC fs L'⟩)):zD [.ref 1,.pv (lp l)] (nC fs L)=some (.pv (.lst ys),nC fs L'):=by
 obtain⟨o',h⟩:=h
 have hrun:bH 2 (gN 2) Jy [.ref 1,.pv (lp l)] (nC fs L)=some (.pv (.lst ys),nC fs L'):=by
  refine eK (st:=⟨[some (.ref 1),some (.pv (lp l))],nC fs L'⟩) rfl (fC (fF ?_))
  exact(tZ (cap:=[none,none,some 0]) (g:=nT 1) (t:=rt true) (m:=mc 2 EG (aA 2) (ar [(aA 1)])) (a:=.pv (lp l)) (st₁:=⟨[some (.ref 1),some (.pv (lp l))],nC fs L⟩) (st₂:=⟨cL o',nC fs L'⟩) (xs:=l.map .bytes) rfl rfl (by rw [bT];exact ub hl rfl) h).trans rfl
 refine(KI hrun).trans ?_
 rcases hf with rfl | ⟨A,rfl⟩ <;> rfl
noncomputable def iA(n j:Nat):List PV:=iF n j
noncomputable def tf(f t:Nat):List PV:=mZ f (.bool false)++mZ t (.bool true)
noncomputable def mC(A B ks vs:List PV)(c:Int)(g h:List PV):List SO:=[.inst 3 [.pv (.lst A),.pv (.lst B),.ref 4,.ref 5],.inst 2 [.ref 2,.ref 3,.pv (.int c)],.dict .pair ks vs,.list [],.list g,.list h]
noncomputable def wU(a b c d:Int):PV:=.obj 1 [.int a,.int b,.int c,.int d]
noncomputable def QD:List (M Fl):=[(ex (mc 3 YE (aA 2) (ar [(mc 3 YF (aA 2) (ar []))]))),
 (re (mc 3 YD (aA 2) (ar [])))]
noncomputable def mS(a b:PV)(cs:List SO):St:=⟨[some (.pv a),some (.pv b),some (.ref 0),none],cs⟩
noncomputable def ck(k:Nat):List PV:=match k with
 |0=>[]
 |k+1=>[wU (10 - ((k:Nat)+1)) 10 (10 - ((k:Nat)+1)) 10]
theorem aIy(a b:PV)(ks vs:List PV)(c:Int)(k:Nat)(hk:k≤10):bl QD (mS a b (mC (iF 10 0) (iF (10 - k) 0++iF k 10) ks vs c (tf 10 0) (tf 10 0)))=some (.ret (.pv (.lst (ck k))),mS a b (mC (iF 10 0) (iF (10 - k) 0++iF k 10) ks vs c (tf (10 - k) k) (tf (10 - k) k))):=by
 rcases RG k hk with rfl | rfl | rfl | rfl | rfl | rfl | rfl | rfl | rfl | rfl | rfl <;> kernel_rfl
theorem myA(a b:PV)(ks vs:List PV)(c:Int):bl QD (mS a b (mC [] (iF 10 0) ks vs c [] (tf 10 0)))=some (.ret (.pv (.lst [wU 0 0 0 10])),mS a b (mC [] (iF 10 0) ks vs c [] (tf 0 10))):=by kernel_rfl
theorem myD(a b:PV)(ks vs:List PV)(c:Int):bl QD (mS a b (mC (iF 10 0) [] ks vs c (tf 10 0) []))=some (.ret (.pv (.lst [wU 0 10 0 0])),mS a b (mC (iF 10 0) [] ks vs c (tf 0 10) [])):=by kernel_rfl
theorem HO{f:SV→SV→M Unit}{me mo:M SV}{st st₁ st₂ st₃:St}{c a:SV}{u:Unit}(h₁:me st=some (c,st₁))(h₂:mo st₁=some (a,st₂))(h₃:f a c st₂=some (u,st₃)):eU f me mo st=some (.next,st₃):=(aJ h₁).trans ((aJ h₂).trans ((aJ h₃).trans rfl))
theorem aMp(a b:List (List Nat))(A B:List PV)(La Lb:List (List Nat))(ha:a.length=10∨a.length=0)(hb:b.length=10∨b.length=0)
  (hA:zD [.ref 1,.pv (lp a)] (nC [] [])=some (.pv (.lst A),nC [] La)) (hB:zD [.ref 1,.pv (lp b)] (nC [.pv (.lst A)] La)=some (.pv (.lst B),nC [.pv (.lst A)] Lb)):
  NX [.ref 0,.pv (lp a),.pv (lp b)] [.inst 3 []]=some (.pv .none,mC A B (Lb.map lk) (iF Lb.length 0) (Lb.length:Nat) (tf a.length 0) (tf b.length 0)):=by
 have h0:bA 3 (nw 2 YC (ar [])) ⟨[some (.ref 0),some (.pv (lp a)),some (.pv (lp b)),none,none,none],[.inst 3 []]⟩=some (.next,⟨[some (.ref 0),some (.pv (lp a)),some (.pv (lp b)),some (.ref 1),none,none],nC [] []⟩):=by rfl
 refine KQ (st:=⟨[some (.ref 0),some (.pv (lp a)),some (.pv (lp b)),some (.ref 1),none,none],mC A B (Lb.map lk) (iF Lb.length 0) (Lb.length:Nat) (tf a.length 0) (tf b.length 0)⟩) rfl (aO h0 ?_)
 refine aO (HO (u:=()) (a:=.ref 0) (c:=.pv (.lst A)) (st₃:=⟨[some (.ref 0),some (.pv (lp a)),some (.pv (lp b)),some (.ref 1),none,none],nC [.pv (.lst A)] La⟩) (jN (a:=.ref 1) (st₃:=⟨[some (.ref 0),some (.pv (lp a)),some (.pv (lp b)),some (.ref 1),none,none],nC [] []⟩) rfl rfl (iL rfl) hA) rfl rfl) ?_
 refine aO (HO (u:=()) (a:=.ref 0) (c:=.pv (.lst B)) (st₃:=⟨[some (.ref 0),some (.pv (lp a)),some (.pv (lp b)),some (.ref 1),none,none],nC [.pv (.lst A),.pv (.lst B)] Lb⟩) (jN (a:=.ref 1) (st₃:=⟨[some (.ref 0),some (.pv (lp a)),some (.pv (lp b)),some (.ref 1),none,none],nC [.pv (.lst A)] La⟩) rfl rfl (iL rfl) hB) rfl rfl) ?_
 clear hA hB h0
 have key:∀ {l:List (List Nat)},(l.length=10∨l.length=0)→(SW l∨l= []):=fun h=>h.imp zP aAn
 rcases key ha with⟨x0,x1,x2,x3,x4,x5,x6,x7,x8,x9⟩ | rfl <;> rcases key hb with⟨y0,y1,y2,y3,y4,y5,y6,y7,y8,y9⟩ | rfl <;> kernel_rfl
theorem lI{f:Fn}{ms:M (List SV)}{st:St}{as:List SV}{v:SV}(h:ms st=some (as,st))(h':f as st.cells=some (v,st.cells)):cf f ms st=some (v,st):=gK h h'
theorem Bu(a b:List (List Nat))(A B:List PV)(La Lb:List (List Nat))(R:List PV)(ha:a.length=10∨a.length=0)(hb:b.length=10∨b.length=0)
  (hA:zD [.ref 1,.pv (lp a)] (nC [] [])=some (.pv (.lst A),nC [] La)) (hB:zD [.ref 1,.pv (lp b)] (nC [.pv (.lst A)] La)=some (.pv (.lst B),nC [.pv (.lst A)] Lb))
  (hR:∀ ks vs c,∃ C',bl QD (mS (lp a) (lp b) (mC A B ks vs c (tf a.length 0) (tf b.length 0)))=some (.ret (.pv (.lst R)),mS (lp a) (lp b) C')) (ex:List SO):
  uA [.pv (.str [109,121,101,114,115]),.pv (lp a),.pv (lp b)] ex=some (.pv (.lst R),ex):=by
 have hm:∀ ex,YS [.pv (lp a),.pv (lp b)] ex=some (.pv (.lst R),ex):=fun ex=>by
  obtain⟨C',h⟩:=hR (Lb.map lk) (iF Lb.length 0) (Lb.length:Nat)
  refine mW (eK (st:=mS (lp a) (lp b) C') rfl (aO (st₁:=mS (lp a) (lp b) (mC A B (Lb.map lk) (iF Lb.length 0) (Lb.length:Nat) (tf a.length 0) (tf b.length 0))) ((iM (v:=.ref 0) (st₁:=⟨[some (.pv (lp a)),some (.pv (lp b)),none,none],mC A B (Lb.map lk) (iF Lb.length 0) (Lb.length:Nat) (tf a.length 0) (tf b.length 0)⟩) ((aJ (dM (a:=.pv (lp a)) (b:=.pv (lp b)) rfl rfl)).trans ?_)).trans rfl) h)) rfl
  show(match lV NX [.ref 0,.pv (lp a),.pv (lp b)] ⟨[some (.pv (lp a)),some (.pv (lp b)),none,none],[.inst 3 []]⟩ with | some (.pv .none,st')=>some ((.ref 0:SV),st') | _=>none)=_
  rw [DT (aMp a b A B La Lb ha hb hA hB)]
 exact mW (j:=[]) (eK (st:=⟨[some (.pv (.str [109,121,101,114,115])),some (.pv (lp a)),some (.pv (lp b)),none,none,none,none],[]⟩) rfl (AY (iD (by rfl) (fC (fF (lI (dM rfl rfl) (hm _))))))) rfl
theorem aBN(b:List (List Nat))(hb:b.length=10)(hn:b.Nodup)(ex:List SO):uA [.pv (.str [109,121,101,114,115]),.pv (lp []),.pv (lp b)] ex=some (.pv (.lst [wU 0 0 0 10]),ex):=by
 refine Bu [] b [] (iF 10 0) [] b [wU 0 0 0 10] (.inr rfl) (.inl hb) (FK [] (.inl rfl) [] [] [] [] (by simp) (DZ [] (.inl rfl) [] [] none (by simp) (by simp))) ?_ (fun ks vs c=> ?_) ex
 ·have:=DZ [.pv (.lst [])] (.inr ⟨_,rfl⟩) b [] none (by simpa using hn) (by simp [hb])
  rw [hb,oD] at this
  exact FK _ (.inr ⟨_,rfl⟩) [] b b (iF 10 0) (ub (dS hb) rfl) this
 ·rw [hb]
  exact⟨_,myA _ _ ks vs c⟩
theorem aBQ(a:List (List Nat))(ha:a.length=10)(hn:a.Nodup)(ex:List SO):uA [.pv (.str [109,121,101,114,115]),.pv (lp a),.pv (lp [])] ex=some (.pv (.lst [wU 0 10 0 0]),ex):=by
 refine Bu a [] (iF 10 0) [] a a [wU 0 10 0 0] (.inl ha) (.inr rfl) ?_ (FK _ (.inr ⟨_,rfl⟩) a a [] [] (by simp) ⟨none,rfl⟩) (fun ks vs c=> ?_) ex
 ·have:=DZ [] (.inl rfl) a [] none (by simpa using hn) (by simp [ha])
  rw [ha,oD] at this
  exact FK _ (.inl rfl) [] a a (iF 10 0) (ub (dS ha) rfl) this
 ·rw [ha]
  exact⟨_,myD _ _ ks vs c⟩
theorem Fi{a F:List (List Nat)}{k:Nat}(hk:k≤10)(ha:a.length=10)(hF:F.length=k):(a.take (10 - k)++F).length=10:=by
 rw [fH,CX,ha,hF,ME (Nat.sub_le ..),Hp hk]
theorem aBP(a F:List (List Nat))(k:Nat)(hk:k≤10)(ha:a.length=10)(hF:F.length=k)(hn:(a++F).Nodup)(ex:List SO):uA [.pv (.str [109,121,101,114,115]),.pv (lp a),.pv (lp (a.take (10 - k)++F))] ex=some (.pv (.lst (ck k)),ex):=by
 have hna:=(List.nodup_append.mp hn).1
 refine Bu a (a.take (10 - k)++F) (iF 10 0) (iF (10 - k) 0++iF k 10) a (a++F) (ck k) (.inl ha) (.inl (Fi hk ha hF)) ?_ ?_ (fun ks vs c=> ?_) ex
 ·have:=DZ [] (.inl rfl) a [] none hna (by simp [ha])
  rw [ha,oD] at this
  exact FK _ (.inl rfl) [] a a (iF 10 0) (ub (dS ha) rfl) this
 ·obtain⟨o₁,e₁⟩:=Lh [.pv (.lst (iF 10 0))] (.inr ⟨_,rfl⟩) a hna (a.take (10 - k)) 0 none fun j x hx=>by
   rw [kL]
   replace hx:=(TJ)▸hx
   split at hx
   ·exact hx
   ·exact aT hx
  obtain⟨o₂,e₂⟩:=DZ [.pv (.lst (iF 10 0))] (.inr ⟨_,rfl⟩) F a o₁ hn (by rw [fH,ha,hF];exact ub (oE hk 10) rfl)
  have:=Lg _ _ e₁ e₂
  rw [←cW,hF,ha,show(a.take (10 - k)).length=10 - k from by rw [CX,ha];exact ME (Nat.sub_le ..)] at this
  exact FK _ (.inr ⟨_,rfl⟩) a (a++F) _ _ (ub (dS (Fi hk ha hF)) rfl) ⟨_,this⟩
 ·refine(ha).symm▸(show(a.take (10 - k)++F).length=10 from Fi hk ha hF).symm▸?_
  exact⟨_,aIy _ _ ks vs c k hk⟩
section
set_option tactic.hygienic true
noncomputable def lv(v:Option aU):List (List Nat):=match v with
 |some v=>bK v.z v.ns
 |none=>[]
noncomputable def bz(v:Option aU):Bool:=match v with
 |some v=>v.z
 |none=>false
theorem Sa(h:eJ v):(lv v).length=10∨(lv v).length=0:=by
 cases v with
 |none=>exact .inr rfl
 |some v=>exact .inl ((sV _ _).trans h)
theorem WM(v:Option aU)(h:eJ v)(ex:List SO):vI [.pv (.bytes (lv v).flatten)] ex=some (.pv (.bool (bz v)),ex):=by
 cases v with
 |none=>kernel_rfl
 |some v=>
  obtain⟨x,z,ns⟩:=v
  obtain⟨n₀,n₁,n₂,n₃,n₄,n₅,n₆,n₇,n₈,n₉⟩:=zP h
  refine mW (j:=[]) ?_ rfl
  cases z <;> kernel_rfl
theorem Rl(v:Option aU)(h:eJ v)(ex:List SO):vH [.pv (.bytes (lv v).flatten)] ex=some (.pv (lp (lv v)),ex):=by
 cases v with
 |none=>kernel_rfl
 |some v=>
  obtain⟨x,z,ns⟩:=v
  obtain⟨n₀,n₁,n₂,n₃,n₄,n₅,n₆,n₇,n₈,n₉⟩:=zP h
  refine mW (j:=[.dead]) ?_ rfl
  cases z <;> kernel_rfl
noncomputable def rT(o:OE):Int:=match o with
 |some (x,_)=>mo x
 |none=>0
noncomputable def rP(o:OE):PV:=match o with
 |some (_,i)=>aN i
 |none=>.none
theorem aEf(ω:Dk)(S:List It)(h:eE S v o)(ex:List SO):wZ [.ref 5,.pv (.int (rT o)),.pv (rP o)] (sS ω S++ex)=some (.pv (.bytes (lv v).flatten),sS ω S++ex):=by
 cases v <;> cases o <;> first | exact h.elim | skip
 ·exact iQ (eK (st:=⟨[some (.ref 5),some (.pv (.int 0)),some (.pv .none),none,none,none,none],sS ω S++[]⟩) rfl (AY (iD rfl (fC (fF rfl))))) rfl rfl
 ·rename_i v o
  obtain⟨x,i⟩:=o
  have hk:bJ (t2 (cf rJ (ar [(aA 1)])) Ap cN) (bl [er]) (bl []) ⟨[some (.ref 5),some (.pv (.int (mo x))),some (.pv (aN i)),none,none,none,none],sS ω S⟩=some (.next,⟨[some (.ref 5),some (.pv (.int (mo x))),some (.pv (aN i)),none,none,none,none],sS ω S⟩):=by
   cases x <;> kernel_rfl
  refine iQ (eK rfl (aO (eY rfl rfl) (aO hk (fC (fF (jN rfl rfl (iL rfl) (Jq ω S h.2 []))))))) rfl rfl
end
noncomputable def Nm(vo vn:Option aU)(t u:Int):Prop:=∃ R,(∀ ex,uA [.pv (.str [109,121,101,114,115]),.pv (lp (lv vo)),.pv (lp (lv vn))] ex=some (.pv (.lst R),ex))∧((R= []∧t=0∧u=0)∨∃ a b c d,R= [wU a b c d]∧t=0+(d - c)∧u=0+(b - a))
noncomputable def mE(b:Bool)(t:Int):PV:=match b with
 |true=>.none
 |false=>.int t
noncomputable def Th(p:Nat)(b:Bool)(t u:Int):PV:=.obj 8 [.bytes [p],mE b t,mE b u]
noncomputable def Xz:List (M Fl):=[(bA 5 (cf wZ (ar [(aA 0),(ge qY (aA 4)),(ge oO (aA 4))]))),
 (bA 6 (cf wZ (ar [(aA 0),(ge oN (aA 4)),(ge lR (aA 4))])))]
noncomputable def Xy:M Fl:=bl (Xz++[(bJ (hJ (tv (cf vI (ar [(aA 5)]))) (hJ (tv (cf vI (ar [(aA 6)]))) (rt false))) (bl [(ex (bL cT dH (aA 3) (ge cE (nw 8 zF (ar [(ge a_path (aA 4)),kN,kN]))))),
 (rt .cont)]) (bl [])),
 (nI [7,8] (ar [(kI 0),(kI 0)])),
 (fo (cf uA (ar [(aA 2),(cf vH (ar [(aA 5)])),(cf vH (ar [(aA 6)]))])) (nT 9) (bl [(au 7 jM (b2 (ge VY (aA 9)) (ge VX (aA 9)) (bZ eO))),
 (au 8 jM (b2 (ge VW (aA 9)) (ge VV (aA 9)) (bZ eO)))])),
 (ex (bL cT dH (aA 3) (ge cE (nw 8 zF (ar [(ge a_path (aA 4)),(aA 7),(aA 8)])))))])
noncomputable def gV(l:List PV)(o4 o5 o6 o7 o8 o9:Option SV)(cs:List SO)(F:List PV)(m:Nat):St:=⟨[some (.ref 5),some (.pv (.lst l)),some (.pv (.str [109,121,101,114,115])),some (.ref 8),o4,o5,o6,o7,o8,o9,none,none,none,none,none],cs++.list F::mZ m .dead⟩
theorem NM(p:Nat)(o n:OE)(h:one o n)(st:St):qY (.pv (cp (p,o,n))) st=some (.pv (.int (rT o)),st)∧oO (.pv (cp (p,o,n))) st=some (.pv (rP o),st)∧oN (.pv (cp (p,o,n))) st=some (.pv (.int (rT n)),st)∧lR (.pv (cp (p,o,n))) st=some (.pv (rP n),st)∧a_path (.pv (cp (p,o,n))) st=some (.pv (.bytes [p]),st):=by
 rcases o with _ | ⟨x,i⟩ <;> rcases n with _ | ⟨y,j⟩
 ·rcases h with h | h <;> exact absurd rfl h
 all_goals exact⟨rfl,rfl,rfl,rfl,by kernel_rfl⟩
section
variable{loc:List (Option SV)}{cs:List SO}{c:Nat}{fs:List SV}{v:SV}
theorem Em(h:tab.lookup c=some fs.length):fN tab (.ref cs.length) v ⟨loc,cs++[SO.inst c fs]⟩=some ((),⟨loc,cs++[SO.inst c (fs++[v])]⟩):=by
 unfold fN Cy
 dsimp only
 rw [zI]
 show eZ (tab.lookup c) _ _=_
 rw [h]
 show eZ (OP fs fs.length v) _ _=_
 unfold OP
 rw [HQ (cZ _),show bV fs.length fs.length=true from DB _]
 show some ((),St.mk loc ((cs++[SO.inst c fs]).set cs.length (SO.inst c (fs++[v]))))=_
 rw [MB _ _ (cZ _),GX];rfl
theorem aIN(hm:ms st=some (args,⟨loc,cs⟩))(h:f (.ref cs.length::args) (cs++[SO.inst c []])=some (.pv .none,cs++[SO.inst c fs])):nw c f ms st=some (.ref cs.length,⟨loc,cs++[SO.inst c fs]⟩):=by
 refine(aJ hm).trans ?_
 show(match lV f (.ref cs.length::args) ⟨loc,cs++[SO.inst c []]⟩ with | some (.pv .none,st')=>some (SV.ref cs.length,st') | _=>none)=_
 rw [DT h]
theorem aFQ{xs:List PV}(h:pQ fs=some xs):cE (.ref cs.length) ⟨loc,cs++[SO.inst c fs]⟩=some (.pv (.obj c xs),⟨loc,cs++[.dead]⟩):=by
 unfold cE
 dsimp only
 rw [zI]
 show(match pQ fs with | some xs=>some (SV.pv (.obj c xs),fG ⟨loc,cs++[SO.inst c fs]⟩ cs.length .dead) | none=>none)=_
 rw [h]
 unfold fG
 rw [MB _ _ (cZ _),GX];rfl
end
theorem aPm(cs:List SO)(a b c:PV):zF [.ref cs.length,.pv a,.pv b,.pv c] (cs++[SO.inst 8 []])=some (.pv .none,cs++[.inst 8 [.pv a,.pv b,.pv c]]):=
 KQ (st:=⟨_,_⟩) rfl (aO (HO rfl rfl (Em rfl)) (aO (HO rfl rfl (Em rfl)) (cY (HO rfl rfl (Em rfl)))))
theorem Iv(l:List PV)(p:Nat)(a b:PV)(o4 o5 o6 o7 o8 o9:Option SV)(cs:List SO)(hcs:cs.length=8)(F:List PV)(hF:F.length≤9)(m:Nat)(hms:ms (gV l o4 o5 o6 o7 o8 o9 cs F m)=some ([.pv (.bytes [p]),.pv a,.pv b],gV l o4 o5 o6 o7 o8 o9 cs F m)):
  ex (bL cT dH (aA 3) (ge cE (nw 8 zF ms))) (gV l o4 o5 o6 o7 o8 o9 cs F m)=some (.next,gV l o4 o5 o6 o7 o8 o9 cs (F++[.obj 8 [.bytes [p],a,b]]) (m+1)):=by
 let L:List (Option SV):=(gV l o4 o5 o6 o7 o8 o9 [] [] 0).loc
 let gb:List SO:=mZ (m+1) .dead
 have e:∀ G,(cs++SO.list G::gb)[8]? =some (.list G):=fun G=>by rw [CW (dS hcs),hcs];rfl
 have e1:ge cE (nw 8 zF ms) (gV l o4 o5 o6 o7 o8 o9 cs F m)=some (.pv (.obj 8 [.bytes [p],a,b]),⟨L,cs++.list F::gb⟩):=by
  refine eX (aIN hms (aPm _ _ _ _)) ((aFQ rfl).trans ?_)
  rw [gP,show gb=mZ m .dead++[.dead] from List.replicate_succ' ..];rfl
 have e0:cT (.ref 8) (gV l o4 o5 o6 o7 o8 o9 cs F m)=some ((),gV l o4 o5 o6 o7 o8 o9 cs F m):=by
  unfold cT qN
  dsimp only
  rw [show(gV l o4 o5 o6 o7 o8 o9 cs F m).cells[8]? =some (.list F) by show(cs++SO.list F::mZ m .dead)[8]? =_;rw [CW (dS hcs),hcs];rfl]
  rfl
 refine sQ (v:=.pv .none) ((qL rfl e0 e1).trans ((yU (e F) (aP hF (bR rfl))).trans ?_))
 show some (SV.pv .none,St.mk L ((cs++SO.list F::gb).set 8 _))=_
 rw [MB _ _ (dS hcs),hcs];rfl
theorem Kq(ω:Dk)(S:List It){v:Option aU}{o:OE}(h:eE S v o){ms:M (List SV)}{st:St}{ex:List SO}(hc:st.cells=sS ω S++ex)(hm:ms st=some ([.ref 5,.pv (.int (rT o)),.pv (rP o)],st)):cf wZ ms st=some (.pv (.bytes (lv v).flatten),st):=by
 refine lI hm ?_
 rw [hc]
 exact aEf ω S h ex
inductive aAe(ω:Dk)(S:List It)(l:List PV)(p:Nat)(o:OE)(n:OE)(vo:Option aU)(vn:Option aU)(t:Int)(u:Int)(o4:Option SV)(o5:Option SV)(o6:Option SV)(o7:Option SV)(o8:Option SV)(o9:Option SV)(F:List PV)(m:Nat):Prop
 |mk (q4:_) (q5:_) (q6:_) (q7:_) (q8:_) (q9:_) (f:_) (hh0:(f= .next∨f= .cont)) (hh1:(bd (nT 4 (cp (p,o,n))) fun _=>Xy) (gV l o4 o5 o6 o7 o8 o9 (sS ω S) F m)=some (f,gV l q4 q5 q6 q7 q8 q9 (sS ω S) (F++[Th p (bz vo || bz vn) t u]) (m+1)))
theorem aPn(ω:Dk)(S:List It)(l:List PV)(p:Nat)(o n:OE)(h1:one o n)(vo vn:Option aU)(ho:eE S vo o)(hn:eE S vn n)(lo:eJ vo)(ln:eJ vn)(t u:Int)(hN:(bz vo || bz vn)=false→Nm vo vn t u)
  (o4 o5 o6 o7 o8 o9:Option SV) (F:List PV) (hF:F.length≤9) (m:Nat) (hm:m=0∨m=1∨m=2):aAe ω S l p o n vo vn t u o4 o5 o6 o7 o8 o9 F m:=by
 have A:=NM p o n h1
 have e5:bA 5 (cf wZ (ar [(aA 0),(ge qY (aA 4)),(ge oO (aA 4))])) (gV l (some (.pv (cp (p,o,n)))) o5 o6 o7 o8 o9 (sS ω S) F m)=some (.next,gV l (some (.pv (cp (p,o,n)))) (some (.pv (.bytes (lv vo).flatten))) o6 o7 o8 o9 (sS ω S) F m):=
  iM (Kq ω S ho rfl (nH (a:=.ref 5) rfl (dM (eX (a:=.pv (cp (p,o,n))) rfl (A _).1) (eX (a:=.pv (cp (p,o,n))) rfl (A _).2.1))))
 have e6:bA 6 (cf wZ (ar [(aA 0),(ge oN (aA 4)),(ge lR (aA 4))])) (gV l (some (.pv (cp (p,o,n)))) (some (.pv (.bytes (lv vo).flatten))) o6 o7 o8 o9 (sS ω S) F m)=some (.next,gV l (some (.pv (cp (p,o,n)))) (some (.pv (.bytes (lv vo).flatten))) (some (.pv (.bytes (lv vn).flatten))) o7 o8 o9 (sS ω S) F m):=
  iM (Kq ω S hn rfl (nH (a:=.ref 5) rfl (dM (eX (a:=.pv (cp (p,o,n))) rfl (A _).2.2.1) (eX (a:=.pv (cp (p,o,n))) rfl (A _).2.2.2.1))))
 have eb:hJ (tv (cf vI (ar [(aA 5)]))) (hJ (tv (cf vI (ar [(aA 6)]))) (rt false)) (gV l (some (.pv (cp (p,o,n)))) (some (.pv (.bytes (lv vo).flatten))) (some (.pv (.bytes (lv vn).flatten))) o7 o8 o9 (sS ω S) F m)=some (bz vo || bz vn,gV l (some (.pv (cp (p,o,n)))) (some (.pv (.bytes (lv vo).flatten))) (some (.pv (.bytes (lv vn).flatten))) o7 o8 o9 (sS ω S) F m):=by
  refine(aJ (a:=bz vo) (st₁:=gV l (some (.pv (cp (p,o,n)))) (some (.pv (.bytes (lv vo).flatten))) (some (.pv (.bytes (lv vn).flatten))) o7 o8 o9 (sS ω S) F m) ((aJ (lI (iL rfl) (WM vo lo _))).trans rfl)).trans ?_
  cases bz vo with
  |true=>rfl
  |false=>
   refine(aJ (a:=bz vn) (st₁:=gV l (some (.pv (cp (p,o,n)))) (some (.pv (.bytes (lv vo).flatten))) (some (.pv (.bytes (lv vn).flatten))) o7 o8 o9 (sS ω S) F m) ((aJ (lI (iL rfl) (WM vn ln _))).trans rfl)).trans ?_
   cases bz vn <;> rfl
 have hpre:bl Xz (gV l (some (.pv (cp (p,o,n)))) o5 o6 o7 o8 o9 (sS ω S) F m)=some (.next,gV l (some (.pv (cp (p,o,n)))) (some (.pv (.bytes (lv vo).flatten))) (some (.pv (.bytes (lv vn).flatten))) o7 o8 o9 (sS ω S) F m):=aO e5 (cY e6)
 cases hb:(bz vo || bz vn) with
 |true=>
  rw [hb] at eb
  refine⟨some (.pv (cp (p,o,n))),some (.pv (.bytes (lv vo).flatten)),some (.pv (.bytes (lv vn).flatten)),o7,o8,o9,.cont,.inr rfl,?_⟩
  rw [hb]
  exact(aJ rfl).trans ((NA hpre).trans (DR (iD eb (aO (Iv l p .none .none _ _ _ _ _ _ _ rfl F hF m (nH (eX rfl (A _).2.2.2.2) rfl)) rfl))))
 |false=>
  rw [hb] at eb
  obtain⟨R,hR,hs⟩:=hN hb
  have ey:∀ o9,cf uA (ar [(aA 2),(cf vH (ar [(aA 5)])),(cf vH (ar [(aA 6)]))]) (gV l (some (.pv (cp (p,o,n)))) (some (.pv (.bytes (lv vo).flatten))) (some (.pv (.bytes (lv vn).flatten))) (some (.pv (.int 0))) (some (.pv (.int 0))) o9 (sS ω S) F m)=some (.pv (.lst R),gV l (some (.pv (cp (p,o,n)))) (some (.pv (.bytes (lv vo).flatten))) (some (.pv (.bytes (lv vn).flatten))) (some (.pv (.int 0))) (some (.pv (.int 0))) o9 (sS ω S) F m):=fun o9=>
   lI (nH rfl (dM (lI (iL rfl) (Rl vo lo _)) (lI (iL rfl) (Rl vn ln _)))) (hR _)
  have hl:∃ q9,IL dN (cf uA (ar [(aA 2),(cf vH (ar [(aA 5)])),(cf vH (ar [(aA 6)]))])) (fun x=>bd (nT 9 x) fun _=>(bl [(au 7 jM (b2 (ge VY (aA 9)) (ge VX (aA 9)) (bZ eO))),
 (au 8 jM (b2 (ge VW (aA 9)) (ge VV (aA 9)) (bZ eO)))])) (gV l (some (.pv (cp (p,o,n)))) (some (.pv (.bytes (lv vo).flatten))) (some (.pv (.bytes (lv vn).flatten))) (some (.pv (.int 0))) (some (.pv (.int 0))) o9 (sS ω S) F m)=some (.next,gV l (some (.pv (cp (p,o,n)))) (some (.pv (.bytes (lv vo).flatten))) (some (.pv (.bytes (lv vn).flatten))) (some (.pv (.int t))) (some (.pv (.int u))) q9 (sS ω S) F m):=by
   rcases hs with⟨rfl,rfl,rfl⟩ | ⟨a,b,c,d,rfl,rfl,rfl⟩
   ·exact⟨o9,(mT (ey o9) rfl).trans rfl⟩
   ·exact⟨some (.pv (wU a b c d)),(mT (ey o9) rfl).trans ((gR (by rfl)).trans rfl)⟩
  obtain⟨q9,hl⟩:=hl
  refine⟨some (.pv (cp (p,o,n))),some (.pv (.bytes (lv vo).flatten)),some (.pv (.bytes (lv vn).flatten)),some (.pv (.int t)),some (.pv (.int u)),q9,.next,.inl rfl,?_⟩
  refine(hb).symm▸?_
  exact(aJ rfl).trans ((NA hpre).trans (aO (eY eb rfl) (aO (st₁:=gV l (some (.pv (cp (p,o,n)))) (some (.pv (.bytes (lv vo).flatten))) (some (.pv (.bytes (lv vn).flatten))) (some (.pv (.int 0))) (some (.pv (.int 0))) o9 (sS ω S) F m) rfl (aO hl (cY (Iv l p (.int t) (.int u) _ _ _ _ _ _ _ rfl F hF m (nH (eX rfl (A _).2.2.2.2) (dM rfl rfl))))))))
structure Pc where
 p:Nat
 o:OE
 n:OE
 vo:Option aU
 vn:Option aU
 t:Int
 u:Int
noncomputable def Pc.ch(c:Pc):Ch:=(c.p,c.o,c.n)
structure Pc.ok(S:List It)(c:Pc):Prop where
 one:one c.o c.n
 ho:eE S c.vo c.o
 hn:eE S c.vn c.n
 lo:eJ c.vo
 ln:eJ c.vn
 nm:(bz c.vo || bz c.vn)=false→Nm c.vo c.vn c.t c.u
noncomputable def Pc.nu(c:Pc):PV:=Th c.p (bz c.vo || bz c.vn) c.t c.u
theorem Yb(ω:Dk)(S:List It)(l:List PV):∀(cs:List Pc),(∀ c∈cs,c.ok S)→∀(F:List PV) (m:Nat) (o4 o5 o6 o7 o8 o9:Option SV),cs.length+m≤3→F.length≤m→
  ∃ q4 q5 q6 q7 q8 q9,fM (cs.map fun c=>cp c.ch) (fun x=>bd (nT 4 x) fun _=>Xy) (gV l o4 o5 o6 o7 o8 o9 (sS ω S) F m)=some (.next,gV l q4 q5 q6 q7 q8 q9 (sS ω S) (F++cs.map Pc.nu) (m+cs.length))
 | [],_,F,m,o4,o5,o6,o7,o8,o9,_,_=>⟨o4,o5,o6,o7,o8,o9,by rw [List.map_nil,List.map_nil,gQ];rfl⟩
 |c::cs,h,F,m,o4,o5,o6,o7,o8,o9,hm,hF=>by
  rw [tQ] at hm
  have k:=h c (uS ..)
  have hm':=aP (dS (wB cs.length m).symm) hm
  have h2:m≤2:=TP (aP (MD _ _) hm')
  obtain⟨q4,q5,q6,q7,q8,q9,f,hf,e⟩:=aPn ω S l c.p c.o c.n k.one c.vo c.vn k.ho k.hn k.lo k.ln c.t c.u k.nm o4 o5 o6 o7 o8 o9 F (ub (aP hF h2) rfl) m (PO m h2)
  obtain⟨r4,r5,r6,r7,r8,r9,e'⟩:=Yb ω S l cs (fun c hc=>h c (sG _ hc)) (F++[c.nu]) (m+1) q4 q5 q6 q7 q8 q9 hm' (aP (dS (xC F _)) (lC hF))
  refine⟨r4,r5,r6,r7,r8,r9,?_⟩
  have e0:F++(c::cs).map Pc.nu=F++[c.nu]++cs.map Pc.nu:=by simp
  have e1:m+(c::cs).length=m+1+cs.length:=(wB m cs.length).symm
  refine(e0).symm▸(e1).symm▸?_
  rcases hf with rfl | rfl
  ·exact(gR e).trans e'
  ·exact(IM e).trans e'
theorem aJb(ω:Dk)(S:List It)(cs:List Pc)(h:∀ c∈cs,c.ok S)(hl:cs.length≤3)(ex:List SO):YW [.ref 5,.pv (.lst (cs.map fun c=>cp c.ch))] (sS ω S++ex)=some (.pv (.lst (cs.map Pc.nu)),sS ω S++ex):=by
 obtain⟨q4,q5,q6,q7,q8,q9,e⟩:=Yb ω S (cs.map fun c=>cp c.ch) cs h [] 0 none none none none none none hl (by decide)
 rw [oD,kL] at e
 exact iQ (j:=.dead::mZ cs.length .dead) (eK (st:=⟨(gV (cs.map fun c=>cp c.ch) q4 q5 q6 q7 q8 q9 [] [] 0).loc,sS ω S++.dead::mZ cs.length .dead⟩) rfl (aO (st₁:=gV (cs.map fun c=>cp c.ch) none none none none none none (sS ω S) [] 0) (by rfl) (aO ((mT (a:=.pv (.lst (cs.map fun c=>cp c.ch))) (xs:=cs.map fun c=>cp c.ch) rfl rfl).trans e) (fC (fF (by rfl)))))) rfl rfl
noncomputable def cV(v:Option aU):PV:=match v with
 |some v=>vp v
 |none=>.none
theorem aAZ(l:List Nat)(near:List (List Nat)):wN 7 (near.map .bytes) (.bytes l)=some (decide (l∈near)):=by
 induction near with
 |nil=>exact congrArg some (decide_eq_false GR).symm
 |cons x near ih=>
  show(match wN 7 (near.map .bytes) (.bytes l) with | some b=>some (eqL x l || b) | none=>none)=_
  refine(ih).symm▸?_
  refine congrArg some ?_
  rw [qS,Bool.or_eq_true,jL,decide_eq_true_iff,decide_eq_true_iff,AL,eq_comm]
theorem aIP(l:List Nat)(near:List (List Nat))(st:St):fE (.pv (.bytes l)) (.pv (lp near)) st=some (!decide (l∈near),st):=
 pP ((aJ (onSome_eq (aAZ l near):uC (.pv (.bytes l)) (.pv (lp near)) st=some (decide (l∈near),st))).trans rfl)
noncomputable def lY(near far:List (List Nat)):List (List Nat):=far.filter fun l=> !decide (l∈near)
theorem PN(near far:List (List Nat)):(lY near far).length≤far.length:=Hh ..
theorem PM(h:n=10∨n=0):n≤100:=h.elim (fun e=>ub (dS e) rfl) fun e=>ub (dS e) rfl
theorem XK(loc:List (Option SV))(cs:List SO)(cap:List (Option Nat))(near far:List (List Nat))(hf:far.length≤100)(i:Nat)(hi:aA i ⟨loc,cs⟩=some (.pv (lp far),⟨loc,cs⟩))(hcap:pR cap loc= [none,none,some (.pv (lp near))]):
  eH dN (aA i) cap (nT 1) (t2 (aA 1) (aA 2) fE) (aA 1) ⟨loc,cs⟩=some (.pv (lp (lY near far)),⟨loc,cs⟩):=by
 obtain⟨o',e⟩:=yZ (g:=nT 1) (t:=t2 (aA 1) (aA 2) fE) (m:=aA 1) (fun o=>⟨[none,o,some (.pv (lp near))],cs⟩) (fun x=>match x with | .bytes l=> !decide (l∈near) | _=>false) id (far.map .bytes) (fun _ _=>rfl) (fun x hx=>by
  obtain⟨l,_,rfl⟩:=List.mem_map.mp hx
  exact(jO rfl rfl).trans (aIP l near _)) (fun x _ _=>rfl) none
 have hy:((far.map PV.bytes).filter (fun x=>match x with | .bytes l=> !decide (l∈near) | _=>false)).map id=(lY near far).map .bytes:=by
  rw [GQ,TB]
  rfl
 rw [hy] at e
 exact tZ (st₂:=⟨[none,o',some (.pv (lp near))],cs⟩) (xs:=far.map .bytes) hi rfl (by rw [bT];exact ub hf rfl) ((hcap).symm▸e)
theorem Xv(v:Option aU)(h:eJ v)(ex:List SO):EJ [.pv (cV v)] ex=some (.pv (.bool (!bz v)),ex):=by
 cases v with
 |none=>kernel_rfl
 |some v=>
  obtain⟨x,z,ns⟩:=v
  obtain⟨n₀,n₁,n₂,n₃,n₄,n₅,n₆,n₇,n₈,n₉⟩:=zP h
  refine mW (j:=[]) ?_ rfl
  cases z <;> kernel_rfl
theorem Rn(v:Option aU)(ex:List SO):OG [.pv (cV v)] ex=some (.pv (lp (lv v)),ex):=by
 cases v <;> kernel_rfl
noncomputable def cF(near far:List (List Nat)):Int:=((lY near far).length:Nat)
theorem aHP(vo vn:Option aU)(ho:eJ vo)(hn:eJ vn)(ex:List SO):IH [.pv (cV vo),.pv (cV vn)] ex=some (.pv (.tup [mE (bz vo || bz vn) (cF (lv vo) (lv vn)),mE (bz vo || bz vn) (cF (lv vn) (lv vo))]),ex):=by
 have lo:=Sa ho
 have ln:=Sa hn
 have eb:hJ (tn (tv (cf EJ (ar [(aA 0)])))) (hJ (tn (tv (cf EJ (ar [(aA 1)])))) (rt false)) ⟨[some (.pv (cV vo)),some (.pv (cV vn)),none,none,none,none,none],[]⟩=some (bz vo || bz vn,⟨[some (.pv (cV vo)),some (.pv (cV vn)),none,none,none,none,none],[]⟩):=by
  refine(aJ (a:=bz vo) ((aJ ((aJ (lI (iL rfl) (Xv vo ho _))).trans rfl)).trans (by cases bz vo <;> rfl))).trans ?_
  cases bz vo with
  |true=>rfl
  |false=>
   refine(aJ (a:=bz vn) ((aJ ((aJ (lI (iL rfl) (Xv vn hn _))).trans rfl)).trans (by cases bz vn <;> rfl))).trans ?_
   cases bz vn <;> rfl
 cases hb:(bz vo || bz vn) with
 |true=>
  rw [hb] at eb
  exact mW (eK rfl (AY (iD eb rfl))) rfl
 |false=>
  rw [hb] at eb
  have hlen:∀(l:List (List Nat)) st,l.length≤100→iP (.pv (lp l)) st=some (.pv (.int (l.length:Nat)),st):=fun l st hl=>by
   refine pP ?_
   show(match decide ((l.map PV.bytes).length≤1000000) with | true=>some ((.pv (.int ((l.map PV.bytes).length:Nat)):SV),st) | false=>none)=_
   rw [bT,decide_eq_true (ub hl rfl)]
  have l1:=PN (lv vo) (lv vn)
  have l2:=PN (lv vn) (lv vo)
  refine mW (eK rfl (aO (eY eb rfl) (aO (HP (dM (lI (iL rfl) (Rn vo _)) (lI (iL rfl) (Rn vn _))) rfl) (fC (fF (zG (dM (eX (XK _ _ _ (lv vo) (lv vn) (PM ln) 3 rfl rfl) (hlen _ _ (aP l1 (PM ln)))) (eX (XK _ _ _ (lv vn) (lv vo) (PM lo) 2 rfl rfl) (hlen _ _ (aP l2 (PM lo))))) rfl)))))) rfl
inductive Rv:Option aU→Option aU→Prop
 |add (w:aU):w.ns.length=10→(bK w.z w.ns).Nodup→Rv none (some w)
 |del (v:aU):v.ns.length=10→(bK v.z v.ns).Nodup→Rv (some v) none
 |cut (v w:aU) (k:Nat) (F:List (List Nat)):v.ns.length=10→w.ns.length=10→k≤10→F.length=k→(bK v.z v.ns++F).Nodup→bK w.z w.ns=(bK v.z v.ns).take (10 - k)++F→Rv (some v) (some w)
theorem Rb(l:List (List Nat)):lY [] l=l:=by
 unfold lY;simp
theorem Aw(a b:List (List Nat))(h:∀ x∈b,x∈a):lY a b= []:=by
 unfold lY
 rw [List.filter_eq_nil_iff]
 intro x hx
 simp [h x hx]
theorem aHz(a F:List (List Nat))(k:Nat)(hn:(a++F).Nodup):lY a (a.take k++F)=F:=by
 have h1:lY a (a.take k)= []:=Aw _ _ fun x hx=>TL hx
 have h2:lY a F=F:=by
  unfold lY
  rw [List.filter_eq_self]
  intro x hx
  simp only [RX,decide_eq_false_iff_not]
  exact fun hm=>(List.nodup_append.mp hn).2.2 x hm x hx rfl
 unfold lY at h1 h2 ⊢
 rw [List.filter_append,h1,h2,oD]
theorem aHA(a F:List (List Nat))(k:Nat)(hn:(a++F).Nodup):lY (a.take k++F) a=a.drop k:=by
 have hsplit:a=a.take k++a.drop k:=(List.take_append_drop k a).symm
 have hna:(a.take k++a.drop k).Nodup:=hsplit▸(List.nodup_append.mp hn).1
 have h1:lY (a.take k++F) (a.take k)= []:=Aw _ _ fun x hx=>List.mem_append_left _ hx
 have h2:lY (a.take k++F) (a.drop k)=a.drop k:=by
  unfold lY
  rw [List.filter_eq_self]
  intro x hx
  simp only [RX,decide_eq_false_iff_not,uR,not_or]
  exact⟨fun hm=>(List.nodup_append.mp hna).2.2 x hm x hx rfl,fun hm=>(List.nodup_append.mp hn).2.2 x (List.mem_of_mem_drop hx) x hm rfl⟩
 unfold lY at h1 h2 ⊢
 have:∀ p:List Nat→Bool,a.filter p=(a.take k).filter p++(a.drop k).filter p:=fun p=>by rw [←List.filter_append,←hsplit]
 rw [this,h1,h2,oD]
theorem Rv.nm{vo vn:Option aU}(h:Rv vo vn):Nm vo vn (cF (lv vo) (lv vn)) (cF (lv vn) (lv vo)):=by
 cases h with
 |add w hl hn=>
  refine⟨_,fun ex=>aBN (lv (some w)) ((sV _ _).trans hl) hn ex,.inr ⟨0,0,0,10,rfl,?_,?_⟩⟩
  ·show cF [] _=_
   unfold cF
   rw [Rb]
   show((bK w.z w.ns).length:Int)=_
   rw [sV,hl]
   rfl
  ·show cF _ []=_
   rfl
 |del v hl hn=>
  refine⟨_,fun ex=>aBQ (lv (some v)) ((sV _ _).trans hl) hn ex,.inr ⟨0,10,0,0,rfl,?_,?_⟩⟩
  ·show cF _ []=_
   rfl
  ·show cF [] _=_
   unfold cF
   rw [Rb]
   show((bK v.z v.ns).length:Int)=_
   rw [sV,hl]
   rfl
 |cut v w k F hl hw hk hF hn he=>
  have hal:(bK v.z v.ns).length=10:=(sV _ _).trans hl
  refine⟨ck k,fun ex=> ?_,?_⟩
  ·show uA [_,.pv (lp (bK v.z v.ns)),.pv (lp (bK w.z w.ns))] ex=_
   refine(he).symm▸?_
   exact aBP _ F k hk hal hF hn ex
  ·show(_∧cF (bK v.z v.ns) (bK w.z w.ns)=0∧cF (bK w.z w.ns) (bK v.z v.ns)=0)∨_
   have e1:cF (bK v.z v.ns) (bK w.z w.ns)=(k:Nat):=by
    unfold cF
    rw [he,aHz _ _ _ hn,hF]
   have e2:cF (bK w.z w.ns) (bK v.z v.ns)=(k:Nat):=by
    unfold cF
    rw [he,aHA _ _ _ hn,TK,hal]
    exact congrArg (fun n:Nat=>(n:Int)) (Nat.sub_sub_self hk)
   rw [e1,e2]
   cases k with
   |zero=>exact .inl ⟨rfl,rfl,rfl⟩
   |succ k=>
    refine .inr ⟨_,_,_,_,rfl,?_,?_⟩
    ·show cF (bK v.z v.ns) (bK w.z w.ns)=_
     rw [e1];exact((Int.zero_add _).trans (Int.sub_sub_self 10 _)).symm
    ·show cF (bK w.z w.ns) (bK v.z v.ns)=_
     rw [e2];exact((Int.zero_add _).trans (Int.sub_sub_self 10 _)).symm
noncomputable def kZ(a:Int)(o:Nat):Int:=Int.fmod (a*1009+(o:Nat)+1) 2147483647
noncomputable def hsh(l:List Nat):Int:=l.foldl kZ 0
structure AI where
 (c0 c1 c2 c3 c4 c5 c6 c7 c8 c9 c10:SO)
noncomputable def AI.l(E:AI):List SO:=[E.c0,E.c1,E.c2,E.c3,E.c4,E.c5,E.c6,E.c7,E.c8,E.c9,E.c10]
theorem PF(a b:Int):jC (.int a) (.int b)=true↔a=b:=EF
noncomputable def oT(H:List Int):List PV:=H.map fun _=>.int 4
noncomputable def qQ(s:Int)(H:List Int):List SO:=[.inst 5 [.pv (.int s),.ref 12],.dict .int (H.map .int) (oT H)]
theorem Yg(h:c.length≤n):CQ v n c=c:=by
 unfold CQ
 split
 ·exact Hl h
 ·rfl
section
variable{E:AI}{s:Int}{H:List Int}{h:Int}
theorem aOH(hh:h∉H)(hl:H.length≤1000):BH [.ref 11,.pv (.int h),.pv (.int 4)] (E.l++qQ s H)=some (.pv .none,E.l++qQ (s+4) (H++[h])):=by
 have e:bH 3 (gN 3) Jz [.ref 11,.pv (.int h),.pv (.int 4)] (E.l++qQ s H)=some (.pv .none,E.l++qQ (s+4) (H++[h])):=by
  let st:St:=⟨[some (.ref 11),some (.pv (.int h)),some (.pv (.int 4))],E.l++[SO.inst 5 [SV.pv (.int (s+4)),.ref 12],.dict .int (H.map .int) (oT H)]⟩
  refine KQ (st:=⟨st.loc,E.l++qQ (s+4) (H++[h])⟩) rfl ?_
  refine aO (st₁:=st) (by kernel_rfl) (cY ?_)
  have e1:zH (.ref 12) (.pv (.int h)) (.pv (.int 0)) st=some (.pv (.int 0),st):=(Oi rfl rfl).trans (by rw [ES PF hh];rfl)
  refine tY (c:=.pv (.int 4)) (b:=.pv (.int h)) (st₁:=st) (u:=()) ?_ ?_ (by rfl) (by rfl)
  ·refine jJ (a:=.pv (.int 0)) (b:=.pv (.int 4)) ?_ (by rfl) (by rfl)
   exact(Sk (a:=.ref 12) (b:=.pv (.int h)) (c:=.pv (.int 0)) (st₁:=st) (st₂:=st) (st₃:=st) (st₄:=st) (u:=()) (by rfl) (by rfl) (by rfl) (by rfl)).trans e1
  ·refine(Wl (ks:=H.map .int) (vs:=oT H) rfl rfl (by rw [bT];exact hl) (ER PF hh)).trans ?_
   rw [show H.map PV.int++[.int h]=(H++[h]).map .int from by rw [cW];rfl,show oT H++[.int 4]=oT (H++[h]) from by unfold oT;rw [cW];rfl]
   rfl
 unfold BH pA
 rw [e]
 dsimp only
 rw [Yg]
 exact cZ _
end
noncomputable def RA:PV→M Fl:=fun x=>bd (nT 6 x) fun _=>bl [(bA 7 (b2 (aA 1) (aA 6) aW)),
 (bJ (cH (tv (aA 3)) (cH (t2 (aA 7) (kI 13) cN) (cH (t2 (pV (aA 1) (pa (b2 (aA 6) (kI 1) bP)) (pa (b2 (aA 6) (kI 2) bP))) (kY [10]) cN) (rt true)))) (bl [(rt .cont)]) (bl [])),
 (bA 4 (b2 (b2 (b2 (b2 (aA 4) (kI 1009) qM) (aA 7) bP) (kI 1) bP) (ge a_WRAP (aA 0)) (bZ mD))),
 (au 5 jM (kI 1)),
 (bJ (hJ (t2 (aA 7) (kI 10) cN) (hJ (t2 (aA 5) (aA 2) cN) (rt false))) (bl [(ex (mc 5 BH (aA 0) (ar [(aA 4),(aA 5)]))),
 (nI [4,5] (ar [(kI 0),(kI 0)]))]) (bl []))]
section
variable{E:AI}
noncomputable def kX(E:AI)(bs:List Nat)(t:Bool)(a:Int)(k:Int)(u v:Option SV)(s:Int)(H:List Int):St:=
 ⟨[some (.ref 11),some (.pv (.bytes bs)),some (.pv (.int 64)),some (.pv (.bool t)),some (.pv (.int a)),some (.pv (.int k)),u,v,none,none,none],E.l++qQ s H⟩
variable{bs:List Nat}{t:Bool}{a k s:Int}{u v:Option SV}{H:List Int}{i o:Nat}
theorem aGS{i:Int}(h0:decide (0≤i)=true)(h1:decide (i < 1000000)=true)(h2:decide (bs.length≤1000000)=true)(hi:bs[i.toNat]? =some y):JC (.pv (.bytes bs)) (.pv (.int i)) st=some (.pv (.int (y:Nat)),st):=by
 show gd (decide (0≤i) && decide (i < 1000000)) (eZ bs[i.toNat]? fun y=>dQ bs.length (rt (SV.pv (.int (y:Nat))))) st=_
 unfold dQ
 refine(h0).symm▸(h1).symm▸(h2).symm▸(hi).symm▸?_
 rfl
theorem aJg{st:St}(hi:bs[i]? =some o)(hb:bs.length≤1000):aW (.pv (.bytes bs)) (.pv (.int (i:Nat))) st=some (.pv (.int (o:Nat)),st):=by
 have hl:i < bs.length:=by
  rcases GV i bs.length with h | h
  ·exact h
  ·rw [TG h] at hi;exact aT hi
 have e:JC (.pv (.bytes bs)) (.pv (.int (i:Nat))) st=some (.pv (.int (o:Nat)),st):=
  aGS (decide_eq_true (SS i)) (decide_eq_true (Int.ofNat_lt.mpr (AN hl (aP hb (by decide))))) (decide_eq_true (aP hb (by decide))) (by rw [Int.toNat_natCast];exact hi)
 exact pP e
theorem Ml(x y:Int):cN (.pv (.int x)) (.pv (.int y)) st=some (eqI x y,st):=rfl
theorem Mj(h:x≠y):eqI x y=false:=by
 cases e:eqI x y with
 |true=>exact absurd (EF.mp e) h
 |false=>rfl
theorem To(hi:bs[i]? =some o)(hb:bs.length≤1000)(ho':o≠13)(hk:k=0∨k=1∨k=2∨k=3)
  (h:bl [(bJ (hJ (t2 (aA 7) (kI 10) cN) (hJ (t2 (aA 5) (aA 2) cN) (rt false))) (bl [(ex (mc 5 BH (aA 0) (ar [(aA 4),(aA 5)]))),
 (nI [4,5] (ar [(kI 0),(kI 0)]))]) (bl []))] (kX E bs t (kZ a o) (k+1) (some (.pv (.int (i:Nat)))) (some (.pv (.int (o:Nat)))) s H)=r):
  RA (.int (i:Nat)) (kX E bs t a k u v s H)=r:=by
 have e13:eqI (o:Nat) 13=false:=Mj fun e=>ho' (Int.ofNat.inj e)
 refine(aJ rfl).trans ?_
 refine aO (st₁:=kX E bs t a k (some (.pv (.int (i:Nat)))) (some (.pv (.int (o:Nat)))) s H) ?_ ?_
 ·exact iM (jJ rfl rfl (aJg hi hb))
 refine aO (st₁:=kX E bs t a k (some (.pv (.int (i:Nat)))) (some (.pv (.int (o:Nat)))) s H) ?_ ?_
 ·refine eY ?_ rfl
  cases t with
  |false=>rfl
  |true=>
   refine(aJ (st₁:=kX E bs true a k (some (.pv (.int (i:Nat)))) (some (.pv (.int (o:Nat)))) s H) (by rfl)).trans ?_
   refine(aJ (a:=false) (st₁:=kX E bs true a k (some (.pv (.int (i:Nat)))) (some (.pv (.int (o:Nat)))) s H) ?_).trans (by rfl)
   refine(jO (a:=.pv (.int (o:Nat))) (b:=.pv (.int 13)) (by rfl) (by rfl)).trans ?_
   rw [Ml,e13]
 refine aO (st₁:=kX E bs t (kZ a o) k (some (.pv (.int (i:Nat)))) (some (.pv (.int (o:Nat)))) s H) (by kernel_rfl) ?_
 exact aO (st₁:=kX E bs t (kZ a o) (k+1) (some (.pv (.int (i:Nat)))) (some (.pv (.int (o:Nat)))) s H) (by rfl) h
theorem Co(hi:bs[i]? =some o)(hb:bs.length≤1000)(ho:o≠10)(ho':o≠13)(hk:k=0∨k=1∨k=2):
  RA (.int (i:Nat)) (kX E bs t a k u v s H)=some (.next,kX E bs t (kZ a o) (k+1) (some (.pv (.int (i:Nat)))) (some (.pv (.int (o:Nat)))) s H):=by
 refine To hi hb ho' (hk.elim .inl fun h=>.inr (h.elim .inl fun h=>.inr (.inl h))) (cY ?_)
 refine eY ?_ rfl
 refine(aJ (a:=false) (st₁:=kX E bs t (kZ a o) (k+1) (some (.pv (.int (i:Nat)))) (some (.pv (.int (o:Nat)))) s H) ?_).trans ?_
 ·refine(jO rfl rfl).trans ?_
  rw [Ml,show eqI (o:Nat) 10=false from Mj fun e=>ho (Int.ofNat.inj e)]
 ·rcases hk with rfl | rfl | rfl <;> rfl
theorem aJf(hi:bs[i]? =some 10)(hb:bs.length≤1000)(hh:kZ a 10∉H)(hl:H.length≤1000):
  RA (.int (i:Nat)) (kX E bs t a 3 u v s H)=some (.next,kX E bs t 0 0 (some (.pv (.int (i:Nat)))) (some (.pv (.int 10))) (s+4) (H++[kZ a 10])):=by
 refine To hi hb (by decide) (.inr (.inr (.inr rfl))) (cY ?_)
 refine iD rfl ?_
 refine aO (st₁:=kX E bs t (kZ a 10) 4 (some (.pv (.int (i:Nat)))) (some (.pv (.int 10))) (s+4) (H++[kZ a 10])) ?_ (cY rfl)
 exact sQ (jN (st₃:=kX E bs t (kZ a 10) 4 (some (.pv (.int (i:Nat)))) (some (.pv (.int 10))) s H) rfl rfl rfl (aOH hh hl))
end
noncomputable def wD(l:List Nat):Prop:=∃ z n,n < 100∧l=lZ z n
noncomputable def Pn(x:Int):Bool×Nat:=match bX x.toNat 1200000000 with
 |true=>(true,(x.toNat - 1077179150) / 1018081*10+(x.toNat - 1077179150) % 1018081 / 1009)
 |false=>(false,(x.toNat - 1276028478) / 1018081*10+(x.toNat - 1276028478) % 1018081 / 1009)
theorem Pq:∀(z:Bool) (n:Fin 100),Pn (hsh (lZ z n.val))=(z,n.val):=by decide+kernel
theorem Pr(ha:wD a)(hb:wD b)(h:hsh a=hsh b):a=b:=by
 obtain⟨z,n,hn,rfl⟩:=ha
 obtain⟨y,m,hm,rfl⟩:=hb
 cases (Pq z ⟨n,hn⟩).symm.trans ((congrArg Pn h).trans (Pq y ⟨m,hm⟩))
 rfl
theorem Sg{L:List (List Nat)}(hp:∀ l∈L,wD l)(hn:L.Nodup):(L.map hsh).Nodup:=by
 induction L with
 |nil=>exact pK
 |cons a L ih=>
  rw [iX,MA]
  refine⟨fun hm=> ?_,ih (fun l h=>hp l (sG _ h)) (List.nodup_cons.mp hn).2⟩
  obtain⟨b,hb,e⟩:=List.mem_map.mp hm
  exact(List.nodup_cons.mp hn).1 (Pr (hp b (sG _ hb)) (hp a (uS ..)) e▸hb)
section
variable{E:AI}{bs:List Nat}{t:Bool}
theorem QE(x:Nat):x+48≠10∧x+48≠13:=⟨fun h=>absurd (h▸MD 48 x:48≤10) (by decide),fun h=>absurd (h▸MD 48 x:48≤13) (by decide)⟩
noncomputable def hdZ:Bool→Nat
 |true=>0
 |false=>65
theorem aHW(z:Bool)(n:Nat):lZ z n= [hdZ z,n / 10+48,n % 10+48,10]∧hdZ z≠10∧hdZ z≠13:=by
 cases z <;> exact⟨rfl,by decide,by decide⟩
theorem aOF(hb:bs.length≤1000)(L:List (List Nat)):∀(i:Nat) (H:List Int) (s:Int) (u v:Option SV),(∀ l∈L,wD l)→(∀ j,bs[i+j]? =L.flatten[j]?)→(H++L.map hsh).Nodup→H.length+L.length≤1000→
  ∃ u' v',fM (qO (4*L.length) (i:Nat) 1) RA (kX E bs t 0 0 u v s H)=some (.next,kX E bs t 0 0 u' v' (s+((4*L.length:Nat):Int)) (H++L.map hsh)):=by
 induction L with
 |nil=>exact fun i H s u v _ _ _ _=>⟨u,v,by rw [List.map_nil,gQ,show s+((4*([]:List (List Nat)).length:Nat):Int)=s from Int.add_zero s];rfl⟩
 |cons l L ih=>
  intro i H s u v hp g hn hl
  obtain⟨z,n,_,rfl⟩:=hp l (.head _)
  obtain⟨e,p0,p1⟩:=aHW z n
  let q:=n / 10+48
  let r:=n % 10+48
  have g:∀ j,bs[i+j]? =(hdZ z::q::r::10::L.flatten)[j]?:=fun j=>by rw [g j,TF,e];rfl
  have hh:hsh (lZ z n)=kZ (kZ (kZ (kZ 0 (hdZ z)) q) r) 10:=by rw [e];rfl
  have hm:H++(lZ z n::L).map hsh=H++[hsh (lZ z n)]++L.map hsh:=by rw [gP];rfl
  rw [hm] at hn ⊢
  have hnot:=(List.nodup_append.mp (List.nodup_append.mp hn).1).2.2
  have e1:=Co (E:=E) (t:=t) (a:=0) (s:=s) (H:=H) (u:=u) (v:=v) (g 0) hb p0 p1 (.inl rfl)
  have e2:=Co (E:=E) (t:=t) (a:=kZ 0 (hdZ z)) (s:=s) (H:=H) (k:=1) (u:=some (.pv (.int (i:Nat)))) (v:=some (.pv (.int (hdZ z:Nat)))) (g 1) hb (QE _).1 (QE _).2 (.inr (.inl rfl))
  have e3:=Co (E:=E) (t:=t) (a:=kZ (kZ 0 (hdZ z)) q) (s:=s) (H:=H) (k:=2) (u:=some (.pv (.int ((i+1:Nat):Int)))) (v:=some (.pv (.int (q:Nat)))) (g 2) hb (QE _).1 (QE _).2 (.inr (.inr rfl))
  have e4:=aJf (E:=E) (t:=t) (a:=kZ (kZ (kZ 0 (hdZ z)) q) r) (s:=s) (u:=some (.pv (.int ((i+2:Nat):Int)))) (v:=some (.pv (.int (r:Nat)))) (g 3) hb (fun m=>hnot _ m _ (.head _) hh.symm) (aP (oF _ _) hl)
  rw [←hh] at e4
  obtain⟨u',v',e5⟩:=ih (i+4) (H++[hsh (lZ z n)]) (s+4) (some (.pv (.int ((i+3:Nat):Int)))) (some (.pv (.int 10))) (fun l h=>hp l (.tail _ h)) (fun j=>by rw [uU,vZ 4,g];rfl) hn (by rw [fH,uU,vZ [hsh (lZ z n)].length];exact hl)
  refine⟨u',v',(gR e1).trans ((gR e2).trans ((gR e3).trans ((gR e4).trans ?_)))⟩
  rw [show s+((4*(lZ z n::L).length:Nat):Int)=s+4+((4*L.length:Nat):Int) by rw [Int.add_assoc,Int.add_comm 4];rfl]
  exact e5
end
section
variable{E:AI}
theorem aOG(z:Bool)(ns:List Nat)(hl:ns.length=10)(hp:∀ l∈bK z ns,wD l)(hn:(bK z ns).Nodup):
  IE [.ref 11,.pv (.bytes (ct z ns))] (E.l++[.inst 5 []])=some (.pv .none,E.l++qQ 40 ((bK z ns).map hsh)):=by
 have hL:(bK z ns).length=10:=(sV _ _).trans hl
 have hb:vI [.pv (.bytes (ct z ns))] (E.l++qQ 0 [])=some (.pv (.bool z),_):=WM (some ⟨false,z,ns⟩) hl _
 have hlen:(ct z ns).length=40:=by
  obtain⟨n₀,n₁,n₂,n₃,n₄,n₅,n₆,n₇,n₈,n₉⟩:=zP hl
  cases z <;> rfl
 have hrng:∀ st:St,iP (.pv (.bytes (ct z ns))) st=some (.pv (.int 40),st):=fun st=>by
  refine pP ?_
  obtain⟨n₀,n₁,n₂,n₃,n₄,n₅,n₆,n₇,n₈,n₉⟩:=zP hl
  cases z <;> kernel_rfl
 have hmap:=Sg hp hn
 obtain⟨u',v',e⟩:=aOF (E:=E) (bs:=ct z ns) (t:= !z) (by rw [hlen];decide) (bK z ns) 0 [] 0 none none hp (fun j=>by rw [kL];rfl) hmap (by rw [hL];decide)
 replace e:=(hL)▸e
 refine KQ (bs:=[.ref 11,.pv (.bytes (ct z ns)),.pv (.int 64)]) (st:=kX E (ct z ns) (!z) 0 0 u' v' 40 ((bK z ns).map hsh)) rfl ?_
 refine aO (st₁:=⟨[some (.ref 11),some (.pv (.bytes (ct z ns))),some (.pv (.int 64)),none,none,none,none,none,none,none,none],E.l++[SO.inst 5 [SV.pv (.int 0)]]⟩) (by kernel_rfl) ?_
 refine aO (st₁:=⟨[some (.ref 11),some (.pv (.bytes (ct z ns))),some (.pv (.int 64)),none,none,none,none,none,none,none,none],E.l++qQ 0 []⟩) (by kernel_rfl) ?_
 refine aO (st₁:=⟨[some (.ref 11),some (.pv (.bytes (ct z ns))),some (.pv (.int 64)),some (.pv (.bool (!z))),none,none,none,none,none,none,none],E.l++qQ 0 []⟩) ?_ ?_
 ·refine iM (v:=.pv (.bool (!z))) (st₁:=⟨[some (.ref 11),some (.pv (.bytes (ct z ns))),some (.pv (.int 64)),none,none,none,none,none,none,none,none],E.l++qQ 0 []⟩) ?_
  refine(aJ (a:=.pv (.bool z)) (st₁:=⟨[some (.ref 11),some (.pv (.bytes (ct z ns))),some (.pv (.int 64)),none,none,none,none,none,none,none,none],E.l++qQ 0 []⟩) ?_).trans ?_
  ·refine lI (as:=[.pv (.bytes (ct z ns))]) ?_ hb
   rfl
  cases z <;> rfl
 refine aO (st₁:=kX E (ct z ns) (!z) 0 0 none none 0 []) (by rfl) ?_
 refine aO (st₁:=kX E (ct z ns) (!z) 0 0 u' v' 40 ((bK z ns).map hsh)) ?_ ?_
 ·refine(mT (a:=.pv (.rng 0 40 1)) (st₁:=kX E (ct z ns) (!z) 0 0 none none 0 []) (xs:=qO 40 0 1) ?_ (by rfl)).trans e
  exact eX (a:=.pv (.int 40)) (eX (a:=.pv (.bytes (ct z ns))) (by rfl) (hrng _)) (by rfl)
 ·kernel_rfl
end
noncomputable def eM(H:List Int):PV:=.obj 5 [.int 40,.dct .int (H.map .int) (oT H)]
noncomputable def gS(S:List It)(i:Nat):List Int:=match S[i]? with
 |some (.blob z ns)=>(bK z ns).map hsh
 |_=>[]
noncomputable def bI(S:List It)(I:List Nat):SO:=.dict .bytes (I.map aN) (I.map fun i=>eM (gS S i))
noncomputable def Cr(S:List It)(i:Nat):Prop:=∃ z ns,S[i]? =some (.blob z ns)∧ns.length=10∧(∀ l∈bK z ns,wD l)∧(bK z ns).Nodup
theorem OX(i j:Nat):jC (aN i) (aN j)=true↔i=j:=by
 show eqL (dI (i+1)) (dI (j+1))=true↔_
 rw [jL]
 exact⟨fun h=>wA (QI h),fun h=>by rw [h]⟩
noncomputable abbrev bC(ω:Dk)(S:List It)(I:List Nat)(F:List PV):List SO:=sS ω S++[.inst 6 [.ref 5,.ref 9],bI S I,.list F]
inductive aAd(ω:Dk)(S:List It)(i:Nat)(I:List Nat):Prop
 |mk (I':_) (hh0:I'.Nodup) (hh1:I'.length≤I.length+1) (hh2:∀ F,zE [.ref 8,.pv (aN i)] (bC ω S I F)=some (.pv (eM (gS S i)),bC ω S I' F))
theorem Xf(ω:Dk)(S:List It){i:Nat}(h:Cr S i)(I:List Nat)(hI:I.Nodup)(hl:I.length≤20):aAd ω S i I:=by
 have sub:∀(I:List Nat) (F:List PV) (loc:List (Option SV)) (ex:List SO),I.Nodup→i∈I→aW (.ref 9) (.pv (aN i)) ⟨loc,bC ω S I F++ex⟩=some (.pv (eM (gS S i)),⟨loc,bC ω S I F++ex⟩):=fun I F loc ex hI hm=>by
  obtain⟨j,hj⟩:=TH hm
  exact LF (ks:=I.map aN) (vs:=I.map fun i=>eM (gS S i)) (by rfl) (BQ OX hI hj (by rw [iW,hj];rfl))
 by_cases hm:i∈I
 ·refine⟨I,hI,oG _,fun F=> ?_⟩
  have e:bH 3 (gN 2) WV [.ref 8,.pv (aN i)] (bC ω S I F)=some (.pv (eM (gS S i)),bC ω S I F++[]):=by
   refine eK (st:=⟨[some (.ref 8),some (.pv (aN i)),none],bC ω S I F++[]⟩) (by rfl) (aO (eY (st₁:=⟨[some (.ref 8),some (.pv (aN i)),none],bC ω S I F++[]⟩) ?_ rfl) (fC (fF ?_)))
   ·refine(jO (a:=.pv (aN i)) (b:=.ref 9) (by rfl) (by rfl)).trans ?_
    obtain⟨j,hj⟩:=TH hm
    refine(CB (ks:=I.map aN) (vs:=I.map fun i=>eM (gS S i)) (by rfl)).trans ?_
    have:=BQ (vs:=I.map fun i=>eM (gS S i)) OX hI hj (by rw [iW,hj];rfl)
    refine(show(PV.bytes (dI (i+1)))=aN i from rfl).symm▸(this).symm▸?_
    rfl
   ·exact jJ (a:=.ref 9) (b:=.pv (aN i)) (by rfl) (by rfl) (sub I F _ [] hI hm)
  refine(KI e).trans ?_
  rw [Yg (by rw [gQ];exact cZ _),gQ]
 ·have hI':(I++[i]).Nodup:=List.nodup_append.mpr ⟨hI,List.nodup_cons.mpr ⟨GR,pK⟩,fun a ha b hb e=>by rw [List.mem_singleton.mp hb] at e;exact hm (e▸ha)⟩
  refine⟨I++[i],hI',by simp,fun F=> ?_⟩
  obtain⟨z,ns,hS,hns,hp,hn⟩:=h
  have hg:gS S i=(bK z ns).map hsh:=by unfold gS;exact(hS).symm▸rfl
  let L:List (Option SV):=[some (.ref 8),some (.pv (aN i)),none]
  have e:bH 3 (gN 2) WV [.ref 8,.pv (aN i)] (bC ω S I F)=some (.pv (eM (gS S i)),bC ω S (I++[i]) F++[.dead,.dead]):=by
   refine eK (st:=⟨L,bC ω S (I++[i]) F++[.dead,.dead]⟩) (by rfl) (aO (iD (st₁:=⟨L,bC ω S I F⟩) (r:=some (.next,⟨L,bC ω S (I++[i]) F++[.dead,.dead]⟩)) ?_ (cY ?_)) (fC (fF ?_)))
   ·refine(jO (a:=.pv (aN i)) (b:=.ref 9) (by rfl) (by rfl)).trans ?_
    refine(CB (ks:=I.map aN) (vs:=I.map fun i=>eM (gS S i)) (by rfl)).trans ?_
    rw [show(PV.bytes (dI (i+1)))=aN i from rfl,ES OX hm]
    rfl
   ·refine tY (c:=.pv (eM (gS S i))) (a:=.ref 9) (b:=.pv (aN i)) (st₁:=⟨L,bC ω S I F++[.dead,.dead]⟩) (u:=()) ?_ ?_ (by rfl) (by rfl)
    ·refine eX (a:=.ref 11) (st₁:=⟨L,bC ω S I F++qQ 40 (gS S i)⟩) ?_ (by kernel_rfl)
     refine(aJ (a:=[.pv (.bytes (ct z ns))]) (st₁:=⟨L,bC ω S I F⟩) (iL (jN (a:=.ref 5) (st₃:=⟨L,bC ω S I F⟩) (as:=[.pv (aN i)]) (u:=()) (by rfl) (by rfl) (by rfl) (Jq ω S hS _)))).trans ?_
     have hf':IE [.ref 11,.pv (.bytes (ct z ns))] (bC ω S I F++[.inst 5 []])=some (.pv .none,bC ω S I F++qQ 40 (gS S i)):=by rw [hg];exact aOG (E:=⟨_,_,_,_,_,_,_,_,_,_,_⟩) z ns hns hp hn
     show(match lV IE [.ref 11,.pv (.bytes (ct z ns))] ⟨L,bC ω S I F++[.inst 5 []]⟩ with
      |some (.pv .none,st')=>some (SV.ref 11,st')
      |_=>none)=_
     rw [DT hf']
    ·refine(QX (k:=dI (i+1)) (ks:=I.map aN) (vs:=I.map fun i=>eM (gS S i)) (j:=9) (by rfl) (by rw [bT];exact ub hl rfl) (ER OX hm)).trans ?_
     have:SO.dict .bytes (I.map aN++[PV.bytes (dI (i+1))]) ((I.map fun i=>eM (gS S i))++[eM (gS S i)])=bI S (I++[i]):=by
      unfold bI
      rw [cW,cW]
      rfl
     rw [this]
     rfl
   ·exact jJ (a:=.ref 9) (b:=.pv (aN i)) (by rfl) (by rfl) (sub (I++[i]) F _ [.dead,.dead] hI' (by simp))
  exact(KI e).trans (by kernel_rfl)
theorem aGT{k:KD}{ks vs:List PV}{h:Int}{st:St}:JC (.pv (.dct k ks vs)) (.pv (.int h)) st=none:=by
 show gd (decide (0≤h) && decide (h < 1000000)) er st=none
 cases decide (0≤h) && decide (h < 1000000) <;> rfl
noncomputable def xQ(H H':List Int)(acc:Int)(o:Option SV)(cs:List SO):St:=⟨[some (.pv (eM H)),some (.pv (eM H')),some (.pv (.int acc)),o,none],cs⟩
noncomputable def Wo:PV→M Fl:=fun x=>bd (nT 3 x) fun _=>bl [(au 2 jM (b2 (b2 (ge AX (aA 0)) (aA 3) aW) (CA JA zH (ge AX (aA 1)) (aA 3) (kI 0)) JP))]
theorem aFK{H:List Int}{i:Nat}{h:Int}(hi:H[i]? =some h):(oT H)[i]? =some (.int 4):=by
 unfold oT
 rw [iW,hi]
 rfl
theorem Nz{H:List Int}(hn:H.Nodup){h:Int}(hm:h∈H):dR (H.map .int) (oT H) (.int h)=some (.int 4):=by
 obtain⟨i,hi⟩:=TH hm
 exact BQ PF hn hi (aFK hi)
theorem aMm{H H':List Int}(hn:H.Nodup)(hn':H'.Nodup){h:Int}(hm:h∈H)(acc:Int)(o:Option SV)(cs:List SO):
  Wo (.int h) (xQ H H' acc o cs)=some (.next,xQ H H' (acc+(if h∈H' then 4 else 0)) (some (.pv (.int h))) cs):=by
 let st:=xQ H H' acc (some (.pv (.int h))) cs
 have e1:aW (.pv (.dct .int (H.map .int) (oT H))) (.pv (.int h)) st=some (.pv (.int 4),st):=(mP aGT).trans (pP (Qf rfl rfl (Nz hn hm)))
 have e2:zH (.pv (.dct .int (H'.map .int) (oT H'))) (.pv (.int h)) (.pv (.int 0)) st=some (.pv (.int (if h∈H' then 4 else 0)),st):=by
  refine(Oi (ks:=H'.map .int) (vs:=oT H') rfl rfl).trans ?_
  by_cases hm':h∈H'
  ·rw [Nz hn' hm',if_pos hm'];rfl
  ·rw [ES PF hm',if_neg hm'];rfl
 refine(aJ (a:=()) (st₁:=st) (by rfl)).trans (cY ?_)
 refine(aJ (a:=.pv (.int acc)) (st₁:=st) (by rfl)).trans ((aJ (a:=.pv (.int (if h∈H' then 4 else 0))) (st₁:=st) ?_).trans (by rfl))
 refine jJ (a:=.pv (.int 4)) (b:=.pv (.int (if h∈H' then 4 else 0))) ?_ ?_ ?_
 ·exact jJ (a:=.pv (.dct .int (H.map .int) (oT H))) (b:=.pv (.int h)) (by rfl) (by rfl) e1
 ·exact(Sk (a:=.pv (.dct .int (H'.map .int) (oT H'))) (b:=.pv (.int h)) (c:=.pv (.int 0)) (st₁:=st) (st₂:=st) (st₃:=st) (st₄:=st) (u:=()) (by rfl) (by rfl) (by rfl) (by rfl)).trans e2
 ·by_cases hm':h∈H'
  ·rw [if_pos hm'];rfl
  ·rw [if_neg hm'];rfl
theorem Wq{H H':List Int}(hn:H.Nodup)(hn':H'.Nodup)(cs:List SO):∀(l:List Int),(∀ h∈l,h∈H)→∀(acc:Int) (o:Option SV),∃ o',fM (l.map .int) Wo (xQ H H' acc o cs)=some (.next,xQ H H' (acc+4*((l.filter fun h=>decide (h∈H')).length:Nat)) o' cs)
 | [],_,acc,o=>⟨o,by
   show some (Fl.next,_)=_
   have:acc+4*(((([]:List Int).filter fun h=>decide (h∈H')).length:Nat):Int)=acc:=by simp
   rw [this]⟩
 |h::l,hl,acc,o=>by
  obtain⟨o',e⟩:=Wq hn hn' cs l (fun x hx=>hl x (sG _ hx)) (acc+(if h∈H' then 4 else 0)) (some (.pv (.int h)))
  refine⟨o',(gR (aMm hn hn' (hl h (uS ..)) acc o cs)).trans (e.trans ?_)⟩
  have:acc+(if h∈H' then 4 else 0)+4*(((l.filter fun h=>decide (h∈H')).length:Nat):Int)=acc+4*((((h::l).filter fun h=>decide (h∈H')).length:Nat):Int):=by
   by_cases hm:h∈H'
   ·rw [if_pos hm,TA (by simpa using hm),tQ];exact(Int.add_assoc acc 4 _).trans (congrArg (acc+ ·) ((Int.add_comm 4 _).trans (Int.mul_add 4 _ 1).symm))
   ·rw [if_neg hm,SY (by simpa using hm),Int.add_zero]
  rw [this]
theorem aMo{H H':List Int}(hn:H.Nodup)(hn':H'.Nodup)(hl:H.length≤10)(ex:List SO):IG [.pv (eM H),.pv (eM H')] ex=some (.pv (.int (4*((H.filter fun h=>decide (h∈H')).length:Nat))),ex):=by
 obtain⟨o',e⟩:=Wq hn hn' [] H (fun _ h=>h) 0 none
 rw [show(0:Int)+4*((H.filter fun h=>decide (h∈H')).length:Nat)=4*((H.filter fun h=>decide (h∈H')).length:Nat) from Int.zero_add _] at e
 refine mW (j:=[]) (eK (st:=xQ H H' (4*((H.filter fun h=>decide (h∈H')).length:Nat)) o' []) (by rfl) ?_) (by rfl)
 refine aO (st₁:=xQ H H' 0 none []) (by rfl) (aO (st₁:=xQ H H' (4*((H.filter fun h=>decide (h∈H')).length:Nat)) o' []) ?_ (fC (fF (by rfl))))
 refine(mT (a:=.pv (.dct .int (H.map .int) (oT H))) (st₁:=xQ H H' 0 none []) (xs:=H.map .int) (by rfl) ?_).trans e
 rfl
theorem aJw{H H':List Int}(hn:H.Nodup)(hn':H'.Nodup)(hl:H.length=10)(ex:List SO):IF [.pv (eM H),.pv (eM H')] ex=some (.pv (.int (10*(10 - ((H.filter fun h=>decide (h∈H')).length:Nat)))),ex):=by
 have hs:=aMo hn hn' (dS hl) []
 have hm:(H.filter fun h=>decide (h∈H')).length≤10:=aP (Hh ..) (dS hl)
 generalize (H.filter fun h=>decide (h∈H')).length=m at hs hm ⊢
 let st:St:=⟨[some (.pv (eM H)),some (.pv (eM H')),none],[]⟩
 refine mW (j:=[]) (eK (st:=st) (by rfl) (fC (fF ?_))) (by rfl)
 refine(ZZ (t:=false) (st₁:=st) (by rfl)).trans ?_
 have e:mc 5 IG (aA 0) (ar [(aA 1)]) st=some (.pv (.int (4*(m:Nat))),st):=jN (st₃:=st) (a:=.pv (eM H)) (as:=[.pv (eM H')]) (u:=()) (by rfl) (by rfl) (by rfl) hs
 have e2:b2 (ge qZ (aA 0)) (mc 5 IG (aA 0) (ar [(aA 1)])) JP st=some (.pv (.int (4*(m:Nat))),st):=by
  refine jJ (a:=.pv (.int 40)) (b:=.pv (.int (4*(m:Nat)))) (by rfl) e ?_
  show some (SV.pv (.int (JO 40 (4*(m:Nat)))),st)=_
  unfold JO
  by_cases h:m=10
  ·subst h;rfl
  ·exact(decide_eq_true (p:=4*(m:Int) < 40) (Int.mul_lt_mul_of_pos_left (Int.ofNat_lt.mpr (Nat.lt_of_le_of_ne hm h)) (by decide))).symm▸rfl
 refine jJ (a:=.pv (.int ((40 - 4*(m:Nat))*100))) (b:=.pv (.int 40)) ?_ (by rfl) ?_
 ·refine jJ (a:=.pv (.int (40 - 4*(m:Nat)))) (b:=.pv (.int 100)) ?_ (by rfl) (by rfl)
  exact jJ (a:=.pv (.int 40)) (b:=.pv (.int (4*(m:Nat)))) (by rfl) e2 (by rfl)
 ·rcases RG m hm with rfl | rfl | rfl | rfl | rfl | rfl | rfl | rfl | rfl | rfl | rfl <;> rfl
theorem aGu{a b:List (List Nat)}(ha:∀ l∈a,wD l)(hb:∀ l∈b,wD l)(hl:a.length=10):(10*(10 - (((a.map hsh).filter fun h=>decide (h∈b.map hsh)).length:Nat)):Int)=10*cF b a:=by
 have e:∀ x∈a,decide (hsh x∈b.map hsh)=decide (x∈b):=fun x hx=>by
  have:(hsh x∈b.map hsh)↔x∈b:=by
   rw [List.mem_map]
   exact⟨fun⟨y,hy,e⟩=>Pr (hb y hy) (ha x hx) e▸hy,fun h=>⟨x,h,rfl⟩⟩
  rw [decide_eq_decide.mpr this]
 have e1:((a.map hsh).filter fun h=>decide (h∈b.map hsh)).length=(a.filter fun x=>decide (x∈b)).length:=by
  rw [TB,bT]
  congr 1
  exact List.filter_congr fun x hx=>e x hx
 have e2:(a.filter fun x=>decide (x∈b)).length+(a.filter fun x=> !decide (x∈b)).length=a.length:=by
  clear ha hl e e1
  induction a with
  |nil=>rfl
  |cons x a ih=>
   by_cases h:x∈b
   ·rw [TA (by simpa using h),SY (by simpa using h),tQ,tQ];exact(Nat.succ_add _ _).trans (congrArg lN ih)
   ·rw [SY (by simpa using h),TA (by simpa using h),tQ,tQ];exact congrArg lN ih
 rw [e1]
 exact congrArg (10* ·) (Int.sub_eq_iff_eq_add'.mpr (congrArg (fun n:Nat=>(n:Int)) (hl.symm.trans e2.symm)))
noncomputable def rU(S:List It)(o:OE):Prop:=match o with
 |some (_,i)=>Cr S i
 |none=>True
noncomputable def gI(S:List It)(i j:Nat):Int:=10*(10 - (((gS S i).filter fun h=>decide (h∈gS S j)).length:Nat))
noncomputable def jG(least size:Int)(S:List It):Ch→Option Int
 |(_,some (_,i),some (_,j))=>match decide (i=j),decide (size≤40),decide (least≤gI S i j) with
  |false,true,true=>some (gI S i j)
  |_,_,_=>none
 |_=>none
noncomputable def bk(s:Option Int)(c:Ch):List PV:=match s,c with
 |some g,(p,some (x,i),some (y,j))=>[hO [68] (mo x) (aN i) (.bytes [p]) 0 .none .none (.int g),hO [65] 0 .none .none (mo y) (aN j) (.bytes [p]) (.int g)]
 |_,c=>[cp c]
noncomputable def Jr:M Fl:=(ex (bL cT dH (aA 5) (aA 6)))
noncomputable def brD:List (M Fl):=[(oQ [9,8] (ar [(mc 6 zE (aA 4) (ar [(ge oO (aA 6))])),(mc 6 zE (aA 4) (ar [(ge lR (aA 6))]))])),
 (bA 10 (mc 5 IF (aA 8) (ar [(aA 9)]))),
 (bJ (cH (t2 (ge qZ (aA 8)) (aA 3) rO) (cH (t2 (ge qZ (aA 8)) (kI 0) sR) (cH (t2 (aA 10) (aA 2) rO) (rt true)))) (bl [(ex (bL cT dH (aA 5) (mc 4 OD (aA 6) (ar [(aA 10)])))),
 (ex (bL cT dH (aA 5) (mc 4 OC (aA 6) (ar [(aA 10)])))),
 (rt .cont)]) (bl []))]
noncomputable def NB:M Fl:=bl [(bA 7 (aZ (ar [(cf rJ (ar [(ge qY (aA 6))])),(cf rJ (ar [(ge oN (aA 6))]))]) cO)),
 (bJ (cH (t2 (ge wM (aA 6)) FD cN) (cH (t2 (aA 7) (aZ (ar [BV,BV]) cO) cN) (cH (t2 (ge oO (aA 6)) (ge lR (aA 6)) oZ) (rt true)))) (bl brD) (bl [])),
 Jr]
noncomputable def gJ(l:List PV)(least size:Int)(o6 o7 o8 o9 o10:Option SV)(cs:List SO):St:=⟨[some (.ref 5),some (.pv (.lst l)),some (.pv (.int least)),some (.pv (.int size)),some (.ref 8),some (.ref 10),o6,o7,o8,o9,o10,none,none,none,none,none,none],cs⟩
noncomputable def nO:PV:=.tup [.str [102,105,108,101],.str [102,105,108,101]]
section
variable{ω:Dk}{S:List It}{l:List PV}{least size:Int}{o6 o7 o8 o9 o10:Option SV}{I:List Nat}{F:List PV}
theorem WQ(hF:F.length≤20)(hm:m (gJ l least size o6 o7 o8 o9 o10 (bC ω S I F))=some (.pv y,gJ l least size o6 o7 o8 o9 o10 (bC ω S I F))):
  ex (bL cT dH (aA 5) m) (gJ l least size o6 o7 o8 o9 o10 (bC ω S I F))=some (.next,gJ l least size o6 o7 o8 o9 o10 (bC ω S I (F++[y]))):=
 sQ ((qL rfl rfl hm).trans ((yU rfl (ub hF rfl)).trans rfl))
theorem HR(h:one o n):bA 7 (aZ (ar [(cf rJ (ar [(ge qY (aA 6))])),(cf rJ (ar [(ge oN (aA 6))]))]) cO) (gJ l least size (some (.pv (cp (p,o,n)))) o7 o8 o9 o10 (bC ω S I F))=some (.next,gJ l least size (some (.pv (cp (p,o,n)))) (some (.pv nO)) o8 o9 o10 (bC ω S I F)):=by
 rcases o with _ | ⟨x,i⟩ <;> rcases n with _ | ⟨y,j⟩
 ·rcases h with h | h <;> exact absurd rfl h
 ·cases y <;> kernel_rfl
 ·cases x <;> kernel_rfl
 ·cases x <;> cases y <;> kernel_rfl
inductive Zn(ω:Dk)(S:List It)(l:List PV)(least:Int)(size:Int)(o6:Option SV)(o7:Option SV)(o8:Option SV)(o9:Option SV)(o10:Option SV)(I:List Nat)(F:List PV)(c:Ch):Prop
 |mk (q6:_) (q7:_) (q8:_) (q9:_) (q10:_) (I':_) (f:_) (hh0:(f= .next∨f= .cont)) (hh1:I'.Nodup) (hh2:I'.length≤I.length+2) (hh3:(bd (nT 6 (cp c)) fun _=>NB) (gJ l least size o6 o7 o8 o9 o10 (bC ω S I F))=some (f,gJ l least size q6 q7 q8 q9 q10 (bC ω S I' (F++bk (jG least size S c) c))))
theorem aBM(hsz:size=40∨size=41)(h:one c.2.1 c.2.2)(ho:rU S c.2.1)(hn:rU S c.2.2)(hI:I.Nodup)(hIl:I.length≤10)(hF:F.length≤10):Zn ω S l least size o6 o7 o8 o9 o10 I F c:=by
 obtain⟨p,o,n⟩:=c
 have e6:∀ o6,(nT 6 (cp (p,o,n))) (gJ l least size o6 o7 o8 o9 o10 (bC ω S I F))=some ((),gJ l least size (some (.pv (cp (p,o,n)))) o7 o8 o9 o10 (bC ω S I F)):=fun o6=>rfl
 have last:∀ I o8 o9 o10,bl [Jr] (gJ l least size (some (.pv (cp (p,o,n)))) (some (.pv nO)) o8 o9 o10 (bC ω S I F))=some (.next,gJ l least size (some (.pv (cp (p,o,n)))) (some (.pv nO)) o8 o9 o10 (bC ω S I (F++[cp (p,o,n)]))):=fun I o8 o9 o10=>cY (WQ (ub hF rfl) rfl)
 rcases o with _ | ⟨x,i⟩ <;> rcases n with _ | ⟨y,j⟩
 ·rcases h with h | h <;> exact absurd rfl h
 ·refine⟨some (.pv (cp (p,none,some (y,j)))),some (.pv nO),o8,o9,o10,I,.next,.inl rfl,hI,oF _ 2,(aJ (e6 o6)).trans (aO (HR h) (aO (eY rfl rfl) (last I o8 o9 o10)))⟩
 ·refine⟨some (.pv (cp (p,some (x,i),none))),some (.pv nO),o8,o9,o10,I,.next,.inl rfl,hI,oF _ 2,(aJ (e6 o6)).trans (aO (HR h) (aO (eY rfl rfl) (last I o8 o9 o10)))⟩
 ·let st:=gJ l least size (some (.pv (cp (p,some (x,i),some (y,j))))) (some (.pv nO)) o8 o9 o10 (bC ω S I F)
  have et:(cH (t2 (ge wM (aA 6)) FD cN) (cH (t2 (aA 7) (aZ (ar [BV,BV]) cO) cN) (cH (t2 (ge oO (aA 6)) (ge lR (aA 6)) oZ) (rt true)))) st=some (!decide (i=j),st):=by
   refine(aJ (a:=true) rfl).trans ((aJ (by rfl)).trans ?_)
   refine(aJ (a:= !decide (i=j)) (st₁:=st) ?_).trans (by cases decide (i=j) <;> rfl)
   refine(jO (a:=.pv (aN i)) (b:=.pv (aN j)) (st₁:=st) (st₂:=st) (by rfl) (by rfl)).trans ?_
   show some (!eqL (dI (i+1)) (dI (j+1)),st)=_
   rw [XW]
   simp
  by_cases hij:i=j
  ·rw [decide_eq_true hij] at et
   refine⟨some (.pv (cp (p,some (x,i),some (y,j)))),some (.pv nO),o8,o9,o10,I,.next,.inl rfl,hI,oF _ 2,(aJ (e6 o6)).trans (aO (HR h) (aO (eY et rfl) ((last I o8 o9 o10).trans ?_)))⟩
   have:jG least size S (p,some (x,i),some (y,j))=none:=by
    unfold jG
    dsimp only
    rw [decide_eq_true hij]
   refine(this).symm▸?_
   rfl
  ·have hij':=decide_eq_false hij
   replace et:=(hij')▸et
   obtain⟨I₁,hI₁,hl₁,es₁⟩:=Xf ω S (i:=i) ho I hI (ub hIl rfl)
   obtain⟨I₂,hI₂,hl₂,es₂⟩:=Xf ω S (i:=j) hn I₁ hI₁ (ub (aP hl₁ (lC hIl)) rfl)
   let st2:=fun o10=>gJ l least size (some (.pv (cp (p,some (x,i),some (y,j))))) (some (.pv nO)) (some (.pv (eM (gS S i)))) (some (.pv (eM (gS S j)))) o10 (bC ω S I₂ F)
   have e8:oQ [9,8] (ar [(mc 6 zE (aA 4) (ar [(ge oO (aA 6))])),(mc 6 zE (aA 4) (ar [(ge lR (aA 6))]))]) st=some (.next,st2 o10):=by
    refine DQ (u:=()) (as:=[.pv (eM (gS S i)),.pv (eM (gS S j))]) (st₁:=gJ l least size (some (.pv (cp (p,some (x,i),some (y,j))))) (some (.pv nO)) o8 o9 o10 (bC ω S I₂ F)) ?_ (by rfl)
    refine nH (st₁:=gJ l least size (some (.pv (cp (p,some (x,i),some (y,j))))) (some (.pv nO)) o8 o9 o10 (bC ω S I₁ F)) ?_ (iL ?_)
    ·exact jN (a:=.ref 8) (as:=[.pv (aN i)]) (u:=()) (st₁:=st) (st₂:=st) (st₃:=st) (by rfl) (by rfl) (by rfl) (es₁ F)
    ·exact jN (a:=.ref 8) (as:=[.pv (aN j)]) (u:=()) (st₃:=gJ l least size (some (.pv (cp (p,some (x,i),some (y,j))))) (some (.pv nO)) o8 o9 o10 (bC ω S I₁ F)) (by rfl) (by rfl) (by rfl) (es₂ F)
   have hh:∀ {k},Cr S k→(gS S k).Nodup∧(gS S k).length=10:=fun {k} h=>by
    obtain⟨z,ns,hS,hns,hp,hd⟩:=h
    have:gS S k=(bK z ns).map hsh:=by unfold gS;rw [hS]
    rw [this,bT,sV]
    exact⟨Sg hp hd,hns⟩
   have e10:bA 10 (mc 5 IF (aA 8) (ar [(aA 9)])) (st2 o10)=some (.next,st2 (some (.pv (.int (gI S i j))))):=
    iM (jN (a:=.pv (eM (gS S i))) (as:=[.pv (eM (gS S j))]) (u:=()) (st₃:=st2 o10) (by rfl) (by rfl) (by rfl) (aJw (hh ho).1 (hh hn).1 (hh ho).2 _))
   let st3:=st2 (some (.pv (.int (gI S i j))))
   have ec:(cH (t2 (ge qZ (aA 8)) (aA 3) rO) (cH (t2 (ge qZ (aA 8)) (kI 0) sR) (cH (t2 (aA 10) (aA 2) rO) (rt true)))) st3=some (decide (size≤40) && decide (least≤gI S i j),st3):=by
    refine(aJ (a:=decide (size≤40)) (st₁:=st3) (by rfl)).trans ?_
    rcases hsz with rfl | rfl
    ·refine(aJ (a:=true) (st₁:=st3) (by rfl)).trans ((aJ (a:=decide (least≤gI S i j)) (st₁:=st3) (by rfl)).trans ?_)
     cases decide (least≤gI S i j) <;> rfl
    ·rfl
   cases hc:(decide (size≤40) && decide (least≤gI S i j)) with
   |false=>
    rw [hc] at ec
    refine⟨some (.pv (cp (p,some (x,i),some (y,j)))),some (.pv nO),some (.pv (eM (gS S i))),some (.pv (eM (gS S j))),some (.pv (.int (gI S i j))),I₂,.next,.inl rfl,hI₂,aP hl₂ (lC hl₁),(aJ (e6 o6)).trans (aO (HR h) (aO (iD et (aO e8 (aO e10 (cY (eY ec rfl))))) ((last I₂ _ _ _).trans ?_)))⟩
    have:jG least size S (p,some (x,i),some (y,j))=none:=by
     unfold jG
     dsimp only
     refine(hij').symm▸?_
     cases h1:decide (size≤40) <;> cases h2:decide (least≤gI S i j) <;> rw [h1,h2] at hc <;> first | rfl | exact eP hc
    refine(this).symm▸?_
    rfl
   |true=>
    rw [hc] at ec
    obtain⟨g1,g2⟩:=Bool.and_eq_true_iff.mp hc
    let h1:PV:=hO [68] (mo x) (aN i) (.bytes [p]) 0 .none .none (.int (gI S i j))
    let h2:PV:=hO [65] 0 .none .none (mo y) (aN j) (.bytes [p]) (.int (gI S i j))
    have a1:ex (bL cT dH (aA 5) (mc 4 OD (aA 6) (ar [(aA 10)]))) st3=some (.next,gJ l least size (some (.pv (cp (p,some (x,i),some (y,j))))) (some (.pv nO)) (some (.pv (eM (gS S i)))) (some (.pv (eM (gS S j)))) (some (.pv (.int (gI S i j)))) (bC ω S I₂ (F++[h1]))):=
     WQ (ub hF rfl) (jN (u:=()) (a:=.pv (cp (p,some (x,i),some (y,j)))) (as:=[.pv (.int (gI S i j))]) (st₃:=st3) (by rfl) (by rfl) (by rfl) (by kernel_rfl))
    have a2:ex (bL cT dH (aA 5) (mc 4 OC (aA 6) (ar [(aA 10)]))) (gJ l least size (some (.pv (cp (p,some (x,i),some (y,j))))) (some (.pv nO)) (some (.pv (eM (gS S i)))) (some (.pv (eM (gS S j)))) (some (.pv (.int (gI S i j)))) (bC ω S I₂ (F++[h1])))=some (.next,gJ l least size (some (.pv (cp (p,some (x,i),some (y,j))))) (some (.pv nO)) (some (.pv (eM (gS S i)))) (some (.pv (eM (gS S j)))) (some (.pv (.int (gI S i j)))) (bC ω S I₂ (F++[h1]++[h2]))):=
     WQ (aP (dS (xC F _)) (ub (lC hF) rfl)) (jN (u:=()) (a:=.pv (cp (p,some (x,i),some (y,j)))) (as:=[.pv (.int (gI S i j))]) (st₃:=gJ l least size (some (.pv (cp (p,some (x,i),some (y,j))))) (some (.pv nO)) (some (.pv (eM (gS S i)))) (some (.pv (eM (gS S j)))) (some (.pv (.int (gI S i j)))) (bC ω S I₂ (F++[h1]))) (by rfl) (by rfl) (by rfl) (by kernel_rfl))
    refine⟨some (.pv (cp (p,some (x,i),some (y,j)))),some (.pv nO),some (.pv (eM (gS S i))),some (.pv (eM (gS S j))),some (.pv (.int (gI S i j))),I₂,.cont,.inr rfl,hI₂,aP hl₂ (lC hl₁),(aJ (e6 o6)).trans (aO (HR h) (DR ((iD et (aO e8 (aO e10 (DR (iD ec (aO a1 (aO a2 rfl))))))).trans ?_)))⟩
    have:jG least size S (p,some (x,i),some (y,j))=some (gI S i j):=by
     unfold jG
     dsimp only
     exact(hij').symm▸(g1).symm▸(g2).symm▸rfl
    rw [this,gP]
    rfl
end
structure Cs(S:List It)(c:Ch):Prop where
 one:one c.2.1 c.2.2
 ho:rU S c.2.1
 hn:rU S c.2.2
theorem Jp(s:Option Int)(c:Ch):(bk s c).length≤2:=by
 obtain⟨p,o,n⟩:=c
 cases s <;> rcases o with _ | ⟨x,i⟩ <;> rcases n with _ | ⟨y,j⟩ <;> simp [bk]
noncomputable def gZ(least size:Int)(S:List It)(cs:List Ch):List PV:=cs.flatMap fun c=>bk (jG least size S c) c
theorem Bg{a b c n:Nat}(h:b≤a+2)(k:a+2*(c+1)≤n):b+2*c≤n:=
 aP (lM h _) (aP (dS ((uU a 2 _).trans (congrArg (a+ ·) (vZ 2 (2*c))))) k)
theorem Js(ω:Dk)(S:List It)(l:List PV){least size:Int}(hsz:size=40∨size=41):∀(cs:List Ch),(∀ c∈cs,Cs S c)→∀(I:List Nat) (F:List PV) (o6 o7 o8 o9 o10:Option SV),I.Nodup→I.length+2*cs.length≤8→F.length+2*cs.length≤8→
  ∃ q6 q7 q8 q9 q10 I',fM (cs.map cp) (fun x=>bd (nT 6 x) fun _=>NB) (gJ l least size o6 o7 o8 o9 o10 (bC ω S I F))=some (.next,gJ l least size q6 q7 q8 q9 q10 (bC ω S I' (F++gZ least size S cs)))
 | [],_,I,F,o6,o7,o8,o9,o10,_,_,_=>⟨o6,o7,o8,o9,o10,I,by rw [show F++gZ least size S []=F from gQ F];rfl⟩
 |c::cs,h,I,F,o6,o7,o8,o9,o10,hI,hIl,hF=>by
  rw [tQ] at hIl hF
  have k:=h c (uS ..)
  obtain⟨q6,q7,q8,q9,q10,I',f,hf,hI',hl',e⟩:=aBM (ω:=ω) (l:=l) (least:=least) (o6:=o6) (o7:=o7) (o8:=o8) (o9:=o9) (o10:=o10) hsz k.one k.ho k.hn hI (ub (TO hIl) rfl) (F:=F) (ub (TO hF) rfl)
  have hb:=Jp (jG least size S c) c
  obtain⟨r6,r7,r8,r9,r10,I'',e'⟩:=Js ω S l hsz cs (fun x hx=>h x (sG _ hx)) I' (F++bk (jG least size S c) c) q6 q7 q8 q9 q10 hI' (Bg hl' hIl) (by rw [fH];exact Bg (oE hb _) hF)
  refine⟨r6,r7,r8,r9,r10,I'',?_⟩
  have e'':fM ((c::cs).map cp) (fun x=>bd (nT 6 x) fun _=>NB) (gJ l least size o6 o7 o8 o9 o10 (bC ω S I F))=fM (cs.map cp) (fun x=>bd (nT 6 x) fun _=>NB) (gJ l least size q6 q7 q8 q9 q10 (bC ω S I' (F++bk (jG least size S c) c))):=by
   rcases hf with rfl | rfl
   ·exact gR e
   ·exact IM e
  refine e''.trans (e'.trans ?_)
  unfold gZ
  rw [AJ,gP]
theorem Jo{s:Option Int}{p:Nat}{o n:OE}(h:one o n):∀ v∈bk s (p,o,n),∃ w,CF p w v:=by
 intro v hv
 cases s with
 |none=>
  have:v=cp (p,o,n):=by simpa [bk] using hv
  rw [this]
  exact⟨_,EA h⟩
 |some g=>
  rcases o with _ | ⟨x,i⟩ <;> rcases n with _ | ⟨y,j⟩
  ·rcases h with h | h <;> exact absurd rfl h
  ·exact⟨_,(show v=cp _ by simpa [bk] using hv)▸EA h⟩
  ·exact⟨_,(show v=cp _ by simpa [bk] using hv)▸EA h⟩
  ·have:v=hO [68] (mo x) (aN i) (.bytes [p]) 0 .none .none (.int g)∨v=hO [65] 0 .none .none (mo y) (aN j) (.bytes [p]) (.int g):=by simpa [bk] using hv
   rcases this with rfl | rfl
   ·exact⟨_,.d ..⟩
   ·exact⟨_,.a ..⟩
theorem WN(f:Ch→Option Int)(p:Nat)(o n:OE):∃ A,uJ A∧((dG p o n).flatMap fun c=>bk (f c) c).map vL=wd p A:=by
 rcases rF p o n with⟨_,e⟩ | ⟨h,_,e⟩ <;> rw [e]
 ·exact⟨[],.inl rfl,rfl⟩
 ·have e':([(p,o,n)].flatMap fun c=>bk (f c) c)=bk (f (p,o,n)) (p,o,n):=by simp
  refine(e').symm▸?_
  have sing:∃ A,uJ A∧[cp (p,o,n)].map vL=wd p A:=⟨[od (p,o,n)],.inr (.inl ⟨_,rfl⟩),by
   show [vL (cp (p,o,n))]=_
   rw [(EA h).k];rfl⟩
  cases f (p,o,n) with
  |none=>exact sing
  |some g=>
   rcases o with _ | ⟨x,i⟩ <;> rcases n with _ | ⟨y,j⟩
   ·rcases h with h | h <;> exact absurd rfl h
   ·exact sing
   ·exact sing
   ·exact⟨[0,1],.inr (.inr rfl),rfl⟩
theorem EC(a b c a' b' c':OE):(dif a b c a' b' c').length≤3:=by
 have h1:=yY 97 a a'
 have h2:=yY 98 b b'
 have h3:=yY 99 c c'
 unfold dif
 rw [fH,fH]
 exact mM (mM h1 h2) h3
theorem XD{S:List It}{p:Nat}{o n:OE}(ho:rU S o)(hn:rU S n):∀ c∈dG p o n,Cs S c:=by
 rcases rF p o n with⟨_,e⟩ | ⟨h,_,e⟩ <;> rw [e]
 ·intro c hc;cases hc
 ·intro c hc
  rw [List.mem_singleton.mp hc]
  exact⟨h,ho,hn⟩
theorem Jt(ω:Dk)(S:List It){a b c a' b' c':OE}(ha:rU S a)(hb:rU S b)(hc:rU S c)(ha':rU S a')(hb':rU S b')(hc':rU S c'){least size:Int}(hsz:size=40∨size=41)(ex:List SO):
  OF [.ref 5,.pv (.lst ((dif a b c a' b' c').map cp)),.pv (.int least),.pv (.int size)] (sS ω S++ex)=some (.pv (.lst (gZ least size S (dif a b c a' b' c'))),sS ω S++ex):=by
 have hd:∀ k∈dif a b c a' b' c',Cs S k:=by
  intro k hk
  unfold dif at hk
  rw [uR,uR] at hk
  rcases hk with(hk | hk) | hk
  ·exact XD ha ha' k hk
  ·exact XD hb hb' k hk
  ·exact XD hc hc' k hk
 have hlen:=EC a b c a' b' c'
 obtain⟨A,hA,eA⟩:=WN (jG least size S) 97 a a'
 obtain⟨B,hB,eB⟩:=WN (jG least size S) 98 b b'
 obtain⟨C,hC,eC⟩:=WN (jG least size S) 99 c c'
 have hw:(gZ least size S (dif a b c a' b' c')).map vL=wd 97 A++wd 98 B++wd 99 C:=by
  unfold gZ dif
  rw [TC,TC,cW,cW,eA,eB,eC]
 have hcf:∀ v∈gZ least size S (dif a b c a' b' c'),∀ ex,BK [.pv v] ex=some (.pv (vL v),ex):=by
  intro v hv ex
  unfold gZ at hv
  obtain⟨k,hk,hv⟩:=List.mem_flatMap.mp hv
  obtain⟨w,hw⟩:=Jo (s:=jG least size S k) (p:=k.1) (hd k hk).one v hv
  exact hw.order ex
 generalize dif a b c a' b' c'=D at hd hlen hw hcf ⊢
 let st0:St:=⟨[some (.ref 5),some (.pv (.lst (D.map cp))),some (.pv (.int least)),some (.pv (.int size)),some (.ref 8),none,none,none,none,none,none,none,none,none,none,none,none],sS ω S++[.inst 6 [.ref 5,.ref 9],.dict .bytes [] []]⟩
 obtain⟨q6,q7,q8,q9,q10,I',e⟩:=Js ω S (D.map cp) (least:=least) hsz D hd [] [] none none none none none pK (aP (dS (kL _)) (ub (GW 2 hlen) rfl)) (aP (dS (kL _)) (ub (GW 2 hlen) rfl))
 rw [oD] at e
 refine iQ (j:=[.inst 6 [.ref 5,.ref 9],bI S I',.list (gZ least size S D),.dead]) (eK (st:=gJ (D.map cp) least size q6 q7 q8 q9 q10 (bC ω S I' (gZ least size S D)++[.dead])) (by rfl) ?_) (by rfl) (by rfl)
 refine aO (st₁:=st0) (by kernel_rfl) (aO (st₁:=gJ (D.map cp) least size none none none none none (bC ω S [] [])) (by kernel_rfl) (aO (st₁:=gJ (D.map cp) least size q6 q7 q8 q9 q10 (bC ω S I' (gZ least size S D))) ?_ (fC (fF ?_))))
 ·exact(mT (a:=.pv (.lst (D.map cp))) (st₁:=gJ (D.map cp) least size none none none none none (bC ω S [] [])) (xs:=D.map cp) (by rfl) (by rfl)).trans e
 ·refine eX (a:=.ref 11) (st₁:=gJ (D.map cp) least size q6 q7 q8 q9 q10 (bC ω S I' (gZ least size S D)++[.list (gZ least size S D)])) ?_ (by rfl)
  refine eX (a:=.ref 10) (st₁:=gJ (D.map cp) least size q6 q7 q8 q9 q10 (bC ω S I' (gZ least size S D))) (by rfl) ?_
  exact(Xe (xs:=gZ least size S D) (by rfl) hcf hA hB hC hw).trans (by rfl)
noncomputable def iS(v:PV):PV:=match v with
 |.obj 4 [w,om,oi,op,nm,ni,np,_]=>.tup [w,om,oi,op,nm,ni,np]
 |_=>.none
theorem aMc{p:Nat}{w:Int}{v:PV}(h:CF p w v)(ex:List SO):BJ [.pv v] ex=some (.pv (iS v),ex):=by
 cases h <;> kernel_rfl
theorem KP{src:M SV}{st:St}{l:List PV}(hs:src st=some (.pv (.lst l),st))(h:∀ v∈l,∃ p w,CF p w v)(hl:l.length≤10):eH dN src [none,none,none] (nT 1) (rt true) (cf BJ (ar [(aA 1)])) st=some (.pv (.lst (l.map iS)),st):=by
 obtain⟨o',e⟩:=yZ (g:=nT 1) (t:=rt true) (m:=cf BJ (ar [(aA 1)])) (fun o=>⟨[none,o,none],st.cells⟩) (fun _=>true) iS l (fun _ _=>rfl) (fun _ _=>rfl) (fun x hx _=>by
  obtain⟨p,w,k⟩:=h x hx
  exact lI (iL rfl) (aMc k _)) none
 rw [List.filter_eq_self.mpr (fun _ _=>rfl)] at e
 exact tZ (st₂:=⟨[none,o',none],st.cells⟩) (xs:=l) hs rfl (ub hl rfl) e
noncomputable def rD(p:Nat)(x:Bool)(i:Nat):PV:=.tup [.str [68],.int (mo x),aN i,.bytes [p],.int 0,.none,.none]
noncomputable def rA(p:Nat)(y:Bool)(j:Nat):PV:=.tup [.str [65],.int 0,.none,.none,.int (mo y),aN j,.bytes [p]]
noncomputable def rM(p:Nat)(x:Bool)(i:Nat)(y:Bool)(j:Nat):PV:=.tup [.str [77],.int (mo x),aN i,.bytes [p],.int (mo y),aN j,.bytes [p]]
noncomputable def uE(b:Bool)(c:Ch):List PV:=match b,c with
 |true,(p,some (x,i),some (y,j))=>[rD p x i,rA p y j]
 |_,c=>[iS (cp c)]
theorem aBG(s:Option Int)(c:Ch):(bk s c).map iS=uE s.isSome c:=by
 obtain⟨p,o,n⟩:=c
 cases s <;> rcases o with _ | ⟨x,i⟩ <;> rcases n with _ | ⟨y,j⟩ <;> rfl
theorem aHK(l:List (List Nat))(st:St)(hl:l.length≤100):iP (.pv (lp l)) st=some (.pv (.int (l.length:Nat)),st):=by
 refine pP ?_
 show(match decide ((l.map PV.bytes).length≤1000000) with | true=>some ((.pv (.int ((l.map PV.bytes).length:Nat)):SV),st) | false=>none)=_
 rw [bT,decide_eq_true (ub hl rfl)]
theorem aIv{c:Nat}(hc:c≤10)(st:St):qM (.pv (.int 10)) (.pv (.int (c:Nat))) st=some (.pv (.int (10*(c:Nat))),st):=by
 rcases RG c hc with rfl | rfl | rfl | rfl | rfl | rfl | rfl | rfl | rfl | rfl | rfl <;> rfl
noncomputable def Ax:M Fl:=(ex (bL cT dH (aA 4) (aA 5)))
noncomputable def Az:M Fl:=(ex (bL cT BW (aA 4) (aZ (ar [(b2 (b2 (aZ (ar [(kS [68])]) cO) (pV (aA 5) (pa (kI 1)) (pa (kI 4))) bP) (aZ (ar [(kI 0),kN,kN]) cO) bP),(b2 (aZ (ar [(kS [65]),(kI 0),kN,kN]) cO) (pV (aA 5) (pa (kI 4)) (rt none)) bP)]) kT)))
noncomputable def Ay:M Fl:=bl [(bA 6 (kI 0)),
 (bJ (t2 (b2 (aA 5) (kI 0) aW) (kS [77]) cN) (bl [(nI [7,8] (ar [(b2 (b2 (aA 1) (b2 (aA 5) (kI 3) aW) aW) (kI 1) aW),(b2 (b2 (aA 2) (b2 (aA 5) (kI 6) aW) aW) (kI 1) aW)])),
 (bA 6 (b2 (kI 10) (ge iP (eH dN (aA 7) [none,none,some 8] (nT 1) (t2 (aA 1) (aA 2) fE) (aA 1))) qM))]) (bl [])),
 (bJ (cH (t2 (b2 (aA 5) (kI 0) aW) (kS [77]) cN) (cH (t2 (aA 6) (aA 3) rO) (rt true))) (bl [Az]) (bl [Ax]))]
noncomputable def iO(r P Q:PV)(least:Int)(o5 o6 o7 o8:Option SV)(F:List PV):St:=⟨[some (.pv r),some (.pv P),some (.pv Q),some (.pv (.int least)),some (.ref 0),o5,o6,o7,o8,none],[.list F]⟩
theorem Ba{r P Q y:PV}{least:Int}{o6 o7 o8:Option SV}{F:List PV}(hF:F.length≤20):Ax (iO r P Q least (some (.pv y)) o6 o7 o8 F)=some (.next,iO r P Q least (some (.pv y)) o6 o7 o8 (F++[y])):=
 sQ ((qL (u:=()) (a:=.ref 0) (b:=.pv y) (st₃:=iO r P Q least (some (.pv y)) o6 o7 o8 F) (by rfl) (by rfl) (by rfl)).trans ((yU (j:=0) (xs:=F) (by rfl) (ub hF rfl)).trans (by rfl)))
theorem aHD{r P Q:PV}{p:Nat}{x:Bool}{i:Nat}{y:Bool}{j:Nat}{least:Int}{o6 o7 o8:Option SV}{F:List PV}(hF:F.length≤20):Az (iO r P Q least (some (.pv (rM p x i y j))) o6 o7 o8 F)=some (.next,iO r P Q least (some (.pv (rM p x i y j))) o6 o7 o8 (F++[rD p x i,rA p y j])):=
 sQ ((qL (u:=()) (a:=.ref 0) (b:=.pv (.lst [rD p x i,rA p y j])) (st₃:=iO r P Q least (some (.pv (rM p x i y j))) o6 o7 o8 F) (by rfl) (by rfl) (by kernel_rfl)).trans ((Mq (j:=0) (xs:=F) (by rfl) (ub (lM hF 2) rfl)).trans (by rfl)))
noncomputable def KU(P Q:PV)(b:Bool)(least:Int)(c:Ch):Prop:=match c with
 |(p,some _,some _)=>∃ v w,(∀ st,aW (.pv P) (.pv (.bytes [p])) st=some (.pv (vp v),st))∧(∀ st,aW (.pv Q) (.pv (.bytes [p])) st=some (.pv (vp w),st))∧(bK v.z v.ns).length=10∧b=decide (least≤10*cF (bK w.z w.ns) (bK v.z v.ns))
 |(_,none,none)=>False
 |_=>True
inductive Zv(r:PV)(P:PV)(Q:PV)(least:Int)(b:Bool)(c:Ch)(o5:Option SV)(o6:Option SV)(o7:Option SV)(o8:Option SV)(F:List PV):Prop
 |mk (q5:_) (q6:_) (q7:_) (q8:_) (hh0:(bd (nT 5 (iS (cp c))) fun _=>Ay) (iO r P Q least o5 o6 o7 o8 F)=some (.next,iO r P Q least q5 q6 q7 q8 (F++uE b c)))
theorem aHE{r P Q:PV}{least:Int}{b:Bool}{c:Ch}(h:KU P Q b least c)(o5 o6 o7 o8:Option SV)(F:List PV)(hF:F.length≤20):Zv r P Q least b c o5 o6 o7 o8 F:=by
 obtain⟨p,o,n⟩:=c
 have e5:nT 5 (iS (cp (p,o,n))) (iO r P Q least o5 o6 o7 o8 F)=some ((),iO r P Q least (some (.pv (iS (cp (p,o,n))))) o6 o7 o8 F):=rfl
 rcases o with _ | ⟨x,i⟩ <;> rcases n with _ | ⟨y,j⟩
 ·exact h.elim
 ·refine⟨some (.pv (rA p y j)),some (.pv (.int 0)),o7,o8,(aJ e5).trans (aO (st₁:=iO r P Q least (some (.pv (rA p y j))) (some (.pv (.int 0))) o7 o8 F) (by rfl) (aO (eY (st₁:=iO r P Q least (some (.pv (rA p y j))) (some (.pv (.int 0))) o7 o8 F) (by rfl) rfl) (cY (eY (st₁:=iO r P Q least (some (.pv (rA p y j))) (some (.pv (.int 0))) o7 o8 F) (by rfl) (cY ((Ba hF).trans ?_))))))⟩
  cases b <;> rfl
 ·refine⟨some (.pv (rD p x i)),some (.pv (.int 0)),o7,o8,(aJ e5).trans (aO (st₁:=iO r P Q least (some (.pv (rD p x i))) (some (.pv (.int 0))) o7 o8 F) (by rfl) (aO (eY (st₁:=iO r P Q least (some (.pv (rD p x i))) (some (.pv (.int 0))) o7 o8 F) (by rfl) rfl) (cY (eY (st₁:=iO r P Q least (some (.pv (rD p x i))) (some (.pv (.int 0))) o7 o8 F) (by rfl) (cY ((Ba hF).trans ?_))))))⟩
  cases b <;> rfl
 ·obtain⟨v,w,g1,g2,hl,hb⟩:=h
  let R:=rM p x i y j
  let st:=iO r P Q least (some (.pv R)) (some (.pv (.int 0))) o7 o8 F
  let st1:=iO r P Q least (some (.pv R)) (some (.pv (.int 0))) (some (.pv (lp (bK v.z v.ns)))) (some (.pv (lp (bK w.z w.ns)))) F
  let st2:=iO r P Q least (some (.pv R)) (some (.pv (.int (10*cF (bK w.z w.ns) (bK v.z v.ns))))) (some (.pv (lp (bK v.z v.ns)))) (some (.pv (lp (bK w.z w.ns)))) F
  have e7:nI [7,8] (ar [(b2 (b2 (aA 1) (b2 (aA 5) (kI 3) aW) aW) (kI 1) aW),(b2 (b2 (aA 2) (b2 (aA 5) (kI 6) aW) aW) (kI 1) aW)]) st=some (.next,st1):=by
   refine HP (u:=()) (as:=[.pv (lp (bK v.z v.ns)),.pv (lp (bK w.z w.ns))]) (st₁:=st) (nH (st₁:=st) ?_ (iL ?_)) (by rfl)
   ·exact jJ (a:=.pv (vp v)) (b:=.pv (.int 1)) (jJ (a:=.pv P) (b:=.pv (.bytes [p])) (by rfl) (by rfl) (g1 st)) (by rfl) (by rfl)
   ·exact jJ (a:=.pv (vp w)) (b:=.pv (.int 1)) (jJ (a:=.pv Q) (b:=.pv (.bytes [p])) (by rfl) (by rfl) (g2 st)) (by rfl) (by rfl)
  have e6:bA 6 (b2 (kI 10) (ge iP (eH dN (aA 7) [none,none,some 8] (nT 1) (t2 (aA 1) (aA 2) fE) (aA 1))) qM) st1=some (.next,st2):=by
   refine iM (v:=.pv (.int (10*cF (bK w.z w.ns) (bK v.z v.ns)))) (st₁:=st1) (jJ (a:=.pv (.int 10)) (b:=.pv (.int (cF (bK w.z w.ns) (bK v.z v.ns)))) (st:=st1) (st₁:=st1) (by rfl) ?_ (aIv (hl▸PN _ _) st1))
   refine eX (a:=.pv (lp (lY (bK w.z w.ns) (bK v.z v.ns)))) (st₁:=st1) (XK _ _ _ (bK w.z w.ns) (bK v.z v.ns) (ub (dS hl) rfl) 7 (by rfl) (by rfl)) ?_
   exact aHK _ _ (aP (PN _ _) (ub (dS hl) rfl))
  have ec:(cH (t2 (b2 (aA 5) (kI 0) aW) (kS [77]) cN) (cH (t2 (aA 6) (aA 3) rO) (rt true))) st2=some (b,st2):=by
   refine(aJ (a:=true) (st₁:=st2) (by rfl)).trans ((aJ (a:=b) (st₁:=st2) ?_).trans (by cases b <;> rfl))
   refine(hb).symm▸?_
   rfl
  have pre:∀ {q},bl [(bJ (cH (t2 (b2 (aA 5) (kI 0) aW) (kS [77]) cN) (cH (t2 (aA 6) (aA 3) rO) (rt true))) (bl [Az]) (bl [Ax]))] st2=q→(bd (nT 5 (iS (cp (p,some (x,i),some (y,j))))) fun _=>Ay) (iO r P Q least o5 o6 o7 o8 F)=q:=fun {q} hq=>
   (aJ e5).trans (aO (st₁:=st) (by rfl) (aO (iD (st₁:=st) (by rfl) (aO e7 (cY e6))) hq))
  refine⟨some (.pv R),some (.pv (.int (10*cF (bK w.z w.ns) (bK v.z v.ns)))),some (.pv (lp (bK v.z v.ns))),some (.pv (lp (bK w.z w.ns))),?_⟩
  clear hb
  cases b with
  |true=>exact pre (cY (iD ec (cY (aHD hF))))
  |false=>exact pre (cY (eY ec (cY (Ba hF))))
theorem Rd{r P Q:PV}{least:Int}(g:Ch→Bool):∀(cs:List Ch),(∀ c∈cs,KU P Q (g c) least c)→∀(F:List PV) (o5 o6 o7 o8:Option SV),F.length+2*cs.length≤10→
  ∃ q5 q6 q7 q8,fM (cs.map fun c=>iS (cp c)) (fun x=>bd (nT 5 x) fun _=>Ay) (iO r P Q least o5 o6 o7 o8 F)=some (.next,iO r P Q least q5 q6 q7 q8 (F++cs.flatMap fun c=>uE (g c) c))
 | [],_,F,o5,o6,o7,o8,_=>⟨o5,o6,o7,o8,by rw [List.flatMap_nil,gQ];rfl⟩
 |c::cs,h,F,o5,o6,o7,o8,hF=>by
  replace hF:=(tQ)▸hF
  obtain⟨q5,q6,q7,q8,e⟩:=aHE (r:=r) (h c (uS ..)) o5 o6 o7 o8 F (ub (TO hF) rfl)
  have hb:(uE (g c) c).length≤2:=by
   obtain⟨p,o,n⟩:=c
   cases g (p,o,n) <;> rcases o with _ | ⟨x,i⟩ <;> rcases n with _ | ⟨y,j⟩ <;> simp [uE]
  obtain⟨r5,r6,r7,r8,e'⟩:=Rd (r:=r) g cs (fun x hx=>h x (sG _ hx)) (F++uE (g c) c) q5 q6 q7 q8 (by rw [fH];exact Bg (oE hb _) hF)
  refine⟨r5,r6,r7,r8,?_⟩
  rw [iX]
  refine(gR e).trans (e'.trans ?_)
  rw [AJ,gP]
theorem aHF{P Q:PV}{least:Int}(g:Ch→Bool)(cs:List Ch)(h:∀ c∈cs,KU P Q (g c) least c)(hl:cs.length≤3)(ex:List SO):
  YN [.pv (.lst (cs.map fun c=>iS (cp c))),.pv P,.pv Q,.pv (.int least)] ex=some (.pv (.lst (cs.flatMap fun c=>uE (g c) c)),ex):=by
 let r:PV:=.lst (cs.map fun c=>iS (cp c))
 obtain⟨q5,q6,q7,q8,e⟩:=Rd (r:=r) g cs h [] none none none none (aP (dS (kL _)) (ub (GW 2 hl) rfl))
 rw [oD] at e
 refine mW (j:=[.dead]) (eK (st:=⟨(iO r P Q least q5 q6 q7 q8 []).loc,[.dead]⟩) (by rfl) ?_) (by rfl)
 refine aO (st₁:=iO r P Q least none none none none []) (by rfl) (aO (st₁:=iO r P Q least q5 q6 q7 q8 (cs.flatMap fun c=>uE (g c) c)) ?_ (fC (fF (by rfl))))
 exact(mT (a:=.pv r) (st₁:=iO r P Q least none none none none []) (xs:=cs.map fun c=>iS (cp c)) (by rfl) (by rfl)).trans e
inductive Sh(p:Nat):List PV→List PV→Prop
 |nil:Sh p [] []
 |d (om:Int) (oi:PV):Sh p [hO [68] om oi (.bytes [p]) 0 .none .none .none] [hO [68] om oi (.bytes [p]) 0 .none .none .none]
 |m (om:Int) (oi:PV) (nm:Int) (ni:PV):Sh p [hO [77] om oi (.bytes [p]) nm ni (.bytes [p]) .none] [hO [77] om oi (.bytes [p]) nm ni (.bytes [p]) .none]
 |b (om:Int) (oi:PV) (nm:Int) (ni:PV) (g:Int):Sh p [hO [68] om oi (.bytes [p]) 0 .none .none (.int g),hO [65] 0 .none .none nm ni (.bytes [p]) (.int g)] [hO [77] om oi (.bytes [p]) nm ni (.bytes [p]) (.int g)]
inductive MO(p:Nat):List PV→Prop
 |nil:MO p []
 |a (nm:Int) (ni:PV):MO p [hO [65] 0 .none .none nm ni (.bytes [p]) .none]
inductive yN where
 |nil
 |d (om:Int) (oi:PV)
 |m (om:Int) (oi:PV) (nm:Int) (ni:PV)
 |b (om:Int) (oi:PV) (nm:Int) (ni:PV) (g:Int)
noncomputable def yN.l(p:Nat):yN→List PV
 |.nil=>[]
 |.d om oi=>[hO [68] om oi (.bytes [p]) 0 .none .none .none]
 |.m om oi nm ni=>[hO [77] om oi (.bytes [p]) nm ni (.bytes [p]) .none]
 |.b om oi nm ni g=>[hO [68] om oi (.bytes [p]) 0 .none .none (.int g),hO [65] 0 .none .none nm ni (.bytes [p]) (.int g)]
noncomputable def yN.r(p:Nat):yN→List PV
 |.b om oi nm ni g=>[hO [77] om oi (.bytes [p]) nm ni (.bytes [p]) (.int g)]
 |x=>x.l p
theorem Sh.ex(h:Sh p A A'):∃ x:yN,A=x.l p∧A'=x.r p:=by
 cases h with
 |nil=>exact⟨.nil,rfl,rfl⟩
 |d om oi=>exact⟨.d om oi,rfl,rfl⟩
 |m om oi nm ni=>exact⟨.m om oi nm ni,rfl,rfl⟩
 |b om oi nm ni g=>exact⟨.b om oi nm ni g,rfl,rfl⟩
noncomputable def Ep:Option (Int×PV)→List PV
 |some (nm,ni)=>[hO [65] 0 .none .none nm ni (.bytes [99]) .none]
 |none=>[]
noncomputable def rjL(x y:yN)(z:Option (Int×PV))(ex:List SO):Option (SV×List SO):=EM [.pv (.lst (x.l 97++y.l 98++Ep z))] ex
noncomputable def rjR(x y:yN)(z:Option (Int×PV))(ex:List SO):Option (SV×List SO):=some (.pv (.lst (x.r 97++y.r 98++Ep z)),ex)
theorem aJQ(x y:yN)(z:Option (Int×PV))(ex:List SO):rjL x y z ex=rjR x y z ex:=by
 cases x <;> cases y <;> cases z <;> kernel_rfl
theorem aJR(hA:Sh 97 A A')(hB:Sh 98 B B')(hC:MO 99 C)(ex:List SO):EM [.pv (.lst (A++B++C))] ex=some (.pv (.lst (A'++B'++C)),ex):=by
 obtain⟨x,rfl,rfl⟩:=hA.ex
 obtain⟨y,rfl,rfl⟩:=hB.ex
 obtain⟨z,rfl⟩:∃ z,C=Ep z:=by
  cases hC with
  |nil=>exact⟨none,rfl⟩
  |a nm ni=>exact⟨some (nm,ni),rfl⟩
 exact aJQ x y z ex
noncomputable def dkB:PV→M Fl:=fun x=>bd (nT 1 x) fun _=>bl [(bA 3 (b2 (b2 (b2 (b2 (aA 3) (kI 31) qM) (aA 1) bP) (kI 1) bP) (kI 1000003) (bZ mD)))]
noncomputable def HY(A:PV)(L:List Int)(o1:Option SV)(mx:Int):St:=⟨[some (.pv A),o1,some (.ref 1),some (.pv (.int mx))],[.dead,.list (L.map .int)]⟩
section
variable{nx:List SO→Nat→Option (Option PV)}{b:PV→M Fl}{n i:Nat}{st st₁:St}{y:PV}
theorem aFG(h:nx st.cells i=some none):mU nx b (n+1) i st=some (.next,st):=by
 show(match nx st.cells i with | some (some y)=>Mine.fl (b y) (mU nx b n (i+1)) st | some none=>some (.next,st) | none=>none)=_
 rw [h]
theorem aFH(h:nx st.cells i=some (some y))(hb:b y st=some (.next,st₁)):mU nx b (n+1) i st=mU nx b n (i+1) st₁:=by
 show(match nx st.cells i with | some (some y)=>Mine.fl (b y) (mU nx b n (i+1)) st | some none=>some (.next,st) | none=>none)=_
 exact(h).symm▸aJ hb
end
theorem aEB(A:PV)(L r:List Int):∀(i fuel:Nat) (mx:Int) (o1:Option SV),L.drop i=r→r.length < fuel→∃ mx' o',Nw 1 fuel i dkB (HY A L o1 mx)=some (.next,HY A L o' mx'):=by
 induction r with
 |nil=>exact fun i fuel mx o1 h hf=>match fuel,hf with
  |fuel+1,_=>⟨mx,o1,aFG (congrArg some (by rw [TG];rw [bT];exact List.drop_eq_nil_iff.mp h))⟩
 |cons x r ih=>exact fun i fuel mx o1 h hf=>match fuel,hf with
  |fuel+1,hf=>by
   obtain⟨mx',o',e⟩:=ih (i+1) fuel (((mx*31+x+1)).fmod 1000003) (some (.pv (.int x))) (by rw [←List.tail_drop,h];rfl) (Ho hf)
   have hx:L[i]? =some x:=by rw [←Nat.add_zero i,←LV,h];rfl
   exact⟨mx',o',(aFH (congrArg some (by rw [iW,hx];rfl)) (by kernel_rfl)).trans e⟩
theorem aEg(xs:List Int)(hx:xs.length≤63):∃ L:List Int,L.length≤24∧pS none (some 24) (xs.map PV.int)=L.map .int:=by
 refine⟨xs.take (clipAt xs.length 24),?_,?_⟩
 ·refine aP (List.length_take_le _ _) ?_
  exact Int.toNat_le.mpr (Int.max_le.mpr ⟨by decide,Int.min_le_left _ _⟩)
 ·unfold pS
  simp [LY]
inductive Zs(xs:List Int):Prop
 |mk (ys:List Int) (mx:Int) (hh0:ys.length≤24) (hh1:YO [.pv (.lst (xs.map .int))] []=some (.ref 2,[.dead,.list (ys.map .int),.sdict .str [.str [108,101,102,116],.str [109,105,120,101,100]] [.ref 1,.pv (.int mx)]]))
theorem aEq(xs:List Int)(hx:xs.length≤63):Zs xs:=by
 obtain⟨L,hL,eL⟩:=aEg xs hx
 let A:PV:=.lst (xs.map .int)
 let st0:St:=⟨[some (.pv A),none,none,none],[]⟩
 let st1:St:=⟨[some (.pv A),none,none,none],[.dead]⟩
 let f:PV→PV:=fun x=>match x with | .int v=>.int (v.fmod 1000003) | _=>.none
 let M:List Int:=L.map fun v=>v.fmod 1000003
 have hM:M.length≤24:=by rw [bT];exact hL
 obtain⟨o',e⟩:=yZ (g:=nT 1) (t:=rt true) (m:=(b2 (ge PC (aA 1)) (kI 1000003) (bZ mD))) (fun o=>⟨[none,o,none],[.dead]⟩) (fun _=>true) f (L.map .int) (fun _ _=>rfl) (fun _ _=>rfl) (fun x hx _=>by
  obtain⟨v,_,rfl⟩:=List.mem_map.mp hx
  rfl) none
 have ef:((L.map PV.int).filter (fun _=>true)).map f=M.map .int:=by
  rw [List.filter_eq_self.mpr (fun _ _=>rfl),iY,iY]
  rfl
 rw [ef] at e
 obtain⟨mx,o1,el⟩:=aEB A M M 0 100 6363 none rfl (ul hM rfl)
 refine⟨M,mx,hM,?_⟩
 have es:(ge cE (pV (aA 0) (rt none) (pa (kI 24)))) st0=some (.pv (.lst (L.map .int)),st1):=by
  refine(eL)▸?_
  refine eX (a:=.ref 0) (st₁:=⟨[some (.pv A),none,none,none],[.list (pS none (some 24) (xs.map PV.int))]⟩) ?_ rfl
  show gd (decide ((xs.map PV.int).length≤1000000)) (fun st=>some (SV.ref st.cells.length,⟨st.loc,st.cells++[.list (pS none (some 24) (xs.map PV.int))]⟩)) st0=_
  rw [bT,decide_eq_true (ub hx rfl:xs.length≤1000000)]
  rfl
 have ec:NL dN (ge cE (pV (aA 0) (rt none) (pa (kI 24)))) [none,none,none] (nT 1) (rt true) (b2 (ge PC (aA 1)) (kI 1000003) (bZ mD)) st0=some (.ref 1,⟨[some (.pv A),none,none,none],[.dead,.list (M.map .int)]⟩):=
  Kx (st₂:=⟨[none,o',none],[.dead]⟩) es (xs:=L.map .int) rfl (by rw [bT];exact ub hL rfl) e
 refine eK (st:=⟨[some (.pv A),o1,some (.ref 1),some (.pv (.int mx))],[.dead,.list (M.map .int),.sdict .str [.str [108,101,102,116],.str [109,105,120,101,100]] [.ref 1,.pv (.int mx)]]⟩) (by rfl) ?_
 refine aO (st₁:=HY A M none 6363) ?_ (aO (st₁:=HY A M o1 mx) ?_ (fC (fF (by rfl))))
 ·exact DQ (u:=()) (as:=[.ref 1,.pv (.int 6363)]) (st₁:=⟨[some (.pv A),none,none,none],[.dead,.list (M.map .int)]⟩) (dM ec (by rfl)) (by rfl)
 ·refine(aJ (a:=.ref 1) (st₁:=HY A M none 6363) ?_).trans ?_
  ·rfl
  ·exact el
section
set_option tactic.hygienic true
noncomputable def rf:Nat→PV→Bool
 |0,_=>false
 |n+1,x=>match x with
  |.none=>true
  |.bool _=>true
  |.int _=>true
  |.str _=>true
  |.bytes _=>true
  |.tup xs=>xs.all (rf n)
  |.lst xs=>xs.all (rf n)
  |_=>false
instance(v w:aU):Decidable (v=w):=decidable_of_iff (v.x=w.x∧v.z=w.z∧v.ns=w.ns) ⟨fun h=>by cases v;cases w;exact congr (congr (congrArg aU.mk h.1) h.2.1) h.2.2,fun h=>h▸⟨rfl,rfl,rfl⟩⟩
theorem Iq{xs:List PV}(h:∀ x∈xs,f x x=some true):mR f xs xs=some true:=by
 induction xs with
 |nil=>rfl
 |cons x xs ih=>
  show(match f x x with | some a=>(match mR f xs xs with | some b=>some (a && b) | none=>none) | none=>none)=_
  rw [h x (.head _),ih fun y hy=>h y (.tail _ hy)];rfl
theorem NT:∀ {n:Nat} {x:PV},rf n x=true→jA n x x=some true
 |0,_,h=>by exact eP h
 |n+1,x,h=>by
  cases x <;> first | rfl | (cases h;done) | skip
  ·exact congrArg some (by simp)
  ·exact congrArg some (EF.mpr rfl)
  ·exact congrArg some (jL.mpr rfl)
  ·exact congrArg some (jL.mpr rfl)
  ·exact Iq fun y hy=>NT (List.all_eq_true.mp h y hy)
  ·exact Iq fun y hy=>NT (List.all_eq_true.mp h y hy)
theorem JR(h:rf 8 x=true)(st:St):oZ (.pv x) (.pv x) st=some (false,st):=onSome_eq (NT h)
theorem aAS(d:Nat)(a:List (List Nat)):∀ b:List (List Nat),mR (jA (d+1)) (a.map .bytes) (b.map .bytes)=some (decide (a=b)):=by
 induction a with
 |nil=>exact fun b=>by cases b <;> rfl
 |cons x a ih=>
  intro b
  cases b with
  |nil=>rfl
  |cons y b=>
   show(match mR (jA (d+1)) (a.map .bytes) (b.map .bytes) with | some b=>some (eqL x y && b) | none=>none)=_
   refine(ih b).symm▸?_
   refine congrArg some ?_
   rw [qS,hZ,jL,decide_eq_true_iff,decide_eq_true_iff,SX]
theorem aHO(la:a.length=10)(lb:b.length=10)(h:bK z a=bK y b):z=y∧a=b:=Lj la lb (by unfold ct;rw [h])
theorem XX(d:Nat)(hv:eJ v)(hw:eJ w):jA (d+4) (cV v) (cV w)=some (decide (v=w)):=by
 cases v with
 |none=>cases w <;> rfl
 |some v=>cases w with
  |none=>rfl
  |some w=>
   obtain⟨x,z,a⟩:=v
   obtain⟨y,u,b⟩:=w
   show(match (match mR (jA (d+1+1)) ((bK z a).map .bytes) ((bK u b).map .bytes) with | some a=>some (a && true) | none=>none) with | some b=>some (eqI (mo x) (mo y) && b) | none=>none)=_
   rw [aAS (d+1)]
   refine congrArg some ?_
   rw [qS,hZ,Bool.and_true,decide_eq_true_iff,decide_eq_true_iff,TU,show eqI (mo x) (mo y)=decide (x=y) by cases x <;> cases y <;> rfl,decide_eq_true_iff]
   exact⟨fun h=>let⟨a,b⟩:=aHO hv hw h.2;by cases h.1;cases a;subst b;rfl,fun h=>by cases h;exact⟨rfl,rfl⟩⟩
theorem LI(hg:Gd S){vo vn:Option aU}(ho:eE S vo o)(hn:eE S vn n):vo=vn↔o=n:=by
 cases vo <;> cases o <;> first | exact ho.elim | skip
 ·cases vn <;> cases n <;> first | exact hn.elim | simp
 ·cases vn <;> cases n <;> first | exact hn.elim | simp
  rename_i v o w n
  obtain⟨x,i⟩:=o
  obtain⟨y,j⟩:=n
  obtain⟨hx,hi⟩:=ho
  obtain⟨hy,hj⟩:=hn
  constructor
  ·rintro rfl
   have hlt:=(List.getElem?_eq_some_iff.mp hi).1
   have:i=j:=(Hg hlt hg.nodup).mp (hi.trans hj.symm)
   exact(hx).symm▸(hy).symm▸(this).symm▸rfl
  ·intro h
   cases h
   rw [hi] at hj
   cases v;cases w
   simp only at hx hy hj
   cases hj
   exact(hx)▸(hy)▸rfl
theorem BN:∀ {k n m:Nat},m∈fr k n→n < m∧m≤n+k
 |0,_,_,h=>by cases h
 |k+1,n,m,h=>by
  rcases List.mem_cons.mp h with rfl | h
  ·exact⟨yA n,oE (MD 1 k) n⟩
  ·exact⟨Nat.lt_of_succ_lt (BN h).1,aP (BN h).2 (dS (wB n k))⟩
theorem IP:∀ {k n:Nat},(fr k n).Nodup
 |0,_=>pK
 |k+1,n=>List.nodup_cons.mpr ⟨fun h=>GU _ (BN h).1,IP⟩
theorem Rq:∀ {l:List Nat},l.Nodup→(l.map ln).Nodup
 | [],_=>pK
 |a::l,h=>by
  rw [iX,MA]
  refine⟨fun hm=> ?_,Rq (List.nodup_cons.mp h).2⟩
  obtain⟨b,hb,e⟩:=List.mem_map.mp hm
  exact(List.nodup_cons.mp h).1 (Rp e▸hb)
theorem JJ(h:l.Nodup):(bK z l).Nodup:=by
 cases l with
 |nil=>exact pK
 |cons a l=>
  show(lZ z a::l.map ln).Nodup
  rw [MA]
  refine⟨fun hm=> ?_,Rq (List.nodup_cons.mp h).2⟩
  obtain⟨b,hb,e⟩:=List.mem_map.mp hm
  have:=Ru (z':=false) e.symm
  exact(List.nodup_cons.mp h).1 (this.2▸hb)
theorem Be(h:∀ m∈l,m < 100):∀ x∈bK z l,wD x:=by
 cases l with
 |nil=>intro x hx;cases hx
 |cons a l=>
  intro x hx
  rcases List.mem_cons.mp hx with rfl | hx
  ·exact⟨z,a,h a (uS ..),rfl⟩
  ·obtain⟨b,hb,rfl⟩:=List.mem_map.mp hx
   exact⟨false,b,h b (sG _ hb),rfl⟩
structure Wf(n:Nat)(v:aU):Prop where
 len:v.ns.length=10
 nd:v.ns.Nodup
 le:∀ m∈v.ns,m≤n
theorem Wf.mono(h:Wf n v)(hn:n≤n'):Wf n' v:=⟨h.len,h.nd,fun m hm=>aP (h.le m hm) hn⟩
theorem ZG:Wf (n+10) (fV z n):=⟨xA,IP,fun _ hm=>(BN hm).2⟩
theorem aIH(h:Wf n v):(bK v.z v.ns++(fr k n).map ln).Nodup:=by
 obtain⟨x,z,ns⟩:=v
 have hn:(ns++fr k n).Nodup:=List.nodup_append.mpr ⟨h.nd,IP,fun a ha b hb e=>Nat.not_lt.mpr (aP (dS e.symm) (h.le a ha)) (BN hb).1⟩
 cases ns with
 |nil=>cases h.len
 |cons a l=>
  have:bK z (a::l)++(fr k n).map ln=bK z (a::(l++fr k n)):=by
   show lZ z a::l.map ln++(fr k n).map ln=lZ z a::(l++fr k n).map ln
   rw [cW];rfl
  rw [this]
  exact JJ hn
noncomputable def vU(n:Nat)(v:Option aU):Prop:=match v with
 |some v=>Wf n v
 |none=>True
theorem sO.wf(h:sO v n r n')(hv:Wf n v):vU n' r∧Rv (some v) r∧n≤n':=by
 cases h with
 |gone=>exact⟨trivial,.del v hv.len (JJ hv.nd),cZ _⟩
 |flip=>
  refine⟨⟨hv.len,hv.nd,hv.le⟩,.cut v _ 0 [] hv.len hv.len (jS _) rfl (by rw [gQ];exact JJ hv.nd) ?_,cZ _⟩
  rw [gQ,Hl (by rw [sV,hv.len];exact cZ _)]
 |cut k hk=>
  have hl:(wW v k n).ns.length=10:=by
   show(v.ns.take (10 - k)++fr k n).length=10
   rw [fH,CX,xA,hv.len,ME (Nat.sub_le ..),Hp hk]
  refine⟨⟨hl,?_,fun m hm=> ?_⟩,.cut v _ k ((fr k n).map ln) hv.len hl hk (by rw [bT,xA]) (aIH hv) (Ln hv.len hk),oF n k⟩
  ·refine List.nodup_append.mpr ⟨hv.nd.sublist (List.take_sublist _ _),IP,fun a ha b hb e=> ?_⟩
   exact Nat.not_lt.mpr (aP (dS e.symm) (hv.le a (TL ha))) (BN hb).1
  ·rcases List.mem_append.mp hm with hm | hm
   ·exact aP (hv.le m (TL hm)) (oF n k)
   ·exact(BN hm).2
theorem yQ.wf(h:yQ n r n'):vU n' r∧(r=none∨Rv none r)∧n≤n':=by
 cases h with
 |no=>exact⟨trivial,.inl rfl,cZ _⟩
 |mk z=>exact⟨ZG,.inr (.add _ xA (JJ IP)),oF _ 10⟩
theorem mX(h:vU n v):eJ v:=by
 cases v with
 |none=>trivial
 |some v=>exact Wf.len h
theorem LJ(h:vU n v)(hn:n < 100)(k:eE S v o):rU S o:=by
 cases v with
 |none=>cases o with
  |none=>trivial
  |some o=>exact k.elim
 |some v=>cases o with
  |none=>exact k.elim
  |some o=>exact⟨v.z,v.ns,k.2,Wf.len h,Be fun m hm=>sI (Wf.le h m hm) hn,JJ (Wf.nd h)⟩
end
noncomputable def gv(a b c:Option aU)(p:Nat):Option aU:=match p with
 |97=>a
 |98=>b
 |_=>c
noncomputable def oW(p:Nat):Prop:=p=97∨p=98∨p=99
theorem aMl(a b c:Option aU)(hp:oW p)(st:St):dY (.pv (cS a b c)) (.pv (.bytes [p])) st=some (.pv (cV (gv a b c p)),st):=by
 rcases hp with rfl | rfl | rfl <;> cases a <;> cases b <;> cases c <;> rfl
theorem IU(hp:oW p)(h:m₀ st=some (.pv (cS a b c),st))(h':m₁ st=some (.pv (.bytes [p]),st)):bL cX dY m₀ m₁ st=some (.pv (cV (gv a b c p)),st):=
 (qL h rfl h').trans (aMl a b c hp st)
theorem KV(a b c:Option aU)(hp:oW p)(h:gv a b c p=some v)(st:St):aW (.pv (cS a b c)) (.pv (.bytes [p])) st=some (.pv (vp v),st):=by
 rcases hp with rfl | rfl | rfl
 ·have h:a=some v:=h
  subst h
  cases b <;> cases c <;> kernel_rfl
 ·have h:b=some v:=h
  subst h
  cases a <;> cases c <;> kernel_rfl
 ·have h:c=some v:=h
  subst h
  cases a <;> cases b <;> kernel_rfl
noncomputable def lw(cs:List SO)(v0 v1 v2 v3 v4 v5 v6 v7 v8 v9 v10 v11 v12 v13 v14 v15 v16 v17 v18 v19 v20:Option SV):St:=⟨[v0,v1,v2,v3,v4,v5,v6,v7,v8,v9,v10,v11,v12,v13,v14,v15,v16,v17,v18,v19,v20,none,none,none,none,none,none,none,none,none,none,none,none,none,none,none,none,none],cs⟩
noncomputable def mF(a b c:Option aU):List PV:=(pE a b c).map fun e=>.tup [.bytes [e.1],vp e.2]
noncomputable def gk(o:Option (List PV×List PV)):SO:=match o with
 |some (ks,vs)=>.dict .bytes ks vs
 |none=>.dead
noncomputable def uL(q:Bool):List PV:=match q with
 |true=>[.bytes [97],.bytes [98],.bytes [99]]
 |false=>[.bytes [97],.bytes [98]]
noncomputable def g1(I J:List PV):List SO:=[.list I,.list J,.list (I++J),gk (jY .bytes (I++J) [] []),.dead]
noncomputable def uE1:M SV:=(ge cE (ge nR (ge (zA .bytes) (b2 (ge qJ (mV cX qI (aA 3))) (ge qJ (mV cX qI (aA 4))) bP))))
noncomputable def uE2:M SV:=(ge cE (ge nR (ge (zA .bytes) (b2 (b2 (ge qJ (mV cX qI (aA 3))) (ge qJ (mV cX qI (aA 4))) bP) (ge qJ (mV cX qI (aA 17))) bP))))
noncomputable def g2(I J K:List PV):List SO:=[.list I,.list J,.list (I++J),.list K,.list (I++J++K),gk (jY .bytes (I++J++K) [] []),.dead]
theorem aJH(l:List (Nat×aU))(h:∀ e∈l,oW e.1):∀ q vs,∃ vs',jY .bytes (l.map fun e=>.tup [.bytes [e.1],vp e.2]) (uL q) vs=some (uL (q || l.any fun e=>bV e.1 99),vs'):=by
 induction l with
 |nil=>exact fun q vs=>⟨vs,by rw [show(q || ([]:List (Nat×aU)).any fun e=>bV e.1 99)=q from Bool.or_false q];rfl⟩
 |cons e l ih=>
  intro q vs
  obtain⟨p,v⟩:=e
  have ih:=ih fun e he=>h e (.tail _ he)
  have hp:(dZ (uL q) vs (.bytes [p]) (vp v)).1=uL (q || bV p 99):=by
   rcases(h _ (.head _):oW p) with rfl | rfl | rfl <;> cases q <;> rfl
  obtain⟨vs',e⟩:=ih (q || bV p 99) (dZ (uL q) vs (.bytes [p]) (vp v)).2
  rw [←hp] at e
  refine⟨vs',e.trans ?_⟩
  rw [Bool.or_assoc];rfl
theorem Es(h:e∈FU p v):e.1=p:=by
 cases v with
 |none=>cases h
 |some v=>cases List.mem_singleton.mp h;rfl
theorem Et(a b c:Option aU):(∀ e∈pE a b c,oW e.1)∧((pE a b c).any fun e=>bV e.1 99)=c.isSome:=by
 refine⟨fun e h=> ?_,by cases a <;> cases b <;> cases c <;> rfl⟩
 rcases List.mem_append.mp h with h | h
 ·exact(List.mem_append.mp h).elim (fun h=>.inl (Es h)) fun h=>.inr (.inl (Es h))
 ·exact .inr (.inr (Es h))
theorem Ul(va vb:aU)(l:List (Nat×aU))(h:∀ e∈l,oW e.1):∃ vs',jY .bytes (mF (some va) (some vb) none++l.map fun e=>.tup [.bytes [e.1],vp e.2]) [] []=some (uL (l.any fun e=>bV e.1 99),vs'):=
 aJH l h false [vp va,vp vb]
section
variable{loc:List (Option SV)}{cs:List SO}
theorem Aj(h:loc[i]? =some (some (.pv (cS a b c)))):ge qJ (mV cX qI (aA i)) ⟨loc,cs⟩=some (.ref cs.length,⟨loc,cs++[.list (mF a b c)]⟩):=by
 refine(BO ((aIj (a:=.pv (cS a b c)) (st₁:=⟨loc,cs⟩) ?_ rfl).trans rfl)).trans ?_
 ·unfold aA;dsimp only;rw [h]
 ·cases a <;> cases b <;> cases c <;> rfl
theorem aAM{xs ys:List PV}(h:cs[i]? =some (.list xs))(h':cs[j]? =some (.list ys))(hl:xs.length+ys.length≤1000000):bP (.ref i) (.ref j) ⟨loc,cs⟩=some (.ref cs.length,⟨loc,cs++[.list (xs++ys)]⟩):=by
 have l1:mB ⟨loc,cs⟩ (.ref i)=some xs:=by unfold mB;dsimp only;rw [h]
 have l2:mB ⟨loc,cs⟩ (.ref j)=some ys:=by unfold mB;dsimp only;rw [h']
 show iI (.ref i) (fun l=>iI (.ref j) (fun m=>dQ (l.length+m.length) fun st=>some (SV.ref st.cells.length,⟨st.loc,st.cells++[.list (l++m)]⟩)) er) er ⟨loc,cs⟩=_
 unfold iI
 rw [l1]
 show(match mB ⟨loc,cs⟩ (.ref j) with | some m=>_ | none=>_)=_
 rw [l2]
 show dQ (xs.length+ys.length) _ _=_
 unfold dQ
 rw [decide_eq_true hl];rfl
theorem aEu{xs ks vs:List PV}(h:cs[j]? =some (.list xs))(hl:xs.length≤1000000)(e:jY .bytes xs [] []=some (ks,vs)):zA .bytes (.ref j) ⟨loc,cs⟩=some (.ref cs.length,⟨loc,cs++[gk (jY .bytes xs [] [])]⟩):=by
 unfold zA iI
 rw [show mB ⟨loc,cs⟩ (.ref j)=some xs by unfold mB;dsimp only;rw [h]]
 show gd (true && decide (xs.length≤1000000)) (eZ (jY .bytes xs [] []) _) _=_
 rw [decide_eq_true hl,e];rfl
theorem aOE(h:cs[j]? =some (.dict .bytes (uL q) vs)):nR (.ref j) ⟨loc,cs⟩=some (.ref cs.length,⟨loc,cs++[.list (uL q)]⟩):=by
 unfold nR KC iI
 rw [show mB ⟨loc,cs⟩ (.ref j)=none by unfold mB;dsimp only;rw [h]]
 show kJ (.ref j) _ er _=_
 unfold kJ
 rw [NQ h]
 cases q <;> kernel_rfl
theorem Oj:(cs++[x]++[y])[cs.length]? =some x:=by
 rw [gP,CW (cZ _),GX];rfl
theorem zX(a b c:Option aU):(mF a b c).length≤3:=by
 cases a <;> cases b <;> cases c <;> exact bR rfl
noncomputable def jn(cs:List SO)(I J:List PV):List SO:=cs++[.list I]++[.list J]++[.list (I++J)]
theorem Qn(h₁:m₁ ⟨loc,cs⟩=some (.ref i,⟨loc,ds⟩))(h₂:∀ ds,m₂ ⟨loc,ds⟩=some (.ref ds.length,⟨loc,ds++[.list J]⟩))(g:(ds++[SO.list J])[i]? =some (.list I))(hl:I.length+J.length≤1000000):b2 m₁ m₂ bP ⟨loc,cs⟩=some (.ref (ds++[SO.list J]).length,⟨loc,ds++[.list J]++[.list (I++J)]⟩):=
 (vC h₁ (h₂ ds)).trans (aAM g zI hl)
theorem Rc(h:m ⟨loc,cs⟩=some (.ref ds.length,⟨loc,ds++[.list X]⟩))(hl:X.length≤1000000)(e:jY .bytes X [] []=some (uL q,vs)):ge cE (ge nR (ge (zA .bytes) m)) ⟨loc,cs⟩=some (.pv (.lst (uL q)),⟨loc,ds++[.list X]++[gk (jY .bytes X [] [])]++[.dead]⟩):=
 eX (eX (eX h (aEu zI hl e)) (aOE (by rw [e];exact zI))) OS
section
variable{va vb:aU}{a b c a' b' c':Option aU}(h3:loc[3]? =some (some (.pv (cS (some va) (some vb) none))))(h4:loc[4]? =some (some (.pv (cS a b c))))
include h3 h4
theorem Yj:b2 (ge qJ (mV cX qI (aA 3))) (ge qJ (mV cX qI (aA 4))) bP ⟨loc,cs⟩=some (.ref (cs++[SO.list (mF (some va) (some vb) none)]++[SO.list (mF a b c)]).length,⟨loc,jn cs (mF (some va) (some vb) none) (mF a b c)⟩):=
 Qn (Aj h3) (fun _=>Aj h4) Oj (aP (mM (zX ..) (zX ..)) (by decide))
theorem aPD:uE1 ⟨loc,cs⟩=some (.pv (.lst (uL c.isSome)),⟨loc,cs++g1 (mF (some va) (some vb) none) (mF a b c)⟩):=by
 obtain⟨hP,hq⟩:=Et a b c
 obtain⟨vs,e⟩:=Ul va vb (pE a b c) hP
 rw [hq] at e
 refine(Rc (Yj h3 h4) ?_ e).trans ?_
 ·rw [fH];exact aP (mM (zX ..) (zX ..)) (by decide)
 ·rw [gP,gP,gP,gP];rfl
theorem aPE(h17:loc[17]? =some (some (.pv (cS a' b' c')))):uE2 ⟨loc,cs⟩=some (.pv (.lst (uL (c.isSome || c'.isSome))),⟨loc,cs++g2 (mF (some va) (some vb) none) (mF a b c) (mF a' b' c')⟩):=by
 obtain⟨hP,hq⟩:=Et a b c
 obtain⟨hP',hq'⟩:=Et a' b' c'
 obtain⟨vs,e⟩:=Ul va vb (pE a b c++pE a' b' c') fun e h=>(List.mem_append.mp h).elim (hP e) (hP' e)
 rw [List.any_append,hq,hq',cW,←gP] at e
 have hl:(mF (some va) (some vb) none++mF a b c).length≤6:=FF (zX ..) (zX ..)
 refine(Rc (Qn (Yj h3 h4) (fun _=>Aj h17) Oj (aP (mM hl (zX ..)) (by decide))) (aP (FF hl (zX ..)) (by decide)) e).trans ?_
 unfold jn
 rw [gP,gP,gP,gP,gP,gP];rfl
end
end
noncomputable def sY(p:Nat)(o n:OE)(vo vn:Option aU):List Pc:=(dG p o n).map fun _=>⟨p,o,n,vo,vn,cF (lv vo) (lv vn),cF (lv vn) (lv vo)⟩
theorem Df(p:Nat)(o n:OE)(vo vn:Option aU):(sY p o n vo vn).map Pc.ch=dG p o n:=by
 unfold sY dG
 cases decide (o=n) <;> rfl
noncomputable def xH(c:Pc):PV:=.tup [.bytes [c.p],mE (bz c.vo || bz c.vn) c.t,mE (bz c.vo || bz c.vn) c.u]
theorem Vk(b:Bool)(t:Int):rf 6 (mE b t)=true:=by cases b <;> rfl
theorem aKK(c:Pc):rf 7 (xH c)=true:=by
 show(true && (rf 6 (mE (bz c.vo || bz c.vn) c.t) && (rf 6 (mE (bz c.vo || bz c.vn) c.u) && true)))=true
 rw [Vk,Vk]
 rfl
theorem FQ{l:List PV}(h:∀ x∈l,rf 7 x=true):rf 8 (.lst l)=true:=List.all_eq_true.mpr h
theorem aGv{src:M SV}{st:St}{cs:List Pc}(hs:src st=some (.pv (.lst (cs.map Pc.nu)),st))(hl:cs.length≤10):eH dN src [none,none] (nT 1) (rt true) (aZ (ar [(ge a_path (aA 1)),(ge WB (aA 1)),(ge WD (aA 1))]) cO) st=some (.pv (.lst (cs.map xH)),st):=by
 let f:PV→PV:=fun x=>match x with | .obj 8 l=>.tup l | _=>.none
 obtain⟨o',e⟩:=yZ (g:=nT 1) (t:=rt true) (m:=(aZ (ar [(ge a_path (aA 1)),(ge WB (aA 1)),(ge WD (aA 1))]) cO)) (fun o=>⟨[none,o],st.cells⟩) (fun _=>true) f (cs.map Pc.nu) (fun _ _=>rfl) (fun _ _=>rfl) (fun x hx _=>by
  obtain⟨c,_,rfl⟩:=List.mem_map.mp hx
  rfl) none
 have ef:((cs.map Pc.nu).filter (fun _=>true)).map f=cs.map xH:=by
  rw [List.filter_eq_self.mpr (fun _ _=>rfl),iY]
  rfl
 rw [ef] at e
 exact tZ (st₂:=⟨[none,o'],st.cells⟩) (xs:=cs.map Pc.nu) hs rfl (by rw [bT];exact ub hl rfl) e
noncomputable def fZ(x:PV):Nat:=match x with
 |.bytes [p]=>p
 |_=>0
theorem aFn{a b c a' b' c':Option aU}{st:St}{xs:List PV}(hs:aA 11 st=some (.pv (.lst xs),st))(hl:xs.length≤10)(hx:∀ x∈xs,∃ p,oW p∧x= .bytes [p])
  (hcap:pR [none,none,none,some 4,some 3] st.loc= [none,none,none,some (.pv (cS a' b' c')),some (.pv (cS a b c))]) (h1:∀ p,oW p→eJ (gv a b c p)) (h2:∀ p,oW p→eJ (gv a' b' c' p)):
  eH dN (aA 11) [none,none,none,some 4,some 3] (nT 1) (t2 (bL cX dY (aA 4) (aA 1)) (bL cX dY (aA 3) (aA 1)) oZ) (b2 (aZ (ar [(aA 1)]) cO) (cf IH (ar [(bL cX dY (aA 4) (aA 1)),(bL cX dY (aA 3) (aA 1))])) bP) st=
   some (.pv (.lst ((xs.filter fun x=> !decide (gv a b c (fZ x)=gv a' b' c' (fZ x))).map fun x=>.tup [.bytes [fZ x],mE (bz (gv a b c (fZ x)) || bz (gv a' b' c' (fZ x))) (cF (lv (gv a b c (fZ x))) (lv (gv a' b' c' (fZ x)))),mE (bz (gv a b c (fZ x)) || bz (gv a' b' c' (fZ x))) (cF (lv (gv a' b' c' (fZ x))) (lv (gv a b c (fZ x))))])),st):=by
 let F:Option SV→St:=fun o=>⟨[none,o,none,some (.pv (cS a' b' c')),some (.pv (cS a b c))],st.cells⟩
 have g4:∀ {p},oW p→bL cX dY (aA 4) (aA 1) (F (some (.pv (.bytes [p]))))=some (.pv (cV (gv a b c p)),F (some (.pv (.bytes [p])))):=fun {p} hp=>IU hp rfl rfl
 have g3:∀ {p},oW p→bL cX dY (aA 3) (aA 1) (F (some (.pv (.bytes [p]))))=some (.pv (cV (gv a' b' c' p)),F (some (.pv (.bytes [p])))):=fun {p} hp=>IU hp rfl rfl
 obtain⟨o',e⟩:=yZ (g:=nT 1) (t:=(t2 (bL cX dY (aA 4) (aA 1)) (bL cX dY (aA 3) (aA 1)) oZ)) (m:=(b2 (aZ (ar [(aA 1)]) cO) (cf IH (ar [(bL cX dY (aA 4) (aA 1)),(bL cX dY (aA 3) (aA 1))])) bP)) F (fun x=> !decide (gv a b c (fZ x)=gv a' b' c' (fZ x))) (fun x=>.tup [.bytes [fZ x],mE (bz (gv a b c (fZ x)) || bz (gv a' b' c' (fZ x))) (cF (lv (gv a b c (fZ x))) (lv (gv a' b' c' (fZ x)))),mE (bz (gv a b c (fZ x)) || bz (gv a' b' c' (fZ x))) (cF (lv (gv a' b' c' (fZ x))) (lv (gv a b c (fZ x))))]) xs (fun _ _=>rfl) (fun x hm=>by
  obtain⟨p,hp,rfl⟩:=hx x hm
  refine(jO (g4 hp) (g3 hp)).trans ?_
  exact onSome_eq (XX 4 (h1 p hp) (h2 p hp))) (fun x hm _=>by
  obtain⟨p,hp,rfl⟩:=hx x hm
  refine jJ (a:=.pv (.tup [.bytes [p]])) (b:=.pv (.tup [mE (bz (gv a b c p) || bz (gv a' b' c' p)) (cF (lv (gv a b c p)) (lv (gv a' b' c' p))),mE (bz (gv a b c p) || bz (gv a' b' c' p)) (cF (lv (gv a' b' c' p)) (lv (gv a b c p)))])) (by rfl) ?_ (by rfl)
  exact lI (dM (g4 hp) (g3 hp)) (aHP _ _ (h1 p hp) (h2 p hp) _)) none
 exact tZ (st₂:=F o') (xs:=xs) hs rfl (ub hl rfl) (by rw [hcap];exact e)
theorem aPC{b:Bool}:∀ x∈uL b,∃ p,oW p∧x= .bytes [p]:=by
 intro x hx
 cases b with
 |true=>
  have:x= .bytes [97]∨x= .bytes [98]∨x= .bytes [99]:=by simpa [uL] using hx
  rcases this with rfl | rfl | rfl
  ·exact⟨97,.inl rfl,rfl⟩
  ·exact⟨98,.inr (.inl rfl),rfl⟩
  ·exact⟨99,.inr (.inr rfl),rfl⟩
 |false=>
  have:x= .bytes [97]∨x= .bytes [98]:=by simpa [uL] using hx
  rcases this with rfl | rfl
  ·exact⟨97,.inl rfl,rfl⟩
  ·exact⟨98,.inr (.inl rfl),rfl⟩
noncomputable def QL{β:Type}(q:PV→Bool)(f:PV→β)(p:Nat):List β:=match q (.bytes [p]) with
 |true=>[f (.bytes [p])]
 |false=>[]
theorem aPB{β:Type}(b:Bool)(q:PV→Bool)(f:PV→β):((uL b).filter q).map f=QL q f 97++QL q f 98++(match b with | true=>QL q f 99 | false=>[]):=by
 unfold QL uL
 cases b <;> cases h1:q (.bytes [97]) <;> cases h2:q (.bytes [98]) <;> cases h3:q (.bytes [99]) <;> simp [h1,h2,h3]
theorem Dh{p:Nat}{o n:OE}{vo vn:Option aU}(h:vo=vn↔o=n):(match !decide (vo=vn) with | true=>[PV.tup [.bytes [p],mE (bz vo || bz vn) (cF (lv vo) (lv vn)),mE (bz vo || bz vn) (cF (lv vn) (lv vo))]] | false=>[])=(sY p o n vo vn).map xH:=by
 unfold sY dG
 rw [decide_eq_decide.mpr h]
 cases decide (o=n) <;> rfl
theorem aFo{va vb:aU}{a b c:Option aU}{oa ob oa' ob' oc':OE}(ha:some va=a↔oa=oa')(hb:some vb=b↔ob=ob')(hc:none=c↔none=oc'):
  ((uL c.isSome).filter fun x=> !decide (gv (some va) (some vb) none (fZ x)=gv a b c (fZ x))).map (fun x=>PV.tup [.bytes [fZ x],mE (bz (gv (some va) (some vb) none (fZ x)) || bz (gv a b c (fZ x))) (cF (lv (gv (some va) (some vb) none (fZ x))) (lv (gv a b c (fZ x)))),mE (bz (gv (some va) (some vb) none (fZ x)) || bz (gv a b c (fZ x))) (cF (lv (gv a b c (fZ x))) (lv (gv (some va) (some vb) none (fZ x))))])=
   (sY 97 oa oa' (some va) a++sY 98 ob ob' (some vb) b++sY 99 none oc' none c).map xH:=by
 rw [cW,cW,←Dh ha,←Dh hb,←Dh hc,aPB]
 cases c with
 |none=>rfl
 |some c=>rfl
noncomputable def pk(c:Ch):PV:=.bytes [c.1]
noncomputable def dO(D:List Ch):SO:=.dict .bytes (D.map pk) (D.map cp)
noncomputable def dK(D:List Ch):PV:=.dct .bytes (D.map pk) (D.map cp)
noncomputable def pe(p:Nat):PV:=.bytes [p]
theorem aJv(p q:Nat):jC (pe p) (pe q)=true↔p=q:=by
 show eqL [p] [q]=true↔_
 rw [jL]
 simp
theorem aJz(D:List Ch):D.map pk=(D.map (·.1)).map pe:=by rw [iY];rfl
noncomputable def cb(i k j:Nat)(cs:List SO)(v3 v4 v5 v6 v7 v8 v9:Option SV):St:=⟨[some (.ref 5),some (.pv (.lst [aN i,aN k])),some (.pv (aN j)),v3,v4,v5,v6,v7,v8,v9,none,none,none,none],cs⟩
noncomputable def inB:PV→M Fl:=fun x=>bd (nT 6 x) fun _=>bl [(gH fT (aA 6) (aA 5) (ge a_path (aA 6)))]
section
variable{i k j:Nat}{v3 v4 v5 v7 v8 v9:Option SV}
theorem Pz(pre:List SO):∀(D D':List Ch) (v6:Option SV),(∀ c∈D,one c.2.1 c.2.2)→((D'++D).map (·.1)).Nodup→(D'++D).length≤10→
  ∃ q6,fM (D.map cp) inB (cb i k j (pre++[dO D']) v3 v4 (some (.ref pre.length)) v6 v7 v8 v9)=some (.next,cb i k j (pre++[dO (D'++D)]) v3 v4 (some (.ref pre.length)) q6 v7 v8 v9)
 | [],D',v6,_,_,_=>⟨v6,by rw [gQ];rfl⟩
 |c::D,D',v6,h,hn,hl=>by
  have hc:=h c (uS ..)
  obtain⟨q6,e⟩:=Pz pre D (D'++[c]) (some (.pv (cp c))) (fun x hx=>h x (sG _ hx)) (by simpa using hn) (by simpa using hl)
  refine⟨q6,?_⟩
  rw [iX]
  refine(gR (st₁:=cb i k j (pre++[dO (D'++[c])]) v3 v4 (some (.ref pre.length)) (some (.pv (cp c))) v7 v8 v9) ?_).trans (by rw [gP] at e;exact e)
  let st:St:=cb i k j (pre++[dO D']) v3 v4 (some (.ref pre.length)) (some (.pv (cp c))) v7 v8 v9
  refine(aJ (a:=()) (st₁:=st) (by rfl)).trans (cY ?_)
  have hg:st.cells[pre.length]? =some (dO D'):=by
   show(pre++[dO D'])[pre.length]? =_
   simp
  refine tY (c:=.pv (cp c)) (a:=.ref pre.length) (b:=.pv (.bytes [c.1])) (st₁:=st) (u:=()) (by rfl) ?_ (by rfl) (eX (a:=.pv (cp c)) (by rfl) (NM c.1 c.2.1 c.2.2 hc st).2.2.2.2)
  have hnot:dhas (D'.map pk) (.bytes [c.1])=false:=by
   rw [aJz]
   refine ER aJv (k:=c.1) fun hm=> ?_
   rw [cW,iX] at hn
   exact(List.nodup_append.mp hn).2.2 _ hm _ (uS ..) rfl
  refine(QX (k:=[c.1]) (ks:=D'.map pk) (vs:=D'.map cp) (j:=pre.length) hg (by rw [bT];exact ub (aP (List.sublist_append_left ..).length_le hl) rfl) hnot).trans ?_
  have hs:fG st pre.length (.dict .bytes (D'.map pk++[.bytes [c.1]]) (D'.map cp++[cp c]))=cb i k j (pre++[dO (D'++[c])]) v3 v4 (some (.ref pre.length)) (some (.pv (cp c))) v7 v8 v9:=by
   unfold fG dO
   have:st.cells.set pre.length (.dict .bytes (D'.map pk++[.bytes [c.1]]) (D'.map cp++[cp c]))=pre++[.dict .bytes ((D'++[c]).map pk) ((D'++[c]).map cp)]:=by
    show(pre++[dO D']).set pre.length _=_
    rw [MB _ _ (cZ _),cW,cW]
    simp [pk]
   rw [this]
   rfl
  rw [hs]
end
noncomputable def aJn:PV→M Fl:=fun x=>bd (nT 4 x) fun _=>bl [(bA 5 (uH .bytes)),
 (fo (cf EH (ar [(aA 0),(aA 4),(aA 2)])) (nT 6) (bl [(gH fT (aA 6) (aA 5) (ge a_path (aA 6)))])),
 (ex (bL cT dH (aA 3) (ge cE (aA 5))))]
theorem XB(p:Nat)(o n:OE):(dG p o n).map (·.1)= []∨(dG p o n).map (·.1)= [p]:=by
 rcases rF p o n with⟨_,e⟩ | ⟨_,_,e⟩ <;> rw [e]
 ·exact .inl rfl
 ·exact .inr rfl
theorem aEw(a b c a' b' c':OE):((dif a b c a' b' c').map (·.1)).Nodup:=by
 unfold dif
 rw [cW,cW]
 rcases XB 97 a a' with e | e <;> rcases XB 98 b b' with f | f <;> rcases XB 99 c c' with g | g <;> rw [e,f,g] <;> decide
theorem Lw(a b c a' b' c':OE):∀ k∈dif a b c a' b' c',one k.2.1 k.2.2:=by
 intro k hk
 unfold dif at hk
 rw [uR,uR] at hk
 have go:∀ {p o n},k∈dG p o n→one k.2.1 k.2.2:=fun {p o n} hk=>by
  rcases rF p o n with⟨_,e⟩ | ⟨h,_,e⟩ <;> rw [e] at hk
  ·exact(nomatch hk)
  ·exact(List.mem_singleton.mp hk).symm▸h
 rcases hk with(hk | hk) | hk <;> exact go hk
inductive aAb(ω:Dk)(S:List It)(i:Nat)(k:Nat)(j:Nat)(t:Nat)(a:OE)(b:OE)(c:OE)(a':OE)(b':OE)(c':OE)(g:List SO)(R:List PV)(v4:Option SV)(v5:Option SV)(v6:Option SV):Prop
 |mk (q4:_) (q5:_) (q6:_) (hh0:aJn (aN t) (cb i k j (sS ω S++.list R::g) (some (.ref 8)) v4 v5 v6 none none none)=some (.next,cb i k j (sS ω S++.list (R++[dK (dif a b c a' b' c')])::(g++[.dead])) (some (.ref 8)) q4 q5 q6 none none none))
theorem Ua(ω:Dk)(S:List It){i k j t:Nat}{a b c a' b' c':OE}(hi:S[t]? =some (.tree (eS a b c)))(hj:S[j]? =some (.tree (eS a' b' c'))){g:List SO}(hg:g= []∨g= [.dead])(R:List PV)(hR:R.length≤2)(v4 v5 v6:Option SV):aAb ω S i k j t a b c a' b' c' g R v4 v5 v6:=by
 let pre:List SO:=sS ω S++.list R::g
 obtain⟨q6,e⟩:=Pz (i:=i) (k:=k) (j:=j) (v3:=some (.ref 8)) (v4:=some (.pv (aN t))) (v7:=none) (v8:=none) (v9:=none) pre (dif a b c a' b' c') [] v6 (Lw a b c a' b' c') (aEw a b c a' b' c') (aP (EC a b c a' b' c') (bR rfl))
 rw [oD] at e
 refine⟨some (.pv (aN t)),some (.ref pre.length),q6,?_⟩
 have ed:=Lx ω S hi hj (.list R::g++[dO []])
 generalize dif a b c a' b' c'=D at e ed ⊢
 refine(aJ (a:=()) (st₁:=cb i k j pre (some (.ref 8)) (some (.pv (aN t))) v5 v6 none none none) (by rfl)).trans ?_
 refine aO (st₁:=cb i k j (pre++[dO []]) (some (.ref 8)) (some (.pv (aN t))) (some (.ref pre.length)) v6 none none none) (by rfl) (aO (st₁:=cb i k j (pre++[dO D]) (some (.ref 8)) (some (.pv (aN t))) (some (.ref pre.length)) q6 none none none) ?_ (cY ?_))
 ·have ed':EH [.ref 5,.pv (aN t),.pv (aN j)] (pre++[dO []])=some (.pv (.lst (D.map cp)),pre++[dO []]):=by
   have:pre++[dO []]=sS ω S++(.list R::g++[dO []]):=gP ..
   refine(this).symm▸?_
   exact ed
  exact(mT (a:=.pv (.lst (D.map cp))) (st₁:=cb i k j (pre++[dO []]) (some (.ref 8)) (some (.pv (aN t))) (some (.ref pre.length)) v6 none none none) (xs:=D.map cp) (lI (as:=[.ref 5,.pv (aN t),.pv (aN j)]) (by rfl) ed') (by rfl)).trans e
 ·refine sQ (v:=.pv .none) ((qL (u:=()) (a:=.ref 8) (b:=.pv (dK D)) (st₃:=cb i k j (pre++[.dead]) (some (.ref 8)) (some (.pv (aN t))) (some (.ref pre.length)) q6 none none none) (by rfl) (by rfl) ?_).trans ((yU (j:=8) (xs:=R) (by rfl) (ub hR rfl)).trans ?_))
  ·rcases hg with rfl | rfl <;> rfl
  ·rcases hg with rfl | rfl <;> rfl
noncomputable def fY(o:OE):PV:=.tup [.int (rT o),rP o]
noncomputable def yX(p:Nat)(o u n:OE):PV:=.obj 7 [.bytes [p],.lst [fY o,fY u],.int (rT n),rP n]
noncomputable def wR(p:Nat)(o u n:OE):List PV:=match decide (u=n) with
 |true=>[]
 |false=>[yX p o u n]
noncomputable def lkD(D:List Ch)(p:Nat):Option PV:=dR (D.map pk) (D.map cp) (.bytes [p])
theorem aIO(D:List Ch)(p:Nat)(st:St):fE (.pv (.bytes [p])) (.pv (dK D)) st=some ((lkD D p).isNone,st):=by
 have e3:zK (.pv (.bytes [p])) (.pv (dK D)) st=some ((lkD D p).isSome,st):=rfl
 exact(mP rfl).trans ((mP rfl).trans (pP ((aJ e3).trans (by cases lkD D p <;> rfl))))
theorem Xm{D:List Ch}{p:Nat}{y:PV}(h:lkD D p=some y)(st:St):aW (.pv (dK D)) (.pv (.bytes [p])) st=some (.pv y,st):=
 LF (ks:=D.map pk) (vs:=D.map cp) (by rfl) h
noncomputable def XH:M Bool:=(tv (ge MV (eH dN (aA 3) [none,none,some 8] (nT 1) (rt true) (c2 (aA 2) (aA 1) fE))))
noncomputable def Kt:M Fl:=(fo (aA 3) (nT 5) (bl [(bA 6 (b2 (aA 5) (aA 8) aW)),
 (ex (bL cT dH (aA 9) (aZ (ar [(ge qY (aA 6)),(ge oO (aA 6))]) cO)))]))
noncomputable def cmE:M Fl:=(ex (bL cT dH (aA 7) (ge cE (nw 7 XZ (ar [(aA 8),(ge cE (aA 9)),(ge oN (aA 6)),(ge lR (aA 6))])))))
noncomputable def DV:PV→M Fl:=fun x=>bd (nT 8 x) fun _=>bl [(bJ XH (bl [(rt .cont)]) (bl [])),
 (bA 9 (aZ (ar []) kH)),Kt,
 (bA 6 (b2 (b2 (aA 3) (kI 0) aW) (aA 8) aW)),cmE]
noncomputable def CC(ω:Dk)(S:List It)(m:Nat)(R:List PV):List SO:=sS ω S++([.dead,.dead,.dead,.list R,.dead]++mZ (2*m) .dead)
section
variable{ω:Dk}{S:List It}{i k j:Nat}{v4 v5 v6 v8 v9:Option SV}{D1 D2:List Ch}
noncomputable abbrev cd(ω:Dk)(S:List It)(i k j:Nat)(D1 D2:List Ch)(m:Nat)(R:List PV)(g:List SO)(v4 v5 v6 v8 v9:Option SV):St:=cb i k j (CC ω S m R++g) (some (.pv (.lst [dK D1,dK D2]))) v4 v5 v6 (some (.ref 11)) v8 v9
theorem aDN(p:Nat)(m:Nat)(R:List PV):XH (cd ω S i k j D1 D2 m R [] v4 v5 v6 (some (.pv (.bytes [p]))) v9)=some ((lkD D1 p).isNone || (lkD D2 p).isNone,cd ω S i k j D1 D2 m R [] v4 v5 v6 (some (.pv (.bytes [p]))) v9):=by
 let st:St:=cd ω S i k j D1 D2 m R [] v4 v5 v6 (some (.pv (.bytes [p]))) v9
 have hc:eH dN (aA 3) [none,none,some 8] (nT 1) (rt true) (c2 (aA 2) (aA 1) fE) st=some (.pv (.lst [.bool (lkD D1 p).isNone,.bool (lkD D2 p).isNone]),st):=by
  refine tZ (st₁:=st) (st₂:=⟨[none,some (.pv (dK D2)),some (.pv (.bytes [p]))],st.cells⟩) (a:=.pv (.lst [dK D1,dK D2])) (xs:=[dK D1,dK D2]) (by rfl) (by rfl) (bR rfl) ?_
  have one:∀(D:List Ch) (l:List PV) (ys:List PV) (o:Option SV) (st':St),iG (nT 1) (rt true) (c2 (aA 2) (aA 1) fE) l ⟨[none,some (.pv (dK D)),some (.pv (.bytes [p]))],st.cells⟩=some (ys,st')→iG (nT 1) (rt true) (c2 (aA 2) (aA 1) fE) (dK D::l) ⟨[none,o,some (.pv (.bytes [p]))],st.cells⟩=some (.bool (lkD D p).isNone::ys,st'):=fun D l ys o st' h=>by
   refine(aJ (a:=()) (st₁:=⟨[none,some (.pv (dK D)),some (.pv (.bytes [p]))],st.cells⟩) (by rfl)).trans ((aJ (a:=true) (st₁:=⟨[none,some (.pv (dK D)),some (.pv (.bytes [p]))],st.cells⟩) (by rfl)).trans ?_)
   refine(aJ (a:=.pv (.bool (lkD D p).isNone)) (st₁:=⟨[none,some (.pv (dK D)),some (.pv (.bytes [p]))],st.cells⟩) (WR (a:=.pv (.bytes [p])) (b:=.pv (dK D)) (by rfl) (by rfl) (aIO D p _))).trans ?_
   exact(aJ h).trans rfl
  exact one D1 _ _ _ _ (one D2 [] [] _ _ rfl)
 unfold XH
 refine(aJ (a:=.pv (.bool ((lkD D1 p).isNone || (lkD D2 p).isNone))) (st₁:=st) (eX (f:=MV) hc ?_)).trans ?_
 ·cases (lkD D1 p).isNone <;> cases (lkD D2 p).isNone <;> rfl
 cases (lkD D1 p).isNone <;> cases (lkD D2 p).isNone <;> rfl
theorem aDO{p:Nat}{o u n:OE}(ho:one o n)(hu:one u n)(hA:lkD D1 p=some (cp (p,o,n)))(hB:lkD D2 p=some (cp (p,u,n))){m:Nat}(hm:m=0∨m=1∨m=2)(R:List PV):
  Kt (cd ω S i k j D1 D2 m R [.list []] v4 v5 v6 (some (.pv (.bytes [p]))) (some (.ref (13+2*m))))=some (.next,cd ω S i k j D1 D2 m R [.list [fY o,fY u]] v4 (some (.pv (dK D2))) (some (.pv (cp (p,u,n)))) (some (.pv (.bytes [p]))) (some (.ref (13+2*m)))):=by
 refine(mT (a:=.pv (.lst [dK D1,dK D2])) (st₁:=cd ω S i k j D1 D2 m R [.list []] v4 v5 v6 (some (.pv (.bytes [p]))) (some (.ref (13+2*m)))) (xs:=[dK D1,dK D2]) (by rfl) (by rfl)).trans ?_
 have step:∀(D:List Ch) (o:OE) (h:one o n) (hD:lkD D p=some (cp (p,o,n))) (L:List PV) (hL:L.length≤2) (v5 v6:Option SV),(fun x=>bd (nT 5 x) fun _=>(bl [(bA 6 (b2 (aA 5) (aA 8) aW)),
 (ex (bL cT dH (aA 9) (aZ (ar [(ge qY (aA 6)),(ge oO (aA 6))]) cO)))])) (dK D) (cd ω S i k j D1 D2 m R [.list L] v4 v5 v6 (some (.pv (.bytes [p]))) (some (.ref (13+2*m))))=some (.next,cd ω S i k j D1 D2 m R [.list (L++[fY o])] v4 (some (.pv (dK D))) (some (.pv (cp (p,o,n)))) (some (.pv (.bytes [p]))) (some (.ref (13+2*m)))):=fun D o h hD L hL v5 v6=>by
  let s1:St:=cd ω S i k j D1 D2 m R [.list L] v4 (some (.pv (dK D))) (some (.pv (cp (p,o,n)))) (some (.pv (.bytes [p]))) (some (.ref (13+2*m)))
  refine(aJ (a:=()) (st₁:=cd ω S i k j D1 D2 m R [.list L] v4 (some (.pv (dK D))) v6 (some (.pv (.bytes [p]))) (some (.ref (13+2*m)))) (by rfl)).trans ?_
  refine aO (st₁:=s1) (iM (jJ (a:=.pv (dK D)) (b:=.pv (.bytes [p])) (by rfl) (by rfl) (Xm hD _))) (cY ?_)
  have ac:=NM p o n h s1
  refine sQ (v:=.pv .none) ((qL (u:=()) (a:=.ref (13+2*m)) (b:=.pv (fY o)) (st₁:=s1) (st₂:=s1) (st₃:=s1) (by rfl) ?_ ?_).trans ((yU (j:=13+2*m) (xs:=L) ?_ (ub hL rfl)).trans ?_))
  ·rcases hm with rfl | rfl | rfl <;> rfl
  ·exact zG (as:=[.pv (.int (rT o)),.pv (rP o)]) (st₁:=s1) (dM (eX (a:=.pv (cp (p,o,n))) (by rfl) ac.1) (eX (a:=.pv (cp (p,o,n))) (by rfl) ac.2.1)) (by rfl)
  ·rcases hm with rfl | rfl | rfl <;> rfl
  ·rcases hm with rfl | rfl | rfl <;> rfl
 exact(gR (step D1 o ho hA [] (bR rfl) v5 v6)).trans ((gR (step D2 u hu hB [fY o] (by decide:1≤2) _ _)).trans rfl)
inductive Zp(ω:Dk)(S:List It)(i:Nat)(k:Nat)(j:Nat)(v4:Option SV)(v5:Option SV)(v6:Option SV)(v8:Option SV)(v9:Option SV)(D1:List Ch)(D2:List Ch)(p:Nat)(o:OE)(u:OE)(n:OE)(m:Nat)(R:List PV):Prop
 |mk (q5:_) (q6:_) (q8:_) (q9:_) (m':_) (f:_) (hh0:(f= .next∨f= .cont)) (hh1:m'≤m+1) (hh2:DV (.bytes [p]) (cd ω S i k j D1 D2 m R [] v4 v5 v6 v8 v9)=some (f,cd ω S i k j D1 D2 m' (R++wR p o u n) [] v4 q5 q6 q8 q9))
theorem aDP{p:Nat}{o u n:OE}(ho:one o n)(hu:u≠n→one u n)(hA:lkD D1 p=some (cp (p,o,n)))(hB:lkD D2 p=match decide (u=n) with | true=>none | false=>some (cp (p,u,n))){m:Nat}(hm:m=0∨m=1∨m=2)(R:List PV)(hR:R.length≤4):Zp ω S i k j v4 v5 v6 v8 v9 D1 D2 p o u n m R:=by
 have ea:=aDN (ω:=ω) (S:=S) (i:=i) (k:=k) (j:=j) (v4:=v4) (v5:=v5) (v6:=v6) (v9:=v9) (D1:=D1) (D2:=D2) p m R
 have e8:nT 8 (.bytes [p]) (cd ω S i k j D1 D2 m R [] v4 v5 v6 v8 v9)=some ((),cd ω S i k j D1 D2 m R [] v4 v5 v6 (some (.pv (.bytes [p]))) v9):=rfl
 replace ea:=(hB)▸(hA)▸ea
 by_cases hun:u=n
 ·replace ea:=(decide_eq_true hun)▸ea
  refine⟨v5,v6,some (.pv (.bytes [p])),v9,m,.cont,.inr rfl,oG m,(aJ e8).trans (DR (iD ea ?_))⟩
  unfold wR
  rw [decide_eq_true hun,gQ]
  rfl
 ·rw [decide_eq_false hun] at ea hB
  have hu1:=hu hun
  have er:=aDO (ω:=ω) (S:=S) (i:=i) (k:=k) (j:=j) (v4:=v4) (v5:=v5) (v6:=v6) ho hu1 hA hB hm R
  refine⟨some (.pv (dK D2)),some (.pv (cp (p,o,n))),some (.pv (.bytes [p])),some (.ref (13+2*m)),m+1,.next,.inl rfl,cZ _,(aJ e8).trans (aO (eY ea rfl) (aO (st₁:=cd ω S i k j D1 D2 m R [.list []] v4 v5 v6 (some (.pv (.bytes [p]))) (some (.ref (13+2*m)))) ?_ (aO er (aO (st₁:=cd ω S i k j D1 D2 m R [.list [fY o,fY u]] v4 (some (.pv (dK D2))) (some (.pv (cp (p,o,n)))) (some (.pv (.bytes [p]))) (some (.ref (13+2*m)))) ?_ (cY ?_)))))⟩
  ·rcases hm with rfl | rfl | rfl <;> rfl
  ·exact iM (v:=.pv (cp (p,o,n))) (jJ (a:=.pv (dK D1)) (b:=.pv (.bytes [p])) (by rfl) (by rfl) (Xm hA _))
  ·let s1:St:=cd ω S i k j D1 D2 m R [.dead] v4 (some (.pv (dK D2))) (some (.pv (cp (p,o,n)))) (some (.pv (.bytes [p]))) (some (.ref (13+2*m)))
   let s2:St:=cd ω S i k j D1 D2 m R [.dead,.dead] v4 (some (.pv (dK D2))) (some (.pv (cp (p,o,n)))) (some (.pv (.bytes [p]))) (some (.ref (13+2*m)))
   have ac:=NM p o n ho s1
   have ef:wR p o u n= [yX p o u n]:=by unfold wR;rw [decide_eq_false hun]
   refine(ef).symm▸?_
   have ha:ar [(aA 8),(ge cE (aA 9)),(ge oN (aA 6)),(ge lR (aA 6))] (cd ω S i k j D1 D2 m R [.list [fY o,fY u]] v4 (some (.pv (dK D2))) (some (.pv (cp (p,o,n)))) (some (.pv (.bytes [p]))) (some (.ref (13+2*m))))=some ([.pv (.bytes [p]),.pv (.lst [fY o,fY u]),.pv (.int (rT n)),.pv (rP n)],s1):=by
    refine nH (a:=.pv (.bytes [p])) (by rfl) (nH (a:=.pv (.lst [fY o,fY u])) (st₁:=s1) ?_ (dM (eX (a:=.pv (cp (p,o,n))) (by rfl) ac.2.2.1) (eX (a:=.pv (cp (p,o,n))) (by rfl) ac.2.2.2.1)))
    rcases hm with rfl | rfl | rfl <;> rfl
   refine sQ (v:=.pv .none) ((qL (u:=()) (a:=.ref 11) (b:=.pv (yX p o u n)) (st₃:=s2) (by rfl) (by rfl) ?_).trans ((yU (j:=11) (xs:=R) (by rfl) (ub hR rfl)).trans ?_))
   ·refine eX (a:=.ref (14+2*m)) (st₁:=cd ω S i k j D1 D2 m R [.dead,.inst 7 [.pv (.bytes [p]),.pv (.lst [fY o,fY u]),.pv (.int (rT n)),.pv (rP n)]] v4 (some (.pv (dK D2))) (some (.pv (cp (p,o,n)))) (some (.pv (.bytes [p]))) (some (.ref (13+2*m)))) ((aJ ha).trans ?_) ?_
    ·rcases hm with rfl | rfl | rfl <;> kernel_rfl
    ·rcases hm with rfl | rfl | rfl <;> rfl
   ·rcases hm with rfl | rfl | rfl <;> rfl
end
theorem Rm(a b c a' b' c':OE):(lkD (dif a b c a' b' c') 97=match decide (a=a') with | true=>none | false=>some (cp (97,a,a')))∧(lkD (dif a b c a' b' c') 98=match decide (b=b') with | true=>none | false=>some (cp (98,b,b')))∧(lkD (dif a b c a' b' c') 99=match decide (c=c') with | true=>none | false=>some (cp (99,c,c'))):=by
 unfold dif dG
 cases decide (a=a') <;> cases decide (b=b') <;> cases decide (c=c') <;> exact⟨rfl,rfl,rfl⟩
theorem aOL(a b c a' b' c':OE)(st:St):nR (.pv (dK (dif a b c a' b' c'))) st=some (.ref st.cells.length,⟨st.loc,st.cells++[.list ((dif a b c a' b' c').map pk)]⟩):=by
 unfold dif dG
 cases decide (a=a') <;> cases decide (b=b') <;> cases decide (c=c') <;> kernel_rfl
noncomputable def jK(p:Nat)(o u n:OE):List PV:=match decide (o=n) with
 |true=>[]
 |false=>wR p o u n
section
variable{ω:Dk}{S:List It}{i k j:Nat}{v4 v5 v6 v8 v9:Option SV}{D1 D2:List Ch}
inductive Zo(ω:Dk)(S:List It)(i:Nat)(k:Nat)(j:Nat)(v4:Option SV)(v5:Option SV)(v6:Option SV)(v8:Option SV)(v9:Option SV)(D1:List Ch)(D2:List Ch)(p:Nat)(o:OE)(u:OE)(n:OE)(m:Nat)(R:List PV)(rest:List PV):Prop
 |mk (q5:_) (q6:_) (q8:_) (q9:_) (m':_) (hh0:m'≤m+1) (hh1:fM ((dG p o n).map pk++rest) DV (cd ω S i k j D1 D2 m R [] v4 v5 v6 v8 v9)=fM rest DV (cd ω S i k j D1 D2 m' (R++jK p o u n) [] v4 q5 q6 q8 q9))
theorem XI(hA:lkD D1 p=match decide (o=n) with | true=>none | false=>some (cp (p,o,n)))(hB:lkD D2 p=match decide (u=n) with | true=>none | false=>some (cp (p,u,n)))(hm:m≤2)(R:List PV)(hR:R.length≤4)(rest:List PV):Zo ω S i k j v4 v5 v6 v8 v9 D1 D2 p o u n m R rest:=by
 rcases rF p o n with⟨e,e1⟩ | ⟨h1,e,e1⟩
 ·refine⟨v5,v6,v8,v9,m,oG m,?_⟩
  unfold jK
  rw [e1,decide_eq_true e,gQ]
  rfl
 ·replace hA:=(decide_eq_false e)▸hA
  obtain⟨q5,q6,q8,q9,m',f,hf,hm',es⟩:=aDP h1 (fun hu=>by
   cases u with
   |none=>cases n with
    |none=>exact absurd rfl hu
    |some n=>exact .inr (by simp)
   |some u=>exact .inl (by simp)) hA hB (PO m hm) R hR
  refine⟨q5,q6,q8,q9,m',hm',?_⟩
  unfold jK
  refine(e1).symm▸(decide_eq_false e).symm▸?_
  have:fM (pk (p,o,n)::rest) DV (cd ω S i k j D1 D2 m R [] v4 v5 v6 v8 v9)=fM rest DV (cd ω S i k j D1 D2 m' (R++wR p o u n) [] v4 q5 q6 q8 q9):=by
   rcases hf with rfl | rfl
   ·exact gR es
   ·exact IM es
  exact this
end
theorem HU(p:Nat)(o u n:OE):(jK p o u n).length≤1:=by
 unfold jK wR
 cases decide (o=n) <;> cases decide (u=n) <;> simp
theorem aDX(ω:Dk)(S:List It)(hi:S[i]? =some (.tree (eS a b c)))(hk:S[k]? =some (.tree (eS u v w)))(hj:S[j]? =some (.tree (eS a' b' c')))(ex:List SO):
  YM [.ref 5,.pv (.lst [aN i,aN k]),.pv (aN j)] (sS ω S++ex)=some (.pv (.lst (jK 97 a u a'++jK 98 b v b'++jK 99 c w c')),sS ω S++ex):=by
 obtain⟨p4,p5,p6,e1⟩:=Ua ω S hi hj (.inl rfl) [] (by decide) none none none
 obtain⟨q4,q5,q6,e2⟩:=Ua ω S (i:=i) (k:=k) hk hj (.inr rfl) [dK (dif a b c a' b' c')] (by decide:1≤2) p4 p5 p6
 have l1:=Rm a b c a' b' c'
 have l2:=Rm u v w a' b' c'
 have hs:=aOL a b c a' b' c'
 have hpk:(dif a b c a' b' c').map pk=(dG 97 a a').map pk++((dG 98 b b').map pk++((dG 99 c c').map pk++[])):=by
  unfold dif
  rw [cW,cW,gQ,gP]
 generalize dif a b c a' b' c'=D1 at*
 generalize dif u v w a' b' c'=D2 at*
 have n1:=HU 97 a u a'
 have n2:=HU 98 b v b'
 obtain⟨r5,r6,r8,r9,m1,hm1,s1⟩:=XI l1.1 l2.1 (jS 2) [] (by decide) ((dG 98 b b').map pk++((dG 99 c c').map pk++[]))
 obtain⟨t5,t6,t8,t9,m2,hm2,s2⟩:=XI l1.2.1 l2.2.1 (ub hm1 rfl) ([]++jK 97 a u a') (ub n1 rfl) ((dG 99 c c').map pk++[])
 obtain⟨w5,w6,w8,w9,m3,hm3,s3⟩:=XI (j:=j) (v4:=q4) (v5:=t5) (v6:=t6) (v8:=t8) (v9:=t9) l1.2.2 l2.2.2 (m:=m2) (aP hm2 (lC hm1)) ([]++jK 97 a u a'++jK 98 b v b') (by rw [oD,fH];exact ub (mM n1 n2) rfl) []
 rw [oD] at s1 s2 s3
 have eL:fM (D1.map pk) DV (cd ω S i k j D1 D2 0 [] [] q4 q5 q6 none none)=some (.next,cd ω S i k j D1 D2 m3 (jK 97 a u a'++jK 98 b v b'++jK 99 c w c') [] q4 w5 w6 w8 w9):=by
  rw [hpk,s1,s2,s3]
  rfl
 clear s1 s2 s3 l1 l2 hpk n1 n2
 generalize (jK 97 a u a'++jK 98 b v b'++jK 99 c w c')=R at*
 refine iQ (j:=[.dead,.dead,.dead,.dead,.dead]++mZ (2*m3) .dead) (eK (st:=cb i k j (sS ω S++([.dead,.dead,.dead,.dead,.dead]++mZ (2*m3) .dead)) (some (.pv (.lst [dK D1,dK D2]))) q4 w5 w6 (some (.ref 11)) w8 w9) (by rfl) ?_) (by rfl) (by rfl)
 refine aO (st₁:=cb i k j (sS ω S++.list []::[]) (some (.ref 8)) none none none none none none) (by rfl) ?_
 refine aO (st₁:=cb i k j (sS ω S++.list [dK D1,dK D2]::[.dead,.dead]) (some (.ref 8)) q4 q5 q6 none none none) ?_ ?_
 ·refine(mT (a:=.pv (.lst [aN i,aN k])) (st₁:=cb i k j (sS ω S++.list []::[]) (some (.ref 8)) none none none none none none) (xs:=[aN i,aN k]) (by rfl) (by rfl)).trans ?_
  exact(gR e1).trans ((gR e2).trans rfl)
 refine aO (st₁:=cb i k j (sS ω S++[.list [dK D1,dK D2],.dead,.dead,.list []]) (some (.ref 8)) q4 q5 q6 (some (.ref 11)) none none) (by rfl) ?_
 let sA:St:=cb i k j (sS ω S++[.dead,.dead,.dead,.list []]) (some (.pv (.lst [dK D1,dK D2]))) q4 q5 q6 (some (.ref 11)) none none
 refine aO (st₁:=cd ω S i k j D1 D2 m3 R [] q4 w5 w6 w8 w9) ?_ (fC (fF ?_))
 ·refine(mT (a:=.pv (.lst (D1.map pk))) (st₁:=cd ω S i k j D1 D2 0 [] [] q4 q5 q6 none none) (xs:=D1.map pk) ?_ (by rfl)).trans eL
  refine(ZZ (t:=true) (st₁:=sA) (by rfl)).trans ?_
  refine eX (a:=.ref 12) (st₁:=cb i k j (sS ω S++[.dead,.dead,.dead,.list [],.list (D1.map pk)]) (some (.pv (.lst [dK D1,dK D2]))) q4 q5 q6 (some (.ref 11)) none none) ?_ (by rfl)
  refine eX (a:=.pv (dK D1)) (st₁:=sA) (by rfl) (hs sA)
 ·have hm:m3=0∨m3=1∨m3=2∨m3=3:=Rf m3 (aP hm3 (lC (aP hm2 (lC hm1))))
  rcases hm with rfl | rfl | rfl | rfl <;> rfl
noncomputable def wS{α:Type}(o n:Option α):List Nat:=match o,n with
 |none,_=>[65]
 |some _,none=>[68]
 |some _,some _=>[77]
noncomputable def HV(p:Nat)(o u n:OE):PV:=.tup [.bytes [p],.lst [fY o,fY u],.int (rT n),rP n,.str (wS o n++wS u n)]
noncomputable def kQ(p:Nat)(o u n:OE):List PV:=match decide (o=n),decide (u=n) with
 |false,false=>[HV p o u n]
 |_,_=>[]
inductive aAg(ω:Dk)(S:List It)(v:Option aU)(o:OE):Prop
 |mk (S':_) (hh0:nZ S S' 1) (hh1:∀ ex,rI [.ref 7,.pv (cV v)] (sS ω S++ex)=some (.pv (fY o),sS ω S'++ex))
theorem Fy(ω:Dk)(S:List It){v:Option aU}{o:OE}(hg:Gd S)(hl:S.length≤50)(k:eE S v o)(h:eJ v):aAg ω S v o:=by
 cases v with
 |none=>cases o with
  |none=>exact⟨S,⟨hg,TM _,oG _⟩,aPJ ω S⟩
  |some o=>exact k.elim
 |some v=>cases o with
  |none=>exact k.elim
  |some o=>
   obtain⟨x,i⟩:=o
   obtain⟨hx,hi⟩:=k
   obtain⟨S',j,hG,hj,e⟩:=Ym ω S hg hl v h
   have hi':=KJ hG.pre hi
   have hlt:=(List.getElem?_eq_some_iff.mp hi').1
   have:i=j:=(Hg hlt hG.gd.nodup).mp (hi'.trans hj.symm)
   subst this
   subst hx
   exact⟨S',hG,e⟩
theorem aIR{a b n:Option aU}(ha:eJ a)(hb:eJ b)(hn:eJ n)(st:St):fE (.pv (cV n)) (.pv (.lst [cV a,cV b])) st=some (!(decide (a=n) || decide (b=n)),st):=by
 refine pP ((aJ (onSome_eq ?_:uC (.pv (cV n)) (.pv (.lst [cV a,cV b])) st=some (decide (a=n) || decide (b=n),st))).trans rfl)
 show(match jA 7 (cV a) (cV n) with | some a=>(match (match jA 7 (cV b) (cV n) with | some a=>some (a || false) | none=>none) with | some b=>some (a || b) | none=>none) | none=>none)=_
 rw [XX 3 ha hn,XX 3 hb hn];cases decide (b=n) <;> rfl
noncomputable def Se:M Fl:=(bA 20 (bL Ag Al (kS []) (eH dN (aA 18) [none,none,none,some 19] (nT 1) (rt true) (cf YQ (ar [(aA 1),(aA 3)])))))
noncomputable def Sf:M SV:=(eH dN (aA 18) [none,none,none,some 2] (nT 1) (rt true) (cf rI (ar [(aA 3),(aA 1)])))
noncomputable def Sb:M Fl:=(ex (bL cT dH (aA 13) (b2 (b2 (aZ (ar [(aA 12),Sf]) cO) (cf rI (ar [(aA 2),(aA 19)])) bP) (aZ (ar [(aA 20)]) cO) bP)))
noncomputable def Sd:PV→M Fl:=fun x=>bd (nT 12 x) fun _=>(bl [(nI [18,19] (ar [(aZ (ar [(bL cX dY (aA 3) (aA 12)),(bL cX dY (aA 17) (aA 12))]) kT),(bL cX dY (aA 4) (aA 12))])),
 (bJ (t2 (aA 19) (aA 18) fE) (bl [Se,Sb]) (bl []))])
noncomputable def oY(G0 G1 G2 G3 G4:SO)(R:List PV)(T:List SO):List SO:=.dead::G0::G1::G2::G3::G4::.dead::.list R::T
section
variable{ω:Dk}{S:List It}{G0 G1 G2 G3 G4:SO}{T:List SO}{v0 v1 v5 v6 v7 v8 v9 v10 v11 v12 v14 v15 v16 v18 v19 v20:Option SV}{a b c a' b' c' a'' b'' c'':Option aU}{R:List PV}
theorem aIf(vo vu vn:Option aU){o u n:OE}(ho:vo=none↔o=none)(hu:vu=none↔u=none)(hn:vn=none↔n=none)(p:PV)(v3 v4 v17:Option SV):
  Se (lw (sS ω S++oY G0 G1 G2 G3 G4 R T) v0 v1 (some (.ref 7)) v3 v4 v5 v6 v7 v8 v9 v10 v11 (some (.pv p)) (some (.ref 15)) v14 v15 v16 v17 (some (.pv (.lst [cV vo,cV vu]))) (some (.pv (cV vn))) v20)=
   some (.next,lw (sS ω S++oY G0 G1 G2 G3 G4 R T) v0 v1 (some (.ref 7)) v3 v4 v5 v6 v7 v8 v9 v10 v11 (some (.pv p)) (some (.ref 15)) v14 v15 v16 v17 (some (.pv (.lst [cV vo,cV vu]))) (some (.pv (cV vn))) (some (.pv (.str (wS o n++wS u n))))):=by
 have e1:wS o n=wS vo vn:=by
  cases vo <;> cases o <;> cases vn <;> cases n <;> first | rfl | (exfalso;simp at ho hn;done)
 have e2:wS u n=wS vu vn:=by
  cases vu <;> cases u <;> cases vn <;> cases n <;> first | rfl | (exfalso;simp at hu hn;done)
 refine(e1).symm▸(e2).symm▸?_
 clear e1 e2 ho hu hn
 cases vo <;> cases vu <;> cases vn <;> kernel_rfl
inductive Zy(ω:Dk)(S:List It)(G0:SO)(G1:SO)(G2:SO)(G3:SO)(G4:SO)(T:List SO)(v0:Option SV)(v1:Option SV)(v5:Option SV)(v6:Option SV)(v7:Option SV)(v8:Option SV)(v9:Option SV)(v10:Option SV)(v11:Option SV)(v14:Option SV)(v15:Option SV)(v16:Option SV)(R:List PV)(vo:Option aU)(vu:Option aU)(vn:Option aU)(o:OE)(u:OE)(n:OE)(p:Nat)(v3:Option SV)(v4:Option SV)(v17:Option SV)(w:List Nat):Prop
 |mk (S':_) (hh0:nZ S S' 3) (hh1:Sb (lw (sS ω S++oY G0 G1 G2 G3 G4 R T) v0 v1 (some (.ref 7)) v3 v4 v5 v6 v7 v8 v9 v10 v11 (some (.pv (.bytes [p]))) (some (.ref 15)) v14 v15 v16 v17 (some (.pv (.lst [cV vo,cV vu]))) (some (.pv (cV vn))) (some (.pv (.str w))))=
   some (.next,lw (sS ω S'++oY G0 G1 G2 G3 G4 (R++[.tup [.bytes [p],.lst [fY o,fY u],.int (rT n),rP n,.str w]]) T) v0 v1 (some (.ref 7)) v3 v4 v5 v6 v7 v8 v9 v10 v11 (some (.pv (.bytes [p]))) (some (.ref 15)) v14 v15 v16 v17 (some (.pv (.lst [cV vo,cV vu]))) (some (.pv (cV vn))) (some (.pv (.str w)))))
theorem aIc{vo vu vn:Option aU}{o u n:OE}(hg:Gd S)(hl:S.length≤40)(ko:eE S vo o)(ku:eE S vu u)(kn:eE S vn n)(lo:eJ vo)(lu:eJ vu)(ln:eJ vn)(p:Nat)(hR:R.length≤4)(v3 v4 v17:Option SV)(w:List Nat):Zy ω S G0 G1 G2 G3 G4 T v0 v1 v5 v6 v7 v8 v9 v10 v11 v14 v15 v16 R vo vu vn o u n p v3 v4 v17 w:=by
 obtain⟨S1,G1',f1⟩:=Fy ω S hg (ub hl rfl) ko lo
 obtain⟨S2,G2',f2⟩:=Fy ω S1 G1'.gd (ub (aP G1'.len (lC hl)) rfl) (ku.mono G1'.pre) lu
 obtain⟨S3,G3',f3⟩:=Fy ω S2 G2'.gd (ub (aP G2'.len (lC (aP G1'.len (lC hl)))) rfl) ((kn.mono G1'.pre).mono G2'.pre) ln
 refine⟨S3,(G1'.trans G2').trans G3',?_⟩
 let st:List It→St:=fun S=>lw (sS ω S++oY G0 G1 G2 G3 G4 R T) v0 v1 (some (.ref 7)) v3 v4 v5 v6 v7 v8 v9 v10 v11 (some (.pv (.bytes [p]))) (some (.ref 15)) v14 v15 v16 v17 (some (.pv (.lst [cV vo,cV vu]))) (some (.pv (cV vn))) (some (.pv (.str w)))
 have ev:Sf (st S)=some (.pv (.lst [fY o,fY u]),st S2):=by
  refine tZ (st₁:=st S) (st₂:=⟨[none,some (.pv (cV vu)),none,some (.ref 7)],(st S2).cells⟩) (a:=.pv (.lst [cV vo,cV vu])) (xs:=[cV vo,cV vu]) (by rfl) (by rfl) (bR rfl) ?_
  have one:∀(S S':List It) (x y:PV) (l:List PV) (ys:List PV) (o:Option SV) (st':St),(∀ ex,rI [.ref 7,.pv x] (sS ω S++ex)=some (.pv y,sS ω S'++ex))→iG (nT 1) (rt true) (cf rI (ar [(aA 3),(aA 1)])) l ⟨[none,some (.pv x),none,some (.ref 7)],(st S').cells⟩=some (ys,st')→
    iG (nT 1) (rt true) (cf rI (ar [(aA 3),(aA 1)])) (x::l) ⟨[none,o,none,some (.ref 7)],(st S).cells⟩=some (y::ys,st'):=fun S S' x y l ys o st' hf h=>by
   refine(aJ (a:=()) (st₁:=⟨[none,some (.pv x),none,some (.ref 7)],(st S).cells⟩) (by rfl)).trans ((aJ (a:=true) (st₁:=⟨[none,some (.pv x),none,some (.ref 7)],(st S).cells⟩) (by rfl)).trans ?_)
   refine(aJ (a:=.pv y) (st₁:=⟨[none,some (.pv x),none,some (.ref 7)],(st S').cells⟩) (gK (as:=[.ref 7,.pv x]) (st₁:=⟨[none,some (.pv x),none,some (.ref 7)],(st S).cells⟩) (by rfl) (hf _))).trans ?_
   exact(aJ h).trans rfl
  exact one S S1 _ _ _ _ _ _ f1 (one S1 S2 _ _ [] [] _ _ f2 rfl)
 refine sQ (v:=.pv .none) ((qL (u:=()) (a:=.ref 15) (b:=.pv (.tup [.bytes [p],.lst [fY o,fY u],.int (rT n),rP n,.str w])) (st₁:=st S) (st₂:=st S) (st₃:=st S3) (by rfl) (by rfl) ?_).trans ((yU (j:=15) (xs:=R) (by rfl) (ub hR rfl)).trans (by rfl)))
 refine(vC (a:=.pv (.tup [.bytes [p],.lst [fY o,fY u],.int (rT n),rP n])) (b:=.pv (.tup [.str w])) (st₁:=st S3) (st₂:=st S3) ?_ (by rfl)).trans (by rfl)
 refine(vC (a:=.pv (.tup [.bytes [p],.lst [fY o,fY u]])) (b:=.pv (fY n)) (st₁:=st S2) (st₂:=st S3) ?_ ?_).trans (by rfl)
 ·exact(OT (as:=[.pv (.bytes [p]),.pv (.lst [fY o,fY u])]) (st₁:=st S2) (dM (by rfl) ev)).trans (by rfl)
 ·exact gK (as:=[.ref 7,.pv (cV vn)]) (st₁:=st S2) (by rfl) (f3 _)
end
theorem eE.none_iff(k:eE S v o):v=none↔o=none:=by
 cases v <;> cases o <;> first | exact k.elim | simp
section
variable{ω:Dk}{G0 G1 G2 G3 G4:SO}{T:List SO}{v0 v1 v5 v6 v7 v8 v9 v10 v11 v12 v14 v15 v16 v18 v19 v20:Option SV}{a b c a' b' c' a'' b'' c'':Option aU}
inductive aAa(ω:Dk)(G0:SO)(G1:SO)(G2:SO)(G3:SO)(G4:SO)(T:List SO)(v0:Option SV)(v1:Option SV)(v5:Option SV)(v6:Option SV)(v7:Option SV)(v8:Option SV)(v9:Option SV)(v10:Option SV)(v11:Option SV)(v12:Option SV)(v14:Option SV)(v15:Option SV)(v16:Option SV)(v18:Option SV)(v19:Option SV)(v20:Option SV)(a:Option aU)(b:Option aU)(c:Option aU)(a':Option aU)(b':Option aU)(c':Option aU)(a'':Option aU)(b'':Option aU)(c'':Option aU)(S:List It)(p:Nat)(o:OE)(u:OE)(n:OE)(R:List PV):Prop
 |mk (S':_) (q12:_) (q18:_) (q19:_) (q20:_) (hh0:nZ S S' 3) (hh1:Sd (.bytes [p]) (lw (sS ω S++oY G0 G1 G2 G3 G4 R T) v0 v1 (some (.ref 7)) (some (.pv (cS a b c))) (some (.pv (cS a' b' c'))) v5 v6 v7 v8 v9 v10 v11 v12 (some (.ref 15)) v14 v15 v16 (some (.pv (cS a'' b'' c''))) v18 v19 v20)=
   some (.next,lw (sS ω S'++oY G0 G1 G2 G3 G4 (R++kQ p o u n) T) v0 v1 (some (.ref 7)) (some (.pv (cS a b c))) (some (.pv (cS a' b' c'))) v5 v6 v7 v8 v9 v10 v11 q12 (some (.ref 15)) v14 v15 v16 (some (.pv (cS a'' b'' c''))) q18 q19 q20))
theorem Bj(hp:oW p)(hg:Gd S)(hl:S.length≤40)(ko:eE S (gv a b c p) o)(ku:eE S (gv a'' b'' c'' p) u)(kn:eE S (gv a' b' c' p) n)(lo:eJ (gv a b c p))(lu:eJ (gv a'' b'' c'' p))(ln:eJ (gv a' b' c' p))(hR:R.length≤4):aAa ω G0 G1 G2 G3 G4 T v0 v1 v5 v6 v7 v8 v9 v10 v11 v12 v14 v15 v16 v18 v19 v20 a b c a' b' c' a'' b'' c'' S p o u n R:=by
 have e1:decide (gv a b c p=gv a' b' c' p)=decide (o=n):=decide_eq_decide.mpr (LI hg ko kn)
 have e2:decide (gv a'' b'' c'' p=gv a' b' c' p)=decide (u=n):=decide_eq_decide.mpr (LI hg ku kn)
 let st0:St:=lw (sS ω S++oY G0 G1 G2 G3 G4 R T) v0 v1 (some (.ref 7)) (some (.pv (cS a b c))) (some (.pv (cS a' b' c'))) v5 v6 v7 v8 v9 v10 v11 (some (.pv (.bytes [p]))) (some (.ref 15)) v14 v15 v16 (some (.pv (cS a'' b'' c''))) v18 v19 v20
 let st1:Option SV→St:=fun q=>lw (sS ω S++oY G0 G1 G2 G3 G4 R T) v0 v1 (some (.ref 7)) (some (.pv (cS a b c))) (some (.pv (cS a' b' c'))) v5 v6 v7 v8 v9 v10 v11 (some (.pv (.bytes [p]))) (some (.ref 15)) v14 v15 v16 (some (.pv (cS a'' b'' c''))) (some (.pv (.lst [cV (gv a b c p),cV (gv a'' b'' c'' p)]))) (some (.pv (cV (gv a' b' c' p)))) q
 have h0:nT 12 (.bytes [p]) (lw (sS ω S++oY G0 G1 G2 G3 G4 R T) v0 v1 (some (.ref 7)) (some (.pv (cS a b c))) (some (.pv (cS a' b' c'))) v5 v6 v7 v8 v9 v10 v11 v12 (some (.ref 15)) v14 v15 v16 (some (.pv (cS a'' b'' c''))) v18 v19 v20)=some ((),st0):=rfl
 have h1:nI [18,19] (ar [(aZ (ar [(bL cX dY (aA 3) (aA 12)),(bL cX dY (aA 17) (aA 12))]) kT),(bL cX dY (aA 4) (aA 12))]) st0=some (.next,st1 v20):=by
  refine HP (st₁:=st0) (dM ?_ (IU hp rfl rfl)) rfl
  exact zG (dM (IU hp rfl rfl) (IU hp rfl rfl)) rfl
 have h2:t2 (aA 19) (aA 18) fE (st1 v20)=some (!(decide (o=n) || decide (u=n)),st1 v20):=by
  refine(jO rfl rfl).trans ?_
  rw [aIR lo lu ln,e1,e2]
 have hno:(decide (o=n) || decide (u=n))=true→kQ p o u n= []:=fun h=>by
  unfold kQ
  cases h1:decide (o=n) <;> cases h2:decide (u=n) <;> first | rfl | (rw [h1,h2] at h;exact eP h)
 cases hc:(decide (o=n) || decide (u=n)) with
 |true=>
  replace h2:=(hc)▸h2
  refine⟨S,some (.pv (.bytes [p])),some (.pv (.lst [cV (gv a b c p),cV (gv a'' b'' c'' p)])),some (.pv (cV (gv a' b' c' p))),v20,⟨hg,TM _,oF _ 3⟩,(aJ h0).trans (aO h1 (cY (eY h2 ?_)))⟩
  rw [hno hc,gQ]
  rfl
 |false=>
  rw [hc] at h2
  obtain⟨S',hG,ea⟩:=aIc hg hl ko ku kn lo lu ln p hR (some (.pv (cS a b c))) (some (.pv (cS a' b' c'))) (some (.pv (cS a'' b'' c''))) (wS o n++wS u n)
  refine⟨S',some (.pv (.bytes [p])),some (.pv (.lst [cV (gv a b c p),cV (gv a'' b'' c'' p)])),some (.pv (cV (gv a' b' c' p))),some (.pv (.str (wS o n++wS u n))),hG,(aJ h0).trans (aO h1 (cY (iD h2 (aO (aIf _ _ _ ko.none_iff ku.none_iff kn.none_iff _ _ _ _) (cY (ea.trans ?_))))))⟩
  have:kQ p o u n= [HV p o u n]:=by
   unfold kQ
   obtain⟨h3,h4⟩:=Bool.or_eq_false_iff.mp hc
   rw [h3,h4]
  refine(this).symm▸?_
  rfl
theorem Kk(p:Nat)(o u n:OE):(kQ p o u n).length≤1:=by
 unfold kQ
 cases decide (o=n) <;> cases decide (u=n) <;> simp
inductive Zz(ω:Dk)(G0:SO)(G1:SO)(G2:SO)(G3:SO)(G4:SO)(T:List SO)(v0:Option SV)(v1:Option SV)(v5:Option SV)(v6:Option SV)(v7:Option SV)(v8:Option SV)(v9:Option SV)(v10:Option SV)(v11:Option SV)(v12:Option SV)(v14:Option SV)(v15:Option SV)(v16:Option SV)(v18:Option SV)(v19:Option SV)(v20:Option SV)(a:Option aU)(b:Option aU)(a':Option aU)(b':Option aU)(c':Option aU)(a'':Option aU)(b'':Option aU)(c'':Option aU)(S:List It)(oa:OE)(ob:OE)(oa':OE)(ob':OE)(oc':OE)(oa'':OE)(ob'':OE)(oc'':OE):Prop
 |mk (S':_) (q12:_) (q18:_) (q19:_) (q20:_) (hh0:fM (uL (c'.isSome || c''.isSome)) Sd (lw (sS ω S++oY G0 G1 G2 G3 G4 [] T) v0 v1 (some (.ref 7)) (some (.pv (cS a b none))) (some (.pv (cS a' b' c'))) v5 v6 v7 v8 v9 v10 v11 v12 (some (.ref 15)) v14 v15 v16 (some (.pv (cS a'' b'' c''))) v18 v19 v20)=
   some (.next,lw (sS ω S'++oY G0 G1 G2 G3 G4 (kQ 97 oa oa'' oa'++kQ 98 ob ob'' ob'++kQ 99 none oc'' oc') T) v0 v1 (some (.ref 7)) (some (.pv (cS a b none))) (some (.pv (cS a' b' c'))) v5 v6 v7 v8 v9 v10 v11 q12 (some (.ref 15)) v14 v15 v16 (some (.pv (cS a'' b'' c''))) q18 q19 q20))
theorem aIe(hg:Gd S)(hl:S.length≤30)(ka:eE S a oa)(kb:eE S b ob)(ka':eE S a' oa')(kb':eE S b' ob')(kc':eE S c' oc')(ka'':eE S a'' oa'')(kb'':eE S b'' ob'')(kc'':eE S c'' oc'')
  (la:eJ a) (lb:eJ b) (la':eJ a') (lb':eJ b') (lc':eJ c') (la'':eJ a'') (lb'':eJ b'') (lc'':eJ c''):Zz ω G0 G1 G2 G3 G4 T v0 v1 v5 v6 v7 v8 v9 v10 v11 v12 v14 v15 v16 v18 v19 v20 a b a' b' c' a'' b'' c'' S oa ob oa' ob' oc' oa'' ob'' oc'':=by
 have n1:=Kk 97 oa oa'' oa'
 have n2:=Kk 98 ob ob'' ob'
 obtain⟨S1,p12,p18,p19,p20,g1,e1⟩:=Bj (.inl rfl) hg (ub hl rfl) ka ka'' ka' la la'' la' (R:=[]) (bR rfl)
 have l1:=g1.len
 obtain⟨S2,q12,q18,q19,q20,g2,e2⟩:=Bj (v12:=p12) (v14:=v14) (v15:=v15) (v16:=v16) (v18:=p18) (v19:=p19) (v20:=p20) (a:=a) (b:=b) (c:=none) (a':=a') (b':=b') (c':=c') (a'':=a'') (b'':=b'') (c'':=c'') (p:=98) (.inr (.inl rfl)) g1.gd (ub (aP l1 (lM hl 3)) rfl) (kb.mono g1.pre) (kb''.mono g1.pre) (kb'.mono g1.pre) lb lb'' lb' (R:=[]++kQ 97 oa oa'' oa') (ub n1 rfl)
 have l2:=g2.len
 have g12:=g1.pre.trans g2.pre
 obtain⟨S3,r12,r18,r19,r20,g3,e3⟩:=Bj (ω:=ω) (G0:=G0) (G1:=G1) (G2:=G2) (G3:=G3) (G4:=G4) (T:=T) (v0:=v0) (v1:=v1) (v5:=v5) (v6:=v6) (v7:=v7) (v8:=v8) (v9:=v9) (v10:=v10) (v11:=v11) (v12:=q12) (v14:=v14) (v15:=v15) (v16:=v16) (v18:=q18) (v19:=q19) (v20:=q20) (a:=a) (b:=b) (c:=none) (a':=a') (b':=b') (c':=c') (a'':=a'') (b'':=b'') (c'':=c'') (p:=99) (.inr (.inr rfl)) (o:=none) g2.gd (ub (aP l2 (lM (aP l1 (lM hl 3)) 3)) rfl) (by trivial) (kc''.mono g12) (kc'.mono g12) (by trivial) lc'' lc' (R:=[]++kQ 97 oa oa'' oa'++kQ 98 ob ob'' ob') (by rw [oD,fH];exact ub (mM n1 n2) rfl)
 rw [oD] at e1 e2 e3
 cases hb:(c'.isSome || c''.isSome) with
 |true=>
  refine⟨S3,r12,r18,r19,r20,?_⟩
  rw [hb]
  exact(gR e1).trans ((gR e2).trans ((gR e3).trans rfl))
 |false=>
  refine⟨S2,q12,q18,q19,q20,?_⟩
  rw [hb]
  obtain⟨h1,h2⟩:=Bool.or_eq_false_iff.mp hb
  have e4:oc'=none:=kc'.none_iff.mp (by simpa using h1)
  have e5:oc''=none:=kc''.none_iff.mp (by simpa using h2)
  subst e4 e5
  rw [show kQ 99 none none none= [] from rfl,gQ]
  exact(gR e1).trans ((gR e2).trans rfl)
end
noncomputable def wP(oi ni:PV):List Nat:=match oi,ni with
 |.none,_=>[65]
 |_,.none=>[68]
 |_,_=>[77]
noncomputable def GA(v:PV):PV:=match v with
 |.obj 7 [p,.lst [.tup [om,oi],.tup [um,ui]],nm,ni]=>.tup [p,.lst [.tup [om,oi],.tup [um,ui]],nm,ni,.str (wP oi ni++wP ui ni)]
 |_=>.none
theorem Yd(p:Nat)(o u n:OE):GA (yX p o u n)=HV p o u n:=by
 cases o <;> cases u <;> cases n <;> rfl
theorem WX(p:Nat)(o u n:OE):(jK p o u n).map GA=kQ p o u n:=by
 unfold jK wR kQ
 cases decide (o=n) <;> cases decide (u=n) <;> first | rfl | exact congrArg (·::[]) (Yd p o u n)
noncomputable def Lo:M SV:=(aZ (ar [(ge a_path (aA 1)),(eH dN (ge WA (aA 1)) [none,none,none] (nT 1) (rt true) (ge Fq (aA 1))),(ge oN (aA 1)),(ge lR (aA 1)),(mc 7 YA (aA 1) (ar []))]) cO)
theorem aEk(p:Nat)(o u n:OE)(cs:List SO):Lo ⟨[none,some (.pv (yX p o u n))],cs⟩=some (.pv (HV p o u n),⟨[none,some (.pv (yX p o u n))],cs⟩):=by
 rcases o with _ | ⟨_ | _,i⟩ <;> rcases u with _ | ⟨_ | _,k⟩ <;> rcases n with _ | ⟨_ | _,j⟩ <;> kernel_rfl
theorem aEj{L:List PV}(hs:src st=some (.pv (.lst L),st))(h:∀ x∈L,∃ p o u n,x=yX p o u n)(hl:L.length≤10):eH dN src [none,none] (nT 1) (rt true) Lo st=some (.pv (.lst (L.map GA)),st):=by
 obtain⟨o',e⟩:=yZ (g:=nT 1) (t:=rt true) (fun o=>⟨[none,o],st.cells⟩) (fun _=>true) GA L (fun _ _=>rfl) (fun _ _=>rfl) (fun x hx _=>by
  obtain⟨p,o,u,n,rfl⟩:=h x hx
  rw [Yd]
  exact aEk p o u n st.cells) none
 rw [List.filter_eq_self.mpr (fun _ _=>rfl)] at e
 exact tZ (st₂:=⟨[none,o'],st.cells⟩) hs rfl (ub hl rfl) e
theorem WY(p:Nat)(o u n:OE):∀ x∈jK p o u n,∃ p o u n,x=yX p o u n:=by
 intro x hx
 unfold jK wR at hx
 cases h1:decide (o=n) <;> cases h2:decide (u=n) <;> rw [h1] at hx <;> simp [h2] at hx
 exact⟨p,o,u,n,hx⟩
theorem aKA(p:Nat)(o u n:OE):rf 7 (HV p o u n)=true:=by
 rcases o with _ | ⟨_,i⟩ <;> rcases u with _ | ⟨_,k⟩ <;> rcases n with _ | ⟨_,j⟩ <;> rfl
theorem Dv(p:Nat)(o u n:OE):∀ x∈kQ p o u n,rf 7 x=true:=by
 intro x hx
 unfold kQ at hx
 cases h1:decide (o=n) <;> cases h2:decide (u=n) <;> rw [h1,h2] at hx <;> simp at hx
 rw [hx]
 exact aKA p o u n
theorem Dg{vo vn:Option aU}(ko:eE S vo o)(kn:eE S vn n)(lo:eJ vo)(ln:eJ vn)(hr:o≠n→Rv vo vn):∀ c∈sY p o n vo vn,c.ok S:=by
 intro c hc
 unfold sY at hc
 rcases rF p o n with⟨_,e⟩ | ⟨h,hne,e⟩ <;> rw [e] at hc
 ·cases hc
 ·rw [List.mem_singleton.mp hc]
  exact⟨h,ko,kn,lo,ln,fun _=>(hr hne).nm⟩
theorem Of(k:eE S (some v) (some (x,i))):gS S i=(bK v.z v.ns).map hsh:=by
 unfold gS
 rw [k.2]
theorem aMh(hle:0 < least)(hm:m < 100)(ko:eE S (some v) o)(kn:eE S (some w) n)(hv:Wf m v)(hw:Wf m w):(jG least 40 S (p,o,n)).isSome=decide (least≤10*cF (bK w.z w.ns) (bK v.z v.ns)):=by
 cases o with
 |none=>exact ko.elim
 |some o=>cases n with
  |none=>exact kn.elim
  |some n=>
   obtain⟨x,i⟩:=o
   obtain⟨y,j⟩:=n
   have g:gI S i j=10*cF (bK w.z w.ns) (bK v.z v.ns):=by
    unfold gI
    refine(Of ko).symm▸(Of kn).symm▸?_
    exact aGu (Be fun q hq=>sI (hv.le q hq) hm) (Be fun q hq=>sI (hw.le q hq) hm) ((sV _ _).trans hv.len)
   unfold jG
   dsimp only
   refine(g).symm▸?_
   by_cases hij:i=j
   ·subst hij
    have e:bK v.z v.ns=bK w.z w.ns:=by
     exact aBH (ko.2.symm.trans kn.2)
    have z:cF (bK w.z w.ns) (bK v.z v.ns)=0:=by
     unfold cF
     refine(e).symm▸(Aw _ _ fun x hx=>hx).symm▸?_
     rfl
    rw [z,decide_eq_true rfl,decide_eq_false (Int.not_le.mpr hle:¬least≤10*0)]
    rfl
   ·refine(decide_eq_false hij).symm▸?_
    cases decide (least≤10*cF (bK w.z w.ns) (bK v.z v.ns)) <;> rfl
theorem aBE(c:Ch):jG least 41 S c=none:=by
 obtain⟨p,o,n⟩:=c
 rcases o with _ | ⟨x,i⟩ <;> rcases n with _ | ⟨y,j⟩ <;> first | rfl | skip
 unfold jG
 dsimp only
 cases decide (i=j) <;> rfl
theorem Jm:∀(D:List Ch),gZ least 41 S D=D.map cp
 | []=>rfl
 |c::D=>by
  unfold gZ
  rw [AJ,aBE]
  show bk none c++gZ least 41 S D=_
  rw [Jm D]
  obtain⟨p,o,n⟩:=c
  rfl
theorem Bb:∀(D:List Ch),(D.flatMap fun c=>uE (jG least 40 S c).isSome c)=(gZ least 40 S D).map iS
 | []=>rfl
 |c::D=>by
  unfold gZ
  rw [AJ,AJ,cW,aBG,Bb D]
  rfl
theorem Kr(f:Ch→Option Int):∃ L,Sh p ((dG p (some (x,i)) n).flatMap fun c=>bk (f c) c) L∧L.map iS=((dG p (some (x,i)) n).map cp).map iS∧∀ v∈L,∃ w,CF p w v:=by
 rcases rF p (some (x,i)) n with⟨_,e⟩ | ⟨_,_,e⟩ <;> rw [e]
 ·exact⟨[],.nil,rfl,fun v h=>by cases h⟩
 ·have e':([(p,some (x,i),n)].flatMap fun c=>bk (f c) c)=bk (f (p,some (x,i),n)) (p,some (x,i),n):=by simp
  refine(e').symm▸?_
  cases n with
  |none=>
   refine⟨[hO [68] (mo x) (aN i) (.bytes [p]) 0 .none .none .none],?_,rfl,fun v h=>⟨0,List.mem_singleton.mp h▸ .d ..⟩⟩
   have:bk (f (p,some (x,i),none)) (p,some (x,i),none)= [hO [68] (mo x) (aN i) (.bytes [p]) 0 .none .none .none]:=by cases f (p,some (x,i),none) <;> rfl
   refine(this).symm▸?_
   exact .d ..
  |some n=>
   obtain⟨y,j⟩:=n
   cases f (p,some (x,i),some (y,j)) with
   |none=>exact⟨_,.m (mo x) (aN i) (mo y) (aN j),rfl,fun v h=>⟨1,List.mem_singleton.mp h▸ .m ..⟩⟩
   |some g=>exact⟨_,.b (mo x) (aN i) (mo y) (aN j) g,rfl,fun v h=>⟨1,List.mem_singleton.mp h▸ .m ..⟩⟩
theorem aDH(f:Ch→Option Int):MO p ((dG p none n).flatMap fun c=>bk (f c) c)∧((dG p none n).flatMap fun c=>bk (f c) c)=(dG p none n).map cp:=by
 rcases rF p none n with⟨_,e⟩ | ⟨h,_,e⟩ <;> rw [e]
 ·exact⟨.nil,rfl⟩
 ·have e':([(p,none,n)].flatMap fun c=>bk (f c) c)=bk (f (p,none,n)) (p,none,n):=by simp
  refine(e').symm▸?_
  cases n with
  |none=>rcases h with h | h <;> exact absurd rfl h
  |some n=>
   obtain⟨y,j⟩:=n
   have:bk (f (p,none,some (y,j))) (p,none,some (y,j))= [hO [65] 0 .none .none (mo y) (aN j) (.bytes [p]) .none]:=by cases f (p,none,some (y,j)) <;> rfl
   refine(this).symm▸?_
   exact⟨.a ..,rfl⟩
inductive aAc(f:Ch→Option Int)(x:Bool)(y:Bool)(i:Nat)(j:Nat)(a':OE)(b':OE)(c':OE):Prop
 |mk (L:_) (hh0:(∀ ex,EM [.pv (.lst ((dif (some (x,i)) (some (y,j)) none a' b' c').flatMap fun c=>bk (f c) c))] ex=some (.pv (.lst L),ex))) (hh1:L.map iS=((dif (some (x,i)) (some (y,j)) none a' b' c').map cp).map iS) (hh2:L.length≤10) (hh3:∀ v∈L,∃ p w,CF p w v)
theorem aJS(f:Ch→Option Int):aAc f x y i j a' b' c':=by
 obtain⟨A,hA,rA,cA⟩:=Kr f
 obtain⟨B,hB,rB,cB⟩:=Kr f
 obtain⟨hC,eC⟩:=aDH f
 refine⟨A++B++((dG 99 none c').flatMap fun c=>bk (f c) c),?_,?_,?_,?_⟩
 ·intro ex
  have:=aJR hA hB hC ex
  unfold dif
  refine(TC).symm▸(TC).symm▸?_
  exact this
 ·unfold dif
  rw [eC]
  simp only [cW]
  rw [rA,rB]
 ·have l1:=congrArg AK rA
  have l2:=congrArg AK rB
  have k1:=yY 97 (some (x,i)) a'
  have k2:=yY 98 (some (y,j)) b'
  have k3:=yY 99 none c'
  rw [eC]
  simp only [bT] at l1 l2
  simp only [fH,bT]
  exact ub (mM (mM (aP (dS l1) k1) (aP (dS l2) k2)) k3) rfl
 ·intro v hv
  rw [uR,uR] at hv
  rcases hv with(hv | hv) | hv
  ·obtain⟨w,h⟩:=cA v hv;exact⟨_,w,h⟩
  ·obtain⟨w,h⟩:=cB v hv;exact⟨_,w,h⟩
  ·rw [eC] at hv
   obtain⟨w,h⟩:=HW 99 none c' v hv
   exact⟨_,w,h⟩
theorem aEv(a b c a' b' c':OE):∀ v∈(dif a b c a' b' c').map cp,∃ p w,CF p w v:=by
 intro v hv
 unfold dif at hv
 rw [cW,cW,uR,uR] at hv
 rcases hv with(hv | hv) | hv <;> exact⟨_,HW _ _ _ v hv⟩
theorem aBF(h:∀ c∈D,one c.2.1 c.2.2):∀ v∈gZ least size S D,∃ p w,CF p w v:=by
 intro v hv
 unfold gZ at hv
 obtain⟨k,hk,hv⟩:=List.mem_flatMap.mp hv
 obtain⟨w,hw⟩:=Jo (h k hk) v hv
 exact⟨_,w,hw⟩
theorem Jn:∀(D:List Ch),(gZ least size S D).length≤2*D.length
 | []=>cZ _
 |c::D=>by
  have h:=Jp (jG least size S c) c
  have h2:=Jn (least:=least) (size:=size) (S:=S) D
  unfold gZ at h2 ⊢
  rw [AJ,fH,tQ]
  exact aP (mM h h2) (dS (vZ 2 _))
theorem aKR:rf 7 (iS (cp c))=true:=by
 obtain⟨p,o,n⟩:=c
 rcases o with _ | ⟨x,i⟩ <;> rcases n with _ | ⟨y,j⟩ <;> rfl
theorem Ea(D:List Ch):∀ x∈(D.map cp).map iS,rf 7 x=true:=by
 intro x hx
 rw [iY] at hx
 obtain⟨c,_,rfl⟩:=List.mem_map.mp hx
 exact aKR
theorem aKI(b:Bool)(c:Ch):∀ x∈uE b c,rf 7 x=true:=by
 obtain⟨p,o,n⟩:=c
 intro v hv
 cases b <;> rcases o with _ | ⟨x,i⟩ <;> rcases n with _ | ⟨y,j⟩ <;> simp [uE] at hv <;> first | (rw [hv];rfl) | (rcases hv with rfl | rfl <;> rfl)
theorem aKy(D:List Ch):∀ x∈(gZ least 40 S D).map iS,rf 7 x=true:=by
 intro x hx
 rw [←Bb] at hx
 obtain⟨c,_,hx⟩:=List.mem_flatMap.mp hx
 exact aKI _ _ x hx
theorem Er(hle:0 < least){vo vn:Option aU}(hm:m < 100)(h:one o n)(ko:eE S vo o)(kn:eE S vn n)(wo:vU m vo)(wn:vU m vn)
  (g1:∀ v,vo=some v→∀ st,aW (.pv P) (.pv (.bytes [p])) st=some (.pv (vp v),st)) (g2:∀ v,vn=some v→∀ st,aW (.pv Q) (.pv (.bytes [p])) st=some (.pv (vp v),st)):KU P Q (jG least 40 S (p,o,n)).isSome least (p,o,n):=by
 cases o with
 |none=>cases n with
  |none=>rcases h with h | h <;> exact absurd rfl h
  |some n=>trivial
 |some o=>cases n with
  |none=>trivial
  |some n=>cases vo with
   |none=>exact ko.elim
   |some v=>cases vn with
    |none=>exact kn.elim
    |some w=>exact⟨v,w,g1 v rfl,g2 w rfl,(sV _ _).trans (Wf.len wo),aMh hle hm ko kn wo wn⟩
theorem XC(h:c∈dG p o n):c=(p,o,n)∧one o n:=by
 rcases rF p o n with⟨_,e⟩ | ⟨h1,_,e⟩ <;> rw [e] at h
 ·exact(nomatch h)
 ·exact⟨List.mem_singleton.mp h,h1⟩
theorem yQ.le(h:yQ n r n'):n'≤n+10:=by cases h with
 |no=>exact oF _ _
 |mk=>exact cZ _
theorem aHC(xs:List Int)(h:xs.length≤63):∃ c,Na [.pv (.lst (xs.map .int))] []=some (.pv (.bool true),c):=by
 let A:Option SV:=some (.pv (.lst (xs.map .int)))
 obtain⟨ys,mx,hy,ed⟩:=aEq xs h
 let ω0:Dk:=⟨ys,mx,0⟩
 obtain⟨za,ys1,mx1,hy1,f1⟩:=YY ω0 hy (bR rfl)
 let ω1:Dk:=(ω0.inc 10).dr ys1 mx1
 obtain⟨zb,ys2,mx2,hy2,f2⟩:=YY ω1 hy1 (bR rfl)
 let ω2:Dk:=(ω1.inc 10).dr ys2 mx2
 let va:aU:=fV za 0
 let vb:aU:=fV zb 10
 obtain⟨a,b,c,n1,n2,ω3,sa,sb,sc,hy3,fn⟩:=Tb va vb rfl xA rfl xA [] [] ω2 hy2 (bR rfl)
 let n3:=ω3.n
 have wva:Wf 20 va:=(ZG).mono (bR rfl)
 have wvb:Wf 20 vb:=ZG
 obtain⟨wa,ra,ia⟩:=sa.wf wva
 obtain⟨wb,rb,ib⟩:=sb.wf (wvb.mono ia)
 obtain⟨wc,rc,ic⟩:=sc.wf
 have h1:=sa.le
 have h2:=sb.le
 have h3:=sc.le
 obtain⟨d,ys4,mx4,hd0,ZU,hy4,fd⟩:=HZ 3 (by decide) ω3 hy3
 let ω4:Dk:=ω3.dr ys4 mx4
 obtain⟨least,hle,fl⟩:∃ least:Int,0 < least∧∀ st,aW (.pv (.lst [.int 10,.int 60,.int 100])) (.pv (.int d)) st=some (.pv (.int least),st):=by
  have:d=0∨d=1∨d=2:=by
   obtain⟨n,rfl⟩:=SR hd0
   exact(PO n (Hn (Int.ofNat_lt.mp ZU))).imp (congrArg Int.ofNat) (Or.imp (congrArg Int.ofNat) (congrArg Int.ofNat))
  rcases this with rfl | rfl | rfl
  ·exact⟨10,by decide,fun st=>by rfl⟩
  ·exact⟨60,by decide,fun st=>by rfl⟩
  ·exact⟨100,by decide,fun st=>by rfl⟩
 obtain⟨S1,i,oa,ob,oc,G1,ka,kb,kc,hi,t1⟩:=Fp (some va) (some vb) none (Wf.len wva) (Wf.len wvb) trivial ω4 [] ⟨pK,fun _ h=>by cases h⟩ (bR rfl)
 have l1:S1.length≤4:=G1.to (cZ 0) rfl
 obtain⟨S2,j,oa1,ob1,oc1,G2,ka1,kb1,kc1,hj,t2⟩:=Fp a b c (mX wa) (mX wb) (mX wc) ω4 S1 G1.gd (aP l1 (bR rfl))
 have l2:S2.length≤8:=G2.to l1 rfl
 have ka:=ka.mono G2.pre
 have kb:=kb.mono G2.pre
 have hi:=KJ G2.pre hi
 obtain⟨ax,ai,rfl⟩:∃ x i,oa=some (x,i):=by
  cases oa with
  |none=>exact ka.elim
  |some o=>exact⟨o.1,o.2,rfl⟩
 obtain⟨bx,bi,rfl⟩:∃ x i,ob=some (x,i):=by
  cases ob with
  |none=>exact kb.elim
  |some o=>exact⟨o.1,o.2,rfl⟩
 obtain rfl:oc=none:=kc.none_iff.mp rfl
 clear kc
 have fdiff:=Lx ω4 S2 hi hj
 have h23:n1≤n3:=aP ib ic
 have h20:20≤n3:=aP ia h23
 have wo1:vU n3 (some va):=wva.mono h20
 have wo2:vU n3 (some vb):=wvb.mono h20
 have wn1:vU n3 a:=by
  cases a with
  |none=>trivial
  |some v=>exact Wf.mono wa h23
 have wn2:vU n3 b:=by
  cases b with
  |none=>trivial
  |some v=>exact Wf.mono wb ic
 have hn3:n3≤50:=aP h3 (lM (aP h2 (lM h1 10)) 10)
 have h100:n3 < 100:=sI hn3 (bR rfl)
 have hn3:ω4.n+30≤99:=aP (lM hn3 30) (bR rfl)
 let pcs:List Pc:=sY 97 (some (ax,ai)) oa1 (some va) a++sY 98 (some (bx,bi)) ob1 (some vb) b++sY 99 none oc1 none c
 have hch:pcs.map Pc.ch=(dif (some (ax,ai)) (some (bx,bi)) none oa1 ob1 oc1):=by
  rw [cW,cW,Df,Df,Df]
  rfl
 have hcp:(pcs.map fun c=>cp c.ch)=(dif (some (ax,ai)) (some (bx,bi)) none oa1 ob1 oc1).map cp:=by
  rw [←hch,iY]
  rfl
 have hpl:pcs.length≤3:=by
  have:=congrArg AK hch
  rw [bT] at this
  rw [this]
  exact EC ..
 have hpc:∀ c∈pcs,c.ok S2:=by
  intro k hk
  rcases List.mem_append.mp hk with hk | hk
  ·rcases List.mem_append.mp hk with hk | hk
   ·exact Dg ka ka1 (Wf.len wva) (mX wa) (fun _=>ra) k hk
   ·exact Dg kb kb1 (Wf.len wvb) (mX wb) (fun _=>rb) k hk
  ·refine Dg (by trivial) kc1 (by trivial) (mX wc) (fun hne=> ?_) k hk
   rcases rc with e | e
   ·exact absurd (kc1.none_iff.mp e).symm hne
   ·exact e
 have fnum:=aJb ω4 S2 pcs hpc hpl
 rw [hcp] at fnum
 have hexp:=aFo (LI G2.gd ka ka1) (LI G2.gd kb kb1) (LI G2.gd trivial kc1)
 have ea:=LJ wo1 h100 ka
 have eb:=LJ wo2 h100 kb
 have ea1:=LJ wn1 h100 ka1
 have eb1:=LJ wn2 h100 kb1
 have ec1:=LJ wc h100 kc1
 have fbr:=Jt ω4 S2 (c:=none) ea eb trivial ea1 eb1 ec1 (least:=least) (.inl rfl)
 have fbr1:=Jt ω4 S2 (c:=none) ea eb trivial ea1 eb1 ec1 (least:=least) (size:=41) (.inr rfl)
 have hshc:∀ k∈(dif (some (ax,ai)) (some (bx,bi)) none oa1 ob1 oc1),KU (cS (some va) (some vb) none) (cS a b c) (jG least 40 S2 k).isSome least k:=by
  intro k hk
  unfold dif at hk
  rcases List.mem_append.mp hk with hk | hk
  ·rcases List.mem_append.mp hk with hk | hk
   ·obtain⟨rfl,h1⟩:=XC hk
    exact Er hle h100 h1 ka ka1 wo1 wn1 (fun v hv=>KV _ _ _ (.inl rfl) hv) (fun v hv=>KV _ _ _ (.inl rfl) hv)
   ·obtain⟨rfl,h1⟩:=XC hk
    exact Er hle h100 h1 kb kb1 wo2 wn2 (fun v hv=>KV _ _ _ (.inr (.inl rfl)) hv) (fun v hv=>KV _ _ _ (.inr (.inl rfl)) hv)
  ·obtain⟨rfl,h1⟩:=XC hk
   exact Er (vo:=none) hle h100 h1 trivial kc1 trivial wc (fun v hv=>by exact aT hv) (fun v hv=>KV _ _ _ (.inr (.inr rfl)) hv)
 have flb:=aHF (P:=(cS (some va) (some vb) none)) (Q:=(cS a b c)) (least:=least) (fun k=>(jG least 40 S2 k).isSome) (dif (some (ax,ai)) (some (bx,bi)) none oa1 ob1 oc1) hshc (EC ..)
 obtain⟨LR,frj,hrj,hrl,hrc⟩:=aJS (jG least 40 S2) (x:=ax) (y:=bx) (i:=ai) (j:=bi) (a':=oa1) (b':=ob1) (c':=oc1)
 obtain⟨a2,b2,c2,m1,m2,ω5,sa2,sb2,sc2,hy5,fn2⟩:=Tb va vb rfl xA rfl xA (S2.map It.key) (S2.map It.val) ω4 hy4 hn3
 obtain⟨wa2,_,ia2⟩:=sa2.wf (wva.mono h20)
 obtain⟨wb2,_,ib2⟩:=sb2.wf (wvb.mono (aP h20 ia2))
 obtain⟨wc2,_,_⟩:=sc2.wf
 obtain⟨S3,k,oa2,ob2,oc2,G3,ka2,kb2,kc2,hk,t3⟩:=Fp a2 b2 c2 (mX wa2) (mX wb2) (mX wc2) ω5 S2 G2.gd (aP l2 (bR rfl))
 have l3:S3.length≤12:=G3.to l2 rfl
 have fcm:=aDX ω5 S3 (KJ G3.pre hi) hk (KJ G3.pre hj)
 have hD3:((dif (some (ax,ai)) (some (bx,bi)) none oa1 ob1 oc1).map cp).length≤10:=by
  rw [bT]
  exact aP (EC ..) (bR rfl)
 have hbl:(gZ least 40 S2 (dif (some (ax,ai)) (some (bx,bi)) none oa1 ob1 oc1)).length≤10:=aP (Jn _) (ub (GW 2 (EC ..)) rfl)
 have hdo:=Lw (some (ax,ai)) (some (bx,bi)) none oa1 ob1 oc1
 have hdc:=aEv (some (ax,ai)) (some (bx,bi)) none oa1 ob1 oc1
 rw [Jm] at fbr1
 rw [show((dif (some (ax,ai)) (some (bx,bi)) none oa1 ob1 oc1).map fun c=>iS (cp c))=((dif (some (ax,ai)) (some (bx,bi)) none oa1 ob1 oc1).map cp).map iS by rw [iY];rfl,Bb] at flb
 have hbc:∀ v∈gZ least 40 S2 (dif (some (ax,ai)) (some (bx,bi)) none oa1 ob1 oc1),∃ p w,CF p w v:=aBF hdo
 have hrj':∀ ex,EM [.pv (.lst (gZ least 40 S2 (dif (some (ax,ai)) (some (bx,bi)) none oa1 ob1 oc1)))] ex=some (.pv (.lst LR),ex):=frj
 clear frj hshc
 generalize (dif (some (ax,ai)) (some (bx,bi)) none oa1 ob1 oc1)=D at*
 let P:PV:=cS (some va) (some vb) none
 let Q:PV:=cS a b c
 let M:PV:=cS a2 b2 c2
 let E:List PV:=D.map cp
 let F:List PV:=E.map iS
 let B:List PV:=gZ least 40 S2 D
 let X:List PV:=jK 97 (some (ax,ai)) oa2 oa1++jK 98 (some (bx,bi)) ob2 ob1++jK 99 none oc2 oc1
 let Y:List PV:=kQ 97 (some (ax,ai)) oa2 oa1++kQ 98 (some (bx,bi)) ob2 ob1++kQ 99 none oc2 oc1
 let T:List SO:=g2 (mF (some va) (some vb) none) (mF a b c) (mF a2 b2 c2)
 let I:List PV:=mF (some va) (some vb) none
 let J:List PV:=mF a b c
 have lsh:∀ p,oW p→eJ (gv (some va) (some vb) none p):=by rintro _ (rfl | rfl | rfl) <;> first | exact Wf.len wva | exact Wf.len wvb | trivial
 have lnx:∀ p,oW p→eJ (gv a b c p):=by rintro _ (rfl | rfl | rfl) <;> first | exact mX wa | exact mX wb | exact mX wc
 obtain⟨S4,q12,q18,q19,q20,elz⟩:=aIe (ω:=ω5) (G0:=SO.list I) (G1:=SO.list J) (G2:=SO.list (I++J)) (G3:=gk (jY .bytes (I++J) [] [])) (G4:=SO.dead) (T:=T) (v0:=A) (v1:=some (.ref 2)) (v5:=(some (.pv (.int least)))) (v6:=(some (.ref 5))) (v7:=(some (.pv (aN i)))) (v8:=(some (.pv (aN j)))) (v9:=(some (.pv (.lst E)))) (v10:=(some (.pv (.lst F)))) (v11:=(some (.pv (.lst (uL c.isSome))))) (v12:=none) (v14:=(some (.pv (.lst X)))) (v15:=(some (.pv (.lst B)))) (v16:=(some (.pv (.lst E)))) (v18:=none) (v19:=none) (v20:=none) (S:=S3) (a:=some va) (b:=some vb) G3.gd (aP l3 (bR rfl)) (ka.mono G3.pre) (kb.mono G3.pre) (ka1.mono G3.pre) (kb1.mono G3.pre) (kc1.mono G3.pre) ka2 kb2 kc2 (Wf.len wva) (Wf.len wvb) (mX wa) (mX wb) (mX wc) (mX wa2) (mX wb2) (mX wc2)
 let l0:Option SV:=some (.ref 2)
 let l1:Option SV:=some (.ref 7)
 let l2:Option SV:=some (.pv P)
 let l3:Option SV:=some (.pv Q)
 let l4:Option SV:=some (.pv (.int least))
 let l5:Option SV:=some (.ref 5)
 let l6:Option SV:=some (.pv (aN i))
 let l7:Option SV:=some (.pv (aN j))
 let l8:Option SV:=some (.pv (.lst E))
 let l9:Option SV:=some (.pv (.lst F))
 let l10:Option SV:=some (.pv (.lst (uL c.isSome)))
 let l11:Option SV:=some (.ref 15)
 let l12:Option SV:=some (.pv (.lst X))
 let l13:Option SV:=some (.pv (.lst B))
 let l14:Option SV:=some (.pv M)
 let u0:St:=lw (sS ω5 S4++oY (SO.list I) (SO.list J) (SO.list (I++J)) (gk (jY .bytes (I++J) [] [])) (SO.dead) Y T) A l0 l1 l2 l3 l4 l5 l6 l7 l8 l9 l10 q12 l11 l12 l13 l8 l14 q18 q19 q20
 let A1:List SO:=[SO.dead,SO.list (ys.map .int),SO.sdict .str [.str [108,101,102,116],.str [109,105,120,101,100]] [.ref 1,.pv (.int mx)]]
 let u1:St:=lw (s8 ω0 [] []++[]) A l0 l1 none none none none none none none none none none none none none none none none none none
 refine⟨_,eK (bs:=[.pv (.lst (xs.map .int))]) (st:=u0) (by rfl) ?_⟩
 refine aO (st₁:=u1) (HP (u:=()) (as:=[.ref 2,.ref 7]) (st₁:=lw (s8 ω0 [] []++[]) A none none none none none none none none none none none none none none none none none none none none) (dM (a:=.ref 2) (b:=.ref 7) (st₁:=lw A1 A none none none none none none none none none none none none none none none none none none none none) (gK (as:=[.pv (.lst (xs.map .int))]) (st₁:=lw [] A none none none none none none none none none none none none none none none none none none none none) (by rfl) ed) (by kernel_rfl)) (by rfl)) ?_
 let u2:St:=lw (s8 ω2 [] []++[SO.dead]) A l0 l1 l2 none none none none none none none none none none none none none none none none none
 let u3:St:=lw (s8 ω2 [] []++[SO.dead]) A l0 l1 none none none none none none none none none none none none none none none none none none
 let u4:St:=lw (s8 ω2 [] []++[SO.dict .bytes [.bytes [97],.bytes [98]] [vp va,vp vb]]) A l0 l1 none none none none none none none none none none none none none none none none none none
 let u5:St:=lw (s8 ω2 [] []++[]) A l0 l1 none none none none none none none none none none none none none none none none none none
 let u6:St:=lw (s8 ω1 [] []++[]) A l0 l1 none none none none none none none none none none none none none none none none none none
 refine aO (st₁:=u2) (iM (v:=.pv P) (st₁:=u3) (eX (a:=.ref 8) (st₁:=u4) ((OT (as:=[.pv (vp va),.pv (vp vb)]) (st₁:=u5) (dM (gK (as:=[.ref 2,.ref 7]) (st₁:=u1) (by rfl) (f1 [] [] [])) (gK (as:=[.ref 2,.ref 7]) (st₁:=u6) (by rfl) (f2 [] [] [])))).trans (by rfl)) (by rfl))) ?_
 let u7:St:=lw (s8 ω3 [] []++[SO.dead]) A l0 l1 l2 l3 none none none none none none none none none none none none none none none none
 let u8:St:=lw (s8 ω3 [] []++[SO.dead]) A l0 l1 l2 none none none none none none none none none none none none none none none none none
 refine aO (st₁:=u7) (iM (v:=.pv Q) (st₁:=u8) (gK (as:=[.ref 2,.ref 7,.pv P]) (st₁:=u2) (by rfl) (fn [SO.dead]))) ?_
 let u9:St:=lw (s8 ω4 [] []++[SO.dead]) A l0 l1 l2 l3 l4 none none none none none none none none none none none none none none none
 let u10:St:=lw (s8 ω4 [] []++[SO.dead]) A l0 l1 l2 l3 none none none none none none none none none none none none none none none none
 refine aO (st₁:=u9) (iM (v:=.pv (.int least)) (st₁:=u10) ((vC (a:=.pv (.lst [.int 10,.int 60,.int 100])) (b:=.pv (.int d)) (st₁:=u7) (st₂:=u10) (by rfl) (gK (as:=[.ref 2,.pv (.int 3)]) (st₁:=u7) (by rfl) (fd [] [] [SO.dead]))).trans (fl _))) ?_
 let u11:St:=lw (sS ω4 S2++[SO.dead]) A l0 l1 l2 l3 l4 l5 l6 l7 none none none none none none none none none none none none
 let u12:St:=lw (sS ω4 []++[SO.dead]) A l0 l1 l2 l3 l4 none none none none none none none none none none none none none none none
 let u13:St:=lw (sS ω4 S1++[SO.dead]) A l0 l1 l2 l3 l4 none none none none none none none none none none none none none none none
 let u14:St:=lw (sS ω4 S2++[SO.dead]) A l0 l1 l2 l3 l4 none none none none none none none none none none none none none none none
 refine aO (st₁:=u11) (DQ (u:=()) (as:=[.ref 5,.pv (aN i),.pv (aN j)]) (st₁:=u14) (nH (a:=.ref 5) (st₁:=u12) (by rfl) (dM (gK (as:=[.ref 7,.pv P]) (st₁:=u12) (by rfl) (t1 [SO.dead])) (gK (as:=[.ref 7,.pv Q]) (st₁:=u13) (by rfl) (t2 [SO.dead])))) (by rfl)) ?_
 let u15:St:=lw (sS ω4 S2++[SO.dead]) A l0 l1 l2 l3 l4 l5 l6 l7 l8 none none none none none none none none none none none
 refine aO (st₁:=u15) (iM (gK (as:=[.ref 5,.pv (aN i),.pv (aN j)]) (st₁:=u11) (by rfl) (fdiff [SO.dead]))) ?_
 let u16:St:=lw (sS ω4 S2++[SO.dead]) A l0 l1 l2 l3 l4 l5 l6 l7 l8 l9 none none none none none none none none none none
 refine aO (st₁:=u16) (iM (KP (st:=u15) (l:=D.map cp) (by rfl) hdc hD3)) ?_
 let u17:St:=lw (sS ω4 S2++(SO.dead::g1 I J)) A l0 l1 l2 l3 l4 l5 l6 l7 l8 l9 l10 none none none none none none none none none
 let u18:St:=lw (sS ω4 S2++(SO.dead::g1 I J)) A l0 l1 l2 l3 l4 l5 l6 l7 l8 l9 none none none none none none none none none none
 refine aO (st₁:=u17) (iM (v:=.pv (.lst (uL c.isSome))) (st₁:=u18) (aPD rfl rfl)) ?_
 let l15:Option SV:=some (.pv (.lst (pcs.map xH)))
 let u19:St:=lw (sS ω4 S2++(SO.dead::g1 I J)) A l0 l1 l2 l3 l4 l5 l6 l7 l8 l9 l10 none l15 none none none none none none none
 refine aO (st₁:=u19) (iM (v:=.pv (.lst (pcs.map xH))) (st₁:=u17) ((aFn (a:=some va) (b:=some vb) (c:=none) (a':=a) (b':=b) (c':=c) (xs:=uL c.isSome) (by rfl) (by cases c.isSome <;> exact bR rfl) aPC (by rfl) lsh lnx).trans (by rw [hexp]))) ?_
 refine aO (st₁:=u19) (eY (st₁:=u19) ((jO (a:=.pv (.lst (pcs.map xH))) (b:=.pv (.lst (pcs.map xH))) (st₁:=u19) (st₂:=u19) (aGv (lI (as:=[.ref 5,.pv (.lst E)]) (by rfl) (fnum _)) (ub hpl rfl)) (by rfl)).trans (JR (FQ fun x hx=>by obtain⟨k,_,rfl⟩:=List.mem_map.mp hx;exact aKK k) _)) (by rfl)) ?_
 let u20:St:=lw (sS ω4 S2++(SO.dead::g1 I J)) A l0 l1 l2 l3 l4 l5 l6 l7 l8 l9 l10 none l15 none l13 none none none none none
 refine aO (st₁:=u20) (iM (v:=.pv (.lst B)) (st₁:=u19) (lI (as:=[.ref 5,.pv (.lst E),.pv (.int least),.pv (.int 40)]) (by rfl) (fbr _))) ?_
 refine aO (st₁:=u20) (eY (st₁:=u20) ((jO (a:=.pv (.lst (B.map iS))) (b:=.pv (.lst (B.map iS))) (st₁:=u20) (st₂:=u20) (KP (by rfl) hbc hbl) (lI (as:=[.pv (.lst F),.pv P,.pv Q,.pv (.int least)]) (by rfl) (flb _))).trans (JR (FQ (aKy D)) _)) (by rfl)) ?_
 let u21:St:=lw (sS ω4 S2++(SO.dead::g1 I J)) A l0 l1 l2 l3 l4 l5 l6 l7 l8 l9 l10 none l15 none l13 l8 none none none none
 let l16:Option SV:=some (.pv (.lst LR))
 let u22:St:=lw (sS ω4 S2++(SO.dead::g1 I J)) A l0 l1 l2 l3 l4 l5 l6 l7 l8 l9 l10 none l15 none l13 l16 none none none none
 refine aO (st₁:=u21) ((mT (a:=.pv (.tup [.lst LR,.lst E,.lst E])) (st₁:=u20) (xs:=[.lst LR,.lst E,.lst E]) (zG (as:=[.pv (.lst LR),.pv (.lst E),.pv (.lst E)]) (st₁:=u20) (nH (lI (as:=[.pv (.lst B)]) (by rfl) (hrj' _)) (dM (by rfl) (lI (as:=[.ref 5,.pv (.lst E),.pv (.int least),.pv (.int 41)]) (by rfl) (fbr1 _)))) (by rfl)) (by rfl)).trans ((gR (st₁:=u22) ((aJ (a:=()) (st₁:=u22) (by rfl)).trans (cY (eY (st₁:=u22) ((jO (a:=.pv (.lst F)) (b:=.pv (.lst F)) (st₁:=u22) (st₂:=u22) ((KP (l:=LR) (by rfl) hrc hrl).trans (by rw [hrj])) (by rfl)).trans (JR (FQ (Ea D)) _)) (by rfl))))).trans ((gR (st₁:=u21) ((aJ (a:=()) (st₁:=u21) (by rfl)).trans (cY (eY (st₁:=u21) ((jO (a:=.pv (.lst F)) (b:=.pv (.lst F)) (st₁:=u21) (st₂:=u21) ((KP (l:=E) (by rfl) hdc hD3)) (by rfl)).trans (JR (FQ (Ea D)) _)) (by rfl))))).trans ((gR (st₁:=u21) ((aJ (a:=()) (st₁:=u21) (by rfl)).trans (cY (eY (st₁:=u21) ((jO (a:=.pv (.lst F)) (b:=.pv (.lst F)) (st₁:=u21) (st₂:=u21) ((KP (l:=E) (by rfl) hdc hD3)) (by rfl)).trans (JR (FQ (Ea D)) _)) (by rfl))))).trans rfl)))) ?_
 let u23:St:=lw (s8 ω5 (S2.map It.key) (S2.map It.val)++(SO.dead::g1 I J)) A l0 l1 l2 l3 l4 l5 l6 l7 l8 l9 l10 none l15 none l13 l8 l14 none none none
 let u24:St:=lw (sS ω5 S2++(SO.dead::g1 I J)) A l0 l1 l2 l3 l4 l5 l6 l7 l8 l9 l10 none l15 none l13 l8 l14 none none none
 let u25:St:=lw (sS ω5 S2++(SO.dead::g1 I J)) A l0 l1 l2 l3 l4 l5 l6 l7 l8 l9 l10 none l15 none l13 l8 none none none none
 refine aO (st₁:=u24) (iM (v:=.pv M) (st₁:=u25) (gK (as:=[.ref 2,.ref 7,.pv P]) (st₁:=u21) (by rfl) (fn2 (SO.dead::g1 I J)))) ?_
 let u26:St:=lw (sS ω5 S3++oY (SO.list I) (SO.list J) (SO.list (I++J)) (gk (jY .bytes (I++J) [] [])) (SO.dead) [] []) A l0 l1 l2 l3 l4 l5 l6 l7 l8 l9 l10 none l11 l12 l13 l8 l14 none none none
 let u27:St:=lw (sS ω5 S3++oY (SO.list I) (SO.list J) (SO.list (I++J)) (gk (jY .bytes (I++J) [] [])) (SO.dead) [] []) A l0 l1 l2 l3 l4 l5 l6 l7 l8 l9 l10 none l15 none l13 l8 l14 none none none
 let u28:St:=lw (sS ω5 S3++((SO.dead::g1 I J)++[SO.dead])) A l0 l1 l2 l3 l4 l5 l6 l7 l8 l9 l10 none l15 none l13 l8 l14 none none none
 let u29:St:=lw (sS ω5 S3++((SO.dead::g1 I J)++[SO.list [aN i,aN k]])) A l0 l1 l2 l3 l4 l5 l6 l7 l8 l9 l10 none l15 none l13 l8 l14 none none none
 let u30:St:=lw (sS ω5 S3++(SO.dead::g1 I J)) A l0 l1 l2 l3 l4 l5 l6 l7 l8 l9 l10 none l15 none l13 l8 l14 none none none
 refine aO (st₁:=u26) (DQ (u:=()) (as:=[.pv (.lst X),.ref 15]) (st₁:=u27) (dM (a:=.pv (.lst X)) (b:=.ref 15) (st₁:=u28) (gK (as:=[.ref 5,.pv (.lst [aN i,aN k]),.pv (aN j)]) (st₁:=u28) (nH (a:=.ref 5) (st₁:=u24) (by rfl) (dM (a:=.pv (.lst [aN i,aN k])) (b:=.pv (aN j)) (st₁:=u28) (eX (a:=.ref 14) (st₁:=u29) ((OT (as:=[.pv (aN i),.pv (aN k)]) (st₁:=u30) (dM (st₁:=u24) (by rfl) (gK (as:=[.ref 7,.pv M]) (st₁:=u24) (by rfl) (t3 (SO.dead::g1 I J))))).trans (by rfl)) (by rfl)) (by rfl))) (fcm ((SO.dead::g1 I J)++[SO.dead]))) (by rfl)) (by rfl)) ?_
 let u31:St:=lw (sS ω5 S3++oY (SO.list I) (SO.list J) (SO.list (I++J)) (gk (jY .bytes (I++J) [] [])) (SO.dead) [] T) A l0 l1 l2 l3 l4 l5 l6 l7 l8 l9 l10 none l11 l12 l13 l8 l14 none none none
 refine aO (st₁:=u0) ((mT (a:=.pv (.lst (uL (c.isSome || c2.isSome)))) (st₁:=u31) (xs:=uL (c.isSome || c2.isSome)) (aPE rfl rfl rfl) (by rfl)).trans elz) ?_
 refine fC (fF (WR (a:=.pv (.lst (X.map GA))) (b:=.ref 15) (st₁:=u0) (st₂:=u0) (aEj (by rfl) ?_ ?_) (by rfl) ?_))
 ·intro x hx
  rcases List.mem_append.mp hx with hx | hx
  ·rcases List.mem_append.mp hx with hx | hx
   ·exact WY _ _ _ _ x hx
   ·exact WY _ _ _ _ x hx
  ·exact WY _ _ _ _ x hx
 ·have h1:=HU 97 (some (ax,ai)) oa2 oa1
  have h2:=HU 98 (some (bx,bi)) ob2 ob1
  have h3:=HU 99 none oc2 oc1
  rw [fH,fH]
  exact ub (mM (mM h1 h2) h3) rfl
 ·show eZ (jA 8 (.lst (X.map GA)) (.lst Y)) rt u0=_
  rw [cW,cW,WX,WX,WX]
  refine onSome_eq (NT (FQ fun x hx=> ?_))
  rcases List.mem_append.mp hx with hx | hx
  ·rcases List.mem_append.mp hx with hx | hx
   ·exact Dv _ _ _ _ x hx
   ·exact Dv _ _ _ _ x hx
  ·exact Dv _ _ _ _ x hx
section
set_option tactic.hygienic true
open PySem.Calls PyProof.Rows
theorem aGM{vs:List aB}{xs:List Int}(h:IntsAre vs xs):aS jQ xs vs:=by
 induction h with
 |nil=>exact rfl
 |cons n t _ ih=>exact .mk (jQ.mk t) ih
theorem aHB{p:iB}{w:eR}{s:aG}{mg mb:Str→Option aB}{l fa:Addr}{vs:List aB}{xs:List Int}{ep:Nat}{R:aB→aG→Prop}{K:Frag}(KX:K.In s.heap)(hF:CU K BA)(hlim:s.heap.NoLimit)(hsys:∃ o,s.heap.get? rZ=some o)(hg:s.heap.Ns jX mg)(hb:s.heap.Ns wO mb)(hbb:∀ x:Str,x≠"__name__"→mb x=bootBuiltins x)
  (hmg:mg "law"=some (.ref fa)) (ho:s.heap.get? l=some {cls:=.type "list",data:=.seq vs.toArray ep}) (hI:IntsAre vs xs) (hlen:xs.length≤63)
  (hR:∀ s',(∀ b o,s.heap.get? b=some o→s'.heap.get? b=some o)→s'.gens=s.gens→s'.os=s.os→R (.bool true) s'):bB (aK p w) callerA (call (.ref fa) [.ref l]) R s:=by
 let C:Cx:=⟨p,w,s.heap,K,s.gens,s.drawn,s.os,BA,EN,hsys,KX,hlim⟩
 have H:bM C:=aGA (C:=C) hF rfl hg hb hbb
 cases (show some (qE fa)=some (.ref 1012) from hmg.symm.trans (mg_of KX hg (QY (congrArg (fun x=>x.2.2.2.2.2.2.1) hF.x))))
 let X:Xt:=⟨fun a=>(s.heap.get? a).map .fro,fun _=>0,fun _=>0⟩
 have no:∀ {a r},X.W a=some r→∃ o,r= .fro o∧s.heap.get? a=some o:=fun {a r} e=>by
  obtain⟨o',h1,h2⟩:=Option.map_eq_some_iff.mp (show(s.heap.get? a).map bU.fro=some r from e)
  exact⟨o',h2.symm,h1⟩
 have RC:RelC C X [] s:=⟨⟨rfl,rfl,rfl⟩,(fun b o e=>congrArg (Option.map bU.fro) (show s.heap.get? b=some o from e)),(fun a r e=>by obtain⟨o,rfl,h⟩:=no e;exact h),fun k c e=>by cases e⟩
 obtain⟨cs,hf⟩:=aHC xs hlen
 refine RR (aKD H ⟨X,s,RC⟩ (A:=callerA) (args:=[.pv (.lst (xs.map .int))]) (vals:=[.ref l]) ⟨rfl,by decide+kernel,by decide+kernel⟩ (.one (oL.mk l vs ep (congrArg (Option.map bU.fro) ho) (by rw [iH];exact aS.map xs vs (aGM hI)))) _ _ hf _ fun z x le d=> ?_)
 cases d
 exact hR _ (fun b o e=>z.R.keeps0 b o e) z.R.still.gens z.R.still.os
theorem aQm{P:Params}{h:Heap}{l:Addr}{vs:List aB}{xs:List PyData}(w:Well P h (.ref l) (ofPy (.list xs)))(hl:h.IsList l vs.toArray):h.get? l=some {cls:=.type "list",data:=.seq vs.toArray}:=by
 generalize hd:ofPy (.list xs)=d' at w
 cases w with
 |list ho _=>
  obtain⟨o,ho',_,n,hd'⟩:=hl
  rw [ho] at ho';cases ho'
  cases hd'
  exact ho
 |_=>cases hd
theorem fin:PySem.Challenge.rw_nt0314_01.Holds:=hd0 fun d kwd hn=>by
 intro w s₀ s₁ mg mb G Y fa o pm cd doc dV kV ho hd' hcd hD hmg hg args vals as hpre hlay hrd hwl hlo
 obtain⟨K,KX,hF⟩:=Y
 change rW.claim.pre args=true at hpre
 unfold rW at hpre hrd
 wrow_args hpre hlay hrd hwl hlo
 rename_i xs _ _ _ _ _ _ _ l vs _ hL _ hW _ hI _ hlen _
 have hsys:∃ o,s₁.heap.get? rZ=some o:=by
  obtain⟨mm,hm,_⟩:=(G.T.seer (by decide+kernel)).mods
  obtain⟨o,_,_,ho,_⟩:=hm
  exact⟨o,ho⟩
 refine aHB (ep:=0) KX hF G.T.nolimit hsys G.T.g G.T.b G.T.builtins (hn▸hmg) (aQm hW hL) hI (Int.ofNat_le.mp (Int.not_lt.mp hlen)) fun s' hk hgn hos=> ?_
 exact⟨.inl ⟨_,.bool true,[],rfl,fun _=>rfl,.bool true,by wrow_post,fun _=>⟨pK,fun _ h=>by cases h⟩⟩,OldK.of_keep hk,hos,AllBare.of_eq (hgn.trans hg)⟩
end
end Mine
theorem PySem.Challenge.cw_nt0314_01_holds : PySem.Challenge.rw_nt0314_01.Holds :=
 Mine.fin
