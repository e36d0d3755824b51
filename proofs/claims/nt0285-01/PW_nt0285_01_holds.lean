import PyProof.Rows.All
import Wide.All
import OpenK.AllK
import Wide.FinOn
import PyProof.DictStraight
import PyProof.SliceSyntax
import PyProof.LetGo
import PyProof.Rows.StrWeight2
import PyProof.InstStoreFacts
import PyProof.ExcBaseAll.Exception
import PyProof.Rows.TupDisplay
import Wide.WTab
import PySem.Challenge.RW_nt0285_01
set_option Elab.async false
set_option maxHeartbeats 9000000
set_option autoImplicit false
set_option linter.all false
set_option maxRecDepth 100000
set_option genSizeOf false
set_option genInjectivity false
set_option bootstrap.genMatcherCode false
set_option tactic.hygienic false
set_option backward.match.sparseCases false
set_option compiler.extract_closed false
noncomputable section
open Option renaming casesOn→az,map_eq_some_iff→dG,map→jq,map_some→ud,isSome_iff_exists→ue,ite_none_right_eq_some→xf,isNone_iff_eq_none→xg,bind_some→xh,bind_eq_some_iff→xj,some→Np,bind→Nq,isNone→adL,getD_none→adM
open Nat renaming le_trans→aB,le_refl→aS,beq→cf,zero_le→cE,le_of_eq→dM,casesOn→dN,le_of_lt→gb,lt_of_le_of_lt→kZ,ne_of_lt→mM,le_succ_of_le→oO,le_of_ble_eq_true→p6,ble→p7,le_add_right→r7,add_assoc→r8,le_succ→uf,le_of_succ_le→ug,le_of_not_lt→ui,eq_of_beq_eq_true→uj,blt→um,zero_add→xk,sub_self→xl,not_lt_zero→xm,lt_succ_self→xo,lt_or_ge→xp,lt_irrefl→xq,le_add_left→xr,add_comm→xt,sub_le→AQ,min_le_right→AR,min_eq_left→AU,le_of_add_right_le→AV,add_le_add→AW,succ_pos→Ff,succ_le_succ→Fg,succ_add→Fh,not_lt→Fi,lt_of_lt_of_le→Fj,le_of_lt_succ→Fk,le_antisymm→Fm,add_le_add_left→Fn,sub_eq_zero_of_le→Nt,mul_succ→Nu,lt_trans→Nv,lt_of_not_le→Nw,le_of_succ_le_succ→Nx,eq_of_lt_succ_of_not_lt→Ny,zero_mul→adQ,pos_of_ne_zero→adR,not_succ_le_zero→adS,ne_of_gt→adT,mul_le_mul_left→adU,lt_of_succ_lt_succ→adV,lt_of_succ_lt→adW,lt_add_of_pos_right→adX,le_of_add_left_le→adY,div_add_mod→adZ,blt_eq→ad0,beq_eq→ad1,add_sub_cancel_left→ad2
open List renaming length_map→aQ,casesOn→bj,mem_cons_self→bC,mem_cons_of_mem→bM,length_append→bP,mem_singleton→bZ,mem_map→b7,mem_append→cy,mem_cons→cA,getElem?_eq_some_iff→cF,map_cons→da,append_assoc→dz,range→dR,mem_append_right→eW,getElem?_append_left→eX,replicate→gC,getElem?_append_right→gD,append_nil→gP,mem_append_left→ij,lookup_cons→i5,length_reverse→i6,length→i7,mem_filter→jr,map_map→ju,mem_of_getElem?→jP,length_take→kj,length_cons→kl,getElem?_map→km,take_length→mN,contains_cons→mO,size_toArray→nH,map_append→nI,getElem_mem→nJ,not_mem_nil→oP,length_filter_le→oQ,getElem_map→oR,filter_cons_of_neg→oS,all_eq_true→oU,mem_reverse→p8,length_nil→p9,getElem?_eq_getElem→p_,foldl_cons→qb,flatMap_cons→qc,filter_cons_of_pos→qd,take_succ_eq_append_getElem→r_,nil_append→sd,flatten_cons→se,cons_append→sg,nodup_cons→uq,map→ur,length_set→ut,length_range→uu,isEmpty_iff→uv,getElem?_set_ne→uw,forIn_cons→ux,filter_cons→uy,eq_nil_of_length_eq_zero→uz,any_eq_true→uA,length_drop→xw,cons_ne_nil→xx,take_of_length_le→AX,reverse_reverse→AY,reverse_cons→AZ,replicate_succ→A0,mem_of_mem_take→A1,map_reverse→A2,map_nil→A3,map_id'→A4,isPrefixOf_iff_prefix→A5,getElem?_set_self→A6,getD_eq_getElem?_getD→A7,forIn_nil→A8,foldl→A9,any_eq_false→A_,all_cons→Ba,zipIdx_cons→Fo,set_append_right→Fp,nodup_nil→Fq,mem_filterMap→Fr,map_congr_left→Fs,isPrefixOf→Ft,getElem?_reverse→Fu,getElem?_eq_none→Fv,getElem?_concat_length→Fw,flatMap_append→Fx,filter_map→Fy,filter_eq_self→Fz,dropWhile_sublist→FA,reverse_append→Nz,nodup_iff_pairwise_ne→NA,mem_flatMap→NB,map_id→NC,map_fst_zip→ND,map_eq_nil_iff→NE,map_eq_cons_iff→NF,length_filterMap_le→NG,length_eq_zero_iff→NH,length_eq_one_iff→NI,getElem?_of_mem→NJ,getElem?_eq_none_iff→NK,foldl_append→NL,filter→NM,drop_left→NN,drop_eq_nil_of_le→NO,dropWhile_cons→NP,dropLast_eq_take→NQ,contains_iff_mem→NR,any_cons→NS,zip_cons_cons→ad4,toList_toArray→ad5,take_nil→ad6,take→ad7,set_set→ad8,set_getElem_self→ad9,set_append_left→ad_,range'_succ→ad',range'→aea,pairwise_map→aeb,pairwise_iff_getElem→aec,nodup_append→aed,mem_zipIdx'→aee,mem_of_mem_drop→aef,mem_map_of_mem→aeg,mem_iff_getElem?→aeh,lookup→aei,length_zipIdx→aej,length_singleton→aek,length_pos_iff→ael,length_dropLast→aem,getElem?_zip_eq_some→aen,getElem?_take_of_lt→aeo,getElem?_drop→aep,foldr_cons→aeq,flatten_nil→aer,flatMap_singleton→aes,find?_cons→aet,filter_eq_nil_iff→aeu,filter_congr→aev,filterMap_append→aew,eq_nil_or_concat→aex,drop_nil→aey,drop_eq_nil_iff→aez,drop_eq_getElem_cons→aeA,dropWhile→aeB,count_cons_of_ne→aeC
open Bool renaming false_ne_true→cN,and_eq_true→i8,and_eq_true_iff→nM,eq_iff_iff→qe,false_eq_true→uH,beq_comm→xE,and_false→xF,or_eq_true→Bh,or_false→N5,or_eq_true_iff→N6,or_eq_false_iff→N7,not_eq_true'→N8,not_eq_true→N9,false_and→N_,false_or→afj
open PySem.Heap renaming get?_push_size→eu,get?_push_of_some→fh,lt_size→kn,get?_update_self→k8,get?_none_of_le→sh,SameBut→uB,size_push→xA,get?_update_of_ne→xB,get?_some_iff→Bb,get?_update_other→FD,get?_update_ne→aeR
open PySem.W renaming kdsPlain→f_,Frag→nK,typeIs_bytes→oN,findIn→t9,emptyDict→t_,keepIn→w_,instObj→xd,emptyDict→AO,keepIn→AP,lookIn→E9,typeIn→adk,takerIn→adl,ownOf→adm,keq_ne→adn,keq_eq→ado,clsIn→adp,any_some→adq,Looks→ads,Frag→adt,Constant_bytes→adB
open PySem renaming World→gO,mainGlobals→h_,clipAt→ig,argsOk→iH,Scope→jO,typeLookup_type→ki,FuncData→k9,sysModules→lU,Stmt→mJ,swapsWith→nB,isSubtype_type→nD,Slot→nE,Data→oW,entryFor_of_tree→pZ,behindInMarks→p5,recursionLimit→rX,builtinType_eq_fast→rY,builtinType→rZ,signature?_of→t8,Value→ua,Str→ub,OsState→uc,Gives→uC,swappedStores→w8,interactive→xb,Program→xe,CmpOp→xD,GenState→Bc,Drawn→Bd,wpAny_loadName_local→E2,wpAny_ite→E3,subscripted→E4,getitemInPython→E5,concat_meets→E6,codeAny→E7,arm_eval_Subscript→E8,Builtin→Fb,FuncBody→FE,DictEntry→FF,slot_list_getitem→M1,seq_tuple_add→M2,noFill_tuple_add→M3,importBound→M4,execs_nil→M6,dropValue_plain→M7,attributeBase→M8,arm_eval_Name→M9,Shared→Ng,Expr→Nl,Comprehension→NX,ClassData→NY,wpAt_of_wpAny→acR,wpAny_pyIter_list→acS,wpAny_loadName_free→acT,wpAny_assign_Tuple→acU,typeLookup_eq→acV,table_eq_tree→acW,pastItsLine_dict→acX,methodCallForm→acY,lookup_relabel_local→acZ,lookupAlong_cons→ac0,compTurn_list→ac1,checkTypeCall→ac2,arm_isTrue_Compare→ac4,arm_isTrue_BoolOp→ac5,arm_eval_UnaryOp→ac6,arm_eval_Slice→ac7,arm_eval_Dict→ac8,arm_eval_Compare→ac9,arm_eval_BoolOp→ac_,arm_allTrue_cons→ac',seqIndex?→adi,assign_Attribute→adj,Stmt→adD,Heap→adE,Env→adG,Addr→adI
open PySem.Builtin.Bytes renaming occurrences→gQ,window→mP,between→oX,joined→sj,find?→uE,occurrences→uF,between→uG,rfind?→Bg,tooLong→FH,exported→FI,joined→FL,find?→FM,ownRelease→NZ,exportsOf→N1,checkResize→N2,byteValue→N3,write→ae7,tailMatchM→ae8,stripM→ae9,splitM→ae_,searchM→ae',searchArgs→afa,replaceM→afb,payload→afc,decodersThatHold→afd,containsIn→afe,decodersThatHold→afi,find?→af',rfind?→agw,fitsIndex→agx,containsIn→agy
open PySem.Value renaming ref→ia,casesOn→xc
open PySem.Expr renaming casesOn→jv
open PySem.Sem renaming wp→jN,wp_bind'→lV,wp_mono→nF,wp_pure'→Nc,wp_onRaise→Nd,wp_holding→Nf,wp_run→adf,wp_cmd_standAt→adg
open PySem.Obj renaming mapSeq→mK,putName_eq→r4,putNameByArray→r5,mapBytearray→r6,mapFields→Fd,data_mapFields→Fe,isFreed_of_fields→Nr,isFreed_of_dict→adN,data_mapDictKeys→adO,data_mapDict→adP
open ForInStep renaming yield→oV
open Array renaming getElem?_toList→qf,getElem?_eq_some_iff→xH,eq_empty_of_size_eq_zero→xI,getElem_modify→Bi,toList_append→FN,mk→FO,toList_push→N',toList_inj→Oa,isEmpty_iff→Ob,size_push→afk,length_toList→afl,getElem?_modify→afm,getElem?_eq_none→afn,getElem?_eq_getElem→afo
open PySem.NameKind renaming free→r9,cell→uo
open PySem.W.FB renaming owner_bytes→uD,slot_bytes_getitem→E_,slot_bytes_startswith→adu,slot_bytes_endswith→adv,slot_bytes_contains→adw,entry_bytes_getitem→adx,entry_bytes_contains→ady,args_bytes_getitem_2→adz,args_bytes_contains_2→adA,type_bytes_startswith→af4,type_bytes_endswith→af5,plainAttrs_bytes→af6,entry_bytes_startswith→af7,entry_bytes_endswith→af8,args_bytes_startswith_2→af9,args_bytes_endswith_2→af_
open Int renaming ofNat_lt→xy,natCast_nonneg→xz,lt_trans→FC,not_lt→NT,eq_ofNat_of_zero_le→NU,toNat_of_nonneg→aeI,toNat_le→aeJ,ofNat→aeK,not_le→aeL,max_eq_right→aeM,lt_irrefl→aeN,le_trans→aeO,le_refl→aeP,le_of_lt→aeQ
open PySem.Code renaming builtin→Be,quiet_builtin→FG,weight→ae2,isCaller→ae3,frames→ae4
open PySem.F renaming excBase_Exception→Fa,store_Exception→Nh,slot_tuple_add→Ni,entry_tuple_add→Nj,args_tuple_add_2→Nk,slot_dict_values→adF,slot_list_sort→aeV,slot_list_pop→aeW,slot_list_extend→aeX,slot_list_append→aeY,slot_int_rmul→aeZ,slot_dict_get→ae0
open Prod renaming fst→Fc
open PySem.Builtin.Bytes.Kind renaming new→FJ,same→N4,bytes→aff,bytearray→afg
open PySem.Builtin.Int renaming intBits→FK,intTooBig→agv
open PyProof.Rows renaming failedOf→M5,get?_update_seq→adJ,tuple_addW2→aga,tuple_addW1→agb,tuple_addW0→agc,mod_int→agd,list_addW→age,len_list→agf,join_nil_cons→agg,join_listW→agh,floordiv_int→agi,args_list_sort→agj,StrsAre→agk,IntsAre→agl
open PySem.Within renaming cons→M_,nil→ada
open UInt8 renaming ofNat→M',ofNat_toNat→adb
open PySem.Str renaming ofString→Na,join→adC
open PySem.Shared renaming asleep_of_life→Nb,rest_eq→adc,eq_of_forget_eq→ade
open PySem.Challenge renaming rw_nt0285_01→Nm,pw_nt0285_01→adH
open PUnit renaming unit→Nn
open Option.some renaming injEq→No
open PySem.Heap.SameBut renaming update→NV
open PySem.Heap.DictOf renaming new→NW
open PySem.Builtin.Bytes.joinM renaming match_1→N0
open PySem.Around renaming under_plainId→Oc,mark_none→Od
open PySem.callAny renaming viaDunder→ac3
open PySem.ScopeKind renaming function→adh
open PySem.W.Looks renaming of_pure→adr,ld→ad3
open PySem.Pin renaming globalOf_eq→adK
open List.Pairwise renaming nil→aeD,map→agm
open PySem.Keeper renaming machine→aeE,frame→aeF,boundFrame→aeG
open PySem.W.KBy renaming buffer_eq→aeH,add_bytes→afY
open PySem.Heap.Ns1 renaming of_empty→aeS
open PySem.Heap.Ns renaming new→aeT
open Function renaming comp_def→aeU
open PySem.DictEntry renaming refKey→ae1
open PySem.Calls renaming loadGlobal_builtin→ae5,Name_function_global→ae6
open PySem.Builtin.List renaming listTooLong→afh,listUpdate→ags,listSubscript?→agt,listFitsIndex→agu
open Std.Legacy.Range renaming forIn_eq_forIn_range'→afW
open Std.Legacy renaming Range→afX
open PySem.W.KBw renaming walks→afZ,pyIter_bytes→af0
open PySem.W.KBc renaming size_picked_le→af1,picked_eq→af2,meets_slice2→af3
open PySem.Heap.IsSliceOf renaming new→agn
open PySem.EntryCells renaming newEntry→ago
open PySem.Builtin.Bytes.exported renaming match_1→agp
open PySem.Builtin.Str renaming glued→agq
open PySem.Builtin.Range renaming rangeSize→agr
open PySem.AfterImport renaming unique→agz,of_importEnds→agA
namespace mH
noncomputable abbrev Qy:=List UInt8
noncomputable abbrev Qn:=List Nat
noncomputable abbrev Qa:=List ua
noncomputable abbrev Qs:=List ub
noncomputable abbrev Qt:=List adD
noncomputable abbrev Qe:=List Nl
noncomputable abbrev Qo:=Option ua
noncomputable abbrev Qv:=Array ua
noncomputable abbrev Qu:=Array UInt8
section
open PySem PySem.W
def sz2:noRoadLSs {strict:=!(importedModules Nm.row.prog.main.body).all cThrough.contains,foot:=none,bare:=(["vars","dir","locals"]:Qs).filter (readsOut Nm.row.prog Nm.row.prog.main.body)} Nm.row.prog.main.body=true:=by kernel_rfl
def sz3:looksOpen Nm.row.prog=true:=by delta looksOpen;rw [sz2];kernel_rfl
def sz4:Fast.tw12908688711261696721 (Fast.tw2368527892694137696 Nm).prog=true:=by rw [←Fast.te12908688711261696721,←Fast.te2368527892694137696];exact sz3
def Hu:Nm.wellSaid=true:=by refine (congrFun Fast.te9446332074065402090 _).trans ?_;delta Fast.tw9446332074065402090 Fast.tw17960256430627541270 Fast.tw2436336058641802641;rw [sz4];kernel_rfl
end
section
def ad{A B:Prop}{g:Prop}(h:A∧B)(k:A→B→g):g:=k h.1 h.2
def cG{A B C:Prop}{g:Prop}(h:A∧B∧C)(k:A→B→C→g):g:=k h.1 h.2.1 h.2.2
def sr{A B C D:Prop}{g:Prop}(h:A∧B∧C∧D)(k:A→B→C→D→g):g:=k h.1 h.2.1 h.2.2.1 h.2.2.2
def uK{A B C D E:Prop}{g:Prop}(h:A∧B∧C∧D∧E)(k:A→B→C→D→E→g):g:=k h.1 h.2.1 h.2.2.1 h.2.2.2.1 h.2.2.2.2
def Bn{A B C D E F G:Prop}{g:Prop}(h:A∧B∧C∧D∧E∧F∧G)(k:A→B→C→D→E→F→G→g):g:=k h.1 h.2.1 h.2.2.1 h.2.2.2.1 h.2.2.2.2.1 h.2.2.2.2.2.1 h.2.2.2.2.2.2
def Ou{A B C D E F G H:Prop}{g:Prop}(h:A∧B∧C∧D∧E∧F∧G∧H)(k:A→B→C→D→E→F→G→H→g):g:=k h.1 h.2.1 h.2.2.1 h.2.2.2.1 h.2.2.2.2.1 h.2.2.2.2.2.1 h.2.2.2.2.2.2.1 h.2.2.2.2.2.2.2
def ay{bI:Sort _}{A:bI→Prop}{g:Prop}(h:∃ a0,A a0)(k:∀ a0,A a0→g):g:=h.elim fun a0 h=>k a0 h
def J{bI:Sort _}{A B:bI→Prop}{g:Prop}(h:∃ a0,A a0∧B a0)(k:∀ a0,A a0→B a0→g):g:=h.elim fun a0 h=>k a0 h.1 h.2
def ci{bI:Sort _}{A B C:bI→Prop}{g:Prop}(h:∃ a0,A a0∧B a0∧C a0)(k:∀ a0,A a0→B a0→C a0→g):g:=h.elim fun a0 h=>k a0 h.1 h.2.1 h.2.2
def xN{bI:Sort _}{A B C D:bI→Prop}{g:Prop}(h:∃ a0,A a0∧B a0∧C a0∧D a0)(k:∀ a0,A a0→B a0→C a0→D a0→g):g:=h.elim fun a0 h=>k a0 h.1 h.2.1 h.2.2.1 h.2.2.2
def xM{bI:Sort _}{A B C D E:bI→Prop}{g:Prop}(h:∃ a0,A a0∧B a0∧C a0∧D a0∧E a0)(k:∀ a0,A a0→B a0→C a0→D a0→E a0→g):g:=h.elim fun a0 h=>k a0 h.1 h.2.1 h.2.2.1 h.2.2.2.1 h.2.2.2.2
def eB{bI bW:Sort _}{A:bI→bW→Prop}{g:Prop}(h:∃ a0 a1,A a0 a1)(k:∀ a0 a1,A a0 a1→g):g:=h.elim fun a0 h=>h.elim fun a1 h=>k a0 a1 h
def ch{bI bW:Sort _}{A B:bI→bW→Prop}{g:Prop}(h:∃ a0 a1,A a0 a1∧B a0 a1)(k:∀ a0 a1,A a0 a1→B a0 a1→g):g:=h.elim fun a0 h=>h.elim fun a1 h=>k a0 a1 h.1 h.2
def bx{bI bW:Sort _}{A B C:bI→bW→Prop}{g:Prop}(h:∃ a0 a1,A a0 a1∧B a0 a1∧C a0 a1)(k:∀ a0 a1,A a0 a1→B a0 a1→C a0 a1→g):g:=h.elim fun a0 h=>h.elim fun a1 h=>k a0 a1 h.1 h.2.1 h.2.2
def cO{bI bW:Sort _}{A B C D:bI→bW→Prop}{g:Prop}(h:∃ a0 a1,A a0 a1∧B a0 a1∧C a0 a1∧D a0 a1)(k:∀ a0 a1,A a0 a1→B a0 a1→C a0 a1→D a0 a1→g):g:=h.elim fun a0 h=>h.elim fun a1 h=>k a0 a1 h.1 h.2.1 h.2.2.1 h.2.2.2
def i_{bI bW:Sort _}{A B C D E:bI→bW→Prop}{g:Prop}(h:∃ a0 a1,A a0 a1∧B a0 a1∧C a0 a1∧D a0 a1∧E a0 a1)(k:∀ a0 a1,A a0 a1→B a0 a1→C a0 a1→D a0 a1→E a0 a1→g):g:=h.elim fun a0 h=>h.elim fun a1 h=>k a0 a1 h.1 h.2.1 h.2.2.1 h.2.2.2.1 h.2.2.2.2
def Ot{bI bW:Sort _}{A B C D E F:bI→bW→Prop}{g:Prop}(h:∃ a0 a1,A a0 a1∧B a0 a1∧C a0 a1∧D a0 a1∧E a0 a1∧F a0 a1)(k:∀ a0 a1,A a0 a1→B a0 a1→C a0 a1→D a0 a1→E a0 a1→F a0 a1→g):g:=h.elim fun a0 h=>h.elim fun a1 h=>k a0 a1 h.1 h.2.1 h.2.2.1 h.2.2.2.1 h.2.2.2.2.1 h.2.2.2.2.2
def Os{bI bW:Sort _}{A B C D E F G:bI→bW→Prop}{g:Prop}(h:∃ a0 a1,A a0 a1∧B a0 a1∧C a0 a1∧D a0 a1∧E a0 a1∧F a0 a1∧G a0 a1)(k:∀ a0 a1,A a0 a1→B a0 a1→C a0 a1→D a0 a1→E a0 a1→F a0 a1→G a0 a1→g):g:=h.elim fun a0 h=>h.elim fun a1 h=>k a0 a1 h.1 h.2.1 h.2.2.1 h.2.2.2.1 h.2.2.2.2.1 h.2.2.2.2.2.1 h.2.2.2.2.2.2
def qi{bI bW:Sort _}{A B C D E F G H:bI→bW→Prop}{g:Prop}(h:∃ a0 a1,A a0 a1∧B a0 a1∧C a0 a1∧D a0 a1∧E a0 a1∧F a0 a1∧G a0 a1∧H a0 a1)(k:∀ a0 a1,A a0 a1→B a0 a1→C a0 a1→D a0 a1→E a0 a1→F a0 a1→G a0 a1→H a0 a1→g):g:=h.elim fun a0 h=>h.elim fun a1 h=>k a0 a1 h.1 h.2.1 h.2.2.1 h.2.2.2.1 h.2.2.2.2.1 h.2.2.2.2.2.1 h.2.2.2.2.2.2.1 h.2.2.2.2.2.2.2
def Oq{bI bW du:Sort _}{A:bI→bW→du→Prop}{g:Prop}(h:∃ a0 a1 a2,A a0 a1 a2)(k:∀ a0 a1 a2,A a0 a1 a2→g):g:=h.elim fun a0 h=>h.elim fun a1 h=>h.elim fun a2 h=>k a0 a1 a2 h
def ik{bI bW du:Sort _}{A B:bI→bW→du→Prop}{g:Prop}(h:∃ a0 a1 a2,A a0 a1 a2∧B a0 a1 a2)(k:∀ a0 a1 a2,A a0 a1 a2→B a0 a1 a2→g):g:=h.elim fun a0 h=>h.elim fun a1 h=>h.elim fun a2 h=>k a0 a1 a2 h.1 h.2
def dS{bI bW du:Sort _}{A B C:bI→bW→du→Prop}{g:Prop}(h:∃ a0 a1 a2,A a0 a1 a2∧B a0 a1 a2∧C a0 a1 a2)(k:∀ a0 a1 a2,A a0 a1 a2→B a0 a1 a2→C a0 a1 a2→g):g:=h.elim fun a0 h=>h.elim fun a1 h=>h.elim fun a2 h=>k a0 a1 a2 h.1 h.2.1 h.2.2
def lf{bI bW du:Sort _}{A B C D:bI→bW→du→Prop}{g:Prop}(h:∃ a0 a1 a2,A a0 a1 a2∧B a0 a1 a2∧C a0 a1 a2∧D a0 a1 a2)(k:∀ a0 a1 a2,A a0 a1 a2→B a0 a1 a2→C a0 a1 a2→D a0 a1 a2→g):g:=h.elim fun a0 h=>h.elim fun a1 h=>h.elim fun a2 h=>k a0 a1 a2 h.1 h.2.1 h.2.2.1 h.2.2.2
def xL{bI bW du:Sort _}{A B C D E:bI→bW→du→Prop}{g:Prop}(h:∃ a0 a1 a2,A a0 a1 a2∧B a0 a1 a2∧C a0 a1 a2∧D a0 a1 a2∧E a0 a1 a2)(k:∀ a0 a1 a2,A a0 a1 a2→B a0 a1 a2→C a0 a1 a2→D a0 a1 a2→E a0 a1 a2→g):g:=h.elim fun a0 h=>h.elim fun a1 h=>h.elim fun a2 h=>k a0 a1 a2 h.1 h.2.1 h.2.2.1 h.2.2.2.1 h.2.2.2.2
def sq{bI bW du:Sort _}{A B C D E F:bI→bW→du→Prop}{g:Prop}(h:∃ a0 a1 a2,A a0 a1 a2∧B a0 a1 a2∧C a0 a1 a2∧D a0 a1 a2∧E a0 a1 a2∧F a0 a1 a2)(k:∀ a0 a1 a2,A a0 a1 a2→B a0 a1 a2→C a0 a1 a2→D a0 a1 a2→E a0 a1 a2→F a0 a1 a2→g):g:=h.elim fun a0 h=>h.elim fun a1 h=>h.elim fun a2 h=>k a0 a1 a2 h.1 h.2.1 h.2.2.1 h.2.2.2.1 h.2.2.2.2.1 h.2.2.2.2.2
def F8{bI bW du gc:Sort _}{A:bI→bW→du→gc→Prop}{g:Prop}(h:∃ a0 a1 a2 a3,A a0 a1 a2 a3)(k:∀ a0 a1 a2 a3,A a0 a1 a2 a3→g):g:=h.elim fun a0 h=>h.elim fun a1 h=>h.elim fun a2 h=>h.elim fun a3 h=>k a0 a1 a2 a3 h
def uJ{bI bW du gc:Sort _}{A B:bI→bW→du→gc→Prop}{g:Prop}(h:∃ a0 a1 a2 a3,A a0 a1 a2 a3∧B a0 a1 a2 a3)(k:∀ a0 a1 a2 a3,A a0 a1 a2 a3→B a0 a1 a2 a3→g):g:=h.elim fun a0 h=>h.elim fun a1 h=>h.elim fun a2 h=>h.elim fun a3 h=>k a0 a1 a2 a3 h.1 h.2
def sk{bI bW du gc:Sort _}{A B C:bI→bW→du→gc→Prop}{g:Prop}(h:∃ a0 a1 a2 a3,A a0 a1 a2 a3∧B a0 a1 a2 a3∧C a0 a1 a2 a3)(k:∀ a0 a1 a2 a3,A a0 a1 a2 a3→B a0 a1 a2 a3→C a0 a1 a2 a3→g):g:=h.elim fun a0 h=>h.elim fun a1 h=>h.elim fun a2 h=>h.elim fun a3 h=>k a0 a1 a2 a3 h.1 h.2.1 h.2.2
def F7{bI bW du gc:Sort _}{A B C D:bI→bW→du→gc→Prop}{g:Prop}(h:∃ a0 a1 a2 a3,A a0 a1 a2 a3∧B a0 a1 a2 a3∧C a0 a1 a2 a3∧D a0 a1 a2 a3)(k:∀ a0 a1 a2 a3,A a0 a1 a2 a3→B a0 a1 a2 a3→C a0 a1 a2 a3→D a0 a1 a2 a3→g):g:=h.elim fun a0 h=>h.elim fun a1 h=>h.elim fun a2 h=>h.elim fun a3 h=>k a0 a1 a2 a3 h.1 h.2.1 h.2.2.1 h.2.2.2
def Bm{bI bW du gc:Sort _}{A B C D E:bI→bW→du→gc→Prop}{g:Prop}(h:∃ a0 a1 a2 a3,A a0 a1 a2 a3∧B a0 a1 a2 a3∧C a0 a1 a2 a3∧D a0 a1 a2 a3∧E a0 a1 a2 a3)(k:∀ a0 a1 a2 a3,A a0 a1 a2 a3→B a0 a1 a2 a3→C a0 a1 a2 a3→D a0 a1 a2 a3→E a0 a1 a2 a3→g):g:=h.elim fun a0 h=>h.elim fun a1 h=>h.elim fun a2 h=>h.elim fun a3 h=>k a0 a1 a2 a3 h.1 h.2.1 h.2.2.1 h.2.2.2.1 h.2.2.2.2
def xK{bI bW du gc:Sort _}{A B C D E F G:bI→bW→du→gc→Prop}{g:Prop}(h:∃ a0 a1 a2 a3,A a0 a1 a2 a3∧B a0 a1 a2 a3∧C a0 a1 a2 a3∧D a0 a1 a2 a3∧E a0 a1 a2 a3∧F a0 a1 a2 a3∧G a0 a1 a2 a3)(k:∀ a0 a1 a2 a3,A a0 a1 a2 a3→B a0 a1 a2 a3→C a0 a1 a2 a3→D a0 a1 a2 a3→E a0 a1 a2 a3→F a0 a1 a2 a3→G a0 a1 a2 a3→g):g:=h.elim fun a0 h=>h.elim fun a1 h=>h.elim fun a2 h=>h.elim fun a3 h=>k a0 a1 a2 a3 h.1 h.2.1 h.2.2.1 h.2.2.2.1 h.2.2.2.2.1 h.2.2.2.2.2.1 h.2.2.2.2.2.2
def Bl{bI bW du gc:Sort _}{A B C D E F G H:bI→bW→du→gc→Prop}{g:Prop}(h:∃ a0 a1 a2 a3,A a0 a1 a2 a3∧B a0 a1 a2 a3∧C a0 a1 a2 a3∧D a0 a1 a2 a3∧E a0 a1 a2 a3∧F a0 a1 a2 a3∧G a0 a1 a2 a3∧H a0 a1 a2 a3)(k:∀ a0 a1 a2 a3,A a0 a1 a2 a3→B a0 a1 a2 a3→C a0 a1 a2 a3→D a0 a1 a2 a3→E a0 a1 a2 a3→F a0 a1 a2 a3→G a0 a1 a2 a3→H a0 a1 a2 a3→g):g:=h.elim fun a0 h=>h.elim fun a1 h=>h.elim fun a2 h=>h.elim fun a3 h=>k a0 a1 a2 a3 h.1 h.2.1 h.2.2.1 h.2.2.2.1 h.2.2.2.2.1 h.2.2.2.2.2.1 h.2.2.2.2.2.2.1 h.2.2.2.2.2.2.2
def Op{bI bW du gc qh:Sort _}{A B C:bI→bW→du→gc→qh→Prop}{g:Prop}(h:∃ a0 a1 a2 a3 a4,A a0 a1 a2 a3 a4∧B a0 a1 a2 a3 a4∧C a0 a1 a2 a3 a4)(k:∀ a0 a1 a2 a3 a4,A a0 a1 a2 a3 a4→B a0 a1 a2 a3 a4→C a0 a1 a2 a3 a4→g):g:=h.elim fun a0 h=>h.elim fun a1 h=>h.elim fun a2 h=>h.elim fun a3 h=>h.elim fun a4 h=>k a0 a1 a2 a3 a4 h.1 h.2.1 h.2.2
def Oo{bI bW du gc qh:Sort _}{A B C D:bI→bW→du→gc→qh→Prop}{g:Prop}(h:∃ a0 a1 a2 a3 a4,A a0 a1 a2 a3 a4∧B a0 a1 a2 a3 a4∧C a0 a1 a2 a3 a4∧D a0 a1 a2 a3 a4)(k:∀ a0 a1 a2 a3 a4,A a0 a1 a2 a3 a4→B a0 a1 a2 a3 a4→C a0 a1 a2 a3 a4→D a0 a1 a2 a3 a4→g):g:=h.elim fun a0 h=>h.elim fun a1 h=>h.elim fun a2 h=>h.elim fun a3 h=>h.elim fun a4 h=>k a0 a1 a2 a3 a4 h.1 h.2.1 h.2.2.1 h.2.2.2
def F6{bI bW du gc qh:Sort _}{A B C D E:bI→bW→du→gc→qh→Prop}{g:Prop}(h:∃ a0 a1 a2 a3 a4,A a0 a1 a2 a3 a4∧B a0 a1 a2 a3 a4∧C a0 a1 a2 a3 a4∧D a0 a1 a2 a3 a4∧E a0 a1 a2 a3 a4)(k:∀ a0 a1 a2 a3 a4,A a0 a1 a2 a3 a4→B a0 a1 a2 a3 a4→C a0 a1 a2 a3 a4→D a0 a1 a2 a3 a4→E a0 a1 a2 a3 a4→g):g:=h.elim fun a0 h=>h.elim fun a1 h=>h.elim fun a2 h=>h.elim fun a3 h=>h.elim fun a4 h=>k a0 a1 a2 a3 a4 h.1 h.2.1 h.2.2.1 h.2.2.2.1 h.2.2.2.2
def On{bI bW du gc qh Og Of:Sort _}{A B C D:bI→bW→du→gc→qh→Og→Of→Prop}{g:Prop}(h:∃ a0 a1 a2 a3 a4 a5 a6,A a0 a1 a2 a3 a4 a5 a6∧B a0 a1 a2 a3 a4 a5 a6∧C a0 a1 a2 a3 a4 a5 a6∧D a0 a1 a2 a3 a4 a5 a6)(k:∀ a0 a1 a2 a3 a4 a5 a6,A a0 a1 a2 a3 a4 a5 a6→B a0 a1 a2 a3 a4 a5 a6→C a0 a1 a2 a3 a4 a5 a6→D a0 a1 a2 a3 a4 a5 a6→g):g:=h.elim fun a0 h=>h.elim fun a1 h=>h.elim fun a2 h=>h.elim fun a3 h=>h.elim fun a4 h=>h.elim fun a5 h=>h.elim fun a6 h=>k a0 a1 a2 a3 a4 a5 a6 h.1 h.2.1 h.2.2.1 h.2.2.2
def bO{α β:Type _}{o:Option α}{f:α→Option β}{b:β}(h:o.bind f=some b):∃ a,o=some a∧f a=some b:=xj.mp h
def anyOf{α:Type _}{o:Option α}{f:α→Bool}(h:o.any f=true):∃ a,o=some a∧f a=true:=by
 cases o with
 | none=>cases h
 | some a=>exact ⟨a,rfl,h⟩
def aL{a b:Bool}(h:(a&&b)=true):a=true:=(nM.mp h).1
def aR{a b:Bool}(h:(a&&b)=true):b=true:=(nM.mp h).2
theorem aN:∀ {a:Bool},(!a)=true→a=false
 | false,_=>rfl
def aD{p:Prop}[Decidable p](h:decide p=true):p:=of_decide_eq_true h
def eH{e N:Nat}(k:p7 e N=true):e≤N:=p6 k
def aq{e x N:Nat}(h:e≤x)(k:p7 x N=true):e≤N:=aB h (p6 k)
def iI{e x N:Nat}(h:e≤x)(k:um x N=true):e < N:=kZ h (p6 k)
def xT{e x N:Nat}(h:e≤x)(k:p7 x N=true):¬N < e:=Fi.mpr (aq h k)
def IW{e n:Nat}(h:e < n):e≤n - 1:=Nat.le_sub_one_of_lt h
def yP{a b n:Nat}(h:b≤n):min a b≤n:=aB (AR _ _) h
def eS{a b c d:Nat}(h:a≤b)(k:c≤d):a + c≤b + d:=AW h k
def bc{a b c:Nat}(h:a≤b):a + c≤b + c:=Nat.add_le_add_right h c
def addQ{a b c:Nat}(h:a≤b):c + a≤c + b:=Fn h c
def mulL{a b c:Nat}(h:a≤b):c * a≤c * b:=adU c h
def iK{e t x N:Nat}(h:e≤t + x)(k:p7 x N=true):e≤t + N:=aB h (Fn (p6 k) t)
def b8{a b t x y:Nat}(h:a≤t + x)(k:b≤y):a + b≤t + (x + y):=r8 t x y ▸ AW h k
def iM{t:Nat}:t≤t + 0:=aS t
def iL{a b c:Int}(h:b≤c)(k:decide (a≤b)=true):a≤c:=aeO (of_decide_eq_true k) h
def iV{a b c:Int}(h:a < b)(k:decide (b≤c)=true):a < c:=Int.lt_of_lt_of_le h (of_decide_eq_true k)
def iN{n:Nat}:¬(n:Int) < 0:=NT.mpr (xz n)
end
section
open PySem
inductive PV where
 | none|bool (b:Bool)|int (i:Int)|str (s:List Nat)|bytes (l:List UInt8)
 | tup (l:List PV)|fl (l:List PV)|fd (l:List (List Nat×PV))|fi (c:Nat) (l:List (List Nat×PV))
 | loc (n:Nat)
 deriving Inhabited
noncomputable abbrev Qp:=List PV
noncomputable abbrev Qm:=List (Qn×PV)
noncomputable abbrev Qq:=Option PV
inductive PO where
 | list (l:List PV)|dict (l:List (List Nat×PV))|inst (c:Nat) (l:List (List Nat×PV))|dW (l:List UInt8)
 deriving Inhabited
noncomputable abbrev Hp:=List PO
noncomputable abbrev Sl:=List Qq
inductive R(α:Type) where
 | no|bad (H:Hp)|ok (a:α) (H:Hp)
 deriving Inhabited
noncomputable def R.bind{α β:Type}:R α→(α→Hp→R β)→R β
 | .no,_=>.no
 | .bad H,_=>.bad H
 | .ok a H,f=>f a H
@[simp] theorem R.afS{α β}(f:α→Hp→R β):R.bind .no f=.no:=rfl
@[simp] theorem R.afT{α β}(H)(f:α→Hp→R β):R.bind (.bad H) f=.bad H:=rfl
@[simp] theorem R.afR{α β}(a H)(f:α→Hp→R β):R.bind (.ok a H) f=f a H:=rfl
noncomputable def cV{α:Type}:R α→R α
 | .bad _=>.no
 | r=>r
@[simp] theorem afA{α}(a:α)(H):cV (.ok a H)=.ok a H:=rfl
@[simp] theorem afB{α}:cV (.no:R α)=.no:=rfl
@[simp] theorem afC{α}(H):cV (.bad H:R α)=.no:=rfl
noncomputable def R.of{α:Type}(x:Option α)(H:Hp):R α:=match x with
 | some a=>.ok a H
 | .none=>.no
@[simp] theorem R.SU{α}(a:α)(H):R.of (some a) H=.ok a H:=rfl
@[simp] theorem R.of_none{α}(H):R.of (.none:Option α) H=.no:=rfl
noncomputable abbrev aC:Nat:=16777216
noncomputable def look{α:Type}(k:Qn):List (Qn×α)→Option α
 | []=>.none
 | (k',v)::r=>if k'=k then some v else look k r
noncomputable def put{α:Type}(k:Qn)(v:α):List (Qn×α)→List (Qn×α)
 | []=>[(k,v)]
 | (k',v')::r=>if k'=k then (k',v)::r else (k',v')::put k v r
def lE{α:Type}{k k':Qn}{v:α}{r:List (Qn×α)}:look k ((k',v)::r)=if k'=k then some v else look k r:=rfl
def Ug{α:Type}{k:Qn}:look (α:=α) k []=none:=rfl
def R6{α:Type}{k:Qn}{v:α}:put k v []=[(k,v)]:=rfl
def qH{α:Type}{k k':Qn}{v v':α}{r:List (Qn×α)}:put k v ((k',v')::r)=if k'=k then (k',v)::r else (k',v')::put k v r:=rfl
inductive pY where|add|sub|mul|fdiv|mod deriving DecidableEq
inductive jp where|eq|ne|lt|le|gt|ge|is|iQ|aG|dg deriving DecidableEq
inductive BM where
 | append|nt|extend|pop|sort|get|find|rfind|count|starts|ends|replace|split|strip|join|pq
 deriving DecidableEq
inductive BI where|len|chr|ord|int|bytes|dW|mq deriving DecidableEq
inductive CM where|aG|pure|jI deriving DecidableEq
set_option genCtorIdx false in
mutual
inductive PE where
 | any
 | cst (v:PV)
 | neg (a:PE)
 | var (i:Nat)
 | glob (k:Nat)
 | rL
 | bin (o:pY) (m:Bool) (a b:PE)
 | cmp (o:jp) (a b:PE)
 | rG (a:PE) (db:jp) (b:PE) (eM:jp) (c:PE)
 | iF (l:bg)|jW (l:bg)|me (a:PE)
 | ite (c a b:PE)
 | tup (l:bg)
 | list (m:Bool) (l:bg)
 | dict (m:Bool) (ks:List (List Nat)) (l:bg)
 | idx (a i:PE)
 | slice (a lo hi:PE)
 | rev (m:Bool) (a:PE)
 | attr (a:PE) (n:List Nat)
 | call (m:CM) (f:Nat) (l:bg)
 | new (m:CM) (c:Nat) (l:bg)
 | own (m:CM) (k:Nat) (a:PE) (l:bg)
 | sup (l:bg)
 | gq (b:BM) (a:PE) (l:bg)
 | bi (b:BI) (l:bg)
 | comp (m:Bool) (elt:PE) (it:IE) (bf:bg)
inductive bg where
 | nil|cons (a:PE) (r:bg)
inductive IE where
 | ex (a:PE)|kt (a:PE)|vals (a:PE)|enum (a:PE)
end
set_option genCtorIdx false in
inductive PS where
 | any
 | nil
 | asg (i:Nat) (e:PE) (r:PS)
 | dr (is:List Nat) (e:PE) (r:PS)
 | jA (a:PE) (n:List Nat) (e:PE) (r:PS)
 | gF (a i e:PE) (r:PS)
 | expr (e:PE) (r:PS)
 | ret (e:PE)
 | ifs (c:PE) (t f r:PS)
 | mR (c:PE) (b r:PS)
 | fP (i:Nat) (it:IE) (b r:PS)
 | mA (is:List Nat) (it:IE) (b r:PS)
 | raise (e:PE)
 | nR (e:PE) (i:Nat) (v:Bool) (r:PS)
 | cont
structure dL where
 call:Nat→Qp→Hp→R PV
 init:Nat→Qp→Hp→R PV
 own:Nat→Nat→Qp→Hp→R PV
noncomputable def bV(v:PV)(H:Hp):Option Qp:=match v with
 | .fl l=>some l
 | .loc n=>match H[n]? with|some (.list l)=>some l|_=>.none
 | _=>.none
noncomputable def dZ(v:PV)(H:Hp):Option Qm:=match v with
 | .fd l=>some l
 | .loc n=>match H[n]? with|some (.dict l)=>some l|_=>.none
 | _=>.none
noncomputable def hU(v:PV)(H:Hp):Option (Nat×Qm):=match v with
 | .fi c l=>some (c,l)
 | .loc n=>match H[n]? with|some (.inst c l)=>some (c,l)|_=>.none
 | _=>.none
def fL(m:Bool)(l:Qp)(H:Hp):R PV:=
 if l.length≤aC then (if m then .ok (.loc H.length) (H++[.list l]) else .ok (.fl l) H) else .no
noncomputable def Cy(m:Bool)(l:Qm)(H:Hp):R PV:=
 if m then .ok (.loc H.length) (H++[.dict l]) else .ok (.fd l) H
noncomputable def truth(v:PV):Option Bool:=match v with
 | .bool b=>some b
 | _=>.none
noncomputable def small(i:Int):Bool:=decide (i.natAbs < 2 ^ 128)
noncomputable def toInt:PV→Option Int
 | .int i=>some i
 | _=>.none
noncomputable def cP:PV→Option Qy
 | .bytes b=>some b
 | _=>.none
noncomputable def o3:PV→Option Qp
 | .tup b=>some b
 | _=>.none
noncomputable def toStr:PV→Option Qn
 | .str b=>some b
 | _=>.none
def Ju(o:pY)(i j:Int)(H:Hp):R PV:=match o with
 | .add=>.ok (.int (i + j)) H
 | .sub=>.ok (.int (i - j)) H
 | .mul=>if small i&&small j then .ok (.int (i * j)) H else .no
 | .fdiv=>if j=0∨1073741824≤j.natAbs then .no else .ok (.int (i.fdiv j)) H
 | .mod=>if j=0 then .no else .ok (.int (i.fmod j)) H
def AC(m:Bool)(a b:PV)(H:Hp):R PV:=match cP a,cP b with
 | some x,some y=>if x.length + y.length≤aC then .ok (.bytes (x++y)) H else .no
 | _,_=>match o3 a,o3 b with
  | some x,some y=>if x.length + y.length≤aC then .ok (.tup (x++y)) H else .no
  | _,_=>match bV a H,bV b H with
   | some l,some l'=>if l.length + l'.length≤aC then fL m (l++l') H else .no
   | _,_=>.no
def Cx(m:Bool)(a:PV)(j:Int)(H:Hp):R PV:=match cP a with
 | some x=>if 0≤j∧j < 4096∧x≠[]∧x.length≤16 then .ok (.bytes (gC j.toNat x).flatten) H else .no
 | .none=>match bV a H with
  | some l=>if 0≤j∧j < 2 ^ 62∧l.length * j.toNat≤aC then fL m (gC j.toNat l).flatten H else .no
  | .none=>.no
def binop(o:pY)(m:Bool)(a b:PV)(H:Hp):R PV:=match toInt a,toInt b with
 | some i,some j=>Ju o i j H
 | .none,some j=>match o with
  | .mul=>Cx m a j H
  | _=>.no
 | _,.none=>match o with
  | .add=>AC m a b H
  | _=>.no
noncomputable def dE(a b:PV):Option Bool:=match a,b with
 | .none,.none=>some true
 | .bool x,.bool y=>some (x==y)
 | .int x,.int y=>some (x==y)
 | .str x,.str y=>some (x==y)
 | .bool x,.int y=>some ((if x then 1 else 0)==y)
 | .int x,.bool y=>some (x==(if y then 1 else 0))
 | .none,.bool _|.none,.int _|.none,.str _|.bool _,.none|.int _,.none|.str _,.none=>some false
 | .bool _,.str _|.str _,.bool _|.int _,.str _|.str _,.int _=>some false
 | _,_=>.none
def wG(a b:Qm):Option Bool:=
 if a.length≠b.length then some false
 else a.foldr (fun kv acc=>match acc,look kv.1 b with
  | some t,some v=>(dE kv.2 v).map (·&&t)
  | some _,.none=>some false
  | .none,_=>.none) (some true)
def eqv(a b:PV)(H:Hp):Option Bool:=match cP a,cP b with
 | some x,some y=>some (x==y)
 | _,_=>match dZ a H,dZ b H with
  | some x,some y=>wG x y
  | _,_=>match bV a H,bV b H with
   | some l,some []=>some l.isEmpty
   | _,_=>dE a b
def iE(x:PV)(l:Qp):Option Bool:=
 l.foldr (fun y acc=>match acc,dE y x with
  | some t,some e=>some (e||t)
  | _,_=>.none) (some false)
noncomputable def zy(b sub:Qy):Bool:=(FM b.toArray sub.toArray 0 b.length).isSome
def isin(x c:PV)(H:Hp):Option Bool:=match cP c with
 | some b=>match cP x with|some s=>some (zy b s)|.none=>.none
 | .none=>match o3 c with
  | some l=>iE x l
  | .none=>match bV c H with
   | some l=>iE x l
   | .none=>match dZ c H,toStr x with
    | some d,some k=>some (look k d).isSome
    | _,_=>.none
noncomputable def vD(a b:PV):Option Bool:=match b with
 | .none=>some (match a with|.none=>true|_=>false)
 | .bool y=>match a with
  | .bool x=>some (x==y)
  | .loc _=>.none
  | _=>some false
 | _=>.none
noncomputable def vd(o:jp)(i j:Int):Option Bool:=match o with
 | .lt=>some (decide (i < j))
 | .le=>some (decide (i≤j))
 | .gt=>some (decide (i > j))
 | .ge=>some (decide (i≥j))
 | _=>.none
def bU(o:jp)(a b:PV)(H:Hp):Option Bool:=match o with
 | .eq=>eqv a b H
 | .ne=>(eqv a b H).map (!·)
 | .is=>vD a b
 | .iQ=>(vD a b).map (!·)
 | .aG=>isin a b H
 | .dg=>(isin a b H).map (!·)
 | o=>match toInt a,toInt b with
  | some i,some j=>vd o i j
  | _,_=>.none
noncomputable def mv{α:Type}(l:List α)(i:Int):Option α:=
 if i < -1000000000 then .none else if 1000000000 < i then .none else (seqIndex? i l.length).bind (l[·]?)
def kM(a i:PV)(H:Hp):Qq:=match toInt i with
 | some i=>match cP a with
  | some l=>if l.length≤aC then (mv l i).map fun c=>.int c.toNat else .none
  | .none=>match o3 a with
   | some l=>mv l i
   | .none=>(bV a H).bind fun l=>mv l i
 | .none=>match toStr i with
  | some k=>(dZ a H).bind fun d=>look k d
  | .none=>.none
noncomputable def cut{α:Type}(l:List α)(lo hi:Option Int):List α:=
 (l.drop (lo.elim 0 (clipAt l.length))).take (hi.elim l.length (clipAt l.length) - lo.elim 0 (clipAt l.length))
noncomputable def part(v:PV):Option (Option Int):=match v with
 | .none=>some .none
 | .int i=>some (some i)
 | _=>.none
def gU(a lo hi:PV)(H:Hp):Qq:=match part lo,part hi with
 | some l,some h=>match cP a with
  | some b=>if b.length≤aC then some (.bytes (cut b l h)) else .none
  | .none=>match bV a H with
   | some xs=>if xs.length≤aC then some (.fl (cut xs l h)) else .none
   | .none=>.none
 | _,_=>.none
def getattr(a:PV)(n:Qn)(H:Hp):Qq:=(hU a H).bind fun cl=>look n cl.2
noncomputable def qW(v:PV):Option (Int×Int):=match v with
 | .tup [.int i,.int j]=>some (i,j)
 | _=>.none
noncomputable def eR{α:Type}:List (Option α)→Option (List α)
 | []=>some []
 | some a::r=>(eR r).map (a::·)
 | .none::_=>.none
def bytesOf(l:Qp):Option (List Qy):=eR (l.map fun v=>match v with|.bytes b=>some b|_=>.none)
def strsOf(l:Qp):Option (List Qn):=eR (l.map fun v=>match v with|.str b=>some b|_=>.none)
def qO(l:Qp):Option Qy:=eR (l.map fun v=>match v with|.int i=>if 0≤i∧i < 256 then some i.toNat.toUInt8 else .none|_=>.none)
noncomputable def fj(b sub:Qy):Qn:=uF b.toArray sub.toArray 0 b.length
noncomputable def kV(b:Qy)(w:Nat)(ps:Qn):List Qy:=(uG b.toArray w ps).map (·.toList)
noncomputable def je(sep:Qy)(ps:List Qy):Qy:=(FL sep.toArray (ps.map (·.toArray))).toList
noncomputable def ta(ps:List (Int×Int)):Bool:=decide (ps.length≤6)&&ps.all (fun p=>decide (0≤p.1∧p.1≤2))&&decide (ps.Pairwise fun p q=>p.2 < q.2)
noncomputable def qN(ps:List (Int×Int)):List (Int×Int):=ps.filter (fun p=>p.1=0)++(ps.filter (fun p=>p.1=1)++ps.filter (fun p=>p.1=2))
noncomputable def one{α:Type}:List α→Option α
 | [a]=>some a
 | _=>.none
noncomputable def gj:PV→Option Nat
 | .loc n=>some n
 | _=>.none
def wQ(n:Nat)(v:PV)(H:Hp):R PV:=match H[n]? with
 | some (.list l)=>if l.length < aC then .ok .none (H.set n (.list (l++[v]))) else .no
 | _=>.no
def pT(n:Nat)(v:PV)(H:Hp):R PV:=match H[n]? with
 | some (.dW l)=>match toInt v with
  | some i=>if 0≤i∧i < 256∧l.length < aC then .ok .none (H.set n (.dW (l++[i.toNat.toUInt8]))) else .no
  | .none=>.no
 | _=>.no
def D9(n:Nat)(v:PV)(H:Hp):R PV:=match H[n]? with
 | some (.list l)=>if gj v=some n then .no else match bV v H with
  | some xs=>if l.length + xs.length≤aC then .ok .none (H.set n (.list (l++xs))) else .no
  | .none=>.no
 | _=>.no
def u9(n:Nat)(H:Hp):R PV:=match H[n]? with
 | some (.list l)=>match l.getLast? with
  | some v=>if l.length≤aC then .ok v (H.set n (.list l.dropLast)) else .no
  | .none=>.no
 | _=>.no
def ye(n:Nat)(H:Hp):R PV:=match H[n]? with
 | some (.list l)=>match eR (l.map qW) with
  | some ps=>if ta ps then .ok .none (H.set n (.list ((qN ps).map fun p=>.tup [.int p.1,.int p.2]))) else .no
  | .none=>.no
 | _=>.no
noncomputable def idxOf:Option Nat→Int
 | some i=>i
 | .none=>-1
def lN(b:BM)(x y:Qy)(H:Hp):R PV:=
 if x.length≤aC∧y.length≤aC then match b with
  | .find=>.ok (.int (idxOf (FM x.toArray y.toArray 0 x.length))) H
  | .rfind=>.ok (.int (idxOf (agw x.toArray y.toArray 0 x.length))) H
  | .count=>if y=[] then .no else .ok (.int (fj x y).length) H
  | .starts=>.ok (.bool (decide (y.length≤x.length)&&x.take y.length==y)) H
  | .ends=>.ok (.bool (decide (y.length≤x.length)&&x.drop (x.length - y.length)==y)) H
  | .split=>if y=[]∨aC < (kV x y.length (fj x y)).length∨(kV x y.length (fj x y)).any (fun p=>decide (aC < p.length)) then .no else .ok (.fl ((kV x y.length (fj x y)).map .bytes)) H
  | .strip=>.ok (.bytes ((x.dropWhile y.contains).reverse.dropWhile y.contains).reverse) H
  | _=>.no
 else .no
def o7(x y z:Qy)(H:Hp):R PV:=
 if y=[] then .no else if x.length + (fj x y).length * z.length≤aC∧(je z (kV x y.length (fj x y))).length≤aC then .ok (.bytes (je z (kV x y.length (fj x y)))) H else .no
def ml(x:Qy)(v:PV)(H:Hp):R PV:=match (bV v H).bind bytesOf with
 | some ps=>if ps.length≤4096∧(ps.map i7).sum + x.length * ps.length≤aC∧(je x ps).length≤aC then .ok (.bytes (je x ps)) H else .no
 | .none=>.no
def qV(x:Qn)(v:PV)(H:Hp):R PV:=match (bV v H).bind strsOf with
 | some ps=>if x=[]∧ps.length≤4096∧(ps.map i7).sum≤1000000 then .ok (.str ps.flatten) H else .no
 | .none=>.no
noncomputable abbrev both{α β:Type}(oa:Option α)(ob:Option β)(f:α→β→R PV):R PV:=match oa,ob with
 | some a,some b=>f a b
 | _,_=>.no
noncomputable abbrev ED(oa:Option Nat)(vs:Qp)(f:Nat→R PV):R PV:=match oa,vs with
 | some a,[]=>f a
 | _,_=>.no
noncomputable def Gs(l:Option (List Qy)):Option (Qy×Qy):=match l with
 | some [y,z]=>some (y,z)
 | _=>none
def dv(b:BM)(a:PV)(args:Qp)(H:Hp):R PV:=match b with
 | .append=>both (gj a) (one args) fun n v=>wQ n v H
 | .nt=>both (gj a) (one args) fun n v=>pT n v H
 | .extend=>both (gj a) (one args) fun n v=>D9 n v H
 | .pop=>ED (gj a) args fun n=>u9 n H
 | .sort=>ED (gj a) args fun n=>ye n H
 | .get=>both (dZ a H) ((one args).bind toStr) fun l k=>.ok ((look k l).getD .none) H
 | .replace=>match cP a,bytesOf args with|some x,some [y,z]=>o7 x y z H|_,_=>.no
 | .join=>both (cP a) (one args) fun x v=>ml x v H
 | .pq=>both (toStr a) (one args) fun x v=>qV x v H
 | b=>both (cP a) ((one args).bind cP) fun x y=>lN b x y H
def jZ(b:BM)(v:PV)(H:Hp):Bool:=match b with
 | .append|.extend|.pop|.sort=>match v with|.loc n=>(match H[n]? with|some (.list _)=>true|_=>false)|_=>false
 | .nt=>match v with|.loc n=>(match H[n]? with|some (.dW _)=>true|_=>false)|_=>false
 | .get=>(dZ v H).isSome
 | .pq=>(toStr v).isSome
 | _=>(cP v).isSome
def ti(v:PV)(H:Hp):R PV:=match cP v with
 | some l=>if l.length≤aC then .ok (.int l.length) H else .no
 | .none=>match bV v H with
  | some l=>if l.length≤aC then .ok (.int l.length) H else .no
  | .none=>.no
noncomputable def Ep(i:Int)(H:Hp):R PV:=if 0≤i∧i < 128 then .ok (.str [i.toNat]) H else .no
def yC(l:Qn)(H:Hp):R PV:=match one l with
 | some c=>if c < 128 then .ok (.int c) H else .no
 | .none=>.no
def rI(v:PV)(H:Hp):R PV:=match (bV v H).bind qO with
 | some l=>if l.length≤aC then .ok (.bytes l) H else .no
 | .none=>.no
noncomputable def wK(v:PV)(H:Hp):R PV:=match v with
 | .bool _=>.ok (.bool true) H
 | .none=>.ok (.bool false) H
 | .int _=>.ok (.bool false) H
 | .str _=>.ok (.bool false) H
 | _=>.no
def nr(b:BI)(args:Qp)(H:Hp):R PV:=match b with
 | .len=>match one args with|some v=>ti v H|.none=>.no
 | .chr=>match (one args).bind toInt with|some i=>Ep i H|.none=>.no
 | .ord=>match (one args).bind toStr with|some l=>yC l H|.none=>.no
 | .int=>match (one args).bind toInt with|some i=>.ok (.int i) H|.none=>.no
 | .bytes=>match one args with|some v=>rI v H|.none=>.no
 | .dW=>match args with|[]=>.ok (.loc H.length) (H++[.dW []])|_=>.no
 | .mq=>match one args with|some v=>wK v H|.none=>.no
def Rf(n:Nat)(i:Int)(v:PV)(H:Hp):R Unit:=match H[n]? with
 | some (.list l)=>if 0≤i∧i < l.length∧l.length≤aC then .ok () (H.set n (.list (l.set i.toNat v))) else .no
 | _=>.no
def o_(n:Nat)(k:Qn)(v:PV)(H:Hp):R Unit:=match H[n]? with
 | some (.dict d)=>if d.length < aC then .ok () (H.set n (.dict (put k v d))) else .no
 | _=>.no
def uT(a i v:PV)(H:Hp):R Unit:=match gj a with
 | some n=>match toInt i with
  | some i=>Rf n i v H
  | .none=>match toStr i with
   | some k=>o_ n k v H
   | .none=>.no
 | .none=>.no
def jS(a:PV)(k:Qn)(v:PV)(H:Hp):R Unit:=match gj a with
 | some n=>match H[n]? with
  | some (.inst c d)=>if d.length < aC then .ok () (H.set n (.inst c (put k v d))) else .no
  | _=>.no
 | .none=>.no
mutual
noncomputable def eJ:PV→Bool
 | .loc _=>false
 | .tup l=>dU l
 | .fl l=>dU l
 | .fd l=>jV l
 | .fi _ l=>jV l
 | _=>true
noncomputable def dU:Qp→Bool
 | []=>true
 | v::r=>eJ v&&dU r
noncomputable def jV:Qm→Bool
 | []=>true
 | (_,v)::r=>eJ v&&jV r
end
mutual
noncomputable def nh:PV→Bool
 | .none=>true
 | .bool _=>true
 | .int _=>true
 | .str _=>true
 | .bytes _=>true
 | .tup l=>kN l
 | _=>false
noncomputable def kN:Qp→Bool
 | []=>true
 | v::r=>nh v&&kN r
end
noncomputable def lP{α:Type}:List (Qn×Option α)→Option (List (Qn×α))
 | []=>some []
 | (k,some a)::r=>(lP r).map ((k,a)::·)
 | (_,.none)::_=>.none
noncomputable def cD(H:Hp):Nat→PV→Qq
 | n + 1,.loc i=>match H[i]? with
  | some (.list l)=>(eR (l.map (cD H n))).map .fl
  | some (.dict l)=>(lP (l.map fun p=>(p.1,cD H n p.2))).map .fd
  | some (.inst c l)=>(lP (l.map fun p=>(p.1,cD H n p.2))).map (.fi c)
  | _=>.none
 | _,v=>if eJ v then some v else .none
def ot(H:Hp)(v:PV):Qq:=match v with
 | .loc i=>match H[i]? with
  | some (.list l)=>if kN l then some (.fl l) else .none
  | some (.dict l)=>if kN (l.map (·.2)) then some (.fd l) else .none
  | _=>.none
 | v=>if nh v then some v else .none
def back(g:Hp→PV→Qq)(H:Hp):R PV→R PV
 | .no=>.no
 | .bad _=>.bad H
 | .ok v H'=>R.of (g H' v) H
def runC(m:CM)(run:Qp→Hp→R PV)(vs:Qp)(H:Hp):R PV:=match m with
 | .aG=>run vs H
 | .pure=>if dU vs then back (fun H' v=>cD H' 4 v) H (run vs []) else .no
 | .jI=>match eR (vs.map (cD H 4)) with
  | some us=>back ot H (run us [])
  | .none=>.no
inductive It where
 | fix (l:List PV)|dyn (n:Nat)
noncomputable def It.at(it:It)(H:Hp)(i:Nat):Option Qq:=match it with
 | .fix l=>some l[i]?
 | .dyn n=>match H[n]? with|some (.list l)=>some l[i]?|_=>.none
inductive Fl where|next|cont|ret (v:PV)
 deriving Inhabited
noncomputable def cQ(body:Sl→Hp→R (Fl×Sl))(ce:PV→Sl→Option Sl)(it:It):Nat→Nat→Sl→Hp→R (Fl×Sl)
 | 0,_,_,_=>.no
 | n + 1,i,sl,H=>match it.at H i with
  | .none=>.no
  | some .none=>.ok (.next,sl) H
  | some (some v)=>match ce v sl with
   | .none=>.no
   | some aE=>(body aE H).bind fun x H'=>match x.1 with
    | .ret v=>.ok (.ret v,x.2) H'
    | _=>cQ body ce it n (i + 1) x.2 H'
noncomputable def lD(test:Sl→Hp→R Bool)(body:Sl→Hp→R (Fl×Sl)):Nat→Sl→Hp→R (Fl×Sl)
 | 0,_,_=>.no
 | n + 1,sl,H=>(test sl H).bind fun b H₁=>match b with
  | false=>.ok (.next,sl) H₁
  | true=>(body sl H₁).bind fun x H'=>match x.1 with
   | .ret v=>.ok (.ret v,x.2) H'
   | _=>lD test body n x.2 H'
noncomputable def fm(test:Sl→Hp→R Bool)(elt:Sl→Hp→R PV)(sl:Sl):Qp→Hp→R Qp
 | [],H=>.ok [] H
 | v::r,H=>(test (some v::sl) H).bind fun b H₁=>match b with
  | false=>fm test elt sl r H₁
  | true=>(elt (some v::sl) H₁).bind fun u ag=>(fm test elt sl r ag).bind fun us bH=>.ok (u::us) bH
theorem IY{test:Sl→Hp→R Bool}{elt:Sl→Hp→R PV}{sl:Sl}{v:PV}{r:Qp}{H:Hp}:fm test elt sl (v::r) H=(test (some v::sl) H).bind fun b H₁=>match b with
  | false=>fm test elt sl r H₁
  | true=>(elt (some v::sl) H₁).bind fun u ag=>(fm test elt sl r ag).bind fun us bH=>.ok (u::us) bH:=rfl
noncomputable def dD(sl:Sl)(i:Nat):Qq:=(sl[i]?).join
noncomputable def cX(sl:Sl)(i:Nat)(v:PV):Sl:=sl.set i (some v)
noncomputable def lq:Qn→Qp→Sl→Option Sl
 | [],[],sl=>some sl
 | i::is,v::vs,sl=>lq is vs (cX sl i v)
 | _,_,_=>.none
def jK(is:Qn)(v:PV)(sl:Sl):Option Sl:=match v with
 | .tup l=>lq is l sl
 | _=>.none
noncomputable def og(v:PV)(H:Hp):Option It:=match v with
 | .bytes l=>some (.fix (l.map fun c=>.int c.toNat))
 | .str l=>some (.fix (l.map fun c=>.str [c]))
 | .tup l=>some (.fix l)
 | .fl l=>some (.fix l)
 | .loc n=>match H[n]? with|some (.list _)=>some (.dyn n)|_=>.none
 | _=>.none
noncomputable def ma(v:PV):Option It:=match v with
 | .int i=>if -1000000000≤i∧i≤1000000000 then some (.fix ((dR i.toNat).map fun (k:Nat)=>.int k)) else .none
 | _=>.none
noncomputable def mn:Nat→Qn
 | 0=>[102,105,116,115]
 | 1=>[97,100,100]
 | 2=>[114,101,97,100,95,109,97,99,114,111]
 | 3=>[114,101,97,100,95,114,117,108,101]
 | 4=>[115,101,116,116,108,101]
 | _=>[111,102]
noncomputable def pG(c k:Nat):Bool:=match c with
 | 0=>k==0
 | 1=>k==0
 | _=>p7 1 k&&p7 k 5
def mf(O:dL)(c:Nat)(vs:Qp)(H:Hp):R PV:=
 (cV (O.init c (.loc H.length::vs) (H++[.inst c []]))).bind fun _ H'=>.ok (.loc H.length) H'
noncomputable def wo:List Int:=[47,92,42,0,1,2,3,4,5]
noncomputable def EO:PV:=.tup [.tup [.int 48,.int 57],.tup [.int 65,.int 90],.tup [.int 97,.int 122]]
section
variable (O:dL) (fu:Nat)
set_option backward.match.sparseCases true in
mutual
noncomputable def ao:PE→Sl→Hp→R PV
 | .any,_,_=>.no
 | .cst v,_,H=>.ok v H
 | .neg a,sl,H=>(ao a sl H).bind fun v H=>match v with|.int i=>.ok (.int (-i)) H|_=>.no
 | .var i,sl,H=>R.of (dD sl i) H
 | .glob k,_,H=>R.of (wo[k]?.map .int) H
 | .rL,_,H=>.ok EO H
 | .bin o m a b,sl,H=>(ao a sl H).bind fun u H₁=>(ao b sl H₁).bind fun v ag=>binop o m u v ag
 | .cmp o a b,sl,H=>(ao a sl H).bind fun u H₁=>(ao b sl H₁).bind fun v ag=>R.of ((bU o u v ag).map .bool) ag
 | .rG a db b eM c,sl,H=>(ao a sl H).bind fun u H₁=>(ao b sl H₁).bind fun v ag=>(R.of (bU db u v ag) ag).bind fun t bH=>match t with
   | true=>(ao c sl bH).bind fun x ez=>R.of ((bU eM v x ez).map .bool) ez
   | false=>.ok (.bool false) bH
 | .iF l,sl,H=>yy l sl H
 | .jW l,sl,H=>yw l sl H
 | .me a,sl,H=>(ao a sl H).bind fun v H₁=>R.of ((truth v).map fun b=>.bool (!b)) H₁
 | .ite c a b,sl,H=>(bK c sl H).bind fun t H₁=>match t with|true=>ao a sl H₁|false=>ao b sl H₁
 | .tup l,sl,H=>(bB l sl H).bind fun vs H₁=>.ok (.tup vs) H₁
 | .list m l,sl,H=>(bB l sl H).bind fun vs H₁=>fL m vs H₁
 | .dict m ks l,sl,H=>(bB l sl H).bind fun vs H₁=>if vs.length=ks.length then Cy m (ks.zip vs) H₁ else .no
 | .idx a i,sl,H=>(ao a sl H).bind fun u H₁=>(ao i sl H₁).bind fun v ag=>R.of (kM u v ag) ag
 | .slice a lo hi,sl,H=>(ao a sl H).bind fun u H₁=>(ao lo sl H₁).bind fun l ag=>(ao hi sl ag).bind fun h bH=>R.of (gU u l h bH) bH
 | .rev m a,sl,H=>(ao a sl H).bind fun u H₁=>match bV u H₁ with
   | some l=>fL m l.reverse H₁
   | .none=>.no
 | .attr a n,sl,H=>(ao a sl H).bind fun u H₁=>R.of (getattr u n H₁) H₁
 | .call m f l,sl,H=>(bB l sl H).bind fun vs H₁=>runC m (O.call f) vs H₁
 | .new m c l,sl,H=>(bB l sl H).bind fun vs H₁=>runC m (mf O c) vs H₁
 | .own m k a l,sl,H=>(ao a sl H).bind fun u H₁=>match hU u H₁ with
   | some cl=>if ((look (mn k) cl.2).isSome||!pG cl.1 k)=true then .no else (bB l sl H₁).bind fun vs ag=>runC m (O.own cl.1 k) (u::vs) ag
   | .none=>.no
 | .sup l,sl,H=>match dD sl 0 with
   | some u=>match hU u H with
    | some (1,_)=>(bB l sl H).bind fun vs H₁=>O.init 0 (u::vs) H₁
    | _=>.no
   | .none=>.no
 | .gq b a l,sl,H=>(ao a sl H).bind fun u H₁=>match jZ b u H₁ with
   | true=>(bB l sl H₁).bind fun vs ag=>dv b u vs ag
   | false=>.no
 | .bi b l,sl,H=>(bB l sl H).bind fun vs H₁=>nr b vs H₁
 | .comp m elt it bf,sl,H=>(dB it sl H).bind fun i H₁=>match i with
   | .fix l=>if l.length≤aC then (cV (fm (fun sl H=>fK bf sl H) (fun sl H=>ao elt sl H) sl l H₁)).bind fun vs ag=>fL m vs ag else .no
   | _=>.no
noncomputable def bK:PE→Sl→Hp→R Bool
 | .me a,sl,H=>(bK a sl H).bind fun b H₁=>.ok (!b) H₁
 | .iF l,sl,H=>fK l sl H
 | .jW l,sl,H=>mZ l sl H
 | .ite c a b,sl,H=>(bK c sl H).bind fun t H₁=>match t with|true=>bK a sl H₁|false=>bK b sl H₁
 | .any,_,_=>.no
 | .cst v,_,H=>R.of (truth v) H
 | .var i,sl,H=>R.of ((dD sl i).bind truth) H
 | .bin o m a b,sl,H=>((ao a sl H).bind fun u H₁=>(ao b sl H₁).bind fun v ag=>binop o m u v ag).bind fun v H=>R.of (truth v) H
 | .cmp o a b,sl,H=>(ao a sl H).bind fun u H₁=>(ao b sl H₁).bind fun v ag=>R.of (bU o u v ag) ag
 | .rG a db b eM c,sl,H=>(ao a sl H).bind fun u H₁=>(ao b sl H₁).bind fun v ag=>(R.of (bU db u v ag) ag).bind fun t bH=>match t with
   | true=>(ao c sl bH).bind fun x ez=>R.of (bU eM v x ez) ez
   | false=>.ok false bH
 | .idx a i,sl,H=>((ao a sl H).bind fun u H₁=>(ao i sl H₁).bind fun v ag=>R.of (kM u v ag) ag).bind fun v H=>R.of (truth v) H
 | .attr a n,sl,H=>((ao a sl H).bind fun u H₁=>R.of (getattr u n H₁) H₁).bind fun v H=>R.of (truth v) H
 | .call m f l,sl,H=>((bB l sl H).bind fun vs H₁=>runC m (O.call f) vs H₁).bind fun v H=>R.of (truth v) H
 | .own m k a l,sl,H=>((ao a sl H).bind fun u H₁=>match hU u H₁ with
   | some cl=>if ((look (mn k) cl.2).isSome||!pG cl.1 k)=true then .no else (bB l sl H₁).bind fun vs ag=>runC m (O.own cl.1 k) (u::vs) ag
   | .none=>.no).bind fun v H=>R.of (truth v) H
 | .gq b a l,sl,H=>((ao a sl H).bind fun u H₁=>match jZ b u H₁ with
   | true=>(bB l sl H₁).bind fun vs ag=>dv b u vs ag
   | false=>.no).bind fun v H=>R.of (truth v) H
 | .bi b l,sl,H=>((bB l sl H).bind fun vs H₁=>nr b vs H₁).bind fun v H=>R.of (truth v) H
 | _,_,_=>.no
noncomputable def bB:bg→Sl→Hp→R Qp
 | .nil,_,H=>.ok [] H
 | .cons a r,sl,H=>(ao a sl H).bind fun v H₁=>(bB r sl H₁).bind fun vs ag=>.ok (v::vs) ag
noncomputable def fK:bg→Sl→Hp→R Bool
 | .nil,_,H=>.ok true H
 | .cons a r,sl,H=>(bK a sl H).bind fun b H₁=>match b with|true=>fK r sl H₁|false=>.ok false H₁
noncomputable def mZ:bg→Sl→Hp→R Bool
 | .nil,_,H=>.ok false H
 | .cons a r,sl,H=>(bK a sl H).bind fun b H₁=>match b with|false=>mZ r sl H₁|true=>.ok true H₁
noncomputable def yy:bg→Sl→Hp→R PV
 | .nil,_,_=>.no
 | .cons a r,sl,H=>match r with
  | .nil=>ao a sl H
  | _=>(ao a sl H).bind fun v H₁=>match truth v with
   | some true=>yy r sl H₁
   | some false=>.ok v H₁
   | .none=>.no
noncomputable def yw:bg→Sl→Hp→R PV
 | .nil,_,_=>.no
 | .cons a r,sl,H=>match r with
  | .nil=>ao a sl H
  | _=>(ao a sl H).bind fun v H₁=>match truth v with
   | some false=>yw r sl H₁
   | some true=>.ok v H₁
   | .none=>.no
noncomputable def dB:IE→Sl→Hp→R It
 | .ex a,sl,H=>(ao a sl H).bind fun v H₁=>R.of (og v H₁) H₁
 | .kt a,sl,H=>(ao a sl H).bind fun v H₁=>R.of (ma v) H₁
 | .vals a,sl,H=>(ao a sl H).bind fun v H₁=>match v with
   | .fd l=>.ok (.fix (l.map (·.2))) H₁
   | _=>.no
 | .enum a,sl,H=>(ao a sl H).bind fun v H₁=>match v with
   | .fl l=>.ok (.fix (l.mapIdx fun i v=>.tup [.int i,v])) H₁
   | _=>.no
end
set_option backward.match.sparseCases true in
noncomputable def aA:PS→Sl→Hp→R (Fl×Sl)
 | .any,_,_=>.no
 | .nil,sl,H=>.ok (.next,sl) H
 | .asg i e r,sl,H=>(ao O e sl H).bind fun v H₁=>aA r (cX sl i v) H₁
 | .dr is e r,sl,H=>(ao O e sl H).bind fun v H₁=>match jK is v sl with
   | some aE=>aA r aE H₁
   | .none=>.no
 | .jA a n e r,sl,H=>(ao O e sl H).bind fun v H₁=>(ao O a sl H₁).bind fun u ag=>(jS u n v ag).bind fun _ bH=>aA r sl bH
 | .gF a i e r,sl,H=>(ao O e sl H).bind fun v H₁=>(ao O a sl H₁).bind fun u ag=>(ao O i sl ag).bind fun k bH=>(uT u k v bH).bind fun _ ez=>aA r sl ez
 | .expr e r,sl,H=>(ao O e sl H).bind fun v H₁=>match v with
   | .none=>aA r sl H₁
   | _=>.no
 | .ret e,sl,H=>(ao O e sl H).bind fun v H₁=>.ok (.ret v,sl) H₁
 | .ifs c t f r,sl,H=>(bK O c sl H).bind fun b H₁=>(match b with|true=>aA t sl H₁|false=>aA f sl H₁).bind fun x ag=>match x.1 with
   | .next=>aA r x.2 ag
   | _=>.ok x ag
 | .mR c b r,sl,H=>(cV (lD (fun sl H=>bK O c sl H) (fun sl H=>aA b sl H) fu sl H)).bind fun x ag=>match x.1 with
   | .next=>aA r x.2 ag
   | _=>.ok x ag
 | .fP i it b r,sl,H=>(dB O it sl H).bind fun t H₁=>(cQ (fun sl H=>aA b sl H) (fun v sl=>some (cX sl i v)) t fu 0 sl H₁).bind fun x ag=>match x.1 with
   | .next=>aA r x.2 ag
   | _=>.ok x ag
 | .mA is it b r,sl,H=>(dB O it sl H).bind fun t H₁=>(cV (cQ (fun sl H=>aA b sl H) (jK is) t fu 0 sl H₁)).bind fun x ag=>match x.1 with
   | .next=>aA r x.2 ag
   | _=>.ok x ag
 | .raise e,sl,H=>(ao O e sl H).bind fun _ H₁=>.bad H₁
 | .nR e i v r,sl,H=>match ao O e sl H with
   | .no=>.no
   | .ok .none H₁=>aA r sl H₁
   | .ok _ _=>.no
   | .bad H₁=>aA r (cX sl i (.bool v)) H₁
 | .cont,sl,H=>.ok (.cont,sl) H
end
end
section
open PySem
structure EX where
 nm:Str
 q:Str
 N:Addr
 bs:Qa
 sn:Qs
 sub:Qa
 ab:Bool
 col:Option Bool
 dd:Option Addr
 k0:Qo
 k1:Qo
 k2:Qo
 k3:Qo
 k5:Qo
noncomputable abbrev EX.ob(e:EX)(C:Addr)(bm:Qa):Obj:=excClassObj e.nm e.q C e.N e.bs bm true e.sn e.sub e.ab e.col e.dd e.k0 e.k1 e.k2 e.k3 e.k5 "Exception.__new__"
structure Sg where
 t:List (Addr×Addr)
 fr:List Addr
noncomputable def dQ(t:List (Addr×Addr)):List Addr:=t.flatMap fun p=>[p.1,p.2]
abbrev own(σ:Sg):List Addr:=dQ σ.t
def Cz{t:List (Addr×Addr)}{b:Addr}:b∈dQ t↔∃ p∈t,b=p.1∨b=p.2:=by simp [dQ,NB]
def dC{t:List (Addr×Addr)}{i:Nat}{p:Addr×Addr}(h:t[i]?=some p):p.1∈dQ t∧p.2∈dQ t:=
 have hm:=jP h
 ⟨Cz.mpr ⟨p,hm,.inl rfl⟩,Cz.mpr ⟨p,hm,.inr rfl⟩⟩
def vb(σ τ:List (Addr×Addr)):dQ (σ++τ)=dQ σ++dQ τ:=by simp [dQ]
noncomputable def c_(σ:Sg)(a:Addr):Prop:=a∈own σ∨a∈σ.fr
noncomputable def sv(k:Qn):Str:=⟨k.toArray⟩
def sF{a b:Qn}(h:sv a=sv b):a=b:=by have:a.toArray=b.toArray:=congrArg Str.cps h;simpa using this
section
variable (prog:xe) (w:gO) (Cl:Nat→Addr)
inductive ah(σ:Sg)(h:Heap):PV→Value→Prop
 | none:ah σ h .none .none
 | bool (b):ah σ h (.bool b) (.bool b)
 | int (i t):ah σ h (.int i) (.int i t)
 | str (l t):ah σ h (.str l) (.str (sv l) t)
 | bytes (l t):ah σ h (.bytes l) (.bytes l.toArray t)
 | tup {l a us n} (e:h.get? a=some {cls:=.type "tuple",data:=.seq us n}) (no:¬ c_ σ a) (sz:l.length=us.size)
   (all:∀ (i:Nat) v u,l[i]?=some v→us[i]?=some u→ah σ h v u):ah σ h (.tup l) (.ref a)
 | fl {l a us n} (e:h.get? a=some {cls:=.type "list",data:=.seq us n}) (no:¬ c_ σ a) (sz:l.length=us.size)
   (all:∀ (i:Nat) v u,l[i]?=some v→us[i]?=some u→ah σ h v u):ah σ h (.fl l) (.ref a)
 | fd {l a kvs} (e:h.DictOf (strKind prog w) a kvs) (sm:a≠lU) (no:¬ c_ σ a) (ks:kvs.map (·.1)=l.map fun p=>sv p.1)
   (all:∀ (i:Nat) k v k' u,l[i]?=some (k,v)→kvs[i]?=some (k',u)→ah σ h v u):ah σ h (.fd l) (.ref a)
 | fi {c l a d o m} (e:h.get? a=some o) (cls:o.cls=.ref (Cl c)) (jJ:o.dict=some d) (dat:o.data=.plain) (ne:d≠a) (ns:h.Ns1 d m) (ex:h.ExactDictFk d)
   (no:¬ c_ σ a) (jd:¬ c_ σ d) (ks:∀ k,(look k l).isSome=(m (sv k)).isSome)
   (all:∀ k v u,look k l=some v→m (sv k)=some u→ah σ h v u):ah σ h (.fi c l) (.ref a)
 | loc {n p} (e:σ.t[n]?=some p):ah σ h (.loc n) (.ref p.1)
structure aK(σ:Sg)(h:Heap)(l:Qp)(us:Qa):Prop where
 sz:l.length=us.length
 all:∀ (i:Nat) v u,l[i]?=some v→us[i]?=some u→ah prog w Cl σ h v u
structure fE(σ:Sg)(h:Heap)(l:Qm)(kvs:List (Str×Value)):Prop where
 ks:kvs.map (·.1)=l.map fun p=>sv p.1
 all:∀ (i:Nat) k v k' u,l[i]?=some (k,v)→kvs[i]?=some (k',u)→ah prog w Cl σ h v u
structure mI(σ:Sg)(h:Heap)(l:Qm)(m:Str→Qo):Prop where
 ks:∀ k,(look k l).isSome=(m (sv k)).isSome
 all:∀ k v u,look k l=some v→m (sv k)=some u→ah prog w Cl σ h v u
noncomputable def hZ(σ:Sg)(h:Heap):PO→Addr×Addr→Prop
 | .list l,p=>p.2=p.1∧∃ us n,h.get? p.1=some {cls:=.type "list",data:=.seq us n}∧aK prog w Cl σ h l us.toList
 | .dict l,p=>p.2=p.1∧∃ kvs,h.DictOf (strKind prog w) p.1 kvs∧fE prog w Cl σ h l kvs
 | .inst c l,p=>p.2≠p.1∧∃ o m,h.get? p.1=some o∧o.cls=.ref (Cl c)∧o.dict=some p.2∧o.data=.plain∧h.Ns1 p.2 m∧h.ExactDictFk p.2∧mI prog w Cl σ h l m∧
   ∃ ns,Within m ns∧ns.length≤l.length
 | .dW l,p=>p.2=p.1∧h.get? p.1=some {cls:=.type "bytearray",data:=.bytearray l.toArray 0}
structure Inv(h₀:Heap)(H:Hp)(σ:Sg)(h:Heap):Prop where
 len:σ.t.length=H.length
 obj:∀ (i:Nat) o p,H[i]?=some o→σ.t[i]?=some p→hZ prog w Cl σ h o p
 apart:∀ (i j:Nat) p q,σ.t[i]?=some p→σ.t[j]?=some q→i≠j→p.1≠q.1∧p.1≠q.2∧p.2≠q.1∧p.2≠q.2
 low:∀ b∈own σ,h₀.get? b=.none∧(∃ o,h.get? b=some o)∧b∉σ.fr
 cS:∀ b∈σ.fr,h₀.get? b=.none∧∃ o,h.get? b=some o
end
noncomputable def jo(o o':Obj):Prop:=o'=o∨(o.cls=.type "frame"∧∃ sl,o'={o with slots:=sl})
def jo.refl(o:Obj):jo o o:=.inl rfl
def jo.trans{a b c:Obj}(x:jo a b)(y:jo b c):jo a c:=by
 rcases x with rfl|⟨x,sl,rfl⟩
 ·exact y
 ·rcases y with rfl|⟨_,aE,rfl⟩
  ·exact .inr ⟨x,sl,rfl⟩
  ·exact .inr ⟨x,aE,rfl⟩
def jo.exact{a b:Obj}(x:jo a b)(h:a.cls≠.type "frame"):b=a:=x.resolve_right fun y=>h y.1
theorem jo.data{a b:Obj}(x:jo a b):b.data=a.data:=by rcases x with rfl|⟨_,sl,rfl⟩<;>rfl
theorem jo.cls{a b:Obj}(x:jo a b):b.cls=a.cls:=by rcases x with rfl|⟨_,sl,rfl⟩<;>rfl
structure aJ(X:Addr→Prop)(h:Heap)(σ:Sg)(h':Heap)(σ':Sg):Prop where
 kp:∀ b o,b∉own σ→¬ X b→h.get? b=some o→∃ o',h'.get? b=some o'∧jo o o'
 pre:∃ τ,σ'.t=σ.t++τ
 fr:σ'.fr=σ.fr
 new:∀ b∈own σ',b∈own σ∨h.get? b=.none
 al:∀ b o,h.get? b=some o→∃ o',h'.get? b=some o'
noncomputable abbrev cq:Addr→Prop:=fun _=>False
theorem aJ.refl{X}(h:Heap)(σ:Sg):aJ X h σ h σ:=⟨fun _ o _ _ e=>⟨o,e,.refl o⟩,⟨[],by simp⟩,rfl,fun b hb=>.inl hb,fun _ o e=>⟨o,e⟩⟩
def Iu{X h σ h' σ'}(p:aJ X h σ h' σ'){b:Addr}{o:Obj}(e:h.get? b=some o)(hb:b∉own σ):b∉own σ':=fun hm=>by
 rcases p.new b hm with h1|h1
 ·exact hb h1
 ·injection (e).symm.trans h1
def ph{X h σ h' σ'}(p:aJ X h σ h' σ'){b:Addr}{o:Obj}(e:h.get? b=some o)(hb:¬ c_ σ b):¬ c_ σ' b:=fun hm=>by
 rcases hm with hm|hm
 ·exact Iu p e (fun q=>hb (.inl q)) hm
 ·exact hb (.inr (p.fr ▸ hm))
theorem aJ.trans{X h σ h₁ ax b6 bt}(p:aJ X h σ h₁ ax)(q:aJ X h₁ ax b6 bt):aJ X h σ b6 bt where
 kp b o hb hx e:=by refine J (p.kp b o hb hx e) fun db cJ k₁=>?_;refine J (q.kp b db (Iu p e hb) hx cJ) fun eM g_ k₂=>?_;exact ⟨eM,g_,k₁.trans k₂⟩
 pre:=by refine ay p.pre fun τ e=>?_;refine ay q.pre fun Oe e'=>?_;exact ⟨τ++Oe,by rw [e',e,dz]⟩
 fr:=q.fr.trans p.fr
 new b hb:=by
  rcases q.new b hb with h1|h1
  ·exact p.new b h1
  ·refine .inr ?_;generalize e:(h.get? b)=zz;induction zz using az with
   | none=>rfl
   | some o=>refine ay (p.al b o e) fun o' e'=>?_;injection (e').symm.trans h1
 al b o e:=by refine ay (p.al b o e) fun o' e'=>?_;exact q.al b o' e'
def aJ.weaken{X Y:Addr→Prop}{h σ h' σ'}(p:aJ X h σ h' σ')(Vt:∀ b,X b→Y b):aJ Y h σ h' σ':=
 ⟨fun b o hb hy e=>p.kp b o hb (fun hx=>hy (Vt b hx)) e,p.pre,p.fr,p.new,p.al⟩
def aJ.grow{X}{h h':Heap}{σ:Sg}(hk:∀ b o,h.get? b=some o→h'.get? b=some o):aJ X h σ h' σ:=
 ⟨fun b o _ _ e=>⟨o,hk b o e,.refl o⟩,⟨[],by simp⟩,rfl,fun b hb=>.inl hb,fun b o e=>⟨o,hk b o e⟩⟩
section
variable {prog:xe} {w:gO} {Cl:Nat→Addr}
def pN{K:Type}[DecidableEq K]{knd:KeyKind prog w K}{h h':Heap}{a:Addr}{kvs}(x:h.DictOf knd a kvs)(k:∀ o,h.get? a=some o→h'.get? a=some o):h'.DictOf knd a kvs:=
 let ⟨o,es,ep,e,r⟩:=x;⟨o,es,ep,k o e,r⟩
def ah.mono{X h σ h' σ'}(p:aJ X h σ h' σ')(hX:∀ b,X b→b∈σ.fr){v:PV}{u:Value}(r:ah prog w Cl σ h v u):ah prog w Cl σ' h' v u:=by
 have kk:∀ b o,¬ c_ σ b→o.cls≠.type "frame"→h.get? b=some o→h'.get? b=some o:=fun b o hb hc e=>by
  refine J (p.kp b o (fun q=>hb (.inl q)) (fun q=>hb (.inr (hX b q))) e) fun o' e' k=>?_;refine (e').trans ?_;rw [k.exact hc]
 induction r with
 | none=>exact .none
 | bool b=>exact .bool b
 | int i t=>exact .int i t
 | str l t=>exact .str l t
 | bytes l t=>exact .bytes l t
 | tup e no sz _ ih=>exact .tup (kk _ _ no (by simp) e) (ph p e no) sz ih
 | fl e no sz _ ih=>exact .fl (kk _ _ no (by simp) e) (ph p e no) sz ih
 | fd e sm no ks _ ih=>refine ik (id e) fun o es ep e' rest=>?_;exact .fd (pN e fun db cJ=>kk _ _ no (by obtain rfl:=Option.some.inj (e'.symm.trans cJ);rw [rest.1.1];simp) cJ) sm (ph p e' no) ks ih
 | fi e cls jJ dat ne ns ex no jd ks _ ih=>refine ci (id ex) fun od ed hc _=>?_;have kd:=fun o e'=>kk _ o jd (by obtain rfl:=Option.some.inj (ed.symm.trans e');rw [hc];simp) e';exact .fi (kk _ _ no (by rw [cls];simp) e) cls jJ dat ne (ns.at kd) (ex.at kd) (ph p e no) (ph p ed jd) ks ih
 | loc e=>refine ay p.pre fun τ e'=>?_;exact .loc (by rw [e',eX (cF.mp e).1];exact e)
def ah.over{h:Heap}{σ σ':Sg}(ht:∀ (n:Nat) p,σ.t[n]?=some p→σ'.t[n]?=some p)(hb:∀ b o,h.get? b=some o→¬ c_ σ b→¬ c_ σ' b){v:PV}{u:Value}(r:ah prog w Cl σ h v u):ah prog w Cl σ' h v u:=by
 induction r with
 | none=>exact .none
 | bool b=>exact .bool b
 | int i t=>exact .int i t
 | str l t=>exact .str l t
 | bytes l t=>exact .bytes l t
 | tup e no sz _ ih=>exact .tup e (hb _ _ e no) sz ih
 | fl e no sz _ ih=>exact .fl e (hb _ _ e no) sz ih
 | fd e sm no ks _ ih=>refine ik (id e) fun o es ep e' rest=>?_;exact .fd e sm (hb _ _ e' no) ks ih
 | fi e cls jJ dat ne ns ex no jd ks _ ih=>refine ci (id ex) fun od ed hc _=>?_;exact .fi e cls jJ dat ne ns ex (hb _ _ e no) (hb _ _ ed jd) ks ih
 | loc e=>exact .loc (ht _ _ e)
def ah.b_{h σ h' σ'}(p:aJ cq h σ h' σ'){v:PV}{u:Value}(r:ah prog w Cl σ h v u):ah prog w Cl σ' h' v u:=
 r.mono p fun _ hx=>hx.elim
theorem aK.b_{h σ h' σ' l us}(p:aJ cq h σ h' σ')(r:aK prog w Cl σ h l us):aK prog w Cl σ' h' l us:=⟨r.sz,fun i v u a b=>(r.all i v u a b).b_ p⟩
theorem fE.b_{h σ h' σ' l us}(p:aJ cq h σ h' σ')(r:fE prog w Cl σ h l us):fE prog w Cl σ' h' l us:=⟨r.ks,fun i k v k' u a b=>(r.all i k v k' u a b).b_ p⟩
theorem aK.mono{X h σ h' σ' l us}(p:aJ X h σ h' σ')(hX:∀ b,X b→b∈σ.fr)(r:aK prog w Cl σ h l us):aK prog w Cl σ' h' l us:=⟨r.sz,fun i v u a b=>(r.all i v u a b).mono p hX⟩
theorem fE.mono{X h σ h' σ' l us}(p:aJ X h σ h' σ')(hX:∀ b,X b→b∈σ.fr)(r:fE prog w Cl σ h l us):fE prog w Cl σ' h' l us:=⟨r.ks,fun i k v k' u a b=>(r.all i k v k' u a b).mono p hX⟩
theorem mI.mono{X h σ h' σ' l us}(p:aJ X h σ h' σ')(hX:∀ b,X b→b∈σ.fr)(r:mI prog w Cl σ h l us):mI prog w Cl σ' h' l us:=⟨r.ks,fun k v u a b=>(r.all k v u a b).mono p hX⟩
theorem hZ.mono{X h σ h' σ'}(p:aJ X h σ h' σ')(hX:∀ b,X b→b∈σ.fr){o:PO}{q:Addr×Addr}(k1:∀ ob,h.get? q.1=some ob→h'.get? q.1=some ob)(k2:∀ ob,h.get? q.2=some ob→h'.get? q.2=some ob)(r:hZ prog w Cl σ h o q):hZ prog w Cl σ' h' o q:=by
 induction o with
 | list l=>(refine ad r fun e z2=>?_;clear r;(refine ch z2 fun us n h1 h2=>?_;clear z2));exact ⟨e,us,n,k1 _ h1,h2.mono p hX⟩
 | dict l=>(refine ad r fun e z2=>?_;clear r;(refine J z2 fun kvs h1 h2=>?_;clear z2));exact ⟨e,kvs,pN h1 k1,h2.mono p hX⟩
 | inst c l=>(refine ad r fun e z2=>?_;clear r;(refine qi z2 fun ob m h1 h2 h3 h4 h5 h6 h7 h8=>?_;clear z2));exact ⟨e,ob,m,k1 _ h1,h2,h3,h4,h5.at k2,h6.at k2,h7.mono p hX,h8⟩
 | dW l=>(refine ad r fun e h1=>?_;clear r);exact ⟨e,k1 _ h1⟩
def aK.nil{σ h}:aK prog w Cl σ h [] []:=⟨rfl,fun i v u a=>by injection a⟩
def aK.cons{σ h v u l us}(r:ah prog w Cl σ h v u)(rs:aK prog w Cl σ h l us):aK prog w Cl σ h (v::l) (u::us):=
 ⟨by simp [rs.sz],fun i v' u' a b=>by
  induction i using dN with
  | zero=>simp at a b;subst a b;exact r
  | succ i=>simp at a b;exact rs.all i v' u' a b⟩
def aK.append{σ h l us l' dX}(r:aK prog w Cl σ h l us)(r':aK prog w Cl σ h l' dX):aK prog w Cl σ h (l++l') (us++dX):=
 ⟨by simp [r.sz,r'.sz],fun i v u a b=>by
  by_cases hi:i < l.length
  ·rw [eX hi] at a;rw [eX (r.sz ▸ hi)] at b;exact r.all i v u a b
  ·rw [gD (ui hi)] at a;rw [gD (by rw [←r.sz];exact ui hi),←r.sz] at b;exact r'.all _ v u a b⟩
def aK.get{σ h l us}(r:aK prog w Cl σ h l us){i:Nat}{v:PV}(e:l[i]?=some v):∃ u,us[i]?=some u∧ah prog w Cl σ h v u:=by have hi:=(cF.mp e).1;have:i < us.length:=r.sz ▸ hi;exact ⟨us[i],by simp [this],r.all i v _ e (by simp [this])⟩
def aK.KG{σ h l us}(r:aK prog w Cl σ h l us){i:Nat}{u:Value}(e:us[i]?=some u):∃ v,l[i]?=some v∧ah prog w Cl σ h v u:=by have hi:=(cF.mp e).1;have:i < l.length:=r.sz ▸ hi;exact ⟨l[i],by simp [this],r.all i _ u (by simp [this]) e⟩
def aK.cons_inv{σ h v l us}(r:aK prog w Cl σ h (v::l) us):∃ u dX,us=u::dX∧ah prog w Cl σ h v u∧aK prog w Cl σ h l dX:=by
 induction us using bj with
 | nil=>have:=r.sz;injection this
 | cons u dX=>exact ⟨u,dX,rfl,r.all 0 v u rfl rfl,⟨by have:=r.sz;simpa using this,fun i v' u' a b=>r.all (i + 1) v' u' a b⟩⟩
def aK.nil_inv{σ h us}(r:aK prog w Cl σ h [] us):us=[]:=by have:=r.sz;simp at this;exact uz this.symm
def nW{σ h}{l:Qp}{us:Qv}(sz:l.length=us.size)(all:∀ (i:Nat) v u,l[i]?=some v→us[i]?=some u→ah prog w Cl σ h v u):aK prog w Cl σ h l us.toList:=
 ⟨sz,fun i v u a b=>all i v u a (by simpa using b)⟩
end
end
noncomputable abbrev PE.k:=PE.cst
noncomputable abbrev PE.v:=PE.var
noncomputable abbrev PE.i(n:Int):PE:=.cst (.int n)
noncomputable abbrev PE.y(l:Qy):PE:=.cst (.bytes l)
noncomputable abbrev PE.s(l:Qn):PE:=.cst (.str l)
noncomputable abbrev PE.b(b:Bool):PE:=.cst (.bool b)
noncomputable abbrev PE.w:PE:=.cst .none
noncomputable abbrev bg.j(a:PE):bg:=.cons a .nil
noncomputable abbrev bg.c:=bg.cons
noncomputable abbrev PE.p:=PE.cmp
noncomputable abbrev PE.q:=PE.bin
noncomputable abbrev PE.l:=PE.call
noncomputable abbrev PE.x:=PE.idx
noncomputable abbrev PE.m:=PE.gq
noncomputable abbrev PE.d:=PE.iF
noncomputable abbrev PE.o:=PE.jW
noncomputable abbrev PE.a:=PE.attr
noncomputable abbrev PE.n:=PE.me
noncomputable abbrev PE.z:=PE.slice
noncomputable abbrev PE.h:=PE.glob
noncomputable abbrev PS.f:=PS.ifs
noncomputable abbrev PS.g:=PS.asg
noncomputable abbrev PS.r:=PS.ret
noncomputable abbrev PS.e:=PS.expr
variable {H ag H₁ H' bH bF ez:Hp} {s aa aP s':Ng} {n fu j m i t c np N nf k':Nat} {A A':PySem.Around} {w:PySem.World} {prog:PySem.Program} {σ ax σ' σ₀ bt:Sg} {v v':PV} {O:dL} {h h' h₁ fO:adE} {pos p q apos px ep:PySem.Pos} {α β:Type} {E Q:ua→Ng→Prop} {u u':ua} {sl aE jU mX:Sl} {L a C G I:adI} {l vs xs l':Qp} {x y f z oc row:Qy} {M:PySem.Model} {env:adG} {us first:List ua} {es ifs elts:List Nl} {r:PS} {b tup mm:Bool} {o:PySem.Obj} {value ea eb elt ec slice target:Nl} {rest body:List adD} {e pe hi:PE} {ps bf:bg} {scope:PySem.Scope} {fd:PySem.FuncData} {name:ub} {nm:List ub} {ce:PV→Sl→Option Sl} {mC mG:ub→Option ua} {s5 s6 s7 s4 s3 s0 s1 s2:Qq} {is:Qn} {it ie:IE} {ds fr wr:List adI} {ks:List Qn} {cm mode:CM} {args:PySem.Args} {test:Sl→Hp→R Bool} {T:String} {Rs:PySem.Result→Ng→Prop} {t':PySem.Tok} {outer:List adG} {Γ:PySem.Ctx} {bm:BM} {Rel:Sg→adE→α→β→Prop}
section
open PySem
structure Base(prog:xe)(w:gO) where
 h₀:Heap
 yB:uc
 Cl:Nat→Addr
 bad:Addr
 mg:Str→Qo
 mb:Str→Qo
 hg:h₀.Ns h_ mg
 hb:h₀.Ns builtinsNs mb
 bY:h₀.NoLimit
 pz:∃ o,h₀.get? lU=some o
 K:adt
 hK:K.In h₀
structure b0(n:Nat)(A:Around):Prop where
 hd:A.handled=none
 dp:A.depth + 8 * n≤900
 un:A.units + 40 * n≤5000
 gd:A.guards=some []
 fr:∃ l,A.frames=some l
def b0.le(h:b0 n A)(hm:m≤n):b0 m A:=⟨h.hd,by have:=h.dp;lia,by have:=h.un;lia,h.gd,h.fr⟩
structure br where
 env:Env
 nm:List (Option Str)
 cells:List (Str×Addr)
section
structure af(B:Base prog w)(A:Around)(H:Hp)(σ:Sg)(s:Shared):Prop where
 keep:∀ b o,B.h₀.get? b=some o→s.heap.get? b=some o
 inv:Inv prog w B.Cl B.h₀ H σ s.heap
 gens:s.gens=#[]
 os:s.os=B.yB
 dV:∀ env∈A.frames.getD [],env.scope.kind=.function∧∃ L o,env.frame=some L∧L∈σ.fr∧s.heap.get? L=some o∧o.cls=.type "frame"∧∀ vs,o.data≠.fields vs
structure bh(B:Base prog w)(F:br)(sl:Sl)(σ:Sg)(h:Heap):Prop where
 lF:∃ m,h.Ns F.env.locals m∧∀ (i:Nat) id v,F.nm[i]?=some (some id)→F.env.kindOf id=some .local→sl[i]?=some (some v)→∃ u,m id=some u∧ah prog w B.Cl σ h v u
 mE:∀ (i:Nat) id v,F.nm[i]?=some (some id)→F.env.kindOf id≠some .local→sl[i]?=some (some v)→∃ a u,F.env.cells.lookup id=some a∧(id,a)∈F.cells∧h.IsCell a (some u)∧ah prog w B.Cl σ h v u
 hO:∀ id a,(id,a)∈F.cells→(∃ cv,h.IsCell a cv)∧a∈σ.fr
 jF:F.env.locals∈σ.fr
structure br.Ok(F:br):Prop where
 fk:F.env.scope.kind=.function
 kinds:∀ (i:Nat) id,F.nm[i]?=some (some id)→F.env.kindOf id=some .local∨F.env.kindOf id=some .cell∨F.env.kindOf id=some .free
 wq:F.env.globals=h_
 blt:F.env.builtins=builtinsNs
 apart:F.cells.Pairwise fun x y=>x.2≠y.2
 vy:∀ x∈F.cells,x.2≠F.env.locals
 one:∀ (i j:Nat) id,F.nm[i]?=some (some id)→F.nm[j]?=some (some id)→i=j
 wJ:∀ (i:Nat) id,F.nm[i]?=some (some id)→F.env.kindOf id=some .cell→∃ a,F.env.cells.lookup id=some a∧(id,a)∈F.cells
 odd:∀ (i:Nat) id,F.nm[i]?=some (some id)→(id==("__debug__":Str))=false∧(id==("__classdict__":Str))=false
noncomputable def bG(F:br)(b:Addr):Prop:=b=F.env.locals∨∃ id,(id,b)∈F.cells
theorem bh.bG{B:Base prog w}{F:br}{sl:Sl}{σ:Sg}{h:Heap}(x:bh B F sl σ h):∀ b,bG F b→b∈σ.fr:=by
 rintro b (rfl|⟨id,hm⟩)
 ·exact x.jF
 ·exact (x.hO id b hm).2
noncomputable def gN(B:Base prog w)(g:Heap)(h:Heap)(e:Value)(P:Qo→Prop):Prop:=
 ∃ x oe vs st,e=.ref x∧g.get? x=.none∧h.get? x=some oe∧oe.cls=.ref B.bad∧oe.data=.fields vs∧P st∧
  match st with
  | none=>vs[1]?=some .none
  | some fl=>∃ T oT ts,vs[1]?=some (.ref T)∧g.get? T=.none∧T≠x∧h.get? T=some oT∧oT.data=.fields ts∧ts[3]?=some fl
noncomputable def ww(st:Qo):Prop:=st=some .none
noncomputable def za(L:Addr)(st:Qo):Prop:=st=none∨st=some .none∨st=some (rawInt L)
def gN.le{B:Base prog w}{n m:Heap}{e:Value}{P Q:Qo→Prop}(x:gN B n h e P)(hm:∀ b o,m.get? b=some o→∃ o',n.get? b=some o')(hP:∀ st,P st→Q st):gN B m h e Q:=by
 have hm:∀ b,n.get? b=.none→m.get? b=.none:=fun b hb=>by
  generalize e:(m.get? b)=zz;induction zz using az with
  | none=>rfl
  | some o=>refine ay (hm b o e) fun o' e'=>?_;injection (e').symm.trans hb
 refine xK x ?_;clear x;intro x oe vs st h1 h2 h3 h4 h5 h6 h7;refine ⟨x,oe,vs,st,h1,hm _ h2,h3,h4,h5,hP _ h6,?_⟩;induction st using az with
 | none=>exact h7
 | some fl=>(refine dS h7 fun T oT ts k1 k2 k3=>?_;clear h7);exact ⟨T,oT,ts,k1,hm _ k2,k3⟩
noncomputable def fR{α β:Type}(B:Base prog w)(A:Around)(s:Shared)(σ:Sg)(r:R α)(Rel:Sg→Heap→α→β→Prop)(Q:β→Shared→Prop):Prop:=
 ∀ u s' v H' σ',r=.ok v H'→af B A H' σ' s'→Rel σ' s'.heap v u→aJ cq s.heap σ s'.heap σ'→Q u s'
noncomputable def ny{α:Type}(B:Base prog w)(A:Around)(s:Shared)(σ:Sg)(r:R α)(E:Value→Shared→Prop):Prop:=
 ∀ e s' H' σ',r=.bad H'→af B A H' σ' s'→gN B s.heap s'.heap e ww→aJ cq s.heap σ s'.heap σ'→E e s'
noncomputable def bp{α β:Type}(B:Base prog w)(A:Around)(s:Shared)(σ:Sg)(r:R α)(t:Sem β)(Rel:Sg→Heap→α→β→Prop):Prop:=
 r≠.no→∀ Q E,fR B A s σ r Rel Q→ny B A s σ r E→wpAny (model prog w) A t Q E s
def fR.next{B:Base prog w}{r:R α}{Q:β→Shared→Prop}(hq:fR B A s σ r Rel Q)(p:aJ cq s.heap σ aa.heap ax):fR B A aa ax r Rel Q:=
 fun u s' v H' σ' e st rel p'=>hq u s' v H' σ' e st rel (p.trans p')
def ny.next{B:Base prog w}{r:R α}(he:ny B A s σ r E)(p:aJ cq s.heap σ aa.heap ax):ny B A aa ax r E:=
 fun e s' H' σ' e' st x p'=>he e s' H' σ' e' st (x.le p.al fun _ h=>h) (p.trans p')
noncomputable abbrev VR(B:Base prog w):Sg→Heap→PV→Value→Prop:=fun σ h v u=>ah prog w B.Cl σ h v u
variable {B:Base prog w}
theorem bp.pure{α β:Type}{H:Hp}{v:α}{u:β}{Rel:Sg→Heap→α→β→Prop}(st:af B A H σ s)(r:Rel σ s.heap v u):bp B A s σ (.ok v H) (pure u) Rel:=
 fun _ _ _ hq _=>wpAny_pure (hq _ _ _ _ _ rfl st r (.refl _ _))
theorem bp.no{α β:Type}{t:Sem β}{Rel:Sg→Heap→α→β→Prop}:bp B A s σ .no t Rel:=fun h=>absurd rfl h
def bp.ite{c:Prop}[Decidable c]{r:R α}{t:Sem β}(h:c→bp B A s σ r t Rel):bp B A s σ (if c then r else .no) t Rel:=by
 by_cases q:c
 ·rw [if_pos q];exact h q
 ·rw [if_neg q];exact .no
def bp.tx{c:Prop}[Decidable c]{r:R α}{t:Sem β}(h:¬ c→bp B A s σ r t Rel):bp B A s σ (if c then .no else r) t Rel:=by
 by_cases q:c
 ·rw [if_pos q];exact .no
 ·rw [if_neg q];exact h q
def af.tok(st:af B A H σ s)(k:Nat):af B A H σ {s with toks:=k}:=⟨st.keep,st.inv,st.gens,st.os,st.dV⟩
theorem Inv.grow{h₀:Heap}{H:Hp}{h h':Heap}{Cl:Nat→Addr}(x:Inv prog w Cl h₀ H σ h)(hk:∀ b o,h.get? b=some o→h'.get? b=some o):Inv prog w Cl h₀ H σ h':=
 ⟨x.len,fun i o p a b=>(x.obj i o p a b).mono (aJ.grow (X:=cq) hk) (fun _ h=>h.elim) (fun ob e=>hk _ ob e) (fun ob e=>hk _ ob e),x.apart,
  fun b hb=>⟨(x.low b hb).1,(x.low b hb).2.1.imp fun _ e=>hk _ _ e,(x.low b hb).2.2⟩,fun b hb=>⟨(x.cS b hb).1,(x.cS b hb).2.imp fun _ e=>hk _ _ e⟩⟩
theorem af.grow{H:Hp}(st:af B A H σ s){h':Heap}{k:Nat}(hk:∀ b o,s.heap.get? b=some o→h'.get? b=some o):
  af B A H σ {s with heap:=h',toks:=k} where
 keep b o e:=hk b o (st.keep b o e)
 inv:=st.inv.grow hk
 gens:=st.gens
 os:=st.os
 dV env he:=by (refine ad (st.dV env he) fun a z2=>?_;(refine cO z2 fun L o b c d e=>?_;clear z2));exact ⟨a,L,o,b,c,hk _ _ d,e⟩
def af.push(st:af B A H σ s){o:PO}{q:Addr×Addr}(k:Nat)(hk:∀ b o,s.heap.get? b=some o→h'.get? b=some o)(f1:s.heap.get? q.1=.none)(f2:s.heap.get? q.2=.none)(a1:∃ o,h'.get? q.1=some o)(a2:∃ o,h'.get? q.2=some o)(r:hZ prog w B.Cl ⟨σ.t++[q],σ.fr⟩ h' o q):
  af B A (H++[o]) ⟨σ.t++[q],σ.fr⟩ {s with heap:=h',toks:=k}∧aJ cq s.heap σ h' ⟨σ.t++[q],σ.fr⟩:=by
 have mo:∀ b,b∈own ⟨σ.t++[q],σ.fr⟩→b∈own σ∨b=q.1∨b=q.2:=fun b hb=>by
  rw [show own ⟨σ.t++[q],σ.fr⟩=dQ (σ.t++[q]) from rfl,vb,cy] at hb;rcases hb with hb|hb
  ·exact .inl hb
  ·simp [dQ] at hb;exact .inr hb
 have P:aJ cq s.heap σ h' ⟨σ.t++[q],σ.fr⟩:=
  ⟨fun b o _ _ e=>⟨o,hk b o e,.refl o⟩,⟨_,rfl⟩,rfl,fun b hb=>by
   rcases mo b hb with hb|rfl|rfl
   ·exact .inl hb
   ·exact .inr f1
   ·exact .inr f2,fun b o e=>⟨o,hk b o e⟩⟩
 have old:∀ b o,s.heap.get? b=some o→b≠q.1∧b≠q.2:=fun b o e=>⟨fun x=>by (rw [x,f1] at e;injection e),fun x=>by (rw [x,f2] at e;injection e)⟩;have IA:∀ b,s.heap.get? b=.none→B.h₀.get? b=.none:=fun b hb=>by
  generalize e:(B.h₀.get? b)=zz;induction zz using az with
  | none=>rfl
  | some o=>injection (st.keep b o e).symm.trans hb
 refine ⟨⟨fun b o e=>hk b o (st.keep b o e),⟨by simp [st.inv.len],fun i o' p a b=>?_,fun i j p p' a b j4=>?_,fun b hb=>?_,fun b hb=>?_⟩,
  st.gens,st.os,fun env he=>by (refine ad (st.dV env he) fun a z2=>?_;(refine cO z2 fun L o b c d e=>?_;clear z2));exact ⟨a,L,o,b,c,hk _ _ d,e⟩⟩,P⟩
 ·by_cases hi:i < H.length
  ·rw [eX hi] at a;rw [eX (by rw [st.inv.len];exact hi)] at b;exact (st.inv.obj i o' p a b).mono P (fun _ h=>h.elim) (fun _ e=>hk _ _ e) (fun _ e=>hk _ _ e)
  ·have gK:i=H.length:=by
    have:=(cF.mp a).1;simp at this;exact Ny this hi
   subst gK;rw [gD (aS _)] at a;rw [←st.inv.len,gD (aS _)] at b;simp at a b;subst a b;exact r
 ·have low:∀ (i:Nat) p,σ.t[i]?=some p→(p.1≠q.1∧p.1≠q.2)∧(p.2≠q.1∧p.2≠q.2):=fun i p e=>
   ⟨let ⟨_,e'⟩:=(st.inv.low _ (dC e).1).2.1;old _ _ e',let ⟨_,e'⟩:=(st.inv.low _ (dC e).2).2.1;old _ _ e'⟩
  have last:∀ (i:Nat) p,σ.t.length≤i→(σ.t++[q])[i]?=some p→p=q∧i=σ.t.length:=fun i p hi e=>by
   have h1:=(cF.mp e).1;rw [gD hi] at e;have hb:=jP e;simp at hb h1;exact ⟨hb,by exact Fm (Fk h1) hi⟩
  rcases xp i σ.t.length with hi|hi<;>rcases xp j σ.t.length with hj|hj
  ·rw [eX hi] at a;rw [eX hj] at b;exact st.inv.apart i j p p' a b j4
  ·rw [eX hi] at a;have h1:=low _ _ a;refine ad (last _ _ hj b) fun z0=>?_;subst z0;intro _;exact ⟨h1.1.1,h1.1.2,h1.2.1,h1.2.2⟩
  ·rw [eX hj] at b;have h1:=low _ _ b;refine ad (last _ _ hi a) fun z0=>?_;subst z0;intro _;exact ⟨h1.1.1.symm,h1.2.1.symm,h1.1.2.symm,h1.2.2.symm⟩
  ·have h1:=last _ _ hi a;have h2:=last _ _ hj b;lia
 ·rcases mo b hb with hb|rfl|rfl
  ·have:=st.inv.low b hb;exact ⟨this.1,this.2.1.imp fun _ e=>hk _ _ e,this.2.2⟩
  ·exact ⟨IA _ f1,a1,fun hm=>by refine ay (st.inv.cS _ hm).2 fun o e=>?_;injection (f1).symm.trans e⟩
  ·exact ⟨IA _ f2,a2,fun hm=>by refine ay (st.inv.cS _ hm).2 fun o e=>?_;injection (f2).symm.trans e⟩
 ·have:=st.inv.cS b hb;exact ⟨this.1,this.2.imp fun _ e=>hk _ _ e⟩
theorem af.set{H:Hp}(st:af B A H σ s){n:Nat}{p:Addr×Addr}{o:PO}{h':Heap}(k:Nat)(hn:σ.t[n]?=some p)(a1:∃ o,h'.get? p.1=some o)(a2:∃ o,h'.get? p.2=some o)(hk:∀ b ob,b≠p.1→b≠p.2→s.heap.get? b=some ob→h'.get? b=some ob)(r:hZ prog w B.Cl σ h' o p):
  af B A (H.set n o) σ {s with heap:=h',toks:=k}∧aJ cq s.heap σ h' σ:=by
 have g7:=dC hn;have al:∀ b ob,s.heap.get? b=some ob→∃ o',h'.get? b=some o':=fun b ob e=>by
  by_cases h1:b=p.1
  ·subst h1;exact a1
  ·by_cases h2:b=p.2
   ·subst h2;exact a2
   ·exact ⟨ob,hk b ob h1 h2 e⟩
 have P:aJ cq s.heap σ h' σ:=⟨fun b ob hb _ e=>⟨ob,hk b ob (fun q=>hb (q ▸ g7.1)) (fun q=>hb (q ▸ g7.2)) e,.refl ob⟩,⟨[],by simp⟩,rfl,fun b hb=>.inl hb,al⟩;refine ⟨⟨fun b ob e=>hk b ob (fun q=>?_) (fun q=>?_) (st.keep b ob e),⟨by simp [st.inv.len],fun i o' q a b=>?_,st.inv.apart,fun b hb=>?_,fun b hb=>?_⟩,st.gens,st.os,
  fun env he=>?_⟩,P⟩
 ·rw [q,(st.inv.low _ g7.1).1] at e;injection e
 ·rw [q,(st.inv.low _ g7.2).1] at e;injection e
 ·by_cases hi:i=n
  ·subst hi;obtain rfl:q=p:=Option.some.inj (b.symm.trans hn);rw [A6 (by have:=(cF.mp a).1;simpa using this)] at a
   (injection a with e1;subst e1);exact r
  ·rw [uw (Ne.symm hi)] at a;have ap:=st.inv.apart i n q p b hn hi;exact (st.inv.obj i o' q a b).mono P (fun _ h=>h.elim) (fun _ e=>hk _ _ ap.1 ap.2.1 e) (fun _ e=>hk _ _ ap.2.2.1 ap.2.2.2 e)
 ·have:=st.inv.low b hb;refine ay this.2.1 fun db cJ=>?_;exact ⟨this.1,al b db cJ,this.2.2⟩
 ·have:=st.inv.cS b hb;refine ay this.2 fun db cJ=>?_;exact ⟨this.1,al b db cJ⟩
 ·(refine ad (st.dV env he) fun a z2=>?_;(refine cO z2 fun L ob b c d e=>?_;clear z2))
  exact ⟨a,L,ob,b,c,hk _ _ (fun q=>(st.inv.low _ g7.1).2.2 (q ▸ c)) (fun q=>(st.inv.low _ g7.2).2.2 (q ▸ c)) d,e⟩
def bh.pd{F:br}{h₀:Heap}{Cl:Nat→Addr}(x:bh B F sl σ h)(inv:Inv prog w Cl h₀ H σ h)(p:aJ cq h σ h' σ'):bh B F sl σ' h':=by
 have fr:∀ b,b∈σ.fr→b∉own σ:=fun b hb ho=>(inv.low b ho).2.2 hb;refine ⟨?_,fun i id v h1 h2 h3=>?_,fun id a hm=>?_,p.fr ▸ x.jF⟩
 ·refine J x.lF fun m hn hv=>?_;refine lf hn fun o es ep e hd hs hf=>?_;clear hn;refine J (p.kp _ o (fr _ x.jF) (fun h=>h.elim) e) fun o' e' k=>?_;refine ⟨m,⟨o',es,ep,e',k.data.trans hd,hs,hf⟩,fun i id v h1 h2 h3=>?_⟩;refine J (hv i id v h1 h2 h3) fun u hu r=>?_;exact ⟨u,hu,r.b_ p⟩
 ·(refine cO (x.mE i id v h1 h2 h3) fun a u h4 h5 z4 r=>?_;(refine J z4 fun o e hd=>?_;clear z4))
  refine J (p.kp _ o (fr _ (x.hO id a h5).2) (fun h=>h.elim) e) fun o' e' k=>?_;exact ⟨a,u,h4,h5,⟨o',e',k.data.trans hd⟩,r.b_ p⟩
 ·(refine ad (x.hO id a hm) fun z0 fg=>?_;(refine ch z0 fun cv o e hd=>?_;clear z0))
  refine J (p.kp _ o (fr _ fg) (fun h=>h.elim) e) fun o' e' k=>?_;exact ⟨⟨cv,o',e',k.data.trans hd⟩,p.fr ▸ fg⟩
set_option tactic.hygienic true in
def as_list(st:af B A H σ s)(e:bV v H=some l)(r:ah prog w B.Cl σ s.heap v u):
  ∃ a us n,u=.ref a∧s.heap.get? a=some {cls:=.type "list",data:=.seq us n}∧aK prog w B.Cl σ s.heap l us.toList:=by
 induction r using ah.casesOn with
 | fl e' no sz all=>(injection e with e1;subst e1);exact ⟨_,_,_,rfl,e',nW sz all⟩
 | loc e'=>
  rename_i n p;delta bV at e;dsimp only at e;generalize jH:H[n]?=x at e;induction x using az with
  | none=>injection e
  | some o=>induction o with
   | list l'=>
    (injection e with e1;subst e1)
    refine ad (st.inv.obj _ _ _ jH e') fun _ z2=>?_;refine ch z2 fun us n' h1 h2=>?_;clear z2;exact ⟨_,us,n',rfl,h1,h2⟩
   | _=>injection e
 | _=>injection e
set_option tactic.hygienic true in
def tY{l:Qm}(st:af B A H σ s)(e:dZ v H=some l)(r:ah prog w B.Cl σ s.heap v u):
  ∃ a kvs,u=.ref a∧a≠lU∧s.heap.DictOf (strKind prog w) a kvs∧fE prog w B.Cl σ s.heap l kvs:=by
 induction r using ah.casesOn with
 | fd e' sm no ks all=>(injection e with e1;subst e1);exact ⟨_,_,rfl,sm,e',⟨ks,all⟩⟩
 | loc e'=>
  rename_i n p;delta dZ at e;dsimp only at e;generalize jH:H[n]?=x at e;induction x using az with
  | none=>injection e
  | some o=>induction o with
   | dict l'=>
    (injection e with e1;subst e1)
    refine ad (st.inv.obj _ _ _ jH e') fun _ z2=>?_;refine J z2 fun kvs h1 h2=>?_;clear z2;exact ⟨_,kvs,rfl,fun q=>by (refine ay B.pz fun o ho=>?_;rw [←q,(st.inv.low _ (dC e').1).1] at ho;injection ho),h1,h2⟩
   | _=>injection e
 | _=>injection e
set_option tactic.hygienic true in
def EM{l:Qm}(st:af B A H σ s)(e:hU v H=some (c,l))(r:ah prog w B.Cl σ s.heap v u):
  ∃ a o d m,u=.ref a∧s.heap.get? a=some o∧o.cls=.ref (B.Cl c)∧o.dict=some d∧o.data=.plain∧d≠a∧s.heap.Ns1 d m∧s.heap.ExactDictFk d∧mI prog w B.Cl σ s.heap l m:=by
 induction r using ah.casesOn with
 | fi e' cls jJ dat ne ns ex no jd ks all=>(refine ad (Prod.mk.inj (Option.some.inj (show some (_,_)=some (c,l) from e))) fun z0=>?_;subst z0;intro z1;subst z1);exact ⟨_,_,_,_,rfl,e',cls,jJ,dat,ne,ns,ex,⟨ks,all⟩⟩
 | loc e'=>
  rename_i n p;delta hU at e;dsimp only at e;generalize jH:H[n]?=x at e;induction x using az with
  | none=>injection e
  | some o=>induction o with
   | inst c' l'=>cases e;refine ad (st.inv.obj _ _ _ jH e') fun ne z2=>?_;refine qi z2 fun o m h1 h2 h3 h4 h5 h6 h7 _=>?_;clear z2;exact ⟨_,o,_,m,rfl,h1,h2,h3,h4,ne,h5,h6,h7⟩
   | _=>injection e
 | _=>injection (show (none:Option (Nat×Qm))=some _ from e)
end
end
variable {B:Base prog w}
section
open PySem
section
def hZ.kinds{Cl:Nat→Addr}{o:PO}{p:Addr×Addr}(r:hZ prog w Cl σ h o p)(b:Addr)(hb:b=p.1∨b=p.2):∃ ob,h.get? b=some ob∧ob.cls≠.type "frame"∧ob.cls≠.type "tuple":=by
 induction o with
 | list l=>(refine ad r fun e z2=>?_;clear r;(refine ch z2 fun us n h1 _=>?_;clear z2));rw [e,or_self] at hb;subst hb;exact ⟨_,h1,by simp,by simp⟩
 | dict l=>refine ad r fun e z2=>?_;clear r;refine J z2 fun kvs h1 _=>?_;clear z2;rw [e,or_self] at hb;subst hb;refine ik h1 fun od es ep e' rest=>?_;clear h1;exact ⟨_,e',by rw [rest.1.1];simp,by rw [rest.1.1];simp⟩
 | inst c l=>
  refine ad r fun e z2=>?_;clear r;refine Os z2 fun ob m h1 h2 _ _ _ FT _=>?_;clear z2;refine ci FT fun od ed hc _=>?_;clear FT;rcases hb with rfl|rfl
  ·exact ⟨_,h1,by rw [h2];simp,by rw [h2];simp⟩
  ·exact ⟨_,ed,by rw [hc];simp,by rw [hc];simp⟩
 | dW l=>(refine ad r fun e h1=>?_;clear r);rw [e,or_self] at hb;subst hb;exact ⟨_,h1,by simp,by simp⟩
def H9{h₀:Heap}{Cl:Nat→Addr}(inv:Inv prog w Cl h₀ H σ h){b:Addr}(hb:b∈own σ):∃ ob,h.get? b=some ob∧ob.cls≠.type "frame"∧ob.cls≠.type "tuple":=by
 refine J (Cz.mp hb) fun p hp hb=>?_;refine ay (aeh.mp hp) fun i hi=>?_;have hl:i < H.length:=by rw [←inv.len];exact (cF.mp hi).1
 exact (inv.obj i H[i] p (by simp [hl]) hi).kinds b hb
def af.bare(st:af B A H σ s){wy:List Addr}(h1:∀ b∈σ.fr,b∈wy)(h2:∀ b∈wy,b∈own σ∨b∈σ.fr):af B A [] ⟨[],wy⟩ s where
 keep:=st.keep
 inv:=⟨rfl,fun i o p a=>by simp at a,fun i j p q a=>by simp at a,fun b hb=>by simp [own,dQ] at hb,fun b hb=>by
  rcases h2 b hb with h|h
  ·exact ⟨(st.inv.low b h).1,(st.inv.low b h).2.1⟩
  ·exact st.inv.cS b h⟩
 gens:=st.gens
 os:=st.os
 dV env he:=by (refine ad (st.dV env he) fun a z2=>?_;(refine bx z2 fun L o b c d=>?_;clear z2));exact ⟨a,L,o,b,h1 L c,d⟩
def af.xR{wy:List Addr}(st:af B A H σ s)(a_:af B A' H' σ' s')(P:aJ cq s.heap ⟨[],wy⟩ s'.heap σ'):af B A H σ s'∧aJ cq s.heap σ s'.heap σ:=by
 have kp:∀ b o,s.heap.get? b=some o→∃ o',s'.heap.get? b=some o'∧jo o o':=fun b o e=>P.kp b o (by simp [own,dQ]) (fun h=>h) e;have kx:∀ b,b∈own σ→∀ o,s.heap.get? b=some o→s'.heap.get? b=some o:=fun b hb o e=>by
  refine ci (H9 st.inv hb) fun ob e' c _=>?_;obtain rfl:=Option.some.inj (e.symm.trans e');refine J (kp b o e) fun o' e2 k=>?_;refine (e2).trans ?_;rw [k.exact c]
 have Q:aJ cq s.heap σ s'.heap σ:=⟨fun b o _ _ e=>kp b o e,⟨[],by simp⟩,rfl,fun b hb=>.inl hb,P.al⟩;refine ⟨⟨a_.keep,⟨st.inv.len,fun i o p a b=>(st.inv.obj i o p a b).mono Q (fun _ h=>h.elim) (kx _ (dC b).1) (kx _ (dC b).2),st.inv.apart,fun b hb=>?_,fun b hb=>?_⟩,a_.gens,a_.os,fun env he=>?_⟩,Q⟩
 ·have:=st.inv.low b hb;refine ay this.2.1 fun o e=>?_;exact ⟨this.1,P.al b o e,this.2.2⟩
 ·have:=st.inv.cS b hb;refine ay this.2 fun o e=>?_;exact ⟨this.1,P.al b o e⟩
 ·(refine ad (st.dV env he) fun a z2=>?_;(refine i_ z2 fun L o b c d e1 e2=>?_;clear z2))
  refine J (kp L o d) fun o' e' k=>?_;exact ⟨a,L,o',b,c,e',k.cls.trans e1,fun vs=>by rw [k.data];exact e2 vs⟩
def Ca(h:dU l=true)(e:l[i]?=some v):eJ v=true:=by
 induction l generalizing i with
 | nil=>injection e
 | cons a r ih=>
  replace h:=nM.mp (show (eJ a&&dU r)=true from h);induction i using dN with
  | zero=>(injection e with e1;subst e1);exact h.1
  | succ i=>exact ih h.2 e
def R_{l:Qm}(h:jV l=true){k:Qn}(e:l[i]?=some (k,v)):eJ v=true:=by
 induction l generalizing i with
 | nil=>simp at e
 | cons a r ih=>
  obtain ⟨k',v'⟩:=a;replace h:=nM.mp (show (eJ v'&&jV r)=true from h);induction i using dN with
  | zero=>simp at e;refine ad e fun _ z1=>?_;clear e;subst z1;exact h.1
  | succ i=>exact ih h.2 e
def R9{l:Qm}(h:jV l=true){k:Qn}(e:look k l=some v):eJ v=true:=by
 induction l with
 | nil=>injection e
 | cons a r ih=>
  obtain ⟨k',v'⟩:=a;replace h:=nM.mp (show (eJ v'&&jV r)=true from h);rw [lE] at e;by_cases q:k'=k
  ·cases (if_pos q).symm.trans e;exact h.1
  ·exact ih h.2 ((if_neg q).symm.trans e)
def DU(h:kN l=true)(e:l[i]?=some v):nh v=true:=by
 induction l generalizing i with
 | nil=>injection e
 | cons a r ih=>
  replace h:=nM.mp (show (nh a&&kN r)=true from h);induction i using dN with
  | zero=>(injection e with e1;subst e1);exact h.1
  | succ i=>exact ih h.2 e
def ah.sY{Cl:Nat→Addr}(r:ah prog w Cl σ h v u)(hv:eJ v=true)(hb:∀ b o,h.get? b=some o→¬ c_ σ b→¬ c_ σ' b):ah prog w Cl σ' h v u:=by
 induction r with
 | none=>exact .none
 | bool b=>exact .bool b
 | int i t=>exact .int i t
 | str l t=>exact .str l t
 | bytes l t=>exact .bytes l t
 | tup e no sz _ ih=>exact .tup e (hb _ _ e no) sz fun i v u a b=>ih i v u a b (Ca hv a)
 | fl e no sz _ ih=>exact .fl e (hb _ _ e no) sz fun i v u a b=>ih i v u a b (Ca hv a)
 | fd e sm no ks _ ih=>refine ik (id e) fun o es ep e' rest=>?_;exact .fd e sm (hb _ _ e' no) ks fun i k v k' u a b=>ih i k v k' u a b (R_ hv a)
 | fi e cls jJ dat ne ns ex no jd ks _ ih=>refine ci (id ex) fun od ed hc _=>?_;exact .fi e cls jJ dat ne ns ex (hb _ _ e no) (hb _ _ ed jd) ks fun k v u a b=>ih k v u a b (R9 hv a)
 | loc e=>injection hv
def EQ{f:α→Option β}{l:List α}{l':List β}(h:eR (l.map f)=some l'):l'.length=l.length∧∀ (i:Nat) b,l'[i]?=some b→∃ a,l[i]?=some a∧f a=some b:=by
 induction l generalizing l' with
 | nil=>(injection h with e1;subst e1);exact ⟨rfl,fun i b e=>by injection e⟩
 | cons a r ih=>
  rw [da] at h;generalize hf:(f a)=zz;induction zz using az with
  | none=>rw [hf] at h;injection h
  | some b=>
   rw [hf] at h;replace h:=dG.mp (show jq _ (eR _)=some l' from h);refine J h fun CQ h' z2=>?_;clear h;subst z2;refine ad (ih h') fun h1 h2=>?_;refine ⟨by simp [h1],fun i b' e=>?_⟩;induction i using dN with
   | zero=>(injection e with e1;subst e1);exact ⟨a,rfl,hf⟩
   | succ i=>exact h2 i b' e
def Mt{f:PV→Qq}{l l':Qm}(h:lP (l.map fun p=>(p.1,f p.2))=some l'):l'.map (·.1)=l.map (·.1)∧
  (∀ (i:Nat) k b,l'[i]?=some (k,b)→∃ a,l[i]?=some (k,a)∧f a=some b)∧(∀ k,(look k l').isSome=(look k l).isSome)∧∀ k b,look k l'=some b→∃ a,look k l=some a∧f a=some b:=by
 induction l generalizing l' with
 | nil=>obtain rfl:=Option.some.inj (show some []=some l' from h);exact ⟨rfl,fun i k b e=>by simp at e,fun k=>rfl,fun k b e=>by injection e⟩
 | cons p r ih=>
  obtain ⟨k,a⟩:=p;rw [da] at h;generalize hf:(f a)=zz;induction zz using az with
  | none=>rw [hf] at h;injection (show none=some l' from h)
  | some b=>
   rw [hf] at h;refine J (dG.mp (show jq _ (lP _)=some l' from h)) fun CQ h' z2=>?_;subst z2;refine sr (ih h') fun h1 h2 h3 h4=>?_;refine ⟨by simp [h1],fun i k' b' e=>?_,fun k'=>?_,fun k' b' e=>?_⟩
   ·induction i using dN with
    | zero=>simp at e;refine ad e fun z0=>?_;clear e;subst z0;intro z1;subst z1;exact ⟨a,rfl,hf⟩
    | succ i=>exact h2 i k' b' e
   ·rw [lE,lE];by_cases q:k=k'
    ·rw [if_pos q,if_pos q];rfl
    ·rw [if_neg q,if_neg q];exact h3 k'
   ·rw [lE] at e⊢;by_cases hk:k=k'
    ·cases (if_pos hk).symm.trans e;rw [if_pos hk];exact ⟨a,rfl,hf⟩
    ·rw [if_neg hk];exact h4 k' b' ((if_neg hk).symm.trans e)
def zM(hv:∀ i,v≠.loc i)(e:cD H n v=some v'):v'=v∧eJ v=true:=by
 have:cD H n v=if eJ v then some v else .none:=by
  induction n using dN with
  | zero=>rfl
  | succ n=>induction v using PV.casesOn<;>first|rfl|exact absurd rfl (hv _)
 rw [this] at e;by_cases h:eJ v=true
 ·generalize ((if_pos h).symm.trans e)=zz
  (injection zz with e1;subst e1);exact ⟨rfl,h⟩
 ·injection ((if_neg h).symm.trans e)
def wu(H:Hp)(n:Nat):Option PO→Qq
 | some (.list l)=>(eR (l.map (cD H n))).map .fl
 | some (.dict l)=>(lP (l.map fun p=>(p.1,cD H n p.2))).map .fd
 | some (.inst c l)=>(lP (l.map fun p=>(p.1,cD H n p.2))).map (.fi c)
 | _=>.none
set_option tactic.hygienic true in
def KK(st:af B A H σ s):∀ (n:Nat) (v v':PV) (u:Value),cD H n v=some v'→ah prog w B.Cl σ s.heap v u→ah prog w B.Cl ⟨[],σ.fr⟩ s.heap v' u:=by
 have nb:∀ b,¬ c_ σ b→¬ c_ ⟨[],σ.fr⟩ b:=fun b h q=>by
  rcases q with q|q
  ·simp [own,dQ] at q
  ·exact h (.inr q)
 have nl:∀ b,b∈own σ→¬ c_ ⟨[],σ.fr⟩ b:=fun b h q=>by
  rcases q with q|q
  ·simp [own,dQ] at q
  ·exact (st.inv.low b h).2.2 q
 intro n;induction n with
 | zero=>
  intro v v' u e r;have hv:∀ i,v≠.loc i:=fun i q=>by subst q;injection (show (none:Qq)=some v' from e)
  refine ad (zM hv e) fun z0=>?_;subst z0;intro hp;exact r.sY hp fun b o _=>nb b
 | succ n ih=>
  intro v v' u e r;induction v using PV.casesOn with
  | loc i=>
   cases r with
   | loc ep=>
    rename_i p;replace e:wu H n H[i]?=some v':=e;have sm:p.1≠lU:=fun q=>by (refine ay B.pz fun o ho=>?_;rw [←q,(st.inv.low _ (dC ep).1).1] at ho;injection ho)
    generalize hl:H[i]?=x at e;induction x using az with
    | none=>injection e
    | some o=>induction o with
     | list l=>refine J (dG.mp e) fun l' e' z2=>?_;subst z2;refine ad (EQ e') fun h1 h2=>?_;refine ad (st.inv.obj _ _ _ hl ep) fun _ z2=>?_;refine ch z2 fun us k h3 h4=>?_;clear z2;refine .fl h3 (nl _ (dC ep).1) (by rw [h1];simpa using h4.sz) fun i v u a b=>?_;refine J (h2 i v a) fun nN e1 e2=>?_;exact ih _ _ _ e2 (h4.all i nN u e1 (by simpa using b))
     | dict l=>refine J (dG.mp e) fun l' e' z2=>?_;subst z2;refine cG (Mt e') fun h1 h2 _=>?_;refine ad (st.inv.obj _ _ _ hl ep) fun _ z2=>?_;refine J z2 fun kvs h3 h4=>?_;clear z2;refine .fd h3 sm (nl _ (dC ep).1) (by rw [h4.ks,show (l.map fun p=>sv p.1)=(l.map (·.1)).map sv by simp,show (l'.map fun p=>sv p.1)=(l'.map (·.1)).map sv by simp,h1]) fun i k v k' u a b=>?_;refine J (h2 i k v a) fun nN e1 e2=>?_;exact ih _ _ _ e2 (h4.all i k nN k' u e1 b)
     | inst c l=>refine J (dG.mp e) fun l' e' z2=>?_;subst z2;refine sr (Mt e') fun _ _ h3 h4=>?_;refine ad (st.inv.obj _ _ _ hl ep) fun ne z2=>?_;refine qi z2 fun o m k1 k2 k3 k4 k5 k6 k7 _=>?_;clear z2;refine .fi k1 k2 k3 k4 ne k5 k6 (nl _ (dC ep).1) (nl _ (dC ep).2) (fun k=>(h3 k).trans (k7.ks k)) fun k v u a b=>?_;refine J (h4 k v a) fun nN e1 e2=>?_;exact ih _ _ _ e2 (k7.all k nN u e1 b)
     | _=>injection e
  | _=>refine ad (zM (fun i=>by simp) e) fun z0=>?_;subst z0;intro hp;exact r.sY hp fun b o _=>nb b
def ah.DV{Cl:Nat→Addr}(r:ah prog w Cl σ h v u)(hv:nh v=true)(hb:∀ b o,h.get? b=some o→o.cls=.type "tuple"→¬ c_ σ b→¬ c_ σ' b):ah prog w Cl σ' h v u:=by
 induction r with
 | none=>exact .none
 | bool b=>exact .bool b
 | int i t=>exact .int i t
 | str l t=>exact .str l t
 | bytes l t=>exact .bytes l t
 | tup e no sz _ ih=>exact .tup e (hb _ _ e rfl no) sz fun i v u a b=>ih i v u a b (DU hv a)
 | fl=>injection hv
 | fd=>injection hv
 | fi=>injection hv
 | loc e=>injection hv
def Jq{c:Prop}[Decidable c]{a b:α}(h:(if c then some a else none)=some b):c∧a=b:=by
 by_cases q:c
 ·exact ⟨q,Option.some.inj ((if_pos q).symm.trans h)⟩
 ·injection ((if_neg q).symm.trans h)
def Yk(hv:∀ i,v≠.loc i):ot H v=if nh v=true then some v else none:=by induction v using PV.casesOn<;>first|rfl|exact absurd rfl (hv _)
set_option tactic.hygienic true in
def Yi(st:af B A H σ s)(e:ot H v=some v')(r:ah prog w B.Cl σ s.heap v u)(hb:∀ b o,s.heap.get? b=some o→o.cls=.type "tuple"→¬ c_ σ b→¬ c_ σ' b)(hn:∀ b∈own σ,¬ c_ σ' b):
  ah prog w B.Cl σ' s.heap v' u:=by
 induction r using ah.casesOn with
 | loc ep=>
  rename_i i p;delta ot at e;dsimp only at e;generalize hl:H[i]?=x at e;have sm:p.1≠lU:=fun q=>by (refine ay B.pz fun o ho=>?_;rw [←q,(st.inv.low _ (dC ep).1).1] at ho;injection ho)
  induction x using az with
  | none=>injection e
  | some o=>induction o with
   | list l=>
    by_cases hf:kN l=true
    ·generalize ((if_pos hf).symm.trans e)=zz
     (injection zz with e1;subst e1)
     refine ad (st.inv.obj _ _ _ hl ep) fun _ z2=>?_;refine ch z2 fun us k h3 h4=>?_;clear z2;exact .fl h3 (hn _ (dC ep).1) h4.sz fun i v u a b=>(h4.all i v u a (by simpa using b)).DV (DU hf a) hb
    ·injection ((if_neg hf).symm.trans e)
   | dict l=>
    by_cases hf:kN (l.map (·.2))=true
    ·generalize ((if_pos hf).symm.trans e)=zz
     (injection zz with e1;subst e1)
     refine ad (st.inv.obj _ _ _ hl ep) fun _ z2=>?_;refine J z2 fun kvs h3 h4=>?_;clear z2;exact .fd h3 sm (hn _ (dC ep).1) h4.ks fun i k v k' u a b=>(h4.all i k v k' u a b).DV (DU hf (i:=i) (by rw [km,a];rfl)) hb
    ·injection ((if_neg hf).symm.trans e)
   | _=>injection e
 | _=>refine ad (Jq ((Yk fun i=>by simp).symm.trans e)) fun hf e=>?_;subst e;refine ah.DV (σ:=σ) ?_ hf hb;constructor<;>assumption
theorem aK.sY{Cl:Nat→Addr}{h:Heap}{l:Qp}{us:Qa}(r:aK prog w Cl σ h l us)(hv:dU l=true)(hb:∀ b o,h.get? b=some o→¬ c_ σ b→¬ c_ σ' b):aK prog w Cl σ' h l us:=
 ⟨r.sz,fun i v u a b=>(r.all i v u a b).sY (Ca hv a) hb⟩
end
end
section
open PySem
section
def zO(st:af B A H σ s)(f:s.heap.get? a=.none):¬ c_ σ a:=fun h=>by
 rcases h with h|h
 ·refine ay (st.inv.low a h).2.1 fun o e=>?_;injection (f).symm.trans e
 ·refine ay (st.inv.cS a h).2 fun o e=>?_;injection (f).symm.trans e
def fA(h:Heap):h.get? h.objs.size=.none:=sh (aS _)
theorem aK.grow{h h':Heap}{l us}(r:aK prog w B.Cl σ h l us)(hk:∀ b o,h.get? b=some o→h'.get? b=some o):aK prog w B.Cl σ h' l us:=r.b_ (.grow hk)
def iq(ob:Obj):∀ b o,h.get? b=some o→(h.push ob).get? b=some o:=fun _ _ e=>fh _ e
def TV(m:Bool){us:Qv}{k:Nat}(st:af B A H σ s)(hk:∀ b o,s.heap.get? b=some o→h'.get? b=some o)(f:s.heap.get? a=.none)(e:h'.get? a=some {cls:=.type "list",data:=.seq us n})(r:aK prog w B.Cl σ s.heap l us.toList)(hm:fL m l H=.ok v H'):
  ∃ σ',af B A H' σ' {s with heap:=h',toks:=k}∧ah prog w B.Cl σ' h' v (.ref a)∧aJ cq s.heap σ h' σ':=by
 delta fL at hm
 split at hm
 ·induction m with
  | false=>simp at hm;obtain ⟨rfl,rfl⟩:=hm;refine ⟨σ,st.grow hk,.fl e (zO st f) r.sz fun i v u a b=>(r.grow hk).all i v u a (by simpa using b),.grow hk⟩
  | true=>
   simp at hm;obtain ⟨rfl,rfl⟩:=hm;have P:=st.push (o:=.list l) (h':=h') (q:=(a,a)) k hk f f ⟨_,e⟩ ⟨_,e⟩;have r':aK prog w B.Cl ⟨σ.t++[(a,a)],σ.fr⟩ h' l us.toList:=by
    refine r.b_ ⟨fun b o _ _ e=>⟨o,hk b o e,.refl o⟩,⟨_,rfl⟩,rfl,fun b hb=>?_,fun b o e=>⟨o,hk b o e⟩⟩;rw [show own ⟨σ.t++[(a,a)],σ.fr⟩=dQ (σ.t++[(a,a)]) from rfl,vb,cy] at hb;rcases hb with hb|hb
    ·exact .inl hb
    ·simp [dQ] at hb;subst hb;exact .inr f
   refine ad (P ⟨rfl,us,n,e,r'⟩) fun p1 p2=>?_;exact ⟨_,p1,.loc (p:=(a,a)) (by rw [←st.inv.len];simp),p2⟩
 ·injection hm
def IS{us:Qv}{k:Nat}(st:af B A H σ s)(hk:∀ b o,s.heap.get? b=some o→h'.get? b=some o)(f:s.heap.get? a=.none)(e:h'.get? a=some {cls:=.type "tuple",data:=.seq us n})(r:aK prog w B.Cl σ s.heap l us.toList):
  af B A H σ {s with heap:=h',toks:=k}∧ah prog w B.Cl σ h' (.tup l) (.ref a)∧aJ cq s.heap σ h' σ:=
 ⟨st.grow hk,.tup e (zO st f) r.sz fun i v u a b=>(r.grow hk).all i v u a (by simpa using b),.grow hk⟩
def yO{m:Bool}(V:fL m l H≠.no):l.length≤aC∧∃ v H',fL m l H=.ok v H':=by
 by_cases h:l.length≤aC
 ·refine ⟨h,?_⟩;delta fL;rw [if_pos h];induction m with
  | true=>exact ⟨_,_,rfl⟩
  | false=>exact ⟨_,_,rfl⟩
 ·exact absurd (if_neg h) V
def vr{m:Bool}{us:Qv}{k:Nat}(st:af B A H σ s)(V:fL m l H≠.no)(hk:∀ b o,s.heap.get? b=some o→h'.get? b=some o)(f:s.heap.get? a=.none)(e:h'.get? a=some {cls:=.type "list",data:=.seq us n})(r:aK prog w B.Cl σ s.heap l us.toList)(hq:fR B A s σ (fL m l H) (VR B) Q):Q (.ref a) {s with heap:=h',toks:=k}:=by refine eB (yO V).2 fun v H' hm=>?_;obtain ⟨σ',p,q,x⟩:=TV m st hk f e r hm;exact hq _ _ v H' σ' hm p q x
def II(h:l.length≤aC):fL false l H=.ok (.fl l) H:=if_pos h
def KV{us:Qv}{k:Nat}(st:af B A H σ s)(hl:l.length≤aC)(hk:∀ b o,s.heap.get? b=some o→h'.get? b=some o)(f:s.heap.get? a=.none)(e:h'.get? a=some {cls:=.type "list",data:=.seq us n})(r:aK prog w B.Cl σ s.heap l us.toList)(hq:fR B A s σ (.ok (.fl l) H) (VR B) Q):Q (.ref a) {s with heap:=h',toks:=k}:=
 vr (m:=false) st (fun q=>nomatch (II hl).symm.trans q) hk f e r (by rw [II hl];exact hq)
def QM(m:Bool)(st:af B A H σ s)(r:aK prog w B.Cl σ s.heap l us):bp B A s σ (fL m l H) (newList us) (VR B):=
 fun V _ _ hq _=>wpAny_newObj_type (vr st V (iq _) (fA _) (eu s.heap rfl) r hq)
  (by show us.toArray.size≤sizeLine;rw [nH,←r.sz,sizeLine_eq];exact (yO V).1)
def QK(st:af B A H σ s)(r:aK prog w B.Cl σ s.heap l us)(hl:l.length≤aC):bp B A s σ (.ok (.tup l) H) (newTuple us) (VR B):=by intro V Q E hq he;refine wpAny_newObj_type ?_ (by show us.toArray.size≤sizeLine;rw [nH,←r.sz,sizeLine_eq];exact hl);obtain ⟨a,b,c⟩:=IS (k:=s.toks) st (iq _) (fA _) (eu s.heap rfl) r;exact hq _ _ _ H σ rfl a b c
def Pk{v:α}{u:β}{k:Nat}{Q:β→Shared→Prop}(st:af B A H σ s)(r:Rel σ s.heap v u)(hq:fR B A s σ (.ok v H) Rel Q):Q u {s with toks:=k}:=
 hq _ _ v H σ rfl (st.tok k) r (.refl _ _)
def jx{k:Nat}(st:af B A H σ s)(r:ah prog w B.Cl σ s.heap v u)(hq:fR B A s σ (.ok v H) (VR B) Q):Q u {s with toks:=k}:=
 hq _ _ v H σ rfl (st.tok k) r (.refl _ _)
def Ty{i j:Int}(h:small i=true)(h':small j=true):IntMulOk i j:=by
 have key:∀ i:Int,small i=true→FK i≤128:=fun i h=>by
  simp only [small,decide_eq_true_eq] at h;delta FK
  split
  ·exact cE _
  ·rename_i h0;have:i.natAbs.log2 < 128:=(Nat.log2_lt (fun e=>h0 (by have:i=0:=(by lia);simp [this]))).mpr h;exact aq (bc (IW this)) rfl
 have h1:=key i h;have h2:=key j h';delta IntMulOk agv;have:decide (((FK i:Int) + (FK j:Int)) > ((bitsLine:Nat):Int))=false:=by delta bitsLine;apply decide_eq_false;lia
 simp only [this,xF];exact cN
end
section
noncomputable def bo:pY→Operator
 | .add=>.Add|.sub=>.Sub|.mul=>.Mult|.fdiv=>.FloorDiv|.mod=>.Mod
def QV{o:pY}{i j:Int}{t u:Tok}(st:af B A H σ s):bp B A s σ (Ju o i j H) (binaryOp (bo o) (.int i t) (.int j u)) (VR B):=by
 induction o with
 | add=>exact fun _ _ _ hq _=>P.add_int (jx st (ah.int _ _) hq)
 | sub=>exact fun _ _ _ hq _=>P.sub_int (jx st (ah.int _ _) hq)
 | mul=>exact .ite fun h _ _ _ hq _=>P.mul_int (jx st (ah.int _ _) hq) (Ty (aL h) (aR h))
 | fdiv=>exact .tx fun h _ _ _ hq _=>agi (fun e=>h (.inl e)) (jx st (ah.int _ _) hq) (.inl (PyProof.noPylong_small (Nw fun q=>h (.inr q))))
 | mod=>exact .tx fun h _ _ _ hq _=>agd h (jx st (ah.int _ _) hq)
def MJ:aC=sizeLine:=sizeLine_eq
def Rd{t u:Tok}(st:af B A H σ s):bp B A s σ (if x.length + y.length≤aC then R.ok (PV.bytes (x++y)) H else .no) (binaryOp .Add (.bytes x.toArray t) (.bytes y.toArray u)) (VR B):=by refine .ite fun h _ _ _ hq _=>afY h fun t' k=>?_;have e:x.toArray++y.toArray=(x++y).toArray:=List.append_toArray ..;rw [e];exact jx st (ah.bytes _ _) hq
def Rc{m:Bool}(st:af B A H σ s)(e:bV v H=some l)(e':bV v' H=some l')(r:ah prog w B.Cl σ s.heap v u)(r':ah prog w B.Cl σ s.heap v' u'):
  bp B A s σ (if l.length + l'.length≤aC then fL m (l++l') H else .no) (binaryOp .Add u u') (VR B):=by
 refine .ite fun h V Q E hq he=>?_;refine dS (as_list st e r) fun a us n z3=>?_;subst z3;intro h1 r1;refine dS (as_list st e' r') fun b dX n' z3=>?_;subst z3;intro h2 r2;refine E6 ⟨_,h1,rfl⟩ ⟨_,h2,rfl⟩ noFill_list_add seq_list_add PySem.F.slot_list_add PySem.F.entry_list_add (PySem.F.args_list_add_2 _ _) (age a b us dX n n' none none #[] #[] ?_)
  ⟨h1,h2,vr st V (iq _) (fA _) (eu s.heap rfl) (by rw [FN];exact r1.append r2) hq⟩
 rw [←MJ];exact aB (dM (congr (congrArg HAdd.hAdd r1.sz.symm) r2.sz.symm)) h
set_option tactic.hygienic true in
def Rb(st:af B A H σ s)(r:ah prog w B.Cl σ s.heap (.tup l) u)(r':ah prog w B.Cl σ s.heap (.tup l') u'):
  bp B A s σ (if l.length + l'.length≤aC then R.ok (PV.tup (l++l')) H else .no) (binaryOp .Add u u') (VR B):=by
 refine .ite fun h V Q E hq he=>?_;cases r with
 | tup e no sz all=>
 cases r' with
 | tup e' jd x9 Mz=>
 rename_i a us n b dX n';have r1:=nW sz all;have r2:=nW x9 Mz;by_cases c0:us.isEmpty=true
 ·refine E6 ⟨_,e,rfl⟩ ⟨_,e',rfl⟩ M3 M2 Ni Nj (Nk _ _) (agc a b us dX n n' none none #[] #[] c0) ⟨e,e',?_⟩;obtain rfl:l=[]:=uz (sz.trans (congrArg Array.size (Ob.mp c0)));exact jx st (ah.tup e' jd x9 Mz) hq
 ·by_cases c1:dX.isEmpty=true
  ·refine E6 ⟨_,e,rfl⟩ ⟨_,e',rfl⟩ M3 M2 Ni Nj (Nk _ _) (agb a b us dX n n' none none #[] #[] c0 c1) ⟨e,e',?_⟩;obtain rfl:l'=[]:=uz (x9.trans (congrArg Array.size (Ob.mp c1)));rw [gP] at hq;exact jx st (ah.tup e no sz all) hq
  ·refine E6 ⟨_,e,rfl⟩ ⟨_,e',rfl⟩ M3 M2 Ni Nj (Nk _ _) (aga a b us dX n n' none none #[] #[] c0 c1 (by rw [←MJ,←sz,←x9];exact h)) ⟨e,e',?_⟩;obtain ⟨p,q,x⟩:=IS (k:=s.toks) st (iq _) (fA _) (eu s.heap rfl) (by rw [FN];exact r1.append r2);exact hq _ _ _ H σ rfl p q x
theorem aK.replicate{h:Heap}{l:Qp}{us:Qa}(r:aK prog w B.Cl σ h l us):∀ n:Nat,aK prog w B.Cl σ h (gC n l).flatten (gC n us).flatten
 | 0=>by simpa using aK.nil
 | n + 1=>by
  rw [A0,A0,se,se];exact r.append (r.replicate n)
theorem KP(us:Qv):∀ (n:Nat) (acc:Qv),(A9 (fun x1 x2=>x1++x2) acc (gC n us)).toList=acc.toList++(gC n us.toList).flatten
 | 0,acc=>by simp
 | n + 1,acc=>by
  rw [A0,A0,qb,KP us n,se,FN,dz]
def QN{j:Int}{t:Tok}{m:Bool}(st:af B A H σ s)(e:bV v H=some l)(r:ah prog w B.Cl σ s.heap v u):
  bp B A s σ (if 0≤j∧j < 2 ^ 62∧l.length * j.toNat≤aC then fL m (gC j.toNat l).flatten H else .no) (binaryOp .Mult u (.int j t)) (VR B):=by
 refine .ite fun h V Q E hq he=>?_;refine cG h fun h0 h1 h2=>?_;clear h;refine dS (as_list st e r) fun a us n z3=>?_;subst z3;intro hl r1;have dh:us.size=l.length:=r1.sz.symm;refine wpAny_binaryOp_repeat_ref (T:="list") (U:="int") (by decide) ⟨_,hl,rfl⟩ (fun s'=>typeIs_int s' j t) noFill_list_mul F.fills_int_mul aeZ repeat_list F.slot_int_index.lookup
  (call_meets aeZ (typeIs_int s j t) F.entry_int_rmul (F.args_int_rmul_2 _ _) (int___rmul___int_list j t a us n)
   ⟨hl,rfl,⟨_,hl,rfl⟩,call_meets F.slot_list_mul ⟨_,hl,rfl⟩ F.entry_list_mul (F.args_list_mul_2 _ _)
    (AutoListH.list___mul___list_int_3 a us n j t (by simp [agu];exact And.intro (iL h0 rfl) (iV h1 rfl)) (by rw [dh];exact xT h2 rfl) (by simp only [afh,sizeLine,dh];simp;exact h2))
    ⟨hl,vr st V (iq _) (fA _) (eu s.heap rfl) (us:=A9 (fun x1 x2=>x1++x2) #[] (gC (if us.isEmpty=true then 0 else j.toNat) us)) ?_ hq⟩⟩)
 rw [KP];by_cases he:us.isEmpty=true
 ·rw [if_pos he];obtain rfl:l=[]:=uz (dh.symm.trans (congrArg Array.size (Ob.mp he)));simpa using aK.nil
 ·rw [if_neg he];simpa using r1.replicate j.toNat
def QO{j:Int}{t u:Tok}(st:af B A H σ s):bp B A s σ (if 0≤j∧j < 4096∧x≠[]∧x.length≤16 then R.ok (PV.bytes (gC j.toNat x).flatten) H else .no) (binaryOp .Mult (.bytes x.toArray t) (.int j u)) (VR B):=
 .ite fun h _ _ _ hq _=>PySem.W.bytes_mul_any h.2.2.1 (by exact iL (And.left h) rfl) (by lia) h.2.2.2 fun t' k=>jx st (ah.bytes _ _) hq
def Pm{i:Int}(e:toInt v=some i)(r:ah prog w B.Cl σ h v u):v=.int i∧∃ t,u=.int i t:=by induction r using ah.casesOn<;>(first|(injection e;done)|(injection e with e1;subst e1));exact ⟨rfl,_,rfl⟩
def By{i:Qy}(e:cP v=some i)(r:ah prog w B.Cl σ h v u):v=.bytes i∧∃ t,u=.bytes i.toArray t:=by induction r using ah.casesOn<;>(first|(injection e;done)|(injection e with e1;subst e1));exact ⟨rfl,_,rfl⟩
def Pl{i:Qn}(e:toStr v=some i)(r:ah prog w B.Cl σ h v u):v=.str i∧∃ t,u=.str (sv i) t:=by induction r using ah.casesOn<;>(first|(injection e;done)|(injection e with e1;subst e1));exact ⟨rfl,_,rfl⟩
@[elab_as_elim] theorem lZ{i:Int}{g:PV→Value→Prop}(e:toInt v=some i)(r:ah prog w B.Cl σ h v u)(k:∀ t,g (.int i) (.int i t)):g v u:=by obtain ⟨rfl,t,rfl⟩:=Pm e r;exact k t
@[elab_as_elim] theorem jy{i:Qy}{g:PV→Value→Prop}(e:cP v=some i)(r:ah prog w B.Cl σ h v u)(k:∀ t,g (.bytes i) (.bytes i.toArray t)):g v u:=by obtain ⟨rfl,t,rfl⟩:=By e r;exact k t
@[elab_as_elim] theorem qp{i:Qn}{g:PV→Value→Prop}(e:toStr v=some i)(r:ah prog w B.Cl σ h v u)(k:∀ t,g (.str i) (.str (sv i) t)):g v u:=by obtain ⟨rfl,t,rfl⟩:=Pl e r;exact k t
def xX{i:Qp}(e:o3 v=some i):v=.tup i:=by induction v using PV.casesOn<;>(first|(injection e;done)|(injection e with e1;subst e1));rfl
def Bx(e:gj v=some i):v=.loc i:=by induction v using PV.casesOn<;>(first|(injection e;done)|(injection e with e1;subst e1));rfl
def Ra{m:Bool}(st:af B A H σ s)(r:ah prog w B.Cl σ s.heap v u)(r':ah prog w B.Cl σ s.heap v' u'):
  bp B A s σ (AC m v v' H) (binaryOp .Add u u') (VR B):=by
 delta AC
 split
 ·rename_i e1 e2;refine jy e1 r fun t=>?_;refine jy e2 r' fun t'=>?_;exact Rd st
 ·split
  ·rename_i e1 e2;obtain rfl:=xX e1;obtain rfl:=xX e2;exact Rb st r r'
  ·split
   ·rename_i e1 e2;exact Rc st e1 e2 r r'
   ·exact .no
def Q7{o:pY}{m:Bool}(st:af B A H σ s)(r:ah prog w B.Cl σ s.heap v u)(r':ah prog w B.Cl σ s.heap v' u'):
  bp B A s σ (binop o m v v' H) (binaryOp (bo o) u u') (VR B):=by
 delta binop;generalize e':(toInt v')=zz;induction zz using az with
 | some j=>
  refine lZ e' r' fun t'=>?_;generalize e:(toInt v)=zz;induction zz using az with
  | some i=>refine lZ e r fun t=>?_;exact QV st
  | none=>
   induction o<;>try exact .no
   delta Cx;generalize eb:(cP v)=zz;induction zz using az with
   | some x=>refine jy eb r fun t=>?_;exact QO st
   | none=>
    generalize el:(bV v H)=zz;induction zz using az with
    | some l=>exact QN st el r
    | none=>exact .no
 | none=>
  have key:bp B A s σ (match o with|.add=>AC m v v' H|_=>.no) (binaryOp (bo o) u u') (VR B):=by
   induction o<;>try exact .no
   exact Ra st r r'
  generalize (toInt v)=zz;induction zz using az<;>exact key
end
end
section
open PySem PySem.W PySem.Builtin
def Tp:typeLookup (.type "bytes") "__index__"=pure none:=by rw [ki,builtinLookup_eq_fast];kernel_rfl
def Tw(c:Qu)(u:Tok):typeNameOfCut 200 (.bytes c u)=pure "bytes":=by kernel_rfl
section
variable {b c:Qu} {t u:Tok}
def abi{Q:Int→Shared→Prop}(hh:A.handled=none)(h:∀ h' tk e,Heap.NewExc s.heap h' e "TypeError"→E (.ref e) {s with heap:=h',toks:=tk}):wpAny M A (asIndex (.bytes c u)) Q E s:=by refine wpAny_bind (wpAny_of_eq (a:=(none:Option Int)) rfl ?_);refine wpAny_bind (wpAny_bind (wpAny_specialOf (T:="bytes") (typeIs_bytes s c u) Tp (wpAny_pure ?_)));refine wpAny_bind (wpAny_of_eq (Tw c u) ?_);exact wpAny_raiseTypeError hh h
def aai{id:String}{Q:Bool→Shared→Prop}(hh:A.handled=none)(h:∀ h' tk,(∀ a o,s.heap.get? a=some o→h'.get? a=some o)→Q (uE b c 0 b.size).isSome {s with heap:=h',toks:=tk}):
  wpAny M A (afe id (.bytes b t) (.bytes c u)) Q E s:=by
 delta afe;refine wpAny_bind (wpAny_attempt (abi hh fun h' tk e hx=>?_));rw [aeH];refine wpAny_bind (wpAny_pure ?_);dsimp only;rw [aeH];refine wpAny_bind (wpAny_pure (wpAny_bind (wpAny_rule (wpAny_pure (h h' tk hx.keeps)))))
end
def fx(α:Type)(a:α):(pure a:Sem α)=Sem.pure a:=rfl
section
variable (b c:Qu) (t u:Tok)
def Gh(n:Nat):mP n none none=(0,(n:Int)):=by
 simp only [mP,adM];have h:¬ ((n:Int) < 0):=by exact iN
 rw [if_neg h];simp
def BZ(name:String):afa .bytes name ⟨[.bytes b t,.bytes c u],[]⟩ =
  pure (b,c,if ((b.size:Int) - 0 < (c.size:Int)) then none else some (0,b.size)):=by
 have e:afa .bytes name ⟨[.bytes b t,.bytes c u],[]⟩=pure (b,c,if ((mP b.size none none).2 - (mP b.size none none).1 < (c.size:Int)) then none else some ((mP b.size none none).1.toNat,(mP b.size none none).2.toNat)):=by kernel_rfl
 rw [Gh] at e;exact e
def GI{x y:Nat}(h:(x:Int) - 0 < y):x + 1 - (0 + y)=0:=Nt (by rw [xk];rw [Int.sub_zero] at h;exact xy.mp h)
def KX(x y:Qu)(h:((x.size:Int) - 0 < (y.size:Int))):uE x y 0 x.size=none∧Bg x y 0 x.size=none:=by have e:=GI h;delta uE Bg;rw [e];exact ⟨rfl,rfl⟩
def Ta(x y:Qu)(h:((x.size:Int) - 0 < (y.size:Int))):gQ x y 0 x.size=[]:=by have e:=GI h;delta gQ;rw [e];rfl
set_option tactic.hygienic true in
def XU:uC («bytes.find» ⟨[.bytes b t,.bytes c u],[]⟩) (.int (idxOf (uE b c 0 b.size))):=by
 refine .of_wp fun M A E s Q hq=>?_;show wpAny M A (ae' .bytes "find" false false _) _ E s;refine wpAny_bind (wpAny_of_eq (BZ b c t u "find") ?_);dsimp only
 split
 ·rename_i i hi;have e:uE b c 0 b.size=some i:=by
   split at hi
   ·injection hi
   ·exact hi
  rw [e] at hq;exact wpAny_bind (wpAny_mkInt (wpAny_pure ⟨_,rfl,hq⟩))
 ·rename_i hi;have e:uE b c 0 b.size=none:=by
   split at hi
   ·rename_i h;exact (KX b c h).1
   ·exact hi
  rw [e] at hq;exact wpAny_bind (wpAny_rule (wpAny_bind (wpAny_mkInt (wpAny_pure ⟨_,rfl,hq⟩))))
set_option tactic.hygienic true in
def XS:uC («bytes.rfind» ⟨[.bytes b t,.bytes c u],[]⟩) (.int (idxOf (Bg b c 0 b.size))):=by
 refine .of_wp fun M A E s Q hq=>?_;show wpAny M A (ae' .bytes "rfind" true false _) _ E s;refine wpAny_bind (wpAny_of_eq (BZ b c t u "rfind") ?_);dsimp only
 split
 ·rename_i i hi;have e:Bg b c 0 b.size=some i:=by
   split at hi
   ·injection hi
   ·exact hi
  rw [e] at hq;exact wpAny_bind (wpAny_mkInt (wpAny_pure ⟨_,rfl,hq⟩))
 ·rename_i hi;have e:Bg b c 0 b.size=none:=by
   split at hi
   ·rename_i h;exact (KX b c h).2
   ·exact hi
  rw [e] at hq;exact wpAny_bind (wpAny_rule (wpAny_bind (wpAny_mkInt (wpAny_pure ⟨_,rfl,hq⟩))))
set_option tactic.hygienic true in
def XV(hc:c.isEmpty=false):uC («bytes.count» ⟨[.bytes b t,.bytes c u],[]⟩) (.int ((gQ b c 0 b.size).length:Nat)):=by
 refine .of_wp fun M A E s Q hq=>?_;show wpAny M A (Bytes.countM .bytes _) _ E s;refine wpAny_bind (wpAny_of_eq (BZ b c t u "count") ?_);dsimp only
 split
 ·rename_i hi;have e:gQ b c 0 b.size=[]:=by
   split at hi
   ·rename_i h;exact Ta b c h
   ·injection hi
  rw [e] at hq;exact wpAny_bind (wpAny_mkInt (wpAny_pure ⟨_,rfl,hq⟩))
 ·rename_i lo gK hi
  split at hi
  ·injection hi
  ·cases hi;rw [if_neg (by rw [hc];exact cN)];exact wpAny_bind (wpAny_mkInt (wpAny_pure ⟨_,rfl,hq⟩))
def KA(nm:String)(atEnd:Bool)(hs:b.size < 2 ^ 62){B:Builtin}(hB:B=ae8 .bytes nm atEnd):
  uC (B ⟨[.bytes b t,.bytes c u],[]⟩) (.val (.bool (decide (c.size≤b.size)&&(if atEnd then b.extract (b.size - c.size) b.size==c else b.extract 0 c.size==c)))):=by
 subst hB;refine .of_wp fun M A E s Q hq=>?_;have e:ae8 .bytes nm atEnd ⟨[.bytes b t,.bytes c u],[]⟩=ret (.bool (if ((mP b.size none none).2 - (mP b.size none none).1 < (c.size:Int)) then false else if atEnd then b.extract ((mP b.size none none).2.toNat - c.size) (mP b.size none none).2.toNat==c else b.extract (mP b.size none none).1.toNat ((mP b.size none none).1.toNat + c.size)==c)):=by kernel_rfl
 rw [Gh] at e;rw [e];refine wpAny_pure ⟨_,rfl,?_⟩;have key:(if ((b.size:Int) - 0 < (c.size:Int)) then false else if atEnd=true then b.extract ((b.size:Int).toNat - c.size) (b.size:Int).toNat==c else b.extract (0:Int).toNat ((0:Int).toNat + c.size)==c) =
   (decide (c.size≤b.size)&&(if atEnd then b.extract (b.size - c.size) b.size==c else b.extract 0 c.size==c)):=?_
 ·exact key ▸ hq
 by_cases hle:c.size≤b.size
 ·have:¬ ((b.size:Int) - 0 < (c.size:Int)):=by lia
  refine (if_neg this).trans ?_;simp only [hle,decide_true,Bool.true_and];induction atEnd<;>simp
 ·have:((b.size:Int) - 0 < (c.size:Int)):=by lia
  refine (if_pos this).trans ?_;simp [hle]
def XQ(hs:b.size≤sizeLine):uC («bytes.strip» ⟨[.bytes b t,.bytes c u],[]⟩)
  (if ((b.toList.dropWhile c.contains).reverse.dropWhile c.contains).reverse.length==b.size then .val (.bytes b t) else .bytes ((b.toList.dropWhile c.contains).reverse.dropWhile c.contains).reverse.toArray):=by
 refine .of_wp fun M A E s Q hq=>?_;show wpAny M A (ae9 .bytes "strip" true true _) _ E s;have e:ae9 .bytes "strip" true true ⟨[.bytes b t,.bytes c u],[]⟩=(if ((b.toList.dropWhile c.contains).reverse.dropWhile c.contains).reverse.length==b.size then (do rule s!"{"bytes"}.{"strip"}.unchanged";ret (.bytes b t)) else (do let x←FJ .bytes ((b.toList.dropWhile c.contains).reverse.dropWhile c.contains).reverse.toArray;ret x)):=by kernel_rfl
 rw [e]
 split
 ·rename_i h;rw [if_pos h] at hq;exact wpAny_bind (wpAny_rule (wpAny_pure ⟨_,rfl,hq⟩))
 ·rename_i h;rw [if_neg h] at hq;exact wpAny_bind (wpAny_mkBytes (wpAny_pure ⟨_,rfl,hq.2⟩) hq.1)
end
end
section
open PySem PySem.W PySem.Builtin
def Ht(b:Qu)(t:Tok):N4 .bytes (.bytes b t)=pure (.bytes b t):=by rfl
def Sp(b:Qu)(t:Tok):afc (.bytes b t)=pure b:=rfl
section
variable (b c d:Qu) (t u v:Tok)
def Md(w:Nat):oX b w []=[b]:=by simp [oX]
def Jk(sep:Qu):sj sep [b]=b:=by simp [sj]
def Mn{c:Qu}(h:c.isEmpty=false):∃ x l,c=⟨x::l⟩:=by
 obtain ⟨l⟩:=c;induction l using bj with
 | nil=>injection h
 | cons x l=>exact ⟨x,l,rfl⟩
def XT(hc:c.isEmpty=false)(hs:b.size + (gQ b c 0 b.size).length * d.size≤sizeLine):
  uC («bytes.replace» ⟨[.bytes b t,.bytes c u,.bytes d v],[]⟩)
   (if (gQ b c 0 b.size).isEmpty then .val (.bytes b t) else .bytes (sj d (oX b c.size (gQ b c 0 b.size)))):=by
 refine .of_wp fun M A E s Q hq=>?_;show wpAny M A (afb .bytes _) _ E s;refine eB (Mn hc) fun x l z2=>?_;subst z2;have e:afb .bytes ⟨[.bytes b t,.bytes ⟨x::l⟩ u,.bytes d v],[]⟩=(do
   if (gQ b ⟨x::l⟩ 0 b.size).isEmpty||false then rule s!"{"bytes.replace"}.nothing";return←ret (←N4 .bytes (.bytes b t))
   if FH (b.size + (gQ b ⟨x::l⟩ 0 b.size).length * d.size) then unsupported s!"{"bytes.replace"}:memory"
   ret (←FJ .bytes (sj d (oX b (FO (x::l)).size (gQ b ⟨x::l⟩ 0 b.size))))):=by kernel_rfl
 rw [e,N5];clear e;generalize FO (x::l)=c at *
 split
 ·rename_i h;rw [if_pos h] at hq;rw [Ht];exact wpAny_bind (wpAny_rule (wpAny_bind (wpAny_pure (wpAny_pure ⟨_,rfl,hq⟩))))
 ·rename_i h;rw [if_neg h] at hq;rw [if_neg (by simp only [FH,decide_eq_true_eq];exact xT hs rfl)];exact wpAny_bind (wpAny_mkBytes (wpAny_pure ⟨_,rfl,hq.2⟩) hq.1)
def S':(gQ b c 0 b.size).length≤b.size + 1:=by
 delta gQ;have key:∀ (l:Qn) (acc:Qn×Nat),(l.foldl (fun (acc:Qn×Nat) (i:Nat)=>if i≥acc.2&&b.extract i (i + c.size)==c then (i::acc.1,i + c.size) else acc) acc).1.length≤acc.1.length + l.length:=by
  intro l;induction l with
  | nil=>intro acc;simp
  | cons x r ih=>
   intro acc;rw [qb];refine aB (ih _) ?_
   split<;>simp<;>lia
 rw [i6];refine aB (key _ _) ?_;simp
theorem Ge{M:Model}{A:Around}{E:Value→Shared→Prop}{s:Shared}:∀ (l:List Qu) {s:Shared} {Q:Qa→Shared→Prop},(∀ x∈l,x.size≤sizeLine)→
  (∀ (us:Qa) k,us.length=l.length→(∀ (i:Nat) x u,l[i]?=some x→us[i]?=some u→∃ t,u=.bytes x t)→Q us {s with toks:=k})→wpAny M A (l.mapM (FJ .bytes)) Q E s
 | [],s,Q,_,h=>by
  rw [List.mapM_nil];exact wpAny_pure (h [] s.toks rfl fun i x u e=>by simp at e)
 | x::r,s,Q,hs,h=>by
  rw [List.mapM_cons];refine wpAny_bind (wpAny_mkBytes ?_ (hs x (by simp)));refine wpAny_bind (Ge (s:=s) r (fun y hy=>hs y (by simp [hy])) fun us k hl hu=>wpAny_pure (h _ k (by simp [hl]) fun i y u e1 e2=>?_));induction i using dN with
  | zero=>simp at e1 e2;subst e1 e2;exact ⟨_,rfl⟩
  | succ i=>simp at e1 e2;exact hu i y u e1 e2
def Qg(hc:c.isEmpty=false)(hlen:(oX b c.size (gQ b c 0 b.size)).length≤sizeLine)(hs:∀ x∈oX b c.size (gQ b c 0 b.size),x.size≤sizeLine)(h:∀ (us:Qa) k,us.length=(oX b c.size (gQ b c 0 b.size)).length→(∀ (i:Nat) x u,(oX b c.size (gQ b c 0 b.size))[i]?=some x→us[i]?=some u→∃ t,u=.bytes x t)→
   Q (.ref s.heap.objs.size) {s with heap:=s.heap.push {cls:=.type "list",data:=.seq us.toArray},toks:=k}):
  wpAny M A («bytes.split» ⟨[.bytes b t,.bytes c u],[]⟩) (fun fin s'=>∃ v,fin=.done (.ret v)∧Q v s') E s:=by
 show wpAny M A (ae_ .bytes "split" false _) _ E s;refine eB (Mn hc) fun x l z2=>?_;subst z2;have e:ae_ .bytes "split" false ⟨[.bytes b t,.bytes ⟨x::l⟩ u],[]⟩=(if ((gQ b ⟨x::l⟩ 0 b.size).take (b.size + 1)).isEmpty then (do rule s!"{"bytes.split"}.no-separator";let a←N4 .bytes (.bytes b t);let r←newList [a];ret r)
  else (do let us←(oX b (FO (x::l)).size ((gQ b ⟨x::l⟩ 0 b.size).take (b.size + 1))).mapM (FJ .bytes);let r←newList us;ret r)):=by kernel_rfl
 rw [e];clear e;generalize FO (x::l)=c at *;rw [AX (S' b c)]
 split
 ·rename_i he;have e:gQ b c 0 b.size=[]:=uv.mp he;rw [Ht];refine wpAny_bind (wpAny_rule (wpAny_bind (wpAny_pure (wpAny_bind (wpAny_newObj_type ?_ (by show ([Value.bytes b t].toArray).size≤_;rw [sizeLine_eq];simp))))));rw [e,Md] at h;exact wpAny_pure ⟨_,rfl,h [.bytes b t] s.toks rfl fun i x u e1 e2=>by
   induction i using dN with
   | zero=>simp at e1 e2;subst e1 e2;exact ⟨_,rfl⟩
   | succ i=>injection e1⟩
 ·refine wpAny_bind (Ge (s:=s) _ hs fun us k hl hu=>?_);refine wpAny_bind (wpAny_newObj_type ?_ (by show us.toArray.size≤_;rw [nH,hl];exact hlen));exact wpAny_pure ⟨_,rfl,h us k hl hu⟩
def PG(id:String):Bytes.takeBufferQuiet? id (.bytes b t) 0=pure (some (b,none)):=by kernel_rfl
theorem Jm{M:Model}{A:Around}{E:Value→Shared→Prop}{s:Shared}{Q:Unit→Shared→Prop}(keep:Qa)(h:Q () s):∀ (l:List (Value×Qo)),(∀ x∈l,x.2=none)→wpAny M A (Bytes.joinLetGo l keep) Q E s
 | [],_=>by show wpAny M A (pure ()) Q E s;exact wpAny_pure h
 | (x,w)::r,hw=>by
  obtain rfl:w=none:=hw (x,w) (by simp);exact wpAny_bind (wpAny_bind (wpAny_holding (wpAny_point (wpAny_pure (Jm keep h r fun y hy=>hw y (by simp [hy]))))))
def m1(motive:Qv→Sort _)(us)(h1 h2)(h: us.size≠1):N0 motive us h1 h2=h2 us:=by delta N0;simp [h]
def m2(motive:Qv→Sort _)(x)(h1 h2):N0 motive #[x] h1 h2=h1 x:=by rfl
def Ox{Q:β→Shared→Prop}{f:Nat→β→Sem (ForInStep β)}(I:Nat→β→Shared→Prop)(step:∀ i c s,i < n→I i c s→wpAny M A (f i c) (fun r s'=>match r with|.done c'=>Q c' s'|.yield c'=>I (i + 1) c' s') E s)(fin:∀ c s,I n c s→Q c s){c:β}(h:I 0 c s):wpAny M A (forIn [0:n] c f) Q E s:=by
 rw [afW];have dh:([0:n]:afX).size=n:=by simp [Std.Legacy.Range.size]
 rw [dh];refine wpAny_forIn_list f (fun l c s=>∃ i k,i + k=n∧l=aea i k 1∧I i c s) Q ?_ ?_ _ c ⟨0,n,xk n,rfl,h⟩
 ·rintro x rest c s ⟨i,k,zt,hl,hI⟩;cases k with
  | zero=>injection hl
  | succ k=>
   obtain ⟨rfl,rfl⟩:=List.cons.inj (hl.trans ad');refine wpAny_mono (step x c s (zt ▸ adX (Ff k)) hI) (fun r s' h'=>?_) fun _ _ h=>h;cases r with
   | done c'=>exact h'
   | yield c'=>exact ⟨x + 1,k,(Nat.succ_add_eq_add_succ x k).trans zt,rfl,h'⟩
 ·rintro c s ⟨i,k,zt,hl,hI⟩;cases k with
  | zero=>cases zt;exact fin _ _ hI
  | succ k=>injection hl
def Yc(ps:List Qu):∀ k:Nat,ps.foldl (fun x y=>x + y.size) k=k + (ps.map Array.size).sum:=by
 induction ps with
 | nil=>intro k;rfl
 | cons x r ih=>intro k;rw [qb,ih];simp;lia
def UU{l:Addr}{us:Qv}{ps:List Qu}(hl:s.heap.get? l=some {cls:=.type "list",data:=.seq us n})(hp:ps.length=us.size)(hu:∀ (i:Nat) x u,ps[i]?=some x→us[i]?=some u→∃ t,u=.bytes x t)(dh:(ps.map Array.size).sum + b.size * ps.length≤sizeLine)(hj:(sj b ps).size≤sizeLine)(h:∀ t' k,Q (.bytes (sj b ps) t') {s with toks:=k}):
  wpAny M A («bytes.join» ⟨[.bytes b t,.ref l],[]⟩) (fun fin s'=>∃ v,fin=.done (.ret v)∧Q v s') E s:=by
 have h1:∀ id:String,selfAndOne id ⟨[.bytes b t,.ref l],[]⟩=pure (.bytes b t,.ref l):=fun _=>by rfl
 have WG:∀ {Q':Value→Shared→Prop},Q' (.ref l) s→wpAny M A (Bytes.joinItems (.ref l)) Q' E s:=fun hq=>by
  exact wpAny_bind (wpAny_typeOf (T:="list") ⟨_,hl,rfl⟩ (wpAny_pure hq))
 have vR:∀ {Q':Option Qv→Shared→Prop},Q' (some us) s→wpAny M A (seqItems? (.ref l)) Q' E s:=fun hq=>wpAny_seqItems hl rfl hq;refine wpAny_bind (wpAny_of_eq (h1 _) ?_);refine wpAny_bind (WG ?_);refine wpAny_bind (vR ?_);refine E3 ?_;rw [if_pos (by rfl)];by_cases hs:us.size=1
 ·refine ay (NI.mp (show us.toList.length=1 from hs)) fun x e=>?_;obtain rfl:us=#[x]:=Oa.mp e;refine ay (NI.mp (show ps.length=1 from hp)) fun p z1=>?_;subst z1;refine ay (hu 0 p x rfl rfl) fun t' z1=>?_;subst z1;rw [m2];refine wpAny_bind (wpAny_typeOf (T:="bytes") (typeIs_bytes _ _ _) ?_);rw [if_pos (by rfl)];refine wpAny_bind (wpAny_rule (wpAny_pure ⟨_,rfl,?_⟩));have:=h t' s.toks;rw [Jk] at this;exact this
 ·rw [m1 _ _ _ _ hs];refine wpAny_bind (Ox (fun i c s'=>s'=s∧c.1.toList=ps.take i∧(∀ x∈c.2,x.2=none∧x.1.onHeap=false)) ?_ ?_ ⟨rfl,rfl,by decide⟩)
  ·intro i ct s' hi cr;obtain ⟨parts,taken⟩:=ct;refine cG cr fun z0=>?_;clear cr;subst z0;intro tB zh;refine wpAny_bind (vR ?_);have tC:(aff==afg||taken.any fun x=>x.fst.onHeap)=false:=by
    rw [show (aff==afg)=false from rfl,afj,A_];intro x hx;rw [(zh x hx).2];exact cN
   refine E3 ?_;rw [if_neg (by rw [tC];exact cN)];refine ay (hu i ps[i] us[i] (by simp [hp,hi]) (by simp [hi])) fun t' tz=>?_;have hx:us.getD i .none=.bytes ps[i] t':=by rw [←tz];simp [hi]
   rw [hx];refine wpAny_bind (wpAny_holding (wpAny_of_eq (PG _ _ _) ?_));refine wpAny_bind (vR ?_);refine E3 ?_;rw [if_neg (by simp)];refine wpAny_pure ⟨rfl,?_,?_⟩
   ·refine (N').trans ?_;rw [tB,List.take_succ,p_ (by lia)];rfl
   ·intro x hx;rcases cy.mp hx with hx|hx
    ·exact zh x hx
    ·simp at hx;subst hx;exact ⟨rfl,rfl⟩
  ·intro ct s' cr;obtain ⟨parts,taken⟩:=ct;refine cG cr fun z0=>?_;clear cr;subst z0;intro tB zh;rw [←hp,mN] at tB;refine wpAny_bind (wpAny_of_eq (Sp b t) ?_);have mx:FH (Array.foldl (fun x1 x2=>x1 + x2.size) (b.size * (parts.size - 1)) parts)=false:=by
    rw [←Array.foldl_toList,tB,Yc];have:parts.size=ps.length:=by rw [←tB];rfl
    rw [this];simp only [FH,decide_eq_false_iff_not];have:b.size * (ps.length - 1)≤b.size * ps.length:=adU _ (AQ _ _);lia
   refine E3 ?_;rw [if_neg (by rw [mx];exact cN),tB];refine wpAny_bind (wpAny_mkBytes ?_ hj);refine wpAny_bind (wpAny_holding (wpAny_point ?_));refine wpAny_bind (Jm _ ?_ _ fun x hx=>(zh x hx).1);exact wpAny_pure ⟨_,rfl,h _ _⟩
end
end
section
open PySem PySem.SeqAt
noncomputable def co:jp→xD
 | .eq=>.Eq|.ne=>.NotEq|.lt=>.Lt|.le=>.LtE|.gt=>.Gt|.ge=>.GtE|.is=>.Is|.iQ=>.IsNot|.aG=>.In|.dg=>.NotIn
section
def PU(x y:Qn):(sv x==sv y)=(x==y):=by
 by_cases h:x=y
 ·subst h;simp
 ·have:sv x≠sv y:=fun e=>h (sF e);rw [beq_eq_false_iff_ne.mpr h,beq_eq_false_iff_ne.mpr this]
def AB{P:Bool→Value→Value→Prop}{e:Bool}(he:dE v v'=some e)(r:ah prog w B.Cl σ h v u)(r':ah prog w B.Cl σ h v' u')(nn:P true .none .none)(nb:∀ b,P false .none (.bool b))(ni:∀ i t,P false .none (.int i t))(ns:∀ l t,P false .none (.str l t))(bn:∀ b,P false (.bool b) .none)(bb:∀ x y:Bool,P (x==y) (.bool x) (.bool y))(bi:∀ (x:Bool) (i:Int) t,P ((if x then 1 else 0)==i) (.bool x) (.int i t))(bs:∀ x l t,P false (.bool x) (.str l t))(xn:∀ i t,P false (.int i t) .none)(ib:∀ (i:Int) t (y:Bool),P (i==(if y then 1 else 0)) (.int i t) (.bool y))(ii:∀ (i:Int) t (j:Int) t',P (i==j) (.int i t) (.int j t'))(xs:∀ i t l t',P false (.int i t) (.str l t'))(sn:∀ l t,P false (.str l t) .none)(sb:∀ l t b,P false (.str l t) (.bool b))(si:∀ l t i t',P false (.str l t) (.int i t'))(ss:∀ (x y:Str) t t',P (x==y) (.str x t) (.str y t')):P e u u':=by
 induction r using ah.casesOn with
 | none=>
  induction r' using ah.casesOn with
  | none=>(injection he with e1;subst e1);exact nn
  | bool b=>(injection he with e1;subst e1);exact nb _
  | int i t=>(injection he with e1;subst e1);exact ni _ _
  | str l t=>(injection he with e1;subst e1);exact ns _ _
  | _=>injection he
 | bool b=>
  induction r' using ah.casesOn with
  | none=>(injection he with e1;subst e1);exact bn _
  | bool b=>(injection he with e1;subst e1);exact bb _ _
  | int i t=>(injection he with e1;subst e1);exact bi _ _ _
  | str l t=>(injection he with e1;subst e1);exact bs _ _ _
  | _=>injection he
 | int i t=>
  induction r' using ah.casesOn with
  | none=>(injection he with e1;subst e1);exact xn _ _
  | bool b=>(injection he with e1;subst e1);exact ib _ _ _
  | int i t=>(injection he with e1;subst e1);exact ii _ _ _ _
  | str l t=>(injection he with e1;subst e1);exact xs _ _ _ _
  | _=>injection he
 | str l t=>
  induction r' using ah.casesOn with
  | none=>(injection he with e1;subst e1);exact sn _ _
  | bool b=>(injection he with e1;subst e1);exact sb _ _ _
  | int i t=>(injection he with e1;subst e1);exact si _ _ _ _
  | str l' t'=>(injection he with e1;subst e1);rw [←PU];exact ss _ _ _ _
  | _=>injection he
 | _=>injection he
def abd{e:Bool}(he:dE v v'=some e)(r:ah prog w B.Cl σ h v u)(r':ah prog w B.Cl σ h v' u'):RcAt A s u u' e:=
 AB (P:=fun e u u'=>RcAt A s u u' e) he r r' .none_none .none_bool .none_int .none_str .bool_none .bool_bool .bool_int .bool_str .int_none .int_bool .int_int .int_str .str_none .str_bool .str_int fun _ _ _ _=>.str_str _ _ _ _
def abc{e:Bool}(he:dE v v'=some e)(r:ah prog w B.Cl σ h v u)(r':ah prog w B.Cl σ h v' u'):RcNeAt A s u u' (!e):=
 AB (P:=fun e u u'=>RcNeAt A s u u' (!e)) he r r' .none_none .none_bool .none_int .none_str .bool_none .bool_bool .bool_int .bool_str .int_none .int_bool .int_int .int_str .str_none .str_bool .str_int fun _ _ _ _=>.str_str _ _ _ _
def Ml{e:Bool}(he:dE v v'=some e)(r:ah prog w B.Cl σ h v u)(r':ah prog w B.Cl σ h v' u'):EqAt A s u u' e:=
 AB (P:=fun e u u'=>EqAt A s u u' e) he r r' (.same _) .none_bool .none_int .none_str .bool_none .bool_bool .bool_int .bool_str .int_none .int_bool .int_int .int_str .str_none .str_bool .str_int fun _ _ _ _=>.str_str _ _ _ _
noncomputable def xS:Value→Value→Bool
 | .none,.none=>true
 | .bool x,.bool y=>x==y
 | .int x _,.int y _=>x==y
 | .str x _,.str y _=>x==y
 | .bool x,.int y _=>(if x then 1 else 0)==y
 | .int x _,.bool y=>x==(if y then 1 else 0)
 | _,_=>false
def EK{e:Bool}(he:dE v v'=some e)(r:ah prog w B.Cl σ h v u)(r':ah prog w B.Cl σ h v' u'):xS u u'=e:=
 AB (P:=fun e u u'=>xS u u'=e) he r r' rfl (fun _=>rfl) (fun _ _=>rfl) (fun _ _=>rfl) (fun _=>rfl) (fun _ _=>rfl) (fun _ _ _=>rfl) (fun _ _ _=>rfl) (fun _ _=>rfl) (fun _ _ _=>rfl) (fun _ _ _ _=>rfl) (fun _ _ _ _=>rfl) (fun _ _=>rfl) (fun _ _ _=>rfl) (fun _ _ _ _=>rfl) fun _ _ _ _=>rfl
noncomputable def BR:Sg→Heap→Bool→Value→Prop:=fun _ _ b u=>u=.bool b
def uX{t:Sem Value}(st:af B A H σ s)(h:∀ (Q:Value→Shared→Prop) (E:Value→Shared→Prop),Q (.bool b) s→wpAny (model prog w) A t Q E s):bp B A s σ (.ok b H) t BR:=
 fun _ _ _ hq _=>h _ _ (hq _ _ b H σ rfl st rfl (.refl _ _))
def Q5{t:Sem Value}(st:af B A H σ s)(h:∀ (Q:Value→Shared→Prop) (E:Value→Shared→Prop),(∀ k,Q (.bool b) {s with toks:=k})→wpAny (model prog w) A t Q E s):bp B A s σ (.ok b H) t BR:=
 fun _ _ _ hq _=>h _ _ fun k=>Pk st rfl hq
def o0(ok:b0 n A):A.units < cLine:=by have:=ok.un;delta cLine;exact iI (AV this) rfl
noncomputable def vF(n:Bool):xD:=if n then .NotIn else .In
noncomputable def fl(n b:Bool):Bool:=if n then !b else b
theorem Mq(x y:PV)(l:Qp):iE x (y::l)=match iE x l,dE y x with
  | some t,some e=>some (e||t)
  | _,_=>none:=rfl
theorem Mr{x:PV}:∀ {l:Qp} {b:Bool},iE x l=some b→(∀ y∈l,∃ e,dE y x=some e)∧b=l.any (fun y=>(dE y x).getD false)
 | [],b,h=>by obtain rfl:=Option.some.inj (show some false=some b from h);exact ⟨fun y hy=>(nomatch hy),rfl⟩
 | y::l,b,h=>by
  rw [Mq] at h;generalize e1:(iE x l)=zz;induction zz using az with
  | none=>rw [e1] at h;simp at h
  | some t=>
   rw [e1] at h;generalize e2:(dE y x)=zz;induction zz using az with
   | none=>rw [e2] at h;simp at h
   | some e=>
    rw [e2] at h;simp at h;have ih:=Mr (x:=x) (l:=l) (b:=t) e1;refine ⟨fun z hz=>?_,?_⟩
    ·rcases cA.mp hz with rfl|hz
     ·exact ⟨e,e2⟩
     ·exact ih.1 z hz
    ·rw [NS,e2,←ih.2];simp [←h]
def Hn{x:PV}{xu:Value}{us:Qv}(rx:ah prog w B.Cl σ s.heap x xu)(r:aK prog w B.Cl σ s.heap l us.toList)(h:iE x l=some b):
  (∀ y∈us,SeqAt.EqAt A s y xu (xS y xu))∧us.any (fun y=>xS y xu)=b:=by
 refine ad (Mr h) fun h1 z1=>?_;subst z1;refine ⟨fun y hy=>?_,?_⟩
 ·refine ay (NJ (Array.mem_toList_iff.mpr hy)) fun i hi=>?_;refine J (r.KG hi) fun v hv rv=>?_;refine ay (h1 v (jP hv)) fun e he=>?_;rw [EK he rv rx];exact Ml he rv rx
 ·rw [←Array.any_toList,qe,uA,uA];constructor
  ·rintro ⟨y,hy,e⟩;refine ay (NJ hy) fun i hi=>?_;refine J (r.KG hi) fun v hv rv=>?_;refine ay (h1 v (jP hv)) fun e' he=>?_;refine ⟨v,jP hv,?_⟩;rw [he,←e,EK he rv rx];rfl
  ·rintro ⟨v,hv,e⟩;refine ay (NJ hv) fun i hi=>?_;refine J (r.get hi) fun y hy rv=>?_;refine ay (h1 v hv) fun e' he=>?_;refine ⟨y,jP hy,?_⟩;refine (EK he rv rx).trans ?_;rw [he] at e;exact e
def Ve{n:Bool}{l:Addr}{us:Qv}{x:Value}{e:Value→Bool}(hl:s.heap.IsList l us)(he:∀ y,y∈us→EqAt A.in1 s y x (e y))(h:Q (.bool (fl n (us.any e))) s):
  wpAny (model prog w) A (compareOp (vF n) x (.ref l)) Q E s:=by
 induction n
 ·exact in_listAt e hl he h
 ·exact notIn_listAt e hl he h
def Vd{n:Bool}{l:Addr}{us:Qv}{x:Value}{e:Value→Bool}(hl:s.heap.IsTuple l us)(he:∀ y,y∈us→EqAt A.in1 s y x (e y))(h:Q (.bool (fl n (us.any e))) s):
  wpAny (model prog w) A (compareOp (vF n) x (.ref l)) Q E s:=by
 induction n
 ·exact in_tupleAt e hl he h
 ·exact notIn_tupleAt e hl he h
def Vf{n:Bool}{d:Addr}{f}{key:Value}{k:Str}(oj:(strKind prog w).is k key=true)(hd:(d==lU)=false)(hm:s.heap.MapOf (strKind prog w) d f)(h:Q (.bool (fl n (f k).isSome)) {s with toks:=s.toks + 1}):wpAny (model prog w) A (compareOp (vF n) key (.ref d)) Q E s:=by
 induction n
 ·exact wpAny_in_of oj hd hm h
 ·exact wpAny_notIn_of oj hd hm h
def IK{b c:Qu}{t u:Tok}:Meets (Builtin.«bytes.__contains__» ⟨[.bytes b t,.bytes c u],[]⟩)
  (fun A R s=>A.handled=none∧∀ h' tk,(∀ a o,s.heap.get? a=some o→h'.get? a=some o)→R (.ok (.ret (.bool (FM b c 0 b.size).isSome))) {s with heap:=h',toks:=tk}):=by
 refine Meets.of_wp fun prog w A R s h=>?_;show wpAny _ _ (do PySem.ret (.bool (←agy _ _ _))) _ _ s;exact wpAny_bind (aai h.1 fun h' tk k=>wpAny_pure ⟨_,rfl,h.2 h' tk k⟩)
def Vg{n:Bool}{b c:Qu}{t u:Tok}(hh:A.handled=none)(h:∀ h' tk,(∀ a o,s.heap.get? a=some o→h'.get? a=some o)→Q (.bool (fl n (FM b c 0 b.size).isSome)) {s with heap:=h',toks:=tk}):
  wpAny (model prog w) A (compareOp (vF n) (.bytes c u) (.bytes b t)) Q E s:=by
 induction n
 ·exact SeqRoads2.in_meets (oN s b t) adw ady (adA _ _) IK ⟨hh,fun h' tk k=>⟨_,rfl,h h' tk k⟩⟩
 ·exact SeqRoads2.notIn_meets (oN s b t) adw ady (adA _ _) IK ⟨hh,fun h' tk k=>⟨_,rfl,h h' tk k⟩⟩
def y5{d:Qm}{kvs:List (Str×Value)}(r:fE prog w B.Cl σ h d kvs)(k:Qn):
  (look k d=none∧valueAt kvs (sv k)=none)∨∃ v u,look k d=some v∧valueAt kvs (sv k)=some u∧ah prog w B.Cl σ h v u:=by
 induction d generalizing kvs with
 | nil=>have:=r.ks;simp at this;subst this;exact .inl ⟨rfl,rfl⟩
 | cons p d ih=>
  obtain ⟨k',v⟩:=p;have iz:=r.ks;induction kvs using bj with
  | nil=>injection iz
  | cons q kvs=>
   obtain ⟨q1,u⟩:=q;simp at iz;refine ad iz ?_;clear iz;intro z0;subst z0;intro iz;by_cases hk:k'=k
   ·subst hk;exact .inr ⟨v,u,if_pos rfl,by simp [valueAt],r.all 0 k' v _ u rfl rfl⟩
   ·have dY:¬ sv k'=sv k:=fun e=>hk (sF e);rcases ih (kvs:=kvs) ⟨iz,fun i a b c d e f=>r.all (i + 1) a b c d e f⟩ with ⟨h1,h2⟩|⟨v',u',h1,h2,h3⟩
    ·refine .inl ⟨by rw [lE,if_neg hk];exact h1,?_⟩;simp only [valueAt,aet,dY,decide_false] at h2⊢;exact h2
    ·refine .inr ⟨v',u',by rw [lE,if_neg hk];exact h1,?_,h3⟩;simp only [valueAt,aet,dY,decide_false] at h2⊢;exact h2
def Mo(a b:Qy):(a.toArray==b.toArray)=(a==b):=by rw [qe];simp
def l7(h:a≠lU):(a==lU)=false:=beq_eq_false_iff_ne.mpr h
def Hi{n:Bool}{k:Nat}(ok:b0 k A)(st:af B A H σ s)(r:ah prog w B.Cl σ s.heap v u)(r':ah prog w B.Cl σ s.heap v' u')(h:isin v v' H=some b):
  bp B A s σ (.ok (fl n b) H) (compareOp (vF n) u u') BR:=by
 delta isin at h;generalize eb:(cP v')=zz;induction zz using az with
 | some x=>
  rw [eb] at h;refine jy eb r' fun t=>?_;dsimp only at h;generalize ec:(cP v)=zz;induction zz using az with
  | none=>rw [ec] at h;injection h
  | some y=>rw [ec] at h;(injection h with e1;subst e1);refine jy ec r fun t'=>?_;exact fun _ _ _ hq _=>Vg ok.hd fun h' tk hk=>hq _ _ _ H σ rfl (st.grow hk) rfl (.grow hk)
 | none=>
  rw [eb] at h;dsimp only at h;generalize et:(o3 v')=zz;induction zz using az with
  | some l=>
   rw [et] at h;obtain rfl:=xX et;cases r' with
   | tup e no sz all=>refine ad (Hn (A:=A.in1) r (nW sz all) h) fun h1 h2=>?_;exact uX st fun Q E hq=>Vd ⟨_,e,rfl,_,rfl⟩ h1 (by rw [h2];exact hq)
  | none=>
   rw [et] at h;dsimp only at h;generalize el:(bV v' H)=zz;induction zz using az with
   | some l=>rw [el] at h;refine dS (as_list st el r') fun a us m z3=>?_;subst z3;intro e rs;refine ad (Hn (A:=A.in1) r rs h) fun h1 h2=>?_;exact uX st fun Q E hq=>Ve ⟨_,e,rfl,_,rfl⟩ h1 (by rw [h2];exact hq)
   | none=>
    rw [el] at h;dsimp only at h;generalize ed:(dZ v' H)=zz;induction zz using az with
    | none=>rw [ed] at h;injection h
    | some d=>
     generalize es:(toStr v)=zz;induction zz using az with
     | none=>rw [ed,es] at h;injection h
     | some ks=>
      rw [ed,es] at h;(injection h with e1;subst e1);refine qp es r fun t=>?_;refine cO (tY st ed r') fun a kvs z2=>?_;subst z2;intro sm e rk;refine Q5 st fun Q E hq=>Vf (k:=sv ks) (by exact beq_self_eq_true _) (l7 sm) e.mapOf ?_;have:(valueAt kvs (sv ks)).isSome=(look ks d).isSome:=by rcases y5 rk ks with ⟨h1,h2⟩|⟨_,_,h1,h2,_⟩<;>rw [h1,h2]<;>rfl
      rw [this];exact hq _
noncomputable def Lk(n:Bool):xD:=if n then .NotEq else .Eq
def B6{n:Bool}(h1:RcAt A s u u' b)(h2:RcNeAt A s u u' (!b))(hq:Q (.bool (fl n b)) s):wpAny (model prog w) A (compareOp (Lk n) u u') Q E s:=by
 induction n
 ·exact h1 prog w E Q hq
 ·exact h2 prog w E Q hq
theorem Ly{x y:Qm}{kx ky:List (Str×Value)}(rx:fE prog w B.Cl σ s.heap x kx)(ry:fE prog w B.Cl σ s.heap y ky)(h:x.foldr (fun kv acc=>match acc,look kv.1 y with
  | some t,some v=>(dE kv.2 v).map (·&&t)
  | some _,.none=>some false
  | .none,_=>.none) (some true)=some b):PySem.W.KeqHits A s ky kx b:=by
 induction x generalizing kx b with
 | nil=>
  have:=rx.ks;simp at this;subst this
  (injection h with e1;subst e1);exact .nil
 | cons p x ih=>
  obtain ⟨k,v⟩:=p;have iz:=rx.ks;induction kx using bj with
  | nil=>injection iz
  | cons q kx=>
   obtain ⟨q1,u⟩:=q;simp at iz;refine ad iz ?_;clear iz;intro z0;subst z0;intro iz;rw [aeq] at h;have JD:=fun b=>ih (kx:=kx) (b:=b) ⟨iz,fun i a b c d e f=>rx.all (i + 1) a b c d e f⟩;generalize hf:(List.foldr _ (some true) x)=acc at h JD;induction acc using az with
   | none=>injection h
   | some t=>
    rcases y5 ry k with ⟨h1,h2⟩|⟨v',u',h1,h2,h3⟩
    ·simp only [h1,No] at h;subst h;exact .miss h2
    ·simp only [h1] at h;generalize he:(dE v v')=zz;induction zz using az with
     | none=>rw [he] at h;injection h
     | some e=>rw [he] at h;(injection h with e1;subst e1);exact .hit h2 (Ml he (rx.all 0 k v _ u rfl rfl) h3) (JD t rfl)
def Zm{P:Prop}(h:eqv v v' H=some b)(h1:∀ x y,cP v=some x→cP v'=some y→(x==y)=b→P)(h2:∀ x y,dZ v H=some x→dZ v' H=some y→wG x y=some b→P)(h3:∀ l,bV v H=some l→bV v' H=some []→l.isEmpty=b→P)(h4:dE v v'=some b→P):P:=by
 have k2:(match bV v H,bV v' H with|some l,some []=>some l.isEmpty|_,_=>dE v v')=some b→P:=by
  intro h;generalize el:(bV v H)=zz;induction zz using az with
  | none=>rw [el] at h;exact h4 h
  | some l=>
   generalize Ec:(bV v' H)=zz;induction zz using az with
   | none=>rw [el,Ec] at h;exact h4 h
   | some l'=>
    rw [el,Ec] at h;induction l' using bj with
    | nil=>exact h3 l el Ec (Option.some.inj h)
    | cons _ _=>exact h4 h
 have k1:(match dZ v H,dZ v' H with|some x,some y=>wG x y|_,_=>match bV v H,bV v' H with|some l,some []=>some l.isEmpty|_,_=>dE v v')=some b→P:=by
  intro h;generalize ed:(dZ v H)=zz;induction zz using az with
  | none=>rw [ed] at h;exact k2 h
  | some x=>
   generalize Ed:(dZ v' H)=zz;induction zz using az with
   | none=>rw [ed,Ed] at h;exact k2 h
   | some y=>rw [ed,Ed] at h;exact h2 x y ed Ed h
 delta eqv at h;generalize eb:(cP v)=zz;induction zz using az with
 | none=>rw [eb] at h;exact k1 h
 | some x=>
  generalize Ee:(cP v')=zz;induction zz using az with
  | none=>rw [eb,Ee] at h;exact k1 h
  | some y=>rw [eb,Ee] at h;exact h1 x y eb Ee (Option.some.inj h)
def Hj{n:Bool}{k:Nat}(ok:b0 k A)(st:af B A H σ s)(r:ah prog w B.Cl σ s.heap v u)(r':ah prog w B.Cl σ s.heap v' u')(h:eqv v v' H=some b):
  bp B A s σ (.ok (fl n b) H) (compareOp (Lk n) u u') BR:=by
 refine uX st fun Q E hq=>Zm h (fun x y ex ey e=>?_) (fun x y ex ey h=>?_) (fun l ex ey e=>?_) fun h=>B6 (abd h r r') (abc h r r') hq
 ·refine jy ex r fun t=>?_;refine jy ey r' fun t'=>?_;subst e;induction n
  ·exact PySem.W.eq_bytes hq
  ·exact PySem.W.ne_bytes hq
 ·(refine cO (tY st ex r) fun a ka z2=>?_;subst z2;intro sa ea ra)
  refine cO (tY st ey r') fun a' kb z2=>?_;subst z2;intro sb eb rb;have zo:ka.length=x.length:=(aQ _).symm.trans ((congrArg i7 ra.ks).trans (aQ _));have J9:kb.length=y.length:=(aQ _).symm.trans ((congrArg i7 rb.ks).trans (aQ _));by_cases hlen:x.length=y.length
  ·have h:=(if_neg (not_not_intro hlen)).symm.trans h;have key:(ka.length==kb.length&&b)=b:=by rw [zo,J9,hlen,beq_self_eq_true];rfl
   induction n
   ·exact ado (l7 sa) (l7 sb) ea eb (o0 ok) (fun _=>Ly ra rb h) (by rw [key];exact hq)
   ·exact adn (l7 sa) (l7 sb) ea eb (o0 ok) (fun _=>Ly ra rb h) (by rw [key];exact hq)
  ·generalize ((if_pos hlen:(if x.length≠y.length then some false else _)=_).symm.trans h)=zz
   (injection zz with e1;subst e1)
   have V:¬ ka.length=kb.length:=by rw [zo,J9];exact hlen
   have key:(ka.length==kb.length&&true)=false:=by rw [beq_eq_false_iff_ne.mpr V];rfl
   induction n
   ·exact ado (r:=true) (l7 sa) (l7 sb) ea eb (o0 ok) (fun e=>absurd e V) (by rw [key];exact hq)
   ·exact adn (r:=true) (l7 sa) (l7 sb) ea eb (o0 ok) (fun e=>absurd e V) (by rw [key];exact hq)
 ·subst e;refine dS (as_list st ex r) fun a us m z3=>?_;subst z3;intro e rs;refine dS (as_list st ey r') fun a' dX m' z3=>?_;subst z3;intro e' yq;obtain rfl:dX=#[]:=xI yq.sz.symm;induction l using bj with
  | nil=>
   obtain rfl:us=#[]:=xI rs.sz.symm;exact B6 (b:=true) (RcAt.lists (items:=#[]) (items2:=#[]) (e:=fun _=>true) ⟨_,e,rfl,_,rfl⟩ ⟨_,e',rfl,_,rfl⟩ rfl (o0 ok) fun j h1=>absurd h1 (xm _))
    (RcNeAt.lists (items:=#[]) (items2:=#[]) (e:=fun _=>true) ⟨_,e,rfl,_,rfl⟩ ⟨_,e',rfl,_,rfl⟩ rfl (o0 ok) fun j h1=>absurd h1 (xm _)) hq
  | cons x l=>
   have hz:(us.size != (#[]:Qv).size)=true:=by rw [show us.size=(x::l).length from rs.sz.symm];rfl
   exact B6 (b:=false) (RcAt.lists_lengths ⟨_,e,rfl,_,rfl⟩ ⟨_,e',rfl,_,rfl⟩ hz (o0 ok)) (RcNeAt.lists_lengths ⟨_,e,rfl,_,rfl⟩ ⟨_,e',rfl,_,rfl⟩ hz (o0 ok)) hq
noncomputable def Js(n:Bool):xD:=if n then .IsNot else .Is
def H5{n:Bool}(hp:plainIs u u'=true)(hb:(u==u')=b)(hq:Q (.bool (fl n b)) s):wpAny (model prog w) A (compareOp (Js n) u u') Q E s:=by
 induction n
 ·exact wpAny_is_plain hp (by rw [hb];exact hq)
 ·exact wpAny_isNot_plain hp (by rw [hb];exact hq)
def Hh{n:Bool}(st:af B A H σ s)(r:ah prog w B.Cl σ s.heap v u)(r':ah prog w B.Cl σ s.heap v' u')(h:vD v v'=some b):
  bp B A s σ (.ok (fl n b) H) (compareOp (Js n) u u') BR:=by
 refine uX st fun Q E hq=>?_;have two:∀ x y:Bool,plainIs (.bool x) (.bool y)=true∧((Value.bool x==Value.bool y)=(x==y)):=fun x y=>by induction x<;>induction y<;>exact ⟨rfl,rfl⟩
 induction r' using ah.casesOn<;>first|((first|(injection h;done)|(injection h with e1;subst e1));done)|(induction r using ah.casesOn<;>(first|(injection h;done)|(injection h with e1;subst e1))<;>first|exact H5 (by rfl) (by rfl) hq|exact H5 (two _ _).1 (two _ _).2 hq)
def QJ{o:jp}{i j:Int}{t:Tok}(st:af B A H σ s)(h:vd o i j=some b):bp B A s σ (.ok b H) (compareOp (co o) (.int i t) (.int j t')) BR:=by
 refine uX st fun Q E hq=>?_;induction o<;>(first|(injection h;done)|(injection h with e1;subst e1))
 ·exact PySem.P.lt_int hq
 ·exact PySem.P.le_int hq
 ·exact PySem.P.gt_int hq
 ·exact PySem.P.ge_int hq
set_option tactic.hygienic true in
def sN{o:jp}{k:Nat}(ok:b0 k A)(st:af B A H σ s)(r:ah prog w B.Cl σ s.heap v u)(r':ah prog w B.Cl σ s.heap v' u'):
  bp B A s σ (R.of (bU o v v' H) H) (compareOp (co o) u u') BR:=by
 generalize hb:(bU o v v' H)=zz;induction zz using az with
 | none=>exact .no
 | some b=>
  rw [R.SU];have yD:∀ o,(match toInt v,toInt v' with|some i,some j=>vd o i j|_,_=>none)=some b→bp B A s σ (.ok b H) (compareOp (co o) u u') BR:=by
   intro o h;generalize e1:(toInt v)=zz;induction zz using az with
   | none=>rw [e1] at h;injection h
   | some i=>
    rw [e1] at h;generalize e2:(toInt v')=zz;induction zz using az with
    | none=>rw [e2] at h;injection h
    | some j=>rw [e2] at h;refine lZ e1 r fun t=>?_;refine lZ e2 r' fun t'=>?_;exact QJ st h
  induction o with
  | eq=>exact Hj (n:=false) ok st r r' hb
  | ne=>replace hb:=dG.mp (show (_:Option Bool).map (!·)=some b from hb);refine J hb ?_;clear hb;intro b' hb z2;subst z2;exact Hj (n:=true) ok st r r' hb
  | «is»=>exact Hh (n:=false) st r r' hb
  | iQ=>replace hb:=dG.mp (show (_:Option Bool).map (!·)=some b from hb);refine J hb ?_;clear hb;intro b' hb z2;subst z2;exact Hh (n:=true) st r r' hb
  | aG=>exact Hi (n:=false) ok st r r' hb
  | dg=>replace hb:=dG.mp (show (_:Option Bool).map (!·)=some b from hb);refine J hb ?_;clear hb;intro b' hb z2;subst z2;exact Hi (n:=true) ok st r r' hb
  | lt=>exact yD _ hb
  | le=>exact yD _ hb
  | gt=>exact yD _ hb
  | ge=>exact yD _ hb
end
end
section
set_option backward.match.sparseCases true
open PySem
section
def o5{o i:Value}{id:String}(hl:typeLookup (.type T) "__getitem__"=pure (some (.builtin id)))(hT:s.TypeIs o T)(h:wpAny (model prog w) A (getItem o i) Q E s):
  wpAny (model prog w) A (do standAt p;let r←E4 slice (←E5 o) o i;letTemporaryGo value o r;pure r) Q E s:=by
 refine wpAny_bind (wpAny_standAt (wpAny_bind ?_));rw [getitemInPython_of_ne hT.not_modules];refine wpAny_bind (wpAny_specialOf hT hl ?_);have fin:∀ l,wpAny (model prog w) A (operate l (getItem o i)) (fun r bz=>wpAny (model prog w) A (letTemporaryGo value o r>>=fun _=>pure r) Q E bz) E s:=fun l=>
  wpAny_operating (wpAny_mono h (fun r bz kH=>wpAny_bind (wpAny_letTemporaryGo (wpAny_pure kH))) fun _ _ x=>x)
 refine wpAny_pure (wpAny_bind ?_);induction slice using jv with
 | Slice a b c q=>induction c using az<;>exact fin _
 | _=>exact fin _
def C2{l:List α}{i:Int}{x:α}(h:mv l i=some x):-1000000000≤i∧i≤1000000000∧∃ k,seqIndex? i l.length=some k∧l[k]?=some x:=by
 delta mv at h;by_cases h1:i < -1000000000
 ·injection ((if_pos h1).symm.trans h)
 ·replace h:=(if_neg h1).symm.trans h;by_cases h2:1000000000 < i
  ·injection ((if_pos h2).symm.trans h)
  ·exact ⟨NT.mp h1,NT.mp h2,bO ((if_neg h2).symm.trans h)⟩
def Rk{i:Int}{k:Nat}(h:seqIndex? i n=some k):(0≤i∧k=i.toNat∧i < n)∨(i < 0∧-(n:Int)≤i∧k=(i + n).toNat):=by
 have key:∀ j:Int,(if (decide (0≤j)&&decide (j < (n:Int)))=true then some j.toNat else none)=some k→0≤j∧j < n∧k=j.toNat:=fun j h=>by
  by_cases q:(decide (0≤j)&&decide (j < (n:Int)))=true
  ·exact ⟨of_decide_eq_true (aL q),of_decide_eq_true (aR q),(Option.some.inj ((if_pos q).symm.trans h)).symm⟩
  ·injection ((if_neg q).symm.trans h)
 refine cG (key (if i < 0 then i + n else i) h) fun k1 k2 k3=>?_;by_cases h0:i < 0
 ·rw [if_pos h0] at k1 k2 k3;exact .inr ⟨h0,by lia,k3⟩
 ·rw [if_neg h0] at k1 k2 k3;exact .inl ⟨k1,k3,k2⟩
def X1{b:Qu}{i:Int}{k:Nat}{c:UInt8}{t u:Tok}(h1:-1000000000≤i)(h2:i≤1000000000)(hk:seqIndex? i b.size=some k)(hx:b[k]?=some c)(h:Q (.int c.toNat s.toks) {s with toks:=s.toks + 1}):wpAny (model prog w) A (getItem (.bytes b t) (.int i u)) Q E s:=by
 refine getItem_gives (oN s _ t) (by decide) E_ adx (adz _ _) (PySem.W.gives_bytes_getitem _ i t u c ?_ ?_) h
 ·simp only [agx,i8,decide_eq_true_eq];lia
 ·rw [hk];exact hx
def l9{t:Sem Value}(st:af B A H σ s)(h:∀ (Q E:Value→Shared→Prop),(∀ u k,ah prog w B.Cl σ s.heap v u→Q u {s with toks:=k})→wpAny (model prog w) A t Q E s):bp B A s σ (.ok v H) t (VR B):=
 fun _ _ _ hq _=>h _ _ fun u k r=>jx st r hq
def XX{P:Prop}{k x:PV}(h:kM v k H=some x)(h1:∀ j l c,toInt k=some j→cP v=some l→mv l j=some c→x=.int c.toNat→P)(h2:∀ j l,toInt k=some j→o3 v=some l→mv l j=some x→P)(h3:∀ j l,toInt k=some j→bV v H=some l→mv l j=some x→P)(h4:∀ ks d,toStr k=some ks→dZ v H=some d→look ks d=some x→P):P:=by
 delta kM at h;generalize ei:(toInt k)=zz;induction zz using az with
 | some j=>
  rw [ei] at h;dsimp only at h;generalize eb:(cP v)=zz;induction zz using az with
  | some l=>
   rw [eb] at h;dsimp only at h;by_cases hl:l.length≤aC
   ·refine J (dG.mp ((if_pos hl).symm.trans h)) fun c hc e=>?_;exact h1 j l c ei eb hc e.symm
   ·injection ((if_neg hl).symm.trans h)
  | none=>
   rw [eb] at h;dsimp only at h;generalize et:(o3 v)=zz;induction zz using az with
   | some l=>rw [et] at h;exact h2 j l ei et h
   | none=>rw [et] at h;refine J (bO h) fun l el h=>?_;exact h3 j l ei el h
 | none=>
  rw [ei] at h;dsimp only at h;generalize es:(toStr k)=zz;induction zz using az with
  | none=>rw [es] at h;injection h
  | some ks=>rw [es] at h;refine J (bO h) fun d ed h=>?_;exact h4 ks d es ed h
def QW{k x:PV}{i:Value}(st:af B A H σ s)(r:ah prog w B.Cl σ s.heap v u)(r':ah prog w B.Cl σ s.heap k i):
  bp B A s σ (R.of (kM v k H) H) (do standAt p;let r←E4 slice (←E5 u) u i;letTemporaryGo value u r;pure r) (VR B):=by
 generalize hx:(kM v k H)=zz;induction zz using az with
 | none=>exact .no
 | some x=>
  refine l9 st fun Q E hq=>XX hx (fun j l c ei eb hc e=>?_) (fun j l ei et hc=>?_) (fun j l ei el hc=>?_) fun ks d es ed hl=>?_
  ·refine lZ ei r' fun t=>?_;refine jy eb r fun t'=>?_;refine cG (C2 hc) fun h1 h2 z3=>?_;refine J z3 fun k h3 h4=>?_;clear z3;exact o5 E_.lookup (oN s _ _) (X1 h1 h2 h3 (List.getElem?_toArray.trans h4) (hq _ _ (e ▸ ah.int _ _)))
  ·refine lZ ei r' fun t=>?_;obtain rfl:=xX et;refine cG (C2 hc) fun h1 h2 z3=>?_;refine J z3 fun k h3 h4=>?_;clear z3;cases r with
   | @tup _ a us n e no sz all=>refine J ((nW sz all).get h4) fun y hy ry=>?_;exact o5 F.slot_tuple_getitem.lookup ⟨_,e,rfl⟩ (PySem.P.getItem_tuple (n:=n) (by exact e) (by exact iL h1 rfl) (by lia) (by rw [←sz];exact h3) (qf.symm.trans hy) (hq _ s.toks ry))
  ·refine lZ ei r' fun t=>?_;refine dS (as_list st el r) fun a us n z3=>?_;subst z3;intro e rs;refine cG (C2 hc) fun h1 h2 z3=>?_;refine J z3 fun k h3 h4=>?_;clear z3;refine J (rs.get h4) fun y hy ry=>?_;have hs:l.length=us.size:=rs.sz;have vL:us[k]?=some y:=qf.symm.trans hy;have fN:s.heap.IsList a us:=⟨_,e,rfl,_,rfl⟩;refine o5 M1.lookup ⟨_,e,rfl⟩ ?_;rcases Rk h3 with ⟨h0,rfl,h5⟩|⟨h0,h5,rfl⟩
   ·exact wpAny_getItem_list fN h0 (by lia) vL (hq _ s.toks ry)
   ·exact wpAny_getItem_list_neg fN h0 (by lia) (by lia) (hs ▸ vL) (hq _ s.toks ry)
  ·refine qp es r' fun t=>?_;refine cO (tY st ed r) fun a kvs z2=>?_;subst z2;intro sm e rk;rcases y5 rk ks with ⟨h1,_⟩|⟨v',u',h1,h2,h3⟩
   ·injection (h1.symm.trans hl)
   ·obtain rfl:v'=x:=Option.some.inj (h1.symm.trans hl);refine dS (id e) fun od j7 ep e1 ex e2=>?_;exact o5 F.slot_dict_getitem.lookup ⟨_,e1,ex.1⟩ (wpAny_getItem_of (k:=sv ks) (by exact beq_self_eq_true _) e.mapOf h2 (hq _ _ h3))
def aaF(z:Int)(m:Nat):(max 0 (min z (m:Int))).toNat=min z.toNat m:=by
 by_cases h:z≤m
 ·rw [Int.min_eq_left h,AU (aeJ.mpr h)];by_cases q:(0:Int)≤z
  ·rw [aeM q]
  ·have q:=aeQ (aeL.mp q);rw [Int.max_eq_left q,Int.toNat_of_nonpos q];rfl
 ·have h:=aeQ (aeL.mp h);rw [Int.min_eq_right h,aeM (xz m),Nat.min_eq_right ((Int.le_toNat (aeO (xz m) h)).mpr h)];rfl
def Ai(n:Nat)(i:Int):(if i < 0 then n - (-i).toNat else min i.toNat n)=clipAt n i:=by
 refine Eq.trans ?_ (aaF _ n).symm;by_cases h:i < 0
 ·rw [if_pos h,if_pos h];obtain ⟨k,rfl⟩:=Int.eq_negSucc_of_lt_zero h;rw [Int.add_comm,show (n:Int) + Int.negSucc k=(n:Int) - (k + 1:Nat) from rfl,Int.toNat_sub];exact (AU (AQ _ _)).symm
 ·rw [if_neg h,if_neg h]
def Aj(m n:Nat):clipAt m (n:Int)=min n m:=(Ai m n).symm.trans (if_neg iN)
def UD(l:Option Int)(n:Nat):PySem.W.kms_lo l n=l.elim 0 (clipAt n):=by
 induction l using az with
 | none=>rfl
 | some i=>exact Ai n i
def UE(l:Option Int)(n:Nat):PySem.W.kms_hi l n=l.elim n (clipAt n):=by
 induction l using az with
 | none=>rfl
 | some i=>exact Ai n i
def part_of{x:Option Int}(e:part v=some x)(r:ah prog w B.Cl σ h v u):IsPart u x:=by
 induction r using ah.casesOn<;>first|(injection (show (none:Option (Option Int))=some x from e);done)|obtain rfl:=Option.some.inj (show some _=some x from e)
 ·exact .none
 ·exact .int _ _
def Hd{ul uh us:Value}(st:af B A H σ s)(h:∀ g i,(∀ b o,s.heap.get? b=some o→g.get? b=some o)→g.IsSliceOf i ul uh us→af B A H σ {s with heap:=g}→Q (.ref i) {s with heap:=g}):
  wpAny (model prog w) A (newFields "slice" [ul,uh,us]) Q E s:=
 wpAny_newObj_type (h _ _ (iq _) (agn ..) (st.grow (k:=s.toks) (iq _)))
def RR{us:Qv}(rs:aK prog w B.Cl σ h xs us.toList)(l hi:Option Int):aK prog w B.Cl σ h (cut xs l hi) (slicePick us l hi none).toList:=by
 have e:slicePick us l hi none=(cut us.toList l hi).toArray:=by rw [PySem.W.kms_pick_eq];delta PySem.W.kms_pick cut;rw [UD,UE]
 rw [e];delta cut;rw [←rs.sz];refine ⟨by simp only [kj,xw,rs.sz],fun i v u a b=>?_⟩;by_cases q:i < hi.elim xs.length (clipAt xs.length) - l.elim 0 (clipAt xs.length)
 ·exact rs.all _ v u (aep.symm.trans ((aeo q).symm.trans a)) (aep.symm.trans ((aeo q).symm.trans b))
 ·injection ((List.getElem?_take_eq_none (ui q)).symm.trans a)
def QD{lo hi:PV}{ul uh:Value}{a b:Option Expr}(st:af B A H σ s)(r:ah prog w B.Cl σ s.heap v u)(r1:ah prog w B.Cl σ s.heap lo ul)(r2:ah prog w B.Cl σ s.heap hi uh):
  R.of (gU v lo hi H) H≠.no→∀ Q E,fR B A s σ (R.of (gU v lo hi H) H) (VR B) Q→wpAny (model prog w) A (newFields "slice" [ul,uh,.none]) (fun i s'=>wpAny (model prog w) A (do standAt p;let r←E4 (.Slice a b none q) (←E5 u) u i;letTemporaryGo value u r;pure r) Q E s') E s:=by
 generalize hx:(gU v lo hi H)=zz;induction zz using az with
 | none=>exact fun h=>absurd rfl h
 | some x=>
  delta gU at hx;generalize el:(part lo)=zz;induction zz using az with
  | none=>rw [el] at hx;injection hx
  | some l=>
  generalize eh:(part hi)=zz;induction zz using az with
  | none=>rw [el,eh] at hx;injection hx
  | some h=>
  rw [el,eh] at hx;dsimp only at hx;have p1:=part_of el r1;have p2:=part_of eh r2;intro _ Q E hq;refine Hd st fun g i hk gu a_=>?_;generalize eb:(cP v)=zz;induction zz using az with
  | some bs=>
   rw [eb] at hx;refine jy eb r fun t=>?_;by_cases bY:bs.length≤aC
   ·obtain rfl:=Option.some.inj ((if_pos bY).symm.trans hx);exact o5 E_.lookup (oN _ _ _) (getItem_meets (oN _ _ _) (by decide) E_ adx (adz _ _)
     (af3 bs.toArray t _ p1 p2) ⟨gu,aB (af1 _ _ _) (by rw [sizeLine_eq];exact bY),fun t' k=>jx a_ (by rw [af2];exact .bytes _ _) (fR.next hq (.grow hk))⟩)
   ·injection ((if_neg bY).symm.trans hx)
  | none=>
   rw [eb] at hx;dsimp only at hx;generalize wD:(bV v H)=zz;induction zz using az with
   | none=>rw [wD] at hx;injection hx
   | some xs=>
    rw [wD] at hx;by_cases bY:xs.length≤aC
    ·obtain rfl:=Option.some.inj ((if_pos bY).symm.trans hx);refine dS (as_list st wD r) fun a us n z3=>?_;subst z3;intro e rs;have e':=hk _ _ e;have hl:(cut xs l h).length≤aC:=aB (by delta cut;rw [kj,xw];exact aB (AR _ _) (AQ _ _)) bY;exact o5 M1.lookup ⟨_,e',rfl⟩ (wpAny_getItem_list_slice ⟨_,e',rfl,_,rfl⟩ gu p1 p2 .none (by simp)
      (KV a_ hl (iq {cls:=.type "list",data:=.seq (slicePick us l h none)}) (fA _) (eu _ rfl) (RR (rs.grow hk) l h) (fR.next hq (.grow hk))) (by rw [sizeLine_eq];exact aB (dM rs.sz.symm) bY))
    ·injection ((if_neg bY).symm.trans hx)
def QE{m:Bool}{a:Option Expr}{q:Pos}{av:Value}(cC:IsPart av (some (-1)))(st:af B A H σ s)(r:ah prog w B.Cl σ s.heap v u):
  (match bV v H with|some l=>fL m l.reverse H|.none=>.no)≠.no→∀ Q E,fR B A s σ (match bV v H with|some l=>fL m l.reverse H|.none=>.no) (VR B) Q→wpAny (model prog w) A (newFields "slice" [.none,.none,av]) (fun i s'=>wpAny (model prog w) A (do standAt p;let r←E4 slice (←E5 u) u i;letTemporaryGo value u r;pure r) Q E s') E s:=by
 generalize wD:(bV v H)=zz;induction zz using az with
 | none=>exact fun h=>absurd rfl h
 | some xs=>
  intro V Q E hq;refine dS (as_list st wD r) fun a us n z3=>?_;subst z3;intro e rs;refine Hd st fun g i hk gu a_=>?_;have e':=hk _ _ e;refine o5 M1.lookup ⟨_,e',rfl⟩ (wpAny_getItem_list_slice ⟨_,e',rfl,_,rfl⟩ gu .none .none cC (by simp)
   (vr (m:=m) a_ V (iq {cls:=.type "list",data:=.seq (slicePick us none none (some (-1)))}) (fA _) (eu _ rfl) ?_ (fR.next hq (.grow hk))) (by rw [sizeLine_eq];exact aB (dM (rs.sz.symm.trans i6.symm)) (yO (l:=xs.reverse) V).1))
  rw [PySem.W.krv_pick,ad5];have rg:=rs.grow hk;refine ⟨by rw [i6,i6];exact rg.sz,fun i v u a b=>?_⟩;have hi:=(cF.mp a).1;have gK:=(cF.mp b).1;rw [i6] at hi gK;replace a:=(Fu hi).symm.trans a;replace b:=(Fu gK).symm.trans b;rw [←rg.sz] at b;exact rg.all _ v u a b
end
end
namespace MF
open PySem PySem.W PySem.Builtin
def Hb:nE "bytes" "find" "bytes.find":=
 .of (owner:="bytes") (n:="find") (by rw [ki,builtinLookup_eq_fast];kernel_rfl) (by decide +kernel) (by decide +kernel) (by decide +kernel)
  (by first|exact .inl (by decide +kernel)|exact .inr (by decide +kernel)) (by rw [nD];kernel_rfl)
def OX:typeOf (.builtin "bytes.find")=pure (.type "method_descriptor"):=by show rZ _=_;rw [rY];kernel_rfl
def Zw:entryFor table "bytes.find"=some Builtin.«bytes.find»:=pZ (by kernel_rfl)
def abp(a b:Value):iH "bytes.find" ⟨[a,b],[]⟩:=by unfold iH;rw [t8 (id:="bytes.find") (n:=['d','n','i','f']) (o:=['s','e','t','y','b']) (by kernel_rfl) uD];kernel_rfl
def G9:nE "bytes" "rfind" "bytes.rfind":=
 .of (owner:="bytes") (n:="rfind") (by rw [ki,builtinLookup_eq_fast];kernel_rfl) (by decide +kernel) (by decide +kernel) (by decide +kernel)
  (by first|exact .inl (by decide +kernel)|exact .inr (by decide +kernel)) (by rw [nD];kernel_rfl)
def OU:typeOf (.builtin "bytes.rfind")=pure (.type "method_descriptor"):=by show rZ _=_;rw [rY];kernel_rfl
def Zt:entryFor table "bytes.rfind"=some Builtin.«bytes.rfind»:=pZ (by kernel_rfl)
def abl(a b:Value):iH "bytes.rfind" ⟨[a,b],[]⟩:=by unfold iH;rw [t8 (id:="bytes.rfind") (n:=['d','n','i','f','r']) (o:=['s','e','t','y','b']) (by kernel_rfl) uD];kernel_rfl
def Hc:nE "bytes" "count" "bytes.count":=
 .of (owner:="bytes") (n:="count") (by rw [ki,builtinLookup_eq_fast];kernel_rfl) (by decide +kernel) (by decide +kernel) (by decide +kernel)
  (by first|exact .inl (by decide +kernel)|exact .inr (by decide +kernel)) (by rw [nD];kernel_rfl)
def OY:typeOf (.builtin "bytes.count")=pure (.type "method_descriptor"):=by show rZ _=_;rw [rY];kernel_rfl
def Zx:entryFor table "bytes.count"=some Builtin.«bytes.count»:=pZ (by kernel_rfl)
def abq(a b:Value):iH "bytes.count" ⟨[a,b],[]⟩:=by unfold iH;rw [t8 (id:="bytes.count") (n:=['t','n','u','o','c']) (o:=['s','e','t','y','b']) (by kernel_rfl) uD];kernel_rfl
def G_:nE "bytes" "replace" "bytes.replace":=
 .of (owner:="bytes") (n:="replace") (by rw [ki,builtinLookup_eq_fast];kernel_rfl) (by decide +kernel) (by decide +kernel) (by decide +kernel)
  (by first|exact .inl (by decide +kernel)|exact .inr (by decide +kernel)) (by rw [nD];kernel_rfl)
def OV:typeOf (.builtin "bytes.replace")=pure (.type "method_descriptor"):=by show rZ _=_;rw [rY];kernel_rfl
def Zu:entryFor table "bytes.replace"=some Builtin.«bytes.replace»:=pZ (by kernel_rfl)
def abm(a b c:Value):iH "bytes.replace" ⟨[a,b,c],[]⟩:=by unfold iH;rw [t8 (id:="bytes.replace") (n:=['e','c','a','l','p','e','r']) (o:=['s','e','t','y','b']) (by kernel_rfl) uD];kernel_rfl
def G8:nE "bytes" "split" "bytes.split":=
 .of (owner:="bytes") (n:="split") (by rw [ki,builtinLookup_eq_fast];kernel_rfl) (by decide +kernel) (by decide +kernel) (by decide +kernel)
  (by first|exact .inl (by decide +kernel)|exact .inr (by decide +kernel)) (by rw [nD];kernel_rfl)
def OT:typeOf (.builtin "bytes.split")=pure (.type "method_descriptor"):=by show rZ _=_;rw [rY];kernel_rfl
def Zs:entryFor table "bytes.split"=some Builtin.«bytes.split»:=pZ (by kernel_rfl)
def abk(a b:Value):iH "bytes.split" ⟨[a,b],[]⟩:=by unfold iH;rw [t8 (id:="bytes.split") (n:=['t','i','l','p','s']) (o:=['s','e','t','y','b']) (by kernel_rfl) uD];kernel_rfl
def G7:nE "bytes" "strip" "bytes.strip":=
 .of (owner:="bytes") (n:="strip") (by rw [ki,builtinLookup_eq_fast];kernel_rfl) (by decide +kernel) (by decide +kernel) (by decide +kernel)
  (by first|exact .inl (by decide +kernel)|exact .inr (by decide +kernel)) (by rw [nD];kernel_rfl)
def OS:typeOf (.builtin "bytes.strip")=pure (.type "method_descriptor"):=by show rZ _=_;rw [rY];kernel_rfl
def Zr:entryFor table "bytes.strip"=some Builtin.«bytes.strip»:=pZ (by kernel_rfl)
def abj(a b:Value):iH "bytes.strip" ⟨[a,b],[]⟩:=by unfold iH;rw [t8 (id:="bytes.strip") (n:=['p','i','r','t','s']) (o:=['s','e','t','y','b']) (by kernel_rfl) uD];kernel_rfl
def Ha:nE "bytes" "join" "bytes.join":=
 .of (owner:="bytes") (n:="join") (by rw [ki,builtinLookup_eq_fast];kernel_rfl) (by decide +kernel) (by decide +kernel) (by decide +kernel)
  (by first|exact .inl (by decide +kernel)|exact .inr (by decide +kernel)) (by rw [nD];kernel_rfl)
def OW:typeOf (.builtin "bytes.join")=pure (.type "method_descriptor"):=by show rZ _=_;rw [rY];kernel_rfl
def Zv:entryFor table "bytes.join"=some Builtin.«bytes.join»:=pZ (by kernel_rfl)
def abo(a b:Value):iH "bytes.join" ⟨[a,b],[]⟩:=by unfold iH;rw [t8 (id:="bytes.join") (n:=['n','i','o','j']) (o:=['s','e','t','y','b']) (by kernel_rfl) uD];kernel_rfl
end MF
section
open PySem
noncomputable def idOf:BM→String
 | .append=>"list.append"|.nt=>"bytearray.append"|.extend=>"list.extend"|.pop=>"list.pop"|.sort=>"list.sort"|.get=>"dict.get"
 | .find=>"bytes.find"|.rfind=>"bytes.rfind"|.count=>"bytes.count"|.starts=>"bytes.startswith"|.ends=>"bytes.endswith"
 | .replace=>"bytes.replace"|.split=>"bytes.split"|.strip=>"bytes.strip"|.join=>"bytes.join"|.pq=>"str.join"
section
def Cc{p:Addr×Addr}(hn:σ.t[n]?=some p)(a1:∃ o,h'.get? p.1=some o)(hk:∀ b ob,b≠p.1→h.get? b=some ob→h'.get? b=some ob):aJ cq h σ h' σ:=by
 have g7:=dC hn;refine ⟨fun b ob hb _ e=>⟨ob,hk b ob (fun q=>hb (q ▸ g7.1)) e,.refl ob⟩,⟨[],by simp⟩,rfl,fun b hb=>.inl hb,fun b ob e=>?_⟩;by_cases h1:b=p.1
 ·subst h1;exact a1
 ·exact ⟨ob,hk b ob h1 e⟩
def oJ(r:ah prog w B.Cl σ s.heap (.loc n) u):∃ p,u=.ref p.1∧σ.t[n]?=some p:=by
 cases r with
 | loc e=>exact ⟨_,rfl,e⟩
def tX{p:Addr×Addr}(st:af B A H σ s)(hn:σ.t[n]?=some p)(hl:H[n]?=some (.list l)):
  p.2=p.1∧∃ us k,s.heap.get? p.1=some {cls:=.type "list",data:=.seq us k}∧aK prog w B.Cl σ s.heap l us.toList∧us.size=l.length:=by
 refine ad (st.inv.obj _ _ _ hl hn) fun e z2=>?_;refine ch z2 fun us k h1 h2=>?_;clear z2;exact ⟨e,us,k,h1,h2,by have:=h2.sz;simpa using this.symm⟩
def set_list{k:Nat}{p:Addr×Addr}{us:Qv}{g:Qv→Qv}(st:af B A H σ s)(hn:σ.t[n]?=some p)(hp:p.2=p.1)(e:s.heap.get? p.1=some {cls:=.type "list",data:=.seq us k})(r:aK prog w B.Cl σ s.heap l' (g us).toList):
  af B A (H.set n (.list l')) σ {s with heap:=s.heap.update p.1 (mK g),toks:=k'}∧aJ cq s.heap σ (s.heap.update p.1 (mK g)) σ:=by
 have e':=adJ (c:="list") e g;have hk:∀ b ob,b≠p.1→s.heap.get? b=some ob→(s.heap.update p.1 (mK g)).get? b=some ob:=fun b ob hb h=>xB _ (Ne.symm hb) h;have P:=Cc (σ:=σ) hn ⟨_,e'⟩ hk;exact st.set k' hn ⟨_,e'⟩ (by rw [hp];exact ⟨_,e'⟩) (fun b ob h1 _ h=>hk b ob h1 h) ⟨hp,_,_,e',r.b_ P⟩
def n7{l:List α}{a:α}(h:one l=some a):l=[a]:=by
 induction l using bj with
 | nil=>injection h
 | cons x r=>
  induction r using bj with
  | nil=>(injection h with e1;subst e1);rfl
  | cons y r=>injection h
def bp.wO{f:Qp→R α}{t:Sem β}(h:∀ l,H[n]?=some (.list l)→bp B A s σ (f l) t Rel):bp B A s σ (match H[n]? with|some (.list l)=>f l|_=>.no) t Rel:=by
 generalize e:H[n]?=zz;induction zz using az with
 | none=>exact .no
 | some o=>
  induction o with
  | list l=>exact h l e
  | _=>exact .no
def CN{k:Nat}{p:Addr×Addr}{us:Qv}{g:Qv→Qv}{y:Value}(st:af B A H σ s)(hn:σ.t[n]?=some p)(hp:p.2=p.1)(e:s.heap.get? p.1=some {cls:=.type "list",data:=.seq us k})(r:aK prog w B.Cl σ s.heap l' (g us).toList)(rv:ah prog w B.Cl σ s.heap v y)(hq:fR B A s σ (.ok v (H.set n (.list l'))) (VR B) Q):Q y {s with heap:=s.heap.update p.1 (mK g),toks:=k'}:=by refine ad (set_list (k':=k') st hn hp e r) fun a b=>?_;exact hq _ _ _ _ σ rfl a (rv.b_ b) b
def Q_{x:PV}{y:Value}(st:af B A H σ s)(r:ah prog w B.Cl σ s.heap (.loc n) u)(rx:ah prog w B.Cl σ s.heap x y):bp B A s σ (wQ n x H) (call (.builtin "list.append") [u,y]) (VR B):=by refine J (oJ r) fun p z1=>?_;subst z1;intro hn;refine .wO fun l hl=>.ite fun bY _ Q E hq he=>?_;refine ad (tX st hn hl) fun hp z2=>?_;refine bx z2 fun us k e rs hs=>?_;clear z2;exact call_meets aeY ⟨_,e,rfl⟩ F.entry_list_append (F.args_list_append_2 _ _) (list_append p.1 us k y (by rw [sizeLine_eq,hs];exact gb bY)) ⟨e,CN (g:=fun z=>z.push y) st hn hp e (by rw [N'];exact rs.append (.cons rx .nil)) .none hq⟩
def RP{us:Qv}(rs:aK prog w B.Cl σ h l us.toList)(h0:us.size - 1 < us.size):aK prog w B.Cl σ h l.dropLast (us.eraseIdxIfInBounds (us.size - 1)).toList:=by
 have e:(us.eraseIdxIfInBounds (us.size - 1)).toList=us.toList.dropLast:=by rw [Array.eraseIdxIfInBounds,dif_pos h0,Array.toList_eraseIdx,List.eraseIdx_eq_take_drop_succ,NQ,afl,NO (by rw [afl];lia),gP]
 rw [e];refine ⟨by rw [aem,aem,rs.sz],fun i v u a b=>?_⟩;rw [List.getElem?_dropLast] at a b;by_cases q:i < l.length - 1
 ·exact rs.all i v u ((if_pos q).symm.trans a) ((if_pos (rs.sz ▸ q)).symm.trans b)
 ·injection ((if_neg q).symm.trans a)
def QG(st:af B A H σ s)(r:ah prog w B.Cl σ s.heap (.loc n) u):bp B A s σ (u9 n H) (call (.builtin "list.pop") [u]) (VR B):=by
 refine J (oJ r) fun p z1=>?_;subst z1;intro hn;refine .wO fun l hl=>?_;refine ad (tX st hn hl) fun hp z2=>?_;refine bx z2 fun us k e rs hs=>?_;clear z2;generalize hv:l.getLast?=zz;induction zz using az with
 | none=>exact .no
 | some v=>
  refine .ite fun bY _ Q E hq he=>?_;rw [List.getLast?_eq_getElem?] at hv;refine J (rs.get hv) fun y hy ry=>?_;have vL:us[us.size - 1]?=some y:=by rw [hs];exact qf.symm.trans hy
  exact call_meets aeW ⟨_,e,rfl⟩ F.entry_list_pop (F.args_list_pop_1 _) (MeetsSeq.list_pop_last p.1 us k y vL (by rw [hs,sizeLine_eq];exact bY)) ⟨e,CN (g:=fun z=>z.eraseIdxIfInBounds (us.size - 1)) st hn hp e (RP rs (xH.mp vL).1) ry hq⟩
def QZ{x:PV}{y:Value}(st:af B A H σ s)(r:ah prog w B.Cl σ s.heap (.loc n) u)(rx:ah prog w B.Cl σ s.heap x y):bp B A s σ (D9 n x H) (call (.builtin "list.extend") [u,y]) (VR B):=by
 refine J (oJ r) fun p z1=>?_;subst z1;intro hn;refine .wO fun l hl=>.tx fun _=>?_;refine ad (tX st hn hl) fun hp z2=>?_;refine bx z2 fun us k e rs hs=>?_;clear z2;generalize hx:(bV x H)=zz;induction zz using az with
 | none=>exact .no
 | some xs=>
  refine .ite fun bY _ Q E hq he=>?_;refine dS (as_list st hx rx) fun b Bs k2 z3=>?_;subst z3;intro e2 HG;have mw:Bs.size=xs.length:=HG.sz.symm;exact call_meets aeX ⟨_,e,rfl⟩ F.entry_list_extend (F.args_list_extend_2 _ _) (AutoSeq1.list_extend_list_list_0 p.1 us k b Bs k2 (by simp only [afh,sizeLine_eq];simp;intro _;lia) (by rw [sizeLine_eq];exact aq (aB (dM hs) (AV bY)) rfl) (by rw [sizeLine_eq];lia))
   ⟨e,e2,CN (g:=fun z=>z++Bs) st hn hp e (by rw [FN];exact rs.append HG) .none hq⟩
def QY{l:Qm}{k:Qn}{t:Tok}(st:af B A H σ s)(e:dZ v H=some l)(r:ah prog w B.Cl σ s.heap v u):
  bp B A s σ (.ok ((look k l).getD .none) H) (call (.builtin "dict.get") [u,.str (sv k) t]) (VR B):=by
 refine cO (tY st e r) fun a kvs z2=>?_;subst z2;intro sm ed rk;refine fun _ _ _ hq _=>call_meetsIn ae0 ed.mapOf.typeIs F.entry_dict_get (F.args_dict_get_2 _ _) (meets_dict_get (strKind prog w) a (k:=sv k) (by exact beq_self_eq_true _) (l7 sm)) ⟨_,ed.mapOf,jx st ?_ hq⟩;rcases y5 rk k with ⟨h1,h2⟩|⟨v',u',h1,h2,h3⟩
 ·rw [h1,h2];exact .none
 ·rw [h1,h2];exact h3
def qx{id:String}{Bf:Builtin}{self:Value}{rest:Qa}{m:Made}(st:af B A H σ s)(slot:nE "bytes" name id)(hT:s.TypeIs self "bytes")(entry:entryFor table id=some Bf)(args:iH id ⟨self::rest,[]⟩)(g:uC (Bf ⟨self::rest,[]⟩) m)(h:∀ Q:Value→Shared→Prop,(∀ u k,ah prog w B.Cl σ s.heap v u→Q u {s with toks:=k})→m.post Q s):bp B A s σ (.ok v H) (call (.builtin id) (self::rest)) (VR B):=
 fun _ _ _ hq _=>call_gives slot hT entry args g (h _ fun u k r=>jx st r hq)
def Qw(h:x.length≤aC):x.toArray.size≤sizeLine:=by rw [sizeLine_eq];exact h
def RU{ps:List Qu}(hl:us.length=ps.length)(hu:∀ (i:Nat) x u,ps[i]?=some x→us[i]?=some u→∃ t,u=.bytes x t):
  aK prog w B.Cl σ h ((ps.map (·.toList)).map .bytes) us:=by
 refine ⟨by rw [aQ,aQ,hl],fun i v u a b=>?_⟩;rw [km,km] at a;refine J (dG.mp a) fun l jH z2=>?_;subst z2;refine J (dG.mp jH) fun x hx z2=>?_;subst z2;refine ay (hu i x u hx b) fun t z1=>?_;subst z1;exact .bytes x.toList t
def RT{ps:List Qy}(r:aK prog w B.Cl σ h l us)(e:bytesOf l=some ps):
  ps.length=us.length∧∀ (i:Nat) x u,ps[i]?=some x→us[i]?=some u→∃ t,u=.bytes x.toArray t:=by
 induction l generalizing us ps with
 | nil=>
  obtain rfl:=r.nil_inv
  (injection e with e1;subst e1)
  exact ⟨rfl,fun i x u a=>by injection a⟩
 | cons v l ih=>
  refine bx r.cons_inv fun u us z2=>?_;subst z2;intro rv rs;delta bytesOf at e;rw [da] at e;induction rv using ah.casesOn with
  | bytes b t=>
   refine J (dG.mp e) fun HS e' z2=>?_;subst z2;refine ad (ih rs e') fun h1 h2=>?_;refine ⟨congrArg (· + 1) h1,fun i x u a b=>?_⟩;induction i using dN with
   | zero=>(injection a with e1;subst e1);(injection b with e1;subst e1);exact ⟨_,rfl⟩
   | succ i=>exact h2 i x u a b
  | _=>injection e
def TF{b c:Qu}{t u:Tok}(hc:c.isEmpty=false)(hlen:(uG b c.size (uF b c 0 b.size)).length≤sizeLine)(hs:∀ x∈uG b c.size (uF b c 0 b.size),x.size≤sizeLine):
  Meets (Builtin.«bytes.split» ⟨[.bytes b t,.bytes c u],[]⟩) (fun A R s=>∀ (us:Qa) k,us.length=(uG b c.size (uF b c 0 b.size)).length→
   (∀ (i:Nat) x u,(uG b c.size (uF b c 0 b.size))[i]?=some x→us[i]?=some u→∃ t,u=.bytes x t)→
   R (.ok (.ret (.ref s.heap.objs.size))) {s with heap:=s.heap.push {cls:=.type "list",data:=.seq us.toArray},toks:=k}):=
 .of_wp fun prog w A R s h=>Qg b c t u hc hlen hs fun us k h1 h2=>h us k h1 h2
def Mm(x:Qy)(i j:Nat):x.toArray.extract i j=((x.drop i).take (j - i)).toArray:=by simp [List.extract_toArray,List.extract_eq_take_drop]
def Cw(h:y≠[]):y.toArray.isEmpty=false:=by
 induction y using bj with
 | nil=>exact absurd rfl h
 | cons a l=>rfl
def Q4{b:BM}{t:Tok}(st:af B A H σ s):bp B A s σ (lN b x y H) (call (.builtin (idOf b)) [.bytes x.toArray t,.bytes y.toArray t']) (VR B):=by
 refine .ite fun bY=>?_;have hx:=Qw bY.1;have hT:s.TypeIs (.bytes x.toArray t) "bytes":=oN _ _ _;have dh:x.toArray.size=x.length:=nH;have JS:y.toArray.size=y.length:=nH;have kK:x.toArray.size < 2 ^ 62:=kZ bY.1 (by decide);induction b<;>try exact .no
 ·exact qx st MF.Hb hT MF.Zw (MF.abp _ _) (XU _ _ _ _) fun Q hq=>hq _ _ (.int _ _)
 ·exact qx st MF.G9 hT MF.Zt (MF.abl _ _) (XS _ _ _ _) fun Q hq=>hq _ _ (.int _ _)
 ·exact .tx fun hy=>qx st MF.Hc hT MF.Zx (MF.abq _ _) (XV _ _ _ _ (Cw hy)) fun Q hq=>hq _ _ (.int _ _)
 ·refine qx st adu hT af7 (af9 _ _) (KA _ _ _ _ "startswith" false kK rfl) fun Q hq=>?_;have:=hq (.bool (decide (y.length≤x.length)&&x.take y.length==y)) s.toks (.bool _);simp only [Made.post,uH,if_false,Mm,Mo,dh,JS,List.drop_zero,Nat.sub_zero];exact this
 ·refine qx st adv hT af8 (af_ _ _) (KA _ _ _ _ "endswith" true kK rfl) fun Q hq=>?_;have:=hq (.bool (decide (y.length≤x.length)&&x.drop (x.length - y.length)==y)) s.toks (.bool _);simp only [Made.post,if_true,Mm,Mo,dh,JS];rw [AX (dM xw)];exact this
 ·refine .tx fun hy=>?_;have hc:y.toArray.isEmpty=false:=Cw fun q=>hy (.inl q);have h1:(kV x y.length (fj x y)).length≤aC:=ui fun q=>hy (.inr (.inl q));have h2:∀ p∈kV x y.length (fj x y),p.length≤aC:=fun p hp=>ui fun q=>hy (.inr (.inr (uA.mpr ⟨p,hp,decide_eq_true q⟩)));have e1:kV x y.length (fj x y)=(uG x.toArray y.toArray.size (uF x.toArray y.toArray 0 x.toArray.size)).map (·.toList):=rfl;rw [e1] at h1 h2⊢;exact fun _ Q E hq he=>call_meets MF.G8 hT MF.Zs (MF.abk _ _) (TF hc (by rw [sizeLine_eq];exact aB (dM (aQ _).symm) h1) fun z hz=>by rw [sizeLine_eq];exact h2 z.toList (aeg hz)) fun us k hl hu=>
   KV (us:=us.toArray) st (aB (dM (aQ _)) h1) (iq _) (fA _) (eu s.heap rfl) (RU hl hu) hq
 ·refine qx st MF.G7 hT MF.Zr (MF.abj _ _) (XQ _ _ _ _ hx) fun Q hq=>?_;have W8:∀ l:Qy,aeB y.toArray.contains l=aeB y.contains l:=fun l=>by congr 1;funext z;simp
  simp only [W8];have h1:=FA y.contains (l:=(x.dropWhile y.contains).reverse);have h2:=FA y.contains (l:=x)
  split
  ·rename_i he;refine hq _ _ ?_;have h3:=h1.reverse;rw [AY] at h3;rw [(h3.trans h2).eq_of_length (by simpa using he)];exact .bytes _ _
  ·refine ⟨?_,hq _ _ (.bytes _ _)⟩;rw [sizeLine_eq];refine aB ?_ bY.1;rw [nH,i6];exact aB h1.length_le (aB (dM i6) h2.length_le)
def QF{t PL:Tok}(st:af B A H σ s):bp B A s σ (o7 x y z H) (call (.builtin "bytes.replace") [.bytes x.toArray t,.bytes y.toArray t',.bytes z.toArray PL]) (VR B):=by
 refine .tx fun hy=>.ite fun bY=>?_;have e1:je z (kV x y.length (fj x y))=(FL z.toArray (uG x.toArray y.toArray.size (uF x.toArray y.toArray 0 x.toArray.size))).toList:=by delta je kV fj;rw [ju,nH,nH];congr 2;exact NC _
 rw [e1] at bY⊢;refine qx st MF.G_ (oN _ _ _) MF.Zu (MF.abm _ _ _) (XT _ _ _ _ _ _ (Cw hy) (by rw [sizeLine_eq];exact bY.1)) fun Q hq=>?_
 split
 ·rename_i he;refine hq _ _ ?_;rw [uv.mp he,Md,Jk];exact .bytes x t
 ·exact ⟨by rw [sizeLine_eq];exact bY.2,hq _ (s.toks + 1) (ah.bytes _ s.toks)⟩
def TG{b:Qu}{t:Tok}{l:Addr}{us:Qv}{ps:List Qu}(hp:ps.length=us.size)(hu:∀ (i:Nat) x u,ps[i]?=some x→us[i]?=some u→∃ t,u=.bytes x t)(dh:(ps.map Array.size).sum + b.size * ps.length≤sizeLine)(hj:(FL b ps).size≤sizeLine):
  Meets (Builtin.«bytes.join» ⟨[.bytes b t,.ref l],[]⟩) (fun A R s=>s.heap.get? l=some {cls:=.type "list",data:=.seq us n}∧∀ t' k,R (.ok (.ret (.bytes (FL b ps) t'))) {s with toks:=k}):=
 .of_wp fun prog w A R s h=>UU _ _ h.1 hp hu dh hj fun t' k=>h.2 t' k
def QS{t:Tok}(st:af B A H σ s)(r:ah prog w B.Cl σ s.heap v u):bp B A s σ (ml x v H) (call (.builtin "bytes.join") [.bytes x.toArray t,u]) (VR B):=by
 generalize fv:((bV v H).bind bytesOf)=zz;induction zz using az with
 | none=>exact fun V=>absurd (show ml x v H=.no by delta ml;rw [fv]) V
 | some ps=>
  have ej:ml x v H=if ps.length≤4096∧(ps.map i7).sum + x.length * ps.length≤aC∧(je x ps).length≤aC then .ok (.bytes (je x ps)) H else .no:=by delta ml;rw [fv]
  rw [ej];refine .ite fun bY=>?_;refine J (bO fv) fun l hl fv=>?_;refine dS (as_list st hl r) fun a us n z3=>?_;subst z3;intro e rs;refine ad (RT rs fv) fun h1 h2=>?_;have hm:(ps.map (·.toArray)).map Array.size=ps.map i7:=ju;exact fun _ Q E hq he=>call_meets MF.Ha (oN _ _ _) MF.Zv (MF.abo _ _) (TG (n:=n) (ps:=ps.map (·.toArray)) (us:=us) (aQ _ |>.trans h1) (fun i x u a b=>by
    refine J (dG.mp (km.symm.trans a)) fun y hy z2=>?_;subst z2;exact h2 i y u hy (qf.trans b)) (by rw [hm,sizeLine_eq,aQ];exact bY.2.1) (by rw [sizeLine_eq];exact bY.2.2)) ⟨e,fun t' k=>jx (k:=k) st (ah.bytes (je x ps) t') hq⟩
def PZ{ps:List Qn}(r:aK prog w B.Cl σ h l us)(e:strsOf l=some ps):agk us (ps.map sv):=by
 induction l generalizing us ps with
 | nil=>
  obtain rfl:=r.nil_inv
  (injection e with e1;subst e1)
  exact .nil
 | cons v l ih=>
  refine bx r.cons_inv fun u us z2=>?_;subst z2;intro rv rs;delta strsOf at e;rw [da] at e;induction rv using ah.casesOn with
  | str b t=>refine J (dG.mp e) fun HS e' z2=>?_;subst z2;exact .cons _ _ (ih rs e')
  | _=>injection e
def UT(ps:List Qn):adC ⟨#[]⟩ (ps.map sv)=sv ps.flatten:=by
 induction ps with
 | nil=>rfl
 | cons x r ih=>rw [da,agg,ih];show (⟨x.toArray++r.flatten.toArray⟩:ub)=⟨(x::r).flatten.toArray⟩;simp
def QR{x:Qn}{t:Tok}(st:af B A H σ s)(r:ah prog w B.Cl σ s.heap v u):bp B A s σ (qV x v H) (call (.builtin "str.join") [.str (sv x) t,u]) (VR B):=by
 generalize fv:((bV v H).bind strsOf)=zz;induction zz using az with
 | none=>exact fun V=>absurd (show qV x v H=.no by delta qV;rw [fv]) V
 | some ps=>
  have ej:qV x v H=if x=[]∧ps.length≤4096∧(ps.map i7).sum≤1000000 then .ok (.str ps.flatten) H else .no:=by delta qV;rw [fv]
  rw [ej];refine .ite fun bY=>?_;refine cG bY fun z0=>?_;clear bY;subst z0;intro hn VT;refine J (bO fv) fun l hl fv=>?_;refine dS (as_list st hl r) fun a us n z3=>?_;subst z3;intro e rs;refine fun _ Q E hq he=>agh ⟨_,e,rfl,_,rfl⟩ (PZ rs fv) (cE _) ?_ fun t' k=>?_
  ·have hm:(ps.map sv).map (·.length)=ps.map i7:=ju;rw [hm,aQ];exact aq (eS VT hn) rfl
  ·have e0:=StrLaws.glued_eq_join (sv []) (ps.map sv);show Q (.str (agq (sv []) (ps.map sv)) t') _;rw [e0];show Q (.str (adC ⟨#[]⟩ (ps.map sv)) t') _;rw [UT];exact jx (k:=k) st (ah.str ps.flatten t') hq
end
end
section
open PySem
section
def QQ(st:af B A H σ s)(r:ah prog w B.Cl σ s.heap v u):bp B A s σ (ti v H) (call (.builtin "len") [u]) (VR B):=by
 delta ti;generalize e:(cP v)=zz;induction zz using az with
 | some l=>refine jy e r fun t=>?_;exact .ite fun bY=>l9 st fun Q E hq=>PySem.W.len_bytes (aB (show l.length≤16777216 from bY) (by decide)) (hq (.int l.length (s.toks + 1)) (s.toks + 1 + 1) (.int _ _))
 | none=>
  generalize el:(bV v H)=zz;induction zz using az with
  | some l=>refine .ite fun bY=>?_;refine dS (as_list st el r) fun a us n z3=>?_;subst z3;intro ea rs;refine l9 st fun Q E hq=>agf ⟨_,ea,rfl,_,rfl⟩ (xy.mpr (kZ (show us.size≤16777216 from aB (dM rs.sz.symm) bY) (show 16777216 < 2 ^ 63 by decide))) ?_;rw [show us.size=l.length from rs.sz.symm];exact hq _ _ (.int _ _)
  | none=>exact .no
def Q2{i:Int}{t:Tok}(st:af B A H σ s):bp B A s σ (Ep i H) (call (.builtin "chr") [.int i t]) (VR B):=
 .ite fun h=>l9 st fun Q E hq=>PySem.P.chr_of_int (by simp;lia) (hq _ _ (.str [i.toNat] _))
def QI{l:Qn}{t:Tok}(st:af B A H σ s):bp B A s σ (yC l H) (call (.builtin "ord") [.str (sv l) t]) (VR B):=by
 delta yC;generalize e:(one l)=zz;induction zz using az with
 | none=>exact .no
 | some c=>obtain rfl:=n7 e;exact .ite fun _=>l9 st fun Q E hq=>PySem.P.ord_of_char (hq _ _ (.int _ _))
def QU{i:Int}{t:Tok}(st:af B A H σ s):bp B A s σ (.ok (.int i) H) (call (.type "int") [.int i t]) (VR B):=
 l9 st fun Q E hq=>call_int_int (hq _ s.toks (.int _ _))
def S8{bs:Qy}(r:aK prog w B.Cl σ h l us)(e:qO l=some bs):
  ∃ ns:List Int,agl us ns∧(∀ n∈ns,0≤n∧n < 256)∧ns.map (fun n=>n.toNat.toUInt8)=bs:=by
 induction l generalizing us bs with
 | nil=>
  obtain rfl:=r.nil_inv
  (injection e with e1;subst e1)
  exact ⟨[],.nil,fun _ h=>absurd h oP,rfl⟩
 | cons v l ih=>
  refine bx r.cons_inv fun u us z2=>?_;subst z2;intro rv rs;induction rv using ah.casesOn with
  | int i t=>
   by_cases hi:0≤i∧i < 256
   ·have e':(qO l).map (i.toNat.toUInt8::·)=some bs:=(congrArg (fun z=>eR (z::_)) (if_pos hi)).symm.trans e;refine J (dG.mp e') fun bs' e2 z2=>?_;subst z2;refine ci (ih rs e2) fun ns h1 h2 h3=>?_;exact ⟨i::ns,.cons _ _ h1,fun n hn=>(cA.mp hn).elim (fun q=>q ▸ hi) (h2 n),congrArg _ h3⟩
   ·have e':(none:Option Qy)=some bs:=(congrArg (fun z=>eR (z::_)) (if_neg hi)).symm.trans e;injection e'
  | _=>injection e
def Q3{k:Nat}(ok:b0 k A)(st:af B A H σ s)(r:ah prog w B.Cl σ s.heap v u):bp B A s σ (rI v H) (call (.type "bytes") [u]) (VR B):=by
 generalize e:((bV v H).bind qO)=zz;induction zz using az with
 | none=>exact fun V=>absurd (show rI v H=.no by delta rI;rw [e]) V
 | some bs=>
  have ej:rI v H=if bs.length≤aC then .ok (.bytes bs) H else .no:=by delta rI;rw [e]
  rw [ej];refine .ite fun bY=>?_;refine J (bO e) fun l hl e=>?_;refine dS (as_list st hl r) fun a us n z3=>?_;subst z3;intro ea rs;refine ci (S8 rs e) fun ns h1 h2 h3=>?_;refine fun _ _ _ hq _=>call_bytes_ints (l:=a) (vs:=us.toList) (ns:=ns) ⟨_,ea,rfl,_,by rw [Array.toArray_toList]⟩ h1 h2 (by rw [h1.length,sizeLine_eq,show ns.length=bs.length by rw [←h3,aQ]];exact bY) ok.hd fun h' t k hk=>hq _ _ _ H σ rfl (st.grow hk) ?_ (.grow hk);show ah prog w B.Cl σ h' (.bytes bs) (.bytes (ns.map _).toArray t);rw [h3];exact .bytes _ _
def QT(st:af B A H σ s)(r:ah prog w B.Cl σ s.heap v u):bp B A s σ (wK v H) (call (.builtin "isinstance") [u,.type "bool"]) (VR B):=by
 induction r using ah.casesOn<;>try exact .no
 ·exact l9 st fun Q E hq=>IsiPair.NoneType_bool (hq _ _ (.bool _))
 ·exact l9 st fun Q E hq=>IsiPair.bool_bool (hq _ s.toks (.bool _))
 ·exact l9 st fun Q E hq=>IsiPair.int_bool (hq _ _ (.bool _))
 ·exact l9 st fun Q E hq=>IsiPair.str_bool (hq _ _ (.bool _))
def Ri{l:Addr}{items:Qv}{k:Int}{t:Tok}{v:Value}{Q:Unit→Shared→Prop}(ho:s.heap.get? l=some {cls:=.type "list",data:=.seq items n})(h0:0≤k)(WX:k < 2 ^ 62)(hn:k < items.size)(hQ:Q () {s with heap:=s.heap.update l (mK (·.setIfInBounds k.toNat v))}):wpAny (model prog w) A (setItem (.ref l) (.int k t) v) Q E s:=by
 have hl:s.heap.IsList l items:=⟨_,ho,rfl,_,rfl⟩;have hd:({cls:=.type "list",data:=.seq items n}:Obj).data=.seq items n:=rfl;unfold setItem
 try with_reducible refine wpAny_holding ?_
 first|refine wpAny_bind (wpAny_pure ?_)|skip
 refine wpAny_bind (wpAny_sequenceKey hl.typeIs (by decide) ?_);refine wpAny_bind (wpAny_callSpecial?_slot (name:=Na "__setitem__") hl.typeIs slot_list_setitem
  (wpAny_call_entry slot_list_setitem hl.typeIs entry_list_setitem ?_ (args_list_setitem _ _ _)))
 show wpAny _ _ (agt (.int k t)>>=_) _ _ s;refine wpAny_bind (wpAny_listSubscript_int (fitsIndex_of h0 (by lia)) ?_);clear WX;refine ay (NU h0) fun j z1=>?_;subst z1;have hj:j < items.size:=by lia
 have py:items[j]?=some items[j]:=afo hj;show wpAny _ _ ((seqItemAt l j>>=fun r=>pure (r.map (j,·)))>>=_) _ _ s;refine wpAny_bind (wpAny_bind (wpAny_seqItemAt ho hd (wpAny_pure ?_)));rw [py];show wpAny _ _ (setSeqItemAt l j v>>=_) _ _ s;refine wpAny_bind (wpAny_setSeqItemAt ho hd ?_);exact wpAny_pure ⟨.none,rfl,wpAny_pure hQ⟩
def R4(kvs:List (Str×Value))(d:Qm)(r:fE prog w B.Cl σ h d kvs)(k:Qn)(rv:ah prog w B.Cl σ h v u)(hn:(kvs.map (·.1)).Nodup):fE prog w B.Cl σ h (put k v d) (stored kvs (sv k) u):=by
 induction d generalizing kvs with
 | nil=>
  obtain rfl:kvs=[]:=NE.mp r.ks;exact ⟨rfl,fun i k1 v1 k2 u2 a b=>by
   induction i using dN with
   | zero=>cases a;cases b;exact rv
   | succ i=>injection a⟩
 | cons p d ih=>
  obtain ⟨k',v'⟩:=p;have iz:=r.ks;induction kvs using bj with
  | nil=>injection iz
  | cons q kvs=>
   obtain ⟨q1,u'⟩:=q;refine ad (List.cons.inj iz) fun z0=>?_;subst z0;intro iz;have r0:=r.all 0 k' v' _ u' rfl rfl;have rt:fE prog w B.Cl σ h d kvs:=⟨iz,fun i a b c d e f=>r.all (i + 1) a b c d e f⟩;rw [da,uq] at hn;have cons:∀ {d':Qm} {Jd:List (Str×Value)} {Gm:PV} {Go:Value},ah prog w B.Cl σ h Gm Go→fE prog w B.Cl σ h d' Jd→fE prog w B.Cl σ h ((k',Gm)::d') ((sv k',Go)::Jd):=fun a b=>
    ⟨congrArg _ b.ks,fun i k1 v1 k2 u2 e f=>by
     induction i using dN with
     | zero=>cases e;cases f;exact a
     | succ i=>exact b.all i k1 v1 k2 u2 e f⟩
   by_cases hk:k'=k
   ·subst hk;have tC:∀ kv∈kvs,kv.1≠sv k':=fun kv hm e=>hn.1 (b7.mpr ⟨kv,hm,e⟩);have:stored ((sv k',u')::kvs) (sv k') u=(sv k',u)::kvs:=by
     unfold stored;simp only [NS,decide_true,Bool.true_or,if_true,da];congr 1;rw [Fs (g:=id) fun kv hm=>by rw [if_neg (tC kv hm)];rfl,NC]
    rw [this];rw [qH,if_pos rfl];exact cons rv rt
   ·have dY:¬ sv k'=sv k:=fun e=>hk (sF e);have:stored ((sv k',u')::kvs) (sv k) u=(sv k',u')::stored kvs (sv k) u:=by
     unfold stored;simp only [NS,dY,decide_false,afj,da,if_false]
     split<;>rfl
    rw [this];rw [qH,if_neg hk];exact cons r0 (ih kvs rt hn.2)
def Rn(sb:uB a h h'):∀ b ob,b≠a→h.get? b=some ob→h'.get? b=some ob:=fun b ob hb e=>(sb.2 b hb).trans e
def RN{us:Qv}{x:PV}{y:Value}(rs:aK prog w B.Cl σ h l us.toList)(rx:ah prog w B.Cl σ h x y)(j:Nat):aK prog w B.Cl σ h (l.set j x) (us.setIfInBounds j y).toList:=by
 rw [Array.toList_setIfInBounds];refine ⟨by rw [ut,ut,rs.sz],fun i v u a b=>?_⟩;by_cases q:j=i
 ·subst q;have hl:=(cF.mp a).1;rw [ut] at hl;generalize ((A6 hl).symm.trans a)=zz
  (injection zz with e1;subst e1)
  generalize ((A6 (rs.sz ▸ hl)).symm.trans b)=zz
  (injection zz with e1;subst e1)
  exact rx
 ·exact rs.all i v u ((uw q).symm.trans a) ((uw q).symm.trans b)
def QA{k x:PV}{i y:Value}(st:af B A H σ s)(r:ah prog w B.Cl σ s.heap v u)(rk:ah prog w B.Cl σ s.heap k i)(rx:ah prog w B.Cl σ s.heap x y):
  bp B A s σ (uT v k x H) (setItem u i y) (fun _ _ _ _=>True):=by
 delta uT;generalize en:(gj v)=zz;induction zz using az with
 | none=>exact .no
 | some n=>
  obtain rfl:=Bx en;refine J (oJ r) fun p z1=>?_;subst z1;intro hn;generalize ej:(toInt k)=zz;induction zz using az with
  | some j=>refine lZ ej rk fun t=>?_;refine .wO fun l hl=>.ite fun bY _ Q E hq he=>?_;refine ad (tX st hn hl) fun hp z2=>?_;refine bx z2 fun us m e rs hs=>?_;clear z2;simp only [aC] at bY;refine Ri e bY.1 (by lia) (by lia) ?_;refine ad (set_list (k':=s.toks) (g:=fun z=>z.setIfInBounds j.toNat y) st hn hp e (RN rs rx j.toNat)) fun a b=>?_;exact hq _ _ _ _ σ rfl a trivial b
  | none=>
   generalize ek:(toStr k)=zz;induction zz using az with
   | none=>exact .no
   | some ks=>
    refine qp ek rk fun t=>?_;generalize hd:H[n]?=zz;induction zz using az with
    | none=>exact fun V=>absurd (show o_ n ks x H=.no by delta o_;rw [hd]) V
    | some o=>
     induction o with
     | dict d=>
      have ep:o_ n ks x H=if d.length < aC then .ok () (H.set n (.dict (put ks x d))) else .no:=by delta o_;rw [hd]
      show bp B A s σ (o_ n ks x H) _ _;rw [ep];refine .ite fun bY _ Q E hq he=>?_;refine ad (st.inv.obj _ _ _ hd hn) fun hp z2=>?_;refine J z2 fun kvs e HK=>?_;clear z2;have hlen:kvs.length=d.length:=(aQ _).symm.trans ((congrArg i7 HK.ks).trans (aQ _));refine sq (id e) fun od es ep e1 e2 e3 e4 e5 e6=>?_;refine wpAny_setItem_pairs (knd:=strKind prog w) (k:=sv ks) (by exact beq_self_eq_true _) e (fun h' rh iy=>?_) (by rw [sizeLine_eq,hlen];exact gb bY);have hk:=Rn iy;refine ik (id rh) fun o' _ _ f1 _=>?_;have P:=Cc (σ:=σ) hn ⟨_,f1⟩ hk;refine ad (st.set (s.toks + 1) hn ⟨_,f1⟩ (by rw [hp];exact ⟨_,f1⟩) (fun b ob h1 _ h=>hk b ob h1 h) (o:=.dict (put ks x d)) ⟨hp,_,rh,R4 _ _ (HK.b_ P) ks (rx.b_ P) e6⟩) fun a b=>?_;exact hq _ _ _ _ σ rfl a trivial b
     | _=>exact fun V=>absurd (show o_ n ks x H=.no by delta o_;rw [hd]) V
end
end
section
open PySem
noncomputable def eU(ds:List Addr)(σ:Sg):Sg:=⟨σ.t,ds++σ.fr⟩
section
def wM{b:Addr}(h:¬ c_ σ b)(hd:b∉ds):¬ c_ (eU ds σ) b:=fun hb=>by
 rcases hb with hb|hb
 ·exact h (.inl hb)
 ·rcases cy.mp hb with hb|hb
  ·exact hd hb
  ·exact h (.inr hb)
def ng(hf:∀ d∈ds,h.get? d=.none){b:Addr}(e:h.get? b=some o):b∉ds:=fun hb=>by rw [hf b hb] at e;injection e
def ah.enter{Cl:Nat→Addr}(hf:∀ d∈ds,h.get? d=.none)(hk:∀ b o,h.get? b=some o→h'.get? b=some o)(r:ah prog w Cl σ h v u):ah prog w Cl (eU ds σ) h' v u:=
 (ah.over (σ:=σ) (σ':=eU ds σ) (fun _ _ e=>e) (fun b o e hb=>wM hb (ng hf e)) r).b_ (.grow hk)
def af.zH(st:af B A H σ s){d:Addr}(h:s.heap.get? d=.none):B.h₀.get? d=.none:=by
 generalize e:(B.h₀.get? d)=zz;induction zz using az with
 | none=>rfl
 | some o=>rw [st.keep d o e] at h;injection h
theorem hZ.enter{ds:List Addr}{h h':Heap}{Cl:Nat→Addr}(hf:∀ d∈ds,h.get? d=.none)(hk:∀ b o,h.get? b=some o→h'.get? b=some o){o:PO}{p:Addr×Addr}(r:hZ prog w Cl σ h o p):hZ prog w Cl (eU ds σ) h' o p:=by
 induction o with
 | list l=>(refine ad r fun e z2=>?_;clear r;(refine ch z2 fun us n h1 h2=>?_;clear z2));exact ⟨e,us,n,hk _ _ h1,h2.sz,fun i v u a b=>(h2.all i v u a b).enter hf hk⟩
 | dict l=>(refine ad r fun e z2=>?_;clear r;(refine J z2 fun kvs h1 h2=>?_;clear z2));exact ⟨e,kvs,pN h1 (hk _),h2.ks,fun i k v k' u a b=>(h2.all i k v k' u a b).enter hf hk⟩
 | inst c l=>(refine ad r fun e z2=>?_;clear r;(refine qi z2 fun ob m h1 h2 h3 h4 h5 h6 h7 h8=>?_;clear z2));exact ⟨e,ob,m,hk _ _ h1,h2,h3,h4,h5.at (hk _),h6.at (hk _),⟨h7.ks,fun k v u a b=>(h7.all k v u a b).enter hf hk⟩,h8⟩
 | dW l=>(refine ad r fun e h1=>?_;clear r);exact ⟨e,hk _ _ h1⟩
theorem af.enter(st:af B A H σ s){ds:List Addr}{h':Heap}(k:Nat)(hf:∀ d∈ds,s.heap.get? d=.none)(hk:∀ b o,s.heap.get? b=some o→h'.get? b=some o)(he:∀ d∈ds,∃ o,h'.get? d=some o):
  af B A H (eU ds σ) {s with heap:=h',toks:=k} where
 keep b o e:=hk b o (st.keep b o e)
 inv:=⟨st.inv.len,fun i o p a b=>(st.inv.obj i o p a b).enter hf hk,st.inv.apart,fun b hb=>⟨(st.inv.low b hb).1,(st.inv.low b hb).2.1.imp fun _ e=>hk _ _ e,fun hm=>by
   rcases cy.mp hm with hm|hm
   ·refine ay (st.inv.low b hb).2.1 fun o e=>?_;rw [hf b hm] at e;injection e
   ·exact (st.inv.low b hb).2.2 hm⟩,fun b hb=>by
   rcases cy.mp hb with hb|hb
   ·exact ⟨st.zH (hf b hb),he b hb⟩
   ·exact ⟨(st.inv.cS b hb).1,(st.inv.cS b hb).2.imp fun _ e=>hk _ _ e⟩⟩
 gens:=st.gens
 os:=st.os
 dV env he:=by (refine ad (st.dV env he) fun a z2=>?_;(refine cO z2 fun L o b c d e=>?_;clear z2));exact ⟨a,L,o,b,eW _ c,hk _ _ d,e⟩
theorem bh.enter{F:br}{sl:Sl}{h h':Heap}{ds:List Addr}(x:bh B F sl σ h)(hf:∀ d∈ds,h.get? d=.none)(hk:∀ b o,h.get? b=some o→h'.get? b=some o):bh B F sl (eU ds σ) h':=by
 refine ⟨?_,fun i id v h1 h2 h3=>?_,fun id a hm=>?_,eW _ x.jF⟩
 ·refine J x.lF fun m hn hv=>?_;exact ⟨m,hn.at (hk _),fun i id v h1 h2 h3=>by refine J (hv i id v h1 h2 h3) fun u hu r=>?_;exact ⟨u,hu,r.enter hf hk⟩⟩
 ·(refine cO (x.mE i id v h1 h2 h3) fun a u h4 h5 z4 r=>?_;(refine J z4 fun o e hd=>?_;clear z4))
  exact ⟨a,u,h4,h5,⟨o,hk _ _ e,hd⟩,r.enter hf hk⟩
 ·(refine ad (x.hO id a hm) fun z0 fg=>?_;(refine ch z0 fun cv o e hd=>?_;clear z0))
  exact ⟨⟨cv,o,hk _ _ e,hd⟩,eW _ fg⟩
end
end
section
open PySem
section
variable {Cl:Nat→Addr}
noncomputable def jM(σ:Sg)(h:Heap)(σ':Sg)(h':Heap):Prop:=
 (∀ (n:Nat) p,σ.t[n]?=some p→σ'.t[n]?=some p)∧∀ b o,h.get? b=some o→¬ c_ σ b→o.cls≠.type "frame"→¬ c_ σ' b∧h'.get? b=some o
def ah.move(x:jM σ h σ' h')(r:ah prog w Cl σ h v u):ah prog w Cl σ' h' v u:=by
 refine ad x fun ht hb=>?_;clear x;induction r with
 | none=>exact .none
 | bool b=>exact .bool b
 | int i t=>exact .int i t
 | str l t=>exact .str l t
 | bytes l t=>exact .bytes l t
 | tup e no sz _ ih=>exact .tup (hb _ _ e no (by simp)).2 (hb _ _ e no (by simp)).1 sz ih
 | fl e no sz _ ih=>exact .fl (hb _ _ e no (by simp)).2 (hb _ _ e no (by simp)).1 sz ih
 | fd e sm no ks _ ih=>
  refine ik (id e) fun o es ep e' rest=>?_;have hc:o.cls≠.type "frame":=by rw [rest.1.1];simp
  exact .fd (pN e fun db cJ=>by obtain rfl:=Option.some.inj (e'.symm.trans cJ);exact (hb _ _ e' no hc).2) sm (hb _ _ e' no hc).1 ks ih
 | fi e cls jJ dat ne ns ex no jd ks _ ih=>
  refine ci (id ex) fun od ed hc _=>?_;have Kj:od.cls≠.type "frame":=by rw [hc];simp
  have hk:∀ o,_→h'.get? _=some o:=fun o (e':h.get? _=some o)=>by obtain rfl:=Option.some.inj (ed.symm.trans e');exact (hb _ _ ed jd Kj).2
  exact .fi (hb _ _ e no (by rw [cls];simp)).2 cls jJ dat ne (ns.at hk) (ex.at hk) (hb _ _ e no (by rw [cls];simp)).1 (hb _ _ ed jd Kj).1 ks ih
 | loc e=>exact .loc (ht _ _ e)
theorem aK.move{h h':Heap}(x:jM σ h σ' h'){l us}(r:aK prog w Cl σ h l us):aK prog w Cl σ' h' l us:=⟨r.sz,fun i v u a b=>(r.all i v u a b).move x⟩
theorem fE.move{h h':Heap}(x:jM σ h σ' h'){l us}(r:fE prog w Cl σ h l us):fE prog w Cl σ' h' l us:=⟨r.ks,fun i k v k' u a b=>(r.all i k v k' u a b).move x⟩
theorem mI.move{h h':Heap}(x:jM σ h σ' h'){l us}(r:mI prog w Cl σ h l us):mI prog w Cl σ' h' l us:=⟨r.ks,fun k v u a b=>(r.all k v u a b).move x⟩
theorem hZ.move{h h':Heap}(x:jM σ h σ' h'){o:PO}{q:Addr×Addr}(k1:∀ ob,h.get? q.1=some ob→h'.get? q.1=some ob)(k2:∀ ob,h.get? q.2=some ob→h'.get? q.2=some ob)(r:hZ prog w Cl σ h o q):hZ prog w Cl σ' h' o q:=by
 induction o with
 | list l=>(refine ad r fun e z2=>?_;clear r;(refine ch z2 fun us n h1 h2=>?_;clear z2));exact ⟨e,us,n,k1 _ h1,h2.move x⟩
 | dict l=>(refine ad r fun e z2=>?_;clear r;(refine J z2 fun kvs h1 h2=>?_;clear z2));exact ⟨e,kvs,pN h1 k1,h2.move x⟩
 | inst c l=>(refine ad r fun e z2=>?_;clear r;(refine qi z2 fun ob m h1 h2 h3 h4 h5 h6 h7 h8=>?_;clear z2));exact ⟨e,ob,m,k1 _ h1,h2,h3,h4,h5.at k2,h6.at k2,h7.move x,h8⟩
 | dW l=>(refine ad r fun e h1=>?_;clear r);exact ⟨e,k1 _ h1⟩
def af.qU(hA:∀ env∈A.frames.getD [],env∈A'.frames.getD []){X X':Addr→Prop}{k:Nat}(st:af B A H σ s)(hf:∀ d∈ds,s.heap.get? d=.none)(hk:∀ b o,s.heap.get? b=some o→h₁.get? b=some o)(P:aJ X h₁ (eU ds σ) aP.heap bt)(hX:∀ b,X b→b∈ds∨X' b)(aM:af B A' ag bt aP)(di:∀ b o,b∉ds→aP.heap.get? b=some o→h'.get? b=some o):
  af B A ag ⟨bt.t,σ.fr⟩ {aP with heap:=h',toks:=k}∧aJ X' s.heap σ h' ⟨bt.t,σ.fr⟩∧jM bt aP.heap ⟨bt.t,σ.fr⟩ h':=by
 obtain ⟨cj,DQ⟩:=bt;obtain rfl:DQ=ds++σ.fr:=P.fr;have S:jM ⟨cj,ds++σ.fr⟩ aP.heap ⟨cj,σ.fr⟩ h':=by
  refine ⟨fun _ _ e=>e,fun b o e hn _=>⟨fun hb=>hn ?_,di b o (fun q=>hn (.inr (ij _ q))) e⟩⟩;rcases hb with hb|hb
  ·exact .inl hb
  ·exact .inr (eW _ hb)
 have Q:aJ X' s.heap σ h' ⟨cj,σ.fr⟩:=by
  refine ⟨fun b o hb hx e=>?_,P.pre,rfl,fun b hb=>?_,fun b o e=>?_⟩
  ·have m_:=ng hf e;refine J (P.kp b o hb (fun q=>(hX b q).elim m_ hx) (hk b o e)) fun o' e' kk=>?_;exact ⟨o',di b o' m_ e',kk⟩
  ·rcases P.new b hb with h1|h1
   ·exact .inl h1
   ·refine .inr ?_;generalize e:(s.heap.get? b)=zz;induction zz using az with
    | none=>rfl
    | some o=>rw [hk b o e] at h1;injection h1
  ·refine ay (P.al b o (hk b o e)) fun o' e'=>?_;exact ⟨o',di b o' (ng hf e) e'⟩
 have qM:∀ b,b∈own ⟨cj,ds++σ.fr⟩→b∉ds:=fun b hb q=>(aM.inv.low b hb).2.2 (ij _ q);refine ⟨⟨fun b o e=>di b o (fun q=>by have:=st.zH (hf b q);rw [e] at this;injection this) (aM.keep b o e),⟨aM.inv.len,fun i o p a b=>(aM.inv.obj i o p a b).move S (fun ob e=>di _ _ (qM _ (dC b).1) e) (fun ob e=>di _ _ (qM _ (dC b).2) e),aM.inv.apart,fun b hb=>?_,fun b hb=>?_⟩,aM.gens,aM.os,fun env hm=>?_⟩,Q,S⟩
 ·have:=aM.inv.low b hb;exact ⟨this.1,this.2.1.imp fun o e=>di b o (qM b hb) e,fun hm=>this.2.2 (eW _ hm)⟩
 ·have:=aM.inv.cS b (eW _ hb);exact ⟨this.1,this.2.imp fun o e=>di b o (fun q=>by
   refine ay (st.inv.cS b hb).2 fun afw Lc=>?_;rw [hf b q] at Lc;injection Lc) e⟩
 ·(refine ad (st.dV env hm) fun a z2=>?_;(refine i_ z2 fun L o b c d e1 e2=>?_;clear z2))
  have m_:=ng hf d;refine ad (aM.dV env (hA env hm)) fun _ z2=>?_;refine i_ z2 fun L' o' b' _ d' wF wE=>?_;clear z2;rw [b] at b';(injection b' with e1;subst e1);exact ⟨a,L,o',b,c,di L o' m_ d',wF,wE⟩
def af.adopt(hA:∀ env∈A.frames.getD [],env∈A'.frames.getD []){d:Addr}{k:Nat}{o:PO}(st:af B A H σ s)(hf:s.heap.get? d=.none)(hk:∀ b o,s.heap.get? b=some o→h₁.get? b=some o)(P:aJ cq h₁ (eU [d] σ) aP.heap bt)(aM:af B A' ag bt aP)(di:∀ b o,b≠d→aP.heap.get? b=some o→h'.get? b=some o)(hd:∃ o,h'.get? d=some o)(ro:jM bt aP.heap ⟨bt.t++[(d,d)],σ.fr⟩ h'→hZ prog w B.Cl ⟨bt.t++[(d,d)],σ.fr⟩ h' o (d,d)):
  af B A (ag++[o]) ⟨bt.t++[(d,d)],σ.fr⟩ {aP with heap:=h',toks:=k}∧aJ cq s.heap σ h' ⟨bt.t++[(d,d)],σ.fr⟩:=by
 obtain ⟨cj,DQ⟩:=bt;obtain rfl:DQ=[d]++σ.fr:=P.fr;have mo:∀ b,b∈own ⟨cj++[(d,d)],σ.fr⟩↔b∈dQ cj∨b=d:=fun b=>by
  rw [show own ⟨cj++[(d,d)],σ.fr⟩=dQ (cj++[(d,d)]) from rfl,vb,cy];simp [dQ]
 have pg:∀ b,b∈dQ cj→b≠d:=fun b hb q=>(aM.inv.low b hb).2.2 (by rw [q];simp);have S:jM ⟨cj,[d]++σ.fr⟩ aP.heap ⟨cj++[(d,d)],σ.fr⟩ h':=by
  refine ⟨fun n p e=>by rw [show (Sg.mk (cj++[(d,d)]) σ.fr).t=cj++[(d,d)] from rfl,eX (cF.mp e).1];exact e,fun b o e hn _=>⟨fun hb=>hn ?_,di b o (fun q=>hn (.inr (by rw [q];simp))) e⟩⟩;rcases hb with hb|hb
  ·rcases (mo b).mp hb with hb|rfl
   ·exact .inl hb
   ·exact .inr (by simp)
  ·exact .inr (eW _ hb)
 have ro:=ro S;have Q:aJ cq s.heap σ h' ⟨cj++[(d,d)],σ.fr⟩:=by
  refine ⟨fun b o hb hx e=>?_,?_,rfl,fun b hb=>?_,fun b o e=>?_⟩
  ·have m_:b≠d:=fun q=>by rw [q,hf] at e;injection e
   refine J (P.kp b o hb (fun q=>q) (hk b o e)) fun o' e' kk=>?_;exact ⟨o',di b o' m_ e',kk⟩
  ·refine ay P.pre fun τ e=>?_;exact ⟨τ++[(d,d)],by rw [←dz];exact congrArg (·++[(d,d)]) e⟩
  ·rcases (mo b).mp hb with hb|rfl
   ·rcases P.new b hb with h1|h1
    ·exact .inl h1
    ·refine .inr ?_;generalize e:(s.heap.get? b)=zz;induction zz using az with
     | none=>rfl
     | some o=>rw [hk b o e] at h1;injection h1
   ·exact .inr hf
  ·have m_:b≠d:=fun q=>by rw [q,hf] at e;injection e
   refine ay (P.al b o (hk b o e)) fun o' e'=>?_;exact ⟨o',di b o' m_ e'⟩
 have fg:d∉σ.fr:=fun q=>by refine ay (st.inv.cS d q).2 fun o e=>?_;rw [hf] at e;injection e
 refine ⟨⟨fun b o e=>di b o (fun q=>by have:=st.zH hf;rw [←q,e] at this;injection this) (aM.keep b o e),⟨?_,fun i o' p a b=>?_,fun i j p q a b j4=>?_,fun b hb=>?_,fun b hb=>?_⟩,aM.gens,aM.os,fun env hm=>?_⟩,Q⟩
 ·have:=aM.inv.len;simp at this⊢;exact this
 ·by_cases hi:i < ag.length
  ·rw [eX hi] at a;rw [show (Sg.mk (cj++[(d,d)]) σ.fr).t=cj++[(d,d)] from rfl,eX (by rw [show cj.length=ag.length from aM.inv.len];exact hi)] at b;exact (aM.inv.obj i o' p a b).move S (fun ob e=>di _ _ (pg _ (dC b).1) e) (fun ob e=>di _ _ (pg _ (dC b).2) e)
  ·have gK:i=ag.length:=by
    have:=(cF.mp a).1;simp at this;exact Ny this hi
   subst gK;rw [gD (aS _)] at a;rw [show (Sg.mk (cj++[(d,d)]) σ.fr).t=cj++[(d,d)] from rfl,←show cj.length=ag.length from aM.inv.len,gD (aS _)] at b;simp at a b;subst a b;exact ro
 ·have last:∀ (i:Nat) p,cj.length≤i→(cj++[(d,d)])[i]?=some p→p=(d,d)∧i=cj.length:=fun i p hi e=>by
   have h1:=(cF.mp e).1;rw [gD hi] at e;have hb:=jP e;simp at hb h1;exact ⟨hb,by exact Fm (Fk h1) hi⟩
  have old:∀ (i:Nat) p,cj[i]?=some p→p.1≠d∧p.2≠d:=fun i p e=>⟨pg _ (dC e).1,pg _ (dC e).2⟩;change (cj++[(d,d)])[i]?=some p at a;change (cj++[(d,d)])[j]?=some q at b;rcases xp i cj.length with hi|hi<;>rcases xp j cj.length with hj|hj
  ·rw [eX hi] at a;rw [eX hj] at b;exact aM.inv.apart i j p q a b j4
  ·rw [eX hi] at a;have h1:=old _ _ a;refine ad (last _ _ hj b) fun z0=>?_;subst z0;intro _;exact ⟨h1.1,h1.1,h1.2,h1.2⟩
  ·rw [eX hj] at b;have h1:=old _ _ b;refine ad (last _ _ hi a) fun z0=>?_;subst z0;intro _;exact ⟨h1.1.symm,h1.2.symm,h1.1.symm,h1.2.symm⟩
  ·have h1:=last _ _ hi a;have h2:=last _ _ hj b;lia
 ·rcases (mo b).mp hb with hb|rfl
  ·have:=aM.inv.low b hb;exact ⟨this.1,this.2.1.imp fun o e=>di b o (pg b hb) e,fun hm=>this.2.2 (eW _ hm)⟩
  ·exact ⟨st.zH hf,hd,fg⟩
 ·have:=aM.inv.cS b (eW _ hb);exact ⟨this.1,this.2.imp fun o e=>di b o (fun q=>fg (q ▸ hb)) e⟩
 ·(refine ad (st.dV env hm) fun a z2=>?_;(refine i_ z2 fun L o b c d' e1 e2=>?_;clear z2))
  refine ad (aM.dV env (hA env hm)) fun _ z2=>?_;refine i_ z2 fun L' o' b' _ Eh wF wE=>?_;clear z2;rw [b] at b';(injection b' with e1;subst e1);exact ⟨a,L,o',b,c,di L o' (fun q=>fg (q ▸ c)) Eh,wF,wE⟩
end
end
section
open PySem
noncomputable def lH:Code→Bool
 | .builtin id _=>afi.contains id
 | _=>false
noncomputable def oL(Γ:Ctx):Prop:=lH Γ.code=false∧∀ x∈Γ.below,lH x.1=false
noncomputable def aT{α:Type}(M:Model)(A:Around)(t:Sem α)(Q:α→Shared→Prop)(E:Value→Shared→Prop)(s:Shared):Prop:=
 ∀ Γ p,Γ.In A→oL Γ→jN M Γ t (fun a _ s'=>Q a s') (fun e _ s'=>E e s') p s
noncomputable def dl(M:Model)(A:Around)(c:Code)(R:Result→Shared→Prop)(s:Shared):Prop:=
 ∀ Γ p,Γ.code=c→Γ.Below A→oL Γ→wpCode M Γ R p s
section
def aZ{t:Sem α}{Q:α→Shared→Prop}(h:wpAny M A t Q E s):aT M A t Q E s:=fun Γ p cb _=>h Γ p cb
def ba{a:α}{Q:α→Shared→Prop}(h:Q a s):aT M A (pure a) Q E s:=fun _ _ _ _=>h
def gS{t:Sem α}{Q Q':α→Shared→Prop}{E':Value→Shared→Prop}(h:aT M A t Q E s)(hQ:∀ a s,Q a s→Q' a s)(hE:∀ e s,E e s→E' e s):aT M A t Q' E' s:=
 fun Γ p cb hd=>nF M Γ t (fun a _ s=>hQ a s) (fun e _ s=>hE e s) p s (h Γ p cb hd)
def au{m:Sem α}{f:α→Sem β}{Q:β→Shared→Prop}(h:aT M A m (fun a s'=>aT M A (f a) Q E s') E s):
  aT M A (m>>=f) Q E s:=fun Γ p cb hd=>by
 rw [lV];exact nF M Γ m (fun a p' s' h'=>h' Γ p' cb hd) (fun _ _ _ h'=>h') p s (h Γ p cb hd)
def qj{m:Sem α}{k:Value→Sem Unit}{Q:α→Shared→Prop}(h:aT M A m Q (fun e s'=>aT M A (k e) (fun _ gW=>E e gW) E s') s):aT M A (m.onRaise k) Q E s:=fun Γ p cb hd=>by
 rw [Nd];exact nF M Γ m (fun _ _ _ h'=>h') (fun e p' s' h'=>h' Γ p' cb hd) p s (h Γ p cb hd)
def Gd{m:Sem α}{Q:Except Value α→Shared→Prop}(h:aT M A m (fun a=>Q (.ok a)) (fun e=>Q (.error e)) s):
  aT M A m.attempt Q E s:=fun Γ p cb hd=>by rw [Sem.wp_attempt];exact h Γ p cb hd
def cH{vs:Qa}{m:Sem α}{Q:α→Shared→Prop}(h:aT M A m Q E s):aT M A (holding vs m) Q E s:=
 fun Γ p cb hd=>by rw [Nf];exact h Γ p cb hd
def OC{vs:Qa}{m:Sem Value}(h:aT M A m Q E s):aT M A (operate vs m) Q E s:=
 fun Γ p cb hd=>by rw [Sem.wp_operate];exact h Γ p cb hd
def Ga{tag:String}{Q:Unit→Shared→Prop}(h:Q () s):aT M A (rule tag) Q E s:=fun _ _ _ _=>h
def eE{Q:Unit→Shared→Prop}(h:Q () s):aT M A (standAt pos) Q E s:=fun _ _ _ _=>h
def Gb{Q:Unit→Shared→Prop}(h:Q () s):aT M A point Q E s:=fun _ _ _ _=>h
def sy{Q:Bool→Shared→Prop}(h:Q b s):aT M A (truthy (.bool b)) Q E s:=fun _ _ _ _=>h
def Bo{vs ws:Qa}{Q:Unit→Shared→Prop}(h:Q () s):aT M A (release vs ws) Q E s:=fun Γ p cb hd=>by
 rw [Sem.wp_release];exact h
theorem oL.enter{Γ:Ctx}(h:oL Γ){c:Code}(hd:Qo)(p:Pos)(hc:lH c=false):oL (Γ.enter c hd p):=
 ⟨hc,fun x hx=>by
  rcases cA.mp hx with rfl|hx
  ·exact h.1
  ·exact h.2 x hx⟩
theorem oL.goto{Γ:Ctx}(h:oL Γ){c:Code}(hc:lH c=false):oL (Γ.goto c):=⟨hc,h.2⟩
def F_{c:Code}{h:Qo}{Q:Flow→Shared→Prop}(v9:lH c=false)(hc:dl M (A.mark h) c (fun r s'=>match r with|.ok f=>Q f s'|.error e=>E e s') s)(Dh:h≠some byPass:=by intro x;cases x):
  aT M A (run c h) Q E s:=
 fun Γ p cb hd=>by rw [adf];exact hc _ p rfl (cb.enter c h p Dh) (hd.enter h p v9)
set_option backward.match.sparseCases true in
def OB{c:Code}(v9:lH c=false)(hc:dl M A c (fun r s'=>match r with|.ok (.ret v)=>Q v s'|.ok _=>False|.error e=>E e s') s):
  aT M A (runValue c) Q E s:=fun Γ p cb hd=>by rw [Sem.wp_runValue];exact hc _ p rfl (cb.enter c none p (by intro x;injection x)) (hd.enter none p v9)
set_option backward.match.sparseCases true in
def oZ{f:Value}{pos:Qa}{kw:List (Str×Value)}(hc:dl M A (.call f ⟨pos,kw⟩) (fun r s'=>match r with|.ok (.ret v)=>Q v s'|.ok _=>False|.error e=>E e s') s):
  aT M A (call f pos kw) Q E s:=OB rfl hc
def Em{c:Code}{R R':Result→Shared→Prop}(h:dl M A c R s)(hR:∀ r s,R r s→R' r s):dl M A c R' s:=fun Γ p hc cb hd=>by
 have:=h Γ p hc cb hd;rw [wpCode_iff_wp] at this⊢;refine nF M Γ _ (fun fin p' s' h'=>?_) (fun e _ s' h'=>hR _ _ h') p s this;induction fin with
 | done f=>exact hR _ _ h'
 | again c'=>exact ⟨h'.1,by refine ch h'.2 fun r aa a b=>?_;exact ⟨r,aa,a,hR _ _ b⟩⟩
def lM{c:Code}{R:Result→Shared→Prop}(h:aT M (A.under c) (M.den c) (fun fin s'=>match fin with|.done f=>R (.ok f) s'|.again c'=>c'.quiet=true∧lH c'=false∧dl M A c' R s')
   (fun e s'=>R (.error e) s') s):dl M A c R s:=fun Γ p hc cb hd=>by
 rw [wpCode_iff_wp,hc];refine nF M Γ _ (fun fin p' s' h'=>?_) (fun _ _ _ h'=>h') p s (h Γ p (hc ▸ cb.in) hd);induction fin with
 | done f=>exact h'
 | again c'=>exact ⟨h'.1,h'.2.2 (Γ.goto c') p' rfl (cb.goto c') (hd.goto h'.2.1)⟩
end
section
noncomputable def aj{α β:Type}(B:Base prog w)(A:Around)(s:Shared)(σ:Sg)(r:R α)(t:Sem β)(Rel:Sg→Heap→α→β→Prop):Prop:=
 r≠.no→∀ Q E,fR B A s σ r Rel Q→ny B A s σ r E→aT (model prog w) A t Q E s
def bp.g{r:R α}{t:Sem β}(h:bp B A s σ r t Rel):aj B A s σ r t Rel:=fun V Q E hq he=>aZ (h V Q E hq he)
theorem aj.bind{α β FQ FP:Type}{ra:R α}{f:α→Hp→R FQ}{t:Sem β}{k:β→Sem FP}{Rel₁:Sg→Heap→α→β→Prop}{Rel₂:Sg→Heap→FQ→FP→Prop}(h₁:aj B A s σ ra t Rel₁)(b6:∀ v H₁ ax u aa,ra=.ok v H₁→af B A H₁ ax aa→Rel₁ ax aa.heap v u→aJ cq s.heap σ aa.heap ax→aj B A aa ax (f v H₁) (k u) Rel₂):aj B A s σ (ra.bind f) (t>>=k) Rel₂:=by intro V Q E hq he;have vU:ra≠.no:=fun e=>V (e ▸ rfl);refine au (h₁ vU _ _ (fun u aa v H₁ ax e st rel p=>?_) fun e s' H' σ' e'=>he e s' H' σ' (e' ▸ rfl));subst e;exact b6 v H₁ ax u aa rfl st rel p V Q E (fR.next hq p) (ny.next he p)
theorem aj.pure{α β:Type}{v:α}{u:β}{Rel:Sg→Heap→α→β→Prop}(st:af B A H σ s)(r:Rel σ s.heap v u):aj B A s σ (.ok v H) (pure u) Rel:=(bp.pure st r).g
theorem aj.no{α β:Type}{t:Sem β}{Rel:Sg→Heap→α→β→Prop}:aj B A s σ .no t Rel:=fun h=>absurd rfl h
def aj.mono{r:R α}{t:Sem β}{MG:Sg→Heap→α→β→Prop}(h:aj B A s σ r t Rel)(hR:∀ σ' h v u,Rel σ' h v u→MG σ' h v u):aj B A s σ r t MG:=
 fun V Q E hq he=>h V Q E (fun u s' v H' σ' e a b=>hq u s' v H' σ' e a (hR _ _ _ _ b)) he
def aj.hold{r:R α}{t:Sem β}{vs:Qa}(h:aj B A s σ r t Rel):aj B A s σ r (holding vs t) Rel:=fun V Q E hq he=>cH (h V Q E hq he)
def aj.eI{r:R α}{t:Sem β}(h:aj B A s σ r t Rel):aj B A s σ r (do standAt p;t) Rel:=fun V Q E hq he=>au (eE (h V Q E hq he))
theorem aj.operate{α:Type}{r:R α}{t:Sem Value}{Rel:Sg→Heap→α→Value→Prop}{vs:Qa}(h:aj B A s σ r t Rel):aj B A s σ r (operate vs t) Rel:=fun V Q E hq he=>OC (h V Q E hq he)
def aj.C1{c:Prop}[Decidable c]{r:R α}{t:Sem β}(h:c→aj B A s σ r t Rel):aj B A s σ (if c then r else .no) t Rel:=by
 by_cases q:c
 ·rw [if_pos q];exact h q
 ·rw [if_neg q];exact .no
def X8(n:Nat):∀ v v',cD H n v=some v'→eJ v'=true:=by
 induction n with
 | zero=>intro v v' e;refine ad (zM (fun i q=>by subst q;injection e) e) fun z0=>?_;subst z0;intro hp;exact hp
 | succ n ih=>
  intro v v' e;induction v using PV.casesOn with
  | loc i=>
   have hl:∀ (l:Qp) l',eR (l.map (cD H n))=some l'→dU l'=true:=by
    intro l;induction l with
    | nil=>intro l' e;(injection e with e1;subst e1);rfl
    | cons a r vH=>
     intro l' e;rw [da] at e;generalize hf:(cD H n a)=zz;induction zz using az with
     | none=>rw [hf] at e;injection e
     | some b=>rw [hf] at e;refine J (dG.mp e) fun CQ h' z2=>?_;subst z2;exact nM.mpr ⟨ih _ _ hf,vH _ h'⟩
   have hk:∀ (l:Qm) l',lP (l.map fun p=>(p.1,cD H n p.2))=some l'→jV l'=true:=by
    intro l;induction l with
    | nil=>intro l' e;(injection e with e1;subst e1);rfl
    | cons a r vH=>
     intro l' e;rw [da] at e;generalize hf:(cD H n a.2)=zz;induction zz using az with
     | none=>rw [hf] at e;injection e
     | some b=>rw [hf] at e;refine J (dG.mp e) fun CQ h' z2=>?_;subst z2;exact nM.mpr ⟨ih _ _ hf,vH _ h'⟩
   have e:(match H[i]? with
    | some (.list l)=>(eR (l.map (cD H n))).map .fl
    | some (.dict l)=>(lP (l.map fun p=>(p.1,cD H n p.2))).map .fd
    | some (.inst c l)=>(lP (l.map fun p=>(p.1,cD H n p.2))).map (.fi c)
    | _=>.none)=some v':=e
   generalize hi:H[i]?=zz;induction zz using az with
   | none=>rw [hi] at e;injection e
   | some o=>
    rw [hi] at e;induction o with
    | list l=>(refine J (dG.mp e) fun l' e' z2=>?_;subst z2);exact hl _ _ e'
    | dict l=>(refine J (dG.mp e) fun l' e' z2=>?_;subst z2);exact hk _ _ e'
    | inst c l=>(refine J (dG.mp e) fun l' e' z2=>?_;subst z2);exact hk _ _ e'
    | dW l=>injection e
  | _=>(refine ad (zM (fun i q=>by injection q) e) fun z0=>?_;subst z0;intro hp);exact hp
def BW{t:Sem Value}{run:Qp→Hp→R PV}(m:CM)(h:∀ σ H vs,af B A H σ s→aK prog w B.Cl σ s.heap vs us→aj B A s σ (run vs H) t (VR B))(st:af B A H σ s)(r:aK prog w B.Cl σ s.heap vs us):aj B A s σ (runC m run vs H) t (VR B):=by
 induction m with
 | aG=>exact h σ H vs st r
 | pure=>
  refine .C1 fun hp V Q E hq he=>?_;have BO:af B A [] ⟨[],own σ++σ.fr⟩ s:=st.bare (fun b hb=>eW _ hb) fun b hb=>cy.mp hb;have q8:run vs []≠.no:=fun q=>V (congrArg (back _ H) q);refine h ⟨[],own σ++σ.fr⟩ [] vs BO (r.sY hp fun b o _ hb q=>hb (q.elim (fun q=>absurd q oP) cy.mp)) q8 _ _ (fun u s' v H' σ' e a_ rel P=>?_) fun e s' H' σ' e' a_ x P=>?_
  ·refine ad (st.xR a_ P) fun aM fZ=>?_;have e1:back (fun H' v=>cD H' 4 v) H (run vs [])=R.of (cD H' 4 v) H:=congrArg _ e;generalize ef:(cD H' 4 v)=zz;induction zz using az with
   | none=>exact absurd (e1.trans (congrArg (R.of · H) ef)) V
   | some v'=>refine hq _ _ v' H σ (e1.trans (congrArg (R.of · H) ef)) aM ((KK a_ 4 v v' u ef rel).sY (X8 _ _ _ ef) fun b o _ hb q=>hb (.inr ?_)) fZ;show b∈σ'.fr;rw [P.fr];exact q.elim (fun q=>ij _ q) (fun q=>eW _ q)
  ·refine ad (st.xR a_ P) fun aM fZ=>?_;exact he e s' H σ (congrArg _ e') aM x fZ
 | jI=>
  generalize ea:(eR (vs.map (cD H 4)))=zz;induction zz using az with
  | none=>exact fun V=>absurd (show runC .jI run vs H=.no by delta runC;dsimp only;rw [ea]) V
  | some xQ=>
   have eb:runC .jI run vs H=back ot H (run xQ []):=by delta runC;dsimp only;rw [ea]
   rw [eb];have BO:af B A [] ⟨[],σ.fr⟩ s:=st.bare (fun b hb=>hb) fun b hb=>.inr hb;refine ad (EQ ea) fun h1 h2=>?_;intro V Q E hq he;have q8:run xQ []≠.no:=fun q=>V (congrArg (back _ H) q);refine h ⟨[],σ.fr⟩ [] xQ BO ⟨h1.trans r.sz,fun i v u a b=>by
    refine J (h2 i v a) fun nN e1 e2=>?_;exact KK st 4 nN v u e2 (r.all i nN u e1 b)⟩ q8 _ _ (fun u s' v H' σ' e a_ rel P=>?_) fun e s' H' σ' e' a_ x P=>?_
   ·refine ad (st.xR a_ P) fun aM fZ=>?_;have e1:back ot H (run xQ [])=R.of (ot H' v) H:=congrArg _ e;generalize ef:(ot H' v)=zz;induction zz using az with
    | none=>exact absurd (e1.trans (congrArg (R.of · H) ef)) V
    | some v'=>
     refine hq _ _ v' H σ (e1.trans (congrArg (R.of · H) ef)) aM (Yi a_ ef rel (fun b o eb ct hb q=>?_) fun b hb q=>?_) fZ
     ·rcases q with q|q
      ·refine ci (H9 aM.inv q) fun ob e1 _ c2=>?_;exact c2 (Option.some.inj (eb.symm.trans e1) ▸ ct)
      ·exact hb (.inr (P.fr ▸ q))
     ·rcases P.new b hb with h3|h3
      ·cases h3
      ·rcases q with q|q
       ·refine ay (st.inv.low b q).2.1 fun o e=>?_;injection (h3.symm.trans e)
       ·refine ay (st.inv.cS b q).2 fun o e=>?_;injection (h3.symm.trans e)
   ·refine ad (st.xR a_ P) fun aM fZ=>?_;exact he e s' H σ (congrArg _ e') aM x fZ
def mY{t:Sem Value}(st:af B A H σ s)(h:∀ (Q E:Value→Shared→Prop),(∀ u k,ah prog w B.Cl σ s.heap v u→Q u {s with toks:=k})→wpAny (model prog w) A t Q E s):aj B A s σ (.ok v H) t (VR B):=(l9 st h).g
end
end
section
open PySem
noncomputable def d_(g:Heap)(fr:List Addr)(h h':Heap):Prop:=∀ b o,h.get? b=some o→
 (g.get? b=none∧(∃ vs,o.data=.fields vs)∧∃ o',h'.get? b=some o')∨h'.get? b=some o∨(b∈fr∧∃ o',h'.get? b=some o'∧jo o o')
section
variable {Cl:Nat→Addr} {g:Heap}
def d_.refl:d_ g fr h h:=fun b o e=>.inr (.inl e)
def d_.solid(x:d_ g fr h h'){b:Addr}(e:h.get? b=some o)(hd:∀ vs,o.data≠.fields vs)(hb:b∉fr):h'.get? b=some o:=by
 rcases x b o e with ⟨_,⟨vs,q⟩,_⟩|h1|⟨q,_⟩
 ·exact absurd q (hd vs)
 ·exact h1
 ·exact absurd q hb
theorem d_.some(x:d_ g fr h h'){b:Addr}{o:Obj}(e:h.get? b=some o):∃ o',h'.get? b=some o':=by
 rcases x b o e with ⟨_,_,q⟩|h1|⟨_,o',q,_⟩
 ·exact q
 ·exact ⟨_,h1⟩
 ·exact ⟨_,q⟩
def ah.tick(x:d_ g σ.fr h h')(r:ah prog w Cl σ h v u):ah prog w Cl σ h' v u:=by
 have kk:∀ b o,¬ c_ σ b→(∀ vs,o.data≠.fields vs)→h.get? b=Np o→h'.get? b=Np o:=fun b o hb hd e=>x.solid e hd fun q=>hb (.inr q);induction r with
 | none=>exact .none
 | bool b=>exact .bool b
 | int i t=>exact .int i t
 | str l t=>exact .str l t
 | bytes l t=>exact .bytes l t
 | tup e no sz _ ih=>exact .tup (kk _ _ no (by simp) e) no sz ih
 | fl e no sz _ ih=>exact .fl (kk _ _ no (by simp) e) no sz ih
 | fd e sm no ks _ ih=>refine ik (id e) fun o es ep e' rest=>?_;exact .fd (pN e fun db cJ=>kk _ _ no (by obtain rfl:=Option.some.inj (e'.symm.trans cJ);rw [rest.2.1];simp) cJ) sm no ks ih
 | fi e cls jJ dat ne ns ex no jd ks _ ih=>refine dS (id ns) fun od es ep ed v_ _=>?_;have kd:=fun o e'=>kk _ o jd (by obtain rfl:=Option.some.inj (ed.symm.trans e');rw [v_];simp) e';exact .fi (kk _ _ no (by rw [dat];simp) e) cls jJ dat ne (ns.at kd) (ex.at kd) no jd ks ih
 | loc e=>exact .loc e
theorem aK.tick(x:d_ g σ.fr h h'){l us}(r:aK prog w Cl σ h l us):aK prog w Cl σ h' l us:=⟨r.sz,fun i v u a b=>(r.all i v u a b).tick x⟩
theorem fE.tick(x:d_ g σ.fr h h'){l us}(r:fE prog w Cl σ h l us):fE prog w Cl σ h' l us:=⟨r.ks,fun i k v k' u a b=>(r.all i k v k' u a b).tick x⟩
theorem mI.tick(x:d_ g σ.fr h h'){l us}(r:mI prog w Cl σ h l us):mI prog w Cl σ h' l us:=⟨r.ks,fun k v u a b=>(r.all k v u a b).tick x⟩
theorem hZ.tick(x:d_ g σ.fr h h'){o:PO}{q:Addr×Addr}(k1:q.1∉σ.fr)(k2:q.2∉σ.fr)(r:hZ prog w Cl σ h o q):hZ prog w Cl σ h' o q:=by
 induction o with
 | list l=>(refine ad r fun e z2=>?_;clear r;(refine ch z2 fun us n h1 h2=>?_;clear z2));exact ⟨e,us,n,x.solid h1 (by simp) k1,h2.tick x⟩
 | dict l=>refine ad r fun e z2=>?_;clear r;refine J z2 fun kvs h1 h2=>?_;clear z2;refine ik (id h1) fun o es ep e' rest=>?_;exact ⟨e,kvs,pN h1 fun db cJ=>x.solid cJ (by obtain rfl:=Option.some.inj (e'.symm.trans cJ);rw [rest.2.1];simp) k1,h2.tick x⟩
 | inst c l=>refine ad r fun e z2=>?_;clear r;refine qi z2 fun ob m h1 h2 h3 h4 h5 h6 h7 h8=>?_;clear z2;refine dS (id h5) fun od es ep ed v_ _=>?_;have kd:=fun o (e':h.get? _=Np o)=>x.solid e' (by obtain rfl:=Option.some.inj (ed.symm.trans e');rw [v_];simp) k2;exact ⟨e,ob,m,x.solid h1 (by rw [h4];simp) k1,h2,h3,h4,h5.at kd,h6.at kd,h7.tick x,h8⟩
 | dW l=>(refine ad r fun e h1=>?_;clear r);exact ⟨e,x.solid h1 (by simp) k1⟩
theorem Inv.tick{h₀:Heap}(i:Inv prog w Cl h₀ H σ h)(x:d_ g σ.fr h h'):Inv prog w Cl h₀ H σ h':=
 ⟨i.len,fun n o p a b=>(i.obj n o p a b).tick x (i.low _ (dC b).1).2.2 (i.low _ (dC b).2).2.2,i.apart,
  fun b hb=>⟨(i.low b hb).1,(i.low b hb).2.1.elim fun _ e=>x.some e,(i.low b hb).2.2⟩,fun b hb=>⟨(i.cS b hb).1,(i.cS b hb).2.elim fun _ e=>x.some e⟩⟩
theorem af.tick(st:af B A H σ s)(x:d_ g σ.fr s.heap h')(hg:∀ b o,B.h₀.get? b=some o→∃ o',g.get? b=some o'):af B A H σ {s with heap:=h'} where
 keep b o e:=by
  rcases x b o (st.keep b o e) with ⟨q,_⟩|h1|⟨q,_⟩
  ·refine ay (hg b o e) fun o' e'=>?_;injection (q).symm.trans e'
  ·exact h1
  ·have:=(st.inv.cS b q).1;injection (e).symm.trans this
 inv:=st.inv.tick x
 gens:=st.gens
 os:=st.os
 dV env he:=by
  refine ad (st.dV env he) fun a z2=>?_;refine i_ z2 fun L o b c d e1 e2=>?_;clear z2;rcases x L o d with ⟨_,⟨vs,q⟩,_⟩|h1|⟨_,o',q,k⟩
  ·exact absurd q (e2 vs)
  ·exact ⟨a,L,o,b,c,h1,e1,e2⟩
  ·exact ⟨a,L,o',b,c,q,k.cls.trans e1,fun vs=>by rw [k.data];exact e2 vs⟩
def aJ.tick{X:Addr→Prop}(p:aJ X g σ₀ h σ)(x:d_ g σ.fr h h'):aJ X g σ₀ h' σ where
 kp b o hb hx e:=by
  refine J (p.kp b o hb hx e) fun db cJ k₁=>?_;rcases x b db cJ with ⟨q,_⟩|h1|⟨_,o',q,k⟩
  ·injection (e).symm.trans q
  ·exact ⟨db,h1,k₁⟩
  ·exact ⟨o',q,k₁.trans k⟩
 pre:=p.pre
 fr:=p.fr
 new b hb:=p.new b hb
 al b o e:=by refine ay (p.al b o e) fun o' e'=>?_;exact x.some e'
def X9(st:af B A H σ s){l:List Env}(hl:∀ env∈l,env∈A.frames.getD []):s.heap.FunFrames B.h₀ l:=by
 induction l with
 | nil=>trivial
 | cons env l ih=>refine ad (st.dV env (hl env (bC ..))) fun a z2=>?_;refine i_ z2 fun L o b c d e1 e2=>?_;clear z2;exact ⟨by rw [a];simp,⟨L,o,b,(st.inv.cS L c).1,d,e2⟩,ih fun e he=>hl e (bM _ he)⟩
def KL(st:af B A H σ s){l:List Env}(hl:∀ env∈l,env∈A.frames.getD []){b:Addr}(hb:b∈l.filterMap (·.frame)):b∈σ.fr∧∃ o,s.heap.get? b=some o∧o.cls=.type "frame"∧∀ vs,o.data≠.fields vs:=by refine J (Fr.mp hb) fun env he hf=>?_;refine ad (st.dV env (hl env he)) fun a z2=>?_;refine i_ z2 fun L o b' c d e1 e2=>?_;clear z2;rw [b'] at hf;(injection hf with e1;subst e1);exact ⟨c,o,d,e1,e2⟩
def Py(st:af B A H σ s){l:List Env}(hl:∀ env∈l,env∈A.frames.getD [])(x:Heap.SlotsOnly (l.filterMap (·.frame)) s.heap h'):d_ g σ.fr s.heap h':=fun b o e=>by
 by_cases hb:b∈l.filterMap (·.frame)
 ·(refine ad (KL st hl hb) fun h1 z2=>?_;(refine ci z2 fun o' h2 h3 _=>?_;clear z2))
  obtain rfl:=Option.some.inj (e.symm.trans h2);refine ay (x.2.2 b o e) fun sl h4=>?_;exact .inr (.inr ⟨h1,_,h4,.inr ⟨h3,sl,rfl⟩⟩)
 ·exact .inr (.inl ((x.2.1 b hb).trans e))
def BA{b:Addr}{vs:Qv}{f:Qv→Qv}(hb:g.get? b=none)(e:h.get? b=some o)(hd:o.data=.fields vs):d_ g fr h (h.update b (Fd f)):=fun c o' e'=>by
 by_cases hc:c=b
 ·subst hc;obtain rfl:=Option.some.inj (e.symm.trans e');exact .inl ⟨hb,⟨vs,hd⟩,_,k8 _ e (Nr (Fe hd _))⟩
 ·exact .inr (.inl ((FD _ _ (Ne.symm hc)).trans e'))
theorem d_.trans(x:d_ g fr h h')(y:d_ g fr h' fO):d_ g fr h fO:=fun b o e=>by
 rcases x b o e with ⟨q1,q2,o',q3⟩|h1|⟨q,o',h1,k⟩
 ·exact .inl ⟨q1,q2,y.some q3⟩
 ·exact y b o h1
 ·rcases y b o' h1 with ⟨q1,⟨vs,q2⟩,q3⟩|h2|⟨_,vf,h2,k'⟩
  ·exact .inl ⟨q1,⟨vs,by rw [←k.data];exact q2⟩,q3⟩
  ·exact .inr (.inr ⟨q,o',h2,k⟩)
  ·exact .inr (.inr ⟨q,vf,h2,k.trans k'⟩)
theorem d_.push{ob:Obj}:d_ g fr h (h.push ob):=fun b o e=>.inr (.inl (fh _ e))
def Ll{x:Addr}{oe:Obj}{vs:Qv}{head:Value}{Xl:Bool}{Q:Unit→Shared→Prop}(st:af B A H σ s)(hA:A.frames=some (env::outer))(hf:env.frame=some L)(hg:∀ b o,g.get? b=some o→∃ o',s.heap.get? b=some o')(hx:g.get? x=none)(he:s.heap.get? x=some oe)(hc:oe.cls=.ref B.bad)(hd:oe.data=.fields vs)(dh:1 < vs.size)(hQ:∀ h',d_ g σ.fr s.heap h'→gN B g h' (.ref x) (fun st=>st=some (rawInt L))→Q () {s with heap:=h'}):
  wpAny M A (do let a←frameOf env;let pl←entryPlaceOf L Xl;let b←ago head a .none (rawInt L) .none pl;setField (.ref x) 1 b) Q E s:=by
 have hl:∀ e∈env::outer,e∈A.frames.getD []:=fun e he=>by rw [hA];exact he
 have WU:=X9 st hl;have W0:x∉(env::outer).filterMap (·.frame):=fun hm=>by
  refine ad (KL st hl hm) fun _ z2=>?_;refine ci z2 fun o ho _ Wi=>?_;clear z2;replace ho:=(he).symm.trans ho;injection ho with ho;subst ho;exact Wi vs hd
 refine wpAny_bind (wpAny_frameOf_fun hA WU hf fun h₁ Da=>?_);refine wpAny_bind (wpAny_entryPlaceOf fun pl jf=>?_);refine wpAny_bind (wpAny_newObj_type ?_ (jf.sizeOk5 _ _ _ _ _));have t1:d_ g σ.fr s.heap h₁:=Py st hl Da;have Kf:h₁.get? x=some oe:=(Da.2.1 x W0).trans he;have hT:g.get? h₁.objs.size=none:=by
  generalize e:(g.get? h₁.objs.size)=zz;induction zz using az with
  | none=>rfl
  | some o=>refine ay (hg _ o e) fun o' e'=>?_;have:=kn e';rw [Da.1] at this;exact absurd this (xq _)
 have pE:=fh (h:=h₁) {cls:=.type "traceback",dict:=none,data:=.fields ([head,.ref L,.none,rawInt L,.none]++(if pl.isEmpty then gC 6 Value.none else pl)).toArray} Kf;refine wpAny_setField pE hd dh ?_;have Kt:h₁.objs.size≠x:=adT (kn Kf);have Kh:=Fe hd (·.setIfInBounds 1 (ia h₁.objs.size));have WZ:=k8 (Fd (·.setIfInBounds 1 (ia h₁.objs.size))) pE (Nr Kh);have Xu:=(FD (h₁.push {cls:=.type "traceback",dict:=none,data:=.fields ([head,.ref L,.none,rawInt L,.none]++(if pl.isEmpty then gC 6 Value.none else pl)).toArray})
  (Fd (·.setIfInBounds 1 (ia h₁.objs.size))) (Ne.symm Kt)).trans (eu h₁ rfl)
 refine hQ _ ((t1.trans .push).trans (BA hx pE hd)) ⟨x,_,_,some (rawInt L),rfl,hx,WZ,(Obj.cls_mapFields _ _).trans hc,Kh,rfl,h₁.objs.size,_,_,by simp [dh],hT,Kt,Xu,rfl,?_⟩
 first|(simp;done)|(rcases jf with rfl|⟨_,_,_,_,_,_,_,rfl⟩<;>simp)
def Cq{e:Value}{Q:Unit→Shared→Prop}(h0:∀ b o,B.h₀.get? b=some o→∃ o',g.get? b=some o')(st:af B A H σ s)(hA:A.frames=some (env::outer))(hf:env.frame=some L)(hg:∀ b o,g.get? b=some o→∃ o',s.heap.get? b=some o')(ex:gN B g s.heap e (za L))(hQ:∀ h',d_ g σ.fr s.heap h'→gN B g h' e (fun st=>st=some (rawInt L))→Q () {s with heap:=h'}):wpAny M A (noteFrame e env) Q E s:=by
 refine xK ex fun x oe vs fl z4=>?_;clear ex;subst z4;intro hx he hc hd hp fy;delta noteFrame;simp only [hf];induction fl using az with
 | none=>refine wpAny_bind (wpAny_field he hd fy ?_);rw [if_neg (by decide)];exact Ll st hA hf hg hx he hc hd (xH.mp fy).1 hQ
 | some fl=>
  refine sq fy fun T oT ts h1 hT tH eT dT h3=>?_;clear fy;refine wpAny_bind (wpAny_field he hd h1 ?_);rw [if_pos (show (ia T != Value.none)=true from rfl)];refine wpAny_bind (wpAny_field eT dT h3 ?_);rcases hp with hp|hp|hp
  ·injection hp
  ·(injection hp with e1;subst e1)
   rw [if_neg (show ¬ ((Value.none==rawInt L)=true) from by simp [rawInt])];refine wpAny_bind (wpAny_setField eT dT (xH.mp h3).1 ?_);have t:=BA (g:=g) (fr:=σ.fr) (f:=(·.setIfInBounds 3 Value.none)) hT eT dT;have av:af B A H σ {s with heap:=s.heap.update T (Fd (·.setIfInBounds 3 Value.none))}:=st.tick t h0;refine Ll av hA hf (fun b o e=>?_) hx ((FD _ _ tH).trans he) hc hd (xH.mp h1).1 fun h' t' pM=>hQ h' (t.trans t') pM;refine ay (hg b o e) fun o' e'=>?_;exact t.some e'
  ·(injection hp with e1;subst e1)
   rw [if_pos (show (rawInt L==rawInt L)=true from by simp)];exact wpAny_pure (hQ _ .refl ⟨x,oe,vs,some (rawInt L),rfl,hx,he,hc,hd,rfl,T,oT,ts,h1,hT,tH,eT,dT,h3⟩)
def zV{P:Qo→Prop}{fl:Option Addr}{e:Value}{Q:Unit→Shared→Prop}(ex:gN B g s.heap e P)(hQ:∀ h',d_ g fr s.heap h'→gN B g h' e (fun st=>st=some (fl.elim .none fun f=>rawInt f)∨(st=none∧P none))→Q () {s with heap:=h'}):wpAny M A (setFlight e fl) Q E s:=by
 refine xK ex fun x oe vs st z4=>?_;clear ex;subst z4;intro hx he hc hd hp fy;induction st using az with
 | none=>refine wpAny_bind (wpAny_field he hd fy ?_);rw [if_neg (by decide)];exact wpAny_pure (hQ _ .refl ⟨x,oe,vs,none,rfl,hx,he,hc,hd,.inr ⟨rfl,hp⟩,fy⟩)
 | some st=>refine sq fy fun T oT ts h1 hT tH eT dT h3=>?_;clear fy;refine wpAny_bind (wpAny_field he hd h1 ?_);rw [if_pos (show (ia T != Value.none)=true from rfl)];have Kz:=(xH.mp h3).1;refine wpAny_setField eT dT Kz (hQ _ (BA hT eT dT) ⟨x,oe,vs,some _,rfl,hx,(FD _ _ tH).trans he,hc,hd,.inl rfl,T,_,_,h1,hT,tH,k8 _ eT (Nr (Fe dT _)),Fe dT _,by simp [Kz]⟩)
def gN.imp{e:Value}{P P':Qo→Prop}(x:gN B g h e P)(hP:∀ st,P st→P' st):gN B g h e P':=x.le (fun b o e=>⟨o,e⟩) hP
def Uo{e:Value}{Q:Unit→Shared→Prop}(h0:∀ b o,B.h₀.get? b=some o→∃ o',g.get? b=some o')(st:af B A H σ s)(hA:A.frames=some (env::outer))(hf:env.frame=some L)(hg:∀ b o,g.get? b=some o→∃ o',s.heap.get? b=some o')(ex:gN B g s.heap e (za L))(hQ:∀ h',d_ g σ.fr s.heap h'→gN B g h' e ww→Q () {s with heap:=h'}):wpAny M A (leaving env e) Q E s:=by
 refine wpAny_bind (Cq h0 st hA hf hg ex fun h₁ nO Zc=>?_);refine zV (s:={s with heap:=h₁}) (fr:=σ.fr) Zc fun b6 cj rA=>hQ b6 (nO.trans cj) (rA.imp fun st h=>?_);rcases h with h|⟨h,q⟩
 ·exact h
 ·injection q
def aa_{e:Value}(hf:env.frame=some L)(ex:gN B g s.heap e (fun st=>st=some (rawInt L)))(hQ:∀ h',d_ g fr s.heap h'→gN B g h' e (fun st=>st=some (rawInt L))→E e {s with heap:=h'}):cameBackBy M A env E e s:=by
 have pM:=ex;refine xK pM fun x oe vs st z4=>?_;clear pM;subst z4;intro hx he hc hd hp fy;subst hp;refine sq fy fun T oT ts h1 hT tH eT dT h3=>?_;clear fy;refine wpAny_bind (wpAny_field he hd h1 ?_);rw [if_neg (by simp)];rw [hf];refine zV (fr:=fr) ex fun b6 cj rA=>hQ b6 cj (rA.imp fun st h=>?_);rcases h with h|⟨h,q⟩
 ·exact h
 ·injection q
end
end
section
set_option backward.match.sparseCases true
open PySem
def Ow(M:Model)(Γ:Ctx)(E:Value→Pos→Shared→Prop)(p:Pos)(s:Shared){m}(hn:s.heap.Ns a m)(name:Str)(v:Value)(Q:Unit→Pos→Shared→Prop)(hQ:∀ h',h'.Ns a (fun x=>if x=name then some v else m x)→uB a s.heap h'→(∀ o,s.heap.get? a=some o→∃ o',h'.get? a=some o'∧o'.cls=o.cls)→
   Q () p {s with heap:=h',toks:=s.toks + 1}):jN M Γ (nsSet a name v) Q E p s:=by
 refine lf hn fun o es ep ho hd hk hm=>?_;clear hn;simp only [nsSet,strHash,lV,Sem.wp_cmd_ask,Nc,Sem.wp_cmd_mkText];rw [Sem.wp_loadPart_of M Γ E p {s with toks:=s.toks + 1} (o:=o) _ ho];have zA:es.any (·.refKey)=false:=by rw [Array.any_eq_false'];intro e he;refine eB (hk e he) fun n t h=>?_;simp [ae1,h]
 simp only [hd,aRefKeyMayBeTheName_eq,aRefKeyMayBeTheNameByArray,zA,xF,uH,if_false,Sem.wp_cmd_updatePart];obtain ⟨c,d,dt,sl⟩:=o;subst hd;refine ⟨by rw [ho];rfl,hQ _ ?_ (NV ..) fun o e=>?_⟩
 ·generalize hi:(es.findIdx? (·.key.isStr name))=zz;induction zz using az with
  | some i=>
   refine ⟨_,_,ep,k8 _ ho (by simp only [r4,r5,hi];rfl),by simp only [r4,r5,hi];rfl,hk.modify _ _,fun x=>?_⟩;show _=if x=name then some v else m x
   rw [←hm];exact findBy_modify (fun n v=>v.isStr n) Value.isStr_inj es name x v i hi
  | none=>
   refine ⟨_,_,ep + 1,k8 _ ho (by simp only [r4,r5,hi];rfl),by simp only [r4,r5,hi];rfl,hk.push _ _ _ _,fun x=>?_⟩;show _=if x=name then some v else m x
   rw [←hm];exact findBy_push (fun n v=>v.isStr n) es name x _ _ v (fun y=>by
    show (name==y)=decide (y=name);by_cases h:y=name
    ·subst h;rfl
    ·have:¬ name=y:=fun e=>h e.symm;simp [h,this]) hi
 ·rw [ho] at e;(injection e with e1;subst e1);generalize hi:(es.findIdx? (·.key.isStr name))=zz;induction zz using az with
  | some i=>exact ⟨_,k8 _ ho (by simp only [r4,r5,hi];rfl),by simp only [r4,r5,hi]⟩
  | none=>exact ⟨_,k8 _ ho (by simp only [r4,r5,hi];rfl),by simp only [r4,r5,hi]⟩
def Th{m}{v:Value}{Q:Unit→Shared→Prop}(hn:s.heap.Ns a m)(h:∀ h',h'.Ns a (fun x=>if x=name then some v else m x)→uB a s.heap h'→(∀ o,s.heap.get? a=some o→∃ o',h'.get? a=some o'∧o'.cls=o.cls)→Q () {s with heap:=h',toks:=s.toks + 1}):
  wpAny M A (nsSet a name v) Q E s:=fun Γ p _=>Ow M Γ _ p s hn name v _ h
section
variable {F:br}
def af.B0(st:af B A H σ s){c:Addr}{k:Nat}(hc:c∈σ.fr)(hk:∀ b o,b≠c→s.heap.get? b=some o→h'.get? b=some o)(he:∀ o,s.heap.get? c=some o→∃ o',h'.get? c=some o'∧o'.cls=o.cls∧∀ vs,o'.data≠.fields vs):
  af B A H σ {s with heap:=h',toks:=k}∧aJ (fun b=>b=c) s.heap σ h' σ:=by
 have al:∀ b o,s.heap.get? b=some o→∃ o',h'.get? b=some o':=fun b o e=>by
  by_cases hb:b=c
  ·subst hb;refine J (he o e) fun o' e' _=>?_;exact ⟨o',e'⟩
  ·exact ⟨o,hk b o hb e⟩
 have P:aJ (fun b=>b=c) s.heap σ h' σ:=⟨fun b o _ hx e=>⟨o,hk b o hx e,.refl o⟩,⟨[],by simp⟩,rfl,fun b hb=>.inl hb,al⟩;have hX:∀ b,b=c→b∈σ.fr:=fun b e=>e ▸ hc;have g7:∀ b,b∈own σ→b≠c:=fun b hb q=>(st.inv.low b hb).2.2 (q ▸ hc);refine ⟨⟨fun b o e=>hk b o (fun q=>?_) (st.keep b o e),⟨st.inv.len,fun i o p a b=>(st.inv.obj i o p a b).mono P hX (fun _ e=>hk _ _ (g7 _ (dC b).1) e) (fun _ e=>hk _ _ (g7 _ (dC b).2) e),st.inv.apart,
  fun b hb=>⟨(st.inv.low b hb).1,(st.inv.low b hb).2.1.elim fun o e=>al b o e,(st.inv.low b hb).2.2⟩,fun b hb=>⟨(st.inv.cS b hb).1,(st.inv.cS b hb).2.elim fun o e=>al b o e⟩⟩,st.gens,st.os,fun env hm=>?_⟩,P⟩
 ·subst q;have:=(st.inv.cS b hc).1;injection (e).symm.trans this
 ·(refine ad (st.dV env hm) fun a z2=>?_;(refine i_ z2 fun L o b d e e1 e2=>?_;clear z2))
  by_cases hL:L=c
  ·subst hL;refine ci (he o e) fun o' e' pF rh=>?_;exact ⟨a,L,o',b,d,e',pF.trans e1,rh⟩
  ·exact ⟨a,L,o,b,d,hk L o hL e,e1,e2⟩
def yl{x:PV}(h:(cX sl i v)[j]?=some (some x)):(j=i∧x=v)∨(j≠i∧sl[j]?=some (some x)):=by
 delta cX at h;replace h:=(List.getElem?_set).symm.trans h;by_cases j4:i=j
 ·subst j4;replace h:=(if_pos rfl).symm.trans h;by_cases hl:i < sl.length
  ·replace h:=(if_pos hl).symm.trans h;cases h;exact .inl ⟨rfl,rfl⟩
  ·injection ((if_neg hl).symm.trans h)
 ·exact .inr ⟨fun q=>j4 q.symm,(if_neg j4).symm.trans h⟩
def GR(ok:F.Ok){id:Str}{Q:Unit→Shared→Prop}(hi:F.nm[i]?=some (some id))(fw:F.env.kindOf id=some .local)(st:af B A' H σ s)(lo:bh B F sl σ s.heap)(r:ah prog w B.Cl σ s.heap v u)(hQ:∀ h' k,af B A' H σ {s with heap:=h',toks:=k}→bh B F (cX sl i v) σ h'→aJ (fun b=>b=F.env.locals) s.heap σ h' σ→Q () {s with heap:=h',toks:=k}):wpAny (model prog w) A (storeName F.env id u) Q E s:=by
 refine J lo.lF fun m hn hv=>?_;rw [storeName_local fw (by rw [ok.fk];rfl)];refine Th hn fun h' iR hs hc=>?_;refine ad (st.B0 (c:=F.env.locals) (k:=s.toks + 1) lo.jF (fun b o hb e=>(hs.2 b hb).trans e) fun o e=>by
   refine J (hc o e) fun o' e' pF=>?_;refine dS iR fun eM es ep g_ hd _=>?_;clear iR;replace e':=(g_).symm.trans e';(injection e' with e1;subst e1);exact ⟨_,g_,pF,fun vs=>by rw [hd];simp⟩) fun a_ P=>?_
 have hX:∀ b,b=F.env.locals→b∈σ.fr:=fun b e=>e ▸ lo.jF;refine hQ h' _ a_ ⟨⟨_,iR,fun j id' v' h1 h2 h3=>?_⟩,fun j id' v' h1 h2 h3=>?_,fun id' a hm=>?_,lo.jF⟩ P
 ·rcases yl h3 with ⟨rfl,rfl⟩|⟨V,h3⟩
  ·obtain rfl:id'=id:=by replace hi:=(h1).symm.trans hi;cases hi;rfl
   exact ⟨u,by simp,r.mono P hX⟩
  ·have gv:id'≠id:=fun q=>V (ok.one j i id' h1 (q ▸ hi));refine J (hv j id' v' h1 h2 h3) fun u' hu ru=>?_;exact ⟨u',by simp [gv,hu],ru.mono P hX⟩
 ·rcases yl h3 with ⟨rfl,rfl⟩|⟨V,h3⟩
  ·obtain rfl:id'=id:=by replace hi:=(h1).symm.trans hi;cases hi;rfl
   exact absurd fw h2
  ·refine cO (lo.mE j id' v' h1 h2 h3) fun a u' h4 h5 zw ru=>?_;exact ⟨a,u',h4,h5,zw.sameBut hs (ok.vy _ h5),ru.mono P hX⟩
 ·(refine ad (lo.hO id' a hm) fun z0 fg=>?_;(refine ay z0 fun cv zw=>?_;clear z0))
  exact ⟨⟨cv,zw.sameBut hs (ok.vy _ hm)⟩,fg⟩
def sG(ok:F.Ok){id:Str}{Q:Unit→Shared→Prop}(hi:F.nm[i]?=some (some id))(fw:F.env.kindOf id=some .local∨F.env.kindOf id=some .cell)(st:af B A' H σ s)(lo:bh B F sl σ s.heap)(r:ah prog w B.Cl σ s.heap v u)(hQ:∀ h' k,af B A' H σ {s with heap:=h',toks:=k}→bh B F (cX sl i v) σ h'→aJ (bG F) s.heap σ h' σ→Q () {s with heap:=h',toks:=k}):wpAny (model prog w) A (storeName F.env id u) Q E s:=by
 rcases fw with fw|fw
 ·exact GR ok hi fw st lo r fun h' k a_ fe P=>hQ h' k a_ fe (P.weaken fun b hb=>.inl hb)
 ·refine J (ok.wJ i id hi fw) fun a ha hm=>?_;refine ad (lo.hO id a hm) fun z0 fg=>?_;refine ch z0 fun cv oc ec dc=>?_;clear z0;have zw:s.heap.IsCell a cv:=⟨oc,ec,dc⟩;delta storeName;rw [fw,ok.fk];show wpAny _ _ (cellOf F.env id>>=_) _ _ s;refine wpAny_bind (wpAny_cellOf ha ?_);refine wpAny_bind (wpAny_load ec ?_);rw [dc];refine wpAny_update ec ?_;have e':=k8 (fun o:Obj=>{o with data:=.cell (some u)}) ec rfl;have hs:=NV s.heap a (fun o:Obj=>{o with data:=.cell (some u)});generalize s.heap.update a (fun o:Obj=>{o with data:=.cell (some u)})=h' at e' hs⊢;refine ad (st.B0 (c:=a) (k:=s.toks) fg (fun b o hb e=>(hs.2 b hb).trans e) fun o e=>by
     replace e:=(ec).symm.trans e;(injection e with e1;subst e1);exact ⟨_,e',rfl,fun vs=>by simp⟩) fun a_ P=>?_
  have hX:∀ b,b=a→b∈σ.fr:=fun b e=>e ▸ fg;have zo:F.env.locals≠a:=fun q=>ok.vy _ hm q.symm;refine hQ h' _ a_ ⟨?_,fun j id' v' h1 h2 h3=>?_,fun id' a' v0=>?_,lo.jF⟩ (P.weaken fun b hb=>.inr ⟨id,hb ▸ hm⟩)
  ·refine J lo.lF fun m hn hv=>?_;refine ⟨m,hn.sameBut hs zo,fun j id' v' h1 h2 h3=>?_⟩;rcases yl h3 with ⟨rfl,rfl⟩|⟨V,h3⟩
   ·obtain rfl:id'=id:=by replace hi:=(h1).symm.trans hi;cases hi;rfl
    replace h2:=(fw).symm.trans h2;cases h2
   ·refine J (hv j id' v' h1 h2 h3) fun u' hu ru=>?_;exact ⟨u',hu,ru.mono P hX⟩
  ·rcases yl h3 with ⟨rfl,rfl⟩|⟨V,h3⟩
   ·obtain rfl:id'=id:=by replace hi:=(h1).symm.trans hi;cases hi;rfl
    exact ⟨a,u,ha,hm,⟨_,e',rfl⟩,r.mono P hX⟩
   ·have gv:id'≠id:=fun q=>V (ok.one j i id' h1 (q ▸ hi));refine cO (lo.mE j id' v' h1 h2 h3) fun a' u' h4 h5 Xc ru=>?_;have q8:a'≠a:=fun q=>gv (name_of_addr ok.apart h5 (q ▸ hm));exact ⟨a',u',h4,h5,Xc.sameBut hs q8,ru.mono P hX⟩
  ·(refine ad (lo.hO id' a' v0) fun z0 Kd=>?_;(refine ch z0 fun Z9 o' cJ tR=>?_;clear z0))
   by_cases hq:a'=a
   ·subst hq;exact ⟨⟨_,_,e',rfl⟩,Kd⟩
   ·exact ⟨⟨Z9,o',(hs.2 a' hq).trans cJ,tR⟩,Kd⟩
end
end
section
open PySem
section
noncomputable def aV(B:Base prog w)(O:dL)(fu n:Nat)(F:br)(p:PE)(e:Expr):Prop:=
 ∀ A s σ H sl,b0 n A→af B A H σ s→bh B F sl σ s.heap→aj B A s σ (ao O p sl H) (eval e F.env) (VR B)
noncomputable def E1:Sg→Heap→Bool→Bool→Prop:=fun _ _ b u=>u=b
noncomputable def i3(B:Base prog w)(O:dL)(fu n:Nat)(F:br)(p:PE)(e:Expr):Prop:=
 ∀ A s σ H sl,b0 n A→af B A H σ s→bh B F sl σ s.heap→aj B A s σ (bK O p sl H) (isTrue e F.env (eval e F.env)) E1
noncomputable def kg(B:Base prog w)(O:dL)(fu n:Nat)(F:br)(p:bg)(es:Qe):Prop:=
 ∀ A s σ H sl pos,b0 n A→af B A H σ s→bh B F sl σ s.heap→aj B A s σ (bB O p sl H) (spliced (backTo pos (starEach es F.env))) (fun σ h l us=>aK prog w B.Cl σ h l us∧us.length=es.length)
variable {F:br}
def bh.next(lo:bh B F sl σ s.heap)(st:af B A H σ s)(p:aJ cq s.heap σ h' σ'):bh B F sl σ' h':=lo.pd st.inv p
def aj.aa1{γ:Type}{r:R α}{x:γ}{k:γ→Sem β}(h:aj B A s σ r (k x) Rel):aj B A s σ r ((Pure.pure x:Sem γ)>>=k) Rel:=fun V Q E hq he=>au (ba (h V Q E hq he))
def aj.mS{r:R α}{t t':Sem β}(f:∀ Q E,aT (model prog w) A t Q E s→aT (model prog w) A t' Q E s)(h:aj B A s σ r t Rel):aj B A s σ r t' Rel:=fun V Q E hq he=>f Q E (h V Q E hq he)
theorem aj.truthy{α:Type}{r:R α}{t:Sem Value}{Rel:Sg→Heap→α→Bool→Prop}(h:aj B A s σ r t fun σ h v u=>∃ b,u=.bool b∧Rel σ h v b):aj B A s σ r (t>>=fun c=>holding [c] (truthy c)) Rel:=fun V Q E hq he=>
 au (h V _ _ (fun u s' v H' σ' e a b c=>by (refine J b ?_;clear b;intro x z1;subst z1;intro b);exact cH (sy (hq _ _ v H' σ' e a b c))) he)
def aj.ofMap{t:Sem Value}{x:Option Bool}(h:aj B A s σ (R.of x H) t BR):aj B A s σ (R.of (x.map .bool) H) t (VR B):=by
 induction x using az with
 | none=>exact aj.no
 | some b=>
  refine fun _ Q E hq he=>h (fun q=>nomatch q) _ _ (fun u s' v H' σ' e a b c=>?_) fun e s' H' σ' e _ _ _=>by injection e
  (injection e with e1 e2;subst e1 e2)
  subst b;exact hq _ _ _ _ σ' rfl a (.bool _) c
def acC{k pos}:aV B O fu n F (.cst .none) (.Constant .none k pos):=fun A s σ H sl ok st lo=>mY st fun Q E hq=>wpAny_Constant_none (hq _ s.toks .none)
def acE{b k pos}:aV B O fu n F (.cst (.bool b)) (.Constant (.bool b) k pos):=fun A s σ H sl ok st lo=>mY st fun Q E hq=>wpAny_Constant_bool (hq _ s.toks (.bool _))
def MV{i k pos}:aV B O fu n F (.cst (.int i)) (.Constant (.int i) k pos):=fun A s σ H sl ok st lo=>mY st fun Q E hq=>wpAny_Constant_int (hq _ _ (.int _ _))
def acB{l k pos}{x:Str}(e:sv l=x):aV B O fu n F (.cst (.str l)) (.Constant (.str x) k pos):=by subst e;exact fun A s σ H sl ok st lo=>mY st fun Q E hq=>wpAny_Constant_str (hq _ _ (.str _ _))
def acD{l k pos}:aV B O fu n F (.cst (.bytes l)) (.Constant (.bytes l) k pos):=fun A s σ H sl ok st lo=>mY st fun Q E hq=>adB (hq _ _ (.bytes _ _))
def KH(h:dD sl i=some v):sl[i]?=some (some v):=by
 delta dD at h;generalize e:sl[i]?=zz;induction zz using az with
 | none=>rw [e] at h;injection h
 | some x=>rw [e] at h;induction x using az<;>(first|(injection h;done)|(injection h with e1;subst e1));rfl
def acl{id:Str}(ok:F.Ok)(hi:F.nm[i]?=some (some id)):aV B O fu n F (.var i) (.Name id pos):=by
 intro A s σ H sl aw st lo;show aj B A s σ (R.of (dD sl i) H) _ _;generalize e:(dD sl i)=zz;induction zz using az with
 | none=>exact aj.no
 | some v=>
  have hs:=KH e;refine mY st fun Q E hq=>?_;rw [M9];refine wpAny_bind (wpAny_standAt ?_);rw [(ok.odd i id hi).1,if_neg cN];rcases ok.kinds i id hi with hk|hk|hk
  ·refine J lo.lF fun m hn hv=>?_;refine J (hv i id v hi hk hs) fun u hu r=>?_;exact E2 ok.fk hk hn hu (hq _ s.toks r)
  ·refine cO (lo.mE i id v hi (by rw [hk];simp) hs) fun a u h1 _ h2 r=>?_;exact wpAny_loadName_cell ok.fk hk h1 h2 (hq _ s.toks r)
  ·refine cO (lo.mE i id v hi (by rw [hk];simp) hs) fun a u h1 _ h2 r=>?_;exact acT ok.fk hk h1 h2 (hq _ s.toks r) (ok.odd i id hi).2
def acJ{o:pY}{m:Bool}{a b:PE}(ha:aV B O fu n F a ea)(hb:aV B O fu n F b eb):aV B O fu n F (.bin o m a b) (.BinOp ea (bo o) eb pos):=by intro A s σ H sl ok st lo;rw [arm_eval_BinOp];refine aj.bind (ha A s σ H sl ok st lo) fun u H₁ ax x aa _ av aU aI=>?_;refine aj.bind (aj.hold (hb A aa ax H₁ sl ok av (lo.next st aI))) fun v ag bt y aP _ aM dP bJ=>?_;exact aj.eI (aj.operate ((Q7 aM (aU.b_ bJ) dP).g))
def MU{a:PE}(ha:aV B O fu n F a ea):aV B O fu n F (.neg a) (.UnaryOp .USub ea pos):=by
 intro A s σ H sl ok st lo;rw [ac6];refine aj.bind (ha A s σ H sl ok st lo) fun u H₁ ax x aa _ av aU aI=>?_;refine aj.eI (aj.hold ?_);induction aU using ah.casesOn<;>try exact aj.no
 exact mY av fun Q E hq=>PySem.P.neg_int (hq _ _ (.int _ _))
def CA{o:xD}{e:Expr}{t:Sem Value}(h:p5 o e=false):markedEach [o] [e] [t]=[t]:=by simp only [markedEach,markedBehindIn,h]
def Q1{o:jp}{a b:PE}(ha:aV B O fu n F a ea)(hb:aV B O fu n F b eb)(hm:p5 (co o) eb=false)(ok:b0 n A)(st:af B A H σ s)(lo:bh B F sl σ s.heap):
  aj B A s σ ((ao O a sl H).bind fun u H₁=>(ao O b sl H₁).bind fun v ag=>R.of (bU o u v ag) ag) (do compareChain pos (←eval ea F.env) [co o] (markedEach [co o] [eb] (evalEach [eb] F.env))) BR:=by
 refine aj.bind (ha A s σ H sl ok st lo) fun u H₁ ax x aa _ av aU aI=>?_;rw [show evalEach [eb] F.env=[eval eb F.env] from rfl,CA hm];refine aj.bind (aj.hold (hb A aa ax H₁ sl ok av (lo.next st aI))) fun v ag bt y aP _ aM dP bJ=>?_;exact aj.eI (aj.operate ((sN ok aM (aU.b_ bJ) dP).g))
def pU{γ:Type}(r:R α)(f:α→Hp→R β)(g:β→Hp→R γ):(r.bind f).bind g=r.bind fun a H=>(f a H).bind g:=by induction r<;>rfl
def aj.aaV{x:R Bool}{t:Sem Value}(h:aj B A s σ x t BR):aj B A s σ (x.bind fun b H=>.ok (.bool b) H) t (VR B):=by intro V Q E hq he;refine h (fun e=>V (e ▸ rfl)) _ _ (fun u s' v H' σ' e a b c=>?_) fun e s' H' σ' e'=>he e s' H' σ' (e' ▸ rfl);subst e;subst b;exact hq _ _ _ _ σ' rfl a (.bool _) c
def SW{x:Option Bool}:R.of (x.map .bool) H=((R.of x H).bind fun b H=>.ok (.bool b) H:R PV):=by induction x using az<;>rfl
def acH{o:jp}{a b:PE}(ha:aV B O fu n F a ea)(hb:aV B O fu n F b eb)(hm:p5 (co o) eb=false):aV B O fu n F (.cmp o a b) (.Compare ea [co o] [eb] pos):=by intro A s σ H sl ok st lo;rw [ac9];have:=(Q1 (pos:=pos) ha hb hm ok st lo).aaV;rw [pU] at this;simp only [pU,←SW] at this;exact this
def abM{o:jp}{a b:PE}(ha:aV B O fu n F a ea)(hb:aV B O fu n F b eb)(hm:p5 (co o) eb=false):i3 B O fu n F (.cmp o a b) (.Compare ea [co o] [eb] pos):=by intro A s σ H sl ok st lo;rw [ac4];refine aj.bind (ha A s σ H sl ok st lo) fun u H₁ ax x aa _ av aU aI=>?_;rw [show evalEach [eb] F.env=[eval eb F.env] from rfl,CA hm];refine aj.bind (aj.hold (hb A aa ax H₁ sl ok av (lo.next st aI))) fun v ag bt y aP _ aM dP bJ=>?_;exact aj.eI (aj.truthy ((aj.operate (sN ok aM (aU.b_ bJ) dP).g).mono fun _ _ _ _ e=>⟨_,e,rfl⟩))
def IQ{db eM:xD}{cJ g_:Expr}{nO cj:Sem Value}(h:p5 eM g_=false):markedEach [db,eM] [cJ,g_] [nO,cj]=[nO,cj]:=by show nO::markedEach [eM] [g_] [cj]=_;rw [CA h]
def acG{db eM:jp}{a b c:PE}(ha:aV B O fu n F a ea)(hb:aV B O fu n F b eb)(hc:aV B O fu n F c ec)(hm:p5 (co eM) ec=false):
  aV B O fu n F (.rG a db b eM c) (.Compare ea [co db,co eM] [eb,ec] pos):=by
 intro A s σ H sl ok st lo;rw [ac9];refine aj.bind (ha A s σ H sl ok st lo) fun u H₁ ax x aa _ av aU aI=>?_;have bR:=lo.next st aI;rw [show evalEach [eb,ec] F.env=[eval eb F.env,eval ec F.env] from rfl,IQ hm];show aj B A aa ax _ (do
  let rv←holding [x] (eval eb F.env)
  standAt pos
  let c←holding [x,rv] (compareOp (co db) x rv)
  release [x,rv] [c]
  if←holding [c,rv] (truthy c) then (do let nT←holding [rv] (eval ec F.env);standAt pos;operate [rv,nT] (compareOp (co eM) rv nT)) else pure c) _
 refine aj.bind (aj.hold (hb A aa ax H₁ sl ok av bR)) fun v ag bt y aP _ aM dP bJ=>?_;have ew:=bR.next av bJ;refine aj.eI (aj.bind (aj.hold ((sN ok aM (aU.b_ bJ) dP).g)) fun t bH k_ z bz _ cg qy dA=>?_);subst qy;have j0:=ew.next aM dA;refine .mS (fun Q E h=>au (Bo (au (cH (sy h))))) ?_;induction t with
 | true=>rw [if_pos rfl];refine aj.bind (aj.hold (hc A bz k_ bH sl ok cg j0)) fun x' ez i9 y' gE _ cU B2 eZ=>?_;exact aj.eI (aj.operate (aj.ofMap ((sN ok cU ((dP.b_ dA).b_ eZ) B2).g)))
 | false=>rw [if_neg cN];exact aj.pure cg (.bool _)
def abL{db eM:jp}{a b c:PE}(ha:aV B O fu n F a ea)(hb:aV B O fu n F b eb)(hc:aV B O fu n F c ec)(hm:p5 (co eM) ec=false):
  i3 B O fu n F (.rG a db b eM c) (.Compare ea [co db,co eM] [eb,ec] pos):=by
 intro A s σ H sl ok st lo;rw [ac4];refine aj.bind (ha A s σ H sl ok st lo) fun u H₁ ax x aa _ av aU aI=>?_;have bR:=lo.next st aI;rw [show evalEach [eb,ec] F.env=[eval eb F.env,eval ec F.env] from rfl,IQ hm];show aj B A aa ax _ (do
  let rv←holding [x] (eval eb F.env)
  standAt pos
  let c←holding [x,rv] (compareOp (co db) x rv)
  release [x,rv] [c]
  if←holding [c,rv] (truthy c) then (do let nT←holding [rv] (eval ec F.env);standAt pos;let c←operate [rv,nT] (compareOp (co eM) rv nT);holding [c] (truthy c)) else pure false) _
 refine aj.bind (aj.hold (hb A aa ax H₁ sl ok av bR)) fun v ag bt y aP _ aM dP bJ=>?_;have ew:=bR.next av bJ;refine aj.eI (aj.bind (aj.hold ((sN ok aM (aU.b_ bJ) dP).g)) fun t bH k_ z bz _ cg qy dA=>?_);subst qy;have j0:=ew.next aM dA;refine .mS (fun Q E h=>au (Bo (au (cH (sy h))))) ?_;induction t with
 | true=>rw [if_pos rfl];refine aj.bind (aj.hold (hc A bz k_ bH sl ok cg j0)) fun x' ez i9 y' gE _ cU B2 eZ=>?_;exact aj.eI (aj.truthy ((aj.operate (sN ok cU ((dP.b_ dA).b_ eZ) B2).g).mono fun _ _ _ _ e=>⟨_,e,rfl⟩))
 | false=>rw [if_neg cN];exact aj.pure cg rfl
def xW(e:truth v=some b)(r:ah prog w B.Cl σ h v u):v=.bool b∧u=.bool b:=by induction r using ah.casesOn<;>(first|(injection e;done)|(injection e with e1;subst e1));exact ⟨rfl,rfl⟩
def Qz{r:R PV}{t:Sem Value}(h:aj B A s σ r t (VR B)):aj B A s σ (r.bind fun v H=>R.of (truth v) H) (do let v←t;standAt pos;holding [v] (truthy v)) E1:=by
 refine aj.bind h fun v H₁ ax u aa _ av aU aI=>?_;generalize e:(truth v)=zz;induction zz using az with
 | none=>exact aj.no
 | some b=>refine ad (xW e aU) fun z0=>?_;subst z0;intro z1;subst z1;exact fun _ Q E hq he=>au (eE (cH (sy (hq _ _ b H₁ ax rfl av rfl (.refl _ _)))))
noncomputable def plainT:PE→Bool
 | .cst _|.var _|.bin ..|.idx ..|.attr ..|.call ..|.own ..|.gq ..|.bi ..=>true
 | _=>false
structure EV where
 pl:Bool
 st:Bool
 cp:Bool
 nm:Bool
 cl:Bool
 a:Expr
 b:Expr
 c:Expr
 es:Qe
 id:Str
 n:Nat
 lo:Option Expr
 hi:Option Expr
 ks:List (Option Expr)
 g:Option NX
 sc:Option jO
 k:Option Const
 kw:List Keyword
noncomputable def hJ(e:Expr):EV:=⟨true,false,false,false,false,e,e,e,[],"",0,none,none,[],none,none,none,[]⟩
def ev(e:Expr):EV:=match e with
 | .BinOp a _ b _=>{hJ e with a:=a,b:=b}
 | .UnaryOp _ a _=>{hJ e with pl:=false,a:=a}
 | .BoolOp _ l _=>{hJ e with pl:=false,es:=l}
 | .Compare a _ l _=>{hJ e with pl:=false,a:=a,es:=l}
 | .IfExp a b c _=>{hJ e with pl:=false,a:=a,b:=b,c:=c}
 | .Subscript a b _=>{hJ e with a:=a,b:=b}
 | .Attribute a id _=>{hJ e with a:=a,id:=id}
 | .Call a l kw _=>{hJ e with cl:=true,a:=a,es:=l,kw:=kw}
 | .ListComp a l sc _=>{hJ e with cp:=true,a:=a,g:=l.head?,sc:=some sc}
 | .SetComp ..=>{hJ e with cp:=true}
 | .DictComp ..=>{hJ e with cp:=true}
 | .Set ..=>{hJ e with st:=true}
 | .Slice lo hi x _=>{hJ e with a:=x.getD e,lo:=lo,hi:=hi}
 | .Dict ks l _=>{hJ e with es:=l,ks:=ks}
 | .List l _=>{hJ e with es:=l}
 | .Tuple l k _=>{hJ e with es:=l,n:=k}
 | .Name id _=>{hJ e with nm:=true,id:=id}
 | .Constant c k _=>{hJ e with n:=k,k:=some c}
 | _=>hJ e
noncomputable def Ce(e:Expr):Bool:=(ev e).pl
def isTrue_plain{e:Expr}{whole:Sem Value}(h:Ce e=true):isTrue e env whole=(do let v←whole;standAt e.pos;holding [v] (truthy v)):=by induction e using jv<;>first|rfl|exact (cN h).elim
set_option tactic.hygienic true in
def abH{p:PE}{e:Expr}(hp:plainT p=true)(he:Ce e=true)(h:aV B O fu n F p e):i3 B O fu n F p e:=by
 intro A s σ H sl ok st lo;rw [isTrue_plain he];have:=Qz (pos:=e.pos) (h A s σ H sl ok st lo);have var:∀ i,(R.of (dD sl i) H:R PV).bind (fun v H=>R.of (truth v) H)=R.of ((dD sl i).bind truth) H:=fun i=>by generalize (dD sl i)=zz;induction zz using az<;>rfl
 induction p using PE.casesOn<;>first|exact (cN hp).elim|exact this|(rename_i i;rw [show bK O (.var i) sl H=R.of ((dD sl i).bind truth) H from rfl,←var i];exact this)
def acr{a:PE}(ha:aV B O fu n F a ea):aV B O fu n F (.me a) (.UnaryOp .Not ea pos):=by
 intro A s σ H sl ok st lo;rw [ac6];refine aj.bind (ha A s σ H sl ok st lo) fun u H₁ ax x aa _ av aU aI=>?_;refine aj.eI (aj.hold ?_);generalize e:(truth u)=zz;induction zz using az with
 | none=>exact aj.no
 | some b=>refine ad (xW e aU) fun z0=>?_;subst z0;intro z1;subst z1;exact mY av fun Q E hq=>wpAny_bind (wpAny_truthy_bool (wpAny_pure (hq _ aa.toks (.bool _))))
def abJ{a:PE}(ha:i3 B O fu n F a ea):i3 B O fu n F (.me a) (.UnaryOp .Not ea pos):=by intro A s σ H sl ok st lo;rw [arm_isTrue_UnaryOp];refine aj.bind (ha A s σ H sl ok st lo) fun u H₁ ax x aa _ av aU aI=>?_;subst aU;exact aj.pure av rfl
def acv{c a b:PE}(hc:i3 B O fu n F c ec)(ha:aV B O fu n F a ea)(hb:aV B O fu n F b eb):aV B O fu n F (.ite c a b) (.IfExp ec ea eb pos):=by
 intro A s σ H sl ok st lo;rw [arm_eval_IfExp];refine aj.bind (hc A s σ H sl ok st lo) fun u H₁ ax x aa _ av aU aI=>?_;have bR:=lo.next st aI;subst aU;induction x
 ·rw [if_neg cN];exact hb A aa ax H₁ sl ok av bR
 ·rw [if_pos rfl];exact ha A aa ax H₁ sl ok av bR
def abK{c a b:PE}(hc:i3 B O fu n F c ec)(ha:i3 B O fu n F a ea)(hb:i3 B O fu n F b eb):i3 B O fu n F (.ite c a b) (.IfExp ec ea eb pos):=by
 intro A s σ H sl ok st lo;rw [arm_isTrue_IfExp];refine aj.bind (hc A s σ H sl ok st lo) fun u H₁ ax x aa _ av aU aI=>?_;have bR:=lo.next st aI;subst aU;induction x
 ·rw [if_neg cN];exact hb A aa ax H₁ sl ok av bR
 ·rw [if_pos rfl];exact ha A aa ax H₁ sl ok av bR
end
end
section
open PySem
noncomputable def zI:Qs:=["MATCHING_SLASH","MATCHING_BACKSLASH","MATCHING_STAR","MATCHING_LITERAL","MATCHING_ONE","MATCHING_SET","MATCHING_RUN","MATCHING_DEEP","MATCHING_FOLDERS"]
noncomputable def Av:List (Str×Value):=[("len",.builtin "len"),("chr",.builtin "chr"),("ord",.builtin "ord"),("int",.type "int"),("bytes",.type "bytes"),("bytearray",.type "bytearray"),("isinstance",.builtin "isinstance"),
 ("bool",.type "bool"),("range",.type "range"),("enumerate",.type "enumerate"),("super",.type "super")]
noncomputable def cnames:Qs:=["MatchingRule","AttributeRule","Attributes"]
noncomputable def qR:Qs:=["fits","add","read_macro","read_rule","settle","of"]
noncomputable def lK:Qs:=(["text_of","matching_sign","matching_stars","matching_tokens","matching_one","matching_step","matching_runs","matching_inner","matching_unquoted","matching_words","attribute_name","attribute_told","attributes_told","matching_within","matching_is_text","matching_ending","convert_in","convert_out","_law_deck","_law_draw","_law_pick","_law_octets","_law_word","_law_row","_law_fits","_law_is_of","_law_told","_law_added","_law_is_like_text","_law_how","_law_in","_law_out","_law_turned","law"]:List String).map Na
noncomputable def nu:Qs:=["folder","depth","is_folder","is_anchored","pattern","is_rule","tokens","values","rules","macros"]
structure Facts{prog:xe}{w:gO}(B:Base prog w):Prop where
 XW:∀ (k:Nat) id i,zI[k]?=some id→wo[k]?=some i→∃ t,B.mg id=some (.int i t)
 rm:∀ id v,Av.lookup id=some v→B.mg id=none∧B.mb id=some v
 X3:∀ (c:Nat) id,cnames[c]?=some id→B.mg id=some (.ref (B.Cl c))
 attr:∀ c n,nu.contains n=true→t9 B.K (.ref (B.Cl c)) n=some none
 ga:∀ c,t9 B.K (.ref (B.Cl c)) "__getattribute__"=some (some (.builtin "object.__getattribute__"))
 gh:∀ c,t9 B.K (.ref (B.Cl c)) "__getattr__"=some none
 sa:∀ c,t9 B.K (.ref (B.Cl c)) "__setattr__"=some (some (.builtin "object.__setattr__"))
 jJ:∀ c,(adp B.K (B.Cl c)).any (·.hasDict)=true
 over:∀ c,PySem.W.plainOver B.K (B.Cl c)=true
 makes:∀ c,PySem.W.makesIn B.K (B.Cl c)=true
 UJ:∀ c,AP B.K (.ref (B.Cl c))=true
 rL:∃ d o,B.mg "MATCHING_CLASSES"=some (.ref d)∧B.h₀.get? d=some o∧o.cls=.type "dict"∧∀ A s σ H t Q E,af B A H σ s→
  (∀ u k,ah prog w B.Cl σ s.heap EO u→Q u {s with toks:=k})→wpAny (model prog w) A (getItem (.ref d) (.bytes #[97,108,110,117,109] t)) Q E s
section
variable {F:br}
def af.mj(st:af B A H σ s):B.K.In s.heap:=B.hK.keeps st.keep
def td{id:Str}{v:Value}(st:af B A H σ s)(ok:F.Ok)(hv:B.mg id=some v)(hx:F.env.kindOf id=some .globalImplicit)(hd:(id==("__debug__":Str))=false)(h:Q v s):
  wpAny (model prog w) A (eval (.Name id pos) F.env) Q E s:=
 ae6 ok.fk hx (Calls.loadGlobal_global (by rw [ok.wq];exact B.hg.keeps st.keep) hv h) hd
def tg{id:Str}{v:Value}(st:af B A H σ s)(ok:F.Ok)(hm:B.mg id=none)(hv:B.mb id=some v)(hx:F.env.kindOf id=some .globalImplicit)(hd:(id==("__debug__":Str))=false)(h:Q v s):
  wpAny (model prog w) A (eval (.Name id pos) F.env) Q E s:=
 ae6 ok.fk hx (ae5 (by rw [ok.wq];exact B.hg.keeps st.keep) hm (by rw [ok.blt];exact B.hb.keeps st.keep) hv h) hd
def acy(fc:Facts B)(ok:F.Ok){k:Nat}{id:Str}(hk:zI[k]?=some id)(hx:F.env.kindOf id=some .globalImplicit)(hd:(id==("__debug__":Str))=false):aV B O fu n F (.glob k) (.Name id pos):=by
 intro A s σ H sl aw st lo;show aj B A s σ (R.of (wo[k]?.map PV.int) H) _ _;generalize e:wo[k]?=zz;induction zz using az with
 | none=>exact aj.no
 | some i=>refine ay (fc.XW k id i hk e) fun t ht=>?_;exact mY st fun Q E hq=>td st ok ht hx hd (hq _ s.toks (.int i t))
def t6:kg B O fu n F .nil []:=fun A s σ H sl pos aw st lo=>aj.pure st ⟨.nil,rfl⟩
def BP{e:Expr}(he:f_ e=true):starEach (e::es) env=(false,eval e env)::starEach es env:=by induction e using jv<;>first|rfl|simp [f_] at he
def AK{p:PE}{e:Expr}(he:f_ e=true)(h:aV B O fu n F p e)(hs:kg B O fu n F ps es):kg B O fu n F (.cons p ps) (e::es):=by
 intro A s σ H sl pos aw st lo;rw [BP he];show aj B A s σ ((ao O p sl H).bind fun v H₁=>(bB O ps sl H₁).bind fun vs ag=>.ok (v::vs) ag) (do
  let v←eval e F.env;let here←(pure [v]:Sem Qa)
  return here++(←holding here (spliced (backTo pos (starEach es F.env))))) _
 refine aj.bind (h A s σ H sl aw st lo) fun v H₁ ax u aa _ av aU aI=>?_;refine aj.aa1 ?_;refine aj.bind (aj.hold (hs A aa ax H₁ sl pos aw av (lo.next st aI))) fun vs ag bt us aP _ aM dP bJ=>?_;exact aj.pure aM ⟨.cons (aU.b_ bJ) dP.1,by simp [dP.2]⟩
def wN(h:es.all f_=true):(backTo pos (starEach es env)).any (·.1)=false:=by
 induction es with
 | nil=>rfl
 | cons e es ih=>rw [Ba,i8] at h;rw [BP h.1];show (false||(backTo pos (starEach es env)).any (·.1))=false;rw [ih h.2];rfl
def Zi{f:Value}{args:List (Bool×Sem Value)}{Q:Args→Shared→Prop}(hp:args.any (·.1)=false)(h:aT M A (spliced args) (fun vs s'=>Q ⟨vs,[]⟩ s') E s):aT M A (evalArgs f true args []) Q E s:=by
 induction args using bj with
 | nil=>unfold evalArgs;refine au (gS h (fun vs s' h'=>?_) fun _ _ x=>x);refine au (ba ?_);refine cH ?_;exact au (ba (au (ba (ba h'))))
 | cons a r=>
  obtain ⟨b,x⟩:=a;induction b with
  | true=>simp at hp
  | false=>unfold evalArgs;show aT M A (spliced ((false,x)::r)>>=_) Q E s;refine au (gS h (fun vs s' h'=>?_) fun _ _ x=>x);refine cH ?_;exact au (ba (au (ba (ba h'))))
noncomputable def rU(B:Base prog w)(f:Value):Prop:=∀ h:Heap,(∀ b o,B.h₀.get? b=some o→h.get? b=some o)→∃ k,(k=aeF∨k=aeE∨k=aeG)∧ads (model prog w) h (keeperOf f) k
def y7{id:String}:rU B (.builtin id):=fun h _=>⟨.machine,.inr (.inl rfl),adr rfl⟩
def y6:rU B (.type T):=fun h _=>⟨.machine,.inr (.inl rfl),adr rfl⟩
def CT{f:Value}(hk:AP B.K f=true):rU B f:=fun h x=>PySem.W.keeps_K hk h (B.hK.keeps x)
def Ap{P:Heap→Prop}{f:Value}{args:List (Bool×Sem Value)}(JZ:args.any (·.1)=false)(hk:∀ h,P h→∃ k,(k=aeF∨k=aeE∨k=aeG)∧ads M h (keeperOf f) k)(h:aT M A (spliced args) (fun vs aa=>P aa.heap∧aT M A (call f (first++vs)) Q E aa) E s):aT M A (callWith pos f first args []) Q E s:=by
 delta callWith;refine au (cH (Zi JZ (gS h (fun vs aa h₁=>au (eE ?_)) fun _ _ x=>x)));refine J (hk _ h₁.1) fun k dY L=>?_;rw [JZ];refine au (aZ (L.here ?_));have tail:∀ {t:Sem Value},aT M A t Q E aa→aT M A (t>>=fun r=>holding [r] point>>=fun _=>pure r) Q E aa:=
  fun ht=>au (gS ht (fun r aP hr=>au (cH (Gb (ba hr)))) fun _ _ x=>x)
 have marked (mk:Value):aT M A (callMarked mk f (first++vs) []) Q E aa:=fun Γ p cb Dt=>by unfold callMarked;rw [Sem.wp_keep];exact h₁.2 Γ p cb Dt
 have two {c:Prop} [Decidable c] (mk:Value):aT M A (if c then call f (first++vs) []>>=fun r=>holding [r] point>>=fun _=>pure r else callMarked mk f (first++vs) []>>=fun r=>holding [r] point>>=fun _=>pure r) Q E aa:=by
  by_cases q:c
  ·rw [if_pos q];exact tail h₁.2
  ·rw [if_neg q];exact tail (marked _)
 rcases dY with rfl|rfl|rfl
 ·exact two plainCall (c:=args.length + 2 * ([]:List (Option Str×Sem Value)).length > 30)
 ·exact tail h₁.2
 ·exact two callOfAMethodObject (c:=args.length + 2 * ([]:List (Option Str×Sem Value)).length > 30)
def sP{f:Value}{g:Qp→Hp→R PV}(cC:es.all f_=true)(hk:rU B f)(cZ:kg B O fu n F ps es)(ok:b0 n A)(st:af B A H σ s)(lo:bh B F sl σ s.heap)(h:∀ vs H₁ ax us aa,af B A H₁ ax aa→aK prog w B.Cl ax aa.heap vs us→us.length=es.length→aJ cq s.heap σ aa.heap ax→aj B A aa ax (g vs H₁) (call f (first++us)) (VR B)):
  aj B A s σ ((bB O ps sl H).bind g) (callWith pos f first (backTo pos (starEach es F.env)) []) (VR B):=by
 intro V Q E hq he;have g8:bB O ps sl H≠.no:=fun e=>V (congrArg (R.bind · g) e);have hp:=wN (env:=F.env) (pos:=pos) cC;refine Ap (P:=fun h=>∀ b o,B.h₀.get? b=some o→h.get? b=some o) hp hk ?_;refine cZ A s σ H sl pos ok st lo g8 _ _ (fun us aa vs H₁ ax e av aU aI=>⟨av.keep,?_⟩) fun e s' H' σ' e'=>he e s' H' σ' (congrArg (R.bind · g) e');rw [e] at V hq he;exact h vs H₁ ax us aa av aU.1 aU.2 aI V Q E (fR.next hq aI) (ny.next he aI)
def acu{m:Bool}(cZ:kg B O fu n F ps es):aV B O fu n F (.list m ps) (.List es pos):=by intro A s σ H sl ok st lo;rw [arm_eval_List];refine aj.eI (aj.bind (cZ A s σ H sl pos ok st lo) fun vs H₁ ax us aa _ av aU aI=>?_);exact (QM m av aU.1).g
def acm{k:Nat}(hl:es.length≤64)(cZ:kg B O fu n F ps es):aV B O fu n F (.tup ps) (.Tuple es k pos):=by intro A s σ H sl ok st lo;rw [arm_eval_Tuple];refine aj.eI (aj.bind (cZ A s σ H sl pos ok st lo) fun vs H₁ ax us aa _ av aU aI=>?_);exact (QK av aU.1 (by rw [aU.1.sz,aU.2];unfold aC;exact aq hl rfl)).g
def acx{a i:PE}{ei:Expr}(ha:aV B O fu n F a ea)(hi:aV B O fu n F i ei):aV B O fu n F (.idx a i) (.Subscript ea ei pos):=by intro A s σ H sl ok st lo;rw [E8];refine aj.bind (ha A s σ H sl ok st lo) fun u H₁ ax x aa _ av aU aI=>?_;refine aj.bind (aj.hold (hi A aa ax H₁ sl ok av (lo.next st aI))) fun v ag bt y aP _ aM dP bJ=>?_;exact (QW (x:=.none) aM (aU.b_ bJ) dP).g
noncomputable def wV(B:Base prog w)(O:dL)(fu n:Nat)(F:br)(p:PE)(oe:Option Expr):Prop:=
 ∀ A s σ H sl,b0 n A→af B A H σ s→bh B F sl σ s.heap→aj B A s σ (ao O p sl H) (valueOrNone (evalOpt oe F.env)) (VR B)
def aca:wV B O fu n F (.cst .none) none:=fun A s σ H sl ok st lo=>aj.pure st .none
def ab'{p:PE}{e:Expr}(h:aV B O fu n F p e):wV B O fu n F p (some e):=h
def acn{a fe gK:PE}{l h:Option Expr}(ha:aV B O fu n F a ea)(hl:wV B O fu n F fe l)(hh:wV B O fu n F gK h):aV B O fu n F (.slice a fe gK) (.Subscript ea (.Slice l h none q) pos):=by intro A s σ H sl ok st lo;rw [E8];refine aj.bind (ha A s σ H sl ok st lo) fun u H₁ ax x aa _ av aU aI=>?_;have bR:=lo.next st aI;rw [ac7];intro V Q E hq he;have g8:ao O fe sl H₁≠.no:=fun e=>V (congrArg (R.bind · _) e);refine au (cH (au (hl A aa ax H₁ sl ok av bR g8 _ _ (fun ul aP vl ag bt e2 aM dP bJ=>?_) fun e s' H' σ' e'=>he e s' H' σ' (congrArg (R.bind · _) e'))));have ev:((ao O fe sl H₁).bind fun l ag=>(ao O gK sl ag).bind fun h bH=>R.of (gU u l h bH) bH)=(ao O gK sl ag).bind fun h bH=>R.of (gU u vl h bH) bH:=congrArg (R.bind · _) e2;rw [ev] at V hq he;have vZ:ao O gK sl ag≠.no:=fun e=>V (congrArg (R.bind · _) e);refine au (cH (hh A aP bt ag sl ok aM (bR.next av bJ) vZ _ _ (fun uh bz vh bH k_ e3 cg qy dA=>?_) fun e s' H' σ' e' a_ x' p'=>he e s' H' σ' (congrArg (R.bind · _) e') a_ (x'.le bJ.al fun _ h=>h) (bJ.trans p')));have ev:((ao O gK sl ag).bind fun h bH=>R.of (gU u vl h bH) bH)=R.of (gU u vl vh bH) bH:=congrArg (R.bind · _) e3;rw [ev] at V hq;refine au (cH (ba (aZ (wpAny_mono (QD cg ((aU.b_ bJ).b_ dA) (dP.b_ dA) qy V Q E (fR.next (fR.next hq bJ) dA)) (fun _ _ h=>aZ h) fun _ _ h=>h))))
end
end
section
open PySem
noncomputable def yA:List String:=["enumerate","zip","dict_itemiterator","dict_reverseitemiterator","odict_iterator","itertools.zip_longest","itertools.pairwise"]
noncomputable def xZ(tup:Bool)(e:Expr):Prop:=match e with
 | .Name ..=>True
 | .Tuple ..=>True
 | _=>False
noncomputable def qq(tup:Bool)(e:Expr):Prop:=if tup then (∃ elts k pos,e=.Tuple elts k pos) else xZ tup e
noncomputable def Kept(wr:List Addr)(h h':Heap):Prop:=∀ b o,b∉wr→h.get? b=some o→h'.get? b=some o
structure Iter{prog:xe}{w:gO}(B:Base prog w)(t:It)(tup:Bool)(I:Addr)(wr:List Addr)(P:Nat→Sg→Heap→Prop):Prop where
 mem:I∈wr
 mono:∀ {X:Addr→Prop} {i σ h σ' h'},P i σ h→(∀ b∈σ.fr,b∉own σ)→aJ X h σ h' σ'→(∀ b,X b→b∈σ.fr∧b∉wr)→P i σ' h'
 enter:∀ {ds:List Addr} {i σ h h'},P i σ h→(∀ d∈ds,h.get? d=none)→(∀ b o,h.get? b=some o→h'.get? b=some o)→P i (eU ds σ) h'
 self:∀ {A:Around} {s:Shared} {σ i} {Q E},A.handled=none→P i σ s.heap→Q (.ref I) s→wpAny (model prog w) A (pyIter (.ref I)) Q E s
 next:∀ {A:Around} {s:Shared} {σ H i} {Q:Qo→Shared→Prop} {E:Value→Shared→Prop},A.handled=none→af B A H σ s→P i σ s.heap→(∀ b∈wr,b∈σ.fr)→(∃ x,t.at H i=some x)→
  (∀ h' k,Kept wr s.heap h'→t.at H i=some none→Q none {s with heap:=h',toks:=k})→
  (∀ u v h' k,Kept wr s.heap h'→t.at H i=some (some v)→(∀ nS,qq tup nS→∀ (Q':Unit→Shared→Prop) E,(∀ fO,Kept wr s.heap fO→(∀ b∈wr,∃ o,fO.get? b=some o)→ah prog w B.Cl σ fO v u→P (i + 1) σ fO→Q' () {s with heap:=fO,toks:=k})→
   wpAny (model prog w) A (letOwnedTupleGo nS (.ref I) u) Q' E {s with heap:=h',toks:=k})→Q (some u) {s with heap:=h',toks:=k})→wpAny (model prog w) A (pyNext (.ref I)) Q E s
section
variable {F:br}
def I5{nS:Expr}{Q E}(ho:s.heap.get? I=some o)(hc:o.cls=.type T)(hT:yA.contains T=false)(h:Q () s):wpAny M A (letOwnedTupleGo nS (.ref I) u) Q E s:=by
 have own:wpAny M A (letOwnedTupleGo (.Tuple [] 0 default) (.ref I) u) Q E s:=by
  induction u using xc with
  | ref a=>
   refine wpAny_bind (wpAny_load ho ?_);rw [hc];induction o.data<;>first
    | exact wpAny_pure h
    | (show wpAny _ _ (if ((yA.contains T&&_):Bool)=true then _ else _) _ _ _;rw [hT,N_,if_neg cN];exact wpAny_pure h)
  | _=>exact wpAny_pure h
 induction nS using jv with
 | Tuple=>exact own
 | List=>exact own
 | _=>exact wpAny_pure h
noncomputable def abG(B:Base prog w)(l:Qp)(I:Addr)(fp:List Addr)(Pw:Nat→Value→Prop)(St:Nat→Heap→Prop):Nat→Sg→Heap→Prop:=fun i σ h=>
 i≤l.length∧St i h∧I∈σ.fr∧(∀ b∈fp,b=I∨(¬ c_ σ b∧∃ o,h.get? b=some o∧o.cls≠.type "frame"))∧∀ (j:Nat) u,j < l.length→Pw j u→∃ v,l[j]?=some v∧ah prog w B.Cl σ h v u
def UZ{fp:List Addr}{Pw:Nat→Value→Prop}{St:Nat→Heap→Prop}(W:∀ A:Around,A.handled=none→Walks prog w A I fp [I] l.length Pw St)(hI:I∈fp)(zm:∀ i h,St i h→∃ o T,h.get? I=some o∧o.cls=.type T∧T≠"frame"∧yA.contains T=false)(VN:∀ e,qq tup e→xZ tup e):Iter B (.fix l) tup I [I] (abG B l I fp Pw St) where
 mem:=bZ.mpr rfl
 mono {X i σ h σ' h'} p fB P hX:=by
  refine uK p fun hi st hm hf hr=>?_;clear p;have kI:∀ o,h.get? I=some o→h'.get? I=some o:=fun o e=>by
   refine cO (zm i h st) fun o' T e1 hc hT _=>?_;obtain rfl:=Option.some.inj (e.symm.trans e1);refine J (P.kp I o (fB I hm) (fun hx=>(hX I hx).2 (bZ.mpr rfl)) e) fun vf e2 k=>?_;refine (e2).trans ?_;rw [k.exact (by rw [hc];exact fun q=>hT (by injection q))]
  have kF:∀ b∈fp,∀ o,h.get? b=some o→h'.get? b=some o:=fun b hb o e=>by
   rcases hf b hb with rfl|⟨nb,ob,e1,hc⟩
   ·exact kI o e
   ·obtain rfl:=Option.some.inj (e.symm.trans e1);refine J (P.kp b o (fun q=>nb (.inl q)) (fun hx=>nb (.inr (hX b hx).1)) e) fun vf e2 k=>?_;refine (e2).trans ?_;rw [k.exact hc]
  refine ⟨hi,(W {handled:=none} rfl).frame i h h' st kF,P.fr ▸ hm,fun b hb=>?_,fun j u hj hp=>?_⟩
  ·rcases hf b hb with h1|⟨nb,ob,e1,hc⟩
   ·exact .inl h1
   ·exact .inr ⟨ph P e1 nb,ob,kF b hb ob e1,hc⟩
  ·refine J (hr j u hj hp) fun v e r=>?_;exact ⟨v,e,r.mono P fun b hb=>(hX b hb).1⟩
 enter {ds i σ h h'} p fresh hk:=by
  refine uK p fun hi st hm hf hr=>?_;clear p;refine ⟨hi,(W {handled:=none} rfl).frame i h h' st (fun b _ o e=>hk b o e),eW _ hm,fun b hb=>?_,fun j u hj hp=>?_⟩
  ·rcases hf b hb with h1|⟨nb,ob,e1,hc⟩
   ·exact .inl h1
   ·exact .inr ⟨wM nb (ng fresh e1),ob,hk _ _ e1,hc⟩
  ·refine J (hr j u hj hp) fun v e r=>?_;exact ⟨v,e,r.enter fresh hk⟩
 self {A s σ i Q E} hh p h:=(W A hh).self i s Q E p.2.1 h
 next {A s σ H i Q E} hh st p vM ht pB vQ:=by
  refine uK p fun hi GT hm hf hr=>?_;clear p;have W:=W A hh;have post:∀ h',(∀ b o,b∉[I]→s.heap.get? b=some o→h'.get? b=some o)→(∃ o,h'.get? I=some o)→aJ (fun b=>b=I) s.heap σ h' σ:=fun h' hk he=>
   ⟨fun b o _ hx e=>⟨o,hk b o (fun q=>hx (bZ.mp q)) e,.refl o⟩,⟨[],by simp⟩,rfl,fun b hb=>.inl hb,fun b o e=>by
    by_cases hb:b=I
    ·subst hb;exact he
    ·exact ⟨o,hk b o (fun q=>hb (bZ.mp q)) e⟩⟩
  rcases Nat.lt_or_eq_of_le hi with hi|rfl
  ·refine W.item i s _ _ hi GT fun v h' k hp a_ hk=>?_;refine cO (zm _ _ a_) fun o T e1 hc hT Xw=>?_;refine J (hr i v hi hp) fun v' ev rv=>?_;have P:=post h' hk ⟨o,e1⟩;refine vQ v v' h' k hk (congrArg some ev) fun nS _ Q' E' hq=>I5 e1 hc Xw (hq h' hk (fun b hb=>by rw [bZ.mp hb];exact ⟨o,e1⟩) (rv.mono P (fun b hb=>by rw [hb];exact hm)) ⟨hi,a_,hm,fun b hb=>?_,fun j u hj hp=>?_⟩)
   ·rcases hf b hb with h1|⟨nb,ob,e1,hc⟩
    ·exact .inl h1
    ·refine .inr ⟨nb,ob,hk b ob (fun q=>?_) e1,hc⟩;rw [bZ.mp q] at nb;exact nb (.inr hm)
   ·refine J (hr j u hj hp) fun v e r=>?_;exact ⟨v,e,r.mono P fun b hb=>by rw [hb];exact hm⟩
  ·exact W.done s _ _ GT fun h' k hk=>pB h' k hk (congrArg some (Fv (aS _)))
noncomputable def acP(m:Nat)(I:Addr):Nat→Sg→Heap→Prop:=fun i σ h=>I∈σ.fr∧∃ p,σ.t[m]?=some p∧h.IsListIter I p.1 i
def U1(VN:∀ e,qq tup e→xZ tup e):Iter B (.dyn m) tup I [I] (acP m I) where
 mem:=bZ.mpr rfl
 mono {X i σ h σ' h'} p fB P hX:=by refine ad p fun hm z2=>?_;clear p;refine J z2 fun q e xJ=>?_;clear z2;refine ci xJ fun o e1 hc hd=>?_;clear xJ;refine J (P.kp I o (fB I hm) (fun hx=>(hX I hx).2 (bZ.mpr rfl)) e1) fun vf e2 k=>?_;refine ay P.pre fun τ e'=>?_;exact ⟨P.fr ▸ hm,q,by rw [e',eX (cF.mp e).1];exact e,o,by rw [e2,k.exact (by rw [hc];simp)],hc,hd⟩
 enter {ds i σ h h'} p fresh hk:=by refine ad p fun hm z2=>?_;clear p;refine J z2 fun q e hi=>?_;clear z2;exact ⟨eW _ hm,q,e,hi.at fun o e=>hk _ _ e⟩
 self {A s σ i Q E} hh p h:=by refine ad p fun hm z2=>?_;clear p;refine J z2 fun q e hi=>?_;clear z2;exact wpAny_pyIter_listiter hi h
 next {A s σ H i Q E} hh st p vM ht pB vQ:=by
  refine ad p fun hm z2=>?_;clear p;refine J z2 fun q e hi=>?_;clear z2;refine ay ht fun x hx=>?_;clear ht;have qY:(match H[m]? with|some (.list l)=>some l[i]?|_=>.none)=some x:=hx;generalize hl:H[m]?=zz;induction zz using az with
  | none=>rw [hl] at qY;injection qY
  | some oo=>
   rw [hl] at qY;induction oo with
   | list l=>
    (injection qY with e1;subst e1)
    refine ad (st.inv.obj _ _ _ hl e) fun _ z2=>?_;refine ch z2 fun us n e1 rs=>?_;clear z2;have v2:s.heap.IsList q.1 us:=⟨_,e1,rfl,_,rfl⟩;generalize fN:l[i]?=zz;induction zz using az with
    | none=>exact wpAny_pyNext_list_end hh hi v2 (afn (aB (dM rs.sz.symm) (NK.mp fN))) fun h' re=>pB h' s.toks (fun b o hb e=>re b o (fun q=>hb (bZ.mpr q)) e) (hx.trans (congrArg some fN))
    | some v=>
     refine J (rs.get fN) fun u hu ru=>?_;refine wpAny_pyNext_list_item hi v2 (x:=u) (qf.symm.trans hu) fun h' hit hs=>?_;have hk:Kept [I] s.heap h':=fun b o hb e=>(hs.2 b (fun q=>hb (bZ.mpr q))).trans e;refine ci (id hit) fun o e2 hc hd=>?_;have P:aJ (fun b=>b=I) s.heap σ h' σ:=⟨fun b o _ hx e=>⟨o,hk b o (fun q=>hx (bZ.mp q)) e,.refl o⟩,⟨[],(gP _).symm⟩,rfl,fun b hb=>.inl hb,fun b o e=>by
      by_cases hb:b=I
      ·subst hb;exact ⟨_,e2⟩
      ·exact ⟨o,hk b o (fun q=>hb (bZ.mp q)) e⟩⟩
     exact vQ u v h' s.toks hk (hx.trans (congrArg some fN)) fun nS _ Q' E' hq=>I5 e2 hc (by decide +kernel) (hq h' hk (fun b hb=>by rw [bZ.mp hb];exact ⟨o,e2⟩) (ru.mono P (fun b hb=>by rw [hb];exact hm)) ⟨hm,q,e,hit⟩)
   | _=>injection qY
noncomputable def MR(B:Base prog w)(l:Qp)(items:Qv)(e it la:Addr):Nat→Sg→Heap→Prop:=fun i σ h=>
 e∈σ.fr∧it∈σ.fr∧(∃ old,IsEnum h e it i old)∧h.IsListIter it la i∧¬ c_ σ la∧(∃ n,h.get? la=some {cls:=.type "list",data:=.seq items n})∧aK prog w B.Cl σ h l items.toList
def U0{items:Qv}{e it la:Addr}(V:e≠it):Iter B (.fix (l.mapIdx fun i v=>.tup [.int i,v])) true e [e,it] (MR B l items e it la) where
 mem:=bC ..
 mono {X i σ h σ' h'} p fB P hX:=by refine Bn p fun h1 h2 z2 z3 nb z5 rs=>?_;clear p;refine ay z2 fun old he=>?_;clear z2;refine ci z3 fun o e1 hc hd=>?_;clear z3;refine ay z5 fun n e2=>?_;clear z5;refine J (P.kp e _ (fB e h1) (fun hx=>(hX e hx).2 (bC ..)) he) fun db f1 k1=>?_;refine J (P.kp it o (fB it h2) (fun hx=>(hX it hx).2 (by simp)) e1) fun eM f2 k2=>?_;refine J (P.kp la _ (fun q=>nb (.inl q)) (fun hx=>nb (.inr (hX la hx).1)) e2) fun afv f3 k3=>?_;refine ⟨P.fr ▸ h1,P.fr ▸ h2,⟨old,?_⟩,⟨o,by rw [f2,k2.exact (by rw [hc];simp)],hc,hd⟩,ph P e2 nb,⟨n,by rw [f3,k3.exact (by simp)]⟩,rs.mono P fun b hb=>(hX b hb).1⟩;show h'.get? e=_;refine (f1).trans ?_;rw [k1.exact (by simp)]
 enter {ds i σ h h'} p fresh hk:=by refine Bn p fun h1 h2 z2 hit nb z5 rs=>?_;clear p;refine ay z2 fun old he=>?_;clear z2;refine ay z5 fun n e2=>?_;clear z5;exact ⟨eW _ h1,eW _ h2,⟨old,hk _ _ he⟩,hit.at fun o e=>hk _ _ e,wM nb (ng fresh e2),⟨n,hk _ _ e2⟩,⟨rs.sz,fun i v u a b=>(rs.all i v u a b).enter fresh hk⟩⟩
 self {A s σ i Q E} hh p h:=by refine sr p fun h1 h2 z2 _=>?_;clear p;refine ay z2 fun old he=>?_;clear z2;exact wpAny_pyIter_enum he h
 next {A s σ H i Q E} hh st p vM ht pB vQ:=by
  refine Bn p fun h1 h2 z2 hit nb z5 rs=>?_;clear p;refine ay z2 fun old he=>?_;clear z2;refine ay z5 fun n e2=>?_;clear z5;have v2:s.heap.IsList la items:=⟨_,e2,rfl,_,rfl⟩;have Jb:∀ x,l[i]?=x→It.at (.fix (l.mapIdx fun i v=>PV.tup [.int i,v])) H i=some (x.map fun v=>.tup [.int i,v]):=fun x hx=>congrArg some (List.getElem?_mapIdx.trans (congrArg _ hx));generalize fN:l[i]?=zz;induction zz using az with
  | none=>exact wpAny_pyNext_enum_end hh he hit v2 (afn (aB (dM rs.sz.symm) (NK.mp fN))) fun h' re=>pB h' s.toks (fun b o hb e=>re b o (fun q=>hb (q ▸ bM _ (bC ..))) e) (Jb _ fN)
  | some v=>
   refine J (rs.get fN) fun u hu ru=>?_;have ie:e∈[e,it]:=bC ..;have ii:it∈[e,it]:=bM _ (bC ..);refine wpAny_pyNext_enum_item he hit v2 (x:=u) (qf.symm.trans hu) V fun h' ho WH hT _ hk=>?_;have dY:Kept [e,it] s.heap h':=fun b o hb e=>hk b o (fun q=>hb (q ▸ ie)) (fun q=>hb (q ▸ ii)) e;refine vQ _ _ h' _ dY (Jb _ fN) fun nS VO Q' E' hq=>?_;obtain ⟨elts,k,pos,rfl⟩:∃ elts k pos,nS=.Tuple elts k pos:=VO;refine wpAny_letOwnedTupleGo_enum ho fun fO Kg vT=>?_;have zq:Kept [e,it] s.heap fO:=fun b o hb e=>(vT.2 b (fun q=>hb (q ▸ ie))).trans (dY b o hb e);have Dq:fO.IsListIter it la (i + 1):=WH.at fun o y=>(vT.2 it V.symm).trans y;have IB:s.heap.get? s.heap.objs.size=.none:=fA _;have there:∀ b∈[e,it],∃ o,fO.get? b=some o:=fun b hb=>by
    rcases cA.mp hb with rfl|hb
    ·exact ⟨_,Kg⟩
    ·(refine J Dq fun o' e' _=>?_;clear Dq);rw [bZ.mp hb];exact ⟨_,e'⟩
   have P:aJ (fun b=>b∈[e,it]) s.heap σ fO σ:=⟨fun b o _ hx e=>⟨o,zq b o hx e,.refl o⟩,⟨[],(gP _).symm⟩,rfl,fun b hb=>.inl hb,fun b o ex=>by
     by_cases hb:b∈[e,it]
     ·exact there b hb
     ·exact ⟨o,zq b o hb ex⟩⟩
   have Te:s.heap.objs.size≠e:=fun q=>by
    have h3:s.heap.get? e=some _:=he;rw [←q,IB] at h3;injection h3
   refine hq fO zq there ?_ ⟨h1,h2,⟨u,Kg⟩,Dq,nb,⟨n,zq la _ (fun q=>nb (.inr (vM la q))) e2⟩,rs.mono P vM⟩;refine .tup ((vT.2 _ Te).trans hT) (zO st IB) rfl fun j v' u' a b=>?_;induction j using dN with
   | zero=>(injection a with e1;subst e1);(injection b with e1;subst e1);exact .int _ _
   | succ j=>
    induction j using dN with
    | zero=>(injection a with e1;subst e1);(injection b with e1;subst e1);exact ru.mono P vM
    | succ j=>injection a
end
end
section
open PySem
section
variable {F:br}
def GB:∀ e,qq tup e→xZ tup e:=by
 intro e h;unfold qq at h;induction tup with
 | true=>rw [if_pos rfl] at h;refine Oq h fun a b c z3=>?_;clear h;subst z3;trivial
 | false=>rw [if_neg cN] at h;exact h
noncomputable def AF(B:Base prog w)(s:Shared)(σ:Sg)(tup:Bool)(t:It)(it:Value)(s':Shared):Prop:=
 ∃ I wr P,it=.ref I∧Iter B t tup I wr P∧(∀ b∈wr,s.heap.get? b=none)∧∃ h' k,s'={s with heap:=h',toks:=k}∧(∀ b o,s.heap.get? b=some o→h'.get? b=some o)∧(∀ b∈wr,∃ o,h'.get? b=some o)∧P 0 (eU wr σ) h'
def qS{ob:Obj}{fp:List Addr}{Pw:Nat→Value→Prop}{St:Nat→Heap→Prop}(fg:ob.isFreed=false)(W:∀ A:Around,A.handled=none→Walks prog w A s.heap.objs.size fp [s.heap.objs.size] l.length Pw St)(hI:s.heap.objs.size∈fp)(zm:∀ i h,St i h→∃ o T,h.get? s.heap.objs.size=some o∧o.cls=.type T∧T≠"frame"∧yA.contains T=false)(Qc:St 0 (s.heap.push ob))(st:af B A H σ s)(WV:∀ b∈fp,b=s.heap.objs.size∨(¬ c_ σ b∧∃ o,s.heap.get? b=some o∧o.cls≠.type "frame"))(hit:∀ (j:Nat) u,j < l.length→Pw j u→∃ v,l[j]?=some v∧ah prog w B.Cl σ s.heap v u):AF B s σ tup (.fix l) (.ref s.heap.objs.size) {s with heap:=s.heap.push ob}:=by
 have hk:=iq (h:=s.heap) ob;have pC:∀ d∈[s.heap.objs.size],s.heap.get? d=.none:=fun d hd=>by rw [bZ.mp hd];exact fA _
 refine ⟨s.heap.objs.size,[s.heap.objs.size],_,rfl,UZ W hI zm GB,pC,s.heap.push ob,s.toks,rfl,hk,fun b hb=>by rw [bZ.mp hb];exact ⟨_,eu _ fg⟩,cE _,Qc,by simp [eU],fun b hb=>?_,fun j u hj hp=>?_⟩
 ·rcases WV b hb with h1|⟨nb,o,e,hc⟩
  ·exact .inl h1
  ·exact .inr ⟨wM nb (ng pC e),o,hk _ _ e,hc⟩
 ·refine J (hit j u hj hp) fun v e r=>?_;exact ⟨v,e,r.enter pC hk⟩
set_option tactic.hygienic true in
def P5{t:It}(st:af B A H σ s)(r:ah prog w B.Cl σ s.heap v u)(e:og v H=some t):wpAny (model prog w) A (pyIter u) (AF B s σ tup t) (fun _ _=>False) s:=by
 induction r using ah.casesOn with
 | bytes l tk=>obtain rfl:=Option.some.inj (show some _=some t from e);have W:=fun (A:Around) hh=>afZ (prog:=prog) (w:=w) (A:=A) hh s.heap.objs.size l.toArray tk;rw [show l.toArray.size=(l.map fun c=>PV.int c.toNat).length by simp] at W;refine af0 (qS rfl W (by simp) (fun i h st=>by (refine ci st fun o e c _=>?_;clear st);exact ⟨o,_,e,c,by decide,by decide +kernel⟩) ⟨_,eu _ rfl,rfl,rfl⟩ st (fun b hb=>.inl (by simpa using hb)) fun j u hj hp=>?_);refine ch hp fun c tu hc z3=>?_;clear hp;subst z3;exact ⟨.int c.toNat,by rw [km,show l[j]?=some c by simpa using hc];rfl,.int _ _⟩
 | str l tk=>
  obtain rfl:=Option.some.inj (show some _=some t from e);have hl:(sv l).cps.size=(l.map fun c=>PV.str [c]).length:=by simp [sv]
  have hit:∀ (j:Nat) u,j < (l.map fun c=>PV.str [c]).length→SignAt (sv l) j u→∃ v,(l.map fun c=>PV.str [c])[j]?=some v∧ah prog w B.Cl σ s.heap v u:=fun j u hj hp=>by
   refine ch hp fun c tu hc z3=>?_;clear hp;subst z3;exact ⟨.str [c],by rw [km,show l[j]?=some c by simpa [sv] using hc];rfl,.str [c] _⟩
  generalize ha:((sv l).cps.all (· < 128))=zz;induction zz
  ·have W:=fun (A:Around) hh=>Walks.strWide (prog:=prog) (w:=w) (A:=A) hh s.heap.objs.size (sv l) tk;rw [hl] at W;refine wpAny_pyIter_wide ha (qS rfl W (by simp) (fun i h st=>by (refine ci st fun o e c _=>?_;clear st);exact ⟨o,_,e,c,by decide,by decide +kernel⟩) ⟨_,eu _ rfl,rfl,rfl⟩ st (fun b hb=>.inl (by simpa using hb)) hit)
  ·have W:=fun (A:Around) hh=>Walks.strAscii (prog:=prog) (w:=w) (A:=A) hh s.heap.objs.size (sv l) tk;rw [hl] at W;refine wpAny_pyIter_ascii ha (qS rfl W (by simp) (fun i h st=>by (refine ci st fun o e c _=>?_;clear st);exact ⟨o,_,e,c,by decide,by decide +kernel⟩) ⟨_,eu _ rfl,rfl,rfl⟩ st (fun b hb=>.inl (by simpa using hb)) hit)
 | tup e' no sz all=>
  rename_i l a us n;obtain rfl:=Option.some.inj (show some _=some t from e);have V:a≠s.heap.objs.size:=mM (kn e');have vO:s.heap.IsTuple a us:=⟨_,e',rfl,_,rfl⟩;have W:=fun (A:Around) hh=>Walks.tuple (prog:=prog) (w:=w) (A:=A) hh s.heap.objs.size a V us;rw [←sz] at W;refine wpAny_pyIter_tuple vO (qS rfl W (by simp) (fun i h st=>by (refine ad st fun z0 _=>?_;clear st;(refine ci z0 fun o e c _=>?_;clear z0));exact ⟨o,_,e,c,by decide,by decide +kernel⟩)
   ⟨⟨_,eu _ rfl,rfl,rfl⟩,⟨_,fh _ e',rfl,_,rfl⟩⟩ st (fun b hb=>by
    rcases cA.mp hb with rfl|hb
    ·exact .inl rfl
    ·rw [bZ.mp hb];exact .inr ⟨no,_,e',by simp⟩) fun j u hj hp=>?_)
  have:l[j]?=some l[j]:=by simp [hj]
  exact ⟨l[j],this,all j _ u this hp⟩
 | fl e' no sz all=>
  rename_i l a us n;obtain rfl:=Option.some.inj (show some _=some t from e);have V:a≠s.heap.objs.size:=mM (kn e');have vO:s.heap.IsList a us:=⟨_,e',rfl,_,rfl⟩;have W:=fun (A:Around) hh=>Walks.list (prog:=prog) (w:=w) (A:=A) hh s.heap.objs.size a V us;rw [←sz] at W;refine acS vO (qS rfl W (by simp) (fun i h st=>by (refine ad st fun z0 _=>?_;clear st;(refine ci z0 fun o e c _=>?_;clear z0));exact ⟨o,_,e,c,by decide,by decide +kernel⟩)
   ⟨⟨_,eu _ rfl,rfl,rfl⟩,⟨_,fh _ e',rfl,_,rfl⟩⟩ st (fun b hb=>by
    rcases cA.mp hb with rfl|hb
    ·exact .inl rfl
    ·rw [bZ.mp hb];exact .inr ⟨no,_,e',by simp⟩) fun j u hj hp=>?_)
  have:l[j]?=some l[j]:=by simp [hj]
  exact ⟨l[j],this,all j _ u this hp⟩
 | loc ep=>
  rename_i m p;delta og at e;dsimp only at e;generalize hl:H[m]?=x at e;induction x using az with
  | none=>injection e
  | some o=>induction o with
   | list l=>
    (injection e with e1;subst e1)
    refine ad (st.inv.obj _ _ _ hl ep) fun _ z2=>?_;refine ch z2 fun us n e1 rs=>?_;clear z2;have vO:s.heap.IsList p.1 us:=⟨_,e1,rfl,_,rfl⟩;refine acS vO ?_;have hk:=iq (h:=s.heap) {cls:=.type "list_iterator",data:=.fields #[.ref p.1,.int 0 0]};exact ⟨s.heap.objs.size,[s.heap.objs.size],_,rfl,U1 GB,fun d hd=>by rw [bZ.mp hd];exact fA _,s.heap.push {cls:=.type "list_iterator",data:=.fields #[.ref p.1,.int 0 0]},s.toks,rfl,hk,fun b hb=>by rw [bZ.mp hb];exact ⟨_,eu _ rfl⟩,by simp [eU],p,ep,⟨_,eu _ rfl,rfl,rfl⟩⟩
   | _=>injection e
 | _=>injection (show (none:Option It)=some t from e)
end
end
section
open PySem
section
variable {F:br}
noncomputable def rW(B:Base prog w)(O:dL)(fu n:Nat)(F:br):bg→Qe→Prop
 | .nil,[]=>True
 | .cons p ps,e::es=>aV B O fu n F p e∧rW B O fu n F ps es
 | _,_=>False
noncomputable def nw(B:Base prog w)(O:dL)(fu n:Nat)(F:br):bg→Qe→Prop
 | .nil,[]=>True
 | .cons p ps,e::es=>i3 B O fu n F p e∧nw B O fu n F ps es
 | _,_=>False
set_option backward.match.sparseCases true in
def acN(h:rW B O fu n F ps es):aV B O fu n F (.iF ps) (.BoolOp .And es pos):=by
 intro A s σ H sl ok st lo;rw [ac_];show aj B A s σ (yy O ps sl H) _ _;induction es generalizing ps s σ H with
 | nil=>induction ps using bg.casesOn<;>first|exact aj.no|exact h.elim
 | cons e es ih=>
  induction ps using bg.casesOn with
  | nil=>exact h.elim
  | cons p ps=>
   refine ad h fun h1 h2=>?_;clear h;induction es using bj with
   | nil=>
    induction ps using bg.casesOn with
    | cons _ _=>exact h2.elim
    | nil=>exact h1 A s σ H sl ok st lo
   | cons e' es=>
    induction ps using bg.casesOn with
    | nil=>exact h2.elim
    | cons p' ps=>
     show aj B A s σ ((ao O p sl H).bind fun v H₁=>match truth v with
      | some true=>yy O (.cons p' ps) sl H₁
      | some false=>.ok v H₁
      | .none=>.no) (do
       let v←eval e F.env
       standAt pos
       let t←holding [v] (truthy v)
       match BoolOp.And,t with
       | .And,false|.Or,true=>pure v
       | _,_=>boolOp pos .And (evalEach (e'::es) F.env)) _
     refine aj.bind (h1 A s σ H sl ok st lo) fun v H₁ ax u aa _ av aU aI=>?_;have bR:=lo.next st aI;generalize ev:(truth v)=zz;induction zz using az with
     | none=>exact aj.no
     | some b=>
      refine ad (xW ev aU) fun z0=>?_;subst z0;intro z1;subst z1;refine .mS (fun Q E h=>au (eE (au (cH (sy h))))) ?_;induction b with
      | false=>exact aj.pure av (.bool false)
      | true=>exact ih (ps:=.cons p' ps) h2 aa ax H₁ av bR
set_option backward.match.sparseCases true in
def acq(h:rW B O fu n F ps es):aV B O fu n F (.jW ps) (.BoolOp .Or es pos):=by
 intro A s σ H sl ok st lo;rw [ac_];show aj B A s σ (yw O ps sl H) _ _;induction es generalizing ps s σ H with
 | nil=>induction ps using bg.casesOn<;>first|exact aj.no|exact h.elim
 | cons e es ih=>
  induction ps using bg.casesOn with
  | nil=>exact h.elim
  | cons p ps=>
   refine ad h fun h1 h2=>?_;clear h;induction es using bj with
   | nil=>
    induction ps using bg.casesOn with
    | cons _ _=>exact h2.elim
    | nil=>exact h1 A s σ H sl ok st lo
   | cons e' es=>
    induction ps using bg.casesOn with
    | nil=>exact h2.elim
    | cons p' ps=>
     show aj B A s σ ((ao O p sl H).bind fun v H₁=>match truth v with
      | some false=>yw O (.cons p' ps) sl H₁
      | some true=>.ok v H₁
      | .none=>.no) (do
       let v←eval e F.env
       standAt pos
       let t←holding [v] (truthy v)
       match BoolOp.Or,t with
       | .And,false|.Or,true=>pure v
       | _,_=>boolOp pos .Or (evalEach (e'::es) F.env)) _
     refine aj.bind (h1 A s σ H sl ok st lo) fun v H₁ ax u aa _ av aU aI=>?_;have bR:=lo.next st aI;generalize ev:(truth v)=zz;induction zz using az with
     | none=>exact aj.no
     | some b=>
      refine ad (xW ev aU) fun z0=>?_;subst z0;intro z1;subst z1;refine .mS (fun Q E h=>au (eE (au (cH (sy h))))) ?_;induction b with
      | true=>exact aj.pure av (.bool true)
      | false=>exact ih (ps:=.cons p' ps) h2 aa ax H₁ av bR
def abN(h:nw B O fu n F ps es):i3 B O fu n F (.iF ps) (.BoolOp .And es pos):=by
 intro A s σ H sl ok st lo;rw [ac5];show aj B A s σ (fK O ps sl H) _ _;induction es generalizing ps s σ H with
 | nil=>induction ps using bg.casesOn<;>first|exact aj.pure st rfl|exact h.elim
 | cons e es ih=>
  induction ps using bg.casesOn with
  | nil=>exact h.elim
  | cons p ps=>
   refine ad h fun h1 h2=>?_;clear h;rw [ac'];refine aj.bind (h1 A s σ H sl ok st lo) fun v H₁ ax u aa _ av aU aI=>?_;have bR:=lo.next st aI;subst aU;induction u with
   | false=>exact aj.pure av rfl
   | true=>exact ih h2 aa ax H₁ av bR
def abI(h:nw B O fu n F ps es):i3 B O fu n F (.jW ps) (.BoolOp .Or es pos):=by
 intro A s σ H sl ok st lo;rw [ac5];show aj B A s σ (mZ O ps sl H) _ _;induction es generalizing ps s σ H with
 | nil=>induction ps using bg.casesOn<;>first|exact aj.pure st rfl|exact h.elim
 | cons e es ih=>
  induction ps using bg.casesOn with
  | nil=>exact h.elim
  | cons p ps=>
   refine ad h fun h1 h2=>?_;clear h;rw [ac'];refine aj.bind (h1 A s σ H sl ok st lo) fun v H₁ ax u aa _ av aU aI=>?_;have bR:=lo.next st aI;subst aU;induction u with
   | true=>exact aj.pure av rfl
   | false=>exact ih h2 aa ax H₁ av bR
set_option tactic.hygienic true in
def CK{d:Addr}{mp:Str→Qo}(ns:h.Ns1 d mp):∃ od,h.get? d=some od∧∀ name,E9 name od=some (mp name):=by
 refine xL ns fun o es ep e hd hs hu hf=>?_;clear ns;refine ⟨o,e,fun name=>?_⟩;unfold E9;rw [hd];dsimp only;have hn:=hf name;unfold nsFind findBy at hn;rw [←Array.find?_toList] at hn
 split
 ·rename_i en he;rw [he] at hn;rw [←hn];rfl
 ·rename_i he;rw [he] at hn;rw [←hn,if_neg]
  ·rfl
  ·rw [N9,A_];intro en W1;refine eB (hs en (by simpa using W1)) fun nm t hk=>?_;simp [ae1,hk]
noncomputable def nZ(e:Expr):Bool:=!((ev e).cl&&((ev (ev e).a).nm&&((ev e).es.isEmpty&&(ev e).kw.isEmpty)))
def Mh{o:Expr}{attr:Str}{whole:Sem Value}(h:nZ o=true):M8 o attr env whole=whole:=by
 induction o using jv with
 | Call f args UC pos=>
  induction args using bj with
  | cons _ _=>induction f using jv<;>rfl
  | nil=>
   induction UC using bj with
   | cons _ _=>induction f using jv<;>rfl
   | nil=>induction f using jv<;>first|rfl|exact (cN h).elim
 | _=>rfl
def y_{x d:Addr}{od:Obj}(e:h.get? x=some o)(hc:o.cls=.ref C)(W4:o.data=.plain)(hd:o.dict=some d)(ed:h.get? d=some od):PySem.W.InstAt h x o C (some od):=
 ⟨e,hc,by unfold PySem.W.notCls;rw [W4],by rw [hd];exact ed⟩
def handed(r:ah prog w B.Cl σ h v u):PySem.W.handedIn u=true:=by induction r using ah.casesOn<;>rfl
def Yn(fc:Facts B){od:Obj}{nm:Str}(hn:nu.contains nm=true)(hl:E9 nm od=some (some u)):PySem.W.findObj B.K (B.Cl c) (some od) nm=some (.value u):=by
 refine J (adq (fc.jJ c)) fun cd j5 hd=>?_;have ho:adm cd (some od) nm=some (some u):=by exact (if_pos hd).trans hl
 show Nq (adp B.K (B.Cl c)) _=_;rw [j5];show Nq (t9 B.K (.ref (B.Cl c)) nm) _=_;rw [fc.attr c nm hn];show Nq (adm cd (some od) nm) _=_;rw [ho];rfl
def QX(fc:Facts B){k:Qn}(hn:nu.contains (sv k)=true)(st:af B A H σ s)(r:ah prog w B.Cl σ s.heap v u):
  aj B A s σ (R.of (getattr v k H) H) (do standAt pos;let r←holding [u] (getAttr u (sv k) true);letTemporaryGo ea u r;pure r) (VR B):=by
 generalize e:(getattr v k H)=zz;induction zz using az with
 | none=>exact aj.no
 | some x=>
  refine J (xj.mp e) fun z0 e1 e2=>?_;obtain ⟨c,l⟩:=z0;refine Bl (EM st e1 r) fun a o d mp z4=>?_;subst z4;intro h1 h2 h3 h4 h5 h6 mQ;refine ad mQ fun h7 h8=>?_;clear mQ;refine J (CK h6) fun od ed zl=>?_;have hm:(mp (sv k)).isSome=true:=by rw [←h8.ks k,e2];rfl
  refine ay (ue.mp hm) fun y hy=>?_;have ry:=h8.all k x y e2 hy;refine mY st fun Q E hq=>wpAny_bind (wpAny_standAt (wpAny_bind (wpAny_holding ?_)));refine PySem.W.get_value st.mj (y_ h1 h2 h4 h3 ed) (fc.ga c) (Yn fc hn ((zl _).trans (by rw [hy]))) (handed ry) ?_;exact wpAny_bind (wpAny_letTemporaryGo (wpAny_pure (hq _ _ ry)))
def acM(fc:Facts B){a:PE}{k:Qn}{id:Str}(gv:sv k=id)(hn:nu.contains id=true)(hb:nZ ea=true)(ha:aV B O fu n F a ea):aV B O fu n F (.attr a k) (.Attribute ea id pos):=by subst gv;intro A s σ H sl ok st lo;rw [arm_eval_Attribute,Mh hb];exact aj.bind (ha A s σ H sl ok st lo) fun v H₁ ax u aa _ av aU aI=>QX fc hn av aU
end
end
section
set_option backward.match.sparseCases true
open PySem
section
variable {F:br}
noncomputable def jm{α:Type}(B:Base prog w)(A:Around)(s:Shared)(σ:Sg)(r:R α)(c:Code)(Rel:Sg→Heap→α→Value→Prop):Prop:=
 r≠.no→∀ R:Result→Shared→Prop,fR B A s σ r Rel (fun u s'=>R (.ok (.ret u)) s')→ny B A s σ r (fun e s'=>R (.error e) s')→dl (model prog w) A c R s
def jm.sim{r:R α}{f:Value}{Rel:Sg→Heap→α→Value→Prop}(h:jm B A s σ r (.call f ⟨us,[]⟩) Rel):aj B A s σ r (call f us) Rel:=fun V Q E hq he=>
 oZ (h V _ hq he)
theorem jm.no{α:Type}{c:Code}{Rel:Sg→Heap→α→Value→Prop}:jm B A s σ .no c Rel:=fun h=>absurd rfl h
def af.around(st:af B A H σ s)(h:A'.frames=A.frames):af B A' H σ s:=⟨st.keep,st.inv,st.gens,st.os,fun env he=>st.dV env (h ▸ he)⟩
noncomputable def wX:Sg→Heap→PV→Value→Prop:=fun _ _ _ u=>u=.none
def pP{x:Str}(h:aT (model prog w) A (eval (.Name x p) env) (fun f aa=>aT (model prog w) A (callWith pos f [] (backTo pos (starEach es env)) []) Q E aa) E s):aT (model prog w) A (eval (.Call (.Name x p) es [] pos) env) Q E s:=au h
structure kh(B:Base prog w)(O:dL)(m:Nat):Prop where
 call:∀ (f:Nat) id,lK[f]?=some id→∃ a,B.mg id=some (.ref a)∧AP B.K (.ref a)=true∧
  ∀ A s σ H vs us,b0 m A→af B A H σ s→aK prog w B.Cl σ s.heap vs us→jm B A s σ (O.call f vs H) (.call (.ref a) ⟨us,[]⟩) (VR B)
 own:∀ c (k:Nat) nm,qR[k]?=some nm→pG c k=true→sv (mn k)=nm∧∃ f,t9 B.K (.ref (B.Cl c)) nm=some (some (.ref f))∧adk B.K (.ref f)=some (.type "function")∧AP B.K (.ref f)=true∧
  ∀ A s σ H vs us,b0 m A→af B A H σ s→aK prog w B.Cl σ s.heap vs us→jm B A s σ (O.own c k vs H) (.call (.ref f) ⟨us,[]⟩) (VR B)
 init:∀ c,∃ f,t9 B.K (.ref (B.Cl c)) "__init__"=some (some (.ref f))∧adk B.K (.ref f)=some (.type "function")∧AP B.K (.ref f)=true∧
  ∀ A s σ H vs us,b0 m A→af B A H σ s→aK prog w B.Cl σ s.heap vs us→jm B A s σ (O.init c vs H) (.call (.ref f) ⟨us,[]⟩) wX
def aj.JG{c:Prop}[Decidable c]{r:R α}{t:Sem β}(h:¬ c→aj B A s σ r t Rel):aj B A s σ (if c then .no else r) t Rel:=by
 by_cases q:c
 ·rw [if_pos q];exact .no
 ·rw [if_neg q];exact h q
def acI(oc:kh B O m)(hm:m≤n)(ok:F.Ok){f:Nat}{id:Str}(hf:lK[f]?=some id)(hx:F.env.kindOf id=some .globalImplicit)(hd:(id==("__debug__":Str))=false)(cC:es.all f_=true)(cZ:kg B O fu n F ps es):aV B O fu n F (.call mode f ps) (.Call (.Name id p) es [] pos):=by intro A s σ H sl aw st lo;refine ci (oc.call f id hf) fun a ha hk hc=>?_;refine .mS (fun Q E h=>pP (aZ (td st ok ha hx hd h))) ?_;exact sP (first:=[]) cC (CT hk) cZ aw st lo (fun vs H₁ ax us aa av aU _ aI=>BW mode (fun σ H vs st r=>(hc A aa σ H vs us (aw.le hm) st r).sim) av aU)
def LY{o:Expr}(cC:es.all f_=true)(hlen:es.length < 30)(hp:(apos.endLine==pos.line)=true):
  eval (.Call (.Attribute o name apos) es [] pos) env=(do
   let ov←M8 o name env (eval o env)
   standAt apos.atName
   let x←holding [ov] (getMethod ov name (do return (←M4 o env).getD true))
   callWith pos x.1 x.2 (backTo pos (starEach es env)) []):=by
 rw [arm_eval_Call];have hf:acY (es.length + 0) (backTo pos (starEach es env)) (backToKw pos (keywordEach [] env))=true:=by
  delta acY;have:=wN (env:=env) (pos:=pos) cC;have h1:(backTo pos (starEach es env)).all (fun x=>!x.1)=true:=by rw [oU];intro x hx;rw [A_] at this;simpa using this x hx
  rw [h1];show (true&&true&&decide (es.length + 0 + 0 < 30))=true;simp [hlen]
 congr 1;funext ov;congr 1;funext _;delta methodCall;rw [show es.length + ([]:List Keyword).length=es.length + 0 from rfl,hf];delta calleeOf methodCallPos;rw [hp];rfl
def Ev{o:Expr}(hb:nZ o=true)(cC:es.all f_=true)(hlen:es.length < 30)(hp:(apos.endLine==pos.line)=true):
  eval (.Call (.Attribute o name apos) es [] pos) env=(do
   let ov←eval o env
   standAt apos.atName
   let x←holding [ov] (getMethod ov name (do return (←M4 o env).getD true))
   callWith pos x.1 x.2 (backTo pos (starEach es env)) []):=by
 rw [LY cC hlen hp,Mh hb]
def acp(fc:Facts B)(oc:kh B O m)(hm:m≤n){k:Nat}{a:PE}{o:Expr}(hk:qR[k]?=some name)(hb:nZ o=true)(cC:es.all f_=true)(hlen:es.length < 30)(hp:(apos.endLine==pos.line)=true)(ha:aV B O fu n F a o)(cZ:kg B O fu n F ps es):aV B O fu n F (.own mode k a ps) (.Call (.Attribute o name apos) es [] pos):=by
 intro A s σ H sl aw st lo;rw [Ev hb cC hlen hp];refine aj.bind (ha A s σ H sl aw st lo) fun v H₁ ax u aa _ av aU aI=>?_;have bR:=lo.next st aI;generalize ei:(hU v H₁)=zz;induction zz using az with
 | none=>exact aj.no
 | some cl=>
  obtain ⟨c,l⟩:=cl;refine aj.JG (c:=((look (mn k) l).isSome||!pG c k)=true) fun Db=>?_;simp only [Bh,not_or,N9,Bool.not_eq_false'] at Db;refine ad (oc.own c k name hk Db.2) fun Wv z2=>?_;refine xN z2 fun f hf ht J' hc=>?_;clear z2;refine Bl (EM av ei aU) fun x ob d mp z4=>?_;subst z4;intro h1 h2 h3 h4 h5 h6 mQ;refine ad mQ fun h7 h8=>?_;clear mQ;refine J (CK h6) fun od ed zl=>?_;have Wu:mp name=none:=by
   have:=h8.ks (mn k);rw [Wv] at this;generalize e:(mp name)=zz;induction zz using az with
   | none=>rfl
   | some y=>rw [e] at this;rw [Db.1] at this;injection this
  refine .mS (fun Q E h=>au (eE (au (cH (aZ (PySem.W.method_fn av.mj (y_ h1 h2 h4 h3 ed) (fc.ga c) (fc.gh c) hf ht (by show (E9 name od).map _=_;rw [zl,Wu];rfl) h)))))) ?_;exact sP (first:=[.ref x]) cC (CT J') cZ aw av bR (fun vs ag bt us aP aM dP _ bJ=>BW mode (fun σ H vs st r=>(hc A aP σ H vs (.ref x::us) (aw.le hm) st r).sim) aM (.cons (aU.b_ bJ) dP))
end
end
section
open PySem PySem.W PySem.Calls PyProof.Rows Builtin Builtin.ObjectAttr Builtin.Getset_descriptor
section
variable {R:Result→Shared→Prop} {g:Array Bc} {d:Bd} {os:uc}
def Ag{id:String}{b:Builtin}(hb:entryFor table id=some b)(h:aT (model prog w) (A.under (.builtin id args)) (b args) (fun fin s'=>match fin with|.done f=>R (.ok f) s'|.again c'=>c'.quiet=true∧lH c'=false∧dl (model prog w) A c' R s') (fun e s'=>R (.error e) s') s):
  dl (model prog w) A (.builtin id args) R s:=by
 refine lM ?_;show aT _ _ (match entryFor table id with|some b=>b args|none=>unsupported ((withoutEnding? id "#data").getD id)) _ _ s;rw [hb];exact h
def En{id:String}(hq:(Be id args).quiet=true)(hd:afi.contains id=false)(h:wpAny (model prog w) A.in1 (checkBuiltinCall id args) (fun _ aa=>dl (model prog w) A (.builtin id args) R aa) (fun e s'=>R (.error e) s') s):dl (model prog w) A (.call (.builtin id) args) R s:=by refine lM (aZ ?_);show wpAny _ A.in1 (do checkBuiltinCall id args;again (.builtin id args)) _ _ s;exact wpAny_bind (wpAny_mono h (fun _ aa h₁=>wpAny_pure ⟨hq,hd,h₁⟩) fun _ _ h'=>h')
theorem O0{rest:Qa}:Builtin.«type.__call__» ⟨.ref C::rest,[]⟩=(do
  if (←mroOf (.ref C)).isEmpty then rule "type.call.half-made";raiseError "TypeError" s!"cannot create '{← typeName (.ref C)}' instances"
  let new←match←Bind.madeBy (.ref C) with
   | some i=>pure (.builtin i)
   | none=>getAttr (.ref C) "__new__"
  let obj←holding [new] (PySem.call new (.ref C::rest) [])
  if !(←isInstance obj (.ref C)) then rule "type.call.new-gave-other-type";return←ret obj
  match←holding [obj] (callSpecial? obj "__init__" rest []) with
  | none=>ret obj
  | some r=>
   if r != .none then
    rule "type.call.init-returned-value"
    raiseError "TypeError" s!"__init__() should return None, not '{← typeNameOf r}'"
   ret obj):=by
 unfold Builtin.«type.__call__»;rfl
def TR{rest:Qa}{init:Value}(Y:Makes (model prog w) h C)(hi:Looks (model prog w) h (typeLookup (.ref C) "__init__") (some init))(hb:∀ self,Looks (model prog w) h (bindSpecial init self) (init,[self]))(V:(some init != some (Value.builtin "object.__init__"))=true)(hq:dl (model prog w) (A.under (.builtin "type.__call__" ⟨.ref C::rest,[]⟩)) (.call init ⟨.ref (h.objs.size + 1)::rest,[]⟩) (InitBack (h.objs.size + 1) R) ⟨(h.push AO).push (instObj C h.objs.size),g,d,t,os⟩):
  dl (model prog w) A (.call (.ref C) ⟨rest,[]⟩) R ⟨h,g,d,t,os⟩:=by
 have Y':=Y;obtain ⟨⟨oc,od,cd,sl,hC,e1,e2,e4⟩,made,base,self,top,call,typ⟩:=Y;refine lM (aZ ?_);show wpAny _ _ (callAny (.ref C) _) _ _ _;refine nd_load hC ?_;show wpAny _ _ (ac3 (.ref C) _) _ _ _;unfold ac3;refine wpAny_bind (call.at ?_);dsimp only;rw [tc_bind];refine wpAny_bind (wpAny_pure (wpAny_bind (wpAny_pure ?_)));refine wpAny_pure (a:=Fin.again (.call (.builtin "type.__call__") ⟨.ref C::rest,[]⟩)) ⟨rfl,rfl,?_⟩;refine En (FG _ (by decide +kernel)) (by decide +kernel) (check_slot tc_kind tc_split typ (tc_args _ _ _) ?_);refine Ag entry_typeCall ?_;rw [O0];have hm:Looks (model prog w) h (mroOf (.ref C)) cd.mro:=((ad3 (part:=none) hC).andThen .now).andThen .now;have k:∀ b o,h.get? b=some o→((h.push AO).push (instObj C h.objs.size)).get? b=some o:=fun b o e=>fh _ (fh _ e);have hx:((h.push AO).push (instObj C h.objs.size)).get? (h.objs.size + 1)=some (instObj C h.objs.size):=by heap_get
 have t1:Looks (model prog w) ((h.push AO).push (instObj C h.objs.size)) (typeOf (.ref (h.objs.size + 1))) (.ref C):=(ad3 hx).andThen .now;have s1:=self.keeps k;have i1:=hi.keeps k;have b1:=(hb (.ref (h.objs.size + 1))).keeps k;refine au (aZ (hm.at ?_));rw [e4,if_neg cN];refine au (aZ (made.at ?_));refine au (ba ?_);refine au (cH (aZ (wpAny_call (new_K Y' hi (.inl V) ?_))));have inst:Looks (model prog w) ((h.push AO).push (instObj C h.objs.size)) (isInstance (.ref (h.objs.size + 1)) (.ref C)) true:=t1.andThen s1;refine au (aZ (inst.at ?_));rw [if_neg (show ¬ ((!true)=true) from cN)];refine au (cH ?_);unfold callSpecial? specialOf;refine au (au (aZ (t1.at (aZ (i1.at ?_)))));dsimp only;refine cH (au (aZ (b1.at ?_)));dsimp only;refine au (oZ (Em hq fun r s' z=>?_));rcases r with e|(v|_|_|_)<;>first|exact z|exact z.elim|skip
 refine ad z ?_;clear z;intro z0;subst z0;intro z;refine ba ?_;dsimp only;rw [if_neg (by decide)];exact ba z
end
end
section
open PySem
section
variable {F:br}
def aag(h:b0 (n + 1) A):b0 n (A.under (.builtin "type.__call__" ⟨.ref C::us,[]⟩)) where
 hd:=h.hd
 dp:=by
  have hw:(Be "type.__call__" ⟨.ref C::us,[]⟩).weight=1:=by rfl
  show A.depth + _ + 8 * n≤900;rw [hw];have:=h.dp;lia
 un:=by
  have hw:(Be "type.__call__" ⟨.ref C::us,[]⟩).cUnits≤1:=by simp [Code.cUnits,show (Be "type.__call__" ⟨.ref C::us,[]⟩).frames=0 from rfl]
  show A.units + _ + 40 * n≤5000;have:=h.un;lia
 gd:=h.gd
 fr:=h.fr
def Tq{r:R α}(h:cV r≠.no):∃ a H',r=.ok a H':=by
 induction r with
 | no=>exact absurd rfl h
 | bad H=>exact absurd rfl h
 | ok a H=>exact ⟨a,H,rfl⟩
def QL(fc:Facts B)(oc:kh B O m)(ok:b0 (m + 1) A)(st:af B A H σ s)(r:aK prog w B.Cl σ s.heap vs us):
  aj B A s σ (mf O c vs H) (call (.ref (B.Cl c)) us) (VR B):=by
 intro V Q E hq he;refine xN (oc.init c) fun f hf ht J' hc=>?_;have g8:cV (O.init c (.loc H.length::vs) (H++[.inst c []]))≠.no:=fun q=>V (by unfold mf;rw [q];rfl);refine eB (Tq g8) fun v H' e=>?_;obtain ⟨hh,g,d,t,os⟩:=s;refine oZ (TR (PySem.W.makes_of st.mj (fc.makes c)) (PySem.W.looks_findIn st.mj hf) (fun self=>PySem.W.bind_fn st.mj self ht) rfl ?_);have hk:∀ b o,hh.get? b=some o→((hh.push t_).push (xd (B.Cl c) hh.objs.size)).get? b=some o:=fun b o e=>fh _ (fh _ e);have dh:(hh.push t_).objs.size=hh.objs.size + 1:=xA ..;have gx:((hh.push t_).push (xd (B.Cl c) hh.objs.size)).get? (hh.objs.size + 1)=some (xd (B.Cl c) hh.objs.size):=by
  have:=eu (hh.push t_) (o:=xd (B.Cl c) hh.objs.size) rfl
  rwa [dh] at this
 have gd:((hh.push t_).push (xd (B.Cl c) hh.objs.size)).get? hh.objs.size=some t_:=fh _ (eu _ rfl);refine ad (st.push (o:=.inst c []) (q:=(hh.objs.size + 1,hh.objs.size)) t hk (sh (uf _)) (fA _) ⟨_,gx⟩ ⟨_,gd⟩
   ⟨mM (xo _),_,fun _=>none,gx,rfl,rfl,rfl,aeS ⟨_,#[],_,gd,rfl,fun e he=>absurd he (by simp),fun _=>rfl⟩,⟨_,gd,rfl,rfl⟩,⟨fun k=>rfl,fun k v u a=>by simp [look] at a⟩,[],ada,aS _⟩) fun av aI=>?_
 have rr:aK prog w B.Cl ⟨σ.t++[(hh.objs.size + 1,hh.objs.size)],σ.fr⟩ ((hh.push t_).push (xd (B.Cl c) hh.objs.size)) (.loc H.length::vs) (.ref (hh.objs.size + 1)::us):=
  .cons (.loc (p:=(hh.objs.size + 1,hh.objs.size)) (by rw [←st.inv.len,gD (aS _)];simp)) (r.b_ aI)
 refine hc _ _ _ _ _ _ (aag ok) (av.around rfl) rr (by rw [e];exact fun q=>nomatch q) _ (fun u s' OL H₁ ax q aM hu bJ=>?_) fun e' s' H₁ ax q=>nomatch e.symm.trans q
 subst hu;generalize (e.symm.trans q)=zz
 (injection zz with e1 e2;subst e1 e2)
 refine ⟨rfl,?_⟩;refine ay bJ.pre fun τ ep=>?_;refine hq _ _ (.loc H.length) H' ax (by delta mf;rw [e];rfl) (aM.around rfl) (.loc (p:=(hh.objs.size + 1,hh.objs.size)) ?_) (aI.trans bJ);rw [ep,eX (by rw [←st.inv.len];simp),←st.inv.len,gD (aS _)];simp
def acs(fc:Facts B)(oc:kh B O m)(hm:m + 1≤n)(ok:F.Ok){id:Str}(hc:cnames[c]?=some id)(hx:F.env.kindOf id=some .globalImplicit)(hd:(id==("__debug__":Str))=false)(cC:es.all f_=true)(cZ:kg B O fu n F ps es):aV B O fu n F (.new mode c ps) (.Call (.Name id p) es [] pos):=by intro A s σ H sl aw st lo;refine .mS (fun Q E h=>pP (aZ (td st ok (fc.X3 c id hc) hx hd h))) ?_;exact sP (first:=[]) cC (CT (fc.UJ c)) cZ aw st lo (fun vs H₁ ax us aa av aU _ aI=>BW mode (fun σ H vs st r=>QL fc oc (aw.le hm) st r) av aU)
def I0(k k':Qn)(v:α)(l:List (Qn×α)):look k' (put k v l)=if k'=k then some v else look k' l:=by
 induction l with
 | nil=>
  rw [R6,lE,Ug];by_cases h:k=k'
  ·rw [if_pos h,if_pos h.symm]
  ·rw [if_neg h,if_neg fun q=>h q.symm]
 | cons p l ih=>
  obtain ⟨a,b⟩:=p;rw [qH];by_cases ha:a=k
  ·rw [if_pos ha,lE,lE];by_cases hk:k'=k
   ·rw [if_pos hk,if_pos (ha.trans hk.symm)]
   ·rw [if_neg hk,if_neg (fun q=>hk (q.symm.trans ha)),if_neg (fun q=>hk (q.symm.trans ha))]
  ·rw [if_neg ha,lE,lE];by_cases hk:a=k'
   ·rw [if_pos hk,if_pos hk,if_neg (fun q=>ha (hk.trans q))]
   ·rw [if_neg hk,if_neg hk,ih]
def R7(k:Qn)(v:α)(l:List (Qn×α)):(put k v l).length=if (look k l).isSome then l.length else l.length + 1:=by
 induction l with
 | nil=>rfl
 | cons p l ih=>
  obtain ⟨a,b⟩:=p;rw [qH,lE];by_cases ha:a=k
  ·simp [ha]
  ·simp only [ha,if_false,kl,ih]
   split<;>rfl
def QB(fc:Facts B){x:PV}{k:Qn}{y:Value}(hn:nu.contains (sv k)=true)(st:af B A H σ s)(r:ah prog w B.Cl σ s.heap v u)(rx:ah prog w B.Cl σ s.heap x y):
  bp B A s σ (jS v k x H) (setAttr u (sv k) y) (fun _ _ _ _=>True):=by
 delta jS;generalize en:(gj v)=zz;induction zz using az with
 | none=>exact .no
 | some n=>
 obtain rfl:=Bx en;refine J (oJ r) fun p z1=>?_;subst z1;intro m9;generalize hl:H[n]?=zz;induction zz using az with
 | none=>exact fun V=>absurd (show jS (.loc n) k x H=.no by delta jS;dsimp only [gj];rw [hl]) V
 | some oo=>
 induction oo with
 | inst c l=>
  have es:jS (.loc n) k x H=if l.length < aC then .ok () (H.set n (.inst c (put k x l))) else .no:=by delta jS;dsimp only [gj];rw [hl]
  show bp B A s σ (jS (.loc n) k x H) _ _;rw [es];refine .ite fun bY=>?_;simp only [aC] at bY;refine ad (st.inv.obj _ _ _ hl m9) fun ne z2=>?_;refine qi z2 fun ob mp h1 h2 h3 h4 h5 h6 h7 FV=>?_;clear z2;refine J FV fun ns hw mx=>?_;clear FV;refine J (CK h5) fun od ed zl=>?_;have g7:=dC m9;refine fun _ Q E hq he=>PySem.W.set_plain st.mj (y_ h1 h2 h4 h3 ed) (fc.sa c) ?_;have C_:adl B.K (B.Cl c) (sv k)=some none:=by unfold adl;rw [fc.attr c (sv k) hn];rfl
  refine PySem.W.osa_open (s:={s with toks:=s.toks + 1}) st.mj (y_ h1 h2 h4 h3 ed) (fc.over c) C_ fun b=>?_;refine J (adq (fc.jJ c)) fun cd j5 v_=>?_;obtain ⟨oc,odi,oda,H_⟩:=ob;dsimp only at h2 h3 h4;subst h2 h3 h4;refine wpAny_bind (wpAny_pure (wpAny_bind (wpAny_bind (wpAny_loadPart h1 (wpAny_bind ((PySem.W.looks_clsIn (M:=model prog w) st.mj j5).at ?_))))));rw [v_];refine wpAny_pure (a:=some p.2) (wpAny_bind (wpAny_pure (wpAny_bind ?_)));refine PySem.wpAny_nsSet1EFk h5 fun h' iR hs WF=>?_;refine dS (iR.count (M_ (sv k) y hw)) fun oD Zj Zp vY Du Dy=>?_;refine wpAny_bind (wpAny_lookBehind vY (by rw [Du];exact acX (aB Dy (by rw [kl,sizeLine_eq];exact aq (bc (aB mx (gb bY))) rfl))) ?_);refine wpAny_pure ?_;have dY:∀ b ob,b≠p.1→b≠p.2→s.heap.get? b=some ob→h'.get? b=some ob:=fun b ob _ h2 e=>(hs.2 b h2).trans e;have tD:h'.get? p.1=some {cls:=.ref (B.Cl c),dict:=some p.2,data:=.plain,slots:=H_}:=(hs.2 p.1 (Ne.symm ne)).trans h1;have al:∀ b ob,s.heap.get? b=some ob→∃ o',h'.get? b=some o':=fun b ob e=>by
   by_cases hb:b=p.2
   ·subst hb;exact ⟨_,vY⟩
   ·exact ⟨ob,(hs.2 b hb).trans e⟩
  have P:aJ cq s.heap σ h' σ:=⟨fun b ob hb _ e=>⟨ob,dY b ob (fun q=>hb (q ▸ g7.1)) (fun q=>hb (q ▸ g7.2)) e,.refl ob⟩,⟨[],by simp⟩,rfl,fun b hb=>.inl hb,al⟩;refine ad (st.set (o:=.inst c (put k x l)) (s.toks + 1 + 1) m9 ⟨_,tD⟩ ⟨_,vY⟩ dY (by
     refine ⟨ne,_,_,tD,rfl,rfl,rfl,iR,?_,⟨fun k'=>?_,fun k' v' u' a b=>?_⟩,?_⟩
     ·(refine ci h6 fun S6 e' c' d'=>?_;clear h6)
      refine ci (WF S6 e') fun S5 Ef EC Eh=>?_;exact ⟨S5,Ef,EC.trans c',Eh.trans d'⟩
     ·rw [I0];by_cases hk:k'=k
      ·rw [if_pos hk,if_pos (by rw [hk])];rfl
      ·rw [if_neg hk,if_neg (fun q=>hk (sF q))];exact h7.ks k'
     ·rw [I0] at a;by_cases hk:k'=k
      ·rw [if_pos hk] at a;rw [if_pos (by rw [hk])] at b
       (injection a with e1;subst e1);(injection b with e1;subst e1);exact rx.b_ P
      ·rw [if_neg hk] at a;rw [if_neg (fun q=>hk (sF q))] at b;exact (h7.all k' v' u' a b).b_ P
     ·rw [R7];by_cases Di:(look k l).isSome=true
      ·rw [if_pos Di];refine ⟨ns,fun z hz=>?_,mx⟩;by_cases JJ:z=sv k
       ·subst JJ;have:=h7.ks k;rw [Di] at this;exact hw _ fun q=>by rw [q] at this;injection this
       ·exact hw z fun q=>hz (by show (if z=sv k then some y else mp z)=none;rw [if_neg JJ,q])
      ·rw [if_neg Di];exact ⟨sv k::ns,M_ (sv k) y hw,by simp;exact mx⟩)) fun a_ _=>?_
  exact hq _ _ () _ σ rfl a_ trivial P
 | _=>exact fun V=>absurd (show jS (.loc n) k x H=.no by delta jS;dsimp only [gj];rw [hl]) V
end
end
section
open PySem
noncomputable def P3:Const→Option Str
 | .str x=>some x
 | _=>none
def Jf(k:Qn)(o:Option Expr):Bool:=(o.bind fun e=>(ev e).k).any fun c=>(P3 c).any fun x=>sv k==x
def UF{k:Qn}{o:Option Expr}(h:Jf k o=true):∃ a b,o=some (.Constant (.str (sv k)) a b):=by
 refine J (anyOf h) fun c h1 h2=>?_;refine J (anyOf h2) fun x h3 h4=>?_;refine J (bO h1) fun e z1=>?_;subst z1;intro h6;have hc:c=.str (sv k):=by induction c<;>(first|(injection h3;done)|(injection h3 with e1;subst e1));rw [eq_of_beq h4]
 subst hc;clear h h1 h2 h3 h4;induction e using jv<;>(first|(injection h6;done)|(injection h6 with e1;subst e1));exact ⟨_,_,rfl⟩
noncomputable def keysOk:List Qn→List (Option Expr)→Bool
 | [],[]=>true
 | k::ks,o::es=>Jf k o&&keysOk ks es
 | _,_=>false
noncomputable def sZ(env:Env)(pos:Pos):List Qn→Qe→List (Sem Value×Sem Value)
 | k::ks,e::es=>(constValue env (.str (sv k)),do let x←eval e env;standAt pos;pure x)::sZ env pos ks es
 | _,_=>[]
section
variable {F:br}
def Sx{k v:Sem Value}{rest:List (Sem Value×Sem Value)}{Q:List (Value×Value)→Shared→Prop}(h:aT (model prog w) A k (fun kv aa=>aT (model prog w) A v (fun vv aP=>aT (model prog w) A (evalPairs rest) (fun vs bz=>Q ((kv,vv)::vs) bz) E aP) E aa) E s):
  aT (model prog w) A (evalPairs ((k,v)::rest)) Q E s:=by
 rw [evalPairs];refine au (gS h (fun kv aa h₁=>?_) fun _ _ e=>e);refine au (cH (gS h₁ (fun vv aP b6=>?_) fun _ _ e=>e));exact au (cH (gS b6 (fun vs bz kH=>ba kH) fun _ _ e=>e))
def ZW{keys:List (Option Expr)}{values:Qe}{pairs:List (Sem Value×Sem Value)}(VU:(evalEachOpt keys env).zip ((evalEach values env).map fun v=>do let x←v;standAt pos;pure x)=pairs.map fun p=>(some p.1,p.2))(h0:pairs≠[])(hlen:pairs.length≤15)(h:aT (model prog w) A (evalPairs pairs) (fun vs aa=>∃ kvs,Carries (strKind prog w) vs kvs∧vs.length≤15∧aa.heap.DictOf (strKind prog w) s.heap.objs.size []∧
   ∀ h',h'.DictOf (strKind prog w) s.heap.objs.size (merged [] kvs)→uB s.heap.objs.size aa.heap h'→Q (.ref s.heap.objs.size) {aa with heap:=h',toks:=aa.toks + vs.length}) E
   {s with heap:=s.heap.push {cls:=.type "dict",data:=.dict #[]}}):
  aT (model prog w) A (eval (.Dict keys values pos) env) Q E s:=by
 rw [ac8,VU,dictDisplay_pairs pairs h0 (by exact iI hlen rfl)];refine au (eE (au ?_));unfold subDict;refine au (aZ (wpAny_alloc ?_));refine au (cH ?_);rw [if_pos hlen];refine au (gS h (fun vs aa h₁=>?_) fun _ _ e=>e);refine xN h₁ fun kvs hc j2 hm hQ=>?_;clear h₁;have dh:([]:List (Str×Value)).length + kvs.length≤sizeLine:=by have e:=hc.length;rw [sizeLine_eq,p9];exact aq (addQ (aB (dM e) j2)) rfl
 refine cH (au (aZ (wpAny_storeAll (knd:=strKind prog w) vs kvs [] aa _ hc hm dh fun h' v0 iy=>?_)));exact ba (ba (ba (hQ h' v0 iy)))
theorem HU{env:Env}{pos:Pos}:∀ {ks:List Qn} {keys:List (Option Expr)} {es:Qe},keysOk ks keys=true→
  (evalEachOpt keys env).zip ((evalEach es env).map fun v=>do let x←v;standAt pos;pure x)=(sZ env pos ks es).map fun p=>(some p.1,p.2)
 | [],[],es,_=>by induction es using bj<;>rfl
 | [],_::_,_,h=>(cN h).elim
 | _::_,[],_,h=>(cN h).elim
 | k::ks,o::keys,es,h=>by
  refine eB (UF (aL h)) fun a b z2=>?_;subst z2;induction es using bj with
  | nil=>rfl
  | cons e es=>show (some (eval (.Constant (.str (sv k)) _ _) env),_)::((evalEachOpt keys env).zip ((evalEach es env).map _))=_;rw [HU (aR h)];rfl
def Sa(h:ks.length=es.length):(sZ env pos ks es).length=ks.length:=by
 induction ks generalizing es with
 | nil=>rfl
 | cons k ks ih=>
  induction es using bj with
  | nil=>injection h
  | cons e es=>exact congrArg (· + 1) (ih (Nat.succ.inj h))
noncomputable abbrev PR(B:Base prog w)(ks:List Qn):Sg→Heap→Qp→List (Value×Value)→Prop:=fun σ h l us=>
 aK prog w B.Cl σ h l (us.map (·.2))∧Carries (strKind prog w) us ((ks.map sv).zip (us.map (·.2)))∧us.length=ks.length
def QH(h:rW B O fu n F ps es)(hl:ks.length=es.length)(ok:b0 n A)(st:af B A H σ s)(lo:bh B F sl σ s.heap):
  aj B A s σ (bB O ps sl H) (evalPairs (sZ F.env pos ks es)) (PR B ks):=by
 induction ks generalizing es ps s σ H with
 | nil=>
  induction es using bj with
  | cons _ _=>injection hl
  | nil=>
   induction ps using bg.casesOn with
   | nil=>exact aj.pure st ⟨.nil,trivial,rfl⟩
   | cons _ _=>exact h.elim
 | cons k ks ih=>
  induction es using bj with
  | nil=>injection hl
  | cons e es=>
   induction ps using bg.casesOn with
   | nil=>exact h.elim
   | cons p ps=>refine ad h fun h1 h2=>?_;clear h;intro V Q E hq he;refine Sx (aZ (wpAny_mkText ?_));have g8:ao O p sl H≠.no:=fun q=>V (congrArg (R.bind · _) q);refine au (h1 A {s with toks:=s.toks + 1} σ H sl ok (st.tok _) lo g8 _ _ (fun u aa v H₁ ax e1 av aU aI=>au (eE (ba ?_))) fun x s' H' σ' e'=>he x s' H' σ' (congrArg (R.bind · _) e'));have kL:bB O (.cons p ps) sl H=(bB O ps sl H₁).bind fun vs ag=>.ok (v::vs) ag:=congrArg (R.bind · _) e1;rw [kL] at V hq he;have vZ:bB O ps sl H₁≠.no:=fun q=>V (congrArg (R.bind · _) q);refine ih h2 (Nat.succ.inj hl) av (lo.pd st.inv aI) vZ _ _ (fun us aP vs ag bt e2 aM dP bJ=>?_) fun x s' H' σ' e' a_ x' p'=>he x s' H' σ' (congrArg (R.bind · _) e') a_ (x'.le aI.al fun _ h=>h) (aI.trans p');exact hq _ _ (v::vs) ag bt (congrArg (R.bind · _) e2) aM ⟨.cons (aU.b_ bJ) dP.1,⟨beq_self_eq_true _,rfl,dP.2.1⟩,congrArg (· + 1) dP.2.2⟩ (aI.trans bJ)
def Je(hl:us.length=ks.length)(r:aK prog w B.Cl σ h vs us):fE prog w B.Cl σ h (ks.zip vs) ((ks.map sv).zip us):=by
 have jH:vs.length=ks.length:=r.sz.trans hl;refine ⟨?_,fun i k v k' u a b=>?_⟩
 ·rw [ND (by simp [hl])];have:∀ (ks:List Qn) (vs:Qp),vs.length=ks.length→ks.map sv=(ks.zip vs).map fun p=>sv p.1:=by
   intro ks;induction ks with
   | nil=>intro vs _;rfl
   | cons k ks ih=>
    intro vs h;induction vs using bj with
    | nil=>simp at h
    | cons v vs=>simp [ih vs (by simpa using h)]
  exact this ks vs jH
 ·rw [aen] at a b;exact r.all i v u a.2 b.2
def Oh(hl:us.length=ks.length)(hn:ks.Nodup):(((ks.map sv).zip us).map (·.1)).Nodup:=by rw [ND (by simp [hl])];exact agm sv (fun a b h q=>h (sF q)) hn
def acA{mt:Bool}{keys:List (Option Expr)}(hk:keysOk ks keys=true)(hl:ks.length=es.length)(h0:ks≠[])(lJ:ks.length≤15)(hn:ks.Nodup)(cZ:rW B O fu n F ps es):aV B O fu n F (.dict mt ks ps) (.Dict keys es pos):=by
 intro A s σ H sl ok st lo;have pC:∀ d∈[s.heap.objs.size],s.heap.get? d=.none:=fun d hd=>by rw [bZ.mp hd];exact fA _
 have dY:=iq (h:=s.heap) {cls:=.type "dict",data:=.dict #[]};have gd:(s.heap.push {cls:=.type "dict",data:=.dict #[]}).get? s.heap.objs.size=some {cls:=.type "dict",data:=.dict #[]}:=eu _ rfl;have De:(sZ F.env pos ks es).length=ks.length:=Sa hl;have q5:sZ F.env pos ks es≠[]:=fun q=>h0 (by rw [q] at De;exact uz De.symm);have sm:s.heap.objs.size≠lU:=fun q=>by (refine ay B.pz fun o ho=>?_;have:=st.keep _ _ ho;rw [←q,fA] at this;injection this)
 intro V Q E hq he;have g8:bB O ps sl H≠.no:=fun q=>V (congrArg (R.bind · _) q);refine ZW (HU hk) q5 (by rw [De];exact lJ) ?_;have a_:=st.enter (h':=s.heap.push {cls:=.type "dict",data:=.dict #[]}) s.toks pC dY (fun d hd=>by rw [bZ.mp hd];exact ⟨_,gd⟩);have fe:=lo.enter pC dY;refine QH (pos:=pos) cZ hl ok a_ fe g8 _ _ (fun us aa vs H₁ ax e1 av aU aI=>?_) fun x s' H' σ' e' uV x' p'=>?_
 ·refine ⟨_,aU.2.1,by rw [aU.2.2];exact lJ,?_,fun h' hm hs=>?_⟩
  ·refine J (aI.kp _ _ (fun q=>(a_.inv.low _ q).2.2 (by simp [eU])) (fun h=>h) gd) fun o' eo kk=>?_;rw [kk.exact (by simp)] at eo;exact pN (NW s.heap) fun o e=>by rw [gd] at e;(injection e with e1;subst e1);exact eo
  ·rw [merged_nil_of_nodup _ (Oh (by simpa using aU.2.2) hn)] at hm;have di:∀ b o,b≠s.heap.objs.size→aa.heap.get? b=some o→h'.get? b=some o:=fun b o hb e=>(hs.2 b hb).trans e;have kL:ao O (.dict mt ks ps) sl H=Cy mt (ks.zip vs) H₁:=by
    show (bB O ps sl H).bind _=_;rw [e1];show (if vs.length=ks.length then _ else _)=_;rw [if_pos (by rw [aU.1.sz];simpa using aU.2.2)]
   rw [kL] at hq;induction mt with
   | false=>
    refine cG (st.qU (X':=cq) (k:=aa.toks + us.length) (fun _ h=>h) pC dY aI (fun b hb=>hb.elim) av (h':=h') fun b o hb e=>di b o (fun q=>hb (bZ.mpr q)) e) fun aM bJ S=>?_;refine hq _ _ (.fd (ks.zip vs)) H₁ _ rfl aM ?_ bJ;have kr:=(Je (by simpa using aU.2.2) aU.1).move S;refine .fd hm sm (fun q=>?_) kr.ks kr.all;have:s.heap.objs.size∈ax.fr:=by rw [aI.fr];simp [eU]
    rcases q with q|q
    ·exact (av.inv.low _ q).2.2 this
    ·refine ay (st.inv.cS _ q).2 fun o e=>?_;rw [fA] at e;injection e
   | true=>refine ik (id hm) fun od _ _ Zq _=>?_;refine ad (st.adopt (o:=.dict (ks.zip vs)) (k:=aa.toks + us.length) (fun _ h=>h) (fA _) dY aI av (h':=h') di ⟨_,Zq⟩ fun S=>⟨rfl,_,hm,(Je (by simpa using aU.2.2) aU.1).move S⟩) fun aM bJ=>?_;exact hq _ _ (.loc H₁.length) (H₁++[.dict (ks.zip vs)]) _ rfl aM (.loc (p:=(s.heap.objs.size,s.heap.objs.size)) (by rw [←av.inv.len,gD (aS _)];simp)) bJ
 ·refine cG (st.qU (X':=cq) (k:=s'.toks) (fun _ h=>h) pC dY p' (fun b hb=>hb.elim) uV (h':=s'.heap) fun b o hb e=>e) fun aM bJ S=>?_;exact he _ _ H' _ (congrArg (R.bind · _) e') aM (x'.le (fun b o e=>⟨o,dY b o e⟩) fun _ h=>h) bJ
def acz{mt:Bool}:aV B O fu n F (.dict mt [] .nil) (.Dict [] [] pos):=by
 intro A s σ H sl ok st lo _ Q E hq he;have dY:=iq (h:=s.heap) {cls:=.type "dict",data:=.dict #[]};have gd:(s.heap.push {cls:=.type "dict",data:=.dict #[]}).get? s.heap.objs.size=some {cls:=.type "dict",data:=.dict #[]}:=eu _ rfl;have sm:s.heap.objs.size≠lU:=fun q=>by (refine ay B.pz fun o ho=>?_;have:=st.keep _ _ ho;rw [←q,fA] at this;injection this)
 refine aZ (wpAny_Dict_empty ?_);change fR B A s σ (Cy mt [] H) (VR B) Q at hq;induction mt with
 | false=>exact hq _ _ (.fd []) H σ rfl (st.grow (k:=s.toks) dY) (.fd (NW s.heap) sm (zO st (fA _)) rfl (fun i k v k' u a=>by injection a)) (.grow dY)
 | true=>refine ad (st.push (o:=.dict []) (q:=(s.heap.objs.size,s.heap.objs.size)) s.toks dY (fA _) (fA _) ⟨_,gd⟩ ⟨_,gd⟩ ⟨rfl,[],NW s.heap,⟨rfl,fun i k v k' u a=>by simp at a⟩⟩) fun a_ p0=>?_;exact hq _ _ (.loc H.length) _ _ rfl a_ (.loc (p:=(s.heap.objs.size,s.heap.objs.size)) (by rw [←st.inv.len,gD (aS _)];simp)) p0
end
end
section
open PySem
noncomputable def pS:BI→Str
 | .len=>"len"|.chr=>"chr"|.ord=>"ord"|.int=>"int"|.bytes=>"bytes"|.dW=>"bytearray"|.mq=>"isinstance"
noncomputable def EG:BI→Value
 | .len=>.builtin "len"|.chr=>.builtin "chr"|.ord=>.builtin "ord"|.int=>.type "int"|.bytes=>.type "bytes"|.dW=>.type "bytearray"|.mq=>.builtin "isinstance"
def aa5(b:BI):Av.lookup (pS b)=some (EG b):=by induction b<;>decide +kernel
def UH(b:BI):rU B (EG b):=by induction b<;>first|exact y7|exact y6
noncomputable def EF:BM→Str
 | .append=>"append"|.nt=>"append"|.extend=>"extend"|.pop=>"pop"|.sort=>"sort"|.get=>"get"
 | .find=>"find"|.rfind=>"rfind"|.count=>"count"|.starts=>"startswith"|.ends=>"endswith"
 | .replace=>"replace"|.split=>"split"|.strip=>"strip"|.join=>"join"|.pq=>"join"
section
variable {F:br}
def nV(r:aK prog w B.Cl σ h [v] us):∃ u,us=[u]∧ah prog w B.Cl σ h v u:=by refine bx r.cons_inv fun u dX z2=>?_;subst z2;intro h1 h2;obtain rfl:=h2.nil_inv;exact ⟨u,rfl,h1⟩
set_option tactic.hygienic true in
def Q6{b:BI}(hb:b=.len∨b=.chr∨b=.ord∨b=.int∨b=.bytes){k:Nat}(ok:b0 k A)(st:af B A H σ s)(r:aK prog w B.Cl σ s.heap vs us):bp B A s σ (nr b vs H) (call (EG b) us) (VR B):=by
 rcases hb with rfl|rfl|rfl|rfl|rfl
 ·show bp B A s σ (match one vs with|some v=>ti v H|.none=>.no) _ _
  split
  ·rename_i v e;obtain rfl:=n7 e;refine J (nV r) fun u z1=>?_;subst z1;intro ru;exact QQ st ru
  ·exact bp.no
 ·show bp B A s σ (match (one vs).bind toInt with|some i=>Ep i H|.none=>.no) _ _
  split
  ·rename_i i e;refine J (xj.mp e) fun v e ei=>?_;obtain rfl:=n7 e;refine J (nV r) fun u z1=>?_;subst z1;intro ru;refine lZ ei ru fun t=>?_;exact Q2 st
  ·exact bp.no
 ·show bp B A s σ (match (one vs).bind toStr with|some l=>yC l H|.none=>.no) _ _
  split
  ·rename_i i e;refine J (xj.mp e) fun v e ei=>?_;obtain rfl:=n7 e;refine J (nV r) fun u z1=>?_;subst z1;intro ru;refine qp ei ru fun t=>?_;exact QI st
  ·exact bp.no
 ·show bp B A s σ (match (one vs).bind toInt with|some i=>R.ok (PV.int i) H|.none=>R.no) _ _
  split
  ·rename_i i e;refine J (xj.mp e) fun v e ei=>?_;obtain rfl:=n7 e;refine J (nV r) fun u z1=>?_;subst z1;intro ru;refine lZ ei ru fun t=>?_;exact QU st
  ·exact bp.no
 ·show bp B A s σ (match one vs with|some v=>rI v H|.none=>.no) _ _
  split
  ·rename_i v e;obtain rfl:=n7 e;refine J (nV r) fun u z1=>?_;subst z1;intro ru;exact Q3 ok st ru
  ·exact bp.no
def acK(fc:Facts B)(ok:F.Ok){b:BI}(hb:b=.len∨b=.chr∨b=.ord∨b=.int∨b=.bytes){id:Str}(gv:pS b=id)(hx:F.env.kindOf id=some .globalImplicit)(hd:(id==("__debug__":Str))=false)(cC:es.all f_=true)(cZ:kg B O fu n F ps es):aV B O fu n F (.bi b ps) (.Call (.Name id p) es [] pos):=by subst gv;intro A s σ H sl aw st lo;refine ad (fc.rm _ _ (aa5 b)) fun h1 h2=>?_;refine .mS (fun Q E h=>pP (aZ (tg st ok h1 h2 hx hd h))) ?_;exact sP (first:=[]) cC (UH b) cZ aw st lo (fun vs H₁ ax us aa av aU _ aI=>(Q6 hb aw av aU).g)
def acw(fc:Facts B)(ok:F.Ok){a:PE}{e:Expr}{id ib:Str}(gv:id="isinstance")(WJ:ib="bool")(hx:F.env.kindOf id=some .globalImplicit)(py:F.env.kindOf ib=some .globalImplicit)(he:f_ e=true)(ha:aV B O fu n F a e):aV B O fu n F (.bi .mq (.cons a .nil)) (.Call (.Name id p) [e,.Name ib q] [] pos):=by
 subst gv WJ;intro A s σ H sl aw st lo V Q E hq hE;refine ad (fc.rm "isinstance" (.builtin "isinstance") (by decide +kernel)) fun h1 h2=>?_;refine ad (fc.rm "bool" (.type "bool") (by decide +kernel)) fun h3 h4=>?_;refine pP (aZ (tg st ok h1 h2 hx (by decide +kernel) ?_));have cC:[e,Expr.Name "bool" q].all f_=true:=by rw [Ba,he];rfl
 have hp:=wN (env:=F.env) (pos:=pos) cC;have kL:ao O (.bi .mq (.cons a .nil)) sl H=(ao O a sl H).bind fun v H₁=>wK v H₁:=by show ((ao O a sl H).bind fun v H₁=>(R.ok [] H₁).bind fun vs ag=>.ok (v::vs) ag).bind _=_;rw [pU];rfl
 rw [kL] at V hq hE;have g8:ao O a sl H≠.no:=fun q=>V (congrArg (R.bind · _) q);refine Ap (P:=fun h=>∀ b o,B.h₀.get? b=some o→h.get? b=some o) hp y7 ?_;rw [BP he];show aT _ _ (do
  let v←eval e F.env;let here←(pure [v]:Sem Qa)
  return here++(←holding here (spliced (backTo pos (starEach [.Name "bool" q] F.env))))) _ _ _
 refine au (ha A s σ H sl aw st lo g8 _ _ (fun u aa v H₁ ax e1 av aU aI=>?_) fun x s' H' σ' e'=>hE x s' H' σ' (congrArg (R.bind · _) e'));have ev:(ao O a sl H).bind (fun v H₁=>wK v H₁)=wK v H₁:=congrArg (R.bind · _) e1;rw [ev] at V hq hE;refine au (ba (au (cH ?_)));show aT _ _ (do
  let v←eval (.Name "bool" q) F.env;let here←(pure [v]:Sem Qa)
  return here++(←holding here (pure []))) _ _ _
 refine au (aZ (tg av ok h3 h4 py (by decide +kernel) ?_));refine au (ba (au (cH (ba (ba (ba ⟨av.keep,?_⟩))))));exact (QT av aU).g V Q E (fR.next hq aI) (ny.next hE aI)
end
end
section
open PySem Builtin
namespace MF
def yh:nE "bytearray" "append" "bytearray.append":=
 .of (owner:="bytearray") (n:="append") (by rw [ki,builtinLookup_eq_fast];kernel_rfl) (by decide +kernel) (by decide +kernel) (by decide +kernel)
  (by first|exact .inl (by decide +kernel)|exact .inr (by decide +kernel)) (by rw [nD];kernel_rfl)
def OZ:typeOf (.builtin "bytearray.append")=pure (.type "method_descriptor"):=by show rZ _=_;rw [rY];kernel_rfl
def ZA:entryFor table "bytearray.append"=some Builtin.«bytearray.append»:=pZ (by kernel_rfl)
def abs(a b:Value):iH "bytearray.append" ⟨[a,b],[]⟩:=by unfold iH;kernel_rfl
def So:PlainAttrs "bytearray":=
 ⟨⟨"bytearray.__getattribute__",by rw [ki,builtinLookup_eq_fast];kernel_rfl,by decide +kernel⟩,by rw [ki,builtinLookup_eq_fast];kernel_rfl⟩
def yg:nE "bytearray" "__init__" "bytearray.__init__":=
 .of (owner:="bytearray") (n:="__init__") (by rw [ki,builtinLookup_eq_fast];kernel_rfl) (by decide +kernel) (by decide +kernel) (by decide +kernel)
  (by first|exact .inl (by decide +kernel)|exact .inr (by decide +kernel)) (by rw [nD];kernel_rfl)
def IG:mroOf (.type "bytearray")=pure [.type "bytearray",.type "object"]:=by rw [mroOf_type];kernel_rfl
def Uc:typeLookup (.type "bytearray") "__new__"=pure (some (.builtin "bytearray.__new__")):=by rw [ki,builtinLookup_eq_fast];kernel_rfl
def Eu:TypeCalled "bytearray" "bytearray.__new__" "bytearray.__init__":=
 ⟨by decide +kernel,by decide +kernel,⟨_,_,IG⟩,madeBy_type IG Uc (by decide +kernel),by decide +kernel,by rw [nD];kernel_rfl,yg⟩
def O1:ac2 "bytearray" ⟨[],[]⟩=pure ():=by kernel_rfl
def Tt:checkBuiltinCall "bytearray.__new__" ⟨[.type "bytearray"],[]⟩=pure ():=by kernel_rfl
def Zy:entryFor table "bytearray.__new__"=some Builtin.«list.__new__»:=entryFor_alias (id':="list.__new__") (by kernel_rfl) rfl (by decide +kernel) (by kernel_rfl)
def Zz:entryFor table "bytearray.__init__"=some Builtin.«bytearray.__init__»:=pZ (by kernel_rfl)
def abr(a:Value):iH "bytearray.__init__" ⟨[a],[]⟩:=by unfold iH;kernel_rfl
set_option maxRecDepth 1000000 in
def SE:("bytearray.__new__".splitOn ".__new__").headD ""="bytearray":=by simp +decide [String.splitOn,String.splitOnAux]
end MF
section
def XP{id:String}(h:(Be id args).isGuard=false):guardIds.contains id=false:=h
def Z4{id:String}(h:lH (.builtin id args)=false):afd.contains id=false:=h
def dF{p:Prop}[d:Decidable p]{a:p→α}{b:¬ p→α}{z:α}(h:¬ p)(e:b h=z):dite p a b=z:=(dif_neg h).trans e
def Lg{self:Value}{Q:Bool→Shared→Prop}(hg:A.guards=some [])(h:Q false s):aT (model prog w) A (FI self) Q E s:=by
 intro Γ p cb hd;have WM:=cb.2.2.2.1 [] hg;have key:∀ x∈((Γ.code,p)::Γ.below),lH x.1=false∧x.1.isGuard=false:=by
  intro x hx;have h1:Γ.code.guards=[]∧guardsOf Γ.below=[]:=List.append_eq_nil_iff.mp WM;rcases cA.mp hx with rfl|hx
  ·refine ⟨hd.1,?_⟩;generalize hq:Γ.code.isGuard=zz;induction zz with
   | false=>rfl
   | true=>have:=h1.1;unfold Code.guards at this;rw [hq] at this;injection this
  ·refine ⟨hd.2 x hx,?_⟩;generalize hq:x.1.isGuard=zz;induction zz with
   | false=>rfl
   | true=>have:x.1∈guardsOf Γ.below:=jr.mpr ⟨aeg hx,hq⟩;rw [h1.2] at this;cases this
 unfold FI;rw [lV];show jN _ Γ (.stack .pure) _ _ p s;rw [Sem.wp_stack];show Q _ s;rw [show (List.any ((Γ.code,p)::Γ.below) _)=false from ?_]
 ·exact h
 ·rw [A_];intro x hx;obtain ⟨c,q⟩:=x;refine ad (key _ hx) fun k1 k2=>?_;show ¬ _=true;refine N9 _ ▸ ?_;induction c with
  | builtin id args=>
   have ne:∀ g,guardIds.contains g=true→id≠g:=fun g hg e=>cN ((XP k2).symm.trans (e ▸ hg));have n1:=ne "bytearray.__contains__" (by decide +kernel);have n2:=ne "bytearray.__mod__" (by decide +kernel);have n3:=ne "bytearray.__rmod__" (by decide +kernel);have n4:=ne "_struct.pack_into.held" (by decide +kernel);have n5:=ne "bytearray.find.held" (by decide +kernel);delta agp;dsimp only [FI._sparseCasesOn_1];refine dF n1 ?_;refine dF n2 ?_;refine dF n3 ?_;refine dF n4 ?_;refine dF n5 ?_;obtain ⟨l,kw⟩:=args;induction l using bj with
   | nil=>rfl
   | cons v r=>exact (congrArg (Bytes.sameRef v self&&·) (Z4 k1)).trans (xF _)
  | _=>rfl
def aa8{i:Int}{t:Tok}:Builtin.«bytearray.append» ⟨[.ref a,.int i t],[]⟩=(do
  let c←N3 (.int i t)
  N2 (.ref a)
  ae7 (.ref a) (·.push c)
  ret .none):=rfl
def aaU{i:Int}{t:Tok}(h0:0≤i)(h1:i < 256):N3 (.int i t)=pure i.toNat.toUInt8:=by unfold N3;rw [show asIndex (.int i t)=pure i from rfl,pure_bind,if_neg (by simp;exact And.intro h0 h1)]
def Q9{x:PV}{y:Value}{k:Nat}(ok:b0 k A)(st:af B A H σ s)(r:ah prog w B.Cl σ s.heap (.loc n) u)(rx:ah prog w B.Cl σ s.heap x y):aj B A s σ (pT n x H) (call (.builtin "bytearray.append") [u,y]) (VR B):=by
 refine J (oJ r) fun p z1=>?_;subst z1;intro hn;have no:∀ {r:R PV} {t:Sem Value},r=.no→aj B A s σ r t (VR B):=fun e V=>absurd e V;generalize hl:H[n]?=zz;induction zz using az with
 | none=>exact no (by delta pT;rw [hl])
 | some o=>
 induction o with
 | dW l=>
  generalize ei:(toInt x)=zz;induction zz using az with
  | none=>exact no (by delta pT;rw [hl];dsimp only;rw [ei])
  | some i=>
  refine lZ ei rx fun t=>?_;have eb:pT n (.int i) H=if 0≤i∧i < 256∧l.length < aC then .ok .none (H.set n (.dW (l++[i.toNat.toUInt8]))) else .no:=by delta pT;rw [hl];rfl
  rw [eb];refine .C1 fun bY=>?_;refine ad (st.inv.obj _ _ _ hl hn) fun hp e=>?_;refine fun _ Q E hq he=>oZ (En (plainId_quiet MF.yh.plain _) (by decide +kernel) (MF.yh.check _ _ _ _ _ _ _ _ ⟨_,e,rfl⟩ (MF.abs _ _) (Ag MF.ZA ?_)));rw [aa8,aaU bY.1 bY.2.1];refine au (ba (au ?_));unfold N2;refine au (au (Lg (by rw [Oc MF.yh.plain];exact ok.gd) ?_));show aT _ _ (do let n←N1 (.ref p.1);pure (decide (n > 0))) _ _ _;refine au (aZ ?_);show wpAny _ _ (load p.1>>=_) _ _ _;refine wpAny_bind (wpAny_load e (wpAny_pure (ba ?_)));rw [if_neg (by decide)];refine ba (au (aZ ?_));show wpAny _ _ (load p.1>>=_) _ _ _;refine wpAny_bind (wpAny_load e ?_);show wpAny _ _ (update p.1 (r6 fun z=>z.push i.toNat.toUInt8)>>=fun _=>lookBehind p.1) _ _ _;refine wpAny_bind (wpAny_update e ?_);have e':(s.heap.update p.1 (r6 fun z=>z.push i.toNat.toUInt8)).get? p.1=some {cls:=.type "bytearray",data:=.bytearray (l.toArray.push i.toNat.toUInt8) 0}:=by refine (k8 _ e ?_).trans ?_<;>rfl
  refine wpAny_lookBehind e' (by
   have:=bY.2.2;simp only [aC] at this;show (if (l.toArray.push i.toNat.toUInt8).size > sizeLine then _ else none)=none;rw [if_neg (by rw [afk,nH,sizeLine_eq];exact xT (bc (IW this)) rfl)]) ?_
  refine ba ?_;have hk:∀ b ob,b≠p.1→s.heap.get? b=some ob→(s.heap.update p.1 (r6 fun z=>z.push i.toNat.toUInt8)).get? b=some ob:=fun b ob hb h=>xB _ (Ne.symm hb) h;refine ad (st.set (o:=.dW (l++[i.toNat.toUInt8])) s.toks hn ⟨_,e'⟩ (by rw [hp];exact ⟨_,e'⟩) (fun b ob h1 _ h=>hk b ob h1 h) ⟨hp,by rw [e'];simp⟩) fun a b=>?_;exact hq _ _ _ _ σ rfl a .none b
 | _=>exact no (by delta pT;rw [hl])
def aaJ{newId Jw:String}{args:Qa}{Q₁:Value→Shared→Prop}(ft:TypeCalled T newId Jw)(W6:ac2 T ⟨args,[]⟩=pure ())(Wk:E7 (model prog w) A.in1 (.call (.builtin newId) ⟨.type T::args,[]⟩) (wants Q₁ E) s)(Wj:∀ obj aa,Q₁ obj aa→aa.TypeIs obj T∧dl (model prog w) A.in1 (.call (.builtin Jw) ⟨obj::args,[]⟩) (wants (fun r aP=>r=.none∧Q obj aP) E) aa):
  aT (model prog w) A (call (.type T) args) Q E s:=by
 refine eB ft.mro fun c tl Ws=>?_;have Wy:=ft.made;have JT:=ft.sub;refine oZ (lM ?_);show aT _ _ (callAny (.type T) _) _ _ _;refine ba ⟨FG _ (by decide +kernel),by show afd.contains "type.__call__"=false;decide +kernel,Ag entry_typeCall ?_⟩;rw [Around.under_plain (weight_type_call_type T args []) rfl];have h1:=ft.notType;have h2:=ft.canCreate;unfold Builtin.«type.__call__»;dsimp only;rw [if_neg (by rw [h1];exact cN)];rw [if_neg (by rw [h2];exact cN),W6];refine au (ba ?_);rw [Ws];refine au (ba ?_);rw [if_neg (by exact cN),Wy];refine au (ba ?_);refine au (ba ?_);refine au (cH (aZ (wpAny_call (codeAny_mono Wk fun r aa hr=>?_))));induction r with
 | error e=>exact hr
 | ok fl=>
  induction fl with
  | ret obj=>
   refine ad (Wj _ _ hr) fun hT vR=>?_;have fN:=ft.init.lookup;have Xk:=ft.init.bind obj;refine au (aZ (wpAny_isInstance hT JT ?_));rw [if_neg (show ¬ ((!true)=true) from cN)];refine au (cH ?_);unfold callSpecial?;refine au (aZ (wpAny_specialOf hT fN ?_));dsimp only;rw [Xk];refine cH (au (ba ?_));dsimp only;refine au (oZ (Em vR fun r s' z=>?_));rcases r with e|(v|_|_|_)<;>first|exact z|exact z.elim|skip
   refine ad z ?_;clear z;intro z0;subst z0;intro z;refine ba ?_;dsimp only;rw [if_neg (by decide)];exact ba z
  | _=>exact hr.elim
end
end
section
set_option backward.match.sparseCases true
open PySem Builtin
section
def GN:isSubtype (.type "bytearray") (.type "bytearray")=pure true:=by rw [nD];kernel_rfl
def aam{Q₁:Value→Shared→Prop}(h:Q₁ (.ref s.heap.objs.size) {s with heap:=s.heap.push {cls:=.type "bytearray",data:=.bytearray #[]}}):
  E7 (model prog w) A (.call (.builtin "bytearray.__new__") ⟨[.type "bytearray"],[]⟩) (wants Q₁ E) s:=by
 refine codeAny_of_tree ?_;show wpAny _ A.in1 (do checkBuiltinCall "bytearray.__new__" ⟨[.type "bytearray"],[]⟩;again (.builtin "bytearray.__new__" ⟨[.type "bytearray"],[]⟩)) _ _ s;refine wpAny_bind (wpAny_of_eq MF.Tt (wpAny_pure ⟨plainId_quiet MF.Eu.plain _,codeAny_builtin_stack MF.Zy rfl fun p st=>?_⟩));rw [Oc MF.Eu.plain _];have JT:=GN;have g7:=MF.SE;obtain ⟨hp,g,d,tk,os⟩:=s;simp only [g7]
 wp_walk
 exact h
def aaZ:Builtin.«bytearray.__init__» ⟨[.ref a],[]⟩=(do
  if←NZ (.ref a) then unsupported "bytearray.__init__:own-__release_buffer__-on-a-subclass"
  if←FI (.ref a) <||> (do return (←N1 (.ref a)) > 0) then
   if !(←afc (.ref a)).isEmpty then N2 (.ref a)
   unsupported "bytearray.__init__:exported"
  ae7 (.ref a) fun _=>#[]
  ret .none):=by rfl
def RV:typeLookup (.type "bytearray") (Na "__release_buffer__")=pure (some (.builtin "bytearray.__release_buffer__")):=by rw [ki,builtinLookup_eq_fast];kernel_rfl
set_option maxRecDepth 1000000 in
def RW:(!"bytearray.__release_buffer__".endsWith ("."++"__release_buffer__"))=false:=by decide +kernel
def RX:"bytearray.__release_buffer__".dropRight ("__release_buffer__".length + 1)="bytearray":=by decide +kernel
def SG{Q:Bool→Shared→Prop}(e:s.heap.get? a=some o)(hc:o.cls=.type "bytearray")(h:Q false s):wpAny M A (NZ (.ref a)) Q E s:=by have hT:s.TypeIs (.ref a) "bytearray":=⟨_,e,hc⟩;unfold NZ Bytes.slotIsOwn;refine wpAny_bind (wpAny_bind (wpAny_specialOf hT RV ?_));dsimp only;rw [RW,if_neg cN,RX];exact wpAny_isInstance hT GN (wpAny_pure h)
def aan{R:Result→Shared→Prop}(hg:A.guards=some [])(e:s.heap.get? a=some {cls:=.type "bytearray",data:=.bytearray #[] 0})(h:R (.ok (.ret .none)) {s with heap:=s.heap.update a (r6 fun _=>#[])}):
  dl (model prog w) A (.call (.builtin "bytearray.__init__") ⟨[.ref a],[]⟩) R s:=by
 refine En (plainId_quiet MF.yg.plain _) (by decide +kernel) (MF.yg.check _ _ _ _ _ _ _ _ ⟨_,e,rfl⟩ (MF.abr _) (Ag MF.Zz ?_));rw [aaZ,Oc MF.yg.plain];refine au (aZ (SG e rfl ?_));rw [if_neg cN];refine au (au (Lg hg ?_));show aT _ _ (do let n←N1 (.ref a);pure (decide (n > 0))) _ _ _;refine au (aZ ?_);show wpAny _ _ (load a>>=_) _ _ _;refine wpAny_bind (wpAny_load e (wpAny_pure (ba ?_)));rw [if_neg (by decide)];refine au (aZ ?_);show wpAny _ _ (load a>>=_) _ _ _;refine wpAny_bind (wpAny_load e ?_);show wpAny _ _ (update a (r6 fun _=>#[])>>=fun _=>lookBehind a) _ _ _;refine wpAny_bind (wpAny_update e ?_);have e':(s.heap.update a (r6 fun _=>#[])).get? a=some {cls:=.type "bytearray",data:=.bytearray #[] 0}:=by refine (k8 _ e ?_).trans ?_<;>rfl
 exact wpAny_lookBehind e' rfl (ba h)
def Q8{k:Nat}(ok:b0 k A)(st:af B A H σ s):aj B A s σ (.ok (.loc H.length) (H++[.dW []])) (call (.type "bytearray") []) (VR B):=by
 intro _ Q E V2 he;refine aaJ (Q₁:=fun v aa=>v=.ref s.heap.objs.size∧aa={s with heap:=s.heap.push {cls:=.type "bytearray",data:=.bytearray #[]}}) MF.Eu MF.O1 (aam ⟨rfl,rfl⟩) fun obj aa hq=>?_;refine ad hq fun z0=>?_;clear hq;subst z0;intro z1;subst z1;have gd:(s.heap.push {cls:=.type "bytearray",data:=.bytearray #[]}).get? s.heap.objs.size=some {cls:=.type "bytearray",data:=.bytearray #[]}:=eu _ rfl;refine ⟨⟨_,gd,rfl⟩,aan (s:={s with heap:=s.heap.push {cls:=.type "bytearray",data:=.bytearray #[]}}) ok.gd gd ⟨rfl,?_⟩⟩;have hk:∀ b ob,s.heap.get? b=some ob→((s.heap.push {cls:=.type "bytearray",data:=.bytearray #[]}).update s.heap.objs.size (r6 fun _=>#[])).get? b=some ob:=fun b ob e=>by
  refine (xB _ (fun q=>?_) (fh _ e));rw [←q,fA] at e;injection e
 have e':((s.heap.push {cls:=.type "bytearray",data:=.bytearray #[]}).update s.heap.objs.size (r6 fun _=>#[])).get? s.heap.objs.size=some {cls:=.type "bytearray",data:=.bytearray #[] 0}:=by refine (k8 _ gd ?_).trans ?_<;>rfl
 refine ad (st.push (o:=.dW []) (q:=(s.heap.objs.size,s.heap.objs.size)) s.toks hk (fA _) (fA _) ⟨_,e'⟩ ⟨_,e'⟩ ⟨rfl,e'⟩) fun a_ p0=>?_;exact V2 _ _ (.loc H.length) _ _ rfl a_ (.loc (p:=(s.heap.objs.size,s.heap.objs.size)) (by rw [←st.inv.len,gD (aS _)];simp)) p0
def acL{F:br}(fc:Facts B)(ok:F.Ok){id:Str}(gv:id="bytearray")(hx:F.env.kindOf id=some .globalImplicit):aV B O fu n F (.bi .dW .nil) (.Call (.Name id p) [] [] pos):=by
 subst gv;intro A s σ H sl aw st lo;refine ad (fc.rm "bytearray" (.type "bytearray") (by decide +kernel)) fun h1 h2=>?_;refine .mS (fun Q E h=>pP (aZ (tg st ok h1 h2 hx (by decide +kernel) h))) ?_;exact sP (O:=O) (fu:=fu) (g:=fun vs H=>nr .dW vs H) (first:=[]) rfl y6 (t6 (O:=O) (fu:=fu)) aw st lo (fun vs H₁ ax us aa av aU hl aI=>by
  obtain rfl:us=[]:=uz hl;induction vs using bj with
  | nil=>exact Q8 aw av
  | cons v vs=>injection aU.sz)
end
end
section
open PySem PySem.W PyProof.Rows
noncomputable def yp{α:Type}(n:Nat)(lt:Nat→Nat→Bool):KasT α→Option α
 | .ret a=>some a
 | .ask i j k=>if i < n∧j < n then yp n lt (k (lt i j)) else none
theorem Jg{α:Type}{n:Nat}{lt:Nat→Nat→Bool}{cmp:Nat→Nat→(Bool→Shared→Prop)→Shared→Prop}{s:Shared}(hc:∀ i j C,i < n→j < n→C (lt i j) s→cmp i j C s){Q:α→Shared→Prop}{a:α}:∀ (t:KasT α),yp n lt t=some a→Q a s→t.kasWp cmp Q s
 | .ret b,h,hq=>by (injection h with e1;subst e1);exact hq
 | .ask i j k,h,hq=>by
  by_cases j4:i < n∧j < n
  ·exact hc i j _ j4.1 j4.2 (Jg hc (k (lt i j)) ((if_pos j4).symm.trans h) hq)
  ·injection ((if_neg j4).symm.trans h)
noncomputable def jQ:Nat→List Qn
 | 0=>[[]]
 | n + 1=>(jQ n).flatMap fun v=>[0::v,1::v,2::v]
def OM:jQ (n + 1)=(jQ n).flatMap fun v=>[0::v,1::v,2::v]:=rfl
theorem IJ:∀ (v:Qn),(∀ x∈v,x≤2)→v∈jQ v.length
 | [],_=>bZ.mpr rfl
 | x::v,h=>by
  have ih:=IJ v fun y hy=>h y (bM _ hy);have hx:=h x (bC ..);rw [kl,OM,NB];refine ⟨v,ih,?_⟩
  match x,hx with
  | 0,_=>simp
  | 1,_=>simp
  | 2,_=>simp
noncomputable def yU(d:Qn)(i j:Nat):Bool:=um (d.getD i 0) (d.getD j 0)||(cf (d.getD i 0) (d.getD j 0)&&um i j)
noncomputable def mr(d:Qn):Qn:=(dR d.length).filter (fun i=>cf (d.getD i 0) 0)++((dR d.length).filter (fun i=>cf (d.getD i 0) 1)++(dR d.length).filter (fun i=>cf (d.getD i 0) 2))
def Ih(d:Qn):Bool:=match yp d.length (yU d) (kas_sort d.length) with
 | some p=>p.toList==mr d
 | none=>false
def jQz:=jQ 1++(jQ 2++(jQ 3++(jQ 4++jQ 5)))
def Ry0:(jQz.all fun v=>Ih (0::v))=true:=by kernel_rfl
def Ry1:(jQz.all fun v=>Ih (1::v))=true:=by kernel_rfl
def Ry2:(jQz.all fun v=>Ih (2::v))=true:=by kernel_rfl
set_option tactic.hygienic true in
def Rx{d:Qn}(h2:2≤d.length)(h6:d.length≤6)(hd:∀ x∈d,x≤2):∃ p,yp d.length (yU d) (kas_sort d.length)=some p∧p.toList=mr d:=by
 have h:Ih d=true:=by
  induction d using bj with
  | nil=>cases h2
  | cons x v=>
   have hm:=IJ v fun y hy=>hd y (bM _ hy);rw [kl] at h2 h6;have:v∈jQz:=by simp only [jQz,cy];rcases (by lia:v.length=1∨v.length=2∨v.length=3∨v.length=4∨v.length=5) with h|h|h|h|h<;>rw [h] at hm<;>simp [hm]
   match x,hd x (bC ..) with
   | 0,_=>exact oU.mp Ry0 v this
   | 1,_=>exact oU.mp Ry1 v this
   | 2,_=>exact oU.mp Ry2 v this
 unfold Ih at h
 split at h
 ·rename_i p hp;exact ⟨p,hp,by simpa using h⟩
 ·injection h
end
section
set_option backward.match.sparseCases true
open PySem PySem.W PyProof.Rows
section
def Ie{x y:Int}{t u:Tok}{Q:Bool→Shared→Prop}(h:Q (decide (x < y)) s):wpAny (model prog w) A (oneLt' b (.int x t) (.int y u)) Q E s:=by
 induction b with
 | true=>exact oneLt_int h
 | false=>refine kat_one _ _ (wpAny_lt_int ?_);exact h
def abf{x y:Addr}{rJ pR a₂ tV:Int}{nO OR cj OQ:Tok}{k:Nat}{Q:Bool→Shared→Prop}(hx:s.heap.get? x=some {cls:=.type "tuple",data:=.seq #[.int rJ nO,.int pR OR] n})(hy:s.heap.get? y=some {cls:=.type "tuple",data:=.seq #[.int a₂ cj,.int tV OQ] k})(h:Q (decide (rJ < a₂∨(rJ=a₂∧pR < tV))) s):wpAny (model prog w) A (keyLt' (tuples' true) (.ref x) (.ref y)) Q E s:=by
 refine kat_lt hx rfl hy rfl (kat_cons (wpAny_eqBool_int ?_));by_cases e:rJ=a₂
 ·subst e;rw [show (rJ==rJ)=true by simp];refine kat_yes (kat_cons (wpAny_eqBool_int ?_));by_cases e:pR=tV
  ·subst e;rw [show (pR==pR)=true by simp];refine kat_yes (kat_nil ?_);simpa using h
  ·rw [show (pR==tV)=false by simp [e]];refine kat_no (Ie ?_);simpa using h
 ·rw [show (rJ==a₂)=false by simp [e]];refine kat_no (Ie ?_);simpa [e] using h
def Qj{vs:Qa}{out:Qa}{P:PySem.Fin→Shared→Prop}(ho:s.heap.get? a=some {cls:=.type "list",data:=.seq vs.toArray n})(wk:vs.length < 64)(J2:vs.length < 2→out=vs)(h2:2≤vs.length→∀ h',(∀ b o,b≠a→s.heap.get? b=some o→h'.get? b=some o)→wpAny (model prog w) A (keyKind' vs.toArray) (fun κ s'=>s'={s with heap:=h'}∧(kas_sort vs.length).kasWp (kas_ask prog w A κ vs) (fun p gW=>gW={s with heap:=h'}∧p.toList.map (fun i=>vs.getD i Value.none)=out) s') (fun _ _=>False) {s with heap:=h'})(h:∀ h' c,(∀ b o,b≠a→s.heap.get? b=some o→h'.get? b=some o)→h'.get? a=some {cls:=.type "list",data:=.seq out.toArray c}→P (.done (.ret .none)) {s with heap:=h'}):
  wpAny (model prog w) A (Builtin.«list.sort» ⟨[.ref a],[]⟩) P E s:=by
 have ha:a < s.heap.objs.size:=kn ho;have s1:=NV s.heap a (mK fun _=>(#[]:Qv));obtain ⟨e1,J5⟩:∃ e1,(s.heap.update a (mK fun _=>(#[]:Qv))).get? a=some (seqObj "list" #[] e1):=⟨_,get?_update_seq ho fun _=>#[]⟩;rw [list_sort_plain];refine wpAny_bind (listItems_at ho rfl ?_);refine wpAny_bind (listUpdate_at ho rfl ?_ (by rw [nH,sizeLine_eq];exact aq (gb wk) rfl) (cE _));refine wpAny_bind (seqEpoch_at J5 rfl ?_);refine wpAny_bind (wpAny_newTuple ?_ (by show vs.length≤_;rw [sizeLine_eq];exact aq (gb wk) rfl));refine wpAny_bind (wpAny_newList ?_ (cE _));refine wpAny_holding ?_;have tD:∀ b o,b≠a→s.heap.get? b=some o→(((s.heap.update a (mK fun _=>(#[]:Qv))).push (seqObj "tuple" vs.toArray 0)).push (seqObj "list" #[] 0)).get? b=some o:=fun b o hb e=>
  fh _ (fh _ (xB _ (Ne.symm hb) e))
 have m8:(((s.heap.update a (mK fun _=>(#[]:Qv))).push (seqObj "tuple" vs.toArray 0)).push (seqObj "list" #[] 0)).get? a=some (seqObj "list" #[] e1):=fh _ (fh _ J5);generalize ((s.heap.update a (mK fun _=>(#[]:Qv))).push (seqObj "tuple" vs.toArray 0)).push (seqObj "list" #[] 0)=b6 at tD m8⊢;have tail:∀ {a_:SortSt},(arrOf a_).map (·.2)=out.toArray→M5 a_=none→out.length < 64→wpAny (model prog w) A (do
   let touched:=(←seqEpoch a) != e1
   ags (.ref a) fun _=>(arrOf a_).map (·.2)
   if let some e:=M5 a_ then rule "list.sort.comparison-raised";throw e
   if touched then rule "list.sort.modified";raiseError "ValueError" "list modified during sort"
   ret .none) P E {s with heap:=b6}:=fun {a_} hs hf hz=>by
  rw [hs];refine wpAny_bind (seqEpoch_at (s:={s with heap:=b6}) m8 rfl ?_);have Xh:=get?_update_seq m8 fun _=>out.toArray;refine wpAny_bind (listUpdate_at (s:={s with heap:=b6}) m8 rfl ?_ (cE _) (by rw [nH,sizeLine_eq];exact aq (gb hz) rfl));rw [hf];simp only [bne_self_eq_false,uH,if_false];exact wpAny_pure (h _ _ (fun b o hb e=>xB _ (Ne.symm hb) (tD b o hb e)) Xh)
 by_cases my:vs.toArray.size < 2
 ·rw [if_pos my,if_pos my];have hv:vs.length < 2:=my;refine wpAny_bind (wpAny_pure (wpAny_bind (m:=(pure ():StateT SortSt Sem Unit).run _) (wpAny_pure ?_)));refine tail ?_ rfl (by rw [J2 hv];exact wk);rw [J2 hv];apply Oa.mp;simp [List.map_snd_zip]
 ·rw [if_neg my,if_neg my];have hv:2≤vs.length:=by simp at my;exact my
  refine wpAny_bind (wpAny_mono (h2 hv b6 tD) (fun κ s0 hk=>?_) fun _ _ x=>x.elim);refine ad hk ?_;clear hk;intro z0;subst z0;intro hk;refine wpAny_bind (wpAny_mono (kat_run (Q:=fun a_ s'=>s'={s with heap:=b6}∧(arrOf a_).map (·.2)=out.toArray∧M5 a_=none∧out.length < 64)
   rfl hv wk (fun p' a_ s' a1 a2 a3 a4=>⟨a4.1,by rw [kat_snds rfl a2,a4.2],a3,by rw [←a4.2];simp [a1,wk]⟩) hk) ?_ fun _ _ e=>e)
  rintro ⟨⟨⟩,a_⟩ s' ⟨rfl,hs,hf,hz⟩;exact tail hs hf hz
noncomputable def pf(p:Int×Int):PV:=.tup [.int p.1,.int p.2]
def U9{p:Int×Int}(h:qW v=some p):v=pf p:=by
 induction v using PV.casesOn with
 | tup l=>
  induction l using bj with
  | nil=>injection h
  | cons a l=>
   induction a using PV.casesOn with
   | int i=>
    induction l using bj with
    | nil=>injection h
    | cons b l=>
     induction b using PV.casesOn with
     | int j=>
      induction l using bj with
      | nil=>(injection h with e1;subst e1);rfl
      | cons c l=>injection h
     | _=>injection h
   | _=>injection h
 | _=>injection h
def Sw{ps:List (Int×Int)}(h:eR (l.map qW)=some ps):l=ps.map pf:=by
 induction l generalizing ps with
 | nil=>(injection h with e1;subst e1);rfl
 | cons v l ih=>
  rw [da] at h;generalize hv:(qW v)=zz;induction zz using az with
  | none=>rw [hv] at h;injection h
  | some p=>rw [hv] at h;refine J (dG.mp h) fun HS h' z2=>?_;subst z2;rw [U9 hv,ih h'];rfl
def list_range(z:Int×Int)(ps:List (Int×Int)):ps=(dR ps.length).map (fun i=>ps.getD i z):=by refine List.ext_getElem (by simp) fun i h1 h2=>?_;simp [h1]
def Yo(z:Int×Int)(ps:List (Int×Int))(q:Int×Int→Bool):ps.filter q=((dR ps.length).filter (fun i=>q (ps.getD i z))).map (fun i=>ps.getD i z):=by
 conv=>lhs;rw [list_range z ps]
 refine (Fy).trans ?_;rfl
def SI{ps:List (Int×Int)}(h:∀ p∈ps,0≤p.1∧p.1≤2):qN ps=(mr (ps.map fun p=>p.1.toNat)).map fun i=>ps.getD i (0,0):=by
 have key:∀ c:Nat,ps.filter (fun p=>decide (p.1=(c:Int)))=((dR ps.length).filter (fun i=>cf ((ps.map fun p=>p.1.toNat).getD i 0) c)).map fun i=>ps.getD i (0,0):=fun c=>by
  rw [Yo (0,0) ps];congr 1;refine aev fun i hi=>?_;have gK:i < ps.length:=by simpa using hi
  have hp:=h ps[i] (nJ _);simp only [A7,km,p_ gK,ud,Option.getD_some];rw [qe,decide_eq_true_eq,ad1];exact ⟨fun q=>congrArg Int.toNat q,fun q=>(aeI hp.1).symm.trans (congrArg Nat.cast q)⟩
 delta qN mr;rw [nI,nI,aQ];rw [←key 0,←key 1,←key 2];rfl
def Vp{d:Qn}(h:i∈mr d):i < d.length:=by simp only [mr,cy,jr,List.mem_range] at h;rcases h with h|h|h<;>exact h.1
def SN{ps:List (Int×Int)}(h:ta ps=true):ps.length≤6∧(∀ p∈ps,0≤p.1∧p.1≤2)∧ps.Pairwise fun p q=>p.2 < q.2:=by simp only [ta,i8,decide_eq_true_eq,oU] at h;exact ⟨h.1.1,h.1.2,h.2⟩
set_option tactic.hygienic true in
def Sy{ps:List (Int×Int)}(r:aK prog w B.Cl σ h (ps.map pf) us)(hi:i < ps.length):
  ∃ x t u n,us.getD i .none=.ref x∧h.get? x=some {cls:=.type "tuple",data:=.seq #[.int ps[i].1 t,.int ps[i].2 u] n}:=by
 have hl:(ps.map pf)[i]?=some (pf ps[i]):=by simp [hi]
 refine J (r.get hl) fun u hu ru=>?_;rw [A7,hu];cases ru with
 | tup e no sz all=>
  rename_i a dX n';have hs:dX.size=2:=sz.symm;have h0:=all 0 (.int ps[i].1) dX[0] rfl (by simp [hs]);have h1:=all 1 (.int ps[i].2) dX[1] rfl (by simp [hs]);have e0:∃ t,dX[0]=.int ps[i].1 t:=by generalize dX[0]=z at h0;cases h0;exact ⟨_,rfl⟩
  have e1:∃ t,dX[1]=.int ps[i].2 t:=by generalize dX[1]=z at h1;cases h1;exact ⟨_,rfl⟩
  (refine ay e0 ?_;clear e0;intro t e0);refine ay e1 ?_;clear e1;intro t' e1
  refine ⟨a,t,t',n',rfl,?_⟩;refine (e).trans ?_;congr 3;refine Array.ext (by simp [hs]) fun j h1 h2=>?_
  match j with
  | 0=>exact e0
  | 1=>exact e1
  | j + 2=>lia
def O6(ps:List (Int×Int)):∀ (us:Qa),us.length=ps.length→(∀ (i:Nat) (hi:i < ps.length),∃ x t u n,us.getD i .none=.ref x∧h.get? x=some {cls:=.type "tuple",data:=.seq #[.int ps[i].1 t,.int ps[i].2 u] n})→
  ∃ fs,KatTups h us fs∧fs.length=ps.length∧∀ f∈fs,∃ i t,f=.int i t:=by
 induction ps with
 | nil=>intro us hl _;obtain rfl:=NH.mp hl;exact ⟨[],.nil,rfl,fun _ h=>nomatch h⟩
 | cons p ps ih=>
  intro us hl hx;induction us using bj with
  | nil=>injection hl
  | cons u us=>
   refine ci (ih us (Nat.succ.inj hl) fun i hi=>hx (i + 1) (Nat.succ_lt_succ hi)) fun fs h1 h2 h3=>?_;refine uJ (hx 0 (Ff _)) fun x t t' n e1 e2=>?_;obtain rfl:u=.ref x:=e1;exact ⟨_::fs,KatTups.cons e2 rfl rfl rfl h1,congrArg (· + 1) h2,fun f hf=>by
    rcases cA.mp hf with rfl|hf
    ·exact ⟨_,_,rfl⟩
    ·exact h3 f hf⟩
def Vo{ps:List (Int×Int)}(kK:ps.length < 2)(hd:∀ p∈ps,0≤p.1∧p.1≤2)(j2:us.length=ps.length):(mr (ps.map fun p=>p.1.toNat)).map (fun i=>us.getD i .none)=us:=by
 induction ps using bj with
 | nil=>rw [NH.mp j2];rfl
 | cons q ps=>induction ps using bj with
  | cons _ _=>exact absurd kK (by show ¬ _ + 1 + 1 < 2;exact xT (aS _) rfl)
  | nil=>
   have hq:=hd q (bC ..);have:mr [q.1.toNat]=[0]:=by rcases (by lia:q.1.toNat=0∨q.1.toNat=1∨q.1.toNat=2) with h|h|h<;>rw [h]<;>rfl
   rw [da,A3,this];refine ay (NI.mp j2) fun v z1=>?_;subst z1;rfl
def T7{a b c d:Int}(ha:0≤a∧a≤2)(hb:0≤b∧b≤2)(h:c < d↔i < j):decide (a < b∨(a=b∧c < d))=(um a.toNat b.toNat||(cf a.toNat b.toNat&&um i j)):=by refine ay (NU ha.1) fun n z1=>?_;subst z1;refine ay (NU hb.1) fun m z1=>?_;subst z1;show _=(um n m||(cf n m&&um i j));rw [qe,decide_eq_true_eq,Bh,i8,ad1,ad0,ad0,h,xy,Int.ofNat_inj]
def RQ{ps:List (Int×Int)}(hd:∀ p∈ps,0≤p.1∧p.1≤2)(j2:us.length=ps.length)(rs:aK prog w B.Cl σ h (ps.map pf) us):
  aK prog w B.Cl σ h ((qN ps).map pf) ((mr (ps.map fun p=>p.1.toNat)).map fun i=>us.getD i .none):=by
 rw [SI hd,ju];refine ⟨by rw [aQ,aQ],fun i v u a b=>?_⟩;rw [km] at a b;generalize hi:(mr (ps.map fun p=>p.1.toNat))[i]?=zz;induction zz using az with
 | none=>rw [hi] at a;injection a
 | some j=>
  rw [hi] at a b;have hj:=Vp (jP hi);rw [aQ] at hj
  (injection a with e1;subst e1);(injection b with e1;subst e1)
  refine rs.all j _ _ (by simp [hj]) ?_;show us[j]?=some (us.getD j Value.none);rw [A7,p_ (j2 ▸ hj)];rfl
def T6{ps:List (Int×Int)}(hd:∀ p∈ps,0≤p.1∧p.1≤2)(zr:ps.Pairwise fun p q=>p.2 < q.2)(hi:i < ps.length)(hj:j < ps.length):decide (ps[i].1 < ps[j].1∨(ps[i].1=ps[j].1∧ps[i].2 < ps[j].2))=yU (ps.map fun p=>p.1.toNat) i j:=by
 have WI:ps[i].2 < ps[j].2↔i < j:=by
  rcases Nat.lt_trichotomy i j with h|h|h
  ·exact ⟨fun _=>h,fun _=>aec.mp zr i j hi hj h⟩
  ·subst h;exact ⟨fun q=>absurd q (aeN _),fun q=>absurd q (xq _)⟩
  ·exact ⟨fun q=>absurd (FC q (aec.mp zr j i hj hi h)) (aeN _),fun q=>absurd (Nv q h) (xq _)⟩
 refine (T7 (hd ps[i] (nJ _)) (hd ps[j] (nJ _)) WI).trans ?_;delta yU;rw [A7,A7,km,km,p_ hi,p_ hj];rfl
def QC(st:af B A H σ s)(r:ah prog w B.Cl σ s.heap (.loc n) u):bp B A s σ (ye n H) (call (.builtin "list.sort") [u]) (VR B):=by
 refine J (oJ r) fun p z1=>?_;subst z1;intro hn;refine .wO fun l hl=>?_;refine ad (tX st hn hl) fun hp z2=>?_;refine bx z2 fun us k e rs hs=>?_;clear z2;generalize fv:(eR (l.map qW))=zz;induction zz using az with
 | none=>exact .no
 | some ps=>
 obtain rfl:=Sw fv;refine .ite fun q6 _ Q E hQ he=>?_;refine cG (SN q6) fun h6 hd zr=>?_;have j2:us.toList.length=ps.length:=hs.trans (aQ _);have Dr:(ps.map fun p=>p.1.toNat).length=ps.length:=aQ _;have hd2:∀ x∈(ps.map fun p=>p.1.toNat),x≤2:=fun x hx=>by
  refine J (b7.mp hx) fun q hq z2=>?_;subst z2;exact aeJ.mpr (hd q hq).2
 refine wpAny_call_entry aeV ⟨_,e,rfl⟩ F.entry_list_sort ?_ (agj _);refine Qj (out:=(mr (ps.map fun p=>p.1.toNat)).map fun i=>us.toList.getD i .none) (show s.heap.get? p.1=some {cls:=.type "list",data:=.seq us.toList.toArray k} from e) (by exact iI (aB (dM j2) h6) rfl) (fun kK=>Vo (j2 ▸ kK) hd j2) (fun h2 h' hk=>?_) (fun h' c hk hq=>?_)
 ·have DB:∀ (i:Nat) (hi:i < ps.length),∃ x t u n,us.toList.getD i .none=.ref x∧h'.get? x=some {cls:=.type "tuple",data:=.seq #[.int ps[i].1 t,.int ps[i].2 u] n}:=fun i hi=>by
   refine uJ (Sy rs hi) fun x t u n e1 e2=>?_;exact ⟨x,t,u,n,e1,hk x _ (fun q=>by (rw [q,e] at e2;simp at e2)) e2⟩
  refine ci (O6 ps us.toList j2 DB) fun fs t1 t2 t3=>?_;refine kat_kind (s:={s with heap:=h'}) (T:=.type "int") t1 (by lia) (fun v hv=>?_) (by decide) ⟨rfl,?_⟩
  ·(refine eB (t3 v hv) fun i t z2=>?_;subst z2);exact Looks.of_pure rfl
  ·refine J (Rx (d:=ps.map fun p=>p.1.toNat) (by rw [Dr];lia) (by rw [Dr];exact h6) hd2) fun q JX Dd=>?_;rw [Dr,←j2] at JX;refine Jg (fun i j C hi hj hC=>?_) _ JX ⟨rfl,by rw [Dd]⟩;rw [j2] at hi hj;refine uJ (DB i hi) fun x t u n e1 e2=>?_;refine uJ (DB j hj) fun x' t' u' n' wF wE=>?_;delta kas_ask;rw [e1,wF];exact abf (s:={s with heap:=h'}) e2 wE (by rw [T6 hd zr hi hj];exact hC)
 ·refine ⟨_,rfl,?_⟩;have P:=Cc (σ:=σ) hn ⟨_,hq⟩ hk;refine ad (st.set s.toks hn ⟨_,hq⟩ (by rw [hp];exact ⟨_,hq⟩) (fun b ob h1 _ h=>hk b ob h1 h) (o:=.list ((qN ps).map pf)) ⟨hp,_,_,hq,RQ hd j2 (rs.b_ P)⟩) fun a b=>?_;exact hQ _ _ _ _ σ rfl a .none b
end
end
section
open PySem
section
variable {F:br}
def aco{a:PE}{kd:Nat}{k q':Pos}(ha:aV B O fu n F a ea):aV B O fu n F (.rev mm a) (.Subscript ea (.Slice none none (some (.UnaryOp .USub (.Constant (.int 1) kd k) q)) q') pos):=by
 intro A s σ H sl ok st lo;rw [E8];refine aj.bind (ha A s σ H sl ok st lo) fun u H₁ ax x aa _ av aU aI=>?_;rw [ac7];have Wl:aV B O fu n F (.neg (.i 1)) (.UnaryOp .USub (.Constant (.int 1) kd k) q):=MU MV;intro V Q E hq he;refine au (cH (au (ba (au (cH (ba (au (cH (Wl A aa ax H₁ sl ok av (lo.next st aI) (fun q=>nomatch q) _ _ (fun ul aP v ag bt ev aM dP bJ=>?_) fun e s' H' σ' e'=>nomatch e')))))))))
 (injection ev with e1 e2;subst e1 e2)
 cases dP;exact aZ (wpAny_mono (QE (a:=none) (q:=q) (.int (-1) _) aM (aU.b_ bJ) V Q E (fR.next hq bJ)) (fun _ _ h=>aZ h) fun _ _ h=>h)
def acO(fc:Facts B)(ok:F.Ok){kd:Nat}{id:Str}(gv:id="MATCHING_CLASSES")(hx:F.env.kindOf id=some .globalImplicit):aV B O fu n F .rL (.Subscript (.Name id p) (.Constant (.bytes [97,108,110,117,109]) kd q) pos):=by subst gv;intro A s σ H sl aw st lo _ Q E hq he;refine cO fc.rL fun d o h1 h2 h3 h4=>?_;rw [E8];refine aZ (wpAny_bind (td st ok h1 hx (by decide +kernel) (wpAny_bind (wpAny_holding (adB ?_)))));have a_:=st.tok (s.toks + 1);have hT:Shared.TypeIs {s with toks:=s.toks + 1} (.ref d) "dict":=⟨o,st.keep d o h2,h3⟩;refine o5 (s:={s with toks:=s.toks + 1}) slot_dict_getitem.lookup hT (h4 A _ σ H _ _ _ a_ fun u k r=>hq _ _ _ H σ rfl (a_.tok k) r (.refl _ _))
noncomputable def EE:BM→String
 | .append|.extend|.pop|.sort=>"list"|.nt=>"bytearray"|.get=>"dict"|.pq=>"str"|_=>"bytes"
theorem aaY(b:BM):nE (EE b) (EF b) (idOf b):=by
 induction b
 ·exact aeY
 ·exact MF.yh
 ·exact aeX
 ·exact aeW
 ·exact aeV
 ·exact ae0
 ·exact MF.Hb
 ·exact MF.G9
 ·exact MF.Hc
 ·exact adu
 ·exact adv
 ·exact MF.G_
 ·exact MF.G8
 ·exact MF.G7
 ·exact MF.Ha
 ·exact F.slot_str_join
theorem aaX(b:BM):typeOf (.builtin (idOf b))=pure (.type "method_descriptor"):=by
 induction b
 ·exact F.type_list_append
 ·exact MF.OZ
 ·exact F.type_list_extend
 ·exact F.type_list_pop
 ·exact F.type_list_sort
 ·exact F.type_dict_get
 ·exact MF.OX
 ·exact MF.OU
 ·exact MF.OY
 ·exact af4
 ·exact af5
 ·exact MF.OV
 ·exact MF.OT
 ·exact MF.OS
 ·exact MF.OW
 ·exact F.type_str_join
theorem bm_plain(b:BM):PlainAttrs (EE b):=by induction b<;>first|exact F.plainAttrs_list|exact MF.So|exact F.plainAttrs_dict|exact af6|exact F.plainAttrs_str
def TB(h:(match v with|.loc n=>(match H[n]? with|some (.list _)=>true|_=>false)|_=>false)=true):∃ n l,v=.loc n∧H[n]?=some (.list l):=by
 induction v using PV.casesOn with
 | loc n=>
  replace h:(match H[n]? with|some (.list _)=>true|_=>false)=true:=h;generalize e:H[n]?=zz;induction zz using az with
  | none=>rw [e] at h;injection h
  | some o=>rw [e] at h;induction o with|list l=>exact ⟨n,l,rfl,e⟩|_=>injection h
 | _=>injection h
def TC(h:(match v with|.loc n=>(match H[n]? with|some (.dW _)=>true|_=>false)|_=>false)=true):∃ n l,v=.loc n∧H[n]?=some (.dW l):=by
 induction v using PV.casesOn with
 | loc n=>
  replace h:(match H[n]? with|some (.dW _)=>true|_=>false)=true:=h;generalize e:H[n]?=zz;induction zz using az with
  | none=>rw [e] at h;injection h
  | some o=>rw [e] at h;induction o with|dW l=>exact ⟨n,l,rfl,e⟩|_=>injection h
 | _=>injection h
def TE{b:BM}(st:af B A H σ s)(r:ah prog w B.Cl σ s.heap v u)(h:jZ b v H=true):s.TypeIs u (EE b)∧∀ a,u=.ref a→∃ o,s.heap.get? a=some o∧o.dict=none:=by
 have hl:∀ n l,v=.loc n→H[n]?=some (.list l)→s.TypeIs u "list"∧∀ a,u=.ref a→∃ o,s.heap.get? a=some o∧o.dict=none:=fun n l hv hl=>by
  subst hv;refine J (oJ r) fun p z1=>?_;subst z1;intro hn;refine ad (tX st hn hl) fun hp z2=>?_;refine bx z2 fun us k e rs hs=>?_;clear z2;exact ⟨⟨_,e,rfl⟩,fun a ha=>by (injection ha with e1;subst e1);exact ⟨_,e,rfl⟩⟩
 have Xi:(cP v).isSome=true→s.TypeIs u "bytes"∧∀ a,u=.ref a→∃ o,s.heap.get? a=some o∧o.dict=none:=fun hv=>by
  refine ay (ue.mp hv) fun x hx=>?_;refine jy hx r fun t=>?_;exact ⟨oN _ _ _,fun a ha=>nomatch ha⟩
 have fN:jZ .append v H=true→s.TypeIs u "list"∧∀ a,u=.ref a→∃ o,s.heap.get? a=some o∧o.dict=none:=fun h=>by
  refine ch (TB h) fun n l e1 e2=>?_;exact hl n l e1 e2
 induction b with
 | append=>exact fN h
 | extend=>exact fN h
 | pop=>exact fN h
 | sort=>exact fN h
 | nt=>refine ch (TC h) fun n l z2=>?_;subst z2;intro jH;refine J (oJ r) fun p z1=>?_;subst z1;intro hn;refine ad (st.inv.obj _ _ _ jH hn) fun _ e=>?_;exact ⟨⟨_,e,rfl⟩,fun a ha=>by (injection ha with e1;subst e1);exact ⟨_,e,rfl⟩⟩
 | get=>refine ay (ue.mp h) fun l e=>?_;refine cO (tY st e r) fun a kvs z2=>?_;subst z2;intro sm ed rk;refine dS ed fun o es ep h1 h2 _=>?_;clear ed;exact ⟨⟨o,h1,h2.1⟩,fun a' ha=>by (injection ha with e1;subst e1);exact ⟨o,h1,h2.2.1⟩⟩
 | pq=>refine ay (ue.mp h) fun x hx=>?_;refine qp hx r fun t=>?_;exact ⟨typeIs_str _ _ _,fun a ha=>nomatch ha⟩
 | _=>exact Xi h
def RM(r:aK prog w B.Cl σ h [v,v'] us):∃ u u',us=[u,u']∧ah prog w B.Cl σ h v u∧ah prog w B.Cl σ h v' u':=by refine bx r.cons_inv fun u dX z2=>?_;subst z2;intro h1 h2;refine J (nV h2) fun u' z1=>?_;subst z1;intro h3;exact ⟨u,u',rfl,h1,h3⟩
def Pn(h:gj v=some n):v=.loc n:=Bx h
def aaT(h:bytesOf l=some [y,z]):l=[.bytes y,.bytes z]:=by
 have SM:∀ (v:PV),(match v with|.bytes b=>some b|_=>.none)=some y→v=.bytes y:=fun v e=>by induction v using PV.casesOn<;>first|(injection e;done)|(injection e with e1;subst e1;rfl)
 have O5:∀ (v:PV),(match v with|.bytes b=>some b|_=>.none)=some z→v=.bytes z:=fun v e=>by induction v using PV.casesOn<;>first|(injection e;done)|(injection e with e1;subst e1;rfl)
 refine ad (EQ h) fun h1 h2=>?_;have hl:l.length=2:=h1.symm
 match l,hl with
 | [a,b],_=>
  refine J (h2 0 y rfl) fun nN e1 e2=>?_;refine J (h2 1 z rfl) fun OL e3 e4=>?_
  (injection e1 with e1;subst e1);(injection e3 with e1;subst e1)
  rw [SM _ e2,O5 _ e4]
theorem aj.both{α β:Type}{oa:Option α}{ob:Option β}{f:α→β→R PV}{t:Sem Value}{Rr:Sg→Heap→PV→Value→Prop}(h:∀ a b,oa=some a→ob=some b→aj B A s σ (f a b) t Rr):aj B A s σ (both oa ob f) t Rr:=by
 induction oa using az with
 | none=>exact aj.no
 | some a=>induction ob using az with
  | none=>exact aj.no
  | some b=>exact h a b rfl rfl
def vn{oa:Option α}{f:α→PV→R PV}{id:String}{x:Value}{Rr:Sg→Heap→PV→Value→Prop}(rs:aK prog w B.Cl σ s.heap vs us)(h:∀ a v y,oa=some a→ah prog w B.Cl σ s.heap v y→aj B A s σ (f a v) (call (.builtin id) [x,y]) Rr):
  aj B A s σ (mH.both oa (one vs) f) (call (.builtin id) ([x]++us)) Rr:=aj.both fun a v ha hv=>by
 obtain rfl:=n7 hv;refine J (nV rs) fun y z1=>?_;subst z1;intro ry;exact h a v y ha ry
def IT{oa:Option Nat}{f:Nat→R PV}{id:String}{x:Value}{Rr:Sg→Heap→PV→Value→Prop}(rs:aK prog w B.Cl σ s.heap vs us)(h:∀ a,oa=some a→aj B A s σ (f a) (call (.builtin id) [x]) Rr):
  aj B A s σ (ED oa vs f) (call (.builtin id) ([x]++us)) Rr:=by
 induction oa using az with
 | none=>exact aj.no
 | some a=>induction vs using bj with
  | nil=>obtain rfl:=rs.nil_inv;exact h a rfl
  | cons _ _=>exact aj.no
def O4{p:Qy×Qy}(h:Gs (bytesOf l)=some p):l=[.bytes p.1,.bytes p.2]:=by
 generalize e:(bytesOf l)=zz;induction zz using az with
 | none=>rw [e] at h;injection h
 | some k=>
  rw [e] at h;induction k using bj with
  | nil=>injection h
  | cons y k=>induction k using bj with
   | nil=>injection h
   | cons z k=>induction k using bj with
    | nil=>(injection h with e1;subst e1);exact aaT e
    | cons _ _=>injection h
def QP{b:BM}{u:PV}{x:Value}{k:Nat}(ok:b0 k A)(st:af B A H σ s)(r:ah prog w B.Cl σ s.heap u x)(rs:aK prog w B.Cl σ s.heap vs us):
  aj B A s σ (dv b u vs H) (call (.builtin (idOf b)) ([x]++us)) (VR B):=by
 have loc:∀ {n},gj u=some n→ah prog w B.Cl σ s.heap (.loc n) x:=fun h=>Pn h ▸ r;have gen:dv b u vs H=mH.both (cP u) ((one vs).bind cP) (fun x y=>lN b x y H)→aj B A s σ (dv b u vs H) (call (.builtin (idOf b)) ([x]++us)) (VR B):=fun e=>by
  rw [e];refine aj.both fun a c ha hc=>?_;refine J (bO hc) fun v e ei=>?_;obtain rfl:=n7 e;refine J (nV rs) fun y' z1=>?_;subst z1;intro ry;refine jy ha r fun t=>?_;refine jy ei ry fun t'=>?_;exact (Q4 st).g
 induction b with
 | append=>exact vn (oa:=gj u) (f:=fun n v=>wQ n v H) rs fun n v y h ry=>(Q_ st (loc h) ry).g
 | nt=>exact vn (oa:=gj u) (f:=fun n v=>pT n v H) rs fun n v y h ry=>Q9 ok st (loc h) ry
 | extend=>exact vn (oa:=gj u) (f:=fun n v=>D9 n v H) rs fun n v y h ry=>(QZ st (loc h) ry).g
 | pop=>exact IT (oa:=gj u) (f:=fun n=>u9 n H) rs fun n h=>(QG st (loc h)).g
 | sort=>exact IT (oa:=gj u) (f:=fun n=>ye n H) rs fun n h=>(QC st (loc h)).g
 | get=>show aj B A s σ (mH.both (dZ u H) ((one vs).bind toStr) (fun l k=>R.ok ((look k l).getD PV.none) H)) _ (VR B);refine aj.both (oa:=dZ u H) (ob:=(one vs).bind toStr) (f:=fun l k=>.ok ((look k l).getD .none) H) fun l k hl hk=>?_;refine J (bO hk) fun v e ei=>?_;obtain rfl:=n7 e;refine J (nV rs) fun y z1=>?_;subst z1;intro ry;refine qp ei ry fun t=>?_;exact (QY st hl r).g
 | replace=>
  have e:dv .replace u vs H=mH.both (cP u) (Gs (bytesOf vs)) fun x p=>o7 x p.1 p.2 H:=by
   show (match cP u,bytesOf vs with|some x,some [y,z]=>o7 x y z H|_,_=>.no)=_;generalize bytesOf vs=l;generalize (cP u)=zz;induction zz using az with
   | none=>rfl
   | some x=>induction l using az with
    | none=>rfl
    | some l=>induction l using bj with
     | nil=>rfl
     | cons y l=>induction l using bj with
      | nil=>rfl
      | cons z l=>induction l using bj<;>rfl
  rw [e];refine aj.both fun x p hx hp=>?_;obtain rfl:=O4 hp;refine bx (RM rs) fun _ _ z2=>?_;subst z2;intro r1 r2;refine jy hx r fun t=>?_;refine ad (By rfl r1) fun _ z2=>?_;refine ay z2 fun t1 uI=>?_;clear z2;subst uI;refine ad (By rfl r2) fun _ z2=>?_;refine ay z2 fun t2 uI=>?_;clear z2;subst uI;exact (QF st).g
 | join=>refine vn (oa:=cP u) (f:=fun x v=>ml x v H) rs fun a v y h ry=>?_;refine jy h r fun t=>?_;exact (QS st ry).g
 | pq=>refine vn (oa:=toStr u) (f:=fun x v=>qV x v H) rs fun a v y h ry=>?_;refine qp h r fun t=>?_;exact (QR st ry).g
 | _=>exact gen rfl
def act{b:BM}{a:PE}{o:Expr}(hn:EF b=name)(we:nZ o=true)(cC:es.all f_=true)(hlen:es.length < 30)(hp:(apos.endLine==pos.line)=true)(ha:aV B O fu n F a o)(cZ:kg B O fu n F ps es):aV B O fu n F (.gq b a ps) (.Call (.Attribute o name apos) es [] pos):=by
 subst hn;intro A s σ H sl aw st lo;rw [Ev we cC hlen hp];refine aj.bind (ha A s σ H sl aw st lo) fun v H₁ ax u aa _ av aU aI=>?_;have bR:=lo.next st aI;generalize hk:(jZ b v H₁)=zz;induction zz with
 | false=>exact aj.no
 | true=>refine ad (TE av aU hk) fun hT hd=>?_;refine .mS (fun Q E h=>au (eE (au (cH (aZ (getMethod_builtin hT (bm_plain b) (aaY b) (aaX b) hd h)))))) ?_;exact sP (first:=[u]) cC y7 cZ aw av bR (fun vs ag bt us aP aM dP _ bJ=>QP aw aM (aU.b_ bJ) dP)
end
end
section
set_option backward.match.sparseCases true
open PySem
section
noncomputable def ack(B:Base prog w)(σ:Sg)(h:Heap):Fl→Flow→Prop
 | .next,.next=>True
 | .cont,.cont=>True
 | .ret v,.ret u=>ah prog w B.Cl σ h v u
 | _,_=>False
noncomputable def pX(B:Base prog w)(A:Around)(F:br)(s:Shared)(σ:Sg)(r:R (Fl×Sl))(Q:Flow→Shared→Prop):Prop:=
 ∀ f s' x aE H' σ',r=.ok (x,aE) H'→af B A H' σ' s'→bh B F aE σ' s'.heap→ack B σ' s'.heap x f→aJ (bG F) s.heap σ s'.heap σ'→Q f s'
noncomputable def wR(B:Base prog w)(A:Around)(F:br)(L:Addr)(s:Shared)(σ:Sg)(r:R (Fl×Sl))(E:Value→Shared→Prop):Prop:=
 ∀ e s' H' σ',r=.bad H'→af B A H' σ' s'→gN B s.heap s'.heap e (za L)→aJ (bG F) s.heap σ s'.heap σ'→E e s'
noncomputable def aY(B:Base prog w)(A:Around)(F:br)(L:Addr)(s:Shared)(σ:Sg)(r:R (Fl×Sl))(t:Sem Flow):Prop:=
 r≠.no→∀ Q E,pX B A F s σ r Q→wR B A F L s σ r E→aT (model prog w) A t Q E s
noncomputable def cx(B:Base prog w)(O:dL)(fu n:Nat)(F:br)(L:Addr)(ps:PS)(ss:Qt):Prop:=
 ∀ A s σ H sl,b0 n A→(∃ outer,A.frames=some (F.env::outer))→af B A H σ s→bh B F sl σ s.heap→aY B A F L s σ (aA O fu ps sl H) (execs ss F.env)
variable {F:br}
def pX.next{r:R (Fl×Sl)}{Q:Flow→Shared→Prop}(hq:pX B A F s σ r Q)(p:aJ (bG F) s.heap σ aa.heap ax):pX B A F aa ax r Q:=
 fun f s' x aE H' σ' e a b c d=>hq f s' x aE H' σ' e a b c (p.trans d)
def wR.next{r:R (Fl×Sl)}(he:wR B A F L s σ r E)(p:aJ (bG F) s.heap σ aa.heap ax):wR B A F L aa ax r E:=
 fun e s' H' σ' e' a b c=>he e s' H' σ' e' a (b.le p.al fun _ h=>h) (p.trans c)
theorem aY.no{t:Sem Flow}:aY B A F L s σ .no t:=fun h=>absurd rfl h
def rq{st:Qo}(h:ww st):za L st:=.inr (.inl h)
theorem aJ.bG(p:aJ cq s.heap σ aa.heap ax):aJ (bG F) s.heap σ aa.heap ax:=p.weaken fun _ h=>h.elim
def aY.expr{ra:R α}{f:α→Hp→R (Fl×Sl)}{t:Sem β}{k:β→Sem Flow}(h₁:aj B A s σ ra t Rel)(b6:∀ v H₁ ax u aa,ra=.ok v H₁→af B A H₁ ax aa→Rel ax aa.heap v u→aJ cq s.heap σ aa.heap ax→aY B A F L aa ax (f v H₁) (k u)):aY B A F L s σ (ra.bind f) (t>>=k):=by intro V Q E hq he;have vU:ra≠.no:=fun e=>V (congrArg (R.bind · f) e);refine au (h₁ vU _ _ (fun u aa v H₁ ax e st rel p=>?_) fun e s' H' σ' e' a_ x p'=>he e s' H' σ' (congrArg (R.bind · f) e') a_ (x.le (fun b o e=>⟨o,e⟩) fun _ h=>rq h) p'.bG);subst e;exact b6 v H₁ ax u aa rfl st rel p V Q E (hq.next p.bG) (he.next p.bG)
def aY.seq{ra:R (Fl×Sl)}{f:Sl→Hp→R (Fl×Sl)}{t:Sem Flow}{k:Sem Flow}(h₁:aY B A F L s σ ra t)(b6:∀ sl H₁ ax aa,af B A H₁ ax aa→bh B F sl ax aa.heap→aY B A F L aa ax (f sl H₁) k):
  aY B A F L s σ (ra.bind fun x H₁=>match x.1 with|.next=>f x.2 H₁|_=>.ok x H₁) (t>>=fun fl=>match fl with|.next=>k|fl=>pure fl):=by
 intro V Q E hq he;have vU:ra≠.no:=fun e=>V (congrArg (R.bind · _) e);refine au (h₁ vU _ _ (fun fl aa x aE H₁ ax e st lo fr p=>?_) fun e s' H' σ' e'=>he e s' H' σ' (congrArg (R.bind · _) e'));subst e;induction x with
 | next=>
  induction fl<;>first|exact fr.elim|skip
  exact b6 aE H₁ ax aa st lo V Q E (hq.next p) (he.next p)
 | cont=>
  induction fl<;>first|exact fr.elim|skip
  exact ba (hq _ _ _ _ _ _ rfl st lo trivial p)
 | ret v=>
  induction fl<;>first|exact fr.elim|skip
  exact ba (hq _ _ _ _ _ _ rfl st lo fr p)
def aY.eI{r:R (Fl×Sl)}{t:Sem Flow}(h:aY B A F L s σ r t):aY B A F L s σ r (do standAt p;t):=fun V Q E hq he=>au (eE (h V Q E hq he))
theorem aY.release{r:R (Fl×Sl)}{t:Sem Flow}{vs ws:Qa}(h:aY B A F L s σ r t):aY B A F L s σ r (PySem.release vs ws>>=fun _=>t):=fun V Q E hq he=>au (Bo (h V Q E hq he))
def aY.of_eq{r:R (Fl×Sl)}{t t':Sem Flow}(e:t=t')(h:aY B A F L s σ r t'):aY B A F L s σ r t:=e ▸ h
def aY.store(ok:F.Ok){id:Str}{r:R (Fl×Sl)}{k:Sem Flow}(hi:F.nm[i]?=some (some id))(fw:F.env.kindOf id=some .local∨F.env.kindOf id=some .cell)(st:af B A H σ s)(lo:bh B F sl σ s.heap)(rv:ah prog w B.Cl σ s.heap v u)(h:∀ s',af B A H σ s'→bh B F (cX sl i v) σ s'.heap→aY B A F L s' σ r k):aY B A F L s σ r (bindName F.env id u>>=fun _=>k):=fun V Q E hq he=>
 au (aZ (wpAny_bindName (sG ok hi fw st lo rv fun h' k' a_ fe P=>h {s with heap:=h',toks:=k'} a_ fe V Q E (hq.next P) (he.next P))))
def abV:cx B O fu n F L .nil []:=fun A s σ H sl aw hA st lo _ Q E hq he=>ba (hq _ _ _ _ _ _ rfl st lo trivial (.refl _ _))
def ab0:cx B O fu n F L .cont (.Continue pos::rest):=fun A s σ H sl aw hA st lo _ Q E hq he=>au (au (eE (ba (ba (hq _ _ _ _ _ _ rfl st lo trivial (.refl _ _))))))
def ME(ok:F.Ok){id:Str}(hs:nB value (some (.Name id p)) pos.line F.env=pure false)(hi:F.nm[i]?=some (some id))(fw:F.env.kindOf id=some .local∨F.env.kindOf id=some .cell)(he:aV B O fu n F e value)(hr:cx B O fu n F L r rest):cx B O fu n F L (.asg i e r) (.Assign [.Name id p] value pos::rest):=by
 intro A s σ H sl aw hA st lo;rw [execs_cons,exec_Assign_Name _ _ _ _ _ hs];have:((do standAt pos;let v←eval value F.env;standAt p;bindName F.env id v;pure Flow.next)>>=fun f=>match f with|.next=>execs rest F.env|f=>pure f) =
   (do standAt pos;let v←eval value F.env;standAt p;bindName F.env id v;execs rest F.env):=by
  simp only [bind_assoc,pure_bind]
 refine aY.of_eq this (aY.eI (aY.expr (he A s σ H sl aw st lo) fun v H₁ ax u aa _ av rv aI=>aY.eI (aY.store ok hi fw av (lo.next st aI) rv fun aP aM ew=>hr A aP ax H₁ _ aw hA aM ew)))
def abT(he:aV B O fu n F e value):cx B O fu n F L (.ret e) (.Return (some value) pos::rest):=by
 intro A s σ H sl aw hA st lo;have:execs (.Return (some value) pos::rest) F.env=(do standAt pos;let v←eval value F.env;pure (.ret v)):=by rw [execs_cons,exec_Return_some];simp only [bind_assoc,pure_bind]
 refine aY.of_eq this (aY.eI (aY.expr (he A s σ H sl aw st lo) fun v H₁ ax u aa _ av rv aI=>fun _ Q E hq he=>ba (hq _ _ _ _ _ _ rfl av (lo.next st aI) rv (.refl _ _))))
def abZ(ok:F.Ok)(hs:nB value none pos.line F.env=pure false)(he:aV B O fu n F e value)(hr:cx B O fu n F L r rest):cx B O fu n F L (.expr e r) (.Expr value pos::rest):=by
 intro A s σ H sl aw hA st lo;have hi:xb F.env=false:=by unfold xb;rw [ok.fk];rfl
 rw [execs_cons,exec_Expr _ _ _ hi hs];have:((do standAt pos;dropValue value pos (←eval value F.env))>>=fun f=>match f with|.next=>execs rest F.env|f=>pure f)=(do standAt pos;let v←eval value F.env;let f←dropValue value pos v;match f with|.next=>execs rest F.env|f=>pure f):=by simp only [bind_assoc]
 refine aY.of_eq this (aY.eI (aY.expr (he A s σ H sl aw st lo) fun v H₁ ax u aa _ av rv aI=>?_));induction rv using ah.casesOn<;>try exact aY.no
 rw [M7 (by simp)];exact aY.of_eq (pure_bind _ _) (hr A aa ax H₁ _ aw hA av (lo.next st aI))
def abW{c:PE}{t f:PS}{test:Expr}{orelse:Qt}(hc:i3 B O fu n F c test)(ht:cx B O fu n F L t body)(hf:cx B O fu n F L f orelse)(hr:cx B O fu n F L r rest):
  cx B O fu n F L (.ifs c t f r) (.If test body orelse pos::rest):=by
 intro A s σ H sl aw hA st lo;have:execs (.If test body orelse pos::rest) F.env=(do standAt pos;let b←isTrue test F.env (eval test F.env);(if b then execs body F.env else execs orelse F.env)>>=fun f=>match f with|.next=>execs rest F.env|f=>pure f):=by rw [execs_cons,arm_exec_If];simp only [bind_assoc];rfl
 refine aY.of_eq this (aY.eI (aY.expr (hc A s σ H sl aw st lo) fun b H₁ ax u aa _ av rb aI=>?_));subst rb;have bR:=lo.next st aI;refine aY.seq (f:=fun sl H=>aA O fu r sl H) ?_ fun mX ag bt aP aM ew=>hr A aP bt ag mX aw hA aM ew;induction u with
 | true=>exact ht A aa ax H₁ sl aw hA av bR
 | false=>exact hf A aa ax H₁ sl aw hA av bR
def abS(fc:Facts B){a:PE}{k:Qn}{o:Expr}(hk:sv k=name)(hn:nu.contains name=true)(hs:nB value (some (.Attribute o name p)) pos.line F.env=pure false)(ha:aV B O fu n F a o)(he:aV B O fu n F e value)(hr:cx B O fu n F L r rest):cx B O fu n F L (.jA a k e r) (.Assign [.Attribute o name p] value pos::rest):=by
 subst hk;intro A s σ H sl aw hA st lo;have:execs (.Assign [.Attribute o (sv k) p] value pos::rest) F.env=(do standAt pos;let v←eval value F.env;let ov←holding [v] (eval o F.env);standAt p.atName;holding [v,ov] (setAttr ov (sv k) v);release [v,ov] [];execs rest F.env):=by rw [execs_cons,plainObj_exec_Assign_Attribute _ _ _ _ _ hs];simp only [adj,bind_assoc,pure_bind]
 refine aY.of_eq this (aY.eI (aY.expr (he A s σ H sl aw st lo) fun v H₁ ax u aa _ av rv aI=>?_));have bR:=lo.next st aI;refine aY.expr (aj.hold (ha A aa ax H₁ sl aw av bR)) fun v' ag bt u' aP _ aM nT bJ=>aY.eI ?_;refine aY.expr (aj.hold ((QB fc hn aM nT (rv.b_ bJ)).g)) fun _ bH k_ _ bz _ cg _ dA=>aY.release ?_;exact hr A bz k_ bH sl aw hA cg ((bR.next av bJ).next aM dA)
noncomputable def HL:Expr→Value→Value→Value→Qa:=fun i v ov iv=>match i with|.Slice _ _ none _=>[iv,v,ov]|_=>[v,ov,iv]
def abe{o i:Expr}{v:Value}:assign (.Subscript o i pos) env v=(do
  let ov←holding [v] (eval o env);let iv←holding [v,ov] (eval i env)
  standAt pos
  holding [v,ov,iv] (setItem ov iv v)
  release (HL i v ov iv) []):=by rw [PySem.assign_Subscript];rfl
def abR{a i:PE}{o ei:Expr}(hs:nB value (some (.Subscript o ei p)) pos.line F.env=pure false)(ha:aV B O fu n F a o)(Dp:aV B O fu n F i ei)(he:aV B O fu n F e value)(hr:cx B O fu n F L r rest):cx B O fu n F L (.gF a i e r) (.Assign [.Subscript o ei p] value pos::rest):=by
 intro A s σ H sl aw hA st lo;have:execs (.Assign [.Subscript o ei p] value pos::rest) F.env=(do standAt pos;let v←eval value F.env;let ov←holding [v] (eval o F.env);let iv←holding [v,ov] (eval ei F.env);standAt p;holding [v,ov,iv] (setItem ov iv v);release (HL ei v ov iv) [];execs rest F.env):=by rw [execs_cons,exec_Assign_Subscript _ _ _ _ _ hs];simp only [abe,bind_assoc,pure_bind]
 refine aY.of_eq this (aY.eI (aY.expr (he A s σ H sl aw st lo) fun v H₁ ax u aa _ av rv aI=>?_));have bR:=lo.next st aI;refine aY.expr (aj.hold (ha A aa ax H₁ sl aw av bR)) fun v' ag bt u' aP _ aM nT bJ=>?_;have ew:=bR.next av bJ;refine aY.expr (aj.hold (Dp A aP bt ag sl aw aM ew)) fun k bH k_ uk bz _ cg rk dA=>aY.eI ?_;refine aY.expr (aj.hold ((QA cg (nT.b_ dA) rk ((rv.b_ bJ).b_ dA)).g)) fun _ ez i9 _ gE _ cU _ eZ=>aY.release ?_;exact hr A gE i9 ez sl aw hA cU ((ew.next aM dA).next cg eZ)
end
end
section
open PySem
section
variable {F:br}
noncomputable def Binds(F:br):Qn→List (Value→Sem Unit)→Prop
 | [],[]=>True
 | i::is,t::ts=>(∃ id,F.nm[i]?=some (some id)∧(F.env.kindOf id=some .local∨F.env.kindOf id=some .cell)∧((∀ v,t v=bindName F.env id v)∨∃ p,∀ v,t v=(do standAt p;bindName F.env id v)))∧Binds F is ts
 | _,_=>False
theorem Ay(ok:F.Ok){E:Value→Shared→Prop}:∀ (is:Qn) (ts:List (Value→Sem Unit)) (l:Qp) (us:Qa) (s:Shared) (sl aE:Sl) (Q:Unit→Shared→Prop),Binds F is ts→lq is l sl=some aE→aK prog w B.Cl σ s.heap l us→af B A H σ s→bh B F sl σ s.heap→
  (∀ h' k,af B A H σ {s with heap:=h',toks:=k}→bh B F aE σ h'→aJ (bG F) s.heap σ h' σ→Q () {s with heap:=h',toks:=k})→wpAny (model prog w) A (assignInOrder ts us) Q E s
 | [],[],[],us,s,sl,aE,Q,_,he,r,st,lo,hQ=>by
  (injection he with e1;subst e1)
  obtain rfl:=r.nil_inv;exact wpAny_pure (hQ s.heap s.toks st lo (.refl _ _))
 | i::is,t::ts,v::l,us,s,sl,aE,Q,hb,he,r,st,lo,hQ=>by
  refine ad hb ?_;clear hb;intro z0 hb;refine ci z0 fun id hi fw ht=>?_;clear z0;refine bx r.cons_inv fun u us z2=>?_;subst z2;intro rv r;have key:wpAny (model prog w) A (storeName F.env id u) (fun _ aa=>wpAny (model prog w) A (assignInOrder ts us) Q E aa) E s:=sG ok hi fw st lo rv fun h' k a_ fe P=>
   Ay ok is ts l us {s with heap:=h',toks:=k} _ aE Q hb he (r.mono P lo.bG) a_ fe fun fO k' uV CL P'=>hQ fO k' uV CL (P.trans P')
  refine wpAny_bind (wpAny_holding ?_);rcases ht with ht|⟨p,ht⟩
  ·rw [ht];exact wpAny_bindName key
  ·rw [ht];exact wpAny_bind (wpAny_standAt (wpAny_bindName key))
 | [],_::_,_,_,_,_,_,_,hb,_,_,_,_,_=>hb.elim
 | _::_,[],_,_,_,_,_,_,hb,_,_,_,_,_=>hb.elim
 | _::_,_::_,[],_,_,_,_,_,_,he,_,_,_,_=>by injection he
 | [],[],_::_,_,_,_,_,_,_,he,_,_,_,_=>by injection he
theorem yn:∀ {is:Qn} {l:Qp} {sl aE:Sl},lq is l sl=some aE→is.length=l.length
 | [],[],_,_,_=>rfl
 | i::is,v::l,sl,aE,h=>by
  have:=yn (is:=is) (l:=l) (sl:=cX sl i v) (aE:=aE) h;simp only [kl,this]
 | [],_::_,_,_,h=>by injection h
 | _::_,[],_,_,h=>by injection h
theorem Ax:∀ {is:Qn} {ts:List (Value→Sem Unit)},Binds F is ts→is.length=ts.length
 | [],[],_=>rfl
 | _::_,_::_,h=>by simp only [kl,Ax h.2]
 | [],_::_,h=>h.elim
 | _::_,[],h=>h.elim
def ym{a b:PV}(h:i≠j):cX (cX sl i a) j b=cX (cX sl j b) i a:=List.set_comm _ _ h
theorem Rj:∀ {is:Qn} {l:Qp} {sl aE:Sl},is.length=2∨is.length=3→is.Nodup→lq is l sl=some aE→lq is.reverse l.reverse sl=some aE
 | [i,j],[a,b],sl,aE,_,hn,h=>by
  simp only [uq,cA,oP,or_false] at hn
  (injection h with e1;subst e1)
  show some (cX (cX sl j b) i a)=_;rw [ym (fun q=>hn.1 q.symm)]
 | [i,j,k],[a,b,c],sl,aE,_,hn,h=>by
  simp only [uq,cA,oP,or_false,not_or] at hn
  (injection h with e1;subst e1)
  show some (cX (cX (cX sl k c) j b) i a)=_;rw [ym (i:=j) (j:=i) (fun q=>hn.1.1 q.symm),ym (i:=k) (j:=i) (fun q=>hn.1.2 q.symm),ym (i:=k) (j:=j) (fun q=>hn.2.1 q.symm)]
 | [_,_],[],_,_,_,_,h=>by injection h
 | [_,_],[_],_,_,_,_,h=>by injection h
 | [_,_],_::_::_::_,_,_,_,_,h=>by injection h
 | [_,_,_],[],_,_,_,_,h=>by injection h
 | [_,_,_],[_],_,_,_,_,h=>by injection h
 | [_,_,_],[_,_],_,_,_,_,h=>by injection h
 | [_,_,_],_::_::_::_::_,_,_,_,_,h=>by injection h
 | [],_,_,_,h,_,_=>by simp at h
 | [_],_,_,_,h,_,_=>by simp at h
 | _::_::_::_::_,_,_,_,h,_,_=>by simp at h
theorem Ma:∀ {is js:Qn} {ts us:List (Value→Sem Unit)},Binds F is ts→Binds F js us→Binds F (is++js) (ts++us)
 | [],_,[],_,_,h=>h
 | i::is,js,t::ts,us,h,h'=>⟨h.1,Ma (is:=is) (ts:=ts) h.2 h'⟩
 | [],_,_::_,_,h,_=>h.elim
 | _::_,_,[],_,h,_=>h.elim
theorem L_:∀ {is:Qn} {ts:List (Value→Sem Unit)},Binds F is ts→Binds F is.reverse ts.reverse
 | [],[],_=>trivial
 | i::is,t::ts,h=>by
  rw [AZ,AZ];exact Ma (L_ h.2) ⟨h.1,trivial⟩
 | [],_::_,h=>h.elim
 | _::_,[],h=>h.elim
def RO(r:aK prog w B.Cl σ h l us):aK prog w B.Cl σ h l.reverse us.reverse:=by refine ⟨by simp [r.sz],fun i v u a b=>?_⟩;have hi:=(cF.mp a).1;have gK:=(cF.mp b).1;rw [Fu (by simpa using hi)] at a;rw [Fu (by simpa using gK)] at b;rw [←r.sz] at b;exact r.all _ v u a b
set_option tactic.hygienic true in
def aY.unpack(ok:F.Ok){ts:List (Value→Sem Unit)}{t:Sem Unit}{f:Sl→Hp→R (Fl×Sl)}{k:Sem Flow}(aw:b0 n A)(hb:Binds F is ts)(st:af B A H σ s)(lo:bh B F sl σ s.heap)(rv:ah prog w B.Cl σ s.heap v u)(ht:∀ (T:Addr) (items:Qv) (Q:Unit→Shared→Prop) (E:Value→Shared→Prop),u=.ref T→s.heap.IsTuple T items→items.size=ts.length→(∀ h',Heap.ExtBut s.heap.objs.size s.heap h'→wpAny (model prog w) A (assignInOrder ts items.toList) Q E {s with heap:=h'})→wpAny (model prog w) A t Q E s)(hk:∀ aE s',af B A H σ s'→bh B F aE σ s'.heap→aY B A F L s' σ (f aE H) k):aY B A F L s σ (match jK is v sl with|some aE=>f aE H|.none=>.no) (t>>=fun _=>k):=by
 induction rv using ah.casesOn with
 | tup e no sz all=>
  rename_i l a us n';generalize es:(lq is l sl)=zz;induction zz using az with
  | none=>show aY B A F L s σ (match lq is l sl with|some aE=>f aE H|.none=>.no) _;rw [es];exact aY.no
  | some aE=>show aY B A F L s σ (match lq is l sl with|some aE=>f aE H|.none=>.no) _;rw [es];intro V Q E hq he;refine au (aZ (ht a us _ _ rfl ⟨_,e,rfl,_,rfl⟩ (by rw [←Ax hb,yn es,sz]) fun h' hx=>?_));have j3:∀ b o,s.heap.get? b=some o→h'.get? b=some o:=fun b o e=>hx b o (mM (kn e)) e;have rS:aJ (bG F) s.heap σ h' σ:=.grow j3;refine Ay ok is ts l us.toList {s with heap:=h'} sl aE _ hb es ((nW sz all).grow j3) (st.grow (k:=s.toks) j3) (lo.pd st.inv (.grow j3)) fun fO k' a_ fe P=>?_;exact hk aE {s with heap:=fO,toks:=k'} a_ fe V Q E (hq.next (rS.trans P)) (he.next (rS.trans P))
 | _=>exact aY.no
noncomputable def qQ(x:Str×Pos):Expr:=.Name x.1 x.2
noncomputable def Tg(F:br):Qn→List (Str×Pos)→Prop
 | [],[]=>True
 | i::is,x::es=>(F.nm[i]?=some (some x.1)∧(F.env.kindOf x.1=some .local∨F.env.kindOf x.1=some .cell))∧Tg F is es
 | _,_=>False
noncomputable def AE(F:br)(is:Qn)(es:Qe):Prop:=∃ ns,es=ns.map qQ∧Tg F is ns
noncomputable def MB(F:br)(is:Qn)(es:Qe):Prop:=Binds F is ((assignEach es F.env).map (·.2))∧(assignEach es F.env).findIdx? (·.1)=none∧(assignEach es F.env).length=es.length
theorem GC:∀ {is:Qn} {ns:List (Str×Pos)},Tg F is ns→MB F is (ns.map qQ)
 | [],[],_=>⟨trivial,rfl,rfl⟩
 | i::is,x::ns,h=>
  have q:=GC h.2
  ⟨⟨⟨x.1,h.1.1,h.1.2,.inr ⟨x.2,fun _=>rfl⟩⟩,q.1⟩,(List.findIdx?_cons).trans (congrArg (jq (· + 1)) q.2.1),congrArg (· + 1) q.2.2⟩
def GA(h:AE F is es):MB F is es:=by refine J h ?_;clear h;intro ns e h;rw [e];exact GC h
def ab2(ok:F.Ok){k:Nat}(hs:swapsWithSole [.Tuple elts k p] value pos.line F.env=pure false)(hw:w8 [.Tuple elts k p] value F.env=pure none)(ht:AE F is elts)(he:aV B O fu n F e value)(hr:cx B O fu n F L r rest):cx B O fu n F L (.dr is e r) (.Assign [.Tuple elts k p] value pos::rest):=by
 intro A s σ H sl aw hA st lo;have:execs (.Assign [.Tuple elts k p] value pos::rest) F.env=(do standAt pos;let v←eval value F.env;assign (.Tuple elts k p) F.env v;execs rest F.env):=by rw [execs_cons,arm_exec_Assign,hs];simp only [bind_assoc,pure_bind,uH,if_false,hw];congr 1;funext _;congr 1;funext v;show (do (assign (.Tuple elts k p) F.env v);pure Flow.next)>>=_=_;simp only [bind_assoc,pure_bind]
 refine cG (GA ht) fun h1 h2 h3=>?_;refine aY.of_eq this (aY.eI (aY.expr (he A s σ H sl aw st lo) fun v H₁ ax u aa _ av rv aI=>?_));refine aY.unpack (f:=fun sl H=>aA O fu r sl H) ok aw h1 av (lo.next st aI) rv (fun T items Q E hu hT dh hq=>?_) fun aE s' a_ fe=>hr A s' ax H₁ aE aw hA a_ fe;subst hu;exact acU aw.hd hT (by rw [dh];simp) h2 hq
def ab1(ok:F.Ok){names:Qs}{k:Nat}(hs:swapsWithSole [.Tuple elts k p] value pos.line F.env=pure false)(hw:w8 [.Tuple elts k p] value F.env=pure (some names))(hl:is.length=2∨is.length=3)(hn:is.Nodup)(ht:Binds F is (names.map fun n=>bindName F.env n))(he:aV B O fu n F e value)(hr:cx B O fu n F L r rest):cx B O fu n F L (.dr is e r) (.Assign [.Tuple elts k p] value pos::rest):=by
 intro A s σ H sl aw hA st lo;have:execs (.Assign [.Tuple elts k p] value pos::rest) F.env=(do standAt pos;let v←eval value F.env;(do rule "assign.swapped-stores";let items←unpackItems v names.length none;assignInOrder (names.reverse.map fun n=>bindName F.env n) items.reverse);execs rest F.env):=by rw [execs_cons,arm_exec_Assign,hs];simp only [bind_assoc,pure_bind,uH,if_false,hw];congr 1;funext _;congr 1;funext v;show (do rule "assign.swapped-stores";let items←unpackItems v names.length none;assignInOrder (names.reverse.map fun n=>bindName F.env n) items.reverse;pure Flow.next)>>=_=_;simp only [bind_assoc,pure_bind]
 have hlen:=Ax ht;refine aY.of_eq this (aY.eI (aY.expr (he A s σ H sl aw st lo) fun v H₁ ax u aa _ av rv aI=>?_));have bR:=lo.next st aI;induction rv using ah.casesOn with
 | @tup lv a us n' ex no sz all=>
  show aY B A F L aa ax (match lq is lv sl with|some aE=>aA O fu r aE H₁|.none=>.no) _;generalize es:(lq is lv sl)=zz;induction zz using az with
  | none=>exact aY.no
  | some aE=>
   intro V Q E hq he;have hT:aa.heap.IsTuple a us:=⟨_,ex,rfl,_,rfl⟩;have mx:names.length=us.size:=by have h1:=yn es;rw [aQ] at hlen;lia
   refine au (aZ (wpAny_bind (wpAny_rule ?_)));rw [mx];refine wpAny_bind (wpAny_unpackItems_tuple aw.hd hT fun h' hx=>?_);have j3:∀ b o,aa.heap.get? b=some o→h'.get? b=some o:=fun b o e=>hx b o (mM (kn e)) e;have rS:aJ (bG F) aa.heap ax h' ax:=.grow j3;have hb:=L_ ht;rw [←A2] at hb;refine Ay ok _ _ _ _ {aa with heap:=h'} sl aE _ hb (Rj hl hn es) (RO ((nW sz all).grow j3)) (av.grow (k:=aa.toks) j3) (bR.pd av.inv (.grow j3)) fun fO k' a_ fe P=>?_;exact hr A {aa with heap:=fO,toks:=k'} ax H₁ aE aw hA a_ fe V Q E (hq.next (rS.trans P)) (he.next (rS.trans P))
 | _=>exact aY.no
end
end
section
open PySem
section
noncomputable def Ir(M:Model)(A:Around)(env:Env)(E:Value→Shared→Prop):Value→Shared→Prop:=fun x s'=>aT M A (noteFrame x env) (fun _ gW=>E x gW) E s'
def Oz{x:Value}{Q:Unit→Shared→Prop}(h:Q () s):aT M A (theTreesLotGoes x) Q E s:=aZ (wpAny_theTreesLotGoes h)
def Gc{m:Sem α}{Q:α→Shared→Prop}(h:aT M A m Q (Ir M A env E) s):aT M A (m.onRaise fun x=>do noteFrame x env;theTreesLotGoes x) Q E s:=
 qj (gS h (fun _ _ q=>q) fun _ _ hx=>au (gS hx (fun _ _ e=>Oz e) fun _ _ e=>e))
def F9{c:Code}{h:Qo}{Q:Flow→Shared→Prop}(v9:lH c=false)(hc:dl M (A.mark h) c (fun r s'=>match r with|.ok f=>Q f s'|.error e=>cameBackBy M A env E e s') s)(Dh:h≠some byPass:=by intro x;cases x):aT M A (runOwn c env h) Q E s:=by
 unfold runOwn;refine qj (F_ v9 (Em hc fun r s' hr=>?_) Dh);induction r with
 | ok f=>exact hr
 | error e=>exact aZ hr
def aax{stmts:Qt}{R:Result→Shared→Prop}(h:aT (model prog w) A (execs stmts env) (fun f s'=>R (.ok f) s') (Ir (model prog w) A env fun e s'=>R (.error e) s') s):dl (model prog w) A (.block stmts env) R s:=by refine lM ?_;show aT _ A (do return Fin.done (←(execs stmts env).onRaise (fun x=>do noteFrame x env;theTreesLotGoes x))) _ _ s;exact au (Gc (gS h (fun f s' h'=>ba h') fun _ _ h'=>h'))
end
section
variable {F:br}
def Iy{r:R α}(h:cV r≠.no):r≠.no∧∀ H,r≠.bad H:=by
 induction r with
 | no=>exact absurd rfl h
 | bad H=>exact absurd rfl h
 | ok a H=>exact ⟨by simp,fun H=>by simp⟩
def Tr{r:R α}(h:cV r≠.no):cV r=r:=by
 induction r with
 | no=>exact absurd rfl h
 | bad H=>exact absurd rfl h
 | ok a H=>rfl
def LW(O:dL)(fu:Nat)(c:PE)(b:PS)(m:Nat)(sl:Sl)(H:Hp):R (Fl×Sl):=lD (fun sl H=>bK O c sl H) (fun sl H=>aA O fu b sl H) m sl H
noncomputable def wZ(O:dL)(fu:Nat)(c:PE)(b:PS)(m:Nat)(x:Fl×Sl)(H:Hp):R (Fl×Sl):=match x.1 with
 | .ret v=>.ok (.ret v,x.2) H
 | _=>LW O fu c b m x.2 H
def AI(O:dL)(fu:Nat)(c:PE)(b:PS)(m:Nat)(sl:Sl)(t:Bool)(H:Hp):R (Fl×Sl):=match t with
 | false=>.ok (.next,sl) H
 | true=>(aA O fu b sl H).bind (wZ O fu c b m)
def OJ{c:PE}{b:PS}{test:Expr}(hc:i3 B O fu n F c test)(hb:cx B O fu n F L b body)(aw:b0 n A)(hA:∃ outer,A.frames=some (F.env::outer))(m:Nat)(st:af B A H σ s)(lo:bh B F sl σ s.heap)(V:cV (LW O fu c b m sl H)≠.no)(hR:pX B A F s σ (cV (LW O fu c b m sl H)) fun f s'=>Rs (.ok f) s'):dl (model prog w) A (.whileLoop test body [] F.env) Rs s:=by
 induction m generalizing sl H s σ with
 | zero=>exact absurd rfl V
 | succ m ih=>
  refine lM ?_;show aT _ A ((whileTurn test body [] F.env).onRaise (fun x=>do noteFrame x F.env;theTreesLotGoes x)) _ _ s;refine qj ?_;simp only [whileTurn];refine ad (Iy V) fun h1 h2=>?_;have hl:LW O fu c b (m + 1) sl H=(bK O c sl H).bind (AI O fu c b m sl):=rfl;rw [hl] at V h1 h2 hR;refine au (hc A s σ H sl aw st lo (fun e=>h1 (congrArg (R.bind · (AI O fu c b m sl)) e)) _ _ (fun u aa v H₁ ax e av aU aI=>?_) fun e s' H' σ' e' _ _ _=>absurd (congrArg (R.bind · (AI O fu c b m sl)) e') (h2 H'));subst aU;have bR:=lo.next st aI;have hR:=hR.next aI.bG;rw [e] at V h1 h2 hR;induction u with
  | false=>exact au (ba (ba (hR _ _ _ _ _ _ rfl av bR trivial (.refl _ _))))
  | true=>
   refine au (hb A aa ax H₁ sl aw hA av bR (fun e=>h1 (congrArg (R.bind · (wZ O fu c b m)) e)) _ _ (fun f aP x aE ag bt g_ aM ew fr bJ=>?_) fun e s' H' σ' e' _ _ _=>absurd (congrArg (R.bind · (wZ O fu c b m)) e') (h2 H'));have e3:(R.ok true H₁).bind (AI O fu c b m sl)=wZ O fu c b m (x,aE) ag:=congrArg (R.bind · (wZ O fu c b m)) g_;have hR:=hR.next bJ;rw [e3] at V hR;induction x with
   | next=>
    induction f<;>first|exact fr.elim|skip
    exact ba ⟨rfl,rfl,ih aM ew V hR⟩
   | cont=>
    induction f<;>first|exact fr.elim|skip
    exact ba ⟨rfl,rfl,ih aM ew V hR⟩
   | ret v=>
    induction f<;>first|exact fr.elim|skip
    exact ba (hR _ _ _ _ _ _ rfl aM ew fr (.refl _ _))
set_option backward.match.sparseCases true in
def abO{c:PE}{b:PS}{test:Expr}(hc:i3 B O fu n F c test)(hb:cx B O fu n F L b body)(hr:cx B O fu n F L r rest):cx B O fu n F L (.mR c b r) (.While test body [] pos::rest):=by
 intro A s σ H sl aw hA st lo;have:execs (.While test body [] pos::rest) F.env=(do standAt pos;runOwn (.whileLoop test body [] F.env) F.env>>=fun f=>match f with|.next=>execs rest F.env|f=>pure f):=by rw [execs_cons,arm_exec_While];simp only [bind_assoc];rfl
 refine aY.of_eq this (aY.eI ?_);refine aY.seq (f:=fun sl H=>aA O fu r sl H) ?_ fun mX ag bt aP aM ew=>hr A aP bt ag mX aw hA aM ew;intro V Q E hq he;refine F9 rfl ?_;rw [Od];exact OJ hc hb aw hA fu st lo V hq
end
end
section
open PySem
section
variable {F:br}
def af.sS(st:af B A H σ s){k:Nat}(hw:∀ b∈wr,b∈σ.fr)(fg:∀ env∈A.frames.getD [],∀ L,env.frame=some L→L∉wr)(hk:∀ b o,b∉wr→s.heap.get? b=some o→h'.get? b=some o)(he:∀ b∈wr,∃ o,h'.get? b=some o):
  af B A H σ {s with heap:=h',toks:=k}∧aJ (fun b=>b∈wr) s.heap σ h' σ:=by
 have al:∀ b o,s.heap.get? b=some o→∃ o',h'.get? b=some o':=fun b o e=>by
  by_cases hb:b∈wr
  ·exact he b hb
  ·exact ⟨o,hk b o hb e⟩
 have P:aJ (fun b=>b∈wr) s.heap σ h' σ:=⟨fun b o _ hx e=>⟨o,hk b o hx e,.refl o⟩,⟨[],by simp⟩,rfl,fun b hb=>.inl hb,al⟩;have g7:∀ b,b∈own σ→b∉wr:=fun b hb q=>(st.inv.low b hb).2.2 (hw b q);refine ⟨⟨fun b o e=>hk b o (fun q=>?_) (st.keep b o e),⟨st.inv.len,fun i o p a b=>(st.inv.obj i o p a b).mono P hw (fun _ e=>hk _ _ (g7 _ (dC b).1) e) (fun _ e=>hk _ _ (g7 _ (dC b).2) e),st.inv.apart,
  fun b hb=>⟨(st.inv.low b hb).1,(st.inv.low b hb).2.1.elim fun o e=>al b o e,(st.inv.low b hb).2.2⟩,fun b hb=>⟨(st.inv.cS b hb).1,(st.inv.cS b hb).2.elim fun o e=>al b o e⟩⟩,st.gens,st.os,fun env hm=>?_⟩,P⟩
 ·have:=(st.inv.cS b (hw b q)).1;rw [e] at this;injection this
 ·(refine ad (st.dV env hm) fun a z2=>?_;(refine i_ z2 fun L o b d e e1 e2=>?_;clear z2))
  exact ⟨a,L,o,b,d,hk L o (fg env hm L b) e,e1,e2⟩
def bh.sS{X:Addr→Prop}(x:bh B F sl σ s.heap)(hX:∀ b,X b→b∈σ.fr∧¬ mH.bG F b)(P:aJ X s.heap σ h' σ)(fB:∀ b∈σ.fr,b∉own σ):bh B F sl σ h':=by
 have kk:∀ b,mH.bG F b→b∈σ.fr→∀ o,s.heap.get? b=some o→∃ o',h'.get? b=some o'∧jo o o':=fun b hb hf o e=>P.kp b o (fB b hf) (fun q=>(hX b q).2 hb) e;refine ⟨?_,fun i id v h1 h2 h3=>?_,fun id a hm=>?_,x.jF⟩
 ·refine J x.lF fun m hn hv=>?_;refine lf hn fun o es ep e hd hs hf=>?_;clear hn;refine J (kk _ (.inl rfl) x.jF o e) fun o' e' k=>?_;refine ⟨m,⟨o',es,ep,e',k.data.trans hd,hs,hf⟩,fun i id v h1 h2 h3=>?_⟩;refine J (hv i id v h1 h2 h3) fun u hu r=>?_;exact ⟨u,hu,r.mono P fun b hb=>(hX b hb).1⟩
 ·(refine cO (x.mE i id v h1 h2 h3) fun a u h4 h5 z4 r=>?_;(refine J z4 fun o e hd=>?_;clear z4))
  refine J (kk a (.inr ⟨id,h5⟩) (x.hO id a h5).2 o e) fun o' e' k=>?_;exact ⟨a,u,h4,h5,⟨o',e',k.data.trans hd⟩,r.mono P fun b hb=>(hX b hb).1⟩
 ·(refine ad (x.hO id a hm) fun z0 fg=>?_;(refine ch z0 fun cv o e hd=>?_;clear z0))
  refine J (kk a (.inr ⟨id,hm⟩) fg o e) fun o' e' k=>?_;exact ⟨⟨cv,o',e',k.data.trans hd⟩,fg⟩
def bh.leave{BU:Sl}(x:bh B F sl bt h)(F2:bh B F BU σ s.heap)(S:jM bt h ⟨bt.t,σ.fr⟩ h')(hk:∀ b,mH.bG F b→∀ o,h.get? b=some o→h'.get? b=some o):bh B F sl ⟨bt.t,σ.fr⟩ h':=by
 refine ⟨?_,fun i id v h1 h2 h3=>?_,fun id a hm=>?_,F2.jF⟩
 ·refine J x.lF fun m hn hv=>?_;exact ⟨m,hn.at (hk _ (.inl rfl)),fun i id v h1 h2 h3=>by refine J (hv i id v h1 h2 h3) fun u hu r=>?_;exact ⟨u,hu,r.move S⟩⟩
 ·(refine cO (x.mE i id v h1 h2 h3) fun a u h4 h5 z4 r=>?_;(refine J z4 fun o e hd=>?_;clear z4))
  exact ⟨a,u,h4,h5,⟨o,hk _ (.inr ⟨id,h5⟩) o e,hd⟩,r.move S⟩
 ·(refine ad (x.hO id a hm) fun z0 _=>?_;(refine ch z0 fun cv o e hd=>?_;clear z0))
  exact ⟨⟨cv,o,hk _ (.inr ⟨id,hm⟩) o e,hd⟩,(F2.hO id a hm).2⟩
noncomputable def AN(B:Base prog w)(n:Nat)(F:br)(target:Expr)(ce:PV→Sl→Option Sl):Prop:=∀ A s σ H sl v u aE,b0 n A→af B A H σ s→bh B F sl σ s.heap→ah prog w B.Cl σ s.heap v u→ce v sl=some aE→
 wpAny (model prog w) A (assign target F.env u) (fun _ s'=>af B A H σ s'∧bh B F aE σ s'.heap∧aJ (bG F) s.heap σ s'.heap σ) (fun _ _=>False) s
def aa3(ok:F.Ok){id:Str}(hi:F.nm[i]?=some (some id))(fw:F.env.kindOf id=some .local∨F.env.kindOf id=some .cell):AN B n F (.Name id p) (fun v sl=>some (cX sl i v)):=by
 intro A s σ H sl v u aE aw st lo r e
 (injection e with e1;subst e1)
 exact wpAny_assign_Name (sG ok hi fw st lo r fun h' k a_ fe P=>⟨a_,fe,P⟩)
def aa2(ok:F.Ok){k:Nat}(ht:AE F is elts):AN B n F (.Tuple elts k p) (jK is):=by
 intro A s σ H sl v u aE aw st lo r es;refine cG (GA ht) fun h1 h2 h3=>?_;induction r using ah.casesOn with
 | @tup l a us n' e no sz all=>
  have dh:us.size=(assignEach elts F.env).length:=by have:=yn (show lq is l sl=some aE from es);have:=Ax h1;simp at this;lia
  refine acU aw.hd ⟨_,e,rfl,_,rfl⟩ dh.symm h2 fun h' hx=>?_;have j3:∀ b o,s.heap.get? b=some o→h'.get? b=some o:=fun b o e=>hx b o (mM (kn e)) e;have rS:aJ (bG F) s.heap σ h' σ:=.grow j3;exact Ay ok is _ l us.toList {s with heap:=h'} sl aE _ h1 es ((nW sz all).grow j3) (st.grow (k:=s.toks) j3) (lo.pd st.inv (.grow j3)) fun fO k' a_ fe P=>⟨a_,fe,rS.trans P⟩
 | _=>injection es
end
end
section
open PySem
section
variable {F:br}
def LF(O:dL)(fu:Nat)(b:PS)(ce:PV→Sl→Option Sl)(t:It)(m i:Nat)(sl:Sl)(H:Hp):R (Fl×Sl):=cQ (fun sl H=>aA O fu b sl H) ce t m i sl H
noncomputable def t5(O:dL)(fu:Nat)(b:PS)(ce:PV→Sl→Option Sl)(t:It)(m i:Nat)(x:Fl×Sl)(H:Hp):R (Fl×Sl):=match x.1 with
 | .ret v=>.ok (.ret v,x.2) H
 | _=>LF O fu b ce t m (i + 1) x.2 H
def Ua{body:Sl→Hp→R (Fl×Sl)}{it:It}(h:it.at H i=none):cQ body ce it (m + 1) i sl H=.no:=by show (match it.at H i with|none=>R.no|some none=>_|some (some v)=>_)=_;rw [h]
def CH{body:Sl→Hp→R (Fl×Sl)}{it:It}(h:it.at H i=some none):cQ body ce it (m + 1) i sl H=.ok (.next,sl) H:=by show (match it.at H i with|none=>_|some none=>R.ok (Fl.next,sl) H|some (some v)=>_)=_;rw [h]
def CG{body:Sl→Hp→R (Fl×Sl)}{it:It}(h:it.at H i=some (some v)):cQ body ce it (m + 1) i sl H=match ce v sl with|.none=>.no|some aE=>(body aE H).bind fun x H'=>match x.1 with|.ret v=>.ok (.ret v,x.2) H'|_=>cQ body ce it m (i + 1) x.2 H':=by show (match it.at H i with|none=>_|some none=>_|some (some v)=>match ce v sl with|none=>_|some aE=>_)=_;rw [h];try rfl
def acd{b:PS}{t:It}(h:t.at H i=some .none):LF O fu b ce t (m + 1) i sl H=.ok (.next,sl) H:=CH h
def acb{b:PS}{t:It}(h:t.at H i=some (some v)):LF O fu b ce t (m + 1) i sl H=match ce v sl with|.none=>.no|some aE=>(aA O fu b aE H).bind (t5 O fu b ce t m i):=CG h
def ace{b:PS}{t:It}(V:LF O fu b ce t (m + 1) i sl H≠.no):∃ x,t.at H i=some x:=by
 generalize e:t.at H i=zz;induction zz using az with
 | none=>exact absurd (Ua e) V
 | some x=>exact ⟨x,rfl⟩
def Ya{b:PS}{t:It}{P:Nat→Sg→Heap→Prop}(aw:b0 n A)(hA:∃ outer,A.frames=some (F.env::outer))(hf:F.env.frame=some L)(it:Iter B t tup I wr P)(ht:qq tup target)(DA:AN B n F target ce)(hb:cx B O fu n F L b body)(zf:∀ a,bG F a→a∉wr)(C7:∀ env∈A.frames.getD [],∀ L,env.frame=some L→L∉wr){bA:Shared}{acj:Hp}{BU:Sl}(x_:af B A acj σ₀ bA)(IX:bh B F BU σ₀ bA.heap)(fresh:∀ d∈wr,bA.heap.get? d=none)(v4:∀ b o,bA.heap.get? b=some o→h₁.get? b=some o)(m:Nat)(st:af B A H σ s)(lo:bh B F sl σ s.heap)(hP:P i σ s.heap)(hw:∀ a∈wr,a∈σ.fr)(p:aJ (fun a=>bG F a∨a∈wr) h₁ (eU wr σ₀) s.heap σ)(V:LF O fu b ce t m i sl H≠.no)(hR:pX B A F bA σ₀ (LF O fu b ce t m i sl H) fun f s'=>Rs (.ok f) s')(hX:∀ e s' H' σ',LF O fu b ce t m i sl H=.bad H'→af B A H' σ' s'→gN B bA.heap s'.heap e (fun st=>st=some (rawInt L))→aJ (bG F) bA.heap σ₀ s'.heap σ'→Rs (.error e) s'):dl (model prog w) A (.forLoop target (.ref I) body [] F.env) Rs s:=by
 induction m generalizing i sl H s σ with
 | zero=>exact absurd rfl V
 | succ m ih=>
  have fB:∀ b∈σ.fr,b∉own σ:=fun b hb ho=>(st.inv.low b ho).2.2 hb;refine ay (ace V) fun x hx=>?_;refine lM ?_;show aT _ A ((forTurn target (.ref I) body [] F.env).onRaise (fun x=>do noteFrame x F.env;theTreesLotGoes x)) _ _ s;refine Gc ?_;simp only [forTurn];refine au (eE (au (qj (aZ (it.next aw.hd st hP hw ⟨x,hx⟩ (fun JH k₁ Dl hr=>?_) fun u v JH k₁ Dl hv Dj=>?_)))))
  ·rw [acd hr] at hR;refine ba ⟨rfl,rfl,aax (ba ?_)⟩;refine cG (x_.qU (X':=bG F) (k:=k₁) (h':=JH) (fun _ h=>h) fresh v4 p (fun b hb=>hb.symm) st Dl) fun av lR wT=>?_;exact hR _ _ _ _ _ _ rfl av (lo.leave IX wT fun b hb o e=>Dl b o (zf b hb) e) trivial lR
  ·rw [acb hv] at V hR hX;refine au (aZ (Dj target ht _ _ fun b6 v3 pE rv zG=>?_));refine ad (st.sS (k:=k₁) hw C7 v3 pE) fun aM fZ=>?_;have ew:bh B F sl σ b6:=lo.sS (fun b hb=>⟨hw b hb,fun q=>zf b q hb⟩) fZ fB;generalize eb:(ce v sl)=zz;induction zz using az with
   | none=>rw [eb] at V;exact absurd rfl V
   | some BT=>
    rw [eb] at V hR hX;dsimp only at V hR hX;have bJ:=p.trans (fZ.weaken (Y:=fun a=>bG F a∨a∈wr) fun b hb=>.inr hb);refine au (aZ (wpAny_mono (DA A _ σ H sl v u BT aw aM ew rv eb) (fun _ bz kH=>?_) fun _ _ h=>h.elim));refine cG kH fun cg j0 i4=>?_;clear kH;have zF:P (i + 1) σ bz.heap:=it.mono zG fB i4 fun b hb=>⟨ew.bG b hb,zf b hb⟩;have dA:=bJ.trans (i4.weaken (Y:=fun a=>bG F a∨a∈wr) fun b hb=>.inl hb);refine au (hb A bz σ H BT aw hA cg j0 (fun e=>V (congrArg (R.bind · (t5 O fu b ce t m i)) e)) _ _ (fun f gE x Ql ez i9 oA cU m0 fr hV=>?_) fun e gE ez i9 oA cU ex hV=>?_)
    ·have e5:(aA O fu b BT H).bind (t5 O fu b ce t m i)=t5 O fu b ce t m i (x,Ql) ez:=congrArg (R.bind · (t5 O fu b ce t m i)) oA;rw [e5] at V hR hX;have eZ:=dA.trans (hV.weaken (Y:=fun a=>bG F a∨a∈wr) fun b hb=>.inl hb);have go:=fun V hR hX=>ih (i:=i + 1) cU m0 (it.mono zF fB hV fun b hb=>⟨j0.bG b hb,zf b hb⟩) (fun a ha=>by rw [hV.fr];exact hw a ha) eZ V hR hX;induction x with
     | next=>
      induction f<;>first|exact fr.elim|skip
      exact ba ⟨rfl,rfl,go V hR hX⟩
     | cont=>
      induction f<;>first|exact fr.elim|skip
      exact ba ⟨rfl,rfl,go V hR hX⟩
     | ret v=>
      induction f<;>first|exact fr.elim|skip
      refine cG (x_.qU (X':=bG F) (k:=gE.toks) (h':=gE.heap) (fun _ h=>h) fresh v4 eZ (fun b hb=>hb.symm) cU fun _ _ _ e=>e) fun av lR wT=>?_;exact ba (hR _ _ _ _ _ _ rfl av (m0.leave IX wT fun b hb o e=>e) (fr.move wT) lR)
    ·have eZ:=dA.trans (hV.weaken (Y:=fun a=>bG F a∨a∈wr) fun b hb=>.inl hb);refine ay hA fun outer pJ=>?_;clear hA;have h0:∀ b o,B.h₀.get? b=some o→∃ o',h₁.get? b=some o':=fun b o e=>⟨o,v4 b o (x_.keep b o e)⟩;refine aZ (Cq h0 cU pJ hf eZ.al (ex.le dA.al fun _ h=>h) fun h' tk pM=>?_);refine cG (x_.qU (X':=bG F) (k:=gE.toks) (h':=h') (fun _ h=>h) fresh v4 (eZ.tick tk) (fun b hb=>hb.symm) (cU.tick tk h0) fun _ _ _ e=>e) fun av lR wT=>?_;exact hX _ _ ez _ (congrArg (R.bind · (t5 O fu b ce t m i)) oA) av (pM.le (fun b o e=>⟨o,v4 b o e⟩) fun _ h=>h) lR
end
end
section
open PySem
section
noncomputable def acg(B:Base prog w)(A:Around)(s:Shared)(σ:Sg)(tup:Bool)(r:R It)(Q:Value→Shared→Prop):Prop:=
 ∀ pr aP t H₁ ax aa,r=.ok t H₁→af B A H₁ ax aa→aJ cq s.heap σ aa.heap ax→AF B aa ax tup t pr aP→Q pr aP
noncomputable def Itr(B:Base prog w)(A:Around)(s:Shared)(σ:Sg)(tup:Bool)(r:R It)(u:Value)(aa:Shared):Prop:=∀ Q,acg B A s σ tup r Q→aT (model prog w) A (pyIter u) Q (fun _ _=>False) aa
noncomputable def lQ(B:Base prog w)(O:dL)(n:Nat)(F:br)(tup:Bool)(it:IE)(e:Expr):Prop:=∀ A s σ H sl,b0 n A→af B A H σ s→bh B F sl σ s.heap→dB O it sl H≠.no→
 ∀ Q E,(∀ u aa,Itr B A s σ tup (dB O it sl H) u aa→Q u aa)→ny B A s σ (dB O it sl H) E→aT (model prog w) A (eval e F.env) Q E s
variable {F:br}
def zN(lo:bh B F sl σ s.heap)(h:bG F a):∃ o,s.heap.get? a=some o:=by
 rcases h with rfl|⟨id,hm⟩
 ·(refine J lo.lF fun m z1 _=>?_;(refine ik z1 fun o _ _ e _=>?_;clear z1));exact ⟨o,e⟩
 ·(refine ad (lo.hO id a hm) fun z0 _=>?_;(refine ch z0 fun cv o e _=>?_;clear z0));exact ⟨o,e⟩
def KO{iter:Expr}{b:PS}(g:R (Fl×Sl)→R (Fl×Sl))(hg:∀ r,g r≠.no→g r=r)(aw:b0 n A)(hA:∃ outer,A.frames=some (F.env::outer))(hf:F.env.frame=some L)(hi:lQ B O n F tup it iter)(ht:qq tup target)(DA:AN B n F target ce)(hb:cx B O fu n F L b body)(hs:∀ x,foldedSetIterable iter F.env x=pure x)(st:af B A H σ s)(lo:bh B F sl σ s.heap):
  aY B A F L s σ ((dB O it sl H).bind fun t H₁=>g (cQ (fun sl H=>aA O fu b sl H) ce t fu 0 sl H₁)) (do
   let x←foldedSetIterable iter F.env (←eval iter F.env)
   standAt p
   runOwn (.forLoop target (←holding [x] (pyIter x)) body [] F.env) F.env):=by
 intro V Q E hq hE;refine au (hi A s σ H sl aw st lo (fun e=>V (congrArg (R.bind · _) e)) _ _ (fun u aa h₁=>?_) fun e s' H' σ' e' a b c=>hE e s' H' σ' (congrArg (R.bind · _) e') a (b.le (fun b o e=>⟨o,e⟩) fun _ h=>rq h) c.bG);rw [hs];refine au (ba (au (eE (au (cH (gS (h₁ _ fun pr aP t H₁ ax qu e av aI b6=>?_) (fun _ _ h=>h) fun _ _ h=>h.elim))))));refine lf b6 fun I wr P z3=>?_;clear b6;subst z3;intro hit fresh z7;refine cO z7 fun h' k Bj=>?_;clear z7;subst Bj;intro hk he hP;have ev:((dB O it sl H).bind fun t H₁=>g (cQ (fun sl H=>aA O fu b sl H) ce t fu 0 sl H₁))=g (LF O fu b ce t fu 0 sl H₁):=congrArg (R.bind · _) e;rw [ev] at V hq hE;have bR:=lo.next st aI;have eg:=hg _ V;rw [eg] at V hq hE;have out:∀ a,(∃ o,qu.heap.get? a=some o)→a∉wr:=fun a h hm=>by (refine ay h fun o eo=>?_;clear h);rw [fresh a hm] at eo;injection eo
 refine F9 rfl ?_;rw [Od];refine Ya (F:=F) (L:=L) (s:={qu with heap:=h',toks:=k}) aw hA hf hit ht DA hb (fun a ha=>out a (zN bR ha)) (fun env he L' hL=>out L' ?_) av bR fresh hk fu (av.enter k fresh hk he) (bR.enter fresh hk) hP (fun a ha=>ij _ ha) (.refl _ _) V (pX.next hq aI.bG) fun e bz H' σ' e1 a b c=>?_
 ·(refine ad (av.dV env he) fun _ z2=>?_;(refine cO z2 fun AG o e1 _ e2 _=>?_;clear z2))
  rw [e1] at hL;(injection hL with e1;subst e1);exact ⟨o,e2⟩
 ·have h0:∀ b o,B.h₀.get? b=some o→∃ o',qu.heap.get? b=some o':=fun b o e=>⟨o,av.keep b o e⟩;exact aa_ (fr:=σ'.fr) hf b fun b6 tk ex=>hE _ _ H' σ' e1 (a.tick tk h0) (ex.le aI.al fun _ h=>.inr (.inr h)) (aI.bG.trans (c.tick tk))
set_option backward.match.sparseCases true in
def abY(ok:F.Ok){id:Str}{b:PS}{iter:Expr}(hf:F.env.frame=some L)(hi:F.nm[i]?=some (some id))(fw:F.env.kindOf id=some .local∨F.env.kindOf id=some .cell)(hs:∀ x,foldedSetIterable iter F.env x=pure x)(hit:lQ B O n F false it iter)(hb:cx B O fu n F L b body)(hr:cx B O fu n F L r rest):cx B O fu n F L (.fP i it b r) (.For (.Name id p) iter body [] pos::rest):=by
 intro A s σ H sl aw hA st lo;have:execs (.For (.Name id p) iter body [] pos::rest) F.env=(do standAt pos;(do let x←foldedSetIterable iter F.env (←eval iter F.env);standAt iter.pos;runOwn (.forLoop (.Name id p) (←holding [x] (pyIter x)) body [] F.env) F.env)>>=fun f=>match f with|.next=>execs rest F.env|f=>pure f):=by rw [execs_cons,arm_exec_For];simp only [bind_assoc];rfl
 refine aY.of_eq this (aY.eI ?_);show aY B A F L s σ ((dB O it sl H).bind fun t H₁=>(cQ (fun sl H=>aA O fu b sl H) (fun v sl=>some (cX sl i v)) t fu 0 sl H₁).bind fun x ag=>match x.1 with|.next=>aA O fu r x.2 ag|_=>.ok x ag) _;rw [←pU];refine aY.seq (f:=fun sl H=>aA O fu r sl H) ?_ fun mX ag bt aP aM ew=>hr A aP bt ag mX aw hA aM ew;exact KO (tup:=false) (fun r=>r) (fun _ _=>rfl) aw hA hf hit (by exact trivial) (aa3 ok hi fw) hb hs st lo
set_option backward.match.sparseCases true in
def abX(ok:F.Ok){k:Nat}{b:PS}{iter:Expr}(hf:F.env.frame=some L)(ht:AE F is elts)(hs:∀ x,foldedSetIterable iter F.env x=pure x)(hit:lQ B O n F true it iter)(hb:cx B O fu n F L b body)(hr:cx B O fu n F L r rest):cx B O fu n F L (.mA is it b r) (.For (.Tuple elts k p) iter body [] pos::rest):=by
 intro A s σ H sl aw hA st lo;have:execs (.For (.Tuple elts k p) iter body [] pos::rest) F.env=(do standAt pos;(do let x←foldedSetIterable iter F.env (←eval iter F.env);standAt iter.pos;runOwn (.forLoop (.Tuple elts k p) (←holding [x] (pyIter x)) body [] F.env) F.env)>>=fun f=>match f with|.next=>execs rest F.env|f=>pure f):=by rw [execs_cons,arm_exec_For];simp only [bind_assoc];rfl
 refine aY.of_eq this (aY.eI ?_);show aY B A F L s σ ((dB O it sl H).bind fun t H₁=>(cV (cQ (fun sl H=>aA O fu b sl H) (jK is) t fu 0 sl H₁)).bind fun x ag=>match x.1 with|.next=>aA O fu r x.2 ag|_=>.ok x ag) _;rw [←pU];refine aY.seq (f:=fun sl H=>aA O fu r sl H) ?_ fun mX ag bt aP aM ew=>hr A aP bt ag mX aw hA aM ew;exact KO (tup:=true) (fun r=>cV r) (fun _ h=>Tr h) aw hA hf hit (by exact ⟨_,_,_,rfl⟩) (aa2 ok ht) hb hs st lo
def MM{a:PE}{e:Expr}(ha:aV B O fu n F a e):lQ B O n F tup (.ex a) e:=by
 intro A s σ H sl aw st lo V Q E hq he;refine ha A s σ H sl aw st lo (fun e=>V (congrArg (R.bind · _) e)) _ _ (fun u aa v H₁ ax e av aU aI=>hq _ _ fun Q' hQ=>?_) fun e s' H' σ' e'=>he e s' H' σ' (congrArg (R.bind · _) e');have e1:dB O (.ex a) sl H=R.of (og v H₁) H₁:=congrArg (R.bind · _) e;generalize ei:(og v H₁)=zz;induction zz using az with
 | none=>exact absurd (e1.trans (congrArg (R.of · H₁) ei)) V
 | some t=>exact aZ (wpAny_mono (P5 av aU ei) (fun pr aP h=>hQ pr aP t H₁ ax aa (e1.trans (congrArg (R.of · H₁) ei)) av aI h) fun _ _ h=>h)
end
end
section
open PySem
section
variable {F:br}
def Aq{f:Value}(cC:es.all f_=true)(hk:rU B f)(cZ:kg B O fu n F ps es)(aw:b0 n A)(st:af B A H σ s)(lo:bh B F sl σ s.heap)(V:bB O ps sl H≠.no)(h:∀ vs H₁ ax us aa,bB O ps sl H=.ok vs H₁→af B A H₁ ax aa→aK prog w B.Cl ax aa.heap vs us→us.length=es.length→aJ cq s.heap σ aa.heap ax→aT (model prog w) A (call f (first++us)) Q E aa)(hE:∀ e s' H' σ',bB O ps sl H=.bad H'→af B A H' σ' s'→gN B s.heap s'.heap e ww→aJ cq s.heap σ s'.heap σ'→E e s'):
  aT (model prog w) A (callWith pos f first (backTo pos (starEach es F.env)) []) Q E s:=by
 have hp:=wN (env:=F.env) (pos:=pos) cC;refine Ap (P:=fun h=>∀ b o,B.h₀.get? b=some o→h.get? b=some o) hp hk ?_;exact cZ A s σ H sl pos aw st lo V _ _ (fun us aa vs H₁ ax e av aU aI=>⟨av.keep,h vs H₁ ax us aa e av aU.1 aU.2 aI⟩) hE
def Cf{a:PE}:bB O (.cons a .nil) sl H=(ao O a sl H).bind fun v H₁=>.ok [v] H₁:=rfl
def P6{i:Int}{t:It}{r:Addr}{tk:Tok}{t₀ nO:Tok}(st:af B A H σ s)(hr:IsRange s.heap r 0 i 1 t₀ tk nO)(e:ma (.int i)=some t):wpAny (model prog w) A (pyIter (.ref r)) (AF B s σ tup t) (fun _ _=>False) s:=by
 obtain ⟨hi,e⟩:=Jq (show (if -1000000000≤i∧i≤1000000000 then some _ else none)=some t from e);subst e;refine wpAny_pyIter_range hr (small_one (by decide) (by decide) (by exact iL (And.left hi) rfl) (by lia)) ?_;have dh:agr 0 i 1=(i.toNat:Int):=by rw [rangeSize_one];split<;>lia
 have W:=fun (A:Around) hh=>Walks.range (prog:=prog) (w:=w) (A:=A) hh s.heap.objs.size 0 1 i.toNat;rw [show i.toNat=((dR i.toNat).map fun (k:Nat)=>PV.int k).length by simp] at W;refine qS rfl W (by simp) (fun k h st=>⟨_,_,st,rfl,by decide,by decide +kernel⟩) ?_ st (fun b hb=>.inl (by simpa using hb)) fun j u hj hp=>?_
 ·show (s.heap.push _).get? _=_;refine (eu _ rfl).trans ?_;rw [dh];simp
 ·(refine ay hp fun t' z1=>?_;clear hp;subst z1)
  refine ⟨.int j,by simp at hj;simp [hj],?_⟩;rw [show (0:Int) + j * 1=j by lia];exact .int _ _
def B5(r:aK prog w B.Cl σ h vs [u]):∃ v,vs=[v]∧ah prog w B.Cl σ h v u:=by
 induction vs using bj with
 | nil=>injection r.sz
 | cons v l=>
  induction l using bj with
  | nil=>exact ⟨v,rfl,r.all 0 v u rfl rfl⟩
  | cons _ _=>cases r.sz
def ach(fc:Facts B)(ok:F.Ok){a:PE}{e:Expr}{id:Str}(gv:id="range")(hx:F.env.kindOf id=some .globalImplicit)(he:f_ e=true)(ha:aV B O fu n F a e):lQ B O n F tup (.kt a) (.Call (.Name id p) [e] [] pos):=by
 subst gv;intro A s σ H sl aw st lo V Q E hq hE;refine ad (fc.rm "range" (.type "range") (by decide +kernel)) fun h1 h2=>?_;have Df:dB O (.kt a) sl H=(bB O (.cons a .nil) sl H).bind fun vs H₁=>R.of (vs.head?.bind ma) H₁:=by rw [Cf,pU];rfl
 rw [Df] at V hq hE;refine pP (aZ (tg st ok h1 h2 hx (by decide +kernel) ?_));refine Aq (O:=O) (fu:=fu) (first:=[]) (by rw [Ba,he];rfl) y6 (AK he ha t6) aw st lo (fun e=>V (congrArg (R.bind · _) e)) (fun vs H₁ ax us aa ev av aU hl aI=>?_) fun e s' H' σ' e'=>hE e s' H' σ' (congrArg (R.bind · _) e');have ev:((bB O (.cons a .nil) sl H).bind fun vs H₁=>R.of (vs.head?.bind ma) H₁)=R.of (vs.head?.bind ma) H₁:=congrArg (R.bind · _) ev;rw [ev] at V hq;generalize er:(vs.head?.bind ma)=zz;induction zz using az with
 | none=>rw [er] at V;exact absurd rfl V
 | some t=>
  rw [er] at hq;generalize u1:us=zz;induction zz using bj with
  | nil=>subst u1;injection hl
  | cons u us=>
   subst u1;induction us using bj with
   | cons _ _=>cases hl
   | nil=>
    refine J (B5 aU) fun v z1=>?_;subst z1;intro ru;obtain ⟨i,rfl⟩:∃ i,v=.int i:=by induction v using PV.casesOn<;>first|exact ⟨_,rfl⟩|injection er
    obtain ⟨tk,rfl⟩:∃ tk,u=.int i tk:=by cases ru;exact ⟨_,rfl⟩
    refine aZ (call_range_1 (hq _ _ fun Q' hQ=>?_));have hk:=iq (h:=aa.heap) {cls:=.type "range",data:=.fields #[.int 0 aa.toks,.int i tk,.int 1 (aa.toks + 1)]};have aM:=av.grow (k:=aa.toks + 1 + 1) hk;exact aZ (wpAny_mono (P6 (tup:=tup) aM (IsRange.new ..) er) (fun pr aP h=>hQ pr aP t H₁ ax _ rfl aM (aI.trans (.grow hk)) h) fun _ _ h=>h)
noncomputable def Ea:Qp→Option It
 | [.fl l]=>some (.fix (l.mapIdx fun i v=>.tup [.int i,v]))
 | _=>none
def aci(fc:Facts B)(ok:F.Ok){a:PE}{e:Expr}{id:Str}(gv:id="enumerate")(hx:F.env.kindOf id=some .globalImplicit)(he:f_ e=true)(ha:aV B O fu n F a e):lQ B O n F true (.enum a) (.Call (.Name id p) [e] [] pos):=by
 subst gv;intro A s σ H sl aw st lo V Q E hq hE;refine ad (fc.rm "enumerate" (.type "enumerate") (by decide +kernel)) fun h1 h2=>?_;have Df:dB O (.enum a) sl H=(bB O (.cons a .nil) sl H).bind fun vs H₁=>R.of (Ea vs) H₁:=by rw [Cf,pU];show (ao O a sl H).bind _=_;congr 1;funext v H₁;induction v using PV.casesOn<;>rfl
 rw [Df] at V hq hE;refine pP (aZ (tg st ok h1 h2 hx (by decide +kernel) ?_));refine Aq (O:=O) (fu:=fu) (first:=[]) (by rw [Ba,he];rfl) y6 (AK he ha t6) aw st lo (fun e=>V (congrArg (R.bind · _) e)) (fun vs H₁ ax us aa ev av aU hl aI=>?_) fun e s' H' σ' e'=>hE e s' H' σ' (congrArg (R.bind · _) e');have ev:((bB O (.cons a .nil) sl H).bind fun vs H₁=>R.of (Ea vs) H₁)=R.of (Ea vs) H₁:=congrArg (R.bind · _) ev;rw [ev] at V hq;generalize u1:us=zz;induction zz using bj with
 | nil=>subst u1;injection hl
 | cons u us=>
  subst u1;induction us using bj with
  | cons _ _=>cases hl
  | nil=>
   refine J (B5 aU) fun v z1=>?_;subst z1;intro ru;induction ru using ah.casesOn with
   | @fl l la us nn ex no sz all=>
    have hL:aa.heap.IsList la us:=⟨_,ex,rfl,_,rfl⟩;refine aZ (call_enumerate_list hL fun h' re fN dh hk=>hq _ _ fun Q' hQ=>?_);have fresh:∀ b∈[aa.heap.objs.size + 1,aa.heap.objs.size],aa.heap.get? b=none:=fun b hb=>sh (by
     rcases cA.mp hb with rfl|hb
     ·exact uf _
     ·rw [bZ.mp hb];exact aS _)
    refine aZ (wpAny_pyIter_enum (s:={aa with heap:=h'}) re (hQ _ _ _ H₁ ax aa rfl av aI ⟨aa.heap.objs.size + 1,[aa.heap.objs.size + 1,aa.heap.objs.size],MR B l us (aa.heap.objs.size + 1) aa.heap.objs.size la,rfl,U0 (Nat.succ_ne_self _),fresh,h',aa.toks,rfl,hk,fun b hb=>?_,?_⟩))
    ·rcases cA.mp hb with rfl|hb
     ·exact ⟨_,re⟩
     ·rw [bZ.mp hb];refine J fN fun o e _=>?_;clear fN;exact ⟨o,e⟩
    ·exact ⟨ij _ (bC ..),ij _ (bM _ (bC ..)),⟨_,re⟩,fN,wM no (ng fresh ex),⟨_,hk _ _ ex⟩,⟨sz,fun i v u a b=>((nW sz all).all i v u a b).enter fresh hk⟩⟩
   | _=>exact absurd rfl V
set_option backward.match.sparseCases true in
def ML{a:PE}{o:Expr}(hn:name="values")(we:nZ o=true)(hp:(apos.endLine==pos.line)=true)(ha:aV B O fu n F a o):lQ B O n F tup (.vals a) (.Call (.Attribute o name apos) [] [] pos):=by
 subst hn;intro A s σ H sl aw st lo V Q E hq hE;rw [Ev we rfl (by decide) hp];refine au (ha A s σ H sl aw st lo (fun e=>V (congrArg (R.bind · _) e)) _ _ (fun u aa v H₁ ax ev av aU aI=>?_) fun e s' H' σ' e'=>hE e s' H' σ' (congrArg (R.bind · _) e'));have ev:dB O (.vals a) sl H=_:=congrArg (fun r:R PV=>r.bind fun v H₁=>(match v with|.fd l=>.ok (.fix (l.map (·.2))) H₁|_=>.no:R It)) ev;rw [ev] at V hq;have bR:=lo.next st aI;induction aU using ah.casesOn with
 | @fd l d kvs ex sm no ks all=>
  have rk:fE prog w B.Cl ax aa.heap l kvs:=⟨ks,all⟩;have hT:aa.TypeIs (.ref d) "dict":=ex.mapOf.typeIs;refine au (eE (au (cH ?_)));refine aZ (getMethod_builtin hT PySem.F.plainAttrs_dict adF PySem.F.type_dict_values (fun a' e'=>by (injection e' with e1;subst e1);refine dS ex fun o' es ep g1 g2 _=>?_;clear ex;exact ⟨o',g1,g2.2.1⟩) ?_);refine Aq (O:=O) (fu:=fu) (first:=[.ref d]) (es:=[]) (ps:=.nil) rfl y7 t6 aw av bR (fun h=>by injection (show R.ok [] H₁=.no from h)) (fun vs ag bt us aP Zg aM dP hl bJ=>?_) fun e s' H' σ' e'=>nomatch e'
  (injection Zg with e1 e2;subst e1 e2)
  obtain rfl:=dP.nil_inv;have rA:aP.heap.DictOf (strKind prog w) d kvs:=by refine dS (id ex) fun o' es ep g1 g2 g3=>?_;refine J (bJ.kp d o' (fun q=>no (.inl q)) (fun q=>q) g1) fun vf X5 kp=>?_;exact ⟨o',es,ep,by rw [X5,kp.exact (by rw [g2.1];simp)],g2,g3⟩
  have Ti:¬ c_ bt d:=by (refine ik ex fun o' _ _ g1 _=>?_;clear ex);exact ph bJ g1 no
  have RJ:=rk.b_ bJ;refine aZ (call_meetsIn adF rA.mapOf.typeIs PySem.F.entry_dict_values (PySem.F.args_dict_values_1 _) (meets_dict_values (strKind prog w) d (l7 sm)) ⟨⟨kvs,rA⟩,hq _ _ fun Q' hQ=>?_⟩);have hk:=iq (h:=aP.heap) {cls:=.type "dict_values",data:=.fields #[.ref d]};have cg:=aM.grow (k:=aP.toks) hk;have hv:(aP.heap.push {cls:=.type "dict_values",data:=.fields #[.ref d]}).IsValuesView aP.heap.objs.size d:=⟨_,eu _ rfl,rfl,rfl⟩;refine sq (id rA) fun od es ep g1 g2 g3 g4 g5 g6=>?_;have hm:(aP.heap.push {cls:=.type "dict_values",data:=.fields #[.ref d]}).DictAt (strKind prog w) d kvs ep:=⟨od,es,hk _ _ g1,g2,g3,g4,g5,g6⟩;have hlen:kvs.length=(l.map (·.2)).length:=(aQ _).symm.trans ((congrArg i7 ks).trans ((aQ _).trans (aQ _).symm));have q8:d≠(aP.heap.push {cls:=.type "dict_values",data:=.fields #[.ref d]}).objs.size:=mM (kn (hk _ _ g1));have W:=fun (A:Around) hh=>Walks.dictValues (prog:=prog) (w:=w) (A:=A) (knd:=strKind prog w) hh (aP.heap.push {cls:=.type "dict_values",data:=.fields #[.ref d]}).objs.size d q8 kvs ep;rw [hlen] at W;refine aZ (wpAny_pyIter_values (s:={aP with heap:=aP.heap.push {cls:=.type "dict_values",data:=.fields #[.ref d]}}) hv hm (hQ _ _ _ _ _ _ rfl cg (aI.trans (bJ.trans (.grow hk))) (qS (tup:=tup) rfl W (by simp) (fun i h st=>by (refine ad st fun z0 _=>?_;clear st;(refine ci z0 fun o' g c _=>?_;clear z0));exact ⟨o',_,g,c,by decide,by decide +kernel⟩)
   ⟨⟨_,eu _ rfl,rfl,by rw [hlen];rfl⟩,⟨od,es,fh _ (hk _ _ g1),g2,g3,g4,g5,g6⟩⟩ cg (fun b hb=>by
    rcases cA.mp hb with rfl|hb
    ·exact .inl rfl
    ·rw [bZ.mp hb];exact .inr ⟨Ti,od,hk _ _ g1,by rw [g2.1];simp⟩) fun j u hj hp=>?_)))
  refine ay hp fun k dY=>?_;clear hp;have v5:j < l.length:=by simpa using hj
  refine ⟨l[j].2,by simp [v5],?_⟩;exact ((RJ.all j l[j].1 l[j].2 k u (by simp [v5]) dY)).b_ (.grow hk)
 | _=>exact absurd rfl V
end
end
section
open PySem
section
variable {Cl:Nat→Addr}
def af.yr{ds':List Addr}{t:List (Addr×Addr)}{k:Nat}(st:af B A H ⟨t,ds++fr⟩ s)(hA:∀ env∈A.frames.getD [],∀ L,env.frame=some L→L∉ds)(Ds:∀ b∈fr,b∉ds)(di:∀ b o,b∉ds→s.heap.get? b=some o→h'.get? b=some o)(hd:∀ b∈ds',b∈ds∧∃ o,h'.get? b=some o):
  af B A H ⟨t,ds'++fr⟩ {s with heap:=h',toks:=k}∧jM ⟨t,ds++fr⟩ s.heap ⟨t,ds'++fr⟩ h':=by
 have S:jM ⟨t,ds++fr⟩ s.heap ⟨t,ds'++fr⟩ h':=by
  refine ⟨fun _ _ e=>e,fun b o e hn _=>⟨fun hb=>hn ?_,di b o (fun q=>hn (.inr (ij _ q))) e⟩⟩;rcases hb with hb|hb
  ·exact .inl hb
  ·rcases cy.mp hb with hb|hb
   ·exact .inr (ij _ (hd b hb).1)
   ·exact .inr (eW _ hb)
 have qM:∀ b,b∈dQ t→b∉ds:=fun b hb q=>(st.inv.low b hb).2.2 (ij _ q);refine ⟨⟨fun b o e=>di b o (fun q=>by have:=(st.inv.cS b (ij _ q)).1;rw [e] at this;injection this) (st.keep b o e),⟨st.inv.len,fun i o p a b=>(st.inv.obj i o p a b).move S (fun ob e=>di _ _ (qM _ (dC b).1) e) (fun ob e=>di _ _ (qM _ (dC b).2) e),st.inv.apart,fun b hb=>?_,fun b hb=>?_⟩,st.gens,st.os,fun env hm=>?_⟩,S⟩
 ·have:=st.inv.low b hb;exact ⟨this.1,this.2.1.imp fun o e=>di b o (qM b hb) e,fun hm=>this.2.2 (by
   rcases cy.mp hm with hm|hm
   ·exact ij _ (hd b hm).1
   ·exact eW _ hm)⟩
 ·rcases cy.mp hb with hb|hb
  ·exact ⟨(st.inv.cS b (ij _ (hd b hb).1)).1,(hd b hb).2⟩
  ·have:=st.inv.cS b (eW _ hb);exact ⟨this.1,this.2.imp fun o e=>di b o (Ds b hb) e⟩
 ·(refine ad (st.dV env hm) fun a z2=>?_;(refine i_ z2 fun L o b c d e1 e2=>?_;clear z2))
  have hL:=hA env hm L b;refine ⟨a,L,o,b,?_,di L o hL d,e1,e2⟩;rcases cy.mp c with c|c
  ·exact absurd c hL
  ·exact eW _ c
def af.aby{d:Addr}{t:List (Addr×Addr)}{o:PO}(st:af B A H ⟨t,d::fr⟩ s)(Ds:d∉fr)(hA:∀ env∈A.frames.getD [],env.frame≠some d)(ro:jM ⟨t,d::fr⟩ s.heap ⟨t++[(d,d)],fr⟩ s.heap→hZ prog w B.Cl ⟨t++[(d,d)],fr⟩ s.heap o (d,d)):
  af B A (H++[o]) ⟨t++[(d,d)],fr⟩ s∧jM ⟨t,d::fr⟩ s.heap ⟨t++[(d,d)],fr⟩ s.heap:=by
 have mo:∀ b,b∈own ⟨t++[(d,d)],fr⟩↔b∈dQ t∨b=d:=fun b=>by
  rw [show own ⟨t++[(d,d)],fr⟩=dQ (t++[(d,d)]) from rfl,vb,cy];simp [dQ]
 have pg:∀ b,b∈dQ t→b≠d:=fun b hb q=>(st.inv.low b hb).2.2 (by rw [q];exact bC ..);have S:jM ⟨t,d::fr⟩ s.heap ⟨t++[(d,d)],fr⟩ s.heap:=by
  refine ⟨fun n p e=>by rw [show (Sg.mk (t++[(d,d)]) fr).t=t++[(d,d)] from rfl,eX (cF.mp e).1];exact e,fun b o e hn _=>⟨fun hb=>hn ?_,e⟩⟩;rcases hb with hb|hb
  ·rcases (mo b).mp hb with hb|rfl
   ·exact .inl hb
   ·exact .inr (bC ..)
  ·exact .inr (bM _ hb)
 have ro:=ro S;refine ⟨⟨st.keep,⟨?_,fun i o' p a b=>?_,fun i j p q a b j4=>?_,fun b hb=>?_,fun b hb=>st.inv.cS b (bM _ hb)⟩,st.gens,st.os,fun env hm=>?_⟩,S⟩
 ·have:=st.inv.len;simp at this⊢;exact this
 ·by_cases hi:i < H.length
  ·rw [eX hi] at a;rw [show (Sg.mk (t++[(d,d)]) fr).t=t++[(d,d)] from rfl,eX (by rw [show t.length=H.length from st.inv.len];exact hi)] at b;exact (st.inv.obj i o' p a b).move S (fun ob e=>e) (fun ob e=>e)
  ·have gK:i=H.length:=by
    have:=(cF.mp a).1;simp at this;exact Ny this hi
   subst gK;rw [gD (aS _)] at a;rw [show (Sg.mk (t++[(d,d)]) fr).t=t++[(d,d)] from rfl,←show t.length=H.length from st.inv.len,gD (aS _)] at b;simp at a b;subst a b;exact ro
 ·have last:∀ (i:Nat) p,t.length≤i→(t++[(d,d)])[i]?=some p→p=(d,d)∧i=t.length:=fun i p hi e=>by
   have h1:=(cF.mp e).1;rw [gD hi] at e;have hb:=jP e;simp at hb h1;exact ⟨hb,by exact Fm (Fk h1) hi⟩
  have old:∀ (i:Nat) p,t[i]?=some p→p.1≠d∧p.2≠d:=fun i p e=>⟨pg _ (dC e).1,pg _ (dC e).2⟩;change (t++[(d,d)])[i]?=some p at a;change (t++[(d,d)])[j]?=some q at b;rcases xp i t.length with hi|hi<;>rcases xp j t.length with hj|hj
  ·rw [eX hi] at a;rw [eX hj] at b;exact st.inv.apart i j p q a b j4
  ·rw [eX hi] at a;have h1:=old _ _ a;refine ad (last _ _ hj b) fun z0=>?_;subst z0;intro _;exact ⟨h1.1,h1.1,h1.2,h1.2⟩
  ·rw [eX hj] at b;have h1:=old _ _ b;refine ad (last _ _ hi a) fun z0=>?_;subst z0;intro _;exact ⟨h1.1.symm,h1.2.symm,h1.1.symm,h1.2.symm⟩
  ·have h1:=last _ _ hi a;have h2:=last _ _ hj b;lia
 ·rcases (mo b).mp hb with hb|rfl
  ·have:=st.inv.low b hb;exact ⟨this.1,this.2.1,fun hm=>this.2.2 (bM _ hm)⟩
  ·have:=st.inv.cS b (bC ..);exact ⟨this.1,this.2,Ds⟩
 ·(refine ad (st.dV env hm) fun a z2=>?_;(refine i_ z2 fun L o' b c e e1 e2=>?_;clear z2))
  refine ⟨a,L,o',b,?_,e,e1,e2⟩;rcases cA.mp c with rfl|c
  ·exact absurd b (hA env hm)
  ·exact c
def aJ.HM{X:Addr→Prop}{t t':List (Addr×Addr)}{f g:List Addr}{f':List Addr}(p:aJ X h ⟨t,f⟩ h' ⟨t',f'⟩):aJ X h ⟨t,g⟩ h' ⟨t',g⟩:=⟨p.kp,p.pre,rfl,p.new,p.al⟩
def aJ.trim{X Y:Addr→Prop}(p:aJ X h σ h' σ')(hX:∀ b,X b→Y b∨h.get? b=none):aJ Y h σ h' σ':=
 ⟨fun b o hb hy e=>p.kp b o hb (fun hx=>(hX b hx).elim hy fun q=>by rw [e] at q;injection q) e,p.pre,p.fr,p.new,p.al⟩
def aJ.before{X:Addr→Prop}{t' f':_}(p:aJ X h₁ (eU ds σ) h' ⟨t',f'⟩)(hk:∀ b o,h.get? b=some o→h₁.get? b=some o):aJ X h σ h' ⟨t',σ.fr⟩:=
 ⟨fun b o hb hx e=>p.kp b o hb hx (hk b o e),p.pre,rfl,fun b hb=>(p.new b hb).imp id (fun q=>by
  generalize e:(h.get? b)=zz;induction zz using az with
  | none=>rfl
  | some o=>rw [hk b o e] at q;injection q),fun b o e=>p.al b o (hk b o e)⟩
def aJ.owned{X:Addr→Prop}{t' f':_}{d:Addr}(p:aJ X h σ h' ⟨t',f'⟩)(hd:h.get? d=none):aJ X h σ h' ⟨t'++[(d,d)],f'⟩:=
 ⟨p.kp,by refine ay p.pre fun τ e=>?_;exact ⟨τ++[(d,d)],by rw [←dz];exact congrArg (·++[(d,d)]) e⟩,p.fr,fun b hb=>by
  rw [show own ⟨t'++[(d,d)],f'⟩=dQ (t'++[(d,d)]) from rfl,vb,cy] at hb;rcases hb with hb|hb
  ·exact p.new b hb
  ·simp [dQ] at hb;exact .inr (hb ▸ hd),p.al⟩
end
end
section
open PySem
section
variable {F:br}
theorem GD{env:Env}:∀ ifs:Qe,(forIn ifs false fun c r=>if r=true then do let ok←isTrue c env (eval c env);pure (oV ok) else pure (oV r))=(pure false:Sem Bool)
 | []=>rfl
 | c::ifs=>by
  rw [ux];show (pure (oV false)>>=_:Sem Bool)=_;rw [pure_bind];exact GD ifs
def PC(ifs:Qe)(hT:nw B O fu n F bf ifs)(aw:b0 n A)(st:af B A H σ s)(lo:bh B F sl σ s.heap):
  aj B A s σ (fK O bf sl H) (forIn ifs true fun c r=>if r=true then do let ok←isTrue c F.env (eval c F.env);pure (oV ok) else pure (oV r)) E1:=by
 induction ifs generalizing bf s σ H with
 | nil=>
  induction bf using bg.casesOn with
  | nil=>rw [A8];exact aj.pure st rfl
  | cons c cs=>exact hT.elim
 | cons e es ih=>
  induction bf using bg.casesOn with
  | nil=>exact hT.elim
  | cons c cs=>
   rw [ux];show aj B A s σ ((bK O c sl H).bind fun b H₁=>match b with|true=>fK O cs sl H₁|false=>.ok false H₁) ((do let ok←isTrue e F.env (eval e F.env);pure (oV ok))>>=_) _;rw [bind_assoc];refine aj.bind (hT.1 A s σ H sl aw st lo) fun b H₁ ax u aa _ av rb aI=>?_;subst rb;rw [pure_bind];induction u with
   | true=>exact ih hT.2 av (lo.next st aI)
   | false=>show aj B A aa ax _ (forIn es false _) _;rw [GD];exact aj.pure av rfl
def LC(O:dL)(bf:bg)(pe:PE)(sl:Sl)(r:Qp)(H:Hp):R Qp:=fm (fun sl H=>fK O bf sl H) (fun sl H=>ao O pe sl H) sl r H
noncomputable def w3(O:dL)(bf:bg)(pe:PE)(sl:Sl)(r:Qp)(u:PV)(H:Hp):R Qp:=(LC O bf pe sl r H).bind fun us bH=>.ok (u::us) bH
def LCt(O:dL)(bf:bg)(pe:PE)(sl:Sl)(v:PV)(r:Qp)(b:Bool)(H:Hp):R Qp:=match b with
 | false=>LC O bf pe sl r H
 | true=>(ao O pe (some v::sl) H).bind (w3 O bf pe sl r)
noncomputable def CTo(B:Base prog w)(A:Around)(D C:Addr)(wr:List Addr)(X:Addr→Prop)(h₁:Heap)(σ₀:Sg)(acc:Qp)(r:R Qp)(Rs:Result→Shared→Prop):Prop:=
 ∀ f vs H' bt aP us k h' tk,r=.ok vs H'→af B A H' bt aP→(∃ m,aP.heap.Ns C m)→aP.heap.get? D=some {cls:=.type "list",data:=.seq us k}→aK prog w B.Cl bt aP.heap (acc++vs) us.toList→aJ X h₁ σ₀ aP.heap bt→(∀ b o,b∉wr→aP.heap.get? b=some o→h'.get? b=some o)→Rs (.ok f) {aP with heap:=h',toks:=tk}
def CS{D:Addr}{X:Addr→Prop}(p:aJ X h σ h' σ')(fB:D∉own σ)(hX:¬ X D)(hc:o.cls≠.type "frame")(e:h.get? D=some o):h'.get? D=some o:=by refine J (p.kp D _ fB hX e) fun o' e' kp=>?_;rw [e',kp.exact hc]
def aaj{iter:Expr}{x:Str}{D:Addr}{P:Nat→Sg→Heap→Prop}{X:Addr→Prop}(ok:F.Ok)(aw:b0 n A)(it:Iter B (.fix l) false I wr P)(qY:F.nm[0]?=some (some x))(hx:F.env.kindOf x=some .local)(he:aV B O fu n F pe elt)(hT:nw B O fu n F bf ifs)(g9:l.length≤aC)(VG:F.env.locals∉wr)(VH:∀ a,bG F a→a∉wr)(hD:D∉wr)(Kv:¬ bG F D)(C7:∀ env∈A.frames.getD [],∀ L,env.frame=some L→L∉wr)(Xq:∀ b∈wr,X b)(Xs:X F.env.locals)(Xt:X D)(r:Qp){o:Qq}{acc:Qp}{us:Qv}{k:Nat}(hr:l.drop i=r)(DC:acc.length≤i)(st:af B A H σ s)(lo:bh B F (o::sl) σ s.heap)(hP:P i σ s.heap)(hw:∀ a∈wr,a∈σ.fr)(rj:D∈σ.fr)(eD:s.heap.get? D=some {cls:=.type "list",data:=.seq us k})(rs:aK prog w B.Cl σ s.heap acc us.toList)(p:aJ X h₁ σ₀ s.heap σ)(V:cV (LC O bf pe sl r H)≠.no)(hR:CTo B A D F.env.locals wr X h₁ σ₀ acc (LC O bf pe sl r H) Rs):
   dl (model prog w) A (.compLoop (.ListComp elt [⟨.Name x px,iter,ifs,0⟩] scope pos) 0 (.ref I) (.ref D) F.env) Rs s:=by
 induction r generalizing i o acc us k H s σ with
 | nil=>refine lM ?_;show aT _ A ((compTurn (.ListComp elt [⟨.Name x px,iter,ifs,0⟩] scope pos) 0 (.ref I) (.ref D) F.env).onRaise (fun x=>do noteFrame x F.env;theTreesLotGoes x)) _ _ s;refine qj ?_;rw [ac1];refine au (eE (au (aZ (it.next aw.hd st hP hw ⟨_,rfl⟩ (fun hh kk zp hm=>ba (hR _ [] H σ s us k hh kk rfl st (lo.lF.imp fun _ h=>h.1) eD (by rw [gP];exact rs) p zp)) fun u v hh kk zp hv _=>nomatch (Fv (aez.mp hr)).symm.trans (Option.some.inj hv)))))
 | cons v r ih=>
  have fB:∀ b∈σ.fr,b∉own σ:=fun b hb ho=>(st.inv.low b ho).2.2 hb;refine ad (Iy V) fun n1 n2=>?_;have hv:l[i]?=some v:=by
   have:=congrArg List.head? hr
   rwa [List.head?_drop] at this
  have JV:l.drop (i + 1)=r:=by rw [←List.drop_drop,hr];rfl
  refine lM ?_;show aT _ A ((compTurn (.ListComp elt [⟨.Name x px,iter,ifs,0⟩] scope pos) 0 (.ref I) (.ref D) F.env).onRaise (fun x=>do noteFrame x F.env;theTreesLotGoes x)) _ _ s;refine qj ?_;rw [ac1];refine au (eE (au (aZ (it.next aw.hd st hP hw ⟨_,rfl⟩ (fun hh kk zp hm=>nomatch hv.symm.trans (Option.some.inj hm)) fun u v' hh kk zp C9 Dj=>?_))))
  ·obtain rfl:v=v':=Option.some.inj (hv.symm.trans (Option.some.inj C9));refine au (aZ (Dj (.Name x px) trivial _ _ fun b6 v3 pE rv zG=>?_));refine ad (st.sS (k:=kk) hw C7 v3 pE) fun aM fZ=>?_;refine au (aZ (wpAny_assign_Name (GR ok qY hx aM (lo.sS (fun b hb=>⟨hw b hb,fun q=>VH b q hb⟩) fZ fB) rv fun kH afG cg j0 i4=>?_)));change bh B F (some v::sl) σ kH at j0;have Ks:∀ b,b=F.env.locals→b∈σ.fr:=fun b e=>e ▸ lo.jF;have zF:P (i + 1) σ kH:=it.mono zG fB i4 fun b hb=>⟨Ks b hb,hb ▸ VG⟩;have dA:=(p.trans (fZ.weaken Xq)).trans (i4.weaken (Y:=X) fun b hb=>hb ▸ Xs);have HF:=(rs.mono fZ hw).mono i4 Ks;have Lp:=CS i4 (fB D rj) (fun q=>Kv (.inl q)) (by simp) (v3 D _ hD eD);clear rs eD hP zG lo pE v3 rv fZ i4 aM p;have hl:LC O bf pe sl (v::r) H=(fK O bf (some v::sl) H).bind (LCt O bf pe sl v r):=rfl;rw [hl] at V n1 n2 hR;refine au (PC ifs hT aw cg j0 (fun e=>n1 (congrArg (R.bind · (LCt O bf pe sl v r)) e)) _ _ (fun b gE b' ez i9 oA cU rb eZ=>?_) fun e s' H' σ' e' _ _ _=>absurd (congrArg (R.bind · (LCt O bf pe sl v r)) e') (n2 H'));subst rb;have e4:(fK O bf (some v::sl) H).bind (LCt O bf pe sl v r)=LCt O bf pe sl v r b ez:=congrArg (R.bind · (LCt O bf pe sl v r)) oA;rw [e4] at V n1 n2 hR;have m0:=j0.next cg eZ;have wh:P (i + 1) i9 gE.heap:=it.mono zF fB eZ fun b hb=>hb.elim;have HP:=dA.trans (eZ.weaken (Y:=X) fun _ h=>h.elim);have HE:=HF.b_ eZ;have Lw:∀ b∈i9.fr,b∉own i9:=fun b hb ho=>(cU.inv.low b ho).2.2 hb;have Lo:=CS eZ (fB D rj) (fun q=>q) (by simp) Lp;have JP:∀ a∈wr,a∈i9.fr:=fun a ha=>by rw [eZ.fr];exact hw a ha
   have DK:D∈i9.fr:=by rw [eZ.fr];exact rj
   induction b with
   | false=>exact au (ba (ba ⟨rfl,rfl,ih JV (oO DC) cU m0 wh JP DK Lo HE HP V hR⟩))
   | true=>
    clear j0 zF dA HF Lp cg hw;refine au (au (he A gE i9 ez (some v::sl) aw cU m0 (fun e=>n1 (congrArg (R.bind · (w3 O bf pe sl r)) e)) _ _ (fun y uS Bq MN qg Zb kq Rv qF=>?_) fun e s' H' σ' e' _ _ _=>absurd (congrArg (R.bind · (w3 O bf pe sl r)) e') (n2 H')));have e6:LCt O bf pe sl v r true ez=w3 O bf pe sl r Bq MN:=congrArg (R.bind · (w3 O bf pe sl r)) Zb;rw [e6] at V n1 n2 hR;have qT:=m0.next cU qF;have Xz:P (i + 1) qg uS.heap:=it.mono wh Lw qF fun b hb=>hb.elim;have R2:=HP.trans (qF.weaken (Y:=X) fun _ h=>h.elim);have HD:=HE.b_ qF;have Lv:∀ b∈qg.fr,b∉own qg:=fun b hb ho=>(kq.inv.low b ho).2.2 hb;have tQ:=CS qF (Lw D DK) (fun q=>q) (by simp) Lo;have VD:∀ a∈wr,a∈qg.fr:=fun a ha=>by rw [qF.fr];exact JP a ha
    have DJ:D∈qg.fr:=by rw [qF.fr];exact DK
    have rc:i < l.length:=(cF.mp hv).1;refine au (aZ (call_meets PySem.F.slot_list_append ⟨_,tQ,rfl⟩ PySem.F.entry_list_append (PySem.F.args_list_append_2 _ _) (list_append D us k y (by rw [sizeLine_eq];exact aB (show us.size≤i from aB (dM HD.sz.symm) DC) (aB (gb rc) g9))) ⟨tQ,?_⟩));have Ln:=adJ (c:="list") tQ (fun z=>z.push y);refine ad (kq.B0 (c:=D) (h':=uS.heap.update D (mK fun z=>z.push y)) (k:=uS.toks) DJ (fun b o hb e=>xB _ (Ne.symm hb) e) fun o e=>by
         rw [tQ] at e;(injection e with e1;subst e1);exact ⟨_,Ln,rfl,fun vs=>by simp⟩) fun BN pV=>?_
    have zD:∀ b,b=D→b∈qg.fr:=fun b e=>e ▸ DJ;have RB:aK prog w B.Cl qg (uS.heap.update D (mK fun z=>z.push y)) (acc++[Bq]) (us.push y).toList:=by rw [N'];exact (HD.mono pV zD).append (.cons (Rv.mono pV zD) .nil)
    refine ba (ba ⟨rfl,rfl,ih JV (by rw [bP];exact Fg DC) BN (qT.sS (fun b hb=>⟨zD b hb,fun q=>Kv (hb ▸ q)⟩) pV Lv) (it.mono Xz Lv pV fun b hb=>⟨zD b hb,hb ▸ hD⟩) VD DJ Ln RB (R2.trans (pV.weaken (Y:=X) fun b hb=>hb ▸ Xt)) ?_ fun f vs H' bt aP dX k' h' tk ev a1 a0 a2 a3=>?_⟩)
    ·generalize e:(LC O bf pe sl r MN)=zz;induction zz with
     | no=>exact absurd (congrArg (R.bind · _) e) n1
     | bad H'=>exact absurd (congrArg (R.bind · _) e) (n2 H')
     | ok a H'=>exact fun q=>nomatch q
    ·exact hR f (Bq::vs) H' bt aP dX k' h' tk (congrArg (R.bind · _) ev) a1 a0 a2 (by rw [dz] at a3;exact a3)
end
end
section
open PySem
section
variable {F:br}
def bh.HW(x:bh B F sl σ h)(fB:∀ b∈σ.fr,b∉own σ)(p:aJ cq h σ h' σ'):bh B F sl σ' h':=by
 refine ⟨?_,fun i id v h1 h2 h3=>?_,fun id a hm=>?_,p.fr ▸ x.jF⟩
 ·refine J x.lF fun m hn hv=>?_;refine lf hn fun o es ep e hd hs hf=>?_;clear hn;refine J (p.kp _ o (fB _ x.jF) (fun h=>h.elim) e) fun o' e' k=>?_;refine ⟨m,⟨o',es,ep,e',k.data.trans hd,hs,hf⟩,fun i id v h1 h2 h3=>?_⟩;refine J (hv i id v h1 h2 h3) fun u hu r=>?_;exact ⟨u,hu,r.b_ p⟩
 ·(refine cO (x.mE i id v h1 h2 h3) fun a u h4 h5 z4 r=>?_;(refine J z4 fun o e hd=>?_;clear z4))
  refine J (p.kp _ o (fB _ (x.hO id a h5).2) (fun h=>h.elim) e) fun o' e' k=>?_;exact ⟨a,u,h4,h5,⟨o',e',k.data.trans hd⟩,r.b_ p⟩
 ·(refine ad (x.hO id a hm) fun z0 fg=>?_;(refine ch z0 fun cv o e hd=>?_;clear z0))
  refine J (p.kp _ o (fB _ fg) (fun h=>h.elim) e) fun o' e' k=>?_;exact ⟨⟨cv,o',e',k.data.trans hd⟩,p.fr ▸ fg⟩
def bh.ZC{t' f':_}(x:bh B F sl σ s.heap)(st:af B A H σ s)(fresh:∀ d∈ds,s.heap.get? d=none)(P:aJ cq s.heap σ h' ⟨t',f'⟩):bh B F sl ⟨t',ds++σ.fr⟩ h':=by
 have x1:bh B F sl (eU ds σ) s.heap:=x.enter fresh fun _ _ e=>e;refine x1.HW (fun b hb ho=>?_) (σ':=⟨t',ds++σ.fr⟩) (P.HM (g:=ds++σ.fr));rcases cy.mp hb with hb|hb
 ·refine ay (st.inv.low b ho).2.1 fun o e=>?_;injection (fresh b hb).symm.trans e
 ·exact (st.inv.low b ho).2.2 hb
noncomputable def freeNames(scope:jO):Qs:=(scope.names.filter fun x=>x.2==.free).map (·.1)
structure lT(F:br)(scope:jO)(x:Str):Prop where
 kind:scope.kind=.function
 cell:∀ y∈scope.names,y.2≠.cell
 loc:∀ y∈scope.names,y.2=.local→scope.names.lookup y.1=some .local
 hx:scope.names.lookup x=some .local
 free:∀ y∈scope.names,y.2=.free→scope.names.lookup y.1=some .free∧∃ i:Nat,F.nm[i]?=some (some y.1)∧F.env.kindOf y.1=some .cell
 nd:(freeNames scope).Nodup
 odd:(x==("__debug__":Str))=false∧(x==("__classdict__":Str))=false
noncomputable def LJ(F:br):List (Str×NameKind)→List (Str×Addr)
 | []=>[]
 | (n,k)::r=>if k==.free then LJ F r++[(n,(F.env.cells.lookup n).getD 0)] else LJ F r
theorem LO{env:Env}:∀ (names:List (Str×NameKind)) (acc:List (Str×Addr)),(∀ y∈names,y.2=.free→∃ a,env.cells.lookup y.1=some a)→
  (forIn names acc fun (x:Str×NameKind) (r:List (Str×Addr))=>if (x.2==r9)=true then do let a←cellOf env x.1;pure (oV ((x.1,a)::r)) else pure (oV r))=(pure ((names.filter fun x=>x.2==.free).map (fun x=>(x.1,(env.cells.lookup x.1).getD 0)) |>.reverse |> (·++acc)):Sem (List (Str×Addr)))
 | [],acc,_=>by simp
 | (n,k)::r,acc,h=>by
  rw [ux];have hr:=fun acc=>LO r acc fun y hy=>h y (bM _ hy);generalize hk:(k==r9)=zz;induction zz with
  | false=>simp only [hk,uH,if_false,pure_bind,hr,uy]
  | true=>
   refine ay (h (n,k) (bC ..) (by simpa using hk)) fun a ha=>?_;have hc:cellOf env n=pure a:=by delta cellOf;rw [ha]
   simp only [hk,if_true,hc,pure_bind,hr,uy];have DE:(aei n env.cells).getD 0=a:=by rw [ha];rfl
   simp [DE]
noncomputable def j9(F:br)(scope:jO):List (Str×Addr):=((scope.names.filter fun x=>x.2==.free).map fun x=>(x.1,(F.env.cells.lookup x.1).getD 0)).reverse
def aaB(ok:F.Ok){x:Str}(co:lT F scope x):closureFor scope F.env=pure (j9 F scope):=by
 have:=LO (env:=F.env) scope.names [] fun y hy hf=>by
  refine ad (co.free y hy hf) fun _ z2=>?_;refine J z2 fun i hi hk=>?_;clear z2;refine J (ok.wJ i _ hi hk) fun a ha _=>?_;exact ⟨a,ha⟩
 have e:closureFor scope F.env=(forIn scope.names [] fun (x:Str×NameKind) (r:List (Str×Addr))=>if (x.2==r9)=true then do let a←cellOf F.env x.1;pure (oV ((x.1,a)::r)) else pure (oV r))>>=fun r=>pure r:=rfl;refine (e).trans ?_;rw [this];simp [j9]
def wH(ok:F.Ok){x:Str}(co:lT F scope x){m:Str}(h:(m,a)∈j9 F scope):F.env.cells.lookup m=some a∧(m,a)∈F.cells∧F.env.kindOf m=some .cell∧scope.names.lookup m=some .free∧∃ i:Nat,F.nm[i]?=some (some m):=by
 simp only [j9,p8,b7,jr] at h;refine J h fun y z1 e=>?_;clear h;refine ad z1 fun hy hf=>?_;clear z1;refine ad (co.free y hy (by simpa using hf)) fun hl z2=>?_;refine J z2 fun i hi hk=>?_;clear z2;refine J (ok.wJ i _ hi hk) fun a' ha hm=>?_;rw [ha] at e
 (injection e with e1 e2;subst e1 e2)
 exact ⟨ha,hm,hk,hl,i,hi⟩
def Ct{l:List α}(h:l.Nodup):l.reverse.Nodup:=by rw [NA,List.pairwise_reverse];exact (NA.mp h).imp fun h=>h.symm
def Eo:(j9 F scope).map (·.1)=(freeNames scope).reverse:=by simp [j9,freeNames,A2,aeU]
theorem CJ:∀ {l:List (Str×Addr)} {m:Str} {a:Addr},(l.map (·.1)).Nodup→(m,a)∈l→l.lookup m=some a
 | (k,v)::r,m,a,hn,h=>by
  rw [da,uq] at hn;rcases cA.mp h with e|h
  ·(injection e with e1 e2;subst e1 e2);simp [i5]
  ·have V:m≠k:=fun q=>hn.1 (by rw [←q];exact b7.mpr ⟨_,h,rfl⟩);rw [i5,show (m==k)=false by simp [V]];exact CJ hn.2 h
def gz(F:br)(scope:jO)(C:Addr)(x:Str):br:=
 ⟨compEnvC scope (j9 F scope) C F.env,some x::F.nm.map (fun o=>o.bind fun id=>if scope.names.lookup id=some .free then some id else none),j9 F scope⟩
theorem CI{env:Env}{m:Str}(hk:env.scope.kind=.function)(hc:env.kindOf m=some .cell):∀ {names:List (Str×NameKind)},names.lookup m=some .free→
  (names.map fun (n,k)=>if (k==r9&&env.scope.kind==.function&&env.kindOf n==some .cell) then (n,uo) else (n,k)).lookup m=some .cell
 | [],h=>by simp at h
 | (n',k)::r,h=>by
  have ih:=@CI env m hk hc r;show aei m ((if (k==r9&&env.scope.kind==.function&&env.kindOf n'==some .cell)=true then (n',uo) else (n',k))::_)=_;generalize hx:(m==n')=zz;induction zz with
  | true=>
   simp only [i5,hx] at h
   (injection h with e1;subst e1)
   have hm:m=n':=by simpa using hx
   subst hm;rw [hk,hc];simp [i5]
  | false=>
   simp only [i5,hx] at h;by_cases pF:(k==r9&&env.scope.kind==.function&&env.kindOf n'==some .cell)=true
   ·rw [if_pos pF];simp only [i5,hx];exact ih h
   ·rw [if_neg pF];simp only [i5,hx];exact ih h
def rH{x:Str}{id:Str}(h:(gz F scope C x).nm[j]?=some (some id)):(j=0∧id=x)∨∃ i,j=i + 1∧F.nm[i]?=some (some id)∧scope.names.lookup id=some .free:=by
 induction j using dN with
 | zero=>left;simp [gz] at h;exact ⟨rfl,h.symm⟩
 | succ i=>
  right;simp only [gz,List.getElem?_cons_succ,km] at h;generalize hi:F.nm[i]?=zz;induction zz using az with
  | none=>rw [hi] at h;injection h
  | some o=>
   rw [hi] at h;induction o using az with
   | none=>simp at h
   | some id'=>
    simp only [ud,xh,No] at h
    split at h
    ·(injection h with e1;subst e1);exact ⟨i,rfl,hi,by assumption⟩
    ·injection h
def EB(ok:F.Ok){x:Str}(co:lT F scope x):(gz F scope C x).env.kindOf x=some .local:=acZ co.hx
def zP(ok:F.Ok){x m:Str}(co:lT F scope x)(h:scope.names.lookup m=some .free):F.env.kindOf m=some .cell∧∃ a,(m,a)∈j9 F scope:=by have hm:=mem_of_lookup (α:=NameKind) h;refine ad (co.free _ hm rfl) fun _ z2=>?_;refine J z2 fun i hi hk=>?_;clear z2;refine ⟨hk,(F.env.cells.lookup m).getD 0,?_⟩;simp only [j9,p8,b7,jr];exact ⟨(m,.free),⟨hm,rfl⟩,rfl⟩
def L4(ok:F.Ok){x:Str}(co:lT F scope x)(hC:∀ y∈F.cells,y.2≠C):(gz F scope C x).Ok where
 fk:=co.kind
 kinds i id h:=by
  rcases rH h with ⟨rfl,rfl⟩|⟨j,rfl,hj,hl⟩
  ·exact .inl (EB ok co)
  ·exact .inr (.inl (CI ok.fk (zP ok co hl).1 hl))
 wq:=ok.wq
 blt:=ok.blt
 apart:=by
  have hn:((j9 F scope).map (·.1)).Nodup:=by rw [Eo];exact Ct co.nd
  have mz:∀ y∈j9 F scope,y∈F.cells:=fun y hy=>(wH ok co hy).2.1;rw [NA,aeb] at hn;refine hn.imp_of_mem fun {y z} hy hz V q=>V ?_;exact name_of_addr ok.apart (n:=y.1) (n':=z.1) (c:=y.2) (mz y hy) (q ▸ mz z hz)
 vy y hy:=hC y (wH ok co hy).2.1
 one i j id h h':=by
  rcases rH h with ⟨rfl,rfl⟩|⟨i',rfl,hi,hl⟩<;>rcases rH h' with ⟨rfl,q⟩|⟨j',rfl,hj,jH⟩
  ·rfl
  ·replace jH:=(co.hx).symm.trans jH;cases jH
  ·subst q;replace hl:=(co.hx).symm.trans hl;cases hl
  ·rw [ok.one i' j' id hi hj]
 wJ i id h hk:=by
  rcases rH h with ⟨rfl,rfl⟩|⟨i',rfl,hi,hl⟩
  ·replace hk:=(EB ok co).symm.trans hk;cases hk
  ·(refine ad (zP ok co hl) fun _ z2=>?_;(refine ay z2 fun a ha=>?_;clear z2))
   exact ⟨a,CJ (l:=j9 F scope) (by rw [Eo];exact Ct co.nd) ha,ha⟩
 odd i id h:=by
  rcases rH h with ⟨rfl,rfl⟩|⟨i',rfl,hi,hl⟩
  ·exact co.odd
  ·exact ok.odd i' id hi
def aaQ(ok:F.Ok){x:Str}(co:lT F scope x)(lo:bh B F sl (eU ds σ) h')(hn:∃ m,h'.Ns C m)(hC:C∈ds):bh B (gz F scope C x) (none::sl) (eU ds σ) h':=by
 refine ay hn ?_;clear hn;intro m hn;refine ⟨⟨m,hn,fun i id v h1 h2 h3=>?_⟩,fun i id v h1 h2 h3=>?_,fun id a hm=>?_,ij _ hC⟩
 ·rcases rH h1 with ⟨rfl,rfl⟩|⟨i',rfl,hi,hl⟩
  ·cases h3
  ·rw [CI (env:=F.env) ok.fk (zP ok co hl).1 hl |> (fun h=>(show (gz F scope C x).env.kindOf id=some .cell from h))] at h2;cases h2
 ·rcases rH h1 with ⟨rfl,rfl⟩|⟨i',rfl,hi,hl⟩
  ·cases h3
  ·(refine ad (zP ok co hl) fun hk z2=>?_;(refine ay z2 fun a ha=>?_;clear z2))
   refine cO (lo.mE i' id v hi (by rw [hk];simp) h3) fun a' u g1 g2 g3 g4=>?_;refine cG (wH ok co ha) fun e1 e2 _=>?_;rw [e1] at g1;(injection g1 with e1;subst e1);exact ⟨a,u,CJ (l:=j9 F scope) (by rw [Eo];exact Ct co.nd) ha,ha,g3,g4⟩
 ·exact lo.hO id a (wH ok co hm).2.1
end
end
section
open PySem
section
variable {F:br}
def aJ.last{X:Addr→Prop}{b6:Heap}(p:aJ X h σ b6 σ')(fresh:∀ d∈wr,h.get? d=none)(di:∀ b o,b∉wr→b6.get? b=some o→h'.get? b=some o):aJ X h σ h' σ' where
 kp b o hb hx e:=by refine J (p.kp b o hb hx e) fun o' e' k=>?_;exact ⟨o',di b o' (ng fresh e) e',k⟩
 pre:=p.pre
 fr:=p.fr
 new:=p.new
 al b o e:=by refine ay (p.al b o e) fun o' e'=>?_;exact ⟨o',di b o' (ng fresh e) e'⟩
def OA{c:Prop}[Decidable c]{k:PUnit→Sem α}{Q:α→Shared→Prop}(h:aT M A (k ()) Q E s):aT M A (if c then (standAt pos>>=k) else k ()) Q E s:=by
 by_cases q:c
 ·rw [if_pos q];exact au (eE h)
 ·rw [if_neg q];exact h
def aau{iter:Expr}{rest:List NX}{it acc:Value}{R:Result→Shared→Prop}(h0:dl (model prog w) A (.compLoop (.ListComp elt (⟨target,iter,ifs,0⟩::rest) scope pos) 0 it acc env) R s)(h:wpAny (model prog w) A (pyIter it) (fun Jr s'=>dl (model prog w) A (.compLoop (.ListComp elt (⟨target,iter,ifs,0⟩::rest) scope pos) 0 Jr acc env) R s') (fun _ _=>False) s):
  dl (model prog w) A (.compStart (.ListComp elt (⟨target,iter,ifs,0⟩::rest) scope pos) 0 it acc env) R s:=by
 refine lM ?_;show aT _ _ ((compStart (.ListComp elt (⟨target,iter,ifs,0⟩::rest) scope pos) 0 it acc env).onRaise (fun x=>do noteFrame x env;standAt theWindowsPlace)) _ _ s;refine qj ?_;unfold compStart;show aT _ _ (ask>>=_) _ _ s;refine au (aZ (wpAny_askSetting ?_))
 split
 ·first
   | exact au (ba (ba ⟨rfl,rfl,h0⟩))
   | exact ba ⟨rfl,rfl,h0⟩
 ·refine au (Ga ?_);show aT _ _ (standAt iter.pos>>=_) _ _ s;exact au (eE (au (aZ (wpAny_mono h (fun Jr s' h'=>ba ⟨rfl,rfl,h'⟩) fun _ _ h=>h.elim))))
def aak{iter:Expr}{x:Str}{D:Addr}{P:Nat→Sg→Heap→Prop}{k:Nat}{m:Str→Qo}(ok:F.Ok)(aw:b0 n A)(co:lT F scope x)(he:aV B O fu n (gz F scope C x) pe elt)(hT:nw B O fu n (gz F scope C x) bf ifs)(st:af B A H σ s)(lo:bh B F sl σ s.heap)(hit:Iter B (.fix l) false I wr P)(g9:l.length≤aC)(fresh:∀ d∈wr,s.heap.get? d=none)(mz:∀ b o,s.heap.get? b=some o→h.get? b=some o)(fD:s.heap.get? D=none)(fC:s.heap.get? C=none)(na:D≠C)(wj:D∉wr)(tI:C∉wr)(eD:h.get? D=some {cls:=.type "list",data:=.seq #[] 0})(q7:h.Ns C m)(hw:∀ b∈wr,∃ o,h.get? b=some o)(hP:P 0 (eU ([D,C]++wr) σ) h)(V:cV (LC O bf pe sl l H)≠.no)(hR:∀ f vs ag gf bz us k',LC O bf pe sl l H=.ok vs ag→af B A ag ⟨gf,[D,C]++σ.fr⟩ bz→bz.heap.get? D=some {cls:=.type "list",data:=.seq us k'}→aK prog w B.Cl ⟨gf,[D,C]++σ.fr⟩ bz.heap vs us.toList→(∃ m,bz.heap.Ns C m)→aJ cq s.heap σ bz.heap ⟨gf,σ.fr⟩→Rs (.ok f) bz):
  dl (model prog w) A (.compLoop (.ListComp elt [⟨.Name x px,iter,ifs,0⟩] scope ep) 0 (.ref I) (.ref D) (gz F scope C x).env) Rs {s with heap:=h,toks:=k}:=by
 have wx:∀ d∈[D,C]++wr,s.heap.get? d=none:=fun d hd=>by
  rcases cy.mp hd with hd|hd
  ·rcases cA.mp hd with rfl|hd
   ·exact fD
   ·rw [bZ.mp hd];exact fC
  ·exact fresh d hd
 have Zf:∀ d∈[D,C]++wr,∃ o,h.get? d=some o:=fun d hd=>by
  rcases cy.mp hd with hd|hd
  ·rcases cA.mp hd with rfl|hd
   ·exact ⟨_,eD⟩
   ·rw [bZ.mp hd];refine ik q7 fun o _ _ e _=>?_;clear q7;exact ⟨o,e⟩
  ·exact hw d hd
 have om:∀ y∈F.cells,y.2≠C:=fun y hy q=>by
  refine ad (lo.hO y.1 y.2 hy) fun z0 _=>?_;refine ch z0 fun cv o e _=>?_;clear z0;rw [q,fC] at e;injection e
 have Jz:∀ a,bG (gz F scope C x) a→a=C∨bG F a:=fun a ha=>by
  rcases ha with rfl|⟨id,hm⟩
  ·exact .inl rfl
  ·exact .inr (.inr ⟨id,(wH ok co hm).2.1⟩)
 have KN:∀ env∈A.frames.getD [],∀ L,env.frame=some L→L∉[D,C]++wr:=fun env he L hL hm=>by
  refine ad (st.dV env he) fun _ z2=>?_;refine cO z2 fun AG o e1 _ e2 _=>?_;clear z2;rw [e1] at hL;(injection hL with e1;subst e1);rw [wx _ hm] at e2;injection e2
 refine aaj (X:=fun b=>b∈[D,C]++wr) (h₁:=h) (σ₀:=eU ([D,C]++wr) σ) (L4 (C:=C) ok co om) aw hit rfl (EB ok co) he hT g9 tI
  (fun a ha=>by
   rcases Jz a ha with rfl|ha
   ·exact tI
   ·refine ay (zN lo ha) fun o e=>?_;exact fun q=>by rw [fresh a q] at e;injection e) wj
  (fun ha=>by
   rcases Jz _ ha with q|ha
   ·exact na q
   ·refine ay (zN lo ha) fun o e=>?_;rw [fD] at e;injection e) (fun env he L hL q=>KN env he L hL (eW _ q)) (fun b hb=>eW _ hb) (bM _ (bC ..)) (bC ..)
  l (i:=0) (o:=none) (acc:=[]) rfl (aS _) (st.enter k wx mz Zf) (aaQ ok co (lo.enter wx mz) ⟨_,q7⟩ (bM _ (bC ..))) hP (fun a ha=>ij _ (eW _ ha)) (ij _ (bC ..)) eD .nil (.refl _ _) V ?_
 intro f vs ag bt aP us kk vJ tk ev a1 a0 a2 a3 a4 a6;obtain ⟨gf,X6⟩:=bt;obtain rfl:X6=([D,C]++wr)++σ.fr:=a4.fr;refine ay a0 ?_;clear a0;intro m' a0;refine ad (af.yr (ds:=[D,C]++wr) (ds':=[D,C]) (fr:=σ.fr) (h':=vJ) (k:=tk) a1 KN (fun b hb q=>by refine ay (st.inv.cS b hb).2 fun o e=>?_;rw [wx b q] at e;injection e)
   (fun b o hb e=>a6 b o (fun q=>hb (eW _ q)) e) (fun b hb=>⟨ij _ hb,by
    rcases cA.mp hb with rfl|hb
    ·exact ⟨_,a6 _ _ wj a2⟩
    ·rw [bZ.mp hb];refine ik a0 fun o _ _ e _=>?_;clear a0;exact ⟨o,a6 _ _ tI e⟩⟩)) fun kq EU=>?_
 exact hR f vs ag gf _ us kk ev kq (a6 _ _ wj a2) (aK.move EU a3) ⟨m',a0.at fun o e=>a6 _ o tI e⟩ (((a4.before mz).last fresh a6).trim fun b hb=>.inr (wx b hb))
def LH{iter:Expr}{x:Str}{use:Option (Value→Sem Unit)}(ok:F.Ok)(aw:b0 n A)(co:lT F scope x)(hs:∀ v,foldedSetIterable iter F.env v=pure v)(hi:lQ B O n F false ie iter)(he:∀ C,(∀ y∈F.cells,y.2≠C)→aV B O fu n (gz F scope C x) pe elt)(hT:∀ C,(∀ y∈F.cells,y.2≠C)→nw B O fu n (gz F scope C x) bf ifs)(st:af B A H σ s)(lo:bh B F sl σ s.heap)(V:(dB O ie sl H).bind (fun i H₁=>match i with|.fix l=>if l.length≤aC then cV (LC O bf pe sl l H₁) else .no|_=>(.no:R Qp))≠.no)(hQ:∀ l vs H₁ ag,dB O ie sl H=.ok (.fix l) H₁→l.length≤aC→LC O bf pe sl l H₁=.ok vs ag→∀ D C gf bz us k,af B A ag ⟨gf,[D,C]++σ.fr⟩ bz→bz.heap.get? D=some {cls:=.type "list",data:=.seq us k}→
   aK prog w B.Cl ⟨gf,[D,C]++σ.fr⟩ bz.heap vs us.toList→s.heap.get? D=none→s.heap.get? C=none→D≠C→(∃ m,bz.heap.Ns C m)→aJ cq s.heap σ bz.heap ⟨gf,σ.fr⟩→
   match use with
   | none=>∀ h' m,h'.Ns C m→uB C bz.heap h'→Q (.ref D) {bz with heap:=h'}
   | some u=>aT (model prog w) A (u (.ref D)) (fun _ gE=>∃ m,gE.heap.Ns C m∧∀ h' m',h'.Ns C m'→uB C gE.heap h'→Q .none {gE with heap:=h'}) E bz)(hE:∀ e s' H' σ',dB O ie sl H=.bad H'→af B A H' σ' s'→gN B s.heap s'.heap e ww→aJ cq s.heap σ s'.heap σ'→E e s'):
  aT (model prog w) A (comprehension (.ListComp elt [⟨.Name x px,iter,ifs,0⟩] scope ep) scope F.env pos (newList []) false (eval iter F.env) use) Q E s:=by
 have g8:dB O ie sl H≠.no:=fun e=>V (congrArg (R.bind · _) e);unfold comprehension;rw [aaB ok co];refine au (hi A s σ H sl aw st lo g8 _ _ (fun u aa h₁=>?_) hE);refine au (eE (au ?_));show aT _ _ (foldedSetIterable iter F.env u) _ _ _;rw [hs];refine ba (au (cH (gS (h₁ _ fun pr aP t H₁ ax qu e av aI b6=>?_) (fun _ _ h=>h) fun _ _ h=>h.elim)));refine lf b6 fun I wr P z3=>?_;clear b6;subst z3;intro hit fresh z7;refine cO z7 fun h' k Bj=>?_;clear z7;subst Bj;intro hk hw hP;rw [e] at V;induction t with
 | dyn _=>exact absurd rfl V
 | fix l=>
  change (if l.length≤aC then cV (LC O bf pe sl l H₁) else .no)≠.no at V;have g9:l.length≤aC:=by
   by_cases h:l.length≤aC
   ·exact h
   ·exact absurd (if_neg h) V
  replace V:cV (LC O bf pe sl l H₁)≠.no:=fun q=>V ((if_pos g9).trans q);have bR:=lo.next st aI;refine OA (au (aZ (wpAny_newObj_type (hd:=by size_fits) ?_)));refine au (ba (au (aZ (wpAny_newFunctionEnv co.cell (by intro y hy;simp at hy) (fun pv q7 vS=>?_) co.kind))));dsimp only at q7 vS⊢;have hv:∀ C,∀ z∈(scope.names.filter fun z=>(z.2==.local||z.2==.cell)&&z.1 != (".0":Str)).reverse,z.2=.local→Env.kindOf (gz F scope C x).env z.1=some .local:=fun C z hz hl=>acZ (co.loc z (jr.mp (p8.mp hz)).1 hl);generalize DI:h'.push {cls:=.type "list",dict:=none,data:=.seq ([]:Qa).toArray}=hD at q7 vS⊢;have tJ:hD.objs.size=h'.objs.size + 1:=by rw [←DI,xA]
  have up:∀ b o,h'.get? b=some o→pv.get? b=some o:=fun b o e=>vS.extBut b o (by rw [tJ];exact mM (Nat.lt_succ_of_lt (kn e))) (fh _ (DI ▸ fh _ e));have eD:pv.get? h'.objs.size=some {cls:=.type "list",data:=.seq #[] 0}:=vS.extBut _ _ (by rw [tJ];exact mM (xo _)) (fh _ (DI ▸ eu _ rfl));have Cs:∀ b,h'.objs.size≤b→qu.heap.get? b=none:=fun b hb=>by
   generalize e:(qu.heap.get? b)=zz;induction zz using az with
   | none=>rfl
   | some o=>exact absurd (kn (hk b o e)) (Fi.mpr hb)
  have C6:∀ b∈wr,b < h'.objs.size:=fun b hb=>by refine ay (hw b hb) fun o e=>?_;exact kn e
  have fD:=Cs h'.objs.size (aS _);have fC:=Cs hD.objs.size (by rw [tJ];exact uf _);have na:h'.objs.size≠hD.objs.size:=by rw [tJ];exact mM (xo _)
  have wj:h'.objs.size∉wr:=fun q=>xq _ (C6 _ q);have tI:hD.objs.size∉wr:=fun q=>by have:=C6 _ q;rw [tJ] at this;exact xq _ (adW this)
  have wh:=hit.enter (ds:=[h'.objs.size,hD.objs.size]) hP (fun d hd=>sh (by
   rcases cA.mp hd with rfl|hd
   ·exact aS _
   ·rw [bZ.mp hd,tJ];exact uf _)) up
  clear hP vS Cs C6;generalize h'.objs.size=D at *;generalize hD.objs.size=C at *;have om:∀ y∈F.cells,y.2≠C:=fun y hy q=>by
   refine ad (bR.hO y.1 y.2 hy) fun z0 _=>?_;refine ch z0 fun cv o e _=>?_;clear z0;rw [q,fC] at e;injection e
  have pB:∀ b,qu.heap.get? b=none→s.heap.get? b=none:=fun b hb=>by
   generalize e:(s.heap.get? b)=zz;induction zz using az with
   | none=>rfl
   | some o=>refine ay (aI.al b o e) fun o' e'=>?_;rw [hb] at e';injection e'
  refine cH (au (Gd (cH (F_ rfl ?_))));rw [Od];refine (fun code=>aau code (hit.self aw.hd wh code)) (aak (k:=k + ([]:List (Str×Value)).length) (iter:=iter) (px:=px) (ep:=ep) ok aw co (he C om) (hT C om) av bR hit g9 fresh (fun b o e=>up b o (hk b o e)) fD fC na wj tI eD q7 (fun b hb=>by refine ay (hw b hb) fun o e=>?_;exact ⟨o,up b o e⟩) wh V
   (fun f vs ag gf bz us kk ev kq tQ rs hn PP=>?_))
  ·rw [aI.fr] at kq rs PP;have K:=hQ l vs H₁ ag e g9 ev D C gf bz us kk kq tQ rs (pB _ fD) (pB _ fC) na hn (aI.trans PP);refine ay hn ?_;clear hn;intro m hn;induction use using az with
   | none=>exact au (cH (aZ (wpAny_comp_letGo (cenv:=(gz F scope C x).env) co.kind _ bz m (hv C) hn fun pu m' iR iy=>ba (K pu m' iR iy))) |> fun h=>gS h (fun _ _ q=>q) fun _ _ q=>q)
   | some u=>refine au (Ga (au (cH (gS K (fun _ BE pu=>?_) fun _ _ h=>h))));refine J pu fun Tx Wg VZ=>?_;clear pu;exact au (aZ (wpAny_comp_letGo (cenv:=(gz F scope C x).env) co.kind _ BE Tx (fun z hz hl=>hv C z ((cy.mp hz).elim aef A1) hl) Wg fun Vr m' iR iy=>ba (VZ Vr m' iR iy)))
end
end
section
open PySem
section
variable {F:br}
def LG{m:Bool}{D:Addr}{gf:List (Addr×Addr)}{us:Qv}{k:Nat}{bz:Shared}(st:af B A H σ s)(cg:af B A ag ⟨gf,[D,C]++σ.fr⟩ bz)(eD:bz.heap.get? D=some {cls:=.type "list",data:=.seq us k})(rs:aK prog w B.Cl ⟨gf,[D,C]++σ.fr⟩ bz.heap vs us.toList)(fD:s.heap.get? D=none)(fC:s.heap.get? C=none)(na:D≠C)(P:aJ cq s.heap σ bz.heap ⟨gf,σ.fr⟩)(V:fL m vs ag≠.no):
  ∃ v H' t',fL m vs ag=.ok v H'∧af B A H' ⟨t',[C]++σ.fr⟩ bz∧ah prog w B.Cl ⟨t',[C]++σ.fr⟩ bz.heap v (.ref D)∧aJ cq s.heap σ bz.heap ⟨t',σ.fr⟩:=by
 have hA:∀ env∈A.frames.getD [],∀ L,env.frame=some L→L∉[D]:=fun env he L hL q=>by
  refine ad (st.dV env he) fun _ z2=>?_;refine cO z2 fun AG o e1 _ e2 _=>?_;clear z2;rw [e1] at hL;(injection hL with e1;subst e1);rw [bZ.mp q,fD] at e2;injection e2
 have rj:D∉[C]++σ.fr:=fun q=>by
  rcases cy.mp q with q|q
  ·exact na (bZ.mp q)
  ·refine ay (st.inv.cS D q).2 fun o e=>?_;rw [fD] at e;injection e
 have hl:=(yO V).1;induction m with
 | true=>refine ad (af.aby (o:=.list vs) (d:=D) (fr:=[C]++σ.fr) cg rj (fun env he q=>hA env he D q (bC ..)) fun S=>⟨rfl,us,k,eD,rs.move S⟩) fun cU wS=>?_;refine ⟨_,_,_,if_pos hl,cU,.loc (p:=(D,D)) ?_,P.owned fD⟩;show (gf++[(D,D)])[ag.length]?=_;rw [←cg.inv.len,gD (aS _),xl];rfl
 | false=>
  refine ad (af.yr (ds:=[D]) (ds':=[]) (fr:=[C]++σ.fr) (h':=bz.heap) (k:=bz.toks) cg hA (fun b hb q=>rj (bZ.mp q ▸ hb)) (fun _ _ _ e=>e) (fun b hb=>by cases hb)) fun cU wS=>?_;have yq:=rs.move wS;refine ⟨_,_,_,if_pos hl,cU,.fl eD (fun q=>?_) yq.sz (fun i v u a b=>yq.all i v u a (qf.trans b)),P⟩;rcases q with q|q
  ·exact (cg.inv.low D q).2.2 (bC ..)
  ·exact rj q
set_option backward.match.sparseCases true in
def CV(O:dL)(mm:Bool)(bf:bg)(pe:PE)(sl:Sl)(i:It)(H₁:Hp):R PV:=match i with
 | .fix l=>if l.length≤aC then (cV (LC O bf pe sl l H₁)).bind fun vs ag=>fL mm vs ag else .no
 | _=>.no
def MZ{r:R It}(e:r.bind (fun i H₁=>match i with|.fix l=>if l.length≤aC then cV (LC O bf pe sl l H₁) else .no|_=>(.no:R Qp))=.no):r.bind (CV O mm bf pe sl)=.no:=by
 induction r with
 | no=>rfl
 | bad _=>injection e
 | ok t H₁=>
  induction t with
  | dyn _=>rfl
  | fix l=>
   show (if l.length≤aC then (cV (LC O bf pe sl l H₁)).bind fun vs ag=>fL mm vs ag else .no)=.no;by_cases h:l.length≤aC
   ·rw [if_pos h,show cV (LC O bf pe sl l H₁)=.no from (if_pos h).symm.trans e];rfl
   ·exact if_neg h
def MY{r:R It}(e1:r=.ok (.fix l) H₁)(g9:l.length≤aC)(e2:LC O bf pe sl l H₁=.ok vs ag):r.bind (CV O mm bf pe sl)=fL mm vs ag:=by subst e1;refine (if_pos g9).trans ?_;rw [e2];rfl
set_option backward.match.sparseCases true in
def acF{iter:Expr}{x:Str}(ok:F.Ok)(co:lT F scope x)(hs:∀ v,foldedSetIterable iter F.env v=pure v)(hi:lQ B O n F false ie iter)(he:∀ C,(∀ y∈F.cells,y.2≠C)→aV B O fu n (gz F scope C x) pe elt)(hT:∀ C,(∀ y∈F.cells,y.2≠C)→nw B O fu n (gz F scope C x) bf ifs):
  aV B O fu n F (.comp mm pe ie bf) (.ListComp elt [⟨.Name x px,iter,ifs,0⟩] scope ep):=by
 intro A s σ H sl aw st lo V Q E hq hE;have D':ao O (.comp mm pe ie bf) sl H=(dB O ie sl H).bind (CV O mm bf pe sl):=rfl;rw [D'] at V hq hE;rw [PySem.eval_ListComp];refine LH (use:=none) ok aw co hs hi he hT st lo (fun e=>V (MZ e)) (fun l vs H₁ ag e1 g9 e2 D C gf bz us k cg eD rs fD fC na hn P=>?_) fun e s' H' σ' e'=>hE e s' H' σ' (congrArg (R.bind · (CV O mm bf pe sl)) e')
 ·rw [MY e1 g9 e2] at V hq;refine lf (LG st cg eD rs fD fC na P V) fun v H' t' ev cU rv hV=>?_;show ∀ h' m,h'.Ns C m→uB C bz.heap h'→_;intro h' m iR iy;have hA:∀ env∈A.frames.getD [],∀ L,env.frame=some L→L∉[C]:=fun env he L hL q=>by
   refine ad (st.dV env he) fun _ z2=>?_;refine cO z2 fun AG o e1 _ e2 _=>?_;clear z2;rw [e1] at hL;(injection hL with e1;subst e1);rw [bZ.mp q,fC] at e2;injection e2
  refine ad (af.yr (ds:=[C]) (ds':=[]) (fr:=σ.fr) (h':=h') (k:=bz.toks) cU hA (fun b hb q=>by
     refine ay (st.inv.cS b hb).2 fun o e=>?_;rw [bZ.mp q,fC] at e;injection e) (fun b o hb e=>(iy.2 b (fun q=>hb (by simp [q]))).trans e) (fun b hb=>by cases hb)) fun kq EU=>?_
  exact hq _ _ v H' ⟨t',σ.fr⟩ ev kq (rv.move EU) (hV.last (wr:=[C]) (fun d hd=>by rw [bZ.mp hd];exact fC) fun b o hb e=>(iy.2 b (fun q=>hb (by simp [q]))).trans e)
set_option backward.match.sparseCases true in
def ab3{id:Str}{iter:Expr}{x:Str}(ok:F.Ok)(co:lT F scope x)(VS:nB (.ListComp elt [⟨.Name x px,iter,ifs,0⟩] scope ep) (some (.Name id p)) pos.line F.env=pure true)(Dp:F.nm[i]?=some (some id))(fw:F.env.kindOf id=some .local∨F.env.kindOf id=some .cell)(hs:∀ v,foldedSetIterable iter F.env v=pure v)(hi:lQ B O n F false ie iter)(he:∀ C,(∀ y∈F.cells,y.2≠C)→aV B O fu n (gz F scope C x) pe elt)(hT:∀ C,(∀ y∈F.cells,y.2≠C)→nw B O fu n (gz F scope C x) bf ifs)(hr:cx B O fu n F L r rest):cx B O fu n F L (.asg i (.comp mm pe ie bf) r) (.Assign [.Name id p] (.ListComp elt [⟨.Name x px,iter,ifs,0⟩] scope ep) pos::rest):=by
 intro A s σ H sl aw hA st lo V Q E hq hE;have D':aA O fu (.asg i (.comp mm pe ie bf) r) sl H=((dB O ie sl H).bind (CV O mm bf pe sl)).bind fun v H₁=>aA O fu r (cX sl i v) H₁:=rfl;rw [D'] at V hq hE;have hu:evalThenUse (.ListComp elt [⟨.Name x px,iter,ifs,0⟩] scope ep) F.env (assign (.Name id p) F.env)=(do let _←comprehension (.ListComp elt [⟨.Name x px,iter,ifs,0⟩] scope ep) scope F.env (firstIterPos [⟨.Name x px,iter,ifs,0⟩] ep) (newList []) false (eval iter F.env) (some (assign (.Name id p) F.env))):=rfl;have heq:execs (.Assign [.Name id p] (.ListComp elt [⟨.Name x px,iter,ifs,0⟩] scope ep) pos::rest) F.env =
   (do standAt pos;let _←comprehension (.ListComp elt [⟨.Name x px,iter,ifs,0⟩] scope ep) scope F.env (firstIterPos [⟨.Name x px,iter,ifs,0⟩] ep) (newList []) false (eval iter F.env) (some (assign (.Name id p) F.env));execs rest F.env):=by
  rw [execs_cons,exec_Assign_Name_used _ _ _ _ VS,hu];simp only [bind_assoc,pure_bind]
 rw [heq];refine au (eE (au ?_));refine LH (use:=some (assign (.Name id p) F.env)) ok aw co hs hi he hT st lo (fun e=>V (congrArg (R.bind · _) (MZ (mm:=mm) e))) (fun l vs H₁ ag e1 g9 e2 D C gf bz us k cg eD rs fD fC na hn P=>?_) fun e s' H' σ' e' a b c=>hE e s' H' σ' (congrArg (R.bind · _) (congrArg (R.bind · (CV O mm bf pe sl)) e')) a (b.le (fun b o e=>⟨o,e⟩) fun _ h=>rq h) c.bG
 ·rw [MY e1 g9 e2] at V hq hE;refine lf (LG (m:=mm) st cg eD rs fD fC na P (fun q=>V (congrArg (R.bind · _) q))) fun v H' t' ev cU rv hV=>?_;rw [ev] at V hq hE;have pJ:∀ env∈A.frames.getD [],∀ L,env.frame=some L→L∉[C]:=fun env he L hL q=>by
   refine ad (st.dV env he) fun _ z2=>?_;refine cO z2 fun AG o e1 _ e2 _=>?_;clear z2;rw [e1] at hL;(injection hL with e1;subst e1);rw [bZ.mp q,fC] at e2;injection e2
  have m0:bh B F sl ⟨t',[C]++σ.fr⟩ bz.heap:=lo.ZC st (fun d hd=>by rw [bZ.mp hd];exact fC) hV;refine ay hn fun mC J6=>?_;clear hn;have om:¬ bG F C:=fun q=>by refine ay (zN lo q) fun o e=>?_;rw [fC] at e;injection e
  refine aZ (wpAny_assign_Name (sG ok Dp fw cU m0 rv fun vJ CR kq qT wY=>?_));have Wo:vJ.Ns C mC:=by refine dS J6 fun o es ep e hd zi=>?_;clear J6;have XJ:C∉own (⟨t',[C]++σ.fr⟩:Sg):=fun q=>(cU.inv.low C q).2.2 (by simp);refine J (wY.kp C o XJ om e) fun o' e' kp=>?_;exact ⟨o',es,ep,e',kp.data.trans hd,zi⟩
  refine ⟨mC,Wo,fun pu m' iR iy=>?_⟩;refine ad (af.yr (ds:=[C]) (ds':=[]) (fr:=σ.fr) (h':=pu) (k:=CR) kq pJ (fun b hb q=>by
     refine ay (st.inv.cS b hb).2 fun o e=>?_;rw [bZ.mp q,fC] at e;injection e) (fun b o hb e=>(iy.2 b (fun q=>hb (by simp [q]))).trans e) (fun b hb=>by cases hb)) fun BN MC=>?_
  have T_:bh B F (cX sl i v) ⟨t',σ.fr⟩ pu:=by
   refine ⟨?_,fun i id v h1 h2 h3=>?_,fun id a hm=>?_,lo.jF⟩
   ·refine J qT.lF fun m hn hv=>?_;exact ⟨m,hn.sameBut iy (fun q=>om (.inl q.symm)),fun i id v h1 h2 h3=>by refine J (hv i id v h1 h2 h3) fun u hu r=>?_;exact ⟨u,hu,r.move MC⟩⟩
   ·refine cO (qT.mE i id v h1 h2 h3) fun a u h4 h5 hc r=>?_;exact ⟨a,u,h4,h5,hc.sameBut iy (fun q=>om (.inr ⟨id,q ▸ h5⟩)),r.move MC⟩
   ·(refine ad (qT.hO id a hm) fun z0 _=>?_;(refine ay z0 fun cv hc=>?_;clear z0))
    exact ⟨⟨cv,hc.sameBut iy (fun q=>om (.inr ⟨id,q ▸ hm⟩))⟩,(lo.hO id a hm).2⟩
  have pV:aJ (bG F) s.heap σ pu ⟨t',σ.fr⟩:=(hV.bG.trans (wY.HM (g:=σ.fr))).last (wr:=[C]) (fun d hd=>by rw [bZ.mp hd];exact fC) fun b o hb e=>(iy.2 b (fun q=>hb (by simp [q]))).trans e;exact hr A _ ⟨t',σ.fr⟩ H' _ aw hA BN T_ V Q E (hq.next pV) (hE.next pV)
end
end
section
open PySem
noncomputable def lj(vs:Qp)(N:Nat):Sl:=vs.map some++gC (N - vs.length) .none
def gn(O:dL)(fu:Nat)(f:PS)(np N:Nat)(vs:Qp)(H:Hp):R PV:=
 if vs.length=np then (aA O fu f (lj vs N) H).bind fun x H'=>match x.1 with
  | .ret v=>.ok v H'
  | .next=>.ok .none H'
  | .cont=>.no
 else .no
theorem Am:∀ (names:List (Str×NameKind)) (k:Nat) (acc:List (Str×Addr)),cellsFrom k names acc=cellsFrom k names []++acc
 | [],k,acc=>by simp [cellsFrom]
 | (n,kd)::r,k,acc=>by
  unfold cellsFrom
  split
  ·rw [Am r (k + 1) ((n,k)::acc),Am r (k + 1) [(n,k)]];simp
  ·exact Am r k acc
theorem Et:∀ (names:List (Str×NameKind)) (k:Nat) (acc:List (Str×Addr)) {id:Str},(id,uo)∈names∨(∃ a,acc.lookup id=some a)→∃ a,(cellsFrom k names acc).lookup id=some a
 | [],k,acc,id,h=>by
  rcases h with h|h
  ·cases h
  ·simpa [cellsFrom] using h
 | (n,kd)::r,k,acc,id,h=>by
  unfold cellsFrom
  split
  ·rename_i hk;refine Et r (k + 1) ((n,k)::acc) ?_;rcases h with h|⟨a,h⟩
   ·rcases cA.mp h with e|h
    ·(injection e with e1 e2;subst e1 e2);exact .inr ⟨k,by simp [i5]⟩
    ·exact .inl h
   ·refine .inr ?_;rw [i5]
    split
    ·exact ⟨_,rfl⟩
    ·exact ⟨a,h⟩
  ·rename_i hk;refine Et r k acc ?_;rcases h with h|h
   ·rcases cA.mp h with e|h
    ·(injection e with e1 e2;subst e1 e2);exact absurd (by decide) hk
    ·exact .inl h
   ·exact .inr h
theorem An:∀ (names:List (Str×NameKind)) (k:Nat) (acc:List (Str×Addr)) {x:Str×Addr},x∈cellsFrom k names acc→k≤x.2∨x∈acc
 | [],k,acc,x,h=>.inr (by simpa [cellsFrom] using h)
 | (n,kd)::r,k,acc,x,h=>by
  unfold cellsFrom at h
  split at h
  ·rcases An r (k + 1) _ h with h|h
   ·exact .inl (by lia)
   ·rcases cA.mp h with rfl|h
    ·exact .inl (aS _)
    ·exact .inr h
  ·exact An r k acc h
section
structure rV(B:Base prog w)(a:Addr)(fd:k9)(body:Qt)(ps:Qs):Prop where
 ho:∃ o,B.h₀.get? a=some o∧o.data=.func fd
 cd:B.h₀.CodeRec fd.code fd.qualname
 bd:fd.body=.stmts body
 gl:fd.globals=h_
 bl:fd.builtins=builtinsNs
 co:fd.scope.isCoroutine=false
 gen:fd.scope.isGenerator=false
 kd:fd.scope.kind=.function
 bind:∀ (s:Shared) us,(∀ b o,B.h₀.get? b=some o→s.heap.get? b=some o)→us.length=ps.length→BindsTo s fd ⟨us,[]⟩ (ps.zip us)
structure rQ(scope:jO)(nm:Qs):Prop where
 nd:nm.Nodup
 kinds:∀ id∈nm,scope.names.lookup id=some .local∨scope.names.lookup id=some .cell
 odd:∀ id∈nm,(id==("__debug__":Str))=false∧(id==("__classdict__":Str))=false
noncomputable def kP(fd:k9)(a L:Addr):Env:=newEnv fd.scope L fd.globals (cellsFrom (L + 1) fd.scope.names fd.closure) (fd.qualname++".<locals>.") (some a) fd.code none fd.builtins
def dj(fd:k9)(a L:Addr)(nm:Qs):br:=⟨kP fd a L,nm.map some,cellsFrom (L + 1) fd.scope.names []⟩
variable {F:br}
def Ud{l r:List (Str×Addr)}{id:Str}(h:l.lookup id=some a):(l++r).lookup id=some a:=by
 induction l with
 | nil=>injection h
 | cons x l ih=>
  obtain ⟨k,v⟩:=x;rw [sg,i5];rw [i5] at h
  split
  ·rename_i hx;rw [hx] at h;exact h
  ·rename_i hx;rw [hx] at h;exact ih h
def K1{ps:Qs}(fo:rV B a fd body ps)(so:rQ fd.scope nm)(dh:h.objs.size=L):(dj fd a L nm).Ok where
 fk:=fo.kd
 kinds i id hi:=by
  have hm:id∈nm:=by
   simp only [dj,km,dG] at hi
   (refine J hi fun x hx e=>?_;clear hi);(injection e with e1;subst e1);exact jP hx
  rcases so.kinds id hm with h|h
  ·exact .inl h
  ·exact .inr (.inl h)
 wq:=fo.gl
 blt:=fo.bl
 apart:=by have:=cellsFrom_ok fd.scope.names (h.push {cls:=.type "frame",data:=.dict #[]}) 0 [] ⟨fun _ _ hm=>(nomatch hm),aeD⟩ (cE _);rw [xA,dh] at this;exact this.apart
 vy x hx q:=by
  rcases An _ _ _ hx with h1|h1
  ·rw [q] at h1;exact Nat.not_succ_le_self _ h1
  ·cases h1
 one i j id hi hj:=by
  simp only [dj,km,dG] at hi hj
  (refine J hi fun x hx e=>?_;clear hi);(injection e with e1;subst e1)
  (refine J hj fun y hy e=>?_;clear hj);(injection e with e1;subst e1)
  exact (List.getElem?_inj (cF.mp hx).1 so.nd).mp (hx.trans hy.symm)
 wJ i id hi hk:=by have hm:(id,uo)∈fd.scope.names:=mem_of_lookup hk;refine ay (Et fd.scope.names (L + 1) [] (.inl hm)) fun c hc=>?_;refine ⟨c,?_,mem_of_lookup hc⟩;show (cellsFrom (L + 1) fd.scope.names fd.closure).lookup id=some c;rw [Am];exact Ud hc
 odd i id hi:=by
  simp only [dj,km,dG] at hi
  (refine J hi fun x hx e=>?_;clear hi);(injection e with e1;subst e1);exact so.odd _ (jP hx)
theorem Mb(ok:F.Ok){E:Value→Shared→Prop}(f:Str×Value→PUnit→Sem (ForInStep PUnit))(hf:∀ name v r,f (name,v) r=(do storeName F.env name v;pure (.yield ⟨⟩))):∀ (ids:Qs) (us:Qa) (vs:Qp) (pre:Sl) (k:Nat) (s:Shared) (Q:PUnit→Shared→Prop),
  (∀ (j:Nat) id,ids[j]?=some id→F.nm[pre.length + j]?=some (some id)∧(F.env.kindOf id=some .local∨F.env.kindOf id=some .cell))→ids.length=us.length→aK prog w B.Cl σ s.heap vs us→af B A' H σ s→bh B F (pre++gC (vs.length + k) .none) σ s.heap→
  (∀ h' t,af B A' H σ {s with heap:=h',toks:=t}→bh B F (pre++(vs.map some++gC k .none)) σ h'→aJ (bG F) s.heap σ h' σ→Q ⟨⟩ {s with heap:=h',toks:=t})→
  wpAny (model prog w) A (forIn (ids.zip us) Nn f) Q E s
 | [],[],vs,pre,k,s,Q,hi,hl,r,st,lo,hQ=>by
  have hv:vs=[]:=uz r.sz;subst hv;rw [List.zip_nil_left,A8];exact wpAny_pure (hQ s.heap s.toks st (by simpa using lo) (.refl _ _))
 | id::ids,u::us,vs,pre,k,s,Q,hi,hl,r,st,lo,hQ=>by
  induction vs using bj with
  | nil=>have:=r.sz;simp at this
  | cons v vs=>
   rw [ad4,ux,hf];refine ad (hi 0 id rfl) fun h1 h2=>?_;have r1:ah prog w B.Cl σ s.heap v u:=r.all 0 v u rfl rfl;have r2:aK prog w B.Cl σ s.heap vs us:=⟨by have:=r.sz;simpa using this,fun i v' u' a b=>r.all (i + 1) v' u' (by simpa using a) (by simpa using b)⟩;refine wpAny_bind (wpAny_bind (sG ok h1 h2 st lo r1 fun h' t a_ fe P=>wpAny_pure ?_));have e:cX (pre++gC ((v::vs).length + k) .none) (pre.length + 0) v=(pre++[some v])++gC (vs.length + k) .none:=by unfold cX;rw [show (v::vs).length + k=(vs.length + k) + 1 by simp;lia,A0,Nat.add_zero,Fp _ _ (aS _),xl];simp
   rw [e] at fe;refine Mb ok f hf ids us vs (pre++[some v]) k {s with heap:=h',toks:=t} Q (fun j id' hj=>?_) (by simpa using hl) (r2.mono P lo.bG) a_ fe fun fO t' uV CL P'=>?_
   ·have:=hi (j + 1) id' (by simpa using hj);rw [bP,aek,r8,xt 1 j];exact this
   ·exact hQ fO t' uV (by simpa using CL) (P.trans P')
 | [],_::_,_,_,_,_,_,_,hl,_,_,_,_=>by injection hl
 | _::_,[],_,_,_,_,_,_,hl,_,_,_,_=>by injection hl
end
end
section
open PySem
section
variable {F:br}
def aav{R:Result→Shared→Prop}(oi:A.depth < rX)(ho:s.heap.get? a=some o)(rh:o.data=.func fd)(Dw:fd.scope.isCoroutine=false)(WO:fd.scope.isGenerator=false)(Kk:fd.body=.stmts body)(j5:s.heap.CodeRec fd.code fd.qualname)(h:wpAny (model prog w) A.in1 (bindArgs fd args) (fun binds aa=>
   wpAny (model prog w) A.in1 (newFunctionEnv fd.scope fd.globals fd.closure binds (fd.qualname++".<locals>.") (some a) fd.code none fd.builtins)
    (fun env aP=>aP.heap.NoLimit∧dl (model prog w) A (.func body env) R aP) (fun e s'=>R (.error e) s') aa) (fun e s'=>R (.error e) s') s):
  dl (model prog w) A (.call (.ref a) args) R s:=by
 refine lM (aZ ?_);show wpAny _ A.in1 (callAny (.ref a) args) _ _ s;show wpAny _ _ (load a>>=_) _ _ s;refine wpAny_bind (wpAny_load ho ?_);refine F7 j5 fun c oc vs tq hc Dg Dt hq=>?_;clear j5;rw [rh];show wpAny _ _ (callFunction a fd args) _ _ s;delta callFunction;rw [Dw,WO,Kk,hc];rw [hc] at h;refine wpAny_bind (m:=field (.ref c) 1) (wpAny_field Dg Dt hq (wpAny_bind (wpAny_pure ?_)));exact wpAny_bind (wpAny_mono h (fun binds aa h₁=>wpAny_bind (wpAny_mono h₁ (fun env aP b6=>wpAny_bind (wpAny_enterFrame b6.1 oi
  (wpAny_pure ⟨rfl,rfl,b6.2⟩))) fun _ _ h'=>h')) fun _ _ h'=>h')
def abu(h:b0 (n + 1) A):b0 n (A.deeper env):=by
 refine ⟨h.hd,?_,?_,h.gd,?_⟩
 ·have:=h.dp;show A.depth + 1 + 8 * n≤900;lia
 ·have:=h.un;show A.units + 3 + 40 * n≤5000;lia
 ·refine ay h.fr fun l e=>?_;exact ⟨env::l,by show A.frames.map _=_;rw [e];rfl⟩
noncomputable def oy(fd:k9)(L:Addr):List Addr:=L::(cellsFrom (L + 1) fd.scope.names []).map (·.2)
def ZB{ps:Qs}{R:Result→Shared→Prop}(fo:rV B a fd body ps)(so:rQ fd.scope nm)(fv:ps=nm.take ps.length)(aw:b0 (n + 1) A)(st:af B A H σ s)(r:aK prog w B.Cl σ s.heap vs us)(hl:vs.length=ps.length)(h:∀ h' t h₁ bt,bt=eU (oy fd s.heap.objs.size) σ→(∀ d∈oy fd s.heap.objs.size,s.heap.get? d=none)→(∀ b o,s.heap.get? b=some o→h₁.get? b=some o)→af B (A.deeper (kP fd a s.heap.objs.size)) H bt {s with heap:=h',toks:=t}→
   bh B (dj fd a s.heap.objs.size nm) (lj vs nm.length) bt h'→aJ (bG (dj fd a s.heap.objs.size nm)) h₁ bt h' bt→dl (model prog w) A (.func body (kP fd a s.heap.objs.size)) R {s with heap:=h',toks:=t}):
  dl (model prog w) A (.call (.ref a) ⟨us,[]⟩) R s:=by
 refine J fo.ho fun o ho hd=>?_;have oi:A.depth < rX:=by have:=aw.dp;show _ < 1000;exact iI (AV this) rfl
 have JQ:us.length=ps.length:=by rw [←hl,r.sz]
 refine aav oi (st.keep a o ho) hd fo.co fo.gen fo.bd (fo.cd.keeps st.keep) (fo.bind s us st.keep JQ _ _ _ _ ?_);simp only [newFunctionEnv,Option.isSome_none,uH,if_false];refine wpAny_bind (wpAny_alloc ?_);refine wpAny_bind (wpAny_layCells _ (fun name kind cells=>by generalize Dn:(kind==uo)=zz;induction zz<;>simp [Dn]) _ _ _ _ ?_);have dh:(s.heap.push {cls:=.type "frame",data:=.dict #[]}).objs.size=s.heap.objs.size + 1:=xA ..;have yF:=cellsFrom_ok fd.scope.names (s.heap.push {cls:=.type "frame",data:=.dict #[]}) (s.heap.objs.size + 1) [] ⟨fun _ _ hm=>(nomatch hm),aeD⟩ (by rw [xA];exact aS _);rw [dh] at yF;rw [show ({s with heap:=s.heap.push {cls:=.type "frame",data:=.dict #[]}}:Shared).heap.objs.size=s.heap.objs.size + 1 from dh];have hk:∀ b o,s.heap.get? b=some o→(pushCells (s.heap.push {cls:=.type "frame",data:=.dict #[]}) fd.scope.names).get? b=some o:=fun b o e=>pushCells_keeps _ _ b o (fh _ e);have eL:(pushCells (s.heap.push {cls:=.type "frame",data:=.dict #[]}) fd.scope.names).get? s.heap.objs.size=some {cls:=.type "frame",data:=.dict #[]}:=pushCells_keeps _ _ _ _ (eu _ rfl);have nL:(pushCells (s.heap.push {cls:=.type "frame",data:=.dict #[]}) fd.scope.names).Ns s.heap.objs.size fun _=>none:=(aeT s.heap (.type "frame")).keeps (pushCells_keeps _ _);generalize hg:pushCells (s.heap.push {cls:=.type "frame",data:=.dict #[]}) fd.scope.names=h₁ at yF hk eL nL⊢;have fresh:∀ d∈oy fd s.heap.objs.size,s.heap.get? d=none:=fun d hd=>sh (by
  rcases cA.mp hd with rfl|hd
  ·exact aS _
  ·(refine J (b7.mp hd) fun x hx z2=>?_;subst z2)
   rcases An _ _ _ hx with h1|h1
   ·exact ug h1
   ·cases h1)
 have ex:∀ d∈oy fd s.heap.objs.size,∃ o,h₁.get? d=some o:=fun d hd=>by
  rcases cA.mp hd with rfl|hd
  ·exact ⟨_,eL⟩
  ·(refine J (b7.mp hd) fun x hx z2=>?_;subst z2)
   refine J (yF.empty x.1 x.2 hx).1 fun o e _=>?_;exact ⟨o,e⟩
 have av:=st.enter s.toks fresh hk ex;have aM:af B (A.deeper (kP fd a s.heap.objs.size)) H (eU (oy fd s.heap.objs.size) σ) {s with heap:=h₁,toks:=s.toks}:=by
  refine ⟨av.keep,av.inv,av.gens,av.os,fun env he=>?_⟩;refine ay aw.fr fun l el=>?_;have:(A.deeper (kP fd a s.heap.objs.size)).frames=some (kP fd a s.heap.objs.size::l):=by show A.frames.map _=_;rw [el];rfl
  rw [this] at he;rcases cA.mp he with rfl|he
  ·exact ⟨fo.kd,s.heap.objs.size,_,rfl,ij _ (bC ..),eL,rfl,fun vs=>by simp⟩
  ·exact av.dV env (by rw [el];exact he)
 have SP:=K1 (h:=s.heap) (a:=a) (L:=s.heap.objs.size) fo so rfl;have hle:ps.length≤nm.length:=by have:=congrArg i7 fv;rw [kj] at this;lia
 have bR:bh B (dj fd a s.heap.objs.size nm) ([]++gC (vs.length + (nm.length - vs.length)) none) (eU (oy fd s.heap.objs.size) σ) h₁:=by
  have Iv:∀ (i:Nat) v,([]++gC (vs.length + (nm.length - vs.length)) (none:Qq))[i]?≠some (some v):=fun i v q=>by
   rw [sd,List.getElem?_replicate] at q
   split at q<;>cases q
  exact ⟨⟨_,nL,fun i id v _ _ h3=>absurd h3 (Iv i v)⟩,fun i id v _ _ h3=>absurd h3 (Iv i v),fun id c hm=>⟨⟨_,(yF.empty id c hm).1⟩,ij _ (bM _ (b7.mpr ⟨_,hm,rfl⟩))⟩,ij _ (bC ..)⟩
 refine wpAny_bind (Mb (σ:=eU (oy fd s.heap.objs.size) σ) SP _ (fun _ _ _=>rfl) ps us vs [] (nm.length - vs.length) {s with heap:=h₁} _ (fun j id hj=>?_) JQ.symm ⟨r.sz,fun i v u a b=>(r.all i v u a b).enter fresh hk⟩ aM bR fun h' t cg j0 i4=>wpAny_pure ⟨B.bY.keeps cg.keep,?_⟩)
 ·rw [p9,xk];have v5:nm[j]?=some id:=by
   rw [fv] at hj;rw [List.getElem?_take] at hj
   split at hj
   ·exact hj
   ·injection hj
  have hm:=jP v5;refine ⟨by simp [dj,v5],?_⟩;exact so.kinds id hm
 ·exact h h' t h₁ _ rfl fresh hk cg j0 i4
def KM{b:Addr}(h:bG (dj fd a L nm) b):b∈oy fd L:=by
 rcases h with rfl|⟨id,hm⟩
 ·exact bC ..
 ·exact bM _ (b7.mpr ⟨_,hm,rfl⟩)
end
end
section
open PySem
section
structure nz(B:Base prog w):Prop where
 cls:∃ e:EX,∃ bm,B.h₀.get? B.bad=some (e.ob B.bad bm)∧bm.contains (.type "BaseException")=true
 glob:B.mg "BadPattern"=some (.ref B.bad)
 make:∀ {A s σ H v u},b0 1 A→af B A H σ s→ah prog w B.Cl σ s.heap v u→aT (model prog w) A (call (.ref B.bad) [u]) (fun r s'=>∃ x d t h' k,r=.ref x∧s'={s with heap:=h',toks:=k}∧s.heap.get? x=none∧
  (∀ b o,s.heap.get? b=some o→h'.get? b=some o)∧h'.get? x=some {cls:=.ref B.bad,dict:=d,data:=.fields #[.ref t,.none,.none,.none,.bool false,.none]}) (fun _ _=>False) s
variable {F:br}
def RY{ex:EX}{bm:Qa}{x:Sem Value}{Q:Flow→Shared→Prop}(we:bm.contains (.type "BaseException")=true)(hh:A.handled=none)(h:aT M A x (fun v aa=>∃ e t d',v=.ref e∧aa.heap.get? C=some (ex.ob C bm)∧
   aa.heap.get? e=some {cls:=.ref C,dict:=d',data:=.fields #[.ref t,.none,.none,.none,.bool false,.none]}∧E (.ref e) aa) E s):
  aT M A (raiseStmt env (some x) none) Q E s:=by
 have wc:(ia C::bm).contains (.type "BaseException")=true:=by rw [mO,we,Bool.or_true]
 unfold raiseStmt;refine au (gS h (fun v aa h₁=>?_) fun _ _ x=>x);refine lf h₁ fun e t d' z3=>?_;clear h₁;subst z3;intro hC he hE;obtain ⟨hp,g,d,tk,os⟩:=aa;refine aZ ?_
 repeat (first|with_reducible refine wpAny_loadPart_at he ?_|with_reducible refine wpAny_loadPart_at hC ?_|(with_reducible refine wpAny_isSubtype_exc hC ?_;rw [wc])|wp_step)
 exact wpAny_raiseNew_none hh hE
def UI(bo:nz B):rU B (.ref B.bad):=fun h hk=>by
 refine ch bo.cls fun ex bm hC _=>?_;exact ⟨.machine,.inr (.inl rfl),fun A Q E s k q=>wpAny_keeperOf_exc (k _ _ (hk _ _ hC)) q⟩
def abU(bo:nz B)(ok:F.Ok)(gJ:1≤n){arg:Expr}{id:Str}{np aah:Pos}(gv:id="BadPattern")(hx:F.env.kindOf id=some .globalImplicit)(hp:f_ arg=true)(he:aV B O fu n F e arg):
  cx B O fu n F L (.raise e) (.Raise (some (.Call (.Name id np) [arg] [] aah)) none pos::rest):=by
 subst gv;intro A s σ H sl aw hA st lo V Q E hq hE;have kL:aA O fu (.raise e) sl H=(bB O (.cons e .nil) sl H).bind fun _ H₁=>.bad H₁:=by show (ao O e sl H).bind _=_;rw [Cf,pU];rfl
 rw [kL] at V hE;have g8:bB O (.cons e .nil) sl H≠.no:=fun q=>V (congrArg (R.bind · _) q);refine ch bo.cls fun ex bm hC Dz=>?_;rw [execs_cons,arm_exec_Raise];refine au (au (eE ?_));refine RY (C:=B.bad) (ex:=ex) (bm:=bm) Dz aw.hd ?_;refine au (pP (aZ (td st ok bo.glob hx (by decide +kernel) ?_)));refine Aq (O:=O) (fu:=fu) (first:=[]) (by rw [Ba,hp];rfl) (UI bo) (AK hp he t6) aw st lo g8 (fun vs H₁ ax us aa ev av aU hl aI=>?_) fun e s' H' σ' e' a b c=>hE e s' H' σ' (congrArg (R.bind · _) e') a (b.le (fun b o e=>⟨o,e⟩) fun _ h=>rq h) c.bG;induction us using bj with
 | nil=>injection hl
 | cons u us=>
  induction us using bj with
  | cons _ _=>cases hl
  | nil=>
   refine J (B5 aU) fun v z1=>?_;subst z1;intro ru;refine gS (bo.make (aw.le gJ) av ru) (fun r aP b6=>?_) fun _ _ h=>h.elim;refine F6 b6 fun x d t h' k z5=>?_;clear b6;subst z5;intro z6;subst z6;intro fx hk py;have aM:=av.grow (k:=k) hk;have X7:s.heap.get? x=none:=by
    generalize e:(s.heap.get? x)=zz;induction zz using az with
    | none=>rfl
    | some o=>refine ay (aI.al x o e) fun o' e'=>?_;injection (fx.symm.trans e')
   exact au (eE (ba ⟨x,t,d,rfl,aM.keep _ _ hC,py,hE _ _ H₁ ax (congrArg (R.bind · _) ev) aM ⟨x,_,_,none,rfl,X7,py,rfl,rfl,.inl rfl,rfl⟩ (aI.trans (.grow hk)).bG⟩))
end
end
section
open PySem
section
variable {F:br}
def Oy{body orelse:Sem Flow}{h₀:ExceptHandler}{hs:List ExceptHandler}{Q:Flow→Shared→Prop}(h:aT M A body (fun f aa=>match f with|.next=>aT M A orelse Q E aa|f=>Q f aa)
   (fun e aa=>aT M A (noteFrame e env) (fun _ aP=>aT M A (setFlight e none) (fun _ bz=>aT M A (handleBy e env (h₀::hs)) Q E bz) E aP) E aa) s):
  aT M A (tryStmt false body (h₀::hs) orelse [] env) Q E s:=by
 show aT M A (body.attempt>>=_) Q E s;refine au (Gd (gS h (fun f aa h₁=>?_) fun e aa h₁=>?_))
 ·induction f<;>first|exact h₁|exact ba h₁
 ·exact au (gS h₁ (fun _ _ b6=>au b6) fun _ _ x=>x)
set_option backward.match.sparseCases true in
def abP(bo:nz B)(ok:F.Ok){v:Bool}{id tid:Str}{tp ap cp np hp:Pos}{ck:Nat}(hf:F.env.frame=some L)(gv:id="BadPattern")(hx:F.env.kindOf id=some .globalImplicit)(hi:F.nm[i]?=some (some tid))(fw:F.env.kindOf tid=some .local∨F.env.kindOf tid=some .cell)(hs:nB value none p.line F.env=pure false)(he:aV B O fu n F e value)(hr:cx B O fu n F L r rest):
  cx B O fu n F L (.nR e i v r) (.Try [.Expr value p] [.ExceptHandler (some (.Name id np)) none [.Assign [.Name tid tp] (.Constant (.bool v) ck cp) ap] hp] [] [] pos::rest):=by
 subst gv;intro A s σ H sl aw hA st lo V Q E hq hE;rw [execs_cons,arm_exec_Try];refine au (au (eE ?_));refine Oy ?_;have ht:aA O fu (.nR e i v r) sl H=(match ao O e sl H with
   | .no=>.no
   | .ok .none H₁=>aA O fu r sl H₁
   | .ok _ _=>.no
   | .bad H₁=>aA O fu r (cX sl i (.bool v)) H₁):=rfl
 rw [ht] at V hq hE;have Wm:ao O e sl H≠.no:=fun q=>V (by rw [q]);have hint:xb F.env=false:=by unfold xb;rw [ok.fk];rfl
 have hex:execs [.Expr value p] F.env=(do standAt p;let v←eval value F.env;dropValue value p v):=by
  rw [execs_cons,exec_Expr _ _ _ hint hs];simp only [bind_assoc];congr 1;funext _;congr 1;funext v;rw [M6];have:∀ t:Sem Flow,(t>>=fun f=>match f with|.next=>pure .next|f=>pure f)=t:=fun t=>by
   have:(fun f=>match f with|.next=>pure .next|f=>pure f:Flow→Sem Flow)=pure:=by funext f;induction f<;>rfl
   rw [this,bind_pure]
  exact this _
 rw [hex];refine au (eE (au (he A s σ H sl aw st lo Wm _ _ (fun u aa x H₁ ax cJ av rv lR=>?_) fun ex aa H₁ ax cJ av xi lR=>?_)))
 ·rw [cJ] at V hq hE;induction x using PV.casesOn<;>try exact absurd rfl V
  cases rv;rw [M7 (by simp)];refine ba ?_;dsimp only;rw [M6];exact ba (hr A aa ax H₁ sl aw hA av (lo.next st lR) V Q E (hq.next lR.bG) (hE.next lR.bG))
 ·rw [cJ] at V hq hE;dsimp only at V hq hE;have h0:∀ b o,B.h₀.get? b=some o→∃ o',s.heap.get? b=some o':=fun b o e=>⟨o,st.keep b o e⟩;refine ay hA fun outer pJ=>?_;clear hA;refine aZ (Cq h0 av pJ hf lR.al (xi.imp fun _ h=>rq h) fun b6 cj Oi=>?_);have aM:=av.tick cj h0;have fZ:=lR.tick cj;refine aZ (zV (s:={aa with heap:=b6}) (fr:=ax.fr) Oi fun kH gf F1=>?_);have cg:af B A H₁ ax {aa with heap:=kH}:=aM.tick gf h0;have i4:=fZ.tick gf;refine ch bo.cls fun ex bm hC Dz=>?_;have FZ:=F1;refine Bm FZ fun x oe vs fl z4=>?_;clear FZ;subst z4;intro hxn Vw Vx _;refine aZ ?_;refine wpAny_handleBy_cons (codeAny_handlers_test ?_) (by intro q;injection q);have P9:af B (A.mark (some (.ref x))) H₁ ax {aa with heap:=kH}:=cg.around rfl;refine td P9 ok bo.glob hx (by decide +kernel) ?_;refine wpAny_excMatches_sub_self (cg.keep _ _ hC) Vw Vx Dz ?_;refine codeAny_handlers_suite ?_;refine zV (s:={aa with heap:=kH}) (fr:=ax.fr) F1 fun pv Gp FY=>?_;have cU:af B A H₁ ax {aa with heap:=pv}:=cg.tick Gp h0;have hV:=i4.tick Gp;have m0:bh B F sl ax pv:=lo.HW (fun b hb ho=>(st.inv.low b ho).2.2 hb) hV;rw [execs_cons,exec_Assign_Name _ _ _ _ _ rfl];refine wpAny_bind (wpAny_bind (wpAny_standAt (wpAny_bind (wpAny_Constant_bool (wpAny_bind (wpAny_standAt (wpAny_bind (wpAny_bindName (sG (s:={aa with heap:=pv}) ok hi fw cU m0 (.bool v) fun vJ CR kq qT wY=>wpAny_pure ?_)))))))));dsimp only;rw [M6];refine wpAny_pure ?_;exact hr A {aa with heap:=vJ,toks:=CR} ax H₁ _ aw ⟨outer,pJ⟩ kq qT V Q E (hq.next (hV.bG.trans wY)) (hE.next (hV.bG.trans wY))
end
end
section
open PySem
structure Sc where
 names:List (Str×NameKind)
 nm:List (Option Str)
noncomputable def Sc.k(sc:Sc)(id:Str):Option NameKind:=sc.names.lookup id
noncomputable def Sc.gl(sc:Sc)(id:Str):Bool:=decide (sc.k id=some .globalImplicit)
noncomputable def Sc.st(sc:Sc)(i:Nat)(id:Str):Bool:=decide (sc.nm[i]?=some (some id))&&(decide (sc.k id=some .local)||decide (sc.k id=some .cell))
noncomputable def n9(id:Str):Bool:=!(id==("__debug__":Str))
noncomputable def isSet(e:Expr):Bool:=(ev e).st
noncomputable def rF(sc:Sc)(scope:jO)(x:Str):Sc:=
 ⟨scope.names.map (fun (n,k)=>if (k==r9&&sc.k n==some .cell) then (n,uo) else (n,k)),some x::sc.nm.map (fun o=>o.bind fun id=>if scope.names.lookup id=some .free then some id else none)⟩
def Ej(sc:Sc)(scope:jO)(x:Str):Bool:=
 decide (scope.kind=.function)&&scope.names.all (fun y=>decide (y.2≠.cell))&&scope.names.all (fun y=>decide (y.2≠.local)||decide (scope.names.lookup y.1=some .local))&&decide (scope.names.lookup x=some .local)&&
  scope.names.all (fun y=>decide (y.2≠.free)||(decide (scope.names.lookup y.1=some .free)&&sc.nm.contains (some y.1)&&decide (sc.k y.1=some .cell)))&&decide (freeNames scope).Nodup&&n9 x&&!(x==("__classdict__":Str))
noncomputable def Ab:PV→Option Const
 | .none=>some .none
 | .bool b=>some (.bool b)
 | .int i=>some (.int i)
 | .str l=>some (.str (sv l))
 | .bytes l=>some (.bytes l)
 | _=>none
noncomputable def Ix:bg→Bool
 | .nil=>true
 | _=>false
noncomputable def Ig:bg→Bool
 | .cons _ .nil=>true
 | _=>false
noncomputable def Jt:PE→Bool
 | .cst .none=>true
 | _=>false
noncomputable def vA(e:Expr):Expr:=(ev e).a
noncomputable def vB(e:Expr):Expr:=(ev e).b
noncomputable def vC(e:Expr):Expr:=(ev e).c
noncomputable def bN(e:Expr):Qe:=(ev e).es
noncomputable def eY(e:Expr):Str:=(ev e).id
noncomputable def vN(e:Expr):Nat:=(ev e).n
noncomputable def Gk(e:Expr):Option Expr:=(ev e).lo
noncomputable def Gl(e:Expr):Option Expr:=(ev e).hi
noncomputable def Br(e:Expr):List (Option Expr):=(ev e).ks
noncomputable def vG(e:Expr):NX×jO:=((ev e).g.getD default,(ev e).sc.getD default)
noncomputable def eO(l:Qe):Expr:=l.headD default
structure XR where
 e:Bool
 t:Bool
 x:Expr
structure XL where
 e:Bool
 t:Bool
 p:Bool
 xs:Qe
noncomputable abbrev bE(c:Bool)(x:Expr):XR:=⟨c,c,x⟩
noncomputable abbrev oE(c:Bool)(x:Expr):XR:=⟨c,false,x⟩
def s_(p:PE)(o:Option Expr)(f:Expr→XR):Bool×Option Expr:=match o with
 | none=>(Jt p,none)
 | some y=>((f y).e,some (f y).x)
def Mc(sc:Sc)(l:bg)(r:XL)(e:Expr):BI→XR
 | .dW=>bE (sc.gl "bytearray"&&Ix l) (.Call (.Name "bytearray" (vA e).pos) [] [] e.pos)
 | .mq=>bE (sc.gl "isinstance"&&sc.gl "bool"&&Ig l&&r.e&&r.p) (.Call (.Name "isinstance" (vA e).pos) (r.xs++[.Name "bool" (eO (bN e).tail).pos]) [] e.pos)
 | b=>bE (sc.gl (pS b)&&n9 (pS b)&&r.e&&r.p) (.Call (.Name (pS b) (vA e).pos) r.xs [] e.pos)
def Lx(ks:List Qn)(l:bg)(r:XL)(e:Expr):XR:=match ks with
 | []=>oE (Ix l) (.Dict [] [] e.pos)
 | ks=>oE (keysOk ks (Br e)&&decide (ks.length=r.xs.length)&&!ks.isEmpty&&decide (ks.length≤15)&&decide ks.Nodup&&r.e) (.Dict (Br e) r.xs e.pos)
def yN(sc:Sc)(o:Option Str)(id:Str):Bool:=decide (o=some id)&&sc.gl id&&n9 id
def Mk(o:Expr)(r:XL)(apos pos:Pos):Bool:=nZ o&&decide (r.xs.length < 30)&&(apos.endLine==pos.line)&&r.e&&r.p
mutual
noncomputable def er(sc:Sc):PE→Expr→XR
 | .any,e=>⟨true,true,e⟩
 | .cst v,e=>bE (Ab v).isSome (.Constant ((Ab v).getD .none) (vN e) e.pos)
 | .neg a,e=>oE (er sc a (vA e)).e (.UnaryOp .USub (er sc a (vA e)).x e.pos)
 | .var i,e=>bE (decide (sc.nm[i]?=some (some (eY e)))) (.Name (eY e) e.pos)
 | .glob k,e=>oE (yN sc zI[k]? (eY e)) (.Name (eY e) e.pos)
 | .rL,e=>oE (sc.gl "MATCHING_CLASSES") (.Subscript (.Name "MATCHING_CLASSES" (vA e).pos) (.Constant (.bytes [97,108,110,117,109]) (vN (vB e)) (vB e).pos) e.pos)
 | .bin o _ a b,e=>bE ((er sc a (vA e)).e&&(er sc b (vB e)).e) (.BinOp (er sc a (vA e)).x (bo o) (er sc b (vB e)).x e.pos)
 | .cmp o a b,e=>bE ((er sc a (vA e)).e&&(er sc b (eO (bN e))).e&&!p5 (co o) (er sc b (eO (bN e))).x) (.Compare (er sc a (vA e)).x [co o] [(er sc b (eO (bN e))).x] e.pos)
 | .rG a db b eM c,e=>bE ((er sc a (vA e)).e&&(er sc b (eO (bN e))).e&&(er sc c (eO (bN e).tail)).e&&!p5 (co eM) (er sc c (eO (bN e).tail)).x)
   (.Compare (er sc a (vA e)).x [co db,co eM] [(er sc b (eO (bN e))).x,(er sc c (eO (bN e).tail)).x] e.pos)
 | .iF l,e=>⟨(cW sc l (bN e)).e,(cW sc l (bN e)).t,.BoolOp .And (cW sc l (bN e)).xs e.pos⟩
 | .jW l,e=>⟨(cW sc l (bN e)).e,(cW sc l (bN e)).t,.BoolOp .Or (cW sc l (bN e)).xs e.pos⟩
 | .me a,e=>⟨(er sc a (vA e)).e,(er sc a (vA e)).t,.UnaryOp .Not (er sc a (vA e)).x e.pos⟩
 | .ite c a b,e=>⟨(er sc c (vA e)).t&&(er sc a (vB e)).e&&(er sc b (vC e)).e,(er sc c (vA e)).t&&(er sc a (vB e)).t&&(er sc b (vC e)).t,.IfExp (er sc c (vA e)).x (er sc a (vB e)).x (er sc b (vC e)).x e.pos⟩
 | .tup l,e=>oE (decide ((cW sc l (bN e)).xs.length≤64)&&(cW sc l (bN e)).e&&(cW sc l (bN e)).p) (.Tuple (cW sc l (bN e)).xs (vN e) e.pos)
 | .list _ l,e=>oE ((cW sc l (bN e)).e&&(cW sc l (bN e)).p) (.List (cW sc l (bN e)).xs e.pos)
 | .dict _ ks l,e=>Lx ks l (cW sc l (bN e)) e
 | .idx a i,e=>bE ((er sc a (vA e)).e&&(er sc i (vB e)).e) (.Subscript (er sc a (vA e)).x (er sc i (vB e)).x e.pos)
 | .slice a lo hi,e=>oE ((er sc a (vA e)).e&&(s_ lo (Gk (vB e)) (er sc lo)).1&&(s_ hi (Gl (vB e)) (er sc hi)).1) (.Subscript (er sc a (vA e)).x (.Slice (s_ lo (Gk (vB e)) (er sc lo)).2 (s_ hi (Gl (vB e)) (er sc hi)).2 none (vB e).pos) e.pos)
 | .rev _ a,e=>oE (er sc a (vA e)).e (.Subscript (er sc a (vA e)).x (.Slice none none (some (.UnaryOp .USub (.Constant (.int 1) (vN (vA (vA (vB e)))) (vA (vA (vB e))).pos) (vA (vB e)).pos)) (vB e).pos) e.pos)
 | .attr a k,e=>bE (nu.contains (sv k)&&nZ (er sc a (vA e)).x&&(er sc a (vA e)).e) (.Attribute (er sc a (vA e)).x (sv k) e.pos)
 | .call _ f l,e=>bE (yN sc lK[f]? (eY (vA e))&&(cW sc l (bN e)).e&&(cW sc l (bN e)).p) (.Call (.Name (eY (vA e)) (vA e).pos) (cW sc l (bN e)).xs [] e.pos)
 | .new _ c l,e=>oE (yN sc cnames[c]? (eY (vA e))&&(cW sc l (bN e)).e&&(cW sc l (bN e)).p) (.Call (.Name (eY (vA e)) (vA e).pos) (cW sc l (bN e)).xs [] e.pos)
 | .own _ k a l,e=>bE (decide (qR[k]?=some (eY (vA e)))&&Mk (er sc a (vA (vA e))).x (cW sc l (bN e)) (vA e).pos e.pos&&(er sc a (vA (vA e))).e) (.Call (.Attribute (er sc a (vA (vA e))).x (eY (vA e)) (vA e).pos) (cW sc l (bN e)).xs [] e.pos)
 | .sup _,e=>⟨false,false,e⟩
 | .gq b a l,e=>bE (Mk (er sc a (vA (vA e))).x (cW sc l (bN e)) (vA e).pos e.pos&&(er sc a (vA (vA e))).e) (.Call (.Attribute (er sc a (vA (vA e))).x (EF b) (vA e).pos) (cW sc l (bN e)).xs [] e.pos)
 | .bi b l,e=>Mc sc l (cW sc l (bN e)) e b
 | .comp _ elt it bf,e=>oE (Ej sc (vG e).2 (eY (vG e).1.target)&&!isSet (kR sc it (vG e).1.iter).x&&(kR sc it (vG e).1.iter).e&&(er (rF sc (vG e).2 (eY (vG e).1.target)) elt (vA e)).e&&(cW (rF sc (vG e).2 (eY (vG e).1.target)) bf (vG e).1.ifs).t)
   (.ListComp (er (rF sc (vG e).2 (eY (vG e).1.target)) elt (vA e)).x [⟨.Name (eY (vG e).1.target) (vG e).1.target.pos,(kR sc it (vG e).1.iter).x,(cW (rF sc (vG e).2 (eY (vG e).1.target)) bf (vG e).1.ifs).xs,0⟩] (vG e).2 e.pos)
noncomputable def cW(sc:Sc):bg→Qe→XL
 | .nil,_=>⟨true,true,true,[]⟩
 | .cons a r,es=>⟨(er sc a (eO es)).e&&(cW sc r es.tail).e,(er sc a (eO es)).t&&(cW sc r es.tail).t,f_ (er sc a (eO es)).x&&(cW sc r es.tail).p,(er sc a (eO es)).x::(cW sc r es.tail).xs⟩
noncomputable def kR(sc:Sc):IE→Expr→XR
 | .ex a,e=>bE (er sc a e).e (er sc a e).x
 | .kt a,e=>bE (sc.gl "range"&&f_ (er sc a (eO (bN e))).x&&(er sc a (eO (bN e))).e) (.Call (.Name "range" (vA e).pos) [(er sc a (eO (bN e))).x] [] e.pos)
 | .vals a,e=>bE (nZ (er sc a (vA (vA e))).x&&((vA e).pos.endLine==e.pos.line)&&(er sc a (vA (vA e))).e) (.Call (.Attribute (er sc a (vA (vA e))).x "values" (vA e).pos) [] [] e.pos)
 | .enum a,e=>⟨false,sc.gl "enumerate"&&f_ (er sc a (eO (bN e))).x&&(er sc a (eO (bN e))).e,.Call (.Name "enumerate" (vA e).pos) [(er sc a (eO (bN e))).x] [] e.pos⟩
end
end
variable {sc:Sc}
section
open PySem
section
variable {F:br}
structure Fits(F:br)(sc:Sc):Prop where
 k:∀ id,F.env.kindOf id=sc.k id
 nm:F.nm=sc.nm
 ok:F.Ok
noncomputable def t7(B:Base prog w)(O:dL)(fu n:Nat)(F:br)(p:PE)(r:XR):Prop:=(r.e=true→aV B O fu n F p r.x)∧(r.t=true→i3 B O fu n F p r.x)
def md{c:Bool}{p:PE}{x:Expr}(h:c=true→aV B O fu n F p x):t7 B O fu n F p (oE c x):=⟨h,fun h=>nomatch h⟩
def jL{c:Bool}{p:PE}{x:Expr}(hp:plainT p=true)(he:Ce x=true)(h:c=true→aV B O fu n F p x):t7 B O fu n F p (bE c x):=⟨h,fun q=>abH hp he (h q)⟩
def nc{id:Str}(ft:Fits F sc)(h:sc.gl id=true):F.env.kindOf id=some .globalImplicit:=by rw [ft.k];simpa [Sc.gl] using h
def LA{id:Str}(h:n9 id=true):(id==("__debug__":Str))=false:=by simpa [n9] using h
def sK{id:Str}(ft:Fits F sc)(h:sc.st i id=true):F.nm[i]?=some (some id)∧(F.env.kindOf id=some .local∨F.env.kindOf id=some .cell):=by simp only [Sc.st,i8,Bh,decide_eq_true_eq] at h;rw [ft.nm,ft.k];exact h
def setOk{iter:Expr}(h:isSet iter=false):∀ v,foldedSetIterable iter env v=pure v:=fun v=>by
 induction iter using jv<;>first|rfl|injection h
def LI{x:Str}(ft:Fits F sc)(h:Ej sc scope x=true):lT F scope x:=by simp only [Ej,i8,oU,Bh,decide_eq_true_eq,NR,N8,n9] at h;refine ad h fun z0 h8=>?_;clear h;refine ad z0 fun eA h7=>?_;clear z0;refine ad eA fun jw h6=>?_;clear eA;obtain ⟨⟨⟨⟨h1,h2⟩,h3⟩,h4⟩,h5⟩:=jw;refine ⟨h1,h2,fun y hy hl=>(h3 y hy).resolve_left (fun q=>q hl),h4,fun y hy hf=>?_,h6,h7,h8⟩;refine ad ((h5 y hy).resolve_left (fun q=>q hf)) fun z0 c=>?_;refine ad z0 fun a b=>?_;clear z0;refine ay (aeh.mp b) fun i hi=>?_;exact ⟨a,i,by rw [ft.nm];exact hi,by rw [ft.k];exact c⟩
def Ae{x:Str}(ft:Fits F sc)(co:lT F scope x)(hC:∀ y∈F.cells,y.2≠C):Fits (gz F scope C x) (rF sc scope x) where
 k id:=by
  show (relabel scope F.env).names.lookup id=(rF sc scope x).names.lookup id;have:(relabel scope F.env).names=(rF sc scope x).names:=by show ur _ _=ur _ _;refine Fs fun y hy=>?_;obtain ⟨n',k'⟩:=y;show (if (k'==r9&&F.env.scope.kind==.function&&F.env.kindOf n'==some .cell)=true then _ else _)=_;rw [ft.ok.fk,ft.k];simp
  rw [this]
 nm:=by show some x::F.nm.map _=some x::sc.nm.map _;rw [ft.nm]
 ok:=L4 ft.ok co hC
noncomputable def AM(B:Base prog w)(O:dL)(fu n:Nat)(F:br)(l:bg)(r:XL):Prop:=
 (r.e=true→rW B O fu n F l r.xs)∧(r.t=true→nw B O fu n F l r.xs)∧(r.e=true→r.p=true→r.xs.all f_=true∧kg B O fu n F l r.xs)
def vk{o:Option Str}{id:Str}(ft:Fits F sc)(h:yN sc o id=true):o=some id∧F.env.kindOf id=some .globalImplicit∧(id==("__debug__":Str))=false:=
 ⟨aD (aL (aL h)),nc ft (aR (aL h)),LA (aR h)⟩
def SL{l:bg}{xs:Qe}(h1:Ig l=true)(h:rW B O fu n F l xs):∃ a x,l=.cons a .nil∧xs=[x]∧aV B O fu n F a x:=by
 match l,xs,h1,h with
 | .cons a .nil,[x],_,h=>exact ⟨a,x,rfl,rfl,h.1⟩
def wL(fc:Facts B){b:BI}{l:bg}{r:XL}{e:Expr}(ft:Fits F sc)(hr:AM B O fu n F l r)(hb:b=.len∨b=.chr∨b=.ord∨b=.int∨b=.bytes)(h:(sc.gl (pS b)&&n9 (pS b)&&r.e&&r.p)=true):aV B O fu n F (.bi b l) (.Call (.Name (pS b) (vA e).pos) r.xs [] e.pos):=
 have q:=hr.2.2 (aR (aL h)) (aR h)
 acK fc ft.ok hb rfl (nc ft (aL (aL (aL h)))) (LA (aR (aL (aL h)))) q.1 q.2
theorem aa4(fc:Facts B){l:bg}{r:XL}{e:Expr}(ft:Fits F sc)(hr:AM B O fu n F l r):∀ b,t7 B O fu n F (.bi b l) (Mc sc l r e b)
 | .dW=>jL rfl rfl fun h=>by
  induction l using bg.casesOn with
  | nil=>exact acL fc ft.ok rfl (nc ft (aL h))
  | cons _ _=>exact nomatch aR h
 | .mq=>jL rfl rfl fun h=>by
  refine bx (SL (aR (aL (aL h))) (hr.1 (aR (aL h)))) fun a x z2=>?_;subst z2;intro hx ha;have q:=(hr.2.2 (aR (aL h)) (aR h)).1;rw [hx] at q⊢;exact acw fc ft.ok rfl rfl (nc ft (aL (aL (aL (aL h))))) (nc ft (aR (aL (aL (aL h))))) (aL q) ha
 | .len=>jL rfl rfl (wL fc ft hr (.inl rfl))
 | .chr=>jL rfl rfl (wL fc ft hr (.inr (.inl rfl)))
 | .ord=>jL rfl rfl (wL fc ft hr (.inr (.inr (.inl rfl))))
 | .int=>jL rfl rfl (wL fc ft hr (.inr (.inr (.inr (.inl rfl)))))
 | .bytes=>jL rfl rfl (wL fc ft hr (.inr (.inr (.inr (.inr rfl)))))
theorem aad{k:Nat}:∀ {v:PV},(Ab v).isSome=true→aV B O fu n F (.cst v) (.Constant ((Ab v).getD .none) k p)
 | .none,_=>acC
 | .bool _,_=>acE
 | .int _,_=>MV
 | .str _,_=>acB rfl
 | .bytes _,_=>acD
def ZX{l:bg}{r:XL}{e:Expr}(hr:AM B O fu n F l r):t7 B O fu n F (.dict mm ks l) (Lx ks l r e):=by
 induction ks using bj with
 | nil=>
  refine md fun h=>?_;induction l using bg.casesOn with
  | nil=>exact acz
  | cons _ _=>exact nomatch h
 | cons k ks=>exact md fun h=>acA (aL (aL (aL (aL (aL h))))) (aD (aR (aL (aL (aL (aL h)))))) (xx _ _) (aD (aR (aL (aL h)))) (aD (aR (aL h))) (hr.1 (aR h))
def Tn{p:PE}(h:Jt p=true):p=.cst .none:=by
 induction p using PE.casesOn with
 | cst v=>induction v using PV.casesOn<;>first|rfl|injection h
 | _=>injection h
def Ic{p:PE}{o:Option Expr}{f:Expr→XR}(hf:∀ y,t7 B O fu n F p (f y))(h:(s_ p o f).1=true):wV B O fu n F p (s_ p o f).2:=by
 induction o using az with
 | none=>rw [Tn h];exact aca
 | some y=>exact ab' ((hf y).1 h)
mutual
theorem bS(fu:Nat)(fc:Facts B)(oc:kh B O m)(hm:m + 1≤n):∀ (p:PE) (sc:Sc) (F:br) (e:Expr),Fits F sc→t7 B O fu n F p (er sc p e)
 | .any,sc,F,e,ft=>⟨fun _ A s σ H sl _ _ _=>aj.no,fun _ A s σ H sl _ _ _=>aj.no⟩
 | .cst v,sc,F,e,ft=>jL rfl rfl aad
 | .neg a,sc,F,e,ft=>md fun h=>MU ((bS fu fc oc hm a sc F _ ft).1 h)
 | .var i,sc,F,e,ft=>jL rfl rfl fun h=>acl ft.ok (ft.nm ▸ aD h)
 | .glob k,sc,F,e,ft=>md fun h=>acy fc ft.ok (vk ft h).1 (vk ft h).2.1 (vk ft h).2.2
 | .rL,sc,F,e,ft=>md fun h=>acO fc ft.ok rfl (nc ft h)
 | .bin o mm a b,sc,F,e,ft=>jL rfl rfl fun h=>acJ ((bS fu fc oc hm a sc F _ ft).1 (aL h)) ((bS fu fc oc hm b sc F _ ft).1 (aR h))
 | .cmp o a b,sc,F,e,ft=>⟨fun h=>acH ((bS fu fc oc hm a sc F _ ft).1 (aL (aL h))) ((bS fu fc oc hm b sc F _ ft).1 (aR (aL h))) (aN (aR h)),
   fun h=>abM ((bS fu fc oc hm a sc F _ ft).1 (aL (aL h))) ((bS fu fc oc hm b sc F _ ft).1 (aR (aL h))) (aN (aR h))⟩
 | .rG a db b eM c,sc,F,e,ft=>⟨fun h=>acG ((bS fu fc oc hm a sc F _ ft).1 (aL (aL (aL h)))) ((bS fu fc oc hm b sc F _ ft).1 (aR (aL (aL h)))) ((bS fu fc oc hm c sc F _ ft).1 (aR (aL h))) (aN (aR h)),
   fun h=>abL ((bS fu fc oc hm a sc F _ ft).1 (aL (aL (aL h)))) ((bS fu fc oc hm b sc F _ ft).1 (aR (aL (aL h)))) ((bS fu fc oc hm c sc F _ ft).1 (aR (aL h))) (aN (aR h))⟩
 | .iF l,sc,F,e,ft=>⟨fun h=>acN ((jh fu fc oc hm l sc F _ ft).1 h),fun h=>abN ((jh fu fc oc hm l sc F _ ft).2.1 h)⟩
 | .jW l,sc,F,e,ft=>⟨fun h=>acq ((jh fu fc oc hm l sc F _ ft).1 h),fun h=>abI ((jh fu fc oc hm l sc F _ ft).2.1 h)⟩
 | .me a,sc,F,e,ft=>⟨fun h=>acr ((bS fu fc oc hm a sc F _ ft).1 h),fun h=>abJ ((bS fu fc oc hm a sc F _ ft).2 h)⟩
 | .ite c a b,sc,F,e,ft=>⟨fun h=>acv ((bS fu fc oc hm c sc F _ ft).2 (aL (aL h))) ((bS fu fc oc hm a sc F _ ft).1 (aR (aL h))) ((bS fu fc oc hm b sc F _ ft).1 (aR h)),
   fun h=>abK ((bS fu fc oc hm c sc F _ ft).2 (aL (aL h))) ((bS fu fc oc hm a sc F _ ft).2 (aR (aL h))) ((bS fu fc oc hm b sc F _ ft).2 (aR h))⟩
 | .tup l,sc,F,e,ft=>md fun h=>acm (aD (aL (aL h))) ((jh fu fc oc hm l sc F _ ft).2.2 (aR (aL h)) (aR h)).2
 | .list mm l,sc,F,e,ft=>md fun h=>acu ((jh fu fc oc hm l sc F _ ft).2.2 (aL h) (aR h)).2
 | .dict mm ks l,sc,F,e,ft=>ZX (jh fu fc oc hm l sc F _ ft)
 | .idx a i,sc,F,e,ft=>jL rfl rfl fun h=>acx ((bS fu fc oc hm a sc F _ ft).1 (aL h)) ((bS fu fc oc hm i sc F _ ft).1 (aR h))
 | .slice a lo hi,sc,F,e,ft=>md fun h=>acn ((bS fu fc oc hm a sc F _ ft).1 (aL (aL h))) (Ic (fun y=>bS fu fc oc hm lo sc F y ft) (aR (aL h))) (Ic (fun y=>bS fu fc oc hm hi sc F y ft) (aR h))
 | .rev mm a,sc,F,e,ft=>md fun h=>aco ((bS fu fc oc hm a sc F _ ft).1 h)
 | .attr a k,sc,F,e,ft=>jL rfl rfl fun h=>acM fc rfl (aL (aL h)) (aR (aL h)) ((bS fu fc oc hm a sc F _ ft).1 (aR h))
 | .call mo f l,sc,F,e,ft=>jL rfl rfl fun h=>
   have q:=(jh fu fc oc hm l sc F _ ft).2.2 (aR (aL h)) (aR h);have y:=vk ft (aL (aL h))
   acI oc (ug hm) ft.ok y.1 y.2.1 y.2.2 q.1 q.2
 | .new mo c l,sc,F,e,ft=>md fun h=>
   have q:=(jh fu fc oc hm l sc F _ ft).2.2 (aR (aL h)) (aR h);have y:=vk ft (aL (aL h))
   acs fc oc hm ft.ok y.1 y.2.1 y.2.2 q.1 q.2
 | .own mo k a l,sc,F,e,ft=>jL rfl rfl fun h=>
   have y:=aR (aL h);have q:=(jh fu fc oc hm l sc F _ ft).2.2 (aR (aL y)) (aR y)
   acp fc oc (ug hm) (aD (aL (aL h))) (aL (aL (aL (aL y)))) q.1 (aD (aR (aL (aL (aL y))))) (aR (aL (aL y))) ((bS fu fc oc hm a sc F _ ft).1 (aR h)) q.2
 | .sup l,sc,F,e,ft=>⟨fun h=>(nomatch h),fun h=>(nomatch h)⟩
 | .gq b a l,sc,F,e,ft=>jL rfl rfl fun h=>
   have y:=aL h;have q:=(jh fu fc oc hm l sc F _ ft).2.2 (aR (aL y)) (aR y)
   act rfl (aL (aL (aL (aL y)))) q.1 (aD (aR (aL (aL (aL y))))) (aR (aL (aL y))) ((bS fu fc oc hm a sc F _ ft).1 (aR h)) q.2
 | .bi b l,sc,F,e,ft=>aa4 fc ft (jh fu fc oc hm l sc F _ ft) b
 | .comp mm elt it bf,sc,F,e,ft=>md fun h=>
   have co:=LI ft (aL (aL (aL (aL h))))
   acF ft.ok co (setOk (aN (aR (aL (aL (aL h)))))) ((z_ fu fc oc hm it sc F _ ft).1 (aR (aL (aL h)))) (fun C hC=>(bS fu fc oc hm elt _ _ _ (Ae ft co hC)).1 (aR (aL h))) (fun C hC=>(jh fu fc oc hm bf _ _ _ (Ae ft co hC)).2.1 (aR h))
theorem jh(fu:Nat)(fc:Facts B)(oc:kh B O m)(hm:m + 1≤n):∀ (l:bg) (sc:Sc) (F:br) (es:Qe),Fits F sc→AM B O fu n F l (cW sc l es)
 | .nil,sc,F,es,ft=>⟨fun _=>trivial,fun _=>trivial,fun _ _=>⟨rfl,t6⟩⟩
 | .cons a r,sc,F,es,ft=>
   have x:=bS fu fc oc hm a sc F (eO es) ft;have y:=jh fu fc oc hm r sc F es.tail ft;
   ⟨fun h=>⟨x.1 (aL h),y.1 (aR h)⟩,fun h=>⟨x.2 (aL h),y.2.1 (aR h)⟩,fun h q=>
    have z:=y.2.2 (aR h) (aR q);
    ⟨nM.mpr ⟨aL q,z.1⟩,AK (aL q) (x.1 (aL h)) z.2⟩⟩
theorem z_(fu:Nat)(fc:Facts B)(oc:kh B O m)(hm:m + 1≤n):∀ (it:IE) (sc:Sc) (F:br) (e:Expr),Fits F sc→((kR sc it e).e=true→lQ B O n F false it (kR sc it e).x)∧((kR sc it e).t=true→lQ B O n F true it (kR sc it e).x)
 | .ex a,sc,F,e,ft=>⟨fun h=>MM (fu:=fu) ((bS fu fc oc hm a sc F _ ft).1 h),fun h=>MM (fu:=fu) ((bS fu fc oc hm a sc F _ ft).1 h)⟩
 | .kt a,sc,F,e,ft=>
   have k:=fun (tup:Bool) h=>ach (tup:=tup) (fu:=fu) fc ft.ok rfl (nc ft (aL (aL h))) (aR (aL h)) ((bS fu fc oc hm a sc F (eO (bN e)) ft).1 (aR h));
   ⟨k false,k true⟩
 | .vals a,sc,F,e,ft=>⟨fun h=>ML (fu:=fu) rfl (aL (aL h)) (aR (aL h)) ((bS fu fc oc hm a sc F _ ft).1 (aR h)),fun h=>ML (fu:=fu) rfl (aL (aL h)) (aR (aL h)) ((bS fu fc oc hm a sc F _ ft).1 (aR h))⟩
 | .enum a,sc,F,e,ft=>⟨fun h=>(nomatch h),fun h=>aci (fu:=fu) fc ft.ok rfl (nc ft (aL (aL h))) (aR (aL h)) ((bS fu fc oc hm a sc F _ ft).1 (aR h))⟩
end
end
end
section
set_option backward.match.sparseCases true
open PySem
noncomputable def vE(e:Expr):Bool:=(ev e).cp
noncomputable def BG(sc:Sc)(value:Expr)(id:Str)(p:Pos):Bool:=match value with
 | .ListComp _ _ scope _=>decide (sc.k id=some .local)&&(p.line==value.pos.line)&&!(scope.names.any fun (n,k)=>n==id&&(k==.local||k==.cell))
 | _=>false
noncomputable def isStar:Expr→Bool
 | .Starred ..=>true
 | _=>false
noncomputable def o4(kf:Str→Option NameKind)(ts:Qe):Qs:=ts.filterMap fun
  | .Name id pos=>if kf id==some .local&&pos.line==(ts.head?.map (·.pos.line)).getD 0 then some id else none
  | _=>none
def BH(sc:Sc)(ts:Qe)(o:Option Qe):Option (Option Qs):=match o with
 | some vs=>
  if !(ts.length==2||ts.length==3)||vs.length != ts.length then some none
  else if vs.any isStar then some none
  else if (o4 sc.k ts).length != ts.length||(o4 sc.k ts).eraseDups.length != (o4 sc.k ts).length then some none
  else if vs.all (foldedForSure 8) then some none
  else if vs.all (constantsAlone 8) then none
  else some (some (o4 sc.k ts))
 | none=>some none
noncomputable def Bu:Expr→Option Qe
 | .Tuple vs _ _=>some vs
 | _=>none
noncomputable def uQ:Qn→Qe→List (Str×Pos)
 | [],_=>[]
 | _::is,es=>(eY (eO es),(eO es).pos)::uQ is es.tail
noncomputable def x5(sc:Sc):Qn→List (Str×Pos)→Bool
 | [],[]=>true
 | i::is,x::es=>sc.st i x.1&&x5 sc is es
 | _,_=>false
noncomputable def Cu(sc:Sc):Qn→Qs→Bool
 | [],[]=>true
 | i::is,id::es=>sc.st i id&&Cu sc is es
 | _,_=>false
structure SV where
 t:Expr
 v:Expr
 b:Qt
 o:Qt
 h:Expr×Pos
 f:Option (Str×Arguments×Qt×jO)
 k:Option (Str×Qt)
noncomputable def q9:ExceptHandler→Option Expr×Qt×Pos
 | .ExceptHandler t _ o p=>(t,o,p)
def qv:mJ→SV
 | .Assign l v _=>⟨l.headD default,v,[],[],default,none,none⟩
 | .Expr v _=>⟨default,v,[],[],default,none,none⟩
 | .Return o _=>⟨default,o.getD default,[],[],default,none,none⟩
 | .If c b o _=>⟨default,c,b,o,default,none,none⟩
 | .While c b _ _=>⟨default,c,b,[],default,none,none⟩
 | .For t i b _ _=>⟨t,i,b,[],default,none,none⟩
 | .Raise o _ _=>⟨default,o.getD default,[],[],default,none,none⟩
 | .Try b hs _ _ _=>⟨default,default,b,(hs.head?.map fun x=>(q9 x).2.1).getD [],(hs.head?.map fun x=>((q9 x).1.getD default,(q9 x).2.2)).getD default,none,none⟩
 | .FunctionDef n a b _ _ _ sc _ _ _=>⟨default,default,[],[],default,some (n,a,b,sc),none⟩
 | .ClassDef n _ _ b _ _ _ _ _ _ _=>⟨default,default,[],[],default,none,some (n,b)⟩
 | _=>⟨default,default,[],[],default,none,none⟩
def sT(s:mJ):Expr:=(qv s).t
def sV(s:mJ):Expr:=(qv s).v
def sB(s:mJ):Qt:=(qv s).b
def sO(s:mJ):Qt:=(qv s).o
def sH(s:mJ):Expr×Pos:=(qv s).h
noncomputable def aH(l:Qt):mJ:=l.headD default
noncomputable def CX:PE→Bool
 | .comp ..=>true
 | _=>false
def EL(sc:Sc)(is:Qn)(ns:List (Str×Pos))(x:Expr):Bool:=match BH sc (ns.map qQ) (Bu x) with
 | none=>false
 | some none=>x5 sc is ns
 | some (some names)=>(decide (is.length=2)||decide (is.length=3))&&decide is.Nodup&&Cu sc is names
noncomputable abbrev sR(c:Bool)(s:mJ)(r:Bool×Qt):Bool×Qt:=(c&&r.1,s::r.2)
noncomputable def dK(sc:Sc):PS→Qt→Bool×Qt
 | .any,ss=>(true,ss)
 | .nil,_=>(true,[])
 | .cont,ss=>(true,.Continue (aH ss).pos::ss.tail)
 | .asg i e r,ss=>sR (sc.st i (eY (sT (aH ss)))&&((CX e&&BG sc (er sc e (sV (aH ss))).x (eY (sT (aH ss))) (sT (aH ss)).pos)||!vE (er sc e (sV (aH ss))).x||decide (sc.k (eY (sT (aH ss)))≠some .local))&&(er sc e (sV (aH ss))).e)
   (.Assign [.Name (eY (sT (aH ss))) (sT (aH ss)).pos] (er sc e (sV (aH ss))).x (aH ss).pos) (dK sc r ss.tail)
 | .dr is e r,ss=>sR (EL sc is (uQ is (bN (sT (aH ss)))) (er sc e (sV (aH ss))).x&&(er sc e (sV (aH ss))).e)
   (.Assign [.Tuple ((uQ is (bN (sT (aH ss)))).map qQ) (vN (sT (aH ss))) (sT (aH ss)).pos] (er sc e (sV (aH ss))).x (aH ss).pos) (dK sc r ss.tail)
 | .jA a k e r,ss=>sR (nu.contains (sv k)&&(er sc a (vA (sT (aH ss)))).e&&(er sc e (sV (aH ss))).e) (.Assign [.Attribute (er sc a (vA (sT (aH ss)))).x (sv k) (sT (aH ss)).pos] (er sc e (sV (aH ss))).x (aH ss).pos) (dK sc r ss.tail)
 | .gF a i e r,ss=>sR ((er sc a (vA (sT (aH ss)))).e&&(er sc i (vB (sT (aH ss)))).e&&(er sc e (sV (aH ss))).e) (.Assign [.Subscript (er sc a (vA (sT (aH ss)))).x (er sc i (vB (sT (aH ss)))).x (sT (aH ss)).pos] (er sc e (sV (aH ss))).x (aH ss).pos) (dK sc r ss.tail)
 | .expr e r,ss=>sR (!vE (er sc e (sV (aH ss))).x&&(er sc e (sV (aH ss))).e) (.Expr (er sc e (sV (aH ss))).x (aH ss).pos) (dK sc r ss.tail)
 | .ret e,ss=>((er sc e (sV (aH ss))).e,.Return (some (er sc e (sV (aH ss))).x) (aH ss).pos::ss.tail)
 | .ifs c t f r,ss=>sR ((er sc c (sV (aH ss))).t&&(dK sc t (sB (aH ss))).1&&(dK sc f (sO (aH ss))).1) (.If (er sc c (sV (aH ss))).x (dK sc t (sB (aH ss))).2 (dK sc f (sO (aH ss))).2 (aH ss).pos) (dK sc r ss.tail)
 | .mR c b r,ss=>sR ((er sc c (sV (aH ss))).t&&(dK sc b (sB (aH ss))).1) (.While (er sc c (sV (aH ss))).x (dK sc b (sB (aH ss))).2 [] (aH ss).pos) (dK sc r ss.tail)
 | .fP i it b r,ss=>sR (sc.st i (eY (sT (aH ss)))&&!isSet (kR sc it (sV (aH ss))).x&&(kR sc it (sV (aH ss))).e&&(dK sc b (sB (aH ss))).1)
   (.For (.Name (eY (sT (aH ss))) (sT (aH ss)).pos) (kR sc it (sV (aH ss))).x (dK sc b (sB (aH ss))).2 [] (aH ss).pos) (dK sc r ss.tail)
 | .mA is it b r,ss=>sR (x5 sc is (uQ is (bN (sT (aH ss))))&&!isSet (kR sc it (sV (aH ss))).x&&(kR sc it (sV (aH ss))).t&&(dK sc b (sB (aH ss))).1)
   (.For (.Tuple ((uQ is (bN (sT (aH ss)))).map qQ) (vN (sT (aH ss))) (sT (aH ss)).pos) (kR sc it (sV (aH ss))).x (dK sc b (sB (aH ss))).2 [] (aH ss).pos) (dK sc r ss.tail)
 | .raise e,ss=>(sc.gl "BadPattern"&&f_ (er sc e (eO (bN (sV (aH ss))))).x&&(er sc e (eO (bN (sV (aH ss))))).e,
   .Raise (some (.Call (.Name "BadPattern" (vA (sV (aH ss))).pos) [(er sc e (eO (bN (sV (aH ss))))).x] [] (sV (aH ss)).pos)) none (aH ss).pos::ss.tail)
 | .nR e i v r,ss=>sR (sc.gl "BadPattern"&&sc.st i (eY (sT (aH (sO (aH ss)))))&&!vE (er sc e (sV (aH (sB (aH ss))))).x&&(er sc e (sV (aH (sB (aH ss))))).e)
   (.Try [.Expr (er sc e (sV (aH (sB (aH ss))))).x (aH (sB (aH ss))).pos] [.ExceptHandler (some (.Name "BadPattern" (sH (aH ss)).1.pos)) none [.Assign [.Name (eY (sT (aH (sO (aH ss))))) (sT (aH (sO (aH ss)))).pos] (.Constant (.bool v) (vN (sV (aH (sO (aH ss))))) (sV (aH (sO (aH ss)))).pos) (aH (sO (aH ss))).pos] (sH (aH ss)).2] [] [] (aH ss).pos) (dK sc r ss.tail)
def Lj(sc:Sc)(l:bg)(r:PS)(ss:Qt):Bool×Qt:=
 sR (((vA (sV (aH ss))).pos.endLine==(sV (aH ss)).pos.line)&&decide ((cW sc l (bN (sV (aH ss)))).xs.length < 30)&&(cW sc l (bN (sV (aH ss)))).e&&(cW sc l (bN (sV (aH ss)))).p)
  (.Expr (.Call (.Attribute (.Call (.Name "super" (vA (vA (vA (sV (aH ss))))).pos) [] [] (vA (vA (sV (aH ss)))).pos) "__init__" (vA (sV (aH ss))).pos) (cW sc l (bN (sV (aH ss)))).xs [] (sV (aH ss)).pos) (aH ss).pos) (dK sc r ss.tail)
section
variable {F:br}
def BF{t:Option Expr}{l:Nat}(h:vE value=false):nB value t l env=pure false:=by induction value using jv<;>first|rfl|injection h
def GK{o:Expr}{a:Str}{l:Nat}:nB value (some (.Attribute o a p)) l env=pure false:=by induction value using jv<;>rfl
def PQ{o i:Expr}{l:Nat}:nB value (some (.Subscript o i p)) l env=pure false:=by induction value using jv<;>rfl
def GJ{k:Nat}{l:Nat}:swapsWithSole [.Tuple es k p] value l env=pure false:=by induction value using jv<;>rfl
def L6(h:env.scope.kind=.function):env.blockKind=.function:=by delta Env.blockKind;rw [h];rfl
def PN{id:Str}{l:Nat}(ft:Fits F sc)(h:BG sc value id p=true):nB value (some (.Name id p)) l F.env=pure true:=by
 induction value using jv with
 | ListComp=>show (pure (F.env.blockKind==.function&&F.env.kindOf id==some .local&&p.line==_&&!_):Sem Bool)=_;rw [L6 ft.ok.fk,ft.k,aD (aL (aL h)),aR (aL h),aN (aR h)];rfl
 | _=>injection h
def sw_eq{ts vs:Qe}{k:Nat}{p':Pos}:w8 [.Tuple ts k p] (.Tuple vs k' p') env=(
  if !(ts.length==2||ts.length==3)||vs.length != ts.length||env.blockKind != .function then pure none
  else if vs.any isStar then pure none
  else if (o4 env.kindOf ts).length != ts.length||(o4 env.kindOf ts).eraseDups.length != (o4 env.kindOf ts).length then pure none
  else if vs.all (foldedForSure 8) then pure none
  else if vs.all (constantsAlone 8) then unsupported "assign.tuple-of-constant-expressions:order-of-the-stores"
  else pure (some (o4 env.kindOf ts))):=by
 rfl
def PM{c1 c2 c3 c4 c5:Bool}{ns:Qs}{r:Option Qs}{u:Sem (Option Qs)}(h:(if c1 then some none else if c2 then some none else if c3 then some none else if c4 then some none else if c5 then none else some (some ns))=some r):
  (if c1 then pure none else if c2 then pure none else if c3 then pure none else if c4 then pure none else if c5 then u else pure (some ns))=(pure r:Sem _):=by
 induction c1 with
 | true=>(injection h with e1;subst e1);rfl
 | false=>induction c2 with
  | true=>(injection h with e1;subst e1);rfl
  | false=>induction c3 with
   | true=>(injection h with e1;subst e1);rfl
   | false=>induction c4 with
    | true=>(injection h with e1;subst e1);rfl
    | false=>induction c5<;>(first|(injection h;done)|(injection h with e1;subst e1));rfl
def GL{ts:Qe}{k:Nat}{r:Option Qs}(ft:Fits F sc)(h:BH sc ts (Bu value)=some r):w8 [.Tuple ts k p] value F.env=pure r:=by
 induction value using jv with
 | Tuple vs k' p'=>refine (sw_eq).trans ?_;rw [(funext ft.k:F.env.kindOf=sc.k),L6 ft.ok.fk,show (adh != adh)=false from rfl,N5];exact PM h
 | _=>(injection h with e1;subst e1);rfl
theorem BB{sc:Sc}(ft:Fits F sc):∀ {is:Qn} {es:List (Str×Pos)},x5 sc is es=true→Tg F is es
 | [],[],_=>trivial
 | i::is,x::es,h=>⟨sK ft (aL h),BB ft (aR h)⟩
theorem Iz{sc:Sc}(ft:Fits F sc):∀ {is:Qn} {es:Qs},Cu sc is es=true→Binds F is (es.map fun n=>bindName F.env n)
 | [],[],_=>trivial
 | i::is,id::es,h=>⟨⟨id,(sK ft (aL h)).1,(sK ft (aL h)).2,.inl fun _=>rfl⟩,Iz ft (aR h)⟩
def PT{id:Str}{l:Nat}(h:env.kindOf id≠some .local):nB value (some (.Name id p)) l env=pure false:=by
 have hk:(env.kindOf id==some .local)=false:=beq_eq_false_iff_ne.mpr h;induction value using jv<;>first
  | rfl
  | (show (pure (env.blockKind==.function&&env.kindOf id==some .local&&p.line==_&&!_):Sem Bool)=_;rw [hk,xF,N_,N_])
def aal(h:CX e=true):∃ mm pe ie bf,e=.comp mm pe ie bf:=by
 induction e using PE.casesOn with
 | comp=>exact ⟨_,_,_,_,rfl⟩
 | _=>injection h
def abh(fc:Facts B)(oc:kh B O m)(hm:m + 1≤n){id:Str}{v:Expr}(ft:Fits F sc)(h:(sc.st i id&&((CX e&&BG sc (er sc e v).x id p)||!vE (er sc e v).x||decide (sc.k id≠some .local))&&(er sc e v).e)=true)(hr:cx B O fu n F L r rest):cx B O fu n F L (.asg i e r) (.Assign [.Name id p] (er sc e v).x pos::rest):=by
 have q:=sK ft (aL (aL h));have h3:=aR h;rcases N6.mp (aR (aL h)) with h2|h2
 ·rcases N6.mp h2 with h2|h2
  ·have hy:=PN (l:=pos.line) ft (aR h2);refine F8 (aal (aL h2)) fun mm pe ie bf z4=>?_;subst z4;have co:=LI ft (aL (aL (aL (aL h3))));exact ab3 ft.ok co hy q.1 q.2 (setOk (aN (aR (aL (aL (aL h3)))))) ((z_ fu fc oc hm ie sc F _ ft).1 (aR (aL (aL h3)))) (fun C hC=>(bS fu fc oc hm pe _ _ _ (Ae ft co hC)).1 (aR (aL h3))) (fun C hC=>(jh fu fc oc hm bf _ _ _ (Ae ft co hC)).2.1 (aR h3)) hr
  ·exact ME ft.ok (BF (aN h2)) q.1 q.2 ((bS fu fc oc hm e sc F _ ft).1 h3) hr
 ·exact ME ft.ok (PT (ft.k id ▸ aD h2)) q.1 q.2 ((bS fu fc oc hm e sc F _ ft).1 h3) hr
def abg{ns:List (Str×Pos)}{x:Expr}{k:Nat}(ft:Fits F sc)(h:EL sc is ns x=true)(he:aV B O fu n F e x)(hr:cx B O fu n F L r rest):cx B O fu n F L (.dr is e r) (.Assign [.Tuple (ns.map qQ) k p] x pos::rest):=by
 delta EL at h;generalize hw:(BH sc (ns.map qQ) (Bu x))=zz;induction zz using az with
 | none=>rw [hw] at h;injection h
 | some o=>
  rw [hw] at h;induction o using az with
  | none=>exact ab2 ft.ok GJ (GL ft hw) ⟨ns,rfl,BB ft h⟩ he hr
  | some names=>exact ab1 ft.ok GJ (GL ft hw) ((N6.mp (aL (aL h))).imp aD aD) (aD (aR (aL h))) (Iz ft (aR h)) he hr
theorem iS(fc:Facts B)(bo:nz B)(oc:kh B O m)(hm:m + 1≤n)(gJ:1≤n)(hf:F.env.frame=some L){sc:Sc}(ft:Fits F sc):∀ (p:PS) (ss:Qt),(dK sc p ss).1=true→cx B O fu n F L p (dK sc p ss).2
 | .any,ss,h=>fun A s σ H sl _ _ _ _=>aY.no
 | .nil,ss,h=>abV
 | .cont,ss,h=>ab0
 | .asg i e r,ss,h=>abh fc oc hm ft (aL h) (iS fc bo oc hm gJ hf ft r _ (aR h))
 | .dr is e r,ss,h=>abg ft (aL (aL h)) ((bS fu fc oc hm e sc F _ ft).1 (aR (aL h))) (iS fc bo oc hm gJ hf ft r _ (aR h))
 | .jA a k e r,ss,h=>abS fc rfl (aL (aL (aL h))) GK ((bS fu fc oc hm a sc F _ ft).1 (aR (aL (aL h)))) ((bS fu fc oc hm e sc F _ ft).1 (aR (aL h))) (iS fc bo oc hm gJ hf ft r _ (aR h))
 | .gF a i e r,ss,h=>abR PQ ((bS fu fc oc hm a sc F _ ft).1 (aL (aL (aL h)))) ((bS fu fc oc hm i sc F _ ft).1 (aR (aL (aL h)))) ((bS fu fc oc hm e sc F _ ft).1 (aR (aL h))) (iS fc bo oc hm gJ hf ft r _ (aR h))
 | .expr e r,ss,h=>abZ ft.ok (BF (aN (aL (aL h)))) ((bS fu fc oc hm e sc F _ ft).1 (aR (aL h))) (iS fc bo oc hm gJ hf ft r _ (aR h))
 | .ret e,ss,h=>abT ((bS fu fc oc hm e sc F _ ft).1 h)
 | .ifs c t f r,ss,h=>abW ((bS fu fc oc hm c sc F _ ft).2 (aL (aL (aL h)))) (iS fc bo oc hm gJ hf ft t _ (aR (aL (aL h)))) (iS fc bo oc hm gJ hf ft f _ (aR (aL h))) (iS fc bo oc hm gJ hf ft r _ (aR h))
 | .mR c b r,ss,h=>abO ((bS fu fc oc hm c sc F _ ft).2 (aL (aL h))) (iS fc bo oc hm gJ hf ft b _ (aR (aL h))) (iS fc bo oc hm gJ hf ft r _ (aR h))
 | .fP i it b r,ss,h=>
  have q:=sK ft (aL (aL (aL (aL h))))
  abY ft.ok hf q.1 q.2 (setOk (aN (aR (aL (aL (aL h)))))) ((z_ fu fc oc hm it sc F _ ft).1 (aR (aL (aL h)))) (iS fc bo oc hm gJ hf ft b _ (aR (aL h))) (iS fc bo oc hm gJ hf ft r _ (aR h))
 | .mA is it b r,ss,h=>abX ft.ok hf ⟨_,rfl,BB ft (aL (aL (aL (aL h))))⟩ (setOk (aN (aR (aL (aL (aL h)))))) ((z_ fu fc oc hm it sc F _ ft).2 (aR (aL (aL h)))) (iS fc bo oc hm gJ hf ft b _ (aR (aL h))) (iS fc bo oc hm gJ hf ft r _ (aR h))
 | .raise e,ss,h=>abU bo ft.ok gJ rfl (nc ft (aL (aL h))) (aR (aL h)) ((bS fu fc oc hm e sc F _ ft).1 (aR h))
 | .nR e i v r,ss,h=>
  have q:=sK ft (aR (aL (aL (aL h))))
  abP bo ft.ok hf rfl (nc ft (aL (aL (aL (aL h))))) q.1 q.2 (BF (aN (aR (aL (aL h))))) ((bS fu fc oc hm e sc F _ ft).1 (aR (aL h))) (iS fc bo oc hm gJ hf ft r _ (aR h))
end
end
section
open PySem
noncomputable def Za:Qs:=["octets"]
noncomputable def f0:PS:=.r (.m .pq (.s []) (.j (.comp false (.bi .chr (.j (.v 0))) (.ex (.v 0)) .nil)))
noncomputable def YW:Qs:=["pattern","at"]
noncomputable def f1:PS:=.f (.p .ne (.x (.v 0) (.v 1)) (.h 1)) (.r (.tup (.c (.x (.v 0) (.v 1)) (.j (.q .add false (.v 1) (.i 1)))))) .nil (.f (.p .eq (.q .add false (.v 1) (.i 1)) (.bi .len (.j (.v 0)))) (.r (.tup (.c .w (.j (.q .add false (.v 1) (.i 1)))))) .nil (.r (.tup (.c (.x (.v 0) (.q .add false (.v 1) (.i 1))) (.j (.q .add false (.v 1) (.i 2)))))))
noncomputable def YJ:Qs:=["pattern","at","end","pathname"]
noncomputable def f2:PS:=.f (.n (.v 3)) (.r (.tup (.c (.tup (.j (.h 7))) (.j (.v 2))))) .nil (.f (.d (.c (.p .gt (.q .sub false (.v 2) (.v 1)) (.i 1)) (.j (.o (.c (.p .eq (.v 1) (.i 0)) (.j (.p .eq (.x (.v 0) (.q .sub false (.v 1) (.i 1))) (.h 0)))))))) (.f (.p .eq (.v 2) (.bi .len (.j (.v 0)))) (.r (.tup (.c (.tup (.j (.h 7))) (.j (.v 2))))) .nil (.f (.p .eq (.x (.v 0) (.v 2)) (.h 0)) (.r (.tup (.c (.tup (.j (.h 8))) (.j (.q .add false (.v 2) (.i 1)))))) .nil (.f (.p .eq (.z (.v 0) (.v 2) (.q .add false (.v 2) (.i 2))) (.y [92,47])) (.r (.tup (.c (.tup (.j (.h 8))) (.j (.q .add false (.v 2) (.i 2)))))) .nil .nil))) .nil (.r (.tup (.c (.tup (.j (.h 6))) (.j (.v 2))))))
noncomputable def YD:Qs:=["pattern","pathname","found","at","size","sign","end","token"]
noncomputable def f3:PS:=.dr [2,3,4] (.tup (.c (.list true .nil) (.c (.i 0) (.j (.bi .len (.j (.v 0))))))) (.mR (.p .lt (.v 3) (.v 4)) (.g 5 (.x (.v 0) (.v 3)) (.f (.p .eq (.v 5) (.h 2)) (.g 6 (.q .add false (.v 3) (.i 1)) (.mR (.d (.c (.p .lt (.v 6) (.v 4)) (.j (.p .eq (.x (.v 0) (.v 6)) (.h 2))))) (.g 6 (.q .add false (.v 6) (.i 1)) .nil) (.dr [7,3] (.l .pure 2 (.c (.v 0) (.c (.v 3) (.c (.v 6) (.j (.v 1)))))) .nil))) (.f (.p .eq (.v 5) (.i 63)) (.dr [7,3] (.tup (.c (.tup (.j (.h 4))) (.j (.q .add false (.v 3) (.i 1))))) .nil) (.f (.p .eq (.v 5) (.i 91)) (.dr [7,3] .any .nil) (.dr [5,3] (.l .pure 1 (.c (.v 0) (.j (.v 3)))) (.g 7 (.ite (.p .iQ (.v 5) .w) (.tup (.c (.h 3) (.j (.v 5)))) .w) .nil)) .nil) .nil) (.f (.p .is (.v 7) .w) (.r .w) .nil (.e (.m .append (.v 2) (.j (.v 7))) .nil)))) (.r (.v 2)))
noncomputable def Y3:Qs:=["pairs","sign","low","high"]
noncomputable def Y4:PS:=.mA [2,3] (.ex (.v 0)) (.f (.rG (.v 2) .le (.v 1) .le (.v 3)) (.r (.b true)) .nil .nil) (.r (.b false))
noncomputable def YC:Qs:=["token","sign","pathname","fold","is_in"]
noncomputable def f4:PS:=.f (.p .eq (.x (.v 0) (.i 0)) (.h 3)) (.r (.o (.c (.p .eq (.v 1) (.x (.v 0) (.i 1))) (.j (.d (.c (.v 3) (.j (.p .eq .any (.x (.v 0) (.i 1)))))))))) .nil (.f (.d (.c (.v 2) (.j (.p .eq (.v 1) (.h 0))))) (.r (.b false)) .nil (.f (.p .eq (.x (.v 0) (.i 0)) (.h 4)) (.r (.b true)) .nil (.g 4 (.o (.c (.l .pure 13 (.c (.x (.v 0) (.i 2)) (.j (.v 1)))) (.j (.d (.c (.v 3) (.j (.l .pure 13 (.c (.x (.v 0) (.i 2)) (.j .any))))))))) (.r (.p .ne (.v 4) (.x (.v 0) (.i 1)))))))
noncomputable def YB:Qs:=["token","reach","text","pathname","fold","kind","later","is_seen","at"]
noncomputable def f5:PS:=.dr [5,6,7] (.tup (.c (.x (.v 0) (.i 0)) (.c (.q .mul true (.list false (.j (.b false))) (.bi .len (.j (.v 1)))) (.j (.b false))))) (.fP 8 (.kt (.bi .len (.j (.v 1)))) (.f (.p .eq (.v 5) (.h 7)) (.g 7 (.o (.c (.v 7) (.j (.x (.v 1) (.v 8))))) (.gF (.v 6) (.v 8) (.v 7) .nil)) (.f (.p .eq (.v 5) (.h 6)) (.gF (.v 6) (.v 8) (.o (.c (.x (.v 1) (.v 8)) (.j (.d (.c (.p .gt (.v 8) (.i 0)) (.c (.x (.v 6) (.q .sub false (.v 8) (.i 1))) (.j (.p .ne (.x (.v 2) (.q .sub false (.v 8) (.i 1))) (.h 0))))))))) .nil) (.f (.p .eq (.v 5) (.h 8)) (.gF (.v 6) (.v 8) (.o (.c (.x (.v 1) (.v 8)) (.j (.d (.c (.v 7) (.j (.p .eq (.x (.v 2) (.q .sub false (.v 8) (.i 1))) (.h 0)))))))) (.g 7 (.o (.c (.v 7) (.j (.x (.v 1) (.v 8))))) .nil)) (.f (.d (.c (.p .gt (.v 8) (.i 0)) (.j (.x (.v 1) (.q .sub false (.v 8) (.i 1)))))) (.gF (.v 6) (.v 8) (.l .pure 4 (.c (.v 0) (.c (.x (.v 2) (.q .sub false (.v 8) (.i 1))) (.c (.v 3) (.j (.v 4)))))) .nil) .nil .nil) .nil) .nil) .nil) (.r (.v 6)))
noncomputable def YA:Qs:=["tokens","text","pathname","fold","reach","token"]
noncomputable def f6:PS:=.f (.p .is (.v 0) .w) (.r (.b false)) .nil (.g 4 (.q .add false (.list false (.j (.b true))) (.q .mul false (.list false (.j (.b false))) (.bi .len (.j (.v 1))))) (.fP 5 (.ex (.v 0)) (.g 4 (.l .pure 5 (.c (.v 5) (.c (.v 4) (.c (.v 1) (.c (.v 2) (.j (.v 3))))))) (.f (.p .dg (.b true) (.v 4)) (.r (.b false)) .nil .nil)) (.r (.x (.v 4) (.bi .len (.j (.v 1)))))))
noncomputable def Yz:Qs:=["folder","path"]
noncomputable def f7:PS:=.f (.p .eq (.v 0) (.y [])) (.r (.v 1)) .nil (.f (.m .starts (.v 1) (.j (.q .add false (.v 0) (.y [47])))) (.r (.z (.v 1) (.q .add false (.bi .len (.j (.v 0))) (.i 1)) .w)) .nil (.r .w))
noncomputable def zd:Qs:=["self","pattern","folder"]
noncomputable def i0:PS:=.jA (.v 0) [102,111,108,100,101,114] (.v 2) (.jA (.v 0) [100,101,112,116,104] (.ite (.p .eq (.v 2) (.y [])) (.i 0) (.q .add false (.m .count (.v 2) (.j (.y [47]))) (.i 1))) (.jA (.v 0) [105,115,95,102,111,108,100,101,114] (.m .ends (.v 1) (.j (.y [47]))) (.f (.a (.v 0) [105,115,95,102,111,108,100,101,114]) (.g 1 (.z (.v 1) .w (.neg (.i 1))) .nil) .nil (.jA (.v 0) [105,115,95,97,110,99,104,111,114,101,100] (.p .aG (.y [47]) (.v 1)) (.f (.m .starts (.v 1) (.j (.y [47]))) (.g 1 (.z (.v 1) (.i 1) .w) .nil) .nil (.jA (.v 0) [112,97,116,116,101,114,110] (.v 1) (.jA (.v 0) [105,115,95,114,117,108,101] (.p .ne (.v 1) (.y [])) (.jA (.v 0) [116,111,107,101,110,115] (.l .pure 3 (.c (.v 1) (.j (.b true)))) .nil))))))))
noncomputable def yR:Qs:=["self","path","is_dir","inner"]
noncomputable def yS:PS:=.f (.o (.c (.n (.a (.v 0) [105,115,95,114,117,108,101])) (.j (.d (.c (.a (.v 0) [105,115,95,102,111,108,100,101,114]) (.j (.n (.v 2)))))))) (.r (.b false)) .nil (.g 3 (.l .pure 7 (.c (.a (.v 0) [102,111,108,100,101,114]) (.j (.v 1)))) (.f (.p .is (.v 3) .w) (.r (.b false)) .nil (.f (.n (.a (.v 0) [105,115,95,97,110,99,104,111,114,101,100])) (.g 3 (.z (.v 3) (.q .add false (.m .rfind (.v 3) (.j (.y [47]))) (.i 1)) .w) .nil) .nil (.r (.l .pure 6 (.c (.a (.v 0) [116,111,107,101,110,115]) (.c (.v 3) (.c (.b true) (.j (.b false))))))))))
noncomputable def Yy:Qs:=["row","found","at","number"]
noncomputable def f8:PS:=.dr [1,2] (.tup (.c (.bi .dW .nil) (.j (.i 1)))) (.mR (.d (.c (.p .lt (.v 2) (.bi .len (.j (.v 0)))) (.j (.p .ne (.x (.v 0) (.v 2)) (.i 34))))) (.f (.p .ne (.x (.v 0) (.v 2)) (.h 1)) (.e (.m .nt (.v 1) (.j (.x (.v 0) (.v 2)))) (.g 2 (.q .add false (.v 2) (.i 1)) .nil)) (.f (.d (.c (.p .ne (.z (.v 0) (.q .add false (.v 2) (.i 1)) (.q .add false (.v 2) (.i 2))) (.y [])) (.j (.p .aG (.x (.v 0) (.q .add false (.v 2) (.i 1))) .any)))) (.e (.m .nt (.v 1) (.j (.x .any (.x (.v 0) (.q .add false (.v 2) (.i 1)))))) (.g 2 (.q .add false (.v 2) (.i 2)) .nil)) (.g 3 .any (.f (.p .is (.v 3) .w) (.r (.tup (.c .w (.j (.i 0))))) .nil (.e (.m .nt (.v 1) (.j (.v 3))) (.g 2 (.q .add false (.v 2) (.i 4)) .nil)))) .nil) .nil) (.f (.p .ge (.v 2) (.bi .len (.j (.v 0)))) (.r (.tup (.c .w (.j (.i 0))))) .nil (.r (.tup (.c (.bi .bytes (.j (.v 1))) (.j (.q .add false (.v 2) (.i 1))))))))
noncomputable def Yx:Qs:=["row"]
noncomputable def f9:PS:=.r (.comp false (.v 0) (.ex (.m .split (.m .replace (.m .replace (.v 0) (.c (.y [9]) (.j (.y [32])))) (.c (.y [13]) (.j (.y [32])))) (.j (.y [32])))) (.j (.p .ne (.v 0) (.y []))))
noncomputable def Y9:Qs:=["octets","sign"]
noncomputable def Y_:PS:=.f (.o (.c (.p .eq (.v 0) (.y [])) (.j (.m .starts (.v 0) (.j (.y [45])))))) (.r .w) .nil (.fP 1 (.ex (.v 0)) (.f (.d (.c (.p .dg (.v 1) (.tup (.c (.i 45) (.c (.i 46) (.j (.i 95)))))) (.j (.n (.l .pure 13 (.c .rL (.j (.v 1)))))))) (.r .w) .nil .nil) (.r (.l .pure 0 (.j (.v 0)))))
noncomputable def Y7:Qs:=["word","value","at","name"]
noncomputable def Y8:PS:=.g 1 (.b true) (.f (.m .starts (.v 0) (.j (.y [45]))) (.dr [0,1] (.tup (.c (.z (.v 0) (.i 1) .w) (.j (.b false)))) .nil) (.f (.m .starts (.v 0) (.j (.y [33]))) (.dr [0,1] (.tup (.c (.z (.v 0) (.i 1) .w) (.j .w))) .nil) (.f (.p .aG (.y [61]) (.v 0)) (.g 2 (.m .find (.v 0) (.j (.y [61]))) (.dr [0,1] (.tup (.c (.z (.v 0) .w (.v 2)) (.j (.l .pure 0 (.j (.z (.v 0) (.q .add false (.v 2) (.i 1)) .w)))))) .nil)) .nil .nil) .nil) (.g 3 (.l .pure 10 (.j (.v 0))) (.r (.ite (.p .is (.v 3) .w) .w (.tup (.c (.v 3) (.j (.v 1))))))))
noncomputable def Y6:Qs:=["words","row","found","word","told"]
noncomputable def tN:PS:=.g 2 (.list true .nil) (.fP 3 (.ex (.v 0)) (.g 4 (.l .pure 11 (.j (.v 3))) (.f (.p .is (.v 4) .w) (.raise (.v 1)) .nil (.e (.m .append (.v 2) (.j (.v 4))) .nil))) (.r (.v 2)))
noncomputable def vI:Qs:=["self","pattern","folder","values"]
noncomputable def i1:PS:=.e (.sup (.c (.v 1) (.j (.v 2)))) (.jA (.v 0) [118,97,108,117,101,115] (.v 3) .nil)
noncomputable def zc:Qs:=["self"]
noncomputable def i2:PS:=.jA (.v 0) [114,117,108,101,115] (.list true .nil) (.jA (.v 0) [109,97,99,114,111,115] (.dict true [[98,105,110,97,114,121]] (.j (.list false (.c (.tup (.c (.s [100,105,102,102]) (.j (.b false)))) (.c (.tup (.c (.s [109,101,114,103,101]) (.j (.b false)))) (.j (.tup (.c (.s [116,101,120,116]) (.j (.b false)))))))))) .nil)
noncomputable def TO:Qs:=["self","folder","octets","rules","macros","row","rest","name","values"]
noncomputable def TP:PS:=.dr [3,4] (.tup (.c (.list true .nil) (.j (.list true .nil)))) (.fP 5 (.ex (.m .split (.v 2) (.j (.y [10])))) (.g 6 (.m .strip (.v 5) (.j (.y [32,9,13]))) (.f (.o (.c (.p .eq (.v 6) (.y [])) (.j (.m .starts (.v 6) (.j (.y [35])))))) .cont .nil (.f (.m .starts (.v 6) (.j (.y [91,97,116,116,114,93]))) (.e (.m .append (.v 4) (.j (.own .aG 2 (.v 0) (.c (.v 6) (.j (.v 1)))))) .nil) (.e (.m .append (.v 3) (.j (.own .aG 3 (.v 0) (.c (.v 6) (.j (.v 1)))))) .nil) .nil))) (.e (.m .extend (.a (.v 0) [114,117,108,101,115]) (.j (.v 3))) (.mA [7,8] (.ex (.v 4)) (.gF (.a (.v 0) [109,97,99,114,111,115]) (.v 7) (.v 8) .nil) .nil)))
noncomputable def TM:Qs:=["self","row","folder","words","name"]
noncomputable def IP:PS:=.g 3 (.l .pure 9 (.j (.z (.v 1) (.i 6) .w))) (.g 4 (.ite (.p .ne (.v 3) (.list false .nil)) (.l .pure 10 (.j (.x (.v 3) (.i 0)))) .w) (.f (.o (.c (.p .is (.v 4) .w) (.j (.p .ne (.v 2) (.y []))))) (.raise (.v 1)) .nil (.r (.tup (.c (.v 4) (.j (.l .pure 12 (.c (.z (.v 3) (.i 1) .w) (.j (.v 1))))))))))
noncomputable def TK:Qs:=["self","row","folder","pattern","at","words"]
noncomputable def IN:PS:=.f (.m .starts (.v 1) (.j (.y [34]))) (.dr [3,4] (.l .pure 8 (.j (.v 1))) (.f (.p .is (.v 3) .w) (.raise (.v 1)) .nil (.g 5 (.l .pure 9 (.j (.z (.v 1) (.v 4) .w))) .nil))) (.g 5 (.l .pure 9 (.j (.v 1))) (.dr [3,5] (.tup (.c (.x (.v 5) (.i 0)) (.j (.z (.v 5) (.i 1) .w)))) .nil)) (.f (.m .starts (.v 3) (.j (.y [33]))) (.raise (.v 1)) .nil (.r (.new .pure 1 (.c (.v 3) (.c (.v 2) (.j (.l .pure 12 (.c (.v 5) (.j (.v 1))))))))))
noncomputable def TI:Qs:=["self","found","name","value","waiting"]
noncomputable def IM:PS:=.g 4 (.list true (.j (.tup (.c (.v 2) (.j (.v 3)))))) (.mR (.p .ne (.v 4) (.list false .nil)) (.dr [2,3] (.m .pop (.v 4) .nil) (.f (.p .dg (.v 2) (.v 1)) (.gF (.v 1) (.v 2) (.v 3) (.f (.d (.c (.bi .mq (.j (.v 3))) (.c (.v 3) (.j (.p .aG (.v 2) (.a (.v 0) [109,97,99,114,111,115])))))) (.e (.m .extend (.v 4) (.j (.x (.a (.v 0) [109,97,99,114,111,115]) (.v 2)))) .nil) .nil .nil)) .nil .nil)) .nil)
noncomputable def TH:Qs:=["self","path","rows","found","number","rule","depth","name","value"]
noncomputable def IL:PS:=.dr [2,3] (.tup (.c (.list true .nil) (.j (.dict true [] .nil)))) (.mA [4,5] (.enum (.a (.v 0) [114,117,108,101,115])) (.f (.own .aG 0 (.v 5) (.c (.v 1) (.j (.b false)))) (.e (.m .append (.v 2) (.j (.tup (.c (.a (.v 5) [100,101,112,116,104]) (.j (.v 4)))))) .nil) .nil .nil) (.e (.m .sort (.v 2) .nil) (.mA [6,4] (.ex (.rev false (.v 2))) (.mA [7,8] (.ex (.rev false (.a (.x (.a (.v 0) [114,117,108,101,115]) (.v 4)) [118,97,108,117,101,115]))) (.e (.own .aG 4 (.v 0) (.c (.v 3) (.c (.v 7) (.j (.v 8))))) .nil) .nil) (.r (.v 3)))))
noncomputable def Y2:Qs:=["octets","printed","others","size","at","sign"]
noncomputable def wC:PS:=.dr [1,2,3] (.tup (.c (.i 0) (.c (.i 0) (.j (.bi .len (.j (.v 0))))))) (.fP 4 (.kt (.v 3)) (.g 5 (.x (.v 0) (.v 4)) (.f (.o (.c (.p .eq (.v 5) (.i 0)) (.j (.d (.c (.p .eq (.v 5) (.i 13)) (.j (.p .ne (.z (.v 0) (.q .add false (.v 4) (.i 1)) (.q .add false (.v 4) (.i 2))) (.y [10])))))))) (.r (.b false)) .nil (.f (.o (.c (.p .eq (.v 5) (.i 127)) (.j (.d (.c (.p .lt (.v 5) (.i 32)) (.c (.p .dg (.v 5) (.tup (.c (.i 8) (.c (.i 9) (.c (.i 10) (.c (.i 12) (.c (.i 13) (.j (.i 27))))))))) (.j (.n (.d (.c (.p .eq (.v 5) (.i 26)) (.j (.p .eq (.q .add false (.v 4) (.i 1)) (.v 3))))))))))))) (.g 2 (.q .add false (.v 2) (.i 1)) .nil) (.f (.p .dg (.v 5) (.tup (.c (.i 10) (.c (.i 13) (.j (.i 26)))))) (.g 1 (.q .add false (.v 1) (.i 1)) .nil) .nil .nil) .nil))) (.r (.p .ge (.q .fdiv false (.v 1) (.i 128)) (.v 2))))
noncomputable def Y1:Qs:=["attributes","text","ending"]
noncomputable def K':PS:=.dr [1,2] (.tup (.c (.m .get (.v 0) (.j (.s [116,101,120,116]))) (.j (.m .get (.v 0) (.j (.s [101,111,108])))))) (.f (.p .dg (.v 2) (.tup (.c (.s [108,102]) (.j (.s [99,114,108,102]))))) (.g 2 .w .nil) .nil (.f (.bi .mq (.j (.v 1))) (.r (.tup (.c (.ite (.v 1) (.s [116,101,120,116]) (.s [110,111,110,101])) (.j (.v 2))))) .nil (.f (.p .eq (.v 1) (.s [97,117,116,111])) (.r (.tup (.c (.s [97,117,116,111]) (.j (.v 2))))) .nil (.r (.tup (.c (.ite (.p .iQ (.v 2) .w) (.s [116,101,120,116]) (.s [110,111,110,101])) (.j (.v 2))))))))
noncomputable def Y0:Qs:=["octets","attributes","how"]
noncomputable def D8:PS:=.g 2 (.x (.l .aG 15 (.j (.v 1))) (.i 0)) (.f (.o (.c (.p .eq (.v 2) (.s [110,111,110,101])) (.j (.d (.c (.p .eq (.v 2) (.s [97,117,116,111])) (.j (.n (.l .pure 14 (.j (.v 0)))))))))) (.r (.v 0)) .nil (.r (.m .replace (.v 0) (.c (.y [13,10]) (.j (.y [10]))))))
noncomputable def YZ:Qs:=["octets","attributes","how","ending"]
noncomputable def D6:PS:=.dr [2,3] (.l .aG 15 (.j (.v 1))) (.f (.o (.c (.p .eq (.v 2) (.s [110,111,110,101])) (.j (.p .ne (.v 3) (.s [99,114,108,102]))))) (.r (.v 0)) .nil (.f (.d (.c (.p .eq (.v 2) (.s [97,117,116,111])) (.j (.o (.c (.p .aG (.y [13]) (.v 0)) (.j (.n (.l .pure 14 (.j (.v 0)))))))))) (.r (.v 0)) .nil (.r (.m .replace (.m .replace (.v 0) (.c (.y [13,10]) (.j (.y [10])))) (.c (.y [10]) (.j (.y [13,10])))))))
noncomputable def YY:Qs:=["script","cells","mixed","cell"]
noncomputable def K8:PS:=.dr [1,2] (.tup (.c (.comp false (.bi .int (.j (.v 0))) (.ex (.z (.v 0) .w (.i 24))) .nil) (.j (.i 3535)))) (.fP 3 (.ex (.v 1)) (.g 2 (.q .mod false (.q .add false (.q .add false (.q .mul false (.v 2) (.i 48271)) (.q .mod false (.v 3) (.i 2147483629))) (.i 35)) (.i 2147483587)) .nil) (.r (.dict true [[99,101,108,108,115],[109,105,120,101,100],[116,117,114,110]] (.c (.rev true (.v 1)) (.c (.v 2) (.j (.i 0)))))))
noncomputable def YX:Qs:=["deck","below","figure","cell"]
noncomputable def rz:PS:=.gF (.v 0) (.s [116,117,114,110]) (.q .add false (.x (.v 0) (.s [116,117,114,110])) (.i 1)) (.g 2 (.q .add false (.x (.v 0) (.s [109,105,120,101,100])) (.q .mul false (.q .mul false (.i 60535) (.x (.v 0) (.s [116,117,114,110]))) (.x (.v 0) (.s [116,117,114,110])))) (.f (.p .ne (.x (.v 0) (.s [99,101,108,108,115])) (.list false .nil)) (.g 3 (.m .pop (.x (.v 0) (.s [99,101,108,108,115])) .nil) (.f (.p .ge (.v 3) (.i 1000000)) (.e (.m .append (.x (.v 0) (.s [99,101,108,108,115])) (.j (.q .fdiv false (.v 3) (.v 1)))) (.r (.q .mod false (.v 3) (.v 1)))) .nil (.g 2 (.q .add false (.v 2) (.q .mod false (.v 3) (.i 2147483563))) .nil))) .nil (.g 2 (.q .mod false (.q .mul false (.q .mod false (.v 2) (.i 2147483629)) (.i 40692)) (.i 2147483647)) (.g 2 (.q .mod false (.q .add false (.q .mul false (.v 2) (.v 2)) (.i 35)) (.i 2147483587)) (.r (.q .mod false (.q .fdiv false (.q .mod false (.q .mul false (.v 2) (.i 39373)) (.i 2147483579)) (.i 64)) (.v 1)))))))
noncomputable def YV:Qs:=["deck","some"]
noncomputable def D5:PS:=.r (.x (.v 1) (.l .aG 19 (.c (.v 0) (.j (.bi .len (.j (.v 1)))))))
noncomputable def YU:Qs:=["word"]
noncomputable def D4:PS:=.r (.bi .bytes (.j (.comp false (.bi .ord (.j (.v 0))) (.ex (.v 0)) .nil)))
noncomputable def YT:Qs:=["deck","name","way","worth"]
noncomputable def tM:PS:=.g 1 (.l .aG 20 (.c (.v 0) (.j (.list false (.c (.s [116,101,120,116]) (.c (.s [101,111,108]) (.c (.s [120]) (.c (.s [120]) (.c (.s [109]) (.c (.s [98,105,110,97,114,121]) (.j (.s [100,105,102,102])))))))))))) (.g 2 (.l .aG 19 (.c (.v 0) (.j (.i 6)))) (.f (.p .lt (.v 2) (.i 3)) (.r (.tup (.c (.l .pure 21 (.j (.v 1))) (.c (.v 1) (.j (.b true)))))) .nil (.f (.p .lt (.v 2) (.i 5)) (.r (.tup (.c (.q .add false (.ite (.p .eq (.v 2) (.i 3)) (.y [45]) (.y [33])) (.l .pure 21 (.j (.v 1)))) (.c (.v 1) (.j (.ite (.p .eq (.v 2) (.i 3)) (.b false) .w)))))) .nil (.g 3 (.l .aG 20 (.c (.v 0) (.j (.list false (.c (.s [97,117,116,111]) (.c (.s [108,102]) (.c (.s [99,114,108,102]) (.c (.s []) (.j (.s [118])))))))))) (.r (.tup (.c (.q .add false (.q .add false (.l .pure 21 (.j (.v 1))) (.y [61])) (.l .pure 21 (.j (.v 3)))) (.c (.v 1) (.j (.v 3))))))))))
noncomputable def YS:Qs:=["deck","folder","words","tail","told","name","pattern"]
noncomputable def D3:PS:=.g 2 (.comp false (.l .aG 22 (.j (.v 1))) (.kt (.q .add false (.i 1) (.l .aG 19 (.c (.v 0) (.j (.i 2)))))) .nil) (.g 3 (.m .join (.y []) (.j (.comp false (.q .add false (.l .aG 20 (.c (.v 1) (.j (.list false (.c (.y [32]) (.c (.y [9]) (.j (.y [32,32])))))))) (.x (.v 0) (.i 0))) (.ex (.v 2)) .nil))) (.g 4 (.comp false (.tup (.c (.x (.v 0) (.i 1)) (.j (.x (.v 0) (.i 2))))) (.ex (.v 2)) .nil) (.f (.d (.c (.p .eq (.v 1) (.y [])) (.j (.p .eq (.l .aG 19 (.c (.v 0) (.j (.i 5)))) (.i 0))))) (.g 5 (.l .aG 20 (.c (.v 0) (.j (.list false (.c (.s [109]) (.c (.s [109]) (.c (.s [98,105,110,97,114,121]) (.j (.s [120]))))))))) (.r (.tup (.c (.q .add false (.q .add false (.y [91,97,116,116,114,93]) (.l .pure 21 (.j (.v 5)))) (.v 3)) (.j (.tup (.c (.b true) (.c (.v 5) (.j (.v 4)))))))))) .nil (.f (.p .eq (.l .aG 19 (.c (.v 0) (.j (.i 9)))) (.i 0)) (.r (.tup (.c (.l .aG 20 (.c (.v 0) (.j (.list false (.c (.y []) (.c (.y [35,32,97,32,120]) (.c (.y [32,32]) (.c (.y [97]) (.c (.y [100,47,32,120]) (.j (.y [42,47,32,45,120]))))))))))) (.j .w)))) .nil (.g 6 (.l .aG 20 (.c (.v 0) (.j (.list false (.c (.y [42]) (.c (.y [97]) (.c (.y [42,46,98]) (.c (.y [63]) (.c (.y [47,97]) (.c (.y [100,47,97]) (.c (.y [101,47,42]) (.c (.y [100,47,42,47,42,46,98]) (.c (.y [47,42,46,98]) (.c (.y [47,100,47,101,47,97,46,98]) (.j (.y [42,97,42])))))))))))))))) (.r (.tup (.c (.q .add false (.q .add false (.v 6) (.v 3)) (.l .aG 20 (.c (.v 0) (.j (.list false (.c (.y []) (.c (.y []) (.c (.y [32]) (.j (.y [13])))))))))) (.j (.tup (.c (.b false) (.c (.v 6) (.j (.v 4))))))))))))))
noncomputable def YQ:Qs:=["pattern","text","reach","sign","later","at"]
noncomputable def YR:PS:=.g 2 (.q .add false (.list false (.j (.b true))) (.q .mul false (.list false (.j (.b false))) (.bi .len (.j (.v 1))))) (.fP 3 (.ex (.v 0)) (.g 4 (.list true (.j (.d (.c (.p .eq (.v 3) (.i 42)) (.j (.x (.v 2) (.i 0))))))) (.fP 5 (.kt (.bi .len (.j (.v 1)))) (.f (.p .eq (.v 3) (.i 42)) (.e (.m .append (.v 4) (.j (.o (.c (.x (.v 2) (.q .add false (.v 5) (.i 1))) (.j (.d (.c (.x (.v 4) (.v 5)) (.j (.p .ne (.x (.v 1) (.v 5)) (.i 47)))))))))) .nil) (.e (.m .append (.v 4) (.j (.d (.c (.x (.v 2) (.v 5)) (.j (.o (.c (.p .eq (.x (.v 1) (.v 5)) (.v 3)) (.j (.d (.c (.p .eq (.v 3) (.i 63)) (.j (.p .ne (.x (.v 1) (.v 5)) (.i 47))))))))))))) .nil) .nil) (.g 2 (.v 4) .nil))) (.r (.x (.v 2) (.bi .len (.j (.v 1))))))
noncomputable def YO:Qs:=["rule","path","folder","pattern","below"]
noncomputable def YP:PS:=.dr [2,3] (.tup (.c (.x (.v 0) (.i 0)) (.j (.x (.v 0) (.i 2))))) (.f (.d (.c (.p .ne (.v 2) (.y [])) (.j (.p .ne (.z (.v 1) .w (.q .add false (.bi .len (.j (.v 2))) (.i 1))) (.q .add false (.v 2) (.y [47])))))) (.r (.b false)) .nil (.g 4 (.ite (.p .ne (.v 2) (.y [])) (.z (.v 1) (.q .add false (.bi .len (.j (.v 2))) (.i 1)) .w) (.v 1)) (.f (.p .dg (.y [47]) (.v 3)) (.r (.l .pure 24 (.c (.v 3) (.j (.x (.m .split (.v 4) (.j (.y [47]))) (.neg (.i 1))))))) .nil (.r (.l .pure 24 (.c (.ite (.p .eq (.z (.v 3) .w (.i 1)) (.y [47])) (.z (.v 3) (.i 1) .w) (.v 3)) (.j (.v 4))))))))
noncomputable def YN:Qs:=["rules","path","macros","rule","left","found","folder","name","worth"]
noncomputable def K7:PS:=.g 2 (.dict true [[98,105,110,97,114,121]] (.j (.list false (.c (.tup (.c (.s [100,105,102,102]) (.j (.b false)))) (.c (.tup (.c (.s [109,101,114,103,101]) (.j (.b false)))) (.j (.tup (.c (.s [116,101,120,116]) (.j (.b false)))))))))) (.fP 3 (.ex (.v 0)) (.f (.x (.v 3) (.i 1)) (.gF (.v 2) (.x (.v 3) (.i 2)) (.x (.v 3) (.i 3)) .nil) .nil .nil) (.dr [4,5] (.tup (.c (.list true .nil) (.j (.dict true [] .nil)))) (.fP 6 (.ex (.tup (.c (.y []) (.c (.y [100]) (.j (.y [100,47,101])))))) (.fP 3 (.ex (.v 0)) (.f (.d (.c (.p .eq (.x (.v 3) (.i 0)) (.v 6)) (.c (.n (.x (.v 3) (.i 1))) (.j (.l .pure 25 (.c (.v 3) (.j (.v 1)))))))) (.e (.m .extend (.v 4) (.j (.x (.v 3) (.i 3)))) .nil) .nil .nil) .nil) (.mR (.p .ne (.v 4) (.list false .nil)) (.dr [7,8] (.m .pop (.v 4) .nil) (.f (.p .dg (.v 7) (.v 5)) (.gF (.v 5) (.v 7) (.v 8) (.f (.d (.c (.p .is (.v 8) (.b true)) (.j (.p .aG (.v 7) (.v 2))))) (.e (.m .extend (.v 4) (.j (.x (.v 2) (.v 7)))) .nil) .nil .nil)) .nil .nil)) (.r (.v 5))))))
noncomputable def YM:Qs:=["deck","code","rules","folder","rows","texts","is_bad","told","odd"]
noncomputable def D2:PS:=.g 3 (.l .aG 20 (.c (.v 0) (.j (.list false (.c (.y []) (.c (.y []) (.c (.y [100]) (.j (.y [100,47,101]))))))))) (.g 4 (.comp false (.l .aG 23 (.c (.v 1) (.j (.v 4)))) (.kt (.q .add false (.i 1) (.l .aG 19 (.c (.v 0) (.j (.i 2)))))) .nil) (.dr [5,6,7] (.tup (.c (.comp true (.x (.v 0) (.i 0)) (.ex (.v 4)) .nil) (.c (.p .eq (.l .aG 19 (.c (.v 0) (.j (.i 4)))) (.i 0)) (.j (.b false))))) (.f (.v 6) (.g 8 (.list false (.c (.y [33,97,32,120]) (.c (.y [97,32,45]) (.c (.y [97,32,120,61,49,32,45,61,50]) (.c (.y [97,32,98,47,99]) (.c (.y [91,97,116,116,114,93]) (.c (.y [91,97,116,116,114,93,45,109,32,120]) (.c (.y [97,32,33]) (.c (.y [97,32,45,45,120]) (.c (.y [34,97,32,120]) (.j (.y [97,32,36])))))))))))) (.e (.m .append (.v 5) (.j (.ite (.p .eq (.v 3) (.y [])) (.l .aG 20 (.c (.v 0) (.j (.v 8)))) (.l .aG 20 (.c (.v 0) (.j (.q .add false (.v 8) (.list false (.j (.y [91,97,116,116,114,93,109,32,120])))))))))) .nil)) .nil (.nR (.own .aG 1 (.v 1) (.c (.v 3) (.j (.q .add false (.m .join (.y [10]) (.j (.v 5))) (.y [10]))))) 7 true (.f (.p .ne (.v 7) (.v 6)) (.r (.b false)) .nil (.f (.n (.v 6)) (.e (.m .extend (.v 2) (.j (.comp false (.q .add false (.tup (.j (.v 4))) (.x (.v 0) (.i 1))) (.ex (.v 4)) (.j (.p .iQ (.x (.v 0) (.i 1)) .w))))) .nil) .nil (.r (.b true))))))))
def YL:Qs:=["octets","kept","odd","plain"]
noncomputable def D0:PS:=.f (.o (.c (.p .aG (.y [0]) (.v 0)) (.j (.p .gt (.m .count (.m .replace (.v 0) (.c (.y [13,10]) (.j (.y [])))) (.j (.y [13]))) (.i 0))))) (.r (.b false)) .nil (.g 1 (.ite (.p .eq (.z (.v 0) (.neg (.i 1)) .w) (.y [26])) (.z (.v 0) .w (.neg (.i 1))) (.v 0)) (.g 2 (.comp false (.v 0) (.ex (.v 1)) (.j (.o (.c (.p .eq (.v 0) (.i 127)) (.j (.d (.c (.p .lt (.v 0) (.i 32)) (.j (.p .dg (.v 0) (.tup (.c (.i 8) (.c (.i 9) (.c (.i 10) (.c (.i 12) (.c (.i 13) (.j (.i 27))))))))))))))))) (.g 3 (.comp false (.v 0) (.ex (.v 1)) (.j (.d (.c (.p .dg (.v 0) (.v 3)) (.j (.p .dg (.v 0) (.tup (.c (.i 10) (.j (.i 13)))))))))) (.r (.p .ge (.q .fdiv false (.bi .len (.j (.v 3))) (.i 128)) (.bi .len (.j (.v 2))))))))
noncomputable def YK:Qs:=["told","text","eol"]
noncomputable def K5:PS:=.dr [1,2] (.tup (.c (.m .get (.v 0) (.j (.s [116,101,120,116]))) (.j (.m .get (.v 0) (.j (.s [101,111,108])))))) (.f (.o (.c (.p .is (.v 1) (.b true)) (.j (.p .eq (.v 1) (.s [97,117,116,111]))))) (.r (.ite (.p .is (.v 1) (.b true)) (.s [116,101,120,116]) (.s [97,117,116,111]))) .nil (.r (.ite (.o (.c (.p .is (.v 1) (.b false)) (.j (.p .dg (.v 2) (.tup (.c (.s [108,102]) (.j (.s [99,114,108,102])))))))) (.s [110,111,110,101]) (.s [116,101,120,116]))))
noncomputable def YI:Qs:=["octets","told"]
noncomputable def DZ:PS:=.f (.o (.c (.p .eq (.l .aG 29 (.j (.v 1))) (.s [110,111,110,101])) (.j (.d (.c (.p .eq (.l .aG 29 (.j (.v 1))) (.s [97,117,116,111])) (.j (.n (.l .pure 28 (.j (.v 0)))))))))) (.r (.v 0)) .nil (.r (.m .replace (.v 0) (.c (.y [13,10]) (.j (.y [10])))))
noncomputable def YH:Qs:=["octets","told"]
noncomputable def DY:PS:=.f (.o (.c (.p .eq (.l .aG 29 (.j (.v 1))) (.s [110,111,110,101])) (.j (.p .ne (.m .get (.v 1) (.j (.s [101,111,108]))) (.s [99,114,108,102]))))) (.r (.v 0)) .nil (.f (.d (.c (.p .eq (.l .aG 29 (.j (.v 1))) (.s [97,117,116,111])) (.j (.o (.c (.p .aG (.y [13]) (.v 0)) (.j (.n (.l .pure 28 (.j (.v 0)))))))))) (.r (.v 0)) .nil (.r (.m .replace (.m .replace (.v 0) (.c (.y [13,10]) (.j (.y [10])))) (.c (.y [10]) (.j (.y [13,10]))))))
noncomputable def YF:Qs:=["deck","told","octets","at","odd","some","bare"]
noncomputable def DX:PS:=.g 2 (.m .join (.y []) (.j (.comp false (.l .aG 20 (.c (.v 1) (.j (.list false (.c (.y [97]) (.c (.y [98,32]) (.c (.y [10]) (.c (.y [13,10]) (.j (.y [10])))))))))) (.kt (.l .aG 19 (.c (.v 0) (.j (.i 5))))) .nil))) (.dr [3,4] (.tup (.c (.l .aG 19 (.c (.v 0) (.j (.q .add false (.bi .len (.j (.v 2))) (.i 1))))) (.j (.list false (.c (.y [13]) (.c (.y [0]) (.c (.y [1]) (.c (.y [26]) (.c (.y [127]) (.c (.y [13,13,10]) (.j (.y [27,9,233])))))))))))) (.fP 5 (.ex (.tup (.c (.v 2) (.j (.q .add false (.q .add false (.z (.v 2) .w (.v 3)) (.l .aG 20 (.c (.v 0) (.j (.v 4))))) (.z (.v 2) (.v 3) .w)))))) (.f (.o (.c (.p .ne (.l .aG 16 (.c (.v 5) (.j (.v 1)))) (.l .aG 30 (.c (.v 5) (.j (.v 1))))) (.j (.p .ne (.l .aG 17 (.c (.v 5) (.j (.v 1)))) (.l .aG 31 (.c (.v 5) (.j (.v 1)))))))) (.r (.b false)) .nil .nil) (.g 6 (.m .replace (.v 2) (.c (.y [13,10]) (.j (.y [10])))) (.r (.p .eq (.l .aG 16 (.c (.l .aG 17 (.c (.v 6) (.j (.v 1)))) (.j (.v 1)))) (.v 6))))))
noncomputable def YE:Qs:=["script","deck","code","rules","turn","told","path","some"]
noncomputable def K2:PS:=.dr [1,2,3] (.tup (.c (.l .aG 18 (.j (.v 0))) (.c (.new .aG 2 .nil) (.j (.list true .nil))))) (.fP 4 (.kt (.i 3)) (.f (.n (.l .aG 27 (.c (.v 1) (.c (.v 2) (.j (.v 3)))))) (.r (.b false)) .nil .nil) (.g 5 (.dict true [] .nil) (.fP 6 (.ex (.tup (.c (.y [97]) (.c (.q .add false (.y [100,47]) (.l .aG 20 (.c (.v 1) (.j (.list false (.c (.y [97]) (.j (.y [98])))))))) (.c (.y [100,47,101,47,97,46,98]) (.j (.l .aG 20 (.c (.v 1) (.j (.list false (.c (.y [120,46,98]) (.c (.y [100,47,101,47,46,98]) (.j (.y [101,47,100,47,97])))))))))))))) (.g 5 (.own .jI 5 (.v 2) (.j (.v 6))) (.f (.o (.c (.p .ne (.v 5) (.l .jI 26 (.c (.v 3) (.j (.v 6))))) (.j (.p .ne (.comp false (.v 0) (.vals (.v 5)) (.j (.d (.c (.p .eq (.v 0) (.i 1)) (.j (.p .iQ (.v 0) (.b true))))))) (.list false .nil))))) (.r (.b false)) .nil .nil)) (.f (.n (.l .aG 32 (.c (.v 1) (.j (.v 5))))) (.r (.b false)) .nil (.g 2 (.new .aG 2 .nil) (.e (.own .aG 1 (.v 2) (.c (.y []) (.j (.y [42,32,120,32,98,105,110,97,114,121,10,42,32,45,120,32,120,61,49,32,45,98,105,110,97,114,121,10])))) (.f (.p .ne (.own .jI 5 (.v 2) (.j (.y [97]))) (.dict false [[120],[98,105,110,97,114,121]] (.c (.s [49]) (.j (.b false))))) (.r (.b false)) .nil (.f (.p .eq (.l .aG 19 (.c (.v 1) (.j (.i 4)))) (.i 0)) (.g 7 (.q .add false (.q .mul false (.y [97]) (.l .aG 20 (.c (.v 1) (.j (.list false (.c (.i 127) (.j (.i 128)))))))) (.y [1,13,10])) (.f (.p .ne (.l .aG 16 (.c (.v 7) (.j (.dict false [[116,101,120,116]] (.j (.s [97,117,116,111])))))) (.l .aG 30 (.c (.v 7) (.j (.dict false [[116,101,120,116]] (.j (.s [97,117,116,111]))))))) (.r (.b false)) .nil .nil)) .nil (.g 5 (.dict true [[116,101,120,116]] (.j (.l .aG 20 (.c (.v 1) (.j (.list false (.c (.b true) (.c (.b false) (.c .w (.c (.s [97,117,116,111]) (.c (.s [97,117,116,111]) (.j (.s [118]))))))))))))) (.gF (.v 5) (.s [101,111,108]) (.l .aG 20 (.c (.v 1) (.j (.list false (.c (.s [108,102]) (.c (.s [99,114,108,102]) (.c (.s [99,114,108,102]) (.c .w (.j (.b true)))))))))) (.r (.l .aG 32 (.c (.v 1) (.j (.v 5)))))))))))))))
def ou:List (Qs×PS):=[(Za,f0),(YW,f1),(YJ,f2),(YD,f3),(YC,f4),(YB,f5),(YA,f6),(Yz,f7),(Yy,f8),(Yx,f9),(Y9,Y_),(Y7,Y8),(Y6,tN),(Y3,Y4),(Y2,wC),(Y1,K'),(Y0,D8),(YZ,D6),(YY,K8),(YX,rz),(YV,D5),(YU,D4),(YT,tM),(YS,D3),(YQ,YR),(YO,YP),(YN,K7),(YM,D2),(YL,D0),(YK,K5),(YI,DZ),(YH,DY),(YF,DX),(YE,K2)]
def mh:List (Qs×PS):=[(yR,yS),(TO,TP),(TM,IP),(TK,IN),(TI,IM),(TH,IL)]
end
section
open PySem
noncomputable def defOf(nm:Str):Qt→Option (Arguments×Qt×jO)
 | []=>none
 | s::r=>((qv s).f.bind fun x=>if x.1==nm then some x.2 else none).or (defOf nm r)
def iT(nm:Str)(l:Qt):Qt:=((l.findSome? fun s=>(qv s).k.bind fun x=>if x.1==nm then some x.2 else none)).getD []
def G6(scope:jO)(nm:Qs):Bool:=decide nm.Nodup&&nm.all fun id=>(decide (scope.names.lookup id=some .local)||decide (scope.names.lookup id=some .cell))&&n9 id&&!(id==("__classdict__":Str))
noncomputable def H6(a:Arguments)(nm:Qs):Bool:=a.posonlyargs.isEmpty&&a.vararg.isNone&&a.kwonlyargs.isEmpty&&a.kwarg.isNone&&a.defaults.isEmpty&&decide (a.args.map (·.arg)=nm.take a.args.length)
noncomputable def Hs(sc:jO):Bool:=decide (sc.kind=.function)&&!sc.isGenerator&&!sc.isCoroutine
noncomputable def gH:Qt:=adH.main.body
def DR(a:Arguments)(sc:jO)(nm:Qs):Bool:=H6 a nm&&G6 sc nm&&Hs sc
def l6(ss:Qt)(id:Str)(nm:Qs)(f:Sc→Qt→Bool×Qt):Option (Bool×Qt):=(defOf id ss).map fun d=>(DR d.1 d.2.2 nm&&(f ⟨d.2.2.names,nm.map some⟩ d.2.1).1,(f ⟨d.2.2.names,nm.map some⟩ d.2.1).2)
def l5(ss:Qt)(id:Str):Option (Bool×Qt):=(defOf id ss).map fun d=>(true,d.2.1)
noncomputable def BK:PS→bg
 | .expr (.sup l) _=>l
 | _=>.nil
noncomputable def BJ:PS→PS
 | .expr _ r=>r
 | _=>.nil
def Jv(b:Qt):Qt:=[.Assign [.Attribute (.Name "self" (vA (sT (aH b))).pos) "told" (sT (aH b)).pos] (.Name "told" (sV (aH b)).pos) (aH b).pos]
def Pv:(lK.zip ou).map (fun x=>l6 gH x.1 x.2.1 fun sc=>dK sc x.2.2)=(lK.zip ou).map fun x=>l5 gH x.1:=by kernel_rfl
def Pu:l6 (iT "MatchingRule" gH) "__init__" zd (fun sc=>dK sc i0)=l5 (iT "MatchingRule" gH) "__init__":=by kernel_rfl
def Pt:l6 (iT "AttributeRule" gH) "__init__" vI (fun sc=>Lj sc (BK i1) (BJ i1))=l5 (iT "AttributeRule" gH) "__init__":=by kernel_rfl
def Ps:l6 (iT "Attributes" gH) "__init__" zc (fun sc=>dK sc i2)=l5 (iT "Attributes" gH) "__init__":=by kernel_rfl
def Pq:l6 (iT "MatchingRule" gH) "fits" yR (fun sc=>dK sc yS)=l5 (iT "MatchingRule" gH) "fits":=by kernel_rfl
def Pr:((qR.zip mh).drop 1).map (fun x=>l6 (iT "Attributes" gH) x.1 x.2.1 fun sc=>dK sc x.2.2)=((qR.zip mh).drop 1).map fun x=>l5 (iT "Attributes" gH) x.1:=by kernel_rfl
def Px:((defOf "__init__" (iT "GitError" gH)).map fun d=>Jv d.2.1)=(defOf "__init__" (iT "GitError" gH)).map fun d=>d.2.1:=by kernel_rfl
end
section
open PySem PySem.W
set_option backward.match.sparseCases true in
noncomputable def aaA:Option Obj→Option NY
 | some ⟨_,_,.cls cd,_⟩=>some cd
 | _=>none
def LN(K:adt)(C:Addr):clsIn K C=aaA (K.lookup C):=rfl
noncomputable def lg{α:Type}(M:Model)(A:Around)(c:Code)(t:Sem α)(Q:α→Shared→Prop)(E:Value→Shared→Prop)(s:Shared):Prop:=
 ∀ Γ p,Γ.code=c→Γ.In A→oL Γ→jN M Γ t (fun a _ s'=>Q a s') (fun e _ s'=>E e s') p s
section
variable {c:Code}
def uL{t:Sem α}{Q:α→Shared→Prop}(h:aT M A t Q E s):lg M A c t Q E s:=fun Γ p _ cb hd=>h Γ p cb hd
def OF{t:Sem α}{Q:α→Shared→Prop}(h:wpAt M A c t Q E s):lg M A c t Q E s:=fun Γ p hc cb _=>h Γ p hc cb
def OE{t:Sem α}{Q Q':α→Shared→Prop}{E':Value→Shared→Prop}(h:lg M A c t Q E s)(hQ:∀ a s,Q a s→Q' a s)(hE:∀ e s,E e s→E' e s):lg M A c t Q' E' s:=
 fun Γ p hc cb hd=>nF M Γ t (fun a _ s=>hQ a s) (fun e _ s=>hE e s) p s (h Γ p hc cb hd)
def xP{m:Sem α}{f:α→Sem β}{Q:β→Shared→Prop}(h:lg M A c m (fun a s'=>lg M A c (f a) Q E s') E s):lg M A c (m>>=f) Q E s:=fun Γ p hc cb hd=>by
 rw [lV];exact nF M Γ m (fun a p' s' h'=>h' Γ p' hc cb hd) (fun _ _ _ h'=>h') p s (h Γ p hc cb hd)
def OD{m:Sem α}{k:Value→Sem Unit}{Q:α→Shared→Prop}(h:lg M A c m Q (fun e s'=>aT M A (k e) (fun _ gW=>E e gW) E s') s):lg M A c (m.onRaise k) Q E s:=fun Γ p hc cb hd=>by
 rw [Nd];exact nF M Γ m (fun _ _ _ h'=>h') (fun e p' s' h'=>h' Γ p' cb hd) p s (h Γ p hc cb hd)
def aas{R:Result→Shared→Prop}(h:lg M (A.under c) c (M.den c) (fun fin s'=>match fin with|.done f=>R (.ok f) s'|.again c'=>c'.quiet=true∧lH c'=false∧dl M A c' R s')
   (fun e s'=>R (.error e) s') s):dl M A c R s:=fun Γ p hc cb hd=>by
 rw [wpCode_iff_wp,hc];refine nF M Γ _ (fun fin p' s' h'=>?_) (fun _ _ _ h'=>h') p s (h Γ p hc (hc ▸ cb.in) hd);induction fin with
 | done f=>exact h'
 | again c'=>exact ⟨h'.1,h'.2.2 (Γ.goto c') p' rfl (cb.goto c') (hd.goto h'.2.1)⟩
end
section
variable {F:br}
set_option backward.match.sparseCases true in
def aat{R:Result→Shared→Prop}(h:lg (model prog w) (A.deeper env) (.func body env) (execs body env) (fun f s'=>R (.ok (.ret (match f with|.ret v=>v|_=>.none))) s')
   (fun e s'=>aT (model prog w) (A.deeper env) (leaving env e) (fun _ gW=>R (.error e) gW) (fun e' gW=>R (.error e') gW) s') s):
  dl (model prog w) A (.func body env) R s:=by
 refine aas ?_;refine xP (uL (Gb (xP (OD (OE h (fun f s' h'=>?_) fun _ _ h'=>h')))));induction f<;>exact uL (ba h')
noncomputable def EW(B:Base prog w)(O:dL)(fu n:Nat)(F:br)(L:Addr)(c:Code)(ps:PS)(ss:Qt):Prop:=
 ∀ A s σ H sl,b0 n A→(∃ outer,A.frames=some (F.env::outer))→af B A H σ s→bh B F sl σ s.heap→aA O fu ps sl H≠.no→
  ∀ Q E,pX B A F s σ (aA O fu ps sl H) Q→wR B A F L s σ (aA O fu ps sl H) E→lg (model prog w) A c (execs ss F.env) Q E s
def Hk{ps:Qs}{f:PS}{Rel:Sg→Heap→PV→Value→Prop}(fo:rV B a fd body ps)(so:rQ fd.scope nm)(fv:ps=nm.take ps.length)(he:∀ L,EW B O fu n (dj fd a L nm) L (.func body (kP fd a L)) f body)(zE:∀ σ h v u,ah prog w B.Cl σ h v u→Rel σ h v u)(aw:b0 (n + 1) A)(st:af B A H σ s)(r:aK prog w B.Cl σ s.heap vs us):jm B A s σ (gn O fu f ps.length nm.length vs H) (.call (.ref a) ⟨us,[]⟩) Rel:=by
 intro V Rs hq hE;delta gn at V hq hE;have hl:vs.length=ps.length:=by
  by_cases h:vs.length=ps.length
  ·exact h
  ·exact absurd (if_neg h) V
 rw [if_pos hl] at V hq hE;refine ZB fo so fv aw st r hl fun h' t h₁ bt Vs fresh hk aM ew fZ=>?_;subst Vs;have g8:aA O fu f (lj vs nm.length) H≠.no:=fun e=>V (congrArg (R.bind · _) e);refine ay aw.fr fun l el=>?_;have hA:∃ outer,(A.deeper (kP fd a s.heap.objs.size)).frames=some ((dj fd a s.heap.objs.size nm).env::outer):=⟨l,by show A.frames.map _=_;rw [el];rfl⟩;have Kw:∀ env∈A.frames.getD [],env∈(A.deeper (kP fd a s.heap.objs.size)).frames.getD []:=fun env he=>by
  have:(A.deeper (kP fd a s.heap.objs.size)).frames=some (kP fd a s.heap.objs.size::l):=by show A.frames.map _=_;rw [el];rfl
  rw [this];rw [el] at he;exact bM _ he
 refine aat (he s.heap.objs.size _ {s with heap:=h',toks:=t} (eU (oy fd s.heap.objs.size) σ) H _ (abu aw) hA aM ew g8 _ _ (fun fl bz x aE bH k_ oB cg j0 fr i4=>?_) fun e bz bH k_ oB cg ex i4=>?_)
 ·rw [oB] at V hq;refine cG (st.qU (X':=cq) (k:=bz.toks) (h':=bz.heap) Kw fresh hk (fZ.trans i4) (fun b hb=>.inl (KM hb)) cg fun _ _ _ e=>e) fun cU hV wS=>?_;induction x with
  | next=>
   induction fl<;>first|exact fr.elim|skip
   exact hq _ _ _ _ _ rfl cU (zE _ _ _ _ .none) hV
  | cont=>exact absurd rfl V
  | ret v=>
   induction fl<;>first|exact fr.elim|skip
   exact hq _ _ _ _ _ rfl cU (zE _ _ _ _ (fr.move wS)) hV
 ·rw [oB] at hE;refine ay hA fun outer pJ=>?_;clear hA;have h0:∀ b o,B.h₀.get? b=some o→∃ o',h₁.get? b=some o':=fun b o e=>⟨o,hk b o (st.keep b o e)⟩;refine aZ (Uo (g:=h₁) h0 cg pJ rfl (fZ.trans i4).al (ex.le fZ.al fun _ h=>h) fun pv tk pM=>?_);refine cG (st.qU (X':=cq) (k:=bz.toks) (h':=pv) Kw fresh hk ((fZ.trans i4).tick tk) (fun b hb=>.inl (KM hb)) (cg.tick tk h0) fun _ _ _ e=>e) fun cU hV wS=>?_;exact hE _ _ bH _ rfl cU (pM.le (fun b o e=>⟨o,hk b o e⟩) fun _ h=>h) hV
def Q0{ps:Qs}{f:PS}{Rel:Sg→Heap→PV→Value→Prop}(fo:rV B a fd body ps)(so:rQ fd.scope nm)(fv:ps=nm.take ps.length)(he:∀ L,cx B O fu n (dj fd a L nm) L f body)(zE:∀ σ h v u,ah prog w B.Cl σ h v u→Rel σ h v u)(aw:b0 (n + 1) A)(st:af B A H σ s)(r:aK prog w B.Cl σ s.heap vs us):jm B A s σ (gn O fu f ps.length nm.length vs H) (.call (.ref a) ⟨us,[]⟩) Rel:=
 Hk fo so fv (fun L A s σ H sl aw hA st lo V Q E hq hE=>uL (he L A s σ H sl aw hA st lo V Q E hq hE)) zE aw st r
structure wU(B:Base prog w)(fd:k9):Prop where
 sup:ks_superIn B.K (B.Cl 1) (B.Cl 1) "__init__"=findIn B.K (.ref (B.Cl 0)) "__init__"
 cls:∃ cd,clsIn B.K (B.Cl 1)=some cd
 sub:mroIn B.K (B.Cl 1) (.ref (B.Cl 1))=some true
 SJ:nsIn B.K cStatics "thirdparty.any"=some none
 fn:∀ f,findIn B.K (.ref (B.Cl 0)) "__init__"=some (some (.ref f))→fnIn B.K f=true
 code:∃ Ao oc vs file tf,fd.code=.ref Ao∧B.h₀.get? Ao=some oc∧oc.data=.fields vs∧vs[2]?=some (.str file tf)∧((prog.main.file:Str)==file)=true
 top:(prog.main.scope.names.lookup ("super":Str)).isSome=false
 clo:∃ cc o,fd.closure=[(("__class__":Str),cc)]∧B.h₀.get? cc=some o∧o.data=.cell (some (.ref (B.Cl 1)))
 To:∀ x∈fd.scope.names,x.2≠.cell
 ks:fd.scope.names.lookup ("super":Str)=some .globalImplicit
 kc:fd.scope.names.lookup ("__class__":Str)=some .free
theorem LV:∀ {names:List (Str×NameKind)} {k:Nat} {acc:List (Str×Addr)},(∀ x∈names,x.2≠.cell)→cellsFrom k names acc=acc
 | [],_,_,_=>rfl
 | (n,kd)::r,k,acc,h=>by
  unfold cellsFrom;rw [if_neg (by simpa using h (n,kd) (bC ..))];exact LV fun x hx=>h x (bM _ hx)
def aaw{b f:Addr}{x:Value}{a:Args}{R:Result→Shared→Prop}(hb:s.heap.get? b=some {cls:=.type "method",dict:=none,data:=.fields #[.ref f,x],slots:=#[]})(hq:dl (model prog w) A (.call (.ref f) {a with pos:=x::a.pos}) R s):dl (model prog w) A (.call (.ref b) a) R s:=by refine lM (aZ ?_);refine wpAny_bind (wpAny_load hb ?_);exact wpAny_pure ⟨rfl,rfl,hq⟩
set_option backward.match.sparseCases true in
def PY{l:bg}(V:aA O fu (.expr (.sup l) r) sl H≠.no):∃ u fl,dD sl 0=some u∧hU u H=some (1,fl)∧
  aA O fu (.expr (.sup l) r) sl H=((bB O l sl H).bind fun vs H₁=>O.init 0 (u::vs) H₁).bind fun v H₁=>match v with|.none=>aA O fu r sl H₁|_=>.no:=by
 have kL:aA O fu (.expr (.sup l) r) sl H=(match dD sl 0 with
   | some u=>match hU u H with
    | some (1,_)=>(bB O l sl H).bind fun vs H₁=>O.init 0 (u::vs) H₁
    | _=>.no
   | .none=>.no:R PV).bind fun v H₁=>match v with|.none=>aA O fu r sl H₁|_=>.no:=rfl
 rw [kL] at V⊢;generalize e0:(dD sl 0)=zz;induction zz using az with
 | none=>rw [e0] at V;exact absurd rfl V
 | some u=>
  rw [e0] at V;dsimp only at V⊢;generalize ei:(hU u H)=zz;induction zz using az with
  | none=>rw [ei] at V;exact absurd rfl V
  | some cl=>
   obtain ⟨c,fl⟩:=cl;rw [ei] at V;induction c using dN with
   | zero=>exact absurd rfl V
   | succ c=>induction c using dN with
    | zero=>exact ⟨u,fl,rfl,ei,rfl⟩
    | succ c=>exact absurd rfl V
set_option backward.match.sparseCases true in
set_option tactic.hygienic true in
def abQ(fc:Facts B)(oc:kh B O m)(hm:m≤n){ps:Qs}(fo:rV B a fd body ps)(so:rQ fd.scope nm)(su:wU B fd){l:bg}{p0 p1:Pos}{ar:Arg}(wf:(fd.params.posonlyargs++fd.params.args).head?=some ar)(Wp:nm[0]?=some ar.arg)(Ka:fd.scope.names.lookup ar.arg=some .local)(cC:es.all kdsPlain=true)(hlen:es.length < 30)(hp:(apos.endLine==pos.line)=true)(cZ:kg B O fu n (dj fd a L nm) l es)(hr:cx B O fu n (dj fd a L nm) L r rest):
  EW B O fu n (dj fd a L nm) L (.func body (kP fd a L)) (.expr (.sup l) r) (.Expr (.Call (.Attribute (.Call (.Name "super" p0) [] [] p1) "__init__" apos) es [] pos) p::rest):=by
 intro A s σ H sl aw hA st lo V Q E hq hE;refine bx (PY V) fun u fl e0 ei kL=>?_;rw [kL] at V hq hE;refine J lo.lF fun mL Wn VL=>?_;have Wh:(dj fd a L nm).nm[0]?=some (some ar.arg):=by simp [dj,Wp]
 refine J (VL 0 ar.arg u Wh Ka (KH e0)) fun xv Wr rx=>?_;refine Bl (EM st ei rx) fun xa ox dx mp z4=>?_;subst z4;intro JO VC hx3 ze C5 VB mQ;refine ad mQ fun VA Vz=>?_;clear mQ;refine xN (oc.init 0) fun f2 Ke VP di W9=>?_;have X:B.K.In s.heap:=st.mj;refine ay su.cls fun cd j5=>?_;obtain ⟨oD,DM,DL⟩:∃ oD,B.h₀.get? (B.Cl 1)=some oD∧oD.data=.cls cd:=by
  have wa:=j5;generalize ho:(B.K.lookup (B.Cl 1))=zz;induction zz using az with
  | none=>rw [LN,ho] at wa;injection wa
  | some o=>
   obtain ⟨c,d,dt,aE⟩:=o;rw [LN,ho] at wa;induction dt with
   | cls x=>(injection wa with e1;subst e1);exact ⟨_,B.hK _ _ ho,rfl⟩
   | _=>injection wa
 have hint:xb (dj fd a L nm).env=false:=by delta xb;rw [show (dj fd a L nm).env.scope.kind=.function from fo.kd];rfl
 have heq:execs (.Expr (.Call (.Attribute (.Call (.Name "super" p0) [] [] p1) "__init__" apos) es [] pos) p::rest) (dj fd a L nm).env=(do
   standAt p
   let ov←M8 (.Call (.Name "super" p0) [] [] p1) "__init__" (dj fd a L nm).env (eval (.Call (.Name "super" p0) [] [] p1) (dj fd a L nm).env)
   (do
     standAt apos.atName
     let x←holding [ov] (getMethod ov "__init__" (do return (←M4 (.Call (.Name "super" p0) [] [] p1) (dj fd a L nm).env).getD true));let v←callWith pos x.1 x.2 (backTo pos (starEach es (dj fd a L nm).env)) [];let f←dropValue (.Call (.Attribute (.Call (.Name "super" p0) [] [] p1) "__init__" apos) es [] pos) p v
     match f with|.next=>execs rest (dj fd a L nm).env|f=>pure f)):=by
  rw [execs_cons,exec_Expr _ _ _ hint rfl,LY cC hlen hp];simp only [bind_assoc];rfl
 rw [heq];refine J fo.ho fun of vX zk=>?_;refine F6 su.code fun Ao fj vsc file tf Dw Dx Dg VJ WY=>?_;refine bx su.clo fun cc afz W' Xd We=>?_;have Xb:(dj fd a L nm).env.cells=[(("__class__":Str),cc)]:=by show cellsFrom (L + 1) fd.scope.names fd.closure=_;refine (LV su.To).trans ?_;rw [W']
 refine ad (fc.rm "super" (.type "super") (by decide +kernel)) fun WN WQ=>?_;obtain ⟨hh,gg,dd,tk,os⟩:=s;refine xP (uL (eE (xP (OF (ks_wpAt_super_base (f:=a) (cc:=Ao) (env:=(dj fd a L nm).env) su.ks su.kc (by decide +kernel) rfl (st.keep _ _ vX) zk wf Dw (st.keep _ _ Dx) Dg VJ WY su.top ?_)))));refine ks_loadName_global fo.kd su.ks (ae5 (by rw [show (dj fd a L nm).env.globals=h_ from fo.gl];exact B.hg.keeps st.keep) WN (by rw [show (dj fd a L nm).env.builtins=builtinsNs from fo.bl];exact B.hb.keeps st.keep) WQ ⟨rfl,?_⟩);refine acT fo.kd su.kc (by rw [Xb];rfl) ⟨_,st.keep _ _ Xd,We⟩ ?_;refine E2 fo.kd Ka Wn Wr ?_;refine ks_wpAny_isType_cls (st.keep _ _ DM) DL ⟨rfl,?_⟩;refine ks_wpAny_call_super (st.keep _ _ DM) DL JO VC (fun c e=>by injection (ze).symm.trans e) (looks_mroIn X su.sub) (fun h' e k=>?_);have av:af B A H σ ⟨h',gg,dd,tk,os⟩:=st.grow (k:=tk) k;have bR:bh B (dj fd a L nm) sl σ h':=lo.pd st.inv (.grow k);refine uL (au (eE (au (cH (aZ ?_)))));have vP:=su.sup;rw [Ke] at vP;delta ks_superIn at vP;rw [j5] at vP;obtain ⟨of2,J4,J3⟩:∃ of,h'.get? f2=some of∧of.cls=.type "function":=by
  have tz:(B.K.lookup f2).map (·.cls)=some (.type "function"):=VP;generalize z:(B.K.lookup f2)=zz;induction zz using az with
  | none=>rw [z] at tz;injection tz
  | some of=>rw [z] at tz;exact ⟨of,k _ _ (X _ _ z),Option.some.inj tz⟩
 have rN:B.K.In h':=av.mj;have JN:xa≠B.Cl 1:=fun q=>by
  have h3:=st.keep _ _ DM;change hh.get? (B.Cl 1)=some oD at h3;rw [←q,JO] at h3
  (injection h3 with e1;subst e1)
  injection (ze).symm.trans DL
 refine ks_wpAny_getMethod_super (C:=B.Cl 1) (x:=xa) e (looks_opaque rN su.SJ) (l₀:=cd.mro) (fun A Q E s k q=>wpAny_bind ((looks_clsIn rN j5) A _ E s k (wpAny_pure q))) rfl rN vP J4 J3 JN (by decide +kernel) ?_;have Do:∀ b o,hh.get? b=some o→(h'.push {cls:=.type "method",data:=.fields #[.ref f2,.ref xa]}).get? b=some o:=fun b o e=>iq _ b o (k b o e);have aM:af B A H σ ⟨h'.push {cls:=.type "method",data:=.fields #[.ref f2,.ref xa]},gg,dd,tk + 1,os⟩:=av.grow (k:=tk + 1) (iq _);have Dd:(h'.push {cls:=.type "method",data:=.fields #[.ref f2,.ref xa]}).get? h'.objs.size=some (methodObj (.ref f2) (.ref xa)):=eu _ rfl;have V0:h'.objs.size∉own σ:=fun q=>by
  refine ay (av.inv.low _ q).2.1 fun o e=>?_;rw [show (⟨h',gg,dd,tk,os⟩:Shared).heap.get? h'.objs.size=none from fA h'] at e;injection e
 clear JN rN J3 J4 vP bR av VA Vz C5 VB;generalize h'.push {cls:=.type "method",data:=.fields #[.ref f2,.ref xa]}=g at *;generalize h'.objs.size=qa at *;have ew:bh B (dj fd a L nm) sl σ g:=lo.pd st.inv (.grow Do);have pA:aJ cq hh σ g σ:=.grow Do;have g8:bB O l sl H≠.no:=fun q=>V (congrArg (fun r=>R.bind (R.bind r _) _) q);refine au (Ap (P:=MethP B.K qa f2 (.ref xa)) (wN (env:=(dj fd a L nm).env) (pos:=pos) cC) (keeps_M (su.fn f2 Ke)) ?_);refine cZ A ⟨g,gg,dd,tk + 1,os⟩ σ H sl pos aw aM ew g8 _ _ (fun us bz vs bH k_ oB cg qy dA=>?_) fun e s' H' σ' e' a1 b1 c1=>hE e s' H' σ' (congrArg (fun r=>R.bind (R.bind r _) _) e') a1 (b1.le (fun b o e=>⟨o,Do b o e⟩) fun _ h=>rq h) (pA.trans c1).bG;rw [oB] at V hq hE;have JW:bz.heap.get? qa=some (methodObj (.ref f2) (.ref xa)):=by refine J (dA.kp _ _ V0 (fun q=>q) Dd) fun o' e' kp=>?_;refine (e').trans ?_;rw [kp.exact (by simp)]
 refine ⟨⟨JW,cg.mj⟩,?_⟩;have dA:=pA.trans dA;have Rw:ah prog w B.Cl k_ bz.heap u (.ref xa):=rx.b_ dA;have vZ:O.init 0 (u::vs) bH≠.no:=fun q=>V (congrArg (R.bind · _) q);refine oZ (aaw (x:=.ref xa) JW (W9 A bz k_ bH (u::vs) (.ref xa::us) (aw.le hm) cg (.cons Rw qy.1) vZ _ (fun v gE v' ez i9 oA cU rn eZ=>?_) fun e gE ez i9 oA cU FY eZ=>hE e gE ez i9 (congrArg (R.bind · _) oA) cU (FY.le dA.al fun _ h=>rq h) (dA.trans eZ).bG));obtain rfl:v=.none:=rn;have ev:((R.ok vs bH).bind fun vs H₁=>O.init 0 (u::vs) H₁)=.ok v' ez:=oA;rw [ev] at V hq hE;induction v' using PV.casesOn<;>try exact absurd rfl V
 show aT _ _ (dropValue _ _ _>>=_) _ _ _;rw [M7 (by simp)];exact aY.of_eq (pure_bind _ _) (hr A gE i9 ez sl aw hA cU (lo.pd st.inv (dA.trans eZ))) V Q E (hq.next (dA.trans eZ).bG) (hE.next (dA.trans eZ).bG)
end
end
section
open PySem PySem.W
theorem L9:∀ {ps:Qs} {us:Qa} (pre:List (Str×Value)),ps.Nodup→us.length=ps.length→(∀ k∈ps,pre.lookup k=none)→ps.filterMap (fun n=>((pre++ps.zip us).lookup n).map (n,·))=ps.zip us
 | [],us,pre,_,h,_=>by simp
 | x::ps,[],pre,_,h,_=>by simp at h
 | x::ps,u::us,pre,hn,h,hp=>by
  have iR:=uq.mp hn;have h1:(pre++(x,u)::ps.zip us).lookup x=some u:=by
   have:∀ (l:List (Str×Value)),l.lookup x=none→(l++(x,u)::ps.zip us).lookup x=some u:=by
    intro l hl;induction l with
    | nil=>simp [i5]
    | cons y l ih=>
     obtain ⟨a,b⟩:=y;rw [i5] at hl;rw [sg,i5];generalize hq:(x==a)=zz;induction zz with
     | true=>rw [hq] at hl;injection hl
     | false=>rw [hq] at hl;exact ih hl
   exact this pre (hp x (bC ..))
  rw [ad4,List.filterMap_cons,h1];show (x,u)::_=_;congr 1;have:=L9 (ps:=ps) (us:=us) (pre++[(x,u)]) iR.2 (by simpa using h) fun k hk=>by
   have WD:(k==x)=false:=by simp;rintro rfl;exact iR.1 hk
   have qZ:=hp k (bM _ hk);clear h1 hp;induction pre with
   | nil=>simp [i5,WD]
   | cons y l ih=>
    obtain ⟨a,b⟩:=y;rw [i5] at qZ;rw [sg,i5];generalize hq:(k==a)=zz;induction zz with
    | true=>rw [hq] at qZ;injection qZ
    | false=>rw [hq] at qZ;exact ih qZ
  simpa using this
def aa0(h1:fd.params.posonlyargs=[])(h2:fd.params.vararg=none)(h3:fd.params.kwonlyargs=[])(h4:fd.params.kwarg=none)(hd:fd.defaults=.none)(hn:(fd.params.args.map (·.arg)).Nodup)(hl:us.length=(fd.params.args.map (·.arg)).length):bindArgs fd ⟨us,[]⟩=pure ((fd.params.args.map (·.arg)).zip us):=by
 obtain ⟨name,qn,⟨po,as,va,ko,kd,ka,ds⟩,body,sc,gl,cl,df,UK,doc,pm,an,cd,ct,bl⟩:=fd;dsimp only at h1 h2 h3 h4 hd hn hl⊢;subst h1 h2 h3 h4 hd;have hb:=L9 (ps:=as.map (·.arg)) (us:=us) [] hn hl fun _ _=>rfl;have hm:((as.map (·.arg)).filter fun n=>(((as.map (·.arg)).zip us).lookup n).isNone)=[]:=by rw [aeu];intro k hk q;have dY:=congrArg (ur Fc) hb;rw [ND (dM hl.symm)] at dY;rw [←dY,List.map_filterMap] at hk;refine J (Fr.mp hk) fun c hc e=>?_;refine J (dG.mp e) fun z e e2=>?_;refine J (dG.mp e) fun y hz e=>?_;rw [←e2,←e,show (c,y).1=c from rfl] at q;rw [show (([]:List (Str×Value))++(as.map (·.arg)).zip us)=(as.map (·.arg)).zip us from rfl] at hz;rw [hz] at q;injection q
 unfold bindArgs;dsimp only [A3,sd,A8];generalize ur (fun x=>x.arg) as=ps at hn hl hb hm⊢;have hg:(decide (us.length > ps.length)&&adL (none:Option Arg))=false:=by rw [decide_eq_false (by lia)];rfl
 rw [show seqItems? (.none:Value)=pure none from rfl];refine (if_neg (c:=(decide (us.length > ps.length)&&adL (none:Option Arg))=true) (by rw [hg];exact cN)).trans ?_;have hz:List.drop (([]:Qa).length - ps.length) ([]:Qa)=[]:=aey;have hk:NM (fun n=>((ps.zip us).lookup n).isNone) (ad7 (ps.length - (List.drop (([]:Qa).length - ps.length) ([]:Qa)).length) ps)=[]:=by rw [hz,show ps.length - ([]:Qa).length=ps.length from rfl,mN];exact hm
 refine (if_neg (c:=(!(NM (fun n=>((ps.zip us).lookup n).isNone) (ad7 (ps.length - (List.drop (([]:Qa).length - ps.length) ([]:Qa)).length) ps)).isEmpty)=true) (by rw [hk];exact cN)).trans ?_;dsimp only [adM,Array.toList_empty];rw [show List.drop (([]:Qa).length - (ur (fun (x:Arg)=>x.arg) []++ps).length) ([]:Qa)=[] from aey,List.zip_nil_right];show (pure (List.filterMap _ (ps++[])):Sem (List (Str×Value)))=_;rw [gP];exact congrArg pure hb
noncomputable def refOf:Value→Option Addr
 | .ref a=>some a
 | _=>none
noncomputable def strOf:Value→Option Str
 | .str s _=>some s
 | _=>none
noncomputable def KT:oW→Option Qv
 | .fields vs=>some vs
 | _=>none
noncomputable def DP:oW→Option k9
 | .func fd=>some fd
 | _=>none
def qA{v:Value}(h:refOf v=some a):v=.ref a:=by induction v using xc<;>(first|(injection h;done)|(injection h with e1;subst e1));rfl
def GQ{v:Value}{a:Str}(h:strOf v=some a):∃ t,v=.str a t:=by induction v using xc<;>(first|(injection h;done)|(injection h with e1;subst e1));exact ⟨_,rfl⟩
def Yh{v:oW}{a:Qv}(h:KT v=some a):v=.fields a:=by induction v<;>(first|(injection h;done)|(injection h with e1;subst e1));rfl
def KI{v:oW}{a:k9}(h:DP v=some a):v=.func a:=by induction v<;>(first|(injection h;done)|(injection h with e1;subst e1));rfl
def DT(h:Heap)(a:Addr):Option Qv:=(h.get? a).bind fun o=>KT o.data
def j6(h:Heap)(a:Addr):Option k9:=(h.get? a).bind fun o=>DP o.data
def El(h:Heap)(cd:Value):Option Str:=(refOf cd).bind fun c=>(DT h c).bind fun vs=>vs[1]?.bind strOf
def KU{vs:Qv}(x:DT h a=some vs):∃ o,h.get? a=some o∧o.data=.fields vs:=
 (bO x).imp fun _ q=>⟨q.1,Yh q.2⟩
def K0(x:j6 h a=some fd):∃ o,h.get? a=some o∧o.data=.func fd:=
 (bO x).imp fun _ q=>⟨q.1,KI q.2⟩
def LK{cd:Value}{q:Str}(x:El h cd=some q):h.CodeRec cd q:=by refine J (bO x) fun c e x=>?_;refine J (bO x) fun vs e' x=>?_;refine J (bO x) fun v Ef x=>?_;refine J (KU e') fun o ho hd=>?_;refine ay (GQ x) fun t hv=>?_;exact ⟨c,o,vs,t,qA e,ho,hd,hv ▸ Ef⟩
def zS(h:Heap)(fd:k9)(np:Nat):Bool:=
 decide (fd.params.args.length=np)&&decide (fd.defaults=.none)&&decide (fd.globals=h_)&&decide (fd.builtins=builtinsNs)&&decide (El h fd.code=some fd.qualname)
structure w5(h:Heap)(a:Addr)(nm:Qs)(np:Nat)(f:Sc→Qt→Bool×Qt)(fd:k9)(b:Qt):Prop where
 fa:j6 h a=some fd
 body:fd.body=.stmts b
 fl:DR fd.params fd.scope nm=true
 lo:zS h fd np=true
 ok:(f ⟨fd.scope.names,nm.map some⟩ b).1=true
 eq:(f ⟨fd.scope.names,nm.map some⟩ b).2=b
noncomputable def FnAt(h:Heap)(a:Addr)(nm:Qs)(p:PS)(np:Nat):Prop:=∃ fd b,w5 h a nm np (fun sc=>dK sc p) fd b
noncomputable def E0(h:Heap)(a:Addr)(nm:Qs)(l:bg)(r:PS)(np:Nat):Prop:=∃ fd b ar,w5 h a nm np (fun sc=>Lj sc l r) fd b∧fd.params.args.head?=some ar∧nm[0]?=some ar.arg∧fd.scope.names.lookup ar.arg=some .local
section
def KS{f:Sc→Qt→Bool×Qt}{b:Qt}(x:w5 B.h₀ a nm np f fd b):
  ∃ ps,rV B a fd b ps∧rQ fd.scope nm∧ps=nm.take ps.length∧ps.length=np∧fd.params.posonlyargs=[]:=by
 have h:=x.fl;have g:=x.lo;simp only [DR,H6,G6,Hs,n9,i8,decide_eq_true_eq,uv,xg,N8,oU,Bh] at h;refine ad h fun z0 z1=>?_;clear h;refine ad z0 fun eA FX=>?_;clear z0;refine ad eA fun jw h6=>?_;clear eA;obtain ⟨⟨⟨⟨h1,h2⟩,h3⟩,h4⟩,h5⟩:=jw;refine ad FX fun h8 h9=>?_;clear FX;refine ad z1 fun FW pK=>?_;clear z1;refine ad FW fun wm wl=>?_;clear FW;have q9:(fd.params.args.map (·.arg)).Nodup:=h6 ▸ h8.sublist (List.take_sublist ..);exact ⟨fd.params.args.map (·.arg),⟨K0 x.fa,LK (aD (aR g)),x.body,aD (aR (aL (aL g))),aD (aR (aL g)),pK,wl,wm,fun s us hk hl=>BindsTo.of_eq (aa0 h1 h2 h3 h4 (aD (aR (aL (aL (aL g))))) q9 hl)⟩,
  ⟨h8,fun id hi=>(h9 id hi).1.1,fun id hi=>⟨(h9 id hi).1.2,(h9 id hi).2⟩⟩,by rw [aQ];exact h6,(aQ ..).trans (aD (aL (aL (aL (aL g))))),h1⟩
def KW{ps:Qs}(fo:rV B a fd body ps)(so:rQ fd.scope nm):Fits (dj fd a L nm) ⟨fd.scope.names,nm.map some⟩ where
 k id:=rfl
 nm:=rfl
 ok:=K1 (h:={objs:=Array.replicate L default}) fo so (by simp)
def zQ(fc:Facts B)(bo:nz B)(oc:kh B O m)(hm:m + 1≤n){p:PS}(h:FnAt B.h₀ a nm p np)(aw:b0 (n + 1) A)(st:af B A H σ s)(r:aK prog w B.Cl σ s.heap vs us):
  jm B A s σ (gn O fu p np nm.length vs H) (.call (.ref a) ⟨us,[]⟩) (VR B):=by
 refine eB h fun fd b x=>?_;clear h;refine xM (KS x) fun ps fo so fv m9 _=>?_;subst m9;exact Q0 fo so fv (fun L=>x.eq ▸ iS fc bo oc hm (aB (xr ..) hm) rfl (KW fo so) p b x.ok) (fun _ _ _ _ h=>h) aw st r
def PW(fc:Facts B)(bo:nz B)(oc:kh B O m)(hm:m + 1≤n){l:bg}(su:∀ fd,j6 B.h₀ a=some fd→wU B fd)(h:E0 B.h₀ a nm l r np)(aw:b0 (n + 1) A)(st:af B A H σ s)(rr:aK prog w B.Cl σ s.heap vs us):
  jm B A s σ (gn O fu (.expr (.sup l) r) np nm.length vs H) (.call (.ref a) ⟨us,[]⟩) (VR B):=by
 refine lf h fun fd b ar x wf h1 h2=>?_;clear h;refine xM (KS x) fun ps fo so fv m9 V5=>?_;subst m9;refine Hk fo so fv (fun L=>?_) (fun _ _ _ _ h=>h) aw st rr;have ft:=KW (L:=L) fo so;have h:=x.ok;have he:=(jh fu fc oc hm l _ _ (bN (sV (aH b))) ft).2.2 (aR (aL (aL h))) (aR (aL h));refine cast (congrArg (EW B O fu n (dj fd a L nm) L (.func b (kP fd a L)) (.expr (.sup l) r)) x.eq) ?_;exact abQ fc oc (ug hm) fo so (su fd x.fa) (by rw [V5];exact wf) h1 h2 he.1 (aD (aR (aL (aL (aL h))))) (aL (aL (aL (aL h)))) he.2 (iS fc bo oc hm (aB (xr ..) hm) rfl ft r b.tail (aR h))
end
end
section
open PySem PySem.W
noncomputable def pL:Qn:=[1,2,4,2,4,5,4,2,1,1,1,1,2,2,1,1,2,2,1,2,2,1,1,2,2,2,2,3,1,1,2,2,2,1]
noncomputable def pn:Qn:=[3,3,3,3,4,2]
noncomputable def qP:R PV→R PV
 | .ok .none H=>.ok .none H
 | .bad H=>.bad H
 | _=>.no
noncomputable def ai(fu:Nat):Nat→dL
 | 0=>{call:=fun _ _ _=>.no,init:=fun _ _ _=>.no,own:=fun _ _ _ _=>.no}
 | j + 1=>{
   call:=fun f vs H=>match ou[f]?,pL[f]? with
    | some x,some np=>gn (ai fu j) fu x.2 np x.1.length vs H
    | _,_=>.no
   init:=fun c vs H=>match c with
    | 0=>qP (gn (ai fu j) fu i0 3 zd.length vs H)
    | 1=>qP (gn (ai fu j) fu i1 4 vI.length vs H)
    | _=>qP (gn (ai fu j) fu i2 1 zc.length vs H)
   own:=fun c k vs H=>match mh[k]?,pn[k]? with
    | some x,some np=>gn (ai fu j) fu x.2 np x.1.length vs H
    | _,_=>.no}
section
structure MQ(B:Base prog w)(id:Str)(nm:Qs)(p:PS)(np:Nat)(a:Addr):Prop where
 g:B.mg id=some (.ref a)
 k:w_ B.K (.ref a)=true
 f:FnAt B.h₀ a nm p np
structure rT(B:Base prog w)(c:Addr)(id:Str)(a:Addr):Prop where
 g:findIn B.K (.ref c) id=some (some (.ref a))
 t:typeIn B.K (.ref a)=some (.type "function")
 k:w_ B.K (.ref a)=true
structure w4(B:Base prog w):Prop where
 f:∀ (i:Nat) id,lK[i]?=some id→∃ x np a,ou[i]?=some x∧pL[i]?=some np∧MQ B id x.1 x.2 np a
 m:∀ c (k:Nat) nm,qR[k]?=some nm→pG c k=true→sv (mn k)=nm∧∃ x np a,mh[k]?=some x∧pn[k]?=some np∧rT B (B.Cl c) nm a∧FnAt B.h₀ a x.1 x.2 np
 i0:∃ a,rT B (B.Cl 0) "__init__" a∧FnAt B.h₀ a zd i0 3
 i1:∃ a,rT B (B.Cl 1) "__init__" a∧E0 B.h₀ a vI (BK i1) (BJ i1) 4∧∀ fd,j6 B.h₀ a=some fd→wU B fd
 i2:∀ c,∃ a,rT B (B.Cl (c + 2)) "__init__" a∧FnAt B.h₀ a zc i2 1
def BV{r:R PV}{c:Code}(h:jm B A s σ r c (VR B)):jm B A s σ (qP r) c wX:=by
 intro V Rs hq hE;refine h (fun e=>V (congrArg qP e)) Rs (fun u s' v H' σ' e' a b c=>?_) fun e s' H' σ' e'=>hE e s' H' σ' (congrArg qP e');rw [e'] at V hq;induction v using PV.casesOn<;>try exact absurd rfl V
 cases b;exact hq _ _ .none H' σ' rfl a rfl c
noncomputable def w6(B:Base prog w)(m:Nat)(r:Qp→Hp→R PV)(a:Addr)(Rel:Sg→Heap→PV→Value→Prop):Prop:=
 ∀ A s σ H vs us,b0 m A→af B A H σ s→aK prog w B.Cl σ s.heap vs us→jm B A s σ (r vs H) (.call (.ref a) ⟨us,[]⟩) Rel
def Ib(fs:w4 B)(hc:∀ (i:Nat) x np a,ou[i]?=some x→pL[i]?=some np→FnAt B.h₀ a x.1 x.2 np→w6 B m (O.call i) a (VR B))(ho:∀ c (i:Nat) x np a,mh[i]?=some x→pn[i]?=some np→FnAt B.h₀ a x.1 x.2 np→w6 B m (O.own c i) a (VR B))(WK:∀ a,FnAt B.h₀ a zd i0 3→w6 B m (O.init 0) a wX)(v8:∀ a,E0 B.h₀ a vI (BK i1) (BJ i1) 4→(∀ fd,j6 B.h₀ a=some fd→wU B fd)→w6 B m (O.init 1) a wX)(v7:∀ c a,FnAt B.h₀ a zc i2 1→w6 B m (O.init (c + 2)) a wX):kh B O m where
 call f id hf:=by refine dS (fs.f f id hf) fun x np a h1 h2 h3=>?_;exact ⟨a,h3.g,h3.k,hc f x np a h1 h2 h3.f⟩
 own c k nm hk hm:=by refine ad (fs.m c k nm hk hm) fun h0 z2=>?_;refine lf z2 fun x np a h1 h2 h3 h4=>?_;clear z2;exact ⟨h0,a,h3.g,h3.t,h3.k,ho c k x np a h1 h2 h4⟩
 init
  | 0=>fs.i0.imp fun a h=>⟨h.1.g,h.1.t,h.1.k,WK a h.2⟩
  | 1=>fs.i1.imp fun a h=>⟨h.1.g,h.1.t,h.1.k,v8 a h.2.1 h.2.2⟩
  | c + 2=>(fs.i2 c).imp fun a h=>⟨h.1.g,h.1.t,h.1.k,v7 c a h.2⟩
theorem Ia(fc:Facts B)(bo:nz B)(fs:w4 B)(fu:Nat):∀ j,kh B (ai fu j) (2 * j)
 | 0=>Ib fs (fun _ _ _ _ _ _ _ _ _ _ _ _ _ _ _ _=>.no) (fun _ _ _ _ _ _ _ _ _ _ _ _ _ _ _ _ _=>.no) (fun _ _ _ _ _ _ _ _ _ _ _=>.no) (fun _ _ _ _ _ _ _ _ _ _ _ _=>.no) fun _ _ _ _ _ _ _ _ _ _ _ _=>.no
 | j + 1=>by
  have oc:=Ia fc bo fs fu j;refine Ib fs (fun i x np a h1 h2 h3 A s σ H vs us aw st r=>?_) (fun c i x np a h1 h2 h3 A s σ H vs us aw st r=>?_) (fun a h3 A s σ H vs us aw st r=>?_) (fun a h3 su A s σ H vs us aw st r=>?_) fun c a h3 A s σ H vs us aw st r=>?_
  ·show jm B A s σ (match ou[i]?,pL[i]? with|some x,some np=>gn (ai fu j) fu x.2 np x.1.length vs H|_,_=>.no) _ _;rw [h1,h2];exact zQ fc bo oc (n:=2 * j + 1) (aS _) h3 aw st r
  ·show jm B A s σ (match mh[i]?,pn[i]? with|some x,some np=>gn (ai fu j) fu x.2 np x.1.length vs H|_,_=>.no) _ _;rw [h1,h2];exact zQ fc bo oc (n:=2 * j + 1) (aS _) h3 aw st r
  ·exact BV (zQ fc bo oc (n:=2 * j + 1) (aS _) h3 aw st r)
  ·exact BV (PW fc bo oc (n:=2 * j + 1) (aS _) su h3 aw st r)
  ·exact BV (zQ fc bo oc (n:=2 * j + 1) (aS _) h3 aw st r)
end
end
section
open PySem
open Builtin Builtin.ObjectAttr
noncomputable abbrev lO:Qa:=[.type "Exception",.type "BaseException",.type "object"]
structure kY(h:Heap)(C G:Addr)(mC mG:Str→Qo):Prop where
 c:∃ e:EX,h.get? C=some (e.ob C (.ref G::lO))∧h.Ns e.N mC
 g:∃ e:EX,h.get? G=some (e.ob G lO)∧h.Ns e.N mG
theorem kY.keeps{h h':Heap}{C G:Addr}{mC mG:Str→Qo}(x:kY h C G mC mG)(k:∀ b o,h.get? b=some o→h'.get? b=some o):kY h' C G mC mG:=
 ⟨x.c.imp fun _ y=>⟨k _ _ y.1,y.2.keeps k⟩,x.g.imp fun _ y=>⟨k _ _ y.1,y.2.keeps k⟩⟩
section
variable {g:Array Bc} {d:Bd} {os:uc} {y:Qo}
def Bz{Q:Qo→Shared→Prop}(x:kY h C G mC mG)(hB:typeLookup (.type "Exception") name=pure y)(hq:Q (match mC name with|some v=>some v|none=>match mG name with|some v=>some v|none=>y) ⟨h,g,d,t,os⟩):
  wpAny M A (typeLookup (.ref C) name) Q E ⟨h,g,d,t,os⟩:=by
 refine J x.c fun eC hC hN=>?_;refine J x.g fun eG hG XA=>?_;have zi:lookupAlong lO name=pure y:=by rw [acV,Fa.mroIs] at hB;exact hB
 rw [acV];refine wpAny_bind (wpAny_mroOf_exc hC ?_);rw [ac0];refine wpAny_bind (wpAny_classOwn_exc hC hN ?_);generalize hv:(mC name)=zz;induction zz using az with
 | some v=>rw [hv] at hq;exact wpAny_pure hq
 | none=>
  rw [hv] at hq;dsimp only at hq⊢;rw [ac0];refine wpAny_bind (wpAny_classOwn_exc hG XA ?_);generalize zg:(mG name)=zz;induction zz using az with
  | some v=>rw [zg] at hq;exact wpAny_pure hq
  | none=>rw [zg] at hq;dsimp only;rw [zi];exact wpAny_pure hq
def Ts{rest:Qa}{Q:Unit→Shared→Prop}(x:kY h C G mC mG)(hq:Q () ⟨h,g,d,t,os⟩):wpAny M A (checkBuiltinCall "Exception.__new__" ⟨.ref C::rest,[]⟩) Q E ⟨h,g,d,t,os⟩:=by
 refine J x.c fun eC hC hN=>?_;have F:=Fa;have W7:(ia C::.ref G::lO).contains (.type "Exception")=true:=by simp
 have afJ:=F.noStar;delta checkBuiltinCall;rw [F.newKind,F.newSplit];show wpAny M A (isType (.ref C)>>=_) Q E _
 repeat (first|refine wpAny_loadPart_at hC ?_|(refine wpAny_isSubtype_exc hC ?_;rw [W7])|refine wpAny_staticBase_exc hC ?_|refine wpAny_madeBy_exc hC ?_|wp_step|(rw [if_neg (by decide +kernel)]))
 exact hq
end
section
variable {R:Result→Shared→Prop} {g:Array Bc} {d:Bd} {os:uc}
def Tu{rest:Qa}(x:kY h C G mC mG)(hq:R (.ok (.ret (.ref (h.objs.size + 1)))) ⟨(h.push {cls:=.type "tuple",data:=.seq rest.toArray}).push {cls:=.ref C,data:=.fields #[.ref h.objs.size,.none,.none,.none,.bool false,.none]},g,d,t,os⟩)(zi:rest.length≤sizeLine):
  E7 (model prog w) A (.builtin "Exception.__new__" ⟨.ref C::rest,[]⟩) R ⟨h,g,d,t,os⟩:=by
 refine J x.c fun eC hC hN=>?_;have F:=Fa;have afK:=F.ends;have wc:(ia C::.ref G::lO).contains (.type "Exception")=true:=by simp
 have Xg:(ia C::.ref G::lO).contains (.type "AttributeError")=false:=by simp
 have Xe:(ia C::.ref G::lO).contains (.type "NameError")=false:=by simp
 refine codeAny_builtinAt F.entry ?_;unfold Builtin.«BaseException.__new__»;refine wpAt_bind ?_;show wpAt _ _ _ (stack>>=_) _ _ _;refine wpAt_bind (wpAt_stack fun p below=>acR ?_)
 wp_walk
 refine acR ?_;rw [F.owner]
 repeat (first|with_reducible refine wpAny_madeHere_exc F.canon hC ?_|with_reducible refine wpAny_loadPart_at hC ?_|(with_reducible refine wpAny_isSubtype_exc hC ?_;first|rw [wc]|rw [Xg]|rw [Xe])|wp_step)
 show R _ _;rw [xA];exact hq
end
section
variable {g:Array Bc} {d:Bd} {os:uc} {x:Addr} {v:Value}
def Rp{ID:Value}{Q:Unit→Shared→Prop}(X:kY h C G mC mG)(hx:h.get? x=some o)(hc:o.cls=.ref C)(hq:Q () ⟨h,g,d,t,os⟩):
  wpAny M A (checkBuiltinCall "object.__setattr__" ⟨[.ref x,ID,v],[]⟩) Q E ⟨h,g,d,t,os⟩:=by
 refine J X.c fun eC hC hN=>?_;have SF:=Nh;have wc:(ia C::.ref G::lO).contains (.type "object")=true:=by simp
 have ha:=SF.args (.ref x) ID v;simp only [checkBuiltinCall,SF.kind,SF.split];refine wpAny_bind ?_;unfold isInstance
 repeat (first|(with_reducible refine wpAny_loadPart_at hx ?_;rw [hc])|(with_reducible refine wpAny_isSubtype_exc hC ?_;rw [wc])|wp_step)
 exact hq
theorem Ro{tk:Tok}{Q:Fin→Shared→Prop}(X:kY h C G mC mG)(hB:typeLookup (.type "Exception") name=pure none)(h1:mC name=none)(h2:mG name=none)(hx:h.get? x=some o)(hc:o.cls=.ref C)(hd:o.dict=none)(hf:∀ c,o.data≠.cls c)(hq:∀ h' gT D,(∀ b ob,b≠x→h.get? b=some ob→h'.get? b=some ob)→h'.get? x=some {o with dict:=some D}→Q (.done (.ret .none)) ⟨h',g,d,gT,os⟩):
  wpAny (model prog w) A (Builtin.«object.__setattr__» ⟨[.ref x,.str name tk,v],[]⟩) Q E ⟨h,g,d,t,os⟩:=by
 refine J X.c fun eC hC hN=>?_;have SF:=Nh;have V8:=SF.passes (.ref x);unfold Builtin.«object.__setattr__»
 repeat (first|rw [refuse_eq]|(rw [refuseLoop_ref,refuseLoop_ref,V8])|(with_reducible refine wpAny_loadPart_at hx ?_;rw [hc])|with_reducible refine wpAny_mroOf_exc hC ?_|(with_reducible refine Bz X hB ?_;rw [h1,h2])|wp_step)
 rw [hd,if_neg (by simp [typeHasDict])]
 split
 ·rename_i j5;injection j5
 split
 ·rename_i c j5;exact absurd j5 (hf c)
 ·have JL:(h.push {cls:=.type "dict",data:=.dict #[]}).get? x=some o:=fh _ hx;have JM:x≠h.objs.size:=mM (kn hx);refine wpAny_bind (wpAny_alloc' ?_);refine wpAny_bind (wpAny_update' JL ?_);refine wpAny_pure ?_;have WP:((h.push {cls:=.type "dict",data:=.dict #[]}).update x fun o=>{cls:=o.cls,dict:=some h.objs.size,data:=o.data,slots:=o.slots}).get? h.objs.size
    = some {cls:=.type "dict",data:=.dict #[]}:=
   (aeR _ _ _ _ JM.symm).trans (Heap.get?_push_at rfl rfl)
  have q9:((h.push {cls:=.type "dict",data:=.dict #[]}).update x fun o=>{cls:=o.cls,dict:=some h.objs.size,data:=o.data,slots:=o.slots}).Ns h.objs.size (fun _=>none):=
   ⟨_,#[],_,WP,rfl,fun e he=>absurd he (by simp),fun _=>rfl⟩
  show wpAny _ _ (storeInDict h.objs.size (.str name tk) name v) _ _ _;unfold storeInDict newKeyGuard;refine wpAny_bind (wpAny_pure (wpAny_bind (wpAny_nsSet1 (aeS q9) fun h' iR hs=>?_)));refine dS (iR.count (M_ name v ada)) fun oD Zj Zp vY Du Dy=>?_;refine wpAny_bind (wpAny_lookBehind vY (by rw [Du];exact acX (aB Dy (by rw [kl,p9,sizeLine_eq];exact eH rfl))) ?_)
  wp_walk
  refine hq h' _ h.objs.size (fun b ob Xj hb=>?_) ?_
  ·exact (hs.2 b (mM (kn hb))).trans ((aeR _ _ _ _ Xj).trans (fh _ hb))
  ·refine (hs.2 x JM).trans (k8 _ JL ?_);have fg:=(Bb.mp hx).2;obtain ⟨oc,od,SX,H_⟩:=o;induction SX<;>first|rfl|exact fg
def Rq{Q:Unit→Shared→Prop}(X:kY h C G mC mG)(m7:mC "__setattr__"=none)(mw:mG "__setattr__"=none)(hB:typeLookup (.type "Exception") name=pure none)(h1:mC name=none)(h2:mG name=none)(hx:h.get? x=some o)(hc:o.cls=.ref C)(hd:o.dict=none)(hf:∀ c,o.data≠.cls c)(hq:∀ h' gT D,(∀ b ob,b≠x→h.get? b=some ob→h'.get? b=some ob)→h'.get? x=some {o with dict:=some D}→Q () ⟨h',g,d,gT,os⟩):
  wpAny (model prog w) A (setAttr (.ref x) name v) Q E ⟨h,g,d,t,os⟩:=by
 have SF:=Nh;have f3:=SF.slot.bind (.ref x);unfold setAttr callSpecial? specialOf
 repeat (any_goals (first|assumption|(with_reducible refine wpAny_loadPart_at hx ?_;rw [hc])|(with_reducible refine Bz X SF.slot.lookup ?_;rw [m7,mw])|wp_step))
 refine codeAny_call_builtin SF.slot.plain SF.entry (Rp X hx hc (Ro X hB h1 h2 hx hc hd hf fun h' gT D hk Dc=>?_))
 repeat (any_goals (first|assumption|wp_step))
 exact hq h' gT D hk Dc
end
end
section
open PySem
open Builtin Builtin.ObjectAttr
structure oM(h:Heap)(f:Addr)(fd:k9):Prop where
 ho:∃ o,h.get? f=some o∧o.cls=.type "function"∧o.data=.func fd
 co:fd.scope.isCoroutine=false
 gen:fd.scope.isGenerator=false
 kd:fd.scope.kind=.function
 names:fd.scope.names=[(("self":Str),NameKind.local),(("told":Str),.local)]
 bd:∃ p1 p2 p3 p4,fd.body=.stmts [.Assign [.Attribute (.Name "self" p1) "told" p2] (.Name "told" p3) p4]
 cd:h.CodeRec fd.code fd.qualname
 nl:h.NoLimit
 par:fd.params.posonlyargs=[]∧fd.params.vararg=none∧fd.params.kwonlyargs=[]∧fd.params.kwarg=none∧fd.params.args.map (·.arg)=[("self":Str),("told":Str)]
 df:∃ T o v n,fd.defaults=.ref T∧h.get? T=some o∧o.data=.seq #[v] n
theorem oM.keeps{h h':Heap}{f:Addr}{fd:k9}(x:oM h f fd)(k:∀ b o,h.get? b=some o→h'.get? b=some o):oM h' f fd:=
 ⟨by refine J x.ho fun o a b=>?_;exact ⟨o,k _ _ a,b⟩,x.co,x.gen,x.kd,x.names,x.bd,x.cd.keeps k,x.nl.keeps k,x.par,by refine sk x.df fun T o i n a b c=>?_;exact ⟨T,o,i,n,a,k _ _ b,c⟩⟩
def oM.binds{f:Addr}(x:oM s.heap f fd)(a b:Value):BindsTo s fd ⟨[a,b],[]⟩ [(("self":Str),a),(("told":Str),b)]:=by refine uK x.par fun h1 h2 h3 h4 h5=>?_;refine sk x.df fun T o v n hd ho hs=>?_;clear x;obtain ⟨name,qn,⟨po,as,va,ko,kd,ka,ds⟩,body,sc,gl,cl,df,UK,doc,pm,an,cd,ct,bl⟩:=fd;subst h1 h2 h3 h4;refine BindsTo.of_defaults hd ho hs (k:=_) rfl ?_;clear hd ho hs;rw [h5];kernel_rfl
section
variable {R:Result→Shared→Prop} {x f:Addr}
def Pf:typeLookup (.type "Exception") "told"=pure none:=by rw [ki,builtinLookup_eq_fast];kernel_rfl
def Vc(X:kY s.heap C G mC mG)(m7:mC "__setattr__"=none)(mw:mG "__setattr__"=none)(h1:mC "told"=none)(h2:mG "told"=none)(I:oM s.heap f fd)(oi:A.depth < rX)(hx:s.heap.get? x=some o)(hc:o.cls=.ref C)(hd:o.dict=none)(hf:∀ c,o.data≠.cls c)(hq:∀ h' gT D,(∀ b ob,b≠x→s.heap.get? b=some ob→h'.get? b=some ob)→h'.get? x=some {o with dict:=some D}→R (.ok (.ret .none)) {s with heap:=h',toks:=gT}):
  E7 (model prog w) A (.call (.ref f) ⟨[.ref x,u],[]⟩) R s:=by
 refine F8 I.bd fun p1 p2 p3 p4 m_=>?_;refine ci I.ho fun of vX _ zk=>?_;refine codeAny_call_function oi vX zk I.co I.gen m_ I.cd (I.binds _ _ _ _ _ _ ?_);refine wpAny_bind (wpAny_alloc ?_);refine wpAny_bind (wpAny_layCells _ (fun name kind cells=>by generalize Dn:(kind==uo)=zz;induction zz<;>simp [Dn]) _ _ _ _ ?_);have V6:∀ h:Heap,pushCells h fd.scope.names=h:=fun h=>by rw [I.names];rfl
 have Xa:∀ n acc,cellsFrom n fd.scope.names acc=acc:=fun n acc=>by rw [I.names];rfl
 simp only [V6,Xa];have nL:(s.heap.push {cls:=.type "frame",data:=.dict #[]}).Ns s.heap.objs.size fun _=>none:=aeT s.heap (.type "frame");have k1:∀ b ob,s.heap.get? b=some ob→(s.heap.push {cls:=.type "frame",data:=.dict #[]}).get? b=some ob:=fun b ob e=>fh _ e;generalize zu:({scope:=fd.scope,locals:=s.heap.objs.size,globals:=fd.globals,cells:=fd.closure,qual:=fd.qualname++".<locals>.",func:=some f,code:=fd.code,frame:=some s.heap.objs.size,builtins:=fd.builtins}:Env)=env;have e1:env.kindOf "self"=some .local:=by rw [←zu];show fd.scope.names.lookup _=_;rw [I.names];rfl
 have e2:env.kindOf "told"=some .local:=by rw [←zu];show fd.scope.names.lookup _=_;rw [I.names];rfl
 have eL:env.locals=s.heap.objs.size:=by rw [←zu]
 have eK:env.scope.kind=.function:=by rw [←zu];exact I.kd
 rw [←eL] at nL;have hp:(env.scope.kind==.class||(env.scope.kind==.module&&env.locals != env.globals))=false:=by rw [eK];rfl
 have hL:s.heap.get? env.locals=none:=by rw [eL];exact sh (aS _)
 rw [ux];refine wpAny_bind (wpAny_bind (wpAny_bind (wpAny_storeName_local (hp:=hp) e1 nL fun h₁ n₁ pR=>wpAny_pure ?_)));dsimp only;rw [ux];refine wpAny_bind (wpAny_bind (wpAny_storeName_local (hp:=hp) e2 n₁ fun b6 Ip tV=>wpAny_pure ?_));dsimp only;rw [A8];have kk:∀ b ob,s.heap.get? b=some ob→b6.get? b=some ob:=fun b ob e=>by
  have hb:b≠env.locals:=by rintro rfl;injection (hL).symm.trans e
  refine (tV.2 b hb).trans ?_;rw [pR.2 b hb];exact k1 b ob e
 refine wpAny_pure ?_;refine wpAny_pure ⟨I.nl.keeps kk,?_⟩;refine codeAny_func ?_;rw [execs_cons,plainObj_exec_Assign_Attribute _ _ _ _ _ GK];simp only [adj,bind_assoc,pure_bind];refine wpAny_bind (wpAny_standAt ?_);rw [M9];have d1:(("told":Str)==("__debug__":Str))=false:=by decide +kernel
 have d2:(("self":Str)==("__debug__":Str))=false:=by decide +kernel
 refine wpAny_bind (wpAny_bind (wpAny_standAt ?_));rw [d1,if_neg cN];refine E2 (v:=u) eK e2 Ip (rfl) ?_;refine wpAny_bind (wpAny_holding ?_);rw [M9];refine wpAny_bind (wpAny_standAt ?_);rw [d2,if_neg cN];have ns:¬ (("self":Str)=("told":Str)):=by decide +kernel
 refine E2 (v:=.ref x) eK e1 Ip (rfl) ?_;refine wpAny_bind (wpAny_standAt (wpAny_bind (wpAny_holding ?_)));refine Rq (X.keeps kk) m7 mw Pf h1 h2 (kk _ _ hx) hc hd hf fun h' gT D hk Dc=>?_;refine wpAny_bind (wpAny_release ?_);refine wpAny_pure ?_;exact hq h' gT D (fun b ob hb e=>hk b ob hb (kk b ob e)) Dc
def PD{g:Array Bc}{d:Bd}{os:uc}(X:kY h C G mC mG)(m7:mC "__setattr__"=none)(mw:mG "__setattr__"=none)(h1:mC "told"=none)(h2:mG "told"=none)(v8:mC "__init__"=none)(v7:mG "__init__"=some (.ref f))(I:oM h f fd)(oi:A.depth + 1 < rX){Q:Fin→Shared→Prop}(hq:∀ x t D h' gT,h.get? x=none→(∀ b ob,h.get? b=some ob→h'.get? b=some ob)→h'.get? x=some {cls:=.ref C,dict:=some D,data:=.fields #[.ref t,.none,.none,.none,.bool false,.none]}→Q (.done (.ret (.ref x))) ⟨h',g,d,gT,os⟩):
  wpAny (model prog w) A (Builtin.«type.__call__» ⟨[.ref C,u],[]⟩) Q E ⟨h,g,d,t,os⟩:=by
 refine J X.c fun eC hC hN=>?_;have F:=Fa
 repeat (first|with_reducible refine wpAny_loadPart_at hC ?_|with_reducible refine wpAny_madeBy_exc hC ?_|wp_step)
 refine codeAny_call_builtin_code (FG _ F.quiet) (Ts X ?_);refine Tu X ?_ (by rw [sizeLine_eq];simp);have kk:∀ b ob,h.get? b=some ob→((h.push {cls:=.type "tuple",data:=.seq [u].toArray}).push {cls:=.ref C,data:=.fields #[.ref h.objs.size,.none,.none,.none,.bool false,.none]}).get? b=some ob:=fun b ob e=>fh _ (fh _ e);have XI:=kk _ _ hC;have tE:((h.push {cls:=.type "tuple",data:=.seq [u].toArray}).push
   {cls:=.ref C,data:=.fields #[.ref h.objs.size,.none,.none,.none,.bool false,.none]}).get? (h.objs.size + 1)=some
   {cls:=.ref C,data:=.fields #[.ref h.objs.size,.none,.none,.none,.bool false,.none]}:=by heap_get
 have Xf:(ia C::.ref G::lO).contains (.ref C)=true:=by simp
 have rN:=X.keeps kk
 repeat (first|with_reducible refine wpAny_loadPart_at tE ?_|(with_reducible refine wpAny_isSubtype_exc XI ?_;rw [Xf])|wp_step)
 refine Bz rN F.init.lookup ?_;rw [v8,v7];refine ci I.ho fun of vX Wc zk=>?_;have Wb:=kk _ _ vX;refine wpAny_holding (wpAny_bind ?_);have Xv:(⟨(h.push {cls:=.type "tuple",data:=.seq [u].toArray}).push {cls:=.ref C,data:=.fields #[.ref h.objs.size,.none,.none,.none,.bool false,.none]},g,d,t,os⟩:Shared).TypeIs (.ref f) "function":=⟨of,Wb,Wc⟩;refine wpAny_bind (wpAny_typeOf Xv ?_);refine wpAny_pure ?_;refine wpAny_bind (wpAny_call (Vc (x:=h.objs.size + 1) rN m7 mw h1 h2 (I.keeps kk) (by lia) tE rfl rfl (fun c q=>by injection q) fun h' gT D k1 k2=>?_));refine wpAny_pure ?_;refine wpAny_pure ?_;refine hq (h.objs.size + 1) h.objs.size D h' gT (sh (uf _)) (fun b ob e=>k1 b ob (fun q=>?_) (kk b ob e)) k2;subst q;replace e:=(sh (uf _)).symm.trans e;injection e
def TU(X:kY s.heap C G mC mG)(m7:mC "__setattr__"=none)(mw:mG "__setattr__"=none)(h1:mC "told"=none)(h2:mG "told"=none)(v8:mC "__init__"=none)(v7:mG "__init__"=some (.ref f))(I:oM s.heap f fd)(oi:A.depth + 9 < rX)(hq:∀ x t D h' gT,s.heap.get? x=none→(∀ b ob,s.heap.get? b=some ob→h'.get? b=some ob)→h'.get? x=some {cls:=.ref C,dict:=some D,data:=.fields #[.ref t,.none,.none,.none,.bool false,.none]}→Q (.ref x) {s with heap:=h',toks:=gT}):
  wpAny (model prog w) A (call (.ref C) [u]) Q E s:=by
 obtain ⟨h,g,d,t,os⟩:=s;refine J X.c fun eC hC hN=>?_;have f1:=tc_lookup;have f2:=tc_bind (.ref C);have hT:(⟨h,g,d,t,os⟩:Shared).TypeIs (.ref C) "type":=⟨_,hC,rfl⟩;refine wpAny_call (codeAny_of_tree ?_);show wpAny _ _ (callAny (.ref C) _) _ _ _
 repeat (any_goals (first|assumption|with_reducible refine wpAny_loadPart_at hC ?_|wp_step))
 refine ⟨rfl,?_⟩;refine codeAny_call_builtin_at (FG _ (by decide +kernel)) entry_typeCall (wpAny_check_type_call_sub hC (PD X m7 mw h1 h2 v8 v7 I ?_ fun x t D h' gT e1 e2 e3=>?_))
 ·have hw:ae2 (.builtin "type.__call__" ⟨[ia C]++[u],[]⟩)≤8:=by
   show ae4 (.builtin "type.__call__" ⟨[ia C]++[u],[]⟩) + (if Code.isCreation (.builtin "type.__call__" ⟨[ia C]++[u],[]⟩) then 1 else 0) + (if Code.isGuard (.builtin "type.__call__" ⟨[ia C]++[u],[]⟩) then 1 else 0) + (if ae3 (.builtin "type.__call__" ⟨[ia C]++[u],[]⟩) then claimMargin else 0)≤8;have e1:ae3 (.builtin "type.__call__" ⟨[ia C]++[u],[]⟩)=false:=by kernel_rfl
   have e2:ae4 (.builtin "type.__call__" ⟨[ia C]++[u],[]⟩)=0:=by kernel_rfl
   rw [e1,e2]
   split<;>split<;>decide
  show A.depth + ae2 (.builtin "type.__call__" ⟨[ia C]++[u],[]⟩) + 1 < rX;lia
 ·exact hq x t D h' gT e1 e2 e3
end
end
section
open PySem
inductive TT
 | leaf
 | node (o:Option Obj) (l r:TT)
noncomputable def TT.get:TT→Nat→Option Obj
 | .leaf,_=>none
 | .node o l r,n=>match cf n 0 with
  | true=>o
  | false=>match cf (n % 2) 1 with
   | true=>l.get (n / 2)
   | false=>r.get (n / 2 - 1)
noncomputable def TT.one(x:Option Obj):Nat→Nat→TT
 | 0,_=>.leaf
 | k + 1,n=>match cf n 0 with
  | true=>.node x .leaf .leaf
  | false=>match cf (n % 2) 1 with
   | true=>.node none (TT.one x k (n / 2)) .leaf
   | false=>.node none .leaf (TT.one x k (n / 2 - 1))
noncomputable def TT.alt(f:Option Obj→Option Obj):TT→Nat→TT
 | .leaf,n=>TT.one (f none) (n + 1) n
 | .node o l r,n=>match cf n 0 with
  | true=>.node (f o) l r
  | false=>match cf (n % 2) 1 with
   | true=>.node o (l.alt f (n / 2)) r
   | false=>.node o l (r.alt f (n / 2 - 1))
noncomputable def TT.upd(t:TT)(n:Nat)(f:Obj→Obj):TT:=t.alt (jq f) n
noncomputable def TT.put(t:TT)(x:Obj)(n:Nat):TT:=t.alt (fun _=>some x) n
def JF{p q:Prop}[Decidable p][Decidable q]{a b c d:α}(h:p↔q)(e:a=c)(e':b=d):(if p then a else b)=if q then c else d:=by
 subst e e';by_cases hp:p
 ·rw [if_pos hp,if_pos (h.mp hp)]
 ·rw [if_neg hp,if_neg fun x=>hp (h.mpr x)]
def tW(h:cf n m=false):n≠m:=fun q=>by subst q;rw [Nat.beq_refl] at h;injection h
def Bt(h:n % 2=m % 2)(e:n / 2=m / 2):n=m:=(adZ n 2).symm.trans (((congrArg (2 * · + n % 2) e).trans (congrArg (2 * (m / 2) + ·) h)).trans (adZ m 2))
def S0(h:cf (n % 2) 1=true)(h':cf (m % 2) 1=true):n / 2=m / 2↔n=m:=
 ⟨Bt ((uj h).trans (uj h').symm),fun e=>e ▸ rfl⟩
def Ii(h:cf (n % 2) 1=true)(h':cf (m % 2) 1=false):n≠m:=fun q=>by subst q;injection (h).symm.trans h'
def z9(h:cf (n % 2) 1=false):n % 2=0:=(Nat.mod_two_eq_zero_or_one n).resolve_right (tW h)
def Kp(h:n % 2=0)(hn:n≠0):0 < n / 2:=adR fun q=>hn (Bt (m:=0) h q)
def Zh(h:cf (n % 2) 1=false)(h':cf (m % 2) 1=false)(hn:n≠0)(hm:m≠0):n / 2 - 1=m / 2 - 1↔n=m:=
 ⟨fun e=>Bt ((z9 h).trans (z9 h').symm) (Nat.pred_inj (Kp (z9 h) hn) (Kp (z9 h') hm) e),fun e=>e ▸ rfl⟩
def tL{o:Option Obj}{l r:TT}(h0:cf m 0=false)(h:cf (m % 2) 1=true):(TT.node o l r).get m=l.get (m / 2):=by show (match cf m 0 with|true=>o|false=>match cf (m % 2) 1 with|true=>l.get (m / 2)|false=>r.get (m / 2 - 1))=_;rw [h0,h]
def tK{o:Option Obj}{l r:TT}(h0:cf m 0=false)(h:cf (m % 2) 1=false):(TT.node o l r).get m=r.get (m / 2 - 1):=by show (match cf m 0 with|true=>o|false=>match cf (m % 2) 1 with|true=>l.get (m / 2)|false=>r.get (m / 2 - 1))=_;rw [h0,h]
def KE{o x:Option Obj}{l r:TT}(m:Nat):(TT.node x l r).get m=if 0=m then x else (TT.node o l r).get m:=by
 induction m using dN with
 | zero=>rfl
 | succ m=>rfl
def KD{o:Option Obj}{l l' r:TT}{x:Option Obj}(hn:cf n 0=false)(h:cf (n % 2) 1=true)(e:∀ m,l'.get m=if n / 2=m then x else l.get m)(m:Nat):(TT.node o l' r).get m=if n=m then x else (TT.node o l r).get m:=by
 generalize e0:(cf m 0)=zz;induction zz with
 | true=>obtain rfl:=uj e0;rw [if_neg (tW hn)];rfl
 | false=>
  generalize e1:(cf (m % 2) 1)=zz;induction zz with
  | true=>rw [tL e0 e1,tL e0 e1,e];exact JF (S0 h e1) rfl rfl
  | false=>rw [tK e0 e1,tK e0 e1,if_neg (Ii h e1)]
def KB{o:Option Obj}{l r r':TT}{x:Option Obj}(hn:cf n 0=false)(h:cf (n % 2) 1=false)(e:∀ m,r'.get m=if n / 2 - 1=m then x else r.get m)(m:Nat):(TT.node o l r').get m=if n=m then x else (TT.node o l r).get m:=by
 generalize e0:(cf m 0)=zz;induction zz with
 | true=>obtain rfl:=uj e0;rw [if_neg (tW hn)];rfl
 | false=>
  generalize e1:(cf (m % 2) 1)=zz;induction zz with
  | true=>rw [tL e0 e1,tL e0 e1,if_neg (Ii e1 h).symm]
  | false=>rw [tK e0 e1,tK e0 e1,e];exact JF (Zh h e1 (tW hn) (tW e0)) rfl rfl
def Up(m:Nat):(TT.node none .leaf .leaf).get m=none:=by
 generalize e0:(cf m 0)=zz;induction zz with
 | true=>obtain rfl:=uj e0;rfl
 | false=>
  generalize e1:(cf (m % 2) 1)=zz;induction zz with
  | true=>rw [tL e0 e1];rfl
  | false=>rw [tK e0 e1];rfl
def TT.XZ(x:Option Obj)(k:Nat)(h:n < k)(m:Nat):(TT.one x k n).get m=if n=m then x else none:=by
 induction k generalizing n m with
 | zero=>exact absurd h (xm n)
 | succ k ih=>
  rw [←Up m];show TT.get (match cf n 0 with
   | true=>.node x .leaf .leaf
   | false=>match cf (n % 2) 1 with
    | true=>.node none (TT.one x k (n / 2)) .leaf
    | false=>.node none .leaf (TT.one x k (n / 2 - 1))) m=_
  generalize e:(cf n 0)=zz;induction zz with
  | true=>obtain rfl:=uj e;exact KE m
  | false=>
   have hd:n / 2 < k:=Fj (Nat.div_lt_self (adR (tW e)) (by decide)) (Fk h);generalize e2:(cf (n % 2) 1)=zz;induction zz with
   | true=>exact KD e e2 (fun m=>ih hd m) m
   | false=>exact KB e e2 (fun m=>ih (kZ (AQ _ _) hd) m) m
def TT.KF(f:Option Obj→Option Obj)(t:TT)(n m:Nat):(t.alt f n).get m=if n=m then f (t.get n) else t.get m:=by
 induction t generalizing n m with
 | leaf=>exact TT.XZ _ _ (xo n) m
 | node o l r vH Vn=>
  show TT.get (match cf n 0 with
   | true=>.node (f o) l r
   | false=>match cf (n % 2) 1 with
    | true=>.node o (l.alt f (n / 2)) r
    | false=>.node o l (r.alt f (n / 2 - 1))) m=_
  generalize e:(cf n 0)=zz;induction zz with
  | true=>obtain rfl:=uj e;exact KE m
  | false=>
   generalize e2:(cf (n % 2) 1)=zz;induction zz with
   | true=>rw [tL e e2];exact KD e e2 (fun m=>vH (n / 2) m) m
   | false=>rw [tK e e2];exact KB e e2 (fun m=>Vn (n / 2 - 1) m) m
def TT.XY(t:TT)(n m:Nat)(f:Obj→Obj):(t.upd n f).get m=if n=m then (t.get m).map f else t.get m:=by
 rw [TT.upd,TT.KF];by_cases q:n=m
 ·subst q;rfl
 ·rw [if_neg q,if_neg q]
def TT.KC(x:Obj)(t:TT)(n m:Nat):(t.put x n).get m=if n=m then some x else t.get m:=TT.KF _ t n m
structure TS where
 t:TT
 n:Nat
 k:Nat
noncomputable def TS.get?(s:TS)(a:Addr):Option Obj:=match s.t.get a with
 | some ⟨_,_,.freed,_⟩=>none
 | o=>o
noncomputable def toS(b:Shared)(s:TS):Shared:={b with heap:=⟨((dR s.n).map fun a=>(s.t.get a).getD default).toArray,b.heap.life⟩,toks:=s.k}
noncomputable def Rep(b:Shared)(ts:TS)(s:Shared):Prop:=∃ objs:Array Obj,s={b with heap:=⟨objs,b.heap.life⟩,toks:=ts.k}∧objs.size=ts.n∧∀ a:Nat,objs[a]?=ts.t.get a
section
variable {b:Shared} {ts:TS}
theorem Rep.get(r:Rep b ts s)(a:Addr):s.heap.get? a=ts.get? a:=by
 refine ci r fun objs z1=>?_;clear r;subst z1;intro h2 h3;delta Heap.get? TS.get?;rw [show (Shared.mk (Heap.mk objs b.heap.life) b.gens b.drawn ts.k b.os).heap.objs[a]?=ts.t.get a from h3 a];generalize ts.t.get a=x;induction x using az with
 | none=>rfl
 | some o=>obtain ⟨c,d,dt,sl⟩:=o;induction dt<;>rfl
theorem Rep.toS(r:Rep b ts s):s=toS b ts:=by
 refine ci r fun objs z1=>?_;clear r;subst z1;intro h2 h3;delta toS;congr 2;apply Array.ext
 ·simp [h2]
 ·intro i h4 h5;have:=(afo h4).symm.trans (h3 i);simp [←this]
theorem Rep.upd(r:Rep b ts s)(a:Addr)(f:Obj→Obj):Rep b ⟨ts.t.upd a f,ts.n,ts.k⟩ {s with heap:=s.heap.update a f}:=by refine ci r fun objs z1=>?_;clear r;subst z1;intro h2 h3;refine ⟨objs.modify a f,rfl,Array.size_modify.trans h2,fun m=>?_⟩;rw [TT.XY,←h3 m,afm]
theorem Rep.put(r:Rep b ts s)(o:Obj):Rep b ⟨ts.t.put o ts.n,ts.n + 1,ts.k⟩ {s with heap:=s.heap.push o}:=by
 refine ci r fun objs z1=>?_;clear r;subst z1;intro h2 h3;refine ⟨objs.push o,rfl,(afk ..).trans (congrArg (· + 1) h2),fun m=>?_⟩;rw [TT.KC,←h3 m,Array.getElem?_push,←h2];by_cases q:m=objs.size
 ·rw [if_pos q,if_pos q.symm]
 ·rw [if_neg q,if_neg fun e=>q e.symm]
def Rep.tok(r:Rep b ts s)(k:Nat):Rep b ⟨ts.t,ts.n,k⟩ {s with toks:=k}:=by refine J r fun objs z1=>?_;clear r;subst z1;intro h;exact ⟨objs,rfl,h⟩
theorem Rep.k(r:Rep b ts s):s.toks=ts.k:=by refine J r fun objs z1=>?_;clear r;subst z1;intro _;rfl
def Rep.sz(r:Rep b ts s):s.heap.objs.size=ts.n:=by refine ci r fun objs z1=>?_;clear r;subst z1;intro h _;exact h
noncomputable def putL:List Obj→Nat→TT→TT
 | [],_,t=>t
 | o::l,n,t=>putL l (n + 1) (t.put o n)
def X0(p:List Obj)(o:Obj)(a:Nat):(p++[o])[a]?=if p.length=a then some o else p[a]?:=by
 by_cases q:p.length=a
 ·subst q;rw [if_pos rfl,gD (aS _),xl];rfl
 ·rw [if_neg q];by_cases h:a < p.length
  ·exact eX h
  ·rw [Fv (ui h)];exact Fv (by rw [bP];exact Nat.lt_of_le_of_ne (ui h) q)
def R8(l:List Obj){p:List Obj}{t:TT}(h:∀ a:Nat,t.get a=p[a]?)(m:Nat):(putL l p.length t).get m=(p++l)[m]?:=by
 induction l generalizing p t with
 | nil=>rw [gP];exact h m
 | cons o l ih=>
  have:=ih (p:=p++[o]) (t:=t.put o p.length) fun a=>by rw [TT.KC,X0,h a]
  rw [bP,dz] at this;exact this
def treeOf(s:Shared):TS:=⟨putL s.heap.objs.toList 0 .leaf,s.heap.objs.toList.length,s.toks⟩
def RL(s:Shared):Rep s (treeOf s) s:=by exact ⟨s.heap.objs,rfl,rfl,fun a=>qf.symm.trans (R8 _ (p:=[]) (fun _=>rfl) a).symm⟩
end
noncomputable def jj(M:Model)(call:Ctx→Pos→Code→TS→Option (Result×TS)){α:Type}(Γ:Ctx):Sem α→Pos→TS→Option (Except Value α×Pos×TS)
 | .pure a,p,s=>some (.ok a,p,s)
 | .raise e,p,s=>some (.error e,p,s)
 | .rule _ k,p,s=>jj M call Γ (k ()) p s
 | .at p' k,_,s=>jj M call Γ (k ()) p' s
 | .load a _ k,p,s=>(s.get? a).bind fun o=>jj M call Γ (k o) p s
 | .update a _ f k,p,s=>(s.get? a).bind fun _=>jj M call Γ (k ()) p ⟨s.t.upd a f,s.n,s.k⟩
 | .alloc o k,p,s=>jj M call Γ (k s.n) p ⟨s.t.put o s.n,s.n + 1,s.k⟩
 | .loadIfAlive a k,p,s=>jj M call Γ (k (s.get? a)) p s
 | .point _ k,p,s=>jj M call Γ (k ()) p s
 | .fresh k,p,s=>jj M call Γ (k s.k) p ⟨s.t,s.n,s.k + 1⟩
 | .ask k,p,s=>jj M call Γ (k ⟨M.prog,M.w.params⟩) p s
 | .call c h _ _ k,p,s=>(call (Γ.enter c h p) p c s).bind fun x=>jj M call Γ (k x.1) p x.2
 | .handled own k,p,s=>jj M call Γ (k (if own then Γ.own else Γ.handled)) p s
 | .stack k,p,s=>jj M call Γ (k ((Γ.code,p)::Γ.below)) p s
 | .thread k,p,s=>jj M call Γ (k 0) p s
 | _,_,_=>none
noncomputable def Az(M:Model):Nat→Ctx→Pos→Code→TS→Option (Result×TS)
 | 0,_,_,_,_=>none
 | n + 1,Γ,p,c,s=>(jj M (Az M n) Γ (M.den c) p s).bind fun x=>match x.1 with
  | .error e=>some (.error e,x.2.2)
  | .ok (.done f)=>some (.ok f,x.2.2)
  | .ok (.again c')=>if c'.quiet=true then Az M n (Γ.goto c') x.2.1 c' x.2.2 else none
noncomputable def MX(M:Model)(b:Shared)(ct:Ctx→Pos→Code→TS→Option (Result×TS)):Prop:=
 ∀ Γ p c ts s x,Γ.code=c→Rep b ts s→ct Γ p c ts=some x→∃ s',Returns M Γ p s x.1 s'∧Rep b x.2 s'
def Mf{b:Shared}{ct:Ctx→Pos→Code→TS→Option (Result×TS)}(hc:MX M b ct)(Γ:Ctx)(Q:α→Pos→Shared→Prop)(E:Value→Pos→Shared→Prop)(x:Except Value α×Pos×TS)(hq:∀ s',Rep b x.2.2 s'→match x.1 with|.ok a=>Q a x.2.1 s'|.error e=>E e x.2.1 s'):∀ (t:Sem α) (p:Pos) (ts:TS) (s:Shared),Rep b ts s→jj M ct Γ t p ts=some x→jN M Γ t Q E p s:=by
 intro t;induction t with
 | pure a=>intro p ts s R h;(injection h with e1;subst e1);exact hq s R
 | raise e=>intro p ts s R h;(injection h with e1;subst e1);exact hq s R
 | rule _ k ih=>exact fun p ts s R h=>ih () p ts s R h
 | «at» p' k ih=>exact fun p ts s R h=>ih () p' ts s R h
 | load a _ k ih=>intro p ts s R h;refine J (bO h) fun o e h=>?_;exact ⟨o,(R.get a).trans e,ih o p ts s R h⟩
 | update a _ f k ih=>intro p ts s R h;refine J (bO h) fun o e h=>?_;exact ⟨by rw [R.get a,e];rfl,ih () p _ _ (R.upd a f) h⟩
 | alloc o k ih=>exact fun p ts s R h=>ih _ p _ _ (R.put o) (R.sz.symm ▸ h)
 | loadIfAlive a k ih=>exact fun p ts s R h=>ih _ p ts s R ((R.get a).symm ▸ h)
 | point _ k ih=>exact fun p ts s R h=>ih () p ts s R h
 | fresh k ih=>exact fun p ts s R h=>ih _ p _ _ (R.tok _) (R.k.symm ▸ h)
 | ask k ih=>exact fun p ts s R h=>ih _ p ts s R h
 | call c h₀ g l k ih=>intro p ts s R h;refine J (bO h) fun y e h=>?_;refine J (hc _ _ _ _ _ _ rfl R e) fun aa cJ rR=>?_;exact ⟨y.1,aa,cJ,ih _ p _ _ rR h⟩
 | handled own k ih=>exact fun p ts s R h=>ih _ p ts s R h
 | stack k ih=>exact fun p ts s R h=>ih _ p ts s R h
 | thread k ih=>exact fun p ts s R h=>ih _ p ts s R h
 | _=>intro p ts s R h;injection h
theorem Mg(M:Model)(b:Shared):∀ n,MX M b (Az M n)
 | 0=>fun _ _ _ _ _ _ _ _ h=>nomatch h
 | n + 1=>fun Γ p c ts s x cb R h=>by
  have ih:=Mg M b n;refine J (bO h) fun y e h=>?_;have key:wpCode M Γ (fun aU aa=>aU=x.1∧Rep b x.2 aa) p s:=by
   refine (wpCode_iff_wp M Γ _ p s).mpr ?_;rw [cb];refine Mf ih Γ _ _ y (fun s' R'=>?_) _ _ _ _ R e;obtain ⟨y1,y2,y3⟩:=y;induction y1 with
   | error e1=>(injection h with e1;subst e1);exact ⟨rfl,R'⟩
   | ok f=>
    induction f with
    | done f=>(injection h with e1;subst e1);exact ⟨rfl,R'⟩
    | again c'=>refine ad (xf.mp h) fun q h=>?_;refine J (ih _ _ _ _ _ _ rfl R' h) fun aa cJ rR=>?_;exact ⟨q,x.1,aa,cJ,rfl,rR⟩
  refine bx key fun aU aa hr z3=>?_;clear key;subst z3;intro rR;exact ⟨aa,hr,rR⟩
end
variable {ts:TS}
section
open PySem PySem.W
noncomputable abbrev P0:xe:=adH
noncomputable def Mw(w:gO):Model:=⟨Fast.tw11892475500146522536 Fast.tw14364793385576792824,P0,w⟩
noncomputable def oY:Ctx:=⟨.builtin "claim.caller" {},none,none,[],none⟩
noncomputable def FU:Nat:=4000
noncomputable def SO{α:Type}(x:Except Value α×Pos×TS):Option (α×Pos×TS):=match x.1 with
 | .ok a=>some (a,x.2)
 | .error _=>none
def mB{α:Type}(w:gO)(Γ:Ctx)(t:Sem α)(p:Pos)(s:TS):Option (α×Pos×TS):=(jj (Mw w) (Az (Mw w) FU) Γ t p s).bind SO
noncomputable def vg(x:Flow×Pos×TS):Option (Pos×TS):=match x.1 with
 | .next=>some x.2
 | _=>none
noncomputable def ss:Qt:=behindTheImports P0
noncomputable def BQ:Qt:=ss.take 14
noncomputable def BS:Qt:=ss.drop 15
noncomputable def PA:mJ→Qe
 | .Assign ts _ _=>ts
 | _=>[]
@[irreducible] noncomputable def uU:mJ:=(ss[14]?:Option mJ).getD default
@[irreducible] noncomputable def dH:Qe×List (Option Expr)×Qe×Pos×Pos:=(PA uU,Br (sV uU),bN (sV uU),(sV uU).pos,uU.pos)
structure AS where
 bA:Shared
 vs:List (Value×Value)
 d:Addr
 s:Shared
structure AT where
 bA:Shared
 env:Env
 lW:Ctx
 vs:List (Value×Value)
 d:Addr
 s:TS
def AT.up(y:AT):AS:=⟨y.bA,y.vs,y.d,toS y.bA y.s⟩
noncomputable def Au(code:Value)(frame:Addr):Env:={scope:=P0.main.scope,locals:=mainNs,globals:=mainNs,cells:=[],code,frame:=some frame}
def O'(w:gO)(bA:Shared)(env:Env)(lW:Ctx)(bJ:Pos)(cj:TS):Option AT:=
 (mB w lW (blockStart ss env) bJ cj).bind fun c=>
 ((mB w lW (Fast.tw12563942051412417395 BQ env) c.2.1 c.2.2).bind vg).bind fun d=>
 (mB w lW (swapsWithSole dH.1 (.Dict dH.2.1 dH.2.2.1 dH.2.2.2.1) dH.2.2.2.2.line env) dH.2.2.2.2 d.2).bind fun f=>if f.1=false then
  (mB w lW (Fast.tw1788576489739465902 (pairTrees dH.2.1 dH.2.2.1 env dH.2.2.2.1)) dH.2.2.2.1 ⟨f.2.2.t.put {cls:=.type "dict",data:=.dict #[]} f.2.2.n,f.2.2.n + 1,f.2.2.k⟩).bind fun g=>some ⟨bA,env,lW,g.1,f.2.2.n,g.2.2⟩
 else none
def jR(w:gO):Option AT:=
 (fencedOpening treeTable P0 w 400).bind fun bA=>
 (mB w oY (moduleCode P0.main) default (treeOf bA)).bind fun a=>
 (mB w oY (newBodyFrame a.1 mainNs mainNs) a.2.1 a.2.2).bind fun b=>
 O' w bA (Au a.1 b.1) (oY.enter (.body ss (Au a.1 b.1)) none b.2.1) b.2.1 b.2.2
def o2(w:gO)(y:AT)(o:Obj)(p:Pos):Option TS:=
 ((mB w y.lW (do assignStores y.env (.ref y.d) (←w8 dH.1 (.Dict dH.2.1 dH.2.2.1 dH.2.2.2.1) y.env) ((assignEach dH.1 y.env).map (·.2))) p ⟨y.s.t.upd y.d (fun _=>o),y.s.n,y.s.k + y.vs.length⟩).bind vg).bind fun a=>
 ((mB w y.lW (Fast.tw12563942051412417395 BS y.env) a.1 a.2).bind vg).map Prod.snd
end
section
open PySem PySem.W PyProof.Rows
def uN{d:Addr}{f:Obj→Obj}(ho:h.get? d=some o):h.update d f=h.update d fun _=>f o:=by
 obtain ⟨objs,l⟩:=h;show (⟨objs.modify d f,l⟩:Heap)=⟨objs.modify d fun _=>f o,l⟩;congr 1;have hd:objs[d]?=some o:=(Bb.mp ho).1;have hd2:=(xH.mp hd);apply Array.ext
 ·simp
 ·intro i h1 h2;by_cases hi:d=i
  ·subst hi;refine ay hd2 fun _ he=>?_;clear hd2;simp only [Bi,if_true];rw [he]
  ·simp [Bi,hi]
def Gn(h:Heap)(d:Addr)(o o':Obj):(h.update d fun _=>o).update d (fun _=>o')=h.update d fun _=>o':=by
 obtain ⟨objs,l⟩:=h;show (⟨(objs.modify d fun _=>o).modify d fun _=>o',l⟩:Heap)=⟨objs.modify d fun _=>o',l⟩;congr 1;apply Array.ext
 ·simp
 ·intro i h1 h2;by_cases hi:d=i
  ·subst hi;simp [Bi]
  ·simp [Bi,hi]
section
variable {K:Type} [DecidableEq K] {knd:KeyKind prog w K}
def ZY{d:Addr}{kvs:List (K×Value)}{k:K}{key v:Value}{Q:Unit→Shared→Prop}(oj:knd.is k key=true)(hm:s.heap.DictOf knd d kvs)(dh:kvs.length≤sizeLine)(hQ:∀ o',(s.heap.update d fun _=>o').DictOf knd d (stored kvs k v)→Q () {s with heap:=s.heap.update d fun _=>o',toks:=s.toks + 1}):wpAny (model prog w) A (dictSet d key v) Q E s:=by
 refine sq hm fun o es ep ho hc hd hk hp hn=>?_;clear hm;have cZ:es.size≤sizeLine:=by have e1:=hp.length;have e2:es.toList.length=es.size:=(by simp);lia
 unfold dictSet
 try with_reducible refine wpAny_holding ?_
 refine wpAny_bind (knd.pyHash oj ?_);unfold dictSetHashed
 try with_reducible refine wpAny_holding ?_
 refine wpAny_bind (wpAny_dictFind_of (s:={s with toks:=s.toks + 1}) oj ho hd hk ?_);have v6:(es.findIdx? fun e=>knd.is k e.key)=kvs.findIdx? fun kv=>decide (kv.1=k):=by rw [←hp.findIdx k];obtain ⟨l⟩:=es;simp
 generalize hi:(es.findIdx? fun e=>knd.is k e.key)=zz;induction zz using az with
 | some i=>
  refine wpAny_bind (wpAny_rule (wpAny_bind (wpAny_updateDict (s:={s with toks:=s.toks + 1}) ho hd (wpAny_point ?_))));have D:(s.heap.update d (·.mapDict (·.modify i fun e=>{e with val:=v}))).DictOf knd d (stored kvs k v):=⟨_,_,ep,k8 _ ho (adN (adP hd _)),hc.mapDict _,adP hd _,hk.modify _ _,by
    rw [stored,if_pos (any_of_findIdx_some (v6 ▸ hi))];have hl:(es.toList.findIdx? fun e=>knd.is k e.key)=some i:=by rw [←hi];obtain ⟨l⟩:=es;simp
    have:=hp.modify hn hl v;obtain ⟨l⟩:=es;simpa using this,by rw [stored,if_pos (any_of_findIdx_some (v6 ▸ hi)),keys_map_store];exact hn⟩
  rw [uN ho] at D;show Q () {s with heap:=s.heap.update d (·.mapDict (·.modify i fun e=>{e with val:=v})),toks:=s.toks + 1};rw [uN ho];exact hQ _ D
 | none=>
  have tC:k∉kvs.map (·.1):=not_mem_of_findIdx_none (v6 ▸ hi);have zA:¬ (kvs.any fun kv=>decide (kv.1=k))=true:=by rw [uA];rintro ⟨kv,WE,he⟩;exact tC (b7.mpr ⟨kv,WE,of_decide_eq_true he⟩)
  refine wpAny_bind (wpAny_rule (wpAny_updateDictKeys (hz:=cZ) (s:={s with toks:=s.toks + 1}) ho hd ?_));have D:(s.heap.update d (·.mapDictKeys (·.push ⟨knd.hash k,key,v⟩))).DictOf knd d (stored kvs k v):=⟨_,_,ep + 1,k8 _ ho (adN (adO hd _)),hc.mapDictKeys _,adO hd _,hk.push oj _,by
    rw [stored,if_neg zA];have:=hp.append oj (knd.hash k) v;obtain ⟨l⟩:=es;simpa using this,by
    rw [stored,if_neg zA,nI,aed];refine ⟨hn,by simp,?_⟩;intro a ha b hb;simp only [da,A3,bZ] at hb;subst hb;exact fun e=>tC (e ▸ ha)⟩
  rw [uN ho] at D;show Q () {s with heap:=s.heap.update d (·.mapDictKeys (·.push ⟨knd.hash k,key,v⟩)),toks:=s.toks + 1};rw [uN ho];exact hQ _ D
theorem GS{d:Addr}:∀ (vs:List (Value×Value)) (kvs acc:List (K×Value)) (s:Shared) (Q:PUnit→Shared→Prop),Carries knd vs kvs→s.heap.DictOf knd d acc→acc.length + kvs.length≤sizeLine→
  (∀ o,(s.heap.update d fun _=>o).DictOf knd d (merged acc kvs)→Q Nn {s with heap:=s.heap.update d fun _=>o,toks:=s.toks + vs.length})→
  wpAny (model prog w) A (storeAll d vs) Q E s
 | [],[],acc,s,Q,_,hm,_,hQ=>by
  unfold storeAll;rw [A8];refine ik (id hm) fun o es ep ho r=>?_;have e:s.heap=s.heap.update d fun _=>o:=by
   have:=uN (f:=id) ho;rw [show s.heap.update d id=s.heap from by
    obtain ⟨⟨objs,l⟩,_,_,_,_⟩:=s;show (⟨objs.modify d id,l⟩:Heap)=⟨objs,l⟩;congr 1;apply Array.ext
    ·simp
    ·intro i h1 h2;by_cases hi:d=i<;>simp [Bi,hi]] at this
   exact this
  have:=hQ o (by rw [←e];simpa [merged] using hm);rw [←e] at this;exact wpAny_pure this
 | (key,v)::vs,(k,v')::kvs,acc,s,Q,hc,hm,dh,hQ=>by
  refine cG hc fun oj z1=>?_;clear hc;subst z1;intro pF;rw [kl] at dh;unfold storeAll;rw [ux];refine wpAny_bind (wpAny_bind (ZY oj hm (by exact aq (AV dh) rfl) fun db Wq=>wpAny_pure ?_));refine GS vs kvs (stored acc k v) _ Q pF Wq (by have e:=stored_length_le acc k v;lia) fun o v0=>?_;have h1:=hQ o (by
   have:((s.heap.update d fun _=>db).update d fun _=>o).DictOf knd d (merged (stored acc k v) kvs):=v0;rw [Gn] at this;simpa [merged] using this)
  show Q Nn {s with heap:=(s.heap.update d fun _=>db).update d fun _=>o,toks:=s.toks + 1 + vs.length};rw [Gn];simpa [r8,xt 1] using h1
 | [],_::_,_,_,_,hc,_,_,_=>hc.elim
 | _::_,[],_,_,_,hc,_,_,_=>hc.elim
end
def Mwd(w:gO):denote treeTable=(Mw w).den:=by rw [Fast.te11892475500146522536,Fast.te14364793385576792824];exact rfl
def MH(w:gO):Mw w=model P0 w:=by delta model;rw [acW,Mwd w];exact rfl
def tO{b:Shared}{t:Sem α}{x:α×Pos×TS}{Q:α→Pos→Shared→Prop}{E:Value→Pos→Shared→Prop}(R:Rep b ts s)(h:mB w Γ t p ts=some x)(hq:∀ s',Rep b x.2.2 s'→Q x.1 x.2.1 s'):jN (Mw w) Γ t Q E p s:=by
 refine J (bO h) fun z0 e h=>?_;obtain ⟨y1,y2⟩:=z0;refine Mf (Mg _ b FU) Γ Q E _ (fun s' R'=>?_) t p ts s R e;induction y1 with
 | error _=>injection h
 | ok a=>(injection h with e1;subst e1);exact hq s' R'
def Tf{x:Flow×Pos×TS}{y:Pos×TS}(h:vg x=some y):x=(.next,y):=by obtain ⟨f,z⟩:=x;induction f<;>(first|(injection h;done)|(injection h with e1;subst e1));rfl
def D_{b:Shared}{t:Sem Flow}{x:Pos×TS}{Q:Flow→Pos→Shared→Prop}{E:Value→Pos→Shared→Prop}(R:Rep b ts s)(h:(mB w Γ t p ts).bind vg=some x)(hq:∀ s',Rep b x.2 s'→Q .next x.1 s'):jN (Mw w) Γ t Q E p s:=by refine J (bO h) fun y e h=>?_;refine tO R e fun s' R'=>?_;rw [Tf h] at R'⊢;exact hq s' R'
def Ze(l rest:Qt)(env:Env):execs (l++rest) env=(do match←execs l env with|.next=>execs rest env|f=>pure f):=by
 induction l with
 | nil=>rfl
 | cons s l ih=>rw [sg,execs_cons,execs_cons];simp only [bind_assoc];congr 1;funext f;induction f<;>first|exact ih|rfl
end
section
open PySem PySem.W PyProof.Rows
def P8:ss[14]?=some (.Assign dH.1 (.Dict dH.2.1 dH.2.2.1 dH.2.2.2.1) dH.2.2.2.2):=by kernel_rfl
def yb:(dH.2.1.all (·.isSome)&&(dH.2.1.length==dH.2.2.1.length)&&!dH.2.1.isEmpty&&decide (dH.2.1.length≤15))=true:=by kernel_rfl
def P7:dH.2.1≠[]:=fun q=>by
 have:=aN (aR (aL yb));rw [q] at this;injection this
def Qd{st:mJ}(h:ss[14]?=some st):ss=BQ++st::BS:=by have hl:=(cF.mp h);refine ay hl fun h1 h2=>?_;clear hl;unfold BQ BS;rw [←h2,List.getElem_cons_drop,List.take_append_drop]
noncomputable def JA(Γ:Ctx):Around:={handled:=Γ.handled,depth:=frameCount Γ.below + Γ.code.weight,units:=Γ.units}
def Vh(Γ:Ctx):Γ.In (JA Γ):=⟨rfl,aS _,fun l hl=>(by injection hl),fun g hg=>(by injection hg),aS _⟩
def Ov{ks:List (Option Expr)}{dp:Pos}{b:Shared}{t:TS}{x:List (Value×Value)×Pos×TS}{kvs:List (Qy×Value)}{Q:Value→Pos→Shared→Prop}{E:Value→Pos→Shared→Prop}(mz:ks.all (·.isSome)=true)(hl:ks.length=es.length)(h0:ks≠[])(hlen:ks.length≤15)(R:Rep b t s)(he:mB w Γ (evalPairs (pairTrees ks es env dp)) dp ⟨t.t.put {cls:=.type "dict",data:=.dict #[]} t.n,t.n + 1,t.k⟩=some x)(hc:Carries (bytesKind P0 w) x.1 kvs)(hd:(toS b x.2.2).heap.DictOf (bytesKind P0 w) t.n [])(hk:kvs.length≤sizeLine)(hq:∀ o p s',((toS b x.2.2).heap.update t.n fun _=>o).DictOf (bytesKind P0 w) t.n (merged [] kvs)→Rep b ⟨x.2.2.t.upd t.n (fun _=>o),x.2.2.n,x.2.2.k + x.1.length⟩ s'→Q (.ref t.n) p s'):
  jN (Mw w) Γ (eval (.Dict ks es dp) env) Q E p s:=by
 have hn:=pairTrees_length ks es env dp mz hl;have q5:pairTrees ks es env dp≠[]:=by intro q;rw [q] at hn;exact h0 (NH.mp hn.symm)
 rw [ac8,zip_pairTrees ks es env dp mz hl,dictDisplay_pairs _ q5 (by rw [hn];exact iI hlen rfl)];unfold subDict;simp only [lV,adg,Nf];show jN (Mw w) Γ _ _ E dp {s with heap:=s.heap.push {cls:=.type "dict",data:=.dict #[]}};rw [Sem.wp_pure,if_pos (by rw [hn];exact hlen)];simp only [lV];refine tO (R.put _) he fun s' R'=>?_;simp only [Nf];rw [R.sz];have hs:=R'.toS;have key:=GS (knd:=bytesKind P0 w) (A:=JA Γ) (E:=fun _ _=>False) x.1 kvs [] s' (fun _ aP=>∀ p,Q (.ref t.n) p aP) hc (hs ▸ hd) (by simpa using hk) (fun o ho p=>hq o p _ (hs ▸ ho) (R'.k ▸ (R'.upd t.n fun _=>o).tok (s'.toks + x.1.length)));have:=key Γ x.2.1 (Vh Γ);rw [←MH] at this;simp only [lV,Nc];exact nF (Mw w) Γ (storeAll t.n x.1) (fun _ bJ aP b6=>b6 bJ) (fun _ _ _ h=>h.elim) x.2.1 s' this
def O9{y:AT}{kvs:List (Qy×Value)}{R:Shared→Prop}(hA:jR w=some y)(hc:Carries (bytesKind P0 w) y.vs kvs)(hd:(toS y.bA y.s).heap.DictOf (bytesKind P0 w) y.d [])(hk:kvs.length≤sizeLine)(hR:∀ o p,((toS y.bA y.s).heap.update y.d fun _=>o).DictOf (bytesKind P0 w) y.d (merged [] kvs)→∃ ts,o2 w y o p=some ts∧R (toS y.bA ts)):
  fencedOpening treeTable P0 w 400=some y.bA∧jN (Mw w) oY (topStub P0).cur (fun f _ s'=>f=.done (.ret .none)∧R s') (fun _ _ _=>False) default y.bA:=by
 refine J (bO hA) fun bA h0 h=>?_;refine J (bO h) fun a h1 h=>?_;refine J (bO h) fun b h2 h=>?_;generalize he:Au a.1 b.1=env at h;generalize hg:oY.enter (.body ss env) none b.2.1=lW at h;refine J (bO h) fun c h3 h=>?_;refine J (bO h) fun d h4 h=>?_;refine J (bO h) fun f h6 h=>?_;refine ad (xf.mp h) fun hf h=>?_;refine J (bO h) fun g h7 h=>?_;obtain rfl:=Option.some.inj h;rw [←Fast.te12563942051412417395] at h4;rw [←Fast.te1788576489739465902] at h7;refine ⟨h0,?_⟩;show jN (Mw w) oY (do
  let code←moduleCode P0.main;let frame←newBodyFrame code mainNs mainNs;let _←run (.body ss (Au code frame))
  ret .none) _ _ default bA
 simp only [lV];refine tO (RL bA) h1 fun aa rR=>tO rR h2 fun aP ab_=>?_;rw [adf,he];refine (wpCode_iff_wp _ _ _ _ _).mpr ?_;rw [hg,show lW.code=.body ss env from hg ▸ rfl,←Mwd];show jN (Mw w) _ (do
  blockStart ss env
  return Fin.done (←(execs ss env).onRaise (leaving env))) _ _ b.2.1 aP
 simp only [lV,Nd,Nc];refine tO ab_ h3 fun bz ab9=>?_;rw [(congrArg (fun l=>execs l env) (Qd P8)).trans (Ze _ _ _)];simp only [lV];refine D_ ab9 h4 fun gE ab8=>?_;rw [execs_cons,arm_exec_Assign];simp only [lV,adg];refine tO ab8 h6 fun uS ab7=>?_;rw [hf,if_neg cN];simp only [lV];refine Ov (aL (aL (aL yb))) (eq_of_beq (aR (aL (aL yb)))) P7 (aD (aR yb)) ab7 h7 hc hd hk fun o p BE ho ab6=>?_;refine J (hR o p ho) fun ts hC hr=>?_;refine J (bO hC) fun y e1 hC=>?_;refine J (dG.mp hC) fun z e2 e=>?_;subst e;rw [←Fast.te12563942051412417395] at e2;have key:∀ {Q E},(∀ s',Rep bA y.2 s'→Q Flow.next y.1 s')→jN (Mw w) lW (do assignStores env (.ref f.2.2.n) (←w8 dH.1 (.Dict dH.2.1 dH.2.2.1 dH.2.2.2.1) env) ((assignEach dH.1 env).map (·.2))) Q E p BE:=fun hq=>D_ ab6 e1 hq;simp only [lV] at key;refine key fun afs ab5=>?_;dsimp only;refine D_ ab5 e2 fun afr ab4=>?_;unfold Sem.finPost;exact ⟨rfl,ab4.toS ▸ hr⟩
end
section
open PySem PySem.W PyProof.Rows
def O_{R:Shared→Prop}(hz:s.asleep)(hR:∀ s',R s'→s'.gens=#[])(h:jN (Mw w) oY (topStub P0).cur (fun f _ s'=>f=.done (.ret .none)∧R s') (fun _ _ _=>False) default s):
  ∃ aa,R aa∧aa.heap.life=s.heap.life∧∃ n t,schedN (denote table) P0 w n (.single s (topStub P0))=.running (.single aa t)∧through t=true:=by
 rw [MH] at h;refine ik (wp_comes (M:=model P0 w) (Ctx.fits_of (.builtin "claim.caller" {}) []) _ _ _ default s h) fun s' p' leaf z3 hl=>?_;refine ay z3 fun n hn=>?_;clear z3;rcases hl with ⟨a,rfl,rfl,hr⟩|⟨_,_,h'⟩
 ·have hg:=hR _ hr;have hl:leftWithCleanup s'.gens=false:=by rw [hg];kernel_rfl
  have gJ:runNI (denote table) P0 w n s (topStub P0)=.running s' ⟨.pure (.done (.ret .none)),.builtin "claim.caller" {},p',[]⟩:=hn;have my:runNI (denote table) P0 w (n + 1) s (topStub P0)=.halted (.done (.ret .none)) s':=by have e:=runN_snoc (M:=model P0 w) hn;rw [show (Sem.pure (Fin.done (Flow.ret Value.none)))=leafOf (.ok (.ret .none)) from rfl,step_leaf_nil] at e;refine e.trans ?_;unfold finish;rw [hl];rfl
  refine bx (runNI_running_real gJ) fun σ PF h1 h2 h3=>?_;obtain rfl:=ade h2 hg;refine ci (runNI_real _ _ _ my rfl) fun gW g1 g2 hc=>?_;have V:∀ k aP,runN (denote table) P0 w k s (topStub P0)≠.halted (.unsupported "lifetime:generator-with-cleanup-left-suspended") aP:=by intro k aP hk;have a:=runN_mono (denote table) P0 w (n + 1) k s _ _ gW g1;have b:=runN_mono (denote table) P0 w k (n + 1) s _ _ aP hk;rw [xt,b] at a;injection a with a1 _;injection a1
  obtain ⟨cur,code,pos,stack⟩:=PF;simp only [Thread.forget,Thread.mk.injEq,forgetAll] at h3;refine sr h3 fun z0=>?_;clear h3;subst z0;intro z1;subst z1;intro z2;subst z2;intro e5;have cC:stack=[]:=by induction stack using bj with|nil=>rfl|cons x xs=>simp at e5
  subst cC;refine ⟨σ,hr,?_,n,_,(schedN_eq_runN _ _ _ s _ hz ⟨hc,V⟩ n).trans (congrArg Run.lift h1),rfl⟩;have:=runN_life _ _ _ g1;rw [←this,(Shared.forget_eq g2).1]
 ·exact h'.elim
end
section
open PySem PySem.W PyProof.Rows
noncomputable def gA(h:Heap)(n:Str):Addr:=match h.nsMap h_ n with|some (.ref a)=>a|_=>0
noncomputable def iU(h:Heap):Nat→Addr
 | 0=>gA h "MatchingRule"
 | 1=>gA h "AttributeRule"
 | _=>gA h "Attributes"
noncomputable def refsOf(h:Heap)(ns:Addr):List Addr:=(h.nsPairs ns).filterMap fun p=>match p.2 with|.ref a=>some a|_=>none
noncomputable def Iq(h:Heap)(c:Addr):Addr:=match h.get? c with
 | some ⟨_,_,.cls cd,_⟩=>cd.ns
 | _=>0
def abz(h:Heap):List Addr:=cStatics::(([0,1,2]:Qn).flatMap fun c=>Iq h (iU h c)::refsOf h (Iq h (iU h c)))++refsOf h h_
def fragOf(h:Heap)(d:Addr):nK:=(abz h).filterMap fun a=>if a==d then none else (h.get? a).map fun o=>(a,o)
def mem_lookup{K:nK}(e:K.lookup a=some o):(a,o)∈K:=by
 induction K with
 | nil=>injection e
 | cons p r ih=>
  obtain ⟨b,x⟩:=p;rw [i5] at e
  split at e
  ·rename_i q;(injection e with e1;subst e1);rw [beq_iff_eq] at q;subst q;exact bC ..
  ·exact bM _ (ih e)
def X_(h:Heap)(d:Addr):(fragOf h d).In h:=fun a o e=>by
 have:=mem_lookup e;refine J (Fr.mp this) fun b _ hb=>?_
 split at hb
 ·injection hb
 ·refine J (dG.mp hb) fun o' h1 h2=>?_
  (injection h2 with e1 e2;subst e1 e2);exact h1
noncomputable def intOf:Value→Option Int
 | .int i _=>some i
 | _=>none
noncomputable def oG(K:nK)(a:Addr):Bool:=nu.all (fun n=>decide (findIn K (.ref a) n=some none))&&decide (findIn K (.ref a) "__getattribute__"=some (some (.builtin "object.__getattribute__")))&&decide (findIn K (.ref a) "__getattr__"=some none)
 &&decide (findIn K (.ref a) "__setattr__"=some (some (.builtin "object.__setattr__")))&&(clsIn K a).any (·.hasDict)&&plainOver K a&&makesIn K a&&w_ K (.ref a)
def Er(h:Heap):Bool:=(zI.zip wo).all (fun p=>decide ((h.nsMap h_ p.1).bind intOf=some p.2))
 &&Av.all (fun p=>(h.nsMap h_ p.1).isNone&&decide (h.nsMap builtinsNs p.1=some p.2))
 &&(cnames.zip [0,1,2]).all (fun p=>decide (h.nsMap h_ p.1=some (.ref (iU h p.2))))
def DO(h:Heap)(id:Str):Option Addr:=(h.nsMap h_ id).bind refOf
def mi(K:nK)(c:Addr)(id:Str):Option Addr:=(findIn K (.ref c) id).bind fun o=>o.bind refOf
noncomputable def cellOf:oW→Option Qo
 | .cell v=>some v
 | _=>none
def cellAt(h:Heap)(a:Addr):Option Qo:=(h.get? a).bind fun o=>cellOf o.data
noncomputable def LP:List (Str×Addr)→Option Addr
 | [x]=>if x.1="__class__" then some x.2 else none
 | _=>none
def BL(h:Heap)(K:nK)(cl:Nat→Addr)(fd:k9):Bool:=
 decide (ks_superIn K (cl 1) (cl 1) "__init__"=findIn K (.ref (cl 0)) "__init__")&&(clsIn K (cl 1)).isSome&&decide (mroIn K (cl 1) (.ref (cl 1))=some true)&&decide (nsIn K cStatics "thirdparty.any"=some none)
 &&(mi K (cl 0) "__init__").all (fnIn K)
 &&((refOf fd.code).bind fun c=>(DT h c).bind fun vs=>vs[2]?.bind strOf).any (fun file=>P0.main.file==file)
 &&(P0.main.scope.names.lookup ("super":Str)).isNone
 &&((LP fd.closure).bind (cellAt h)).any (fun v=>decide (v=some (.ref (cl 1))))
 &&fd.scope.names.all (fun x=>decide (x.2≠.cell))&&decide (fd.scope.names.lookup ("super":Str)=some .globalImplicit)&&decide (fd.scope.names.lookup ("__class__":Str)=some .free)
def abt(fd:k9):Bool:=fd.params.args.head?.any fun ar=>decide (vI[0]?=some ar.arg)&&decide (fd.scope.names.lookup ar.arg=some .local)
noncomputable abbrev ke:=Option (Arguments×FE×jO)
def nP(h:Heap)(a:Option Addr):ke:=(a.bind (j6 h)).map fun fd=>(fd.params,fd.body,fd.scope)
def oC(ss:Qt)(id:Str):ke:=(defOf id ss).map fun d=>(d.1,.stmts d.2.1,d.2.2)
def I1(h:Heap)(K:nK)(id:Str)(np:Nat):Bool:=(DO h id).any fun a=>w_ K (.ref a)&&(j6 h a).any (fun fd=>zS h fd np)
def vq(h:Heap)(K:nK)(c:Addr)(id:Str)(np:Nat):Bool:=(mi K c id).any fun a=>decide (typeIn K (.ref a)=some (.type "function"))&&w_ K (.ref a)&&(j6 h a).any (fun fd=>zS h fd np)
noncomputable def vo:Qs:=["add","read_macro","read_rule","settle","of","__init__"]
noncomputable def CF:Qs:=["fits","__init__"]
def LS(h:Heap)(K:nK)(cl:Nat→Addr):Bool:=(lK.zip pL).all (fun x=>I1 h K x.1 x.2)&&(CF.zip [3,3]).all (fun x=>vq h K (cl 0) x.1 x.2)&&(vo.zip [3,3,3,4,2,1]).all (fun x=>vq h K (cl 2) x.1 x.2)
 &&decide (findIn K (.ref (cl 1)) "fits"=findIn K (.ref (cl 0)) "fits")&&vq h K (cl 1) "__init__" 4&&((mi K (cl 1) "__init__").bind (j6 h)).any (fun fd=>BL h K cl fd&&abt fd)
def Yg(h:Heap)(K:nK)(cl:Nat→Addr):List ke×List ke×List ke×ke:=(lK.map fun id=>nP h (DO h id),CF.map fun id=>nP h (mi K (cl 0) id),vo.map fun id=>nP h (mi K (cl 2) id),nP h (mi K (cl 1) "__init__"))
def Yf:List ke×List ke×List ke×ke:=(lK.map (oC gH),CF.map (oC (iT "MatchingRule" gH)),vo.map (oC (iT "Attributes" gH)),oC (iT "AttributeRule" gH) "__init__")
noncomputable def LM:oW→Option NY
 | .cls cd=>some cd
 | _=>none
noncomputable def Gq:Value→Option String
 | .type t=>some t
 | _=>none
noncomputable def qk:List Qo→Option (Qo×List Qo)
 | a::r=>some (a,r)
 | []=>none
def Hg(l:List Qo):Option (Qo×Qo×Qo×Qo×Qo×Qo):=
 (qk l).bind fun a=>(qk a.2).bind fun b=>(qk b.2).bind fun c=>(qk c.2).bind fun d=>(qk d.2).bind fun e=>(qk e.2).bind fun f=>if f.2.isEmpty=true then some (a.1,b.1,c.1,d.1,e.1,f.1) else none
def excAt(h:Heap)(C:Addr)(bm:Qa):Option Addr:=(h.get? C).bind fun o=>(Gq o.cls).bind fun t=>(LM o.data).bind fun cd=>(Hg o.slots.toList).bind fun k=>
 if (t=="type"&&decide (cd.mro=.ref C::bm)&&cd.hasDict&&!cd.hasDel&&decide (k.2.2.2.2.1=some (.builtin "Exception.__new__"))&&h.isNs cd.ns)=true then some cd.ns else none
noncomputable def BY:oW→Option Qv
 | .seq us _=>some us
 | _=>none
def Jx(h:Heap)(f:Addr):Bool:=(h.get? f).any fun o=>decide (o.cls=.type "function")&&(DP o.data).any fun fd=>!fd.scope.isCoroutine&&!fd.scope.isGenerator&&decide (fd.scope.kind=.function)&&decide (fd.scope.names=[(("self":Str),NameKind.local),(("told":Str),.local)])
  &&decide (El h fd.code=some fd.qualname)&&fd.params.posonlyargs.isEmpty&&fd.params.vararg.isNone&&fd.params.kwonlyargs.isEmpty&&fd.params.kwarg.isNone&&decide (fd.params.args.map (·.arg)=[("self":Str),("told":Str)])
  &&(((refOf fd.defaults).bind h.get?).bind fun o=>BY o.data).any (fun us=>us.size==1)
noncomputable def AA(h:Heap):Addr:=gA h "BadPattern"
noncomputable def zJ(h:Heap):Addr:=gA h "GitError"
noncomputable def vj(h:Heap)(n:Addr)(id:Str):Bool:=decide (h.nsMap n id=none)
def LU(h:Heap):Bool:=decide (h.nsMap h_ "BadPattern"=some (.ref (AA h)))&&((excAt h (AA h) (.ref (zJ h)::lO)).any fun nC=>(excAt h (zJ h) lO).any fun nG=>
 vj h nC "__setattr__"&&vj h nC "told"&&vj h nC "__init__"&&vj h nG "__setattr__"&&vj h nG "told"&&((h.nsMap nG "__init__").bind refOf).any (Jx h))
def C0(h:Heap):Option FE:=(((excAt h (zJ h) lO).bind fun nG=>(h.nsMap nG "__init__").bind refOf).bind (j6 h)).map fun fd=>fd.body
noncomputable def At:Value→Option Qy
 | .bytes b _=>some b.toList
 | _=>none
def byKey(v:Value):Qy:=(At v).getD []
def kvsOf(vs:List (Value×Value)):List (Qy×Value):=vs.map fun p=>(byKey p.1,p.2)
def xV(h:Heap)(v:Value):Option Qa:=(refOf v).bind fun a=>(h.get? a).bind fun o=>(BY o.data).bind fun us=>
 if (decide (o.cls=.type "tuple")&&o.dict.isNone&&o.slots.size==0)=true then some us.toList else none
def pairAt(h:Heap)(v:Value):Option (List (Option Int)):=(xV h v).map (ur intOf)
def MA(h:Heap)(v:Value):Bool:=(xV h v).any fun l=>decide (l.map (pairAt h)=[some [some 48,some 57],some [some 65,some 90],some [some 97,some 122]])
def Es(x:AS)(h:Heap):Bool:=x.vs.all (fun p=>(At p.1).isSome)&&p7 x.vs.length 100&&decide (h.nsMap h_ "MATCHING_CLASSES"=some (.ref x.d))&&(valueAt (merged [] (kvsOf x.vs)) [97,108,110,117,109]).any (MA h)
noncomputable def IH:Qs:=importedModules P0.main.body
def Ak(x:AS)(s:Shared):Bool:=(s.gens.size==0)&&(x.bA.gens.size==0)&&s.heap.isNs h_&&s.heap.isNs builtinsNs&&s.heap.isNs cStatics&&(s.heap.nsMap cStatics "sys.recursionlimit").isNone&&(s.heap.get? lU).isSome
 &&staticsOk IH x.bA.heap s.heap&&namesBound P0 s.heap&&laidKept x.bA.heap s.heap&&s.heap.accountedOkI IH&&s.heap.bmainOk
def wI(x:AS)(s:Shared):Bool:=Ak x s&&Er s.heap&&oG (fragOf s.heap x.d) (iU s.heap 0)&&oG (fragOf s.heap x.d) (iU s.heap 1)&&oG (fragOf s.heap x.d) (iU s.heap 2)&&LU s.heap&&Es x s.heap
noncomputable def olds(bA s:Shared):List (Option Obj):=(dR bA.heap.objs.size).map fun b=>if b==mainNs||b==cStatics then none else s.heap.get? b
noncomputable abbrev EY:=Str×Str×Arguments×FE×jO×Addr×List (Str×Addr)×Addr×Value×Value
def y4(h:Heap):Option EY:=(j6 h (gA h "law")).map fun fd=>(fd.name,fd.qualname,fd.params,fd.body,fd.scope,fd.globals,fd.closure,fd.builtins,fd.defaults,fd.kwdefaults)
noncomputable def y0:Option EY:=(P0.theDef "law").map fun y=>("law","law",y.1,.stmts y.2.1,y.2.2,mainNs,[],builtinsNs,.none,.none)
noncomputable def uY(x:AS)(s:Shared):=(wI x s,s.os,olds x.bA s,s.heap.bltView,y4 s.heap,s.heap.objs[x.d]?,x.s.heap.get? x.d)
def uM(x:AS)(o:Obj):Bool×uc×List (Option Obj)×(Option Str×List (Str×Value))×Option EY×Option Obj×Option Obj:=(true,x.bA.os,olds x.bA x.bA,bltViewBooted,y0,some o,some {cls:=.type "dict",data:=.dict #[]})
noncomputable def sQ(x:AS)(s:Shared):=(LS s.heap (fragOf s.heap x.d) (iU s.heap),C0 s.heap,Yg s.heap (fragOf s.heap x.d) (iU s.heap))
def sA:Bool×Option FE×List ke×List ke×List ke×ke:=(true,(defOf "__init__" (iT "GitError" gH)).map fun d=>.stmts d.2.1,Yf)
end
section
open PySem PySem.W PyProof.Rows
def KAz(w:gO):Prop:=∀(o:Obj)(p:Pos),((jR w).isSome,(jR w).bind fun y=>(o2 w y o p).map fun ts=>uY y.up (toS y.bA ts))=(true,(jR w).map fun y=>uM y.up o)
def KBz(w:gO):Prop:=∀(o:Obj)(p:Pos),((jR w).bind fun y=>(o2 w y o p).map fun ts=>sQ y.up (toS y.bA ts))=some sA
def wfz(w:gO)(b:Bool):gO:=w.withFollow "special-get-raises" b
def UQ(w:gO):KAz (wfz w false):=by delta KAz;intro o p;kernel_rfl
def UP(w:gO):KAz (wfz w true):=by delta KAz;intro o p;kernel_rfl
def UO(w:gO):KBz (wfz w false):=by delta KBz;intro o p;kernel_rfl
def UN(w:gO):KBz (wfz w true):=by delta KBz;intro o p;kernel_rfl
end
section
open PySem PySem.W PyProof.Rows
section
variable {x:AS}
def lC(w:gO)(x:AS)(s:Shared)(h1:s.heap.isNs h_=true)(h2:s.heap.isNs builtinsNs=true)(h3:s.heap.NoLimit)(h4:∃ o,s.heap.get? lU=some o):Base P0 w:=
 {h₀:=s.heap,yB:=s.os,Cl:=iU s.heap,bad:=AA s.heap,mg:=s.heap.nsMap h_,mb:=s.heap.nsMap builtinsNs,hg:=.of_isNs h1,hb:=.of_isNs h2,bY:=h3,pz:=h4,K:=fragOf s.heap x.d,hK:=X_ _ _}
theorem aaG{P:Addr→Prop}(h0:P (iU h 0))(h1:P (iU h 1))(h2:P (iU h 2)):∀ c,P (iU h c)
 | 0=>h0
 | 1=>h1
 | _ + 2=>h2
def yQ{l:List α}{m:List β}{k:Nat}{a:α}{b:β}(h1:l[k]?=some a)(h2:m[k]?=some b):(a,b)∈l.zip m:=by
 have:(l.zip m)[k]?=some (a,b):=by rw [aen];exact ⟨h1,h2⟩
 exact jP this
def pO{K:nK}(h:oG K a=true):(∀ n,nu.contains n=true→findIn K (.ref a) n=some none)∧findIn K (.ref a) "__getattribute__"=some (some (.builtin "object.__getattribute__"))∧findIn K (.ref a) "__getattr__"=some none∧
  findIn K (.ref a) "__setattr__"=some (some (.builtin "object.__setattr__"))∧(clsIn K a).any (·.hasDict)=true∧plainOver K a=true∧makesIn K a=true∧w_ K (.ref a)=true:=by
 simp only [oG,i8,decide_eq_true_eq,oU] at h;refine ad h fun z0 h8=>?_;clear h;refine ad z0 fun eA h7=>?_;clear z0;refine ad eA fun jw h6=>?_;clear eA;obtain ⟨⟨⟨⟨h1,h2⟩,h3⟩,h4⟩,h5⟩:=jw;exact ⟨fun n hn=>h1 n (by simpa using hn),h2,h3,h4,h5,h6,h7,h8⟩
def Ho{v:oW}{a:Qv}(h:BY v=some a):∃ n,v=.seq a n:=by induction v<;>(first|(injection h;done)|(injection h with e1;subst e1));exact ⟨_,rfl⟩
def CZ{v:Value}{a:Int}(h:intOf v=some a):∃ t,v=.int a t:=by induction v using xc<;>(first|(injection h;done)|(injection h with e1;subst e1));exact ⟨_,rfl⟩
def U'{v:Value}(h:(At v).isSome=true):∃ b t,v=.bytes b t∧byKey v=b.toList:=by induction v using xc<;>cases h;exact ⟨_,_,rfl,rfl⟩
def O7{v:Value}{l:Qa}(e:xV h v=some l):∃ a us n,v=.ref a∧h.get? a=some {cls:=.type "tuple",data:=.seq us n}∧us.toList=l:=by refine J (bO e) fun a ha e=>?_;refine J (bO e) fun z0 ho e=>?_;obtain ⟨c,d,dt,sl⟩:=z0;refine J (bO e) fun us hu e=>?_;refine ay (Ho hu) fun n hn=>?_;refine ad (xf.mp e) fun q e=>?_;refine ⟨a,us,n,qA ha,?_,Option.some.inj e⟩;rw [ho,show c=_ from aD (aL (aL q)),show d=none from xg.mp (aR (aL q)),show sl=#[] from xI (eq_of_beq (aR q)),show dt=_ from hn]
def Gw{B:Base P0 w}{v:Value}{l:Qa}(hk:∀ b o,h.get? b=some o→h'.get? b=some o)(nb:∀ b o,h.get? b=some o→¬ c_ σ b)(e:xV h v=some l)(r:aK P0 w B.Cl σ h' vs l):ah P0 w B.Cl σ h' (.tup vs) v:=by refine dS (O7 e) fun c us n e ho hl=>?_;rw [e];exact .tup (hk _ _ ho) (nb _ _ ho) (by rw [r.sz,←hl];rfl) fun i v u a b=>r.all i v u a (by rw [←hl,qf];exact b)
def IR{f:α→β}{l:List α}{a b:β}(h:l.map f=[a,b]):∃ x y,l=[x,y]∧f x=a∧f y=b:=by refine bx (NF.mp h) fun x l1 e e1 h=>?_;refine bx (NF.mp h) fun y l2 e' e2 h=>?_;exact ⟨x,y,by rw [e,e',NE.mp h],e1,e2⟩
def TQ{f:α→β}{l:List α}{a b c:β}(h:l.map f=[a,b,c]):∃ x y z,l=[x,y,z]∧f x=a∧f y=b∧f z=c:=by refine bx (NF.mp h) fun x l1 e e1 h=>?_;refine bx (IR h) fun y z e' h1 h2=>?_;exact ⟨x,y,z,by rw [e,e'],e1,h1,h2⟩
def Ci{B:Base P0 w}{v:Value}{a b:Int}(hk:∀ b o,h.get? b=some o→h'.get? b=some o)(nb:∀ b o,h.get? b=some o→¬ c_ σ b)(e:pairAt h v=some [some a,some b]):ah P0 w B.Cl σ h' (.tup [.int a,.int b]) v:=by refine J (dG.mp e) fun l hl e=>?_;refine bx (IR e) fun x y e e1 e2=>?_;refine ay (CZ e1) fun t e1=>?_;refine ay (CZ e2) fun t' e2=>?_;exact Gw hk nb hl (e ▸ e1 ▸ e2 ▸ .cons (.int _ _) (.cons (.int _ _) .nil))
def abx{B:Base P0 w}{v:Value}(hk:∀ b o,h.get? b=some o→h'.get? b=some o)(nb:∀ b o,h.get? b=some o→¬ c_ σ b)(e:MA h v=true):ah P0 w B.Cl σ h' EO v:=by refine J (anyOf e) fun l hl e=>?_;refine lf (TQ (aD e)) fun x y z e e1 e2 e3=>?_;exact Gw hk nb hl (e ▸ .cons (Ci hk nb e1) (.cons (Ci hk nb e2) (.cons (Ci hk nb e3) .nil)))
def Ys{h1 h2 h3 h4}(g:Er s.heap=true)(c0:oG (fragOf s.heap x.d) (iU s.heap 0)=true)(c1:oG (fragOf s.heap x.d) (iU s.heap 1)=true)(c2:oG (fragOf s.heap x.d) (iU s.heap 2)=true)(ca:Es x s.heap=true)(hD:s.heap.DictOf (bytesKind P0 w) x.d (merged [] (kvsOf x.vs))):Facts (lC w x s h1 h2 h3 h4):=by
 simp only [Er,i8,oU] at g;refine ad g fun z0 g3=>?_;clear g;refine ad z0 fun g1 g2=>?_;clear z0;have C:=aaG (h:=s.heap) (P:=fun a=>oG (fragOf s.heap x.d) a=true) c0 c1 c2;refine ⟨fun k id i a b=>?_,fun id v e=>?_,fun c id e=>?_,fun c n hn=>(pO (C c)).1 n hn,fun c=>(pO (C c)).2.1,fun c=>(pO (C c)).2.2.1,fun c=>(pO (C c)).2.2.2.1,fun c=>(pO (C c)).2.2.2.2.1,fun c=>(pO (C c)).2.2.2.2.2.1,
  fun c=>(pO (C c)).2.2.2.2.2.2.1,fun c=>(pO (C c)).2.2.2.2.2.2.2,?_⟩
 ·have:=g1 _ (yQ a b);refine J (bO (aD this)) fun v hm hi=>?_;refine ay (CZ hi) fun t z1=>?_;subst z1;exact ⟨t,hm⟩
 ·have hm:(id,v)∈Av:=mem_of_lookup e;exact ⟨xg.mp (g2 _ hm).1,of_decide_eq_true (g2 _ hm).2⟩
 ·have hc:([0,1,2]:Qn)[c]?=some c:=by
   match c,e with
   | 0,_=>rfl
   | 1,_=>rfl
   | 2,_=>rfl
  have:=g3 _ (yQ e hc);exact of_decide_eq_true this
 ·simp only [Es,i8,decide_eq_true_eq] at ca;refine ad ca fun z0 Ew=>?_;clear ca;refine ad z0 fun eA ca1=>?_;clear z0;refine ad eA fun _ _=>?_;clear eA;refine dS (id hD) fun od es ep ho hx r=>?_;refine ⟨x.d,od,ca1,ho,hx.1,fun A s' σ H t Q E st hq=>?_⟩;refine J (anyOf Ew) fun v hv Ew=>?_;refine wpAny_getItem_of (knd:=bytesKind P0 w) (k:=[97,108,110,117,109]) (by exact bytesKind_is P0 w [97,108,110,117,109] t) (f:=valueAt (merged [] (kvsOf x.vs))) ?_ hv (hq _ _ (abx st.keep (fun b o e=>?_) Ew))
  ·refine ik hD.mapOf fun od es ep ho r=>?_;exact ⟨od,es,ep,st.keep _ _ ho,r⟩
  ·intro q;rcases q with q|q
   ·refine ad (st.inv.low b q) fun q _=>?_;exact absurd (e.symm.trans q) (by simp)
   ·refine ad (st.inv.cS b q) fun q _=>?_;exact absurd (e.symm.trans q) (by simp)
def KR{id:Str}{l:Qt}{f:Sc→Qt→Bool×Qt}(e:nP h (some a)=oC l id)(t:l6 l id nm f=l5 l id)(lo:(j6 h a).any (fun fd=>zS h fd np)=true):∃ fd b,w5 h a nm np f fd b:=by refine J (anyOf lo) fun fd tF lo=>?_;delta nP oC at e;delta l6 l5 at t;rw [xh,tF,ud] at e;refine J (dG.mp e.symm) fun d hd e=>?_;rw [hd] at t;have e1:=(Prod.mk.inj e).1;have e2:=Prod.mk.inj (Prod.mk.inj e).2;have t':=Prod.mk.inj (Option.some.inj t);rw [e1,e2.2] at t';exact ⟨fd,d.2.1,tF,e2.1.symm,aL t'.1,lo,aR t'.1,t'.2⟩
def T4{K:nK}{c:Addr}{id:Str}(h:mi K c id=some a):findIn K (.ref c) id=some (some (.ref a)):=by refine J (bO h) fun o e h=>?_;refine J (bO h) fun v e' h=>?_;rw [e,e',qA h]
def X4{B:Base P0 w}{id:Str}{l:Qt}{p:PS}(hm:B.mg=B.h₀.nsMap h_)(e:nP B.h₀ (DO B.h₀ id)=oC l id)(t:l6 l id nm (fun sc=>dK sc p)=l5 l id)(lo:I1 B.h₀ B.K id np=true):∃ a,MQ B id nm p np a:=by refine J (anyOf lo) fun a ha lo=>?_;rw [ha] at e;refine J (bO ha) fun v hv ha=>?_;exact ⟨a,by rw [hm,hv,qA ha],aL lo,KR e t (aR lo)⟩
def IU{B:Base P0 w}{c:Addr}{id:Str}{l:Qt}{f:Sc→Qt→Bool×Qt}(e:nP B.h₀ (mi B.K c id)=oC l id)(t:l6 l id nm f=l5 l id)(lo:vq B.h₀ B.K c id np=true):∃ a,rT B c id a∧mi B.K c id=some a∧∃ fd b,w5 B.h₀ a nm np f fd b:=by refine J (anyOf lo) fun a ha lo=>?_;rw [ha] at e;exact ⟨a,⟨T4 ha,aD (aL (aL lo)),aR (aL lo)⟩,ha,KR e t (aR lo)⟩
def zZ{B:Base P0 w}{c:Addr}{id:Str}{l:Qt}{p:PS}(e:nP B.h₀ (mi B.K c id)=oC l id)(t:l6 l id nm (fun sc=>dK sc p)=l5 l id)(lo:vq B.h₀ B.K c id np=true):∃ a,rT B c id a∧FnAt B.h₀ a nm p np:=
 (IU e t lo).imp fun _ q=>⟨q.1,q.2.2⟩
def aaH{v:oW}{a:Qo}(h:cellOf v=some a):v=.cell a:=by induction v<;>(first|(injection h;done)|(injection h with e1;subst e1));rfl
def aaC{l:List (Str×Addr)}(h:LP l=some a):l=[(("__class__":Str),a)]:=by
 match l,h with
 | [(n,c)],h=>refine ad (xf.mp h) fun q e=>?_;subst q;(injection e with e1;subst e1);rfl
def PX{B:Base P0 w}(h:BL B.h₀ B.K B.Cl fd=true):wU B fd:=by simp only [BL,i8,decide_eq_true_eq,oU,xg] at h;refine ad h fun z0 wl=>?_;clear h;refine ad z0 fun eA wm=>?_;clear z0;refine ad eA fun jw h9=>?_;clear eA;obtain ⟨⟨⟨⟨⟨⟨⟨h1,h2⟩,h3⟩,h4⟩,h5⟩,h6⟩,h7⟩,h8⟩:=jw;refine J (anyOf h6) fun file h6 hf=>?_;refine J (bO h6) fun c hc h6=>?_;refine J (bO h6) fun vs hv h6=>?_;refine J (bO h6) fun v zg h6=>?_;refine J (KU hv) fun oc ho hd=>?_;refine ay (GQ h6) fun tf h6=>?_;refine J (anyOf h8) fun v' h8 C9=>?_;refine J (bO h8) fun cc Dx h8=>?_;refine J (bO h8) fun o' Wf h8=>?_;exact ⟨h1,ue.mp h2,h3,h4,fun f hf=>by delta mi at h5;rw [hf] at h5;exact h5,⟨c,oc,vs,file,tf,qA hc,ho,hd,h6 ▸ zg,hf⟩,by rw [h7];rfl,⟨cc,o',aaC Dx,Wf,(aaH h8).trans (congrArg _ (aD C9))⟩,h9,wm,wl⟩
def rK{l:List α}{f g:α→β}(h:l.map f=l.map g){a:α}(ha:a∈l):f a=g a:=List.map_inj_left.mp h a ha
def Kn{k:Nat}(hc:c≤1)(h:pG c k=true):k=0:=by
 match c,hc with
 | 0,_=>exact eq_of_beq (show (k==0)=true from h)
 | 1,_=>exact eq_of_beq (show (k==0)=true from h)
def KQ{h1 h2 h3 h4}(g:sQ x s=sA):w4 (lC w x s h1 h2 h3 h4):=by
 refine ad (Prod.mk.inj g) fun g g'=>?_;refine ad (Prod.mk.inj (Prod.mk.inj g').2) fun eG g'=>?_;refine ad (Prod.mk.inj g') fun e0 g'=>?_;refine ad (Prod.mk.inj g') fun e2 e1=>?_;simp only [LS,i8,oU,decide_eq_true_eq] at g;refine ad g fun z0 g6=>?_;clear g;refine ad z0 fun eA g5=>?_;clear z0;refine ad eA fun jw g4=>?_;clear eA;obtain ⟨⟨g1,g2⟩,g3⟩:=jw;refine ⟨fun i id e=>?_,fun c k nm e hm=>?_,zZ (B:=lC w x s h1 h2 h3 h4) (rK e0 (a:="__init__") (.tail _ (.head _))) Pu (g2 ("__init__",3) (.tail _ (.head _))),?_,fun c=>zZ (B:=lC w x s h1 h2 h3 h4) (rK e2 (a:="__init__") (.tail _ (.tail _ (.tail _ (.tail _ (.tail _ (.head _))))))) Ps (g3 ("__init__",1) (.tail _ (.tail _ (.tail _ (.tail _ (.tail _ (.head _)))))))⟩
 ·have kK:i < lK.length:=(cF.mp e).1;have WC:lK.length=ou.length:=rfl;have jg:lK.length=pL.length:=rfl;have hy:=p_ (WC ▸ kK);have m9:=p_ (jg ▸ kK);refine ay (X4 (B:=lC w x s h1 h2 h3 h4) rfl (rK eG (jP e)) (rK Pv (yQ e hy)) (g1 _ (yQ e m9))) fun a ga=>?_;exact ⟨_,_,a,hy,m9,ga⟩
 ·refine J (zZ (B:=lC w x s h1 h2 h3 h4) (rK e0 (a:="fits") (.head _)) Pq (g2 ("fits",3) (.head _))) fun a u v=>?_
  match c,hm with
  | 0,hm=>
   obtain rfl:=Kn (by decide) hm
   (injection e with e1;subst e1)
   exact ⟨by decide +kernel,(yR,yS),3,a,rfl,rfl,u,v⟩
  | 1,hm=>
   obtain rfl:=Kn (by decide) hm
   (injection e with e1;subst e1)
   exact ⟨by decide +kernel,(yR,yS),3,a,rfl,rfl,⟨g4.trans u.g,u.t,u.k⟩,v⟩
  | c + 2,hm=>
   have key:∀ y np,mh[k]?=some y→pn[k]?=some np→(nm,y)∈(qR.zip mh).drop 1→(nm,np)∈vo.zip [3,3,3,4,2,1]→nm∈vo→∃ z np a,mh[k]?=some z∧pn[k]?=some np∧rT (lC w x s h1 h2 h3 h4) (iU s.heap 2) nm a∧FnAt s.heap a z.1 z.2 np:=fun y np q1 q2 m1 m3 m2=>
    have ⟨a,u,v⟩:=zZ (B:=lC w x s h1 h2 h3 h4) (rK e2 m2) (rK Pr m1) (g3 _ m3)
    ⟨y,np,a,q1,q2,u,v⟩
   have:1≤k∧k≤5:=have q:=nM.mp (show (p7 1 k&&p7 k 5)=true from hm);⟨p6 q.1,p6 q.2⟩
   match k,this,e,key with
   | 1,_,e,key=>(injection e with e1;subst e1);exact ⟨by decide +kernel,key _ _ rfl rfl (.head _) (.head _) (.head _)⟩
   | 2,_,e,key=>(injection e with e1;subst e1);exact ⟨by decide +kernel,key _ _ rfl rfl (.tail _ (.head _)) (.tail _ (.head _)) (.tail _ (.head _))⟩
   | 3,_,e,key=>(injection e with e1;subst e1);exact ⟨by decide +kernel,key _ _ rfl rfl (.tail _ (.tail _ (.head _))) (.tail _ (.tail _ (.head _))) (.tail _ (.tail _ (.head _)))⟩
   | 4,_,e,key=>(injection e with e1;subst e1);exact ⟨by decide +kernel,key _ _ rfl rfl (.tail _ (.tail _ (.tail _ (.head _)))) (.tail _ (.tail _ (.tail _ (.head _)))) (.tail _ (.tail _ (.tail _ (.head _))))⟩
   | 5,_,e,key=>(injection e with e1;subst e1);exact ⟨by decide +kernel,key _ _ rfl rfl (.tail _ (.tail _ (.tail _ (.tail _ (.head _))))) (.tail _ (.tail _ (.tail _ (.tail _ (.head _))))) (.tail _ (.tail _ (.tail _ (.tail _ (.head _)))))⟩
 ·(refine ci (IU (B:=lC w x s h1 h2 h3 h4) e1 Pt g5) fun a u ha z4=>?_;(refine eB z4 fun fd b v=>?_;clear z4))
  refine J (anyOf g6) fun fd' hf q=>?_;refine J (bO hf) fun a' DE hf=>?_;obtain rfl:=Option.some.inj (ha.symm.trans DE);obtain rfl:=Option.some.inj (v.fa.symm.trans hf);refine J (anyOf (aR q)) fun ar wf q'=>?_;exact ⟨a,u,⟨fd,b,ar,v,wf,aD (aL q'),aD (aR q')⟩,fun fd2 e2=>Option.some.inj (v.fa.symm.trans e2) ▸ PX (B:=lC w x s h1 h2 h3 h4) (aL q)⟩
end
end
section
open PySem PySem.W PyProof.Rows
def aaz{v:oW}{a:NY}(h:LM v=some a):v=.cls a:=by induction v<;>(first|(injection h;done)|(injection h with e1;subst e1));rfl
def O2{v:Value}{a:String}(h:Gq v=some a):v=.type a:=by induction v using xc<;>(first|(injection h;done)|(injection h with e1;subst e1));rfl
def sC{l:List Qo}{x:Qo×List Qo}(h:qk l=some x):l=x.1::x.2:=by induction l using bj<;>(first|(injection h;done)|(injection h with e1;subst e1));rfl
def Qx{l:List Qo}{k:Qo×Qo×Qo×Qo×Qo×Qo}(h:Hg l=some k):l=[k.1,k.2.1,k.2.2.1,k.2.2.2.1,k.2.2.2.2.1,k.2.2.2.2.2]:=by refine J (bO h) fun a h1 h=>?_;refine J (bO h) fun b h2 h=>?_;refine J (bO h) fun c h3 h=>?_;refine J (bO h) fun d h4 h=>?_;refine J (bO h) fun e h5 h=>?_;refine J (bO h) fun f h6 h=>?_;refine ad (xf.mp h) fun q e=>?_;rw [sC h1,sC h2,sC h3,sC h4,sC h5,sC h6,uv.mp q,←Option.some.inj e]
def Lh{N:Addr}{bm:Qa}(x:excAt h C bm=some N):(∃ e:EX,h.get? C=some (e.ob C bm)∧e.N=N)∧h.isNs N=true:=by refine J (bO x) fun z0 ho x=>?_;obtain ⟨c,d,dt,sl⟩:=z0;refine J (bO x) fun t ht x=>?_;refine J (bO x) fun cd hc x=>?_;refine J (bO x) fun k hk x=>?_;refine ad (xf.mp x) fun q x=>?_;replace x:=Option.some.inj x;have h1:=O2 ht;have h2:=aaz hc;have h3:=Qx hk;rw [aD (aR (aL q))] at h3;refine ⟨⟨⟨cd.name,cd.qualname,cd.ns,cd.bases,cd.slotNames,cd.subclasses,cd.abstract,cd.collection,d,k.1,k.2.1,k.2.2.1,k.2.2.2.1,k.2.2.2.2.2⟩,?_,x⟩,x ▸ aR q⟩;rw [ho,show c=_ from h1,show dt=_ from h2,show sl=_ from Oa.mp (h3.trans (ad5 ..).symm),eq_of_beq (aL (aL (aL (aL (aL q)))))];have e1:=aD (aR (aL (aL (aL (aL q)))));have e2:=aR (aL (aL (aL q)));have e3:=aN (aR (aL (aL q)));obtain ⟨a1,a2,a3,a4,a5,a6,a7,a8,a9,b1,b2⟩:=cd;subst e1;subst e2;subst e3;rfl
def Vb{f:Addr}(hl:h.NoLimit)(e:Jx h f=true):∃ fd,j6 h f=some fd∧((∃ b,fd.body=.stmts b∧Jv b=b)→oM h f fd):=by refine J (anyOf e) fun o ho e=>?_;refine J (anyOf (aR e)) fun fd hf q=>?_;refine ⟨fd,by unfold j6;rw [ho];exact hf,fun ⟨b,hb,hx⟩=>?_⟩;simp only [i8,decide_eq_true_eq,N8,uv,xg] at q;refine ad q fun z0 ZL=>?_;clear q;refine ad z0 fun eA ZM=>?_;clear z0;refine ad eA fun jw ZN=>?_;clear eA;obtain ⟨⟨⟨⟨⟨⟨⟨e1,e2⟩,e3⟩,e4⟩,e6⟩,e7⟩,e8⟩,e9⟩:=jw;refine J (anyOf ZL) fun us pK hz=>?_;refine J (bO pK) fun o' pK hs=>?_;refine J (bO pK) fun T hT pK=>?_;refine ay (Ho hs) fun n hn=>?_;refine ay (Array.size_eq_one_iff.mp (eq_of_beq hz)) fun v hv=>?_;exact ⟨⟨o,ho,aD (aL e),KI hf⟩,e1,e2,e3,e4,⟨_,_,_,_,hb.trans (congrArg _ hx.symm)⟩,LK e6,hl,⟨e7,e8,e9,ZN,ZM⟩,⟨T,o',v,n,qA hT,pK,hv ▸ hn⟩⟩
def aa9{x:AS}{h1 h2 h3 h4}(g:LU s.heap=true)(gi:C0 s.heap=(defOf "__init__" (iT "GitError" gH)).map fun d=>.stmts d.2.1):nz (lC w x s h1 h2 h3 h4):=by
 have g1:=aD (aL g);refine J (anyOf (aR g)) fun nC eC g=>?_;refine J (anyOf g) fun nG eG g=>?_;refine J (anyOf (aR g)) fun f hf c6=>?_;refine J (bO hf) fun v hv tG=>?_;refine ad (Lh eC) fun z0 iC=>?_;refine J z0 fun xC hC qC=>?_;clear z0;refine ad (Lh eG) fun z0 iG=>?_;refine J z0 fun xG hG qG=>?_;clear z0;refine J (Vb h3 c6) fun fd tF I=>?_;unfold C0 at gi;rw [eG,xh,hf,xh,tF] at gi;refine J (dG.mp gi.symm) fun d hd gi=>?_;have te:=Px;rw [hd] at te;have I:=I ⟨d.2.1,gi.symm,Option.some.inj te⟩;have X:kY s.heap (AA s.heap) (zJ s.heap) (s.heap.nsMap nC) (s.heap.nsMap nG):=⟨⟨xC,hC,qC.symm ▸ .of_isNs iC⟩,⟨xG,hG,qG.symm ▸ .of_isNs iG⟩⟩;refine ⟨⟨xC,_,hC,by simp⟩,g1,fun {A s' σ H v u} aw st r=>aZ ?_⟩;have oi:A.depth + 9 < rX:=by have:=aw.dp;rw [show rX=1000 from rfl];exact iI (bc (AV this)) rfl
 exact TU (X.keeps st.keep) (aD (aL (aL (aL (aL (aL g)))))) (aD (aR (aL (aL g)))) (aD (aR (aL (aL (aL (aL g)))))) (aD (aR (aL g))) (aD (aR (aL (aL (aL g))))) (hv.trans (congrArg _ (qA tG))) (I.keeps st.keep) oi fun y t D h' gT e1 e2 e3=>⟨y,some D,t,h',gT,rfl,rfl,e1,e2,e3⟩
end
section
def e_{f:Nat}{x:List ub×PS}(h1:ou[f]?=some x)(h2:pL[f]?=some np):(ai fu (j + 1)).call f vs H=gn (ai fu j) fu x.2 np x.1.length vs H:=by show (match ou[f]?,pL[f]? with|some x,some np=>gn (ai fu j) fu x.2 np x.1.length vs H|_,_=>.no)=_;rw [h1,h2]
def y8(O:dL)(c:PE):Sl→Hp→R Bool:=fun sl H=>bK O c sl H
def dJ(O:dL)(fu:Nat)(b:PS):Sl→Hp→R (Fl×Sl):=fun sl H=>aA O fu b sl H
def m6(i:Nat):PV→Sl→Option Sl:=fun v sl=>some (cX sl i v)
def iD(O:dL)(c:bg):Sl→Hp→R Bool:=fun sl H=>fK O c sl H
def gM(O:dL)(e:PE):Sl→Hp→R PV:=fun sl H=>ao O e sl H
section
variable {a b c i lo:PE} {l:bg} {u x y:PV} {t:Bool} {p q:PS} {m:Bool} {k:Nat}
def bw(h:n≤16777216):n≤aC:=h
def C1{c:Prop}[Decidable c]{x z y:α}(h:c)(e:x=y):(if c then x else z)=y:=(if_pos h).trans e
def JG{c:Prop}[Decidable c]{x z y:α}(h:¬ c)(e:z=y):(if c then x else z)=y:=(if_neg h).trans e
def rB{x:R α}{k:α→Hp→R β}{a:α}{z:R β}(h:x=.ok a H)(h2:k a H=z):x.bind k=z:=h ▸ h2
def rO{o:Option α}{a:α}(h:o=some a):R.of o H=.ok a H:=h ▸ rfl
def rM{o:Option α}{f:α→β}{a:α}(h:o=some a):o.map f=some (f a):=h ▸ rfl
def aO:ao O (.cst v) sl H=.ok v H:=rfl
def am(h:dD sl k=some v):ao O (.var k) sl H=.ok v H:=rO h
def bk{o:pY}(ha:ao O a sl H=.ok u H₁)(hb:ao O b sl H₁=.ok v ag)(h:binop o m u v ag=.ok x bH):ao O (.bin o m a b) sl H=.ok x bH:=rB ha (rB hb h)
def yv{o:jp}(ha:ao O a sl H=.ok u H₁)(hb:ao O b sl H₁=.ok v ag)(h:bU o u v ag=some t):ao O (.cmp o a b) sl H=.ok (.bool t) ag:=rB ha (rB hb (rO (rM h)))
def sW(hc:bK O c sl H=.ok true H₁)(h:ao O a sl H₁=.ok v ag):ao O (.ite c a b) sl H=.ok v ag:=rB hc h
def yt(hc:bK O c sl H=.ok false H₁)(h:ao O b sl H₁=.ok v ag):ao O (.ite c a b) sl H=.ok v ag:=rB hc h
def cB(h:bB O l sl H=.ok vs H₁):ao O (.tup l) sl H=.ok (.tup vs) H₁:=rB h rfl
def fJ(h:bB O l sl H=.ok vs H₁)(hl:vs.length≤aC):ao O (.list false l) sl H=.ok (.fl vs) H₁:=rB h (if_pos hl)
def o8(h:bB O l sl H=.ok vs H₁)(hl:vs.length≤aC):ao O (.list true l) sl H=.ok (.loc H₁.length) (H₁++[.list vs]):=rB h (if_pos hl)
def B8(h:bB O l sl H=.ok vs H₁)(hl:vs.length=ks.length):ao O (.dict false ks l) sl H=.ok (.fd (ks.zip vs)) H₁:=rB h (if_pos hl)
def qD(h:bB O l sl H=.ok vs H₁)(hl:vs.length=ks.length):ao O (.dict true ks l) sl H=.ok (.loc H₁.length) (H₁++[.dict (ks.zip vs)]):=rB h (if_pos hl)
def sX(ha:ao O a sl H=.ok u H₁)(hi:ao O i sl H₁=.ok v ag)(h:kM u v ag=some x):ao O (.idx a i) sl H=.ok x ag:=rB ha (rB hi (rO h))
def nX{w:PV}(ha:ao O a sl H=.ok u H₁)(hl:ao O lo sl H₁=.ok v ag)(hh:ao O hi sl ag=.ok w bH)(h:gU u v w bH=some x):ao O (.slice a lo hi) sl H=.ok x bH:=rB ha (rB hl (rB hh (rO h)))
def o9{nm:Qn}(ha:ao O a sl H=.ok u H₁)(h:getattr u nm H₁=some x):ao O (.attr a nm) sl H=.ok x H₁:=rB ha (rO h)
def ip(hs:bB O l sl H=.ok vs H₁)(h:runC cm (O.call k) vs H₁=.ok v ag):ao O (.call cm k l) sl H=.ok v ag:=rB hs h
def bL(hs:bB O l sl H=.ok vs H₁)(h:O.call k vs H₁=.ok v ag):ao O (.call .aG k l) sl H=.ok v ag:=rB hs h
def B7(hs:bB O l sl H=.ok vs H₁)(h:runC cm (mf O k) vs H₁=.ok v ag):ao O (.new cm k l) sl H=.ok v ag:=rB hs h
def b4(ha:ao O a sl H=.ok u H₁)(hk:jZ bm u H₁=true)(hs:bB O l sl H₁=.ok vs ag)(h:dv bm u vs ag=.ok v bH):ao O (.gq bm a l) sl H=.ok v bH:=
 rB ha (by show (match jZ bm u H₁ with|true=>_|false=>_)=_;rw [hk];exact rB hs h)
def jD{bi:BI}(hs:bB O l sl H=.ok vs H₁)(h:nr bi vs H₁=.ok v ag):ao O (.bi bi l) sl H=.ok v ag:=rB hs h
def qB{c:Nat}{fl:Qm}(ha:ao O a sl H=.ok u H₁)(hi:hU u H₁=some (c,fl))(hk:((look (mn k) fl).isSome||!pG c k)=false)(hs:bB O l sl H₁=.ok vs ag)(h:runC cm (O.own c k) (u::vs) ag=.ok v bH):ao O (.own cm k a l) sl H=.ok v bH:=
 rB ha (by show (match hU u H₁ with|some cl=>_|none=>_)=_;rw [hi];exact (if_neg (by rw [hk];exact cN)).trans (rB hs h))
def ly{us:Qp}(hi:dB O it sl H=.ok (.fix xs) H₁)(hl:xs.length≤aC)(h:fm (fun sl H=>fK O bf sl H) (fun sl H=>ao O e sl H) sl xs H₁=.ok us ag)(h2:us.length≤aC):ao O (.comp false e it bf) sl H=.ok (.fl us) ag:=
 rB hi ((if_pos hl).trans (rB (by rw [h];rfl) (if_pos h2)))
def R1{us:Qp}(hi:dB O it sl H=.ok (.fix xs) H₁)(hl:xs.length≤aC)(h:fm (fun sl H=>fK O bf sl H) (fun sl H=>ao O e sl H) sl xs H₁=.ok us ag)(h2:us.length≤aC):ao O (.comp true e it bf) sl H=.ok (.loc ag.length) (ag++[.list us]):=
 rB hi ((if_pos hl).trans (rB (by rw [h];rfl) (if_pos h2)))
def HN(ha:ao O a sl H=.ok u H₁)(hl:bV u H₁=some xs)(h2:xs.reverse.length≤aC):ao O (.rev false a) sl H=.ok (.fl xs.reverse) H₁:=
 rB ha (by show (match bV u H₁ with|some l=>_|none=>_)=_;rw [hl];exact if_pos h2)
def HO{n:Int}(ha:ao O a sl H=.ok (.int n) H₁):ao O (.neg a) sl H=.ok (.int (-n)) H₁:=rB ha rfl
def fW{it:It}(ha:ao O a sl H=.ok u H₁)(h:og u H₁=some it):dB O (.ex a) sl H=.ok it H₁:=rB ha (rO h)
def tt{it:It}(ha:ao O a sl H=.ok u H₁)(h:ma u=some it):dB O (.kt a) sl H=.ok it H₁:=rB ha (rO h)
def Vl{xs:Qm}(ha:ao O a sl H=.ok (.fd xs) H₁):dB O (.vals a) sl H=.ok (.fix (xs.map (·.2))) H₁:=rB ha rfl
def Vm(ha:ao O a sl H=.ok (.fl xs) H₁):dB O (.enum a) sl H=.ok (.fix (xs.mapIdx fun i v=>.tup [.int i,v])) H₁:=rB ha rfl
def ak:bB O .nil sl H=.ok [] H:=rfl
def aX(ha:ao O a sl H=.ok v H₁)(hs:bB O l sl H₁=.ok vs ag):bB O (.cons a l) sl H=.ok (v::vs) ag:=rB ha (rB hs rfl)
def bX{o:jp}(ha:ao O a sl H=.ok u H₁)(hb:ao O b sl H₁=.ok v ag)(h:bU o u v ag=some t):bK O (.cmp o a b) sl H=.ok t ag:=rB ha (rB hb (rO h))
def aF(h:dD sl k=some v)(hs:bB O l sl H=.ok vs ag):bB O (.cons (.var k) l) sl H=.ok (v::vs) ag:=aX (am h) hs
def be(hs:bB O l sl H=.ok vs ag):bB O (.cons (.cst v) l) sl H=.ok (v::vs) ag:=aX aO hs
def bD{o:jp}(ha:dD sl k=some u)(h:bU o u v H=some t):bK O (.cmp o (.var k) (.cst v)) sl H=.ok t H:=bX (am ha) aO h
def cI(ha:dD sl k=some u)(h:kM u v H=some x):ao O (.idx (.var k) (.cst v)) sl H=.ok x H:=sX (am ha) aO h
def lY(ha:bK O a sl H=.ok t H₁):bK O (.me a) sl H=.ok (!t) H₁:=rB ha rfl
def sD(h:dD sl k=some (.bool t)):bK O (.var k) sl H=.ok t H:=rO (by rw [h];rfl)
def ql(h:ao O (.call cm k l) sl H=.ok (.bool t) H₁):bK O (.call cm k l) sl H=.ok t H₁:=rB h rfl
def qm{bi:BI}(h:ao O (.bi bi l) sl H=.ok (.bool t) H₁):bK O (.bi bi l) sl H=.ok t H₁:=rB h rfl
def nQ(h:ao O (.gq bm a l) sl H=.ok (.bool t) H₁):bK O (.gq bm a l) sl H=.ok t H₁:=rB h rfl
def O8(h:ao O (.own cm k a l) sl H=.ok (.bool t) H₁):bK O (.own cm k a l) sl H=.ok t H₁:=rB h rfl
def uP(h:ao O (.idx a i) sl H=.ok (.bool t) H₁):bK O (.idx a i) sl H=.ok t H₁:=rB h rfl
def fG(h:fK O l sl H=.ok t H₁):bK O (.iF l) sl H=.ok t H₁:=h
def fF(h:mZ O l sl H=.ok t H₁):bK O (.jW l) sl H=.ok t H₁:=h
def qo(ha:bK O a sl H=.ok true H₁)(h:fK O l sl H₁=.ok t ag):fK O (.cons a l) sl H=.ok t ag:=rB ha h
def mU(ha:bK O a sl H=.ok false H₁):fK O (.cons a l) sl H=.ok false H₁:=rB ha rfl
def o1(ha:bK O a sl H=.ok false H₁)(h:mZ O l sl H₁=.ok t ag):mZ O (.cons a l) sl H=.ok t ag:=rB ha h
def Gy(ha:bK O a sl H=.ok true H₁):mZ O (.cons a l) sl H=.ok true H₁:=rB ha rfl
variable {z:R (Fl×Sl)} {f:Fl}
def aW:aA O fu .nil sl H=.ok (.next,sl) H:=rfl
def SD:aA O fu .cont sl H=.ok (.cont,sl) H:=rfl
def bQ(he:ao O e sl H=.ok v H₁)(h:aA O fu r (cX sl k v) H₁=z):aA O fu (.asg k e r) sl H=z:=rB he h
def jE(he:ao O e sl H=.ok v H₁)(hb:jK is v sl=some aE)(h:aA O fu r aE H₁=z):aA O fu (.dr is e r) sl H=z:=
 rB he (by show (match jK is v sl with|some aE=>_|none=>_)=_;rw [hb];exact h)
def H8{nm:Qn}(he:ao O e sl H=.ok v H₁)(ha:ao O a sl H₁=.ok u ag)(hs:jS u nm v ag=.ok () bH)(h:aA O fu r sl bH=z):aA O fu (.jA a nm e r) sl H=z:=rB he (rB ha (rB hs h))
def qK(he:ao O e sl H=.ok v H₁)(ha:ao O a sl H₁=.ok u ag)(hi:ao O i sl ag=.ok x bH)(hs:uT u x v bH=.ok () ez)(h:aA O fu r sl ez=z):aA O fu (.gF a i e r) sl H=z:=rB he (rB ha (rB hi (rB hs h)))
def kC(he:ao O e sl H=.ok .none H₁)(h:aA O fu r sl H₁=z):aA O fu (.expr e r) sl H=z:=rB he h
def b9(he:ao O e sl H=.ok v H₁):aA O fu (.ret e) sl H=.ok (.ret v,sl) H₁:=rB he rfl
def kz(hc:bK O c sl H=.ok true H₁)(ht:aA O fu p sl H₁=.ok (.next,aE) ag)(h:aA O fu r aE ag=z):aA O fu (.ifs c p q r) sl H=z:=rB hc (rB ht h)
def b5(hc:bK O c sl H=.ok false H₁)(ht:aA O fu q sl H₁=.ok (.next,aE) ag)(h:aA O fu r aE ag=z):aA O fu (.ifs c p q r) sl H=z:=rB hc (rB ht h)
def lA(hc:bK O c sl H=.ok true H₁)(ht:aA O fu p sl H₁=.ok (.ret v,aE) ag):aA O fu (.ifs c p q r) sl H=.ok (.ret v,aE) ag:=rB hc (rB ht rfl)
def SB(hc:bK O c sl H=.ok true H₁)(ht:aA O fu p sl H₁=.ok (.cont,aE) ag):aA O fu (.ifs c p q r) sl H=.ok (.cont,aE) ag:=rB hc (rB ht rfl)
def lB{i:It}(hi:dB O it sl H=.ok i H₁)(hl:cQ (fun sl H=>aA O fu p sl H) (fun v sl=>some (cX sl k v)) i fu 0 sl H₁=.ok (.next,aE) ag)(h:aA O fu r aE ag=z):aA O fu (.fP k it p r) sl H=z:=rB hi (rB hl h)
def SC{i:It}(hi:dB O it sl H=.ok i H₁)(hl:cQ (fun sl H=>aA O fu p sl H) (fun v sl=>some (cX sl k v)) i fu 0 sl H₁=.ok (.ret v,aE) ag):aA O fu (.fP k it p r) sl H=.ok (.ret v,aE) ag:=rB hi (rB hl rfl)
def yz{i:It}(hi:dB O it sl H=.ok i H₁)(hl:cV (cQ (fun sl H=>aA O fu p sl H) (jK is) i fu 0 sl H₁)=.ok (.next,aE) ag)(h:aA O fu r aE ag=z):aA O fu (.mA is it p r) sl H=z:=rB hi (rB hl h)
def H7(hl:cV (lD (fun sl H=>bK O c sl H) (fun sl H=>aA O fu p sl H) fu sl H)=.ok (.next,aE) H₁)(h:aA O fu r aE H₁=z):aA O fu (.mR c p r) sl H=z:=rB hl h
def jl(h:aA O fu p (lj vs N) H=.ok (.ret v,aE) H₁)(hl:vs.length=np):gn O fu p np N vs H=.ok v H₁:=(if_pos hl).trans (rB h rfl)
def aa'(h:aA O fu p (lj vs N) H=.ok (.next,aE) H₁)(hl:vs.length=np):gn O fu p np N vs H=.ok .none H₁:=(if_pos hl).trans (rB h rfl)
end
def j_{p:PS}(h:aA O fu p (lj vs N) H=.ok (.ret v,aE) H₁)(hl:vs.length=np)(hv:v=v')(hH:H₁=H'):gn O fu p np N vs H=.ok v' H':=hv ▸ hH ▸ jl h hl
section
variable {a c:PE} {l:bg} {u:PV} {t:Bool} {p q:PS} {k:Nat}
def qE{x:R α}{k:α→Hp→R β}(h:x=.bad H):x.bind k=.bad H:=h ▸ rfl
def Bk{c:Nat}{fl:Qm}(ha:ao O a sl H=.ok u H₁)(hi:hU u H₁=some (c,fl))(hk:((look (mn k) fl).isSome||!pG c k)=false)(hs:bB O l sl H₁=.ok vs ag)(h:runC cm (O.own c k) (u::vs) ag=.bad bH):ao O (.own cm k a l) sl H=.bad bH:=
 rB ha (by show (match hU u H₁ with|some cl=>_|none=>_)=_;rw [hi];exact (if_neg (by rw [hk];exact cN)).trans (rB hs h))
def F4(ha:ao O a sl H=.bad H₁):bB O (.cons a l) sl H=.bad H₁:=qE ha
def F3(ha:ao O a sl H=.ok u H₁)(hk:jZ bm u H₁=true)(hs:bB O l sl H₁=.bad ag):ao O (.gq bm a l) sl H=.bad ag:=
 rB ha (by show (match jZ bm u H₁ with|true=>_|false=>_)=_;rw [hk];exact qE hs)
def F5(he:ao O e sl H=.bad H₁):aA O fu (.expr e r) sl H=.bad H₁:=qE he
def Oj(hc:bK O c sl H=.ok true H₁)(ht:aA O fu p sl H₁=.bad ag):aA O fu (.ifs c p q r) sl H=.bad ag:=rB hc (qE ht)
def Ol(hc:bK O c sl H=.ok false H₁)(ht:aA O fu q sl H₁=.bad ag):aA O fu (.ifs c p q r) sl H=.bad ag:=rB hc (qE ht)
def Om{i:It}(hi:dB O it sl H=.ok i H₁)(hl:cQ (fun sl H=>aA O fu p sl H) (fun v sl=>some (cX sl k v)) i fu 0 sl H₁=.bad ag):aA O fu (.fP k it p r) sl H=.bad ag:=rB hi (qE hl)
set_option backward.match.sparseCases true in
def Sz{b:Bool}{i:Nat}{z:R (Fl×Sl)}(he:ao O e sl H=.bad H₁)(h:aA O fu r (cX sl i (.bool b)) H₁=z):aA O fu (.nR e i b r) sl H=z:=by show (match ao O e sl H with|.no=>R.no|.ok .none H₁=>aA O fu r sl H₁|.ok _ _=>.no|.bad H₁=>aA O fu r (cX sl i (.bool b)) H₁)=z;rw [he];exact h
set_option backward.match.sparseCases true in
def SA{b:Bool}{i:Nat}{z:R (Fl×Sl)}(he:ao O e sl H=.ok .none H₁)(h:aA O fu r sl H₁=z):aA O fu (.nR e i b r) sl H=z:=by show (match ao O e sl H with|.no=>R.no|.ok .none H₁=>aA O fu r sl H₁|.ok _ _=>.no|.bad H₁=>aA O fu r (cX sl i (.bool b)) H₁)=z;rw [he];exact h
def x_run(h:aA O fu p (lj vs N) H=.bad H₁)(hl:vs.length=np):gn O fu p np N vs H=.bad H₁:=(if_pos hl).trans (qE h)
end
section
variable {a c:PE} {l:bg} {u:PV} {t t':Bool} {p:PS}
def anyB(ha:bK O a sl H=.ok t H)(hs:mZ O l sl H=.ok t' H):mZ O (.cons a l) sl H=.ok (t||t') H:=rB ha (by induction t with|true=>rfl|false=>exact hs)
def gB(ha:bK O a sl H=.ok t H₁):mZ O (.cons a .nil) sl H=.ok t H₁:=rB ha (by induction t<;>rfl)
def allB(ha:bK O a sl H=.ok t H)(hs:fK O l sl H=.ok t' H):fK O (.cons a l) sl H=.ok (t&&t') H:=rB ha (by induction t with|true=>exact hs|false=>rfl)
def all1(ha:bK O a sl H=.ok t H₁):fK O (.cons a .nil) sl H=.ok t H₁:=rB ha (by induction t<;>rfl)
def yu{a b:PE}{w:PV}(hc:bK O c sl H=.ok t H)(ha:ao O a sl H=.ok u H)(hb:ao O b sl H=.ok v H)(hw:cond t u v=w):ao O (.ite c a b) sl H=.ok w H:=rB hc (by subst hw;induction t with|true=>exact ha|false=>exact hb)
def qL(hc:bK O c sl H=.ok t H₁)(hT:aA O fu p sl H₁=.ok (.ret v,jU) ag)(hF:aA O fu r sl H₁=.ok (.ret u,mX) ag):aA O fu (.ifs c p .nil r) sl H=.ok (.ret (cond t v u),cond t jU mX) ag:=
 rB hc (by induction t with|true=>exact rB hT rfl|false=>exact hF)
end
def yH{D:Qm}{k:Qn}(h:H[n]?=some (.dict D))(hl:D.length < aC):uT (.loc n) (.str k) v H=.ok () (H.set n (.dict (put k v D))):=by show (match H[n]? with|some (.dict d)=>if d.length < aC then R.ok () (H.set n (.dict (put k v d))) else .no|_=>.no)=_;rw [h];exact if_pos hl
def Tb{m:Nat}{l:Qp}(h:H[n]?=some (.list l))(h2:bV (.loc m) H=some xs)(V:m≠n)(hl:l.length + xs.length≤aC):dv .extend (.loc n) [.loc m] H=.ok .none (H.set n (.list (l++xs))):=by show (match H[n]? with|some (.list l)=>if some m=some n then R.no else (match bV (.loc m) H with|some xs=>if l.length + xs.length≤aC then R.ok PV.none (H.set n (.list (l++xs))) else R.no|.none=>R.no)|_=>R.no)=_;rw [h,h2];exact (if_neg fun q=>V (by injection q)).trans (if_pos hl)
def Cp{l:Qp}(h:H[n]?=some (.list l))(hl:l.length + xs.length≤aC):dv .extend (.loc n) [.fl xs] H=.ok .none (H.set n (.list (l++xs))):=by show (match H[n]? with|some (.list l)=>if l.length + xs.length≤aC then R.ok PV.none (H.set n (.list (l++xs))) else .no|_=>.no)=_;rw [h];exact if_pos hl
def Il{c:Nat}{d:Qm}{k:Qn}(h:H[n]?=some (.inst c d))(hl:d.length < aC):jS (.loc n) k v H=.ok () (H.set n (.inst c (put k v d))):=by show (match H[n]? with|some (.inst c d)=>if d.length < aC then R.ok () (H.set n (.inst c (put k v d))) else .no|_=>.no)=_;rw [h];exact if_pos hl
def RZ{a:PE}{u:PV}(ha:ao O a sl H=.ok u H₁)(hl:bV u H₁=some xs)(h2:xs.reverse.length≤aC):ao O (.rev true a) sl H=.ok (.loc H₁.length) (H₁++[.list xs.reverse]):=
 rB ha (by show (match bV u H₁ with|some l=>_|none=>_)=_;rw [hl];exact if_pos h2)
def ri{c:Nat}{l:Qm}(h:H[n]?=some (.inst c l)):hU (.loc n) H=some (c,l):=by show (match H[n]? with|some (.inst c l)=>some (c,l)|_=>none)=_;rw [h]
def Kr{c:Nat}{l:Qm}{k:Qn}(h:H[n]?=some (.inst c l))(hk:look k l=some v):getattr (.loc n) k H=some v:=by show (hU (.loc n) H).bind _=_;rw [ri h];exact hk
def ol{l:Qp}(h:H[n]?=some (.list l)):jZ .append (.loc n) H=true:=by show (match H[n]? with|some (.list _)=>true|_=>false)=true;rw [h]
def zC{l:Qp}(h:H[n]?=some (.list l)):jZ .extend (.loc n) H=true:=ol h
def Xo{l:Qp}(h:H[n]?=some (.list l)):og (.loc n) H=some (.dyn n):=by show (match H[n]? with|some (.list _)=>some (It.dyn n)|_=>none)=_;rw [h]
def DF{l:Qp}(h:H[n]?=some (.list l)):bV (.loc n) H=some l:=by show (match H[n]? with|some (.list l)=>some l|_=>none)=_;rw [h]
def Xp{l:Qm}(h:H[n]?=some (.dict l)):dZ (.loc n) H=some l:=by show (match H[n]? with|some (.dict l)=>some l|_=>none)=_;rw [h]
def Gr:ao O (.tup (.cons (.list true .nil) (.cons (.list true .nil) .nil))) sl H=.ok (.tup [.loc H.length,.loc (H.length + 1)]) (H++[.list [],.list []]):=by have h:=cB (O:=O) (sl:=sl) (aX (o8 (H₁:=H) ak (cE _)) (aX (o8 ak (cE _)) ak));rw [bP,dz] at h;exact h
def Ex{p:PS}(h:aA O fu p (lj vs N) H=.ok (.next,aE) H₁)(hl:vs.length=np)(hH:H₁=H'):gn O fu p np N vs H=.ok .none H':=hH ▸ aa' h hl
def jc{run:Qp→Hp→R PV}(hp:dU vs=true)(h:run vs []=.ok v H')(hf:cD H' 4 v=some v'):runC .pure run vs H=.ok v' H:=
 (if_pos hp).trans (by rw [h];exact rO hf)
def Im{run:Qp→Hp→R PV}{us:Qp}(hp:eR (vs.map (cD H 4))=some us)(h:run us []=.ok v H')(hf:ot H' v=some v'):runC .jI run vs H=.ok v' H:=by show (match eR (vs.map (cD H 4)) with|some us=>_|none=>_)=_;rw [hp];show back _ _ _=_;rw [h];exact rO hf
def jY{m:Bool}{x y:Qy}(h:x.length + y.length≤aC):binop .add m (.bytes x) (.bytes y) H=.ok (.bytes (x++y)) H:=if_pos h
def Cn{l:Qp}(hb:cP v=none)(ha:bV v H=some l)(h:l.length≤aC):nr .len [v] H=.ok (.int l.length) H:=by show ti v H=_;unfold ti;rw [hb,ha];exact if_pos h
def Co{l:Qy}(h:l.length≤aC):nr .len [.bytes l] H=.ok (.int l.length) H:=if_pos h
def tU{i j:Int}(h:i=j):bU .eq (.int i) (.int j) H=some true:=congrArg some (by rw [h];exact beq_self_eq_true j)
def tT{i j:Int}(h:i≠j):bU .eq (.int i) (.int j) H=some false:=congrArg some (beq_eq_false_iff_ne.mpr h)
def LZ{u:PV}{l:Qp}(h:bV u H=some l)(hb:cP u=none)(hd:dZ u H=none)(he:l.isEmpty=false):bU .ne u (.fl []) H=some true:=by show (eqv u (.fl []) H).map _=_;unfold eqv;rw [hb,hd,h];show some (!l.isEmpty)=_;rw [he];rfl
def Cm{l:Qp}(h:H[n]?=some (.list (l++[v])))(hl:l.length < aC):dv .pop (.loc n) [] H=.ok v (H.set n (.list l)):=by show u9 n H=_;unfold u9;rw [h];simp only [List.getLast?_concat,List.dropLast_concat,bP,aek];exact if_pos hl
def tb{l:Qp}(h:H[n]?=some (.list l))(hl:l.length < aC):dv .append (.loc n) [v] H=.ok .none (H.set n (.list (l++[v]))):=by show wQ n v H=_;unfold wQ;rw [h];exact if_pos hl
def gY{m:Bool}{i j:Int}:binop .add m (.int i) (.int j) H=.ok (.int (i + j)) H:=rfl
def kD{m:Bool}{i j:Int}(h:small i=true)(h':small j=true):binop .mul m (.int i) (.int j) H=.ok (.int (i * j)) H:=if_pos (by rw [h,h'];rfl)
def jX{m:Bool}{i j:Int}(h:j≠0):binop .mod m (.int i) (.int j) H=.ok (.int (i.fmod j)) H:=if_neg h
def yI{m:Bool}{i j:Int}(h:j≠0)(h':¬ 1073741824≤j.natAbs):binop .fdiv m (.int i) (.int j) H=.ok (.int (i.fdiv j)) H:=if_neg (fun q=>q.elim h h')
def aaP{i j:Int}(h:i≥j):bU .ge (.int i) (.int j) H=some true:=congrArg some (decide_eq_true h)
def aaO{i j:Int}(h:¬ i≥j):bU .ge (.int i) (.int j) H=some false:=congrArg some (decide_eq_false h)
def Ey{i j:Int}(h:i < j):bU .lt (.int i) (.int j) H=some true:=congrArg some (decide_eq_true h)
def Ar{i j:Int}(h:¬ i < j):bU .lt (.int i) (.int j) H=some false:=congrArg some (decide_eq_false h)
end
section
noncomputable abbrev Jj:Qn:=[99,101,108,108,115]
noncomputable abbrev Ji:Qn:=[109,105,120,101,100]
noncomputable abbrev Jh:Qn:=[116,117,114,110]
structure DS where
 cs:List Int
 M:Int
 T:Int
noncomputable def DS.ok(d:DS)(t:Nat):Prop:=0≤d.M∧d.M < 2147483648∧0≤d.T∧d.T≤t∧d.cs.length≤100
def DS.hp(d:DS)(rest:Hp):Hp:=.list (d.cs.map .int)::.dict [(Jj,.loc 0),(Ji,.int d.M),(Jh,.int d.T)]::rest
def zU(a b:Int)(h:0 < b):0≤a.fmod b∧a.fmod b < b:=⟨Int.fmod_nonneg_of_pos a h,Int.fmod_lt_of_pos a h⟩
def yf{i:Int}(h:0≤i)(h2:i < 2 ^ 127):small i=true:=by unfold small;rw [decide_eq_true_eq];lia
def J0(cs:List Int)(c M T:Int)(rest:Hp):DS.hp ⟨cs++[c],M,T⟩ rest=.list (cs.map .int++[.int c])::.dict [(Jj,.loc 0),(Ji,.int M),(Jh,.int T)]::rest:=congrArg (fun l=>PO.list l::_) nI
def nk{d:DS}{rest:Hp}(dk:d.ok t)(ht:t≤100000)(h1:1≤n)(h2:n≤10000):
  ∃ (i:Nat) (d':DS),(ai fu (j + 1)).call 19 [.loc 1,.int n] (d.hp rest)=.ok (.int i) (d'.hp rest)∧i < n∧d'.ok (t + 1):=by
 obtain ⟨cs,M,T⟩:=d;refine uK dk fun XC XB hT0 hT1 hl=>?_;clear dk;have s1:small (60535 * (T + 1))=true:=yf (by simp only at *;lia) (by simp only at *;lia);have s2:small (T + 1)=true:=yf (by simp only at *;lia) (by simp only at *;lia);have sf:∀ (a b:Int),0 < b→b < 1000000000000→small (a.fmod b)=true:=fun a b h h2=>yf (zU a b h).1 (FC (FC (zU a b h).2 h2) (by decide));have hn:(n:Int)≠0:=by lia
 have my:¬ 1073741824≤(n:Int).natAbs:=by lia
 have Hm:∀ a:Int,small (a.fmod 2147483629)=true:=fun a=>sf a _ (by decide) (by decide);have yj:∀ a:Int,small (a.fmod 2147483647)=true:=fun a=>sf a _ (by decide) (by decide);have Hl:∀ a:Int,small (a.fmod 2147483587)=true:=fun a=>sf a _ (by decide) (by decide);clear sf;have key:∃ (a:Int) (Ac:List Int),(ai fu (j + 1)).call 19 [.loc 1,.int n] (DS.hp ⟨cs,M,T⟩ rest)=.ok (.int (a.fmod n)) (DS.hp ⟨Ac,M,T + 1⟩ rest)∧Ac.length≤100:=by
  rcases aex cs with rfl|⟨cs,c,rfl⟩
  ·apply Exists.intro;refine ⟨[],(e_ rfl rfl).trans ?_,cE _⟩;apply j_
   case h=>show aA _ _ rz _ _=_;delta rz;exact qK (bk (cI rfl rfl) aO gY) (am rfl) aO rfl (bQ (bk (cI rfl rfl) (bk (bk aO (cI rfl rfl) (kD rfl s2)) (cI rfl rfl) (kD s1 s2)) gY) (b5 (bX (cI rfl rfl) (fJ ak (cE _)) rfl) aW (bQ (bk (bk (bk (am rfl) aO (jX (by decide))) aO (kD (Hm _) rfl)) aO (jX (by decide))) (bQ (bk (bk (bk (am rfl) (am rfl) (kD (yj _) (yj _))) aO gY) aO (jX (by decide))) (b9 (bk (bk (bk (bk (am rfl) aO (kD (Hl _) rfl)) aO (jX (by decide))) aO (yI (by decide) (by decide))) (am rfl) (jX hn)))))))
   all_goals rfl
  ·rw [List.concat_eq_append] at hl⊢;have jg:cs.length + 1≤100:=by simpa using hl
   have hL:(cs.map PV.int).length < aC:=by rw [aQ];exact Fj (Fj (xo _) jg) (by decide)
   have hE:(cs.map PV.int++[PV.int c]).isEmpty=false:=by induction cs using bj<;>rfl
   rw [J0];by_cases hc:c≥1000000
   ·refine ⟨c,cs++[c.fdiv n],(e_ rfl rfl).trans ?_,by simpa using jg⟩;rw [J0];apply j_
    case h=>show aA _ _ rz _ _=_;delta rz;exact qK (bk (cI rfl rfl) aO gY) (am rfl) aO rfl (bQ (bk (cI rfl rfl) (bk (bk aO (cI rfl rfl) (kD rfl s2)) (cI rfl rfl) (kD s1 s2)) gY) (lA (bX (cI rfl rfl) (fJ ak (cE _)) (LZ rfl rfl rfl hE)) (bQ (b4 (cI rfl rfl) rfl ak (Cm (n:=0) rfl hL)) (lA (bD rfl (aaP hc)) (kC (b4 (cI rfl rfl) rfl (aX (bk (am rfl) (am rfl) (yI hn my)) ak) (tb (n:=0) rfl hL)) (b9 (bk (am rfl) (am rfl) (jX hn))))))))
    all_goals rfl
   ·apply Exists.intro;refine ⟨cs,(e_ rfl rfl).trans ?_,ug jg⟩;apply j_
    case h=>show aA _ _ rz _ _=_;delta rz;exact qK (bk (cI rfl rfl) aO gY) (am rfl) aO rfl (bQ (bk (cI rfl rfl) (bk (bk aO (cI rfl rfl) (kD rfl s2)) (cI rfl rfl) (kD s1 s2)) gY) (kz (bX (cI rfl rfl) (fJ ak (cE _)) (LZ rfl rfl rfl hE)) (bQ (b4 (cI rfl rfl) rfl ak (Cm (n:=0) rfl hL)) (b5 (bD rfl (aaO hc)) aW (bQ (bk (am rfl) (bk (am rfl) aO (jX (by decide))) gY) aW))) (bQ (bk (bk (bk (am rfl) aO (jX (by decide))) aO (kD (Hm _) rfl)) aO (jX (by decide))) (bQ (bk (bk (bk (am rfl) (am rfl) (kD (yj _) (yj _))) aO gY) aO (jX (by decide))) (b9 (bk (bk (bk (bk (am rfl) aO (kD (Hl _) rfl)) aO (jX (by decide))) aO (yI (by decide) (by decide))) (am rfl) (jX hn)))))))
    all_goals rfl
 refine ch key fun a Ac e hc=>?_;clear key;have hr:=zU a n (by lia);refine ⟨(a.fmod n).toNat,⟨Ac,M,T + 1⟩,by rw [e,aeI hr.1],by lia,XC,XB,?_,?_,hc⟩
 ·show 0≤T + 1;simp only at *;lia
 ·show T + 1≤((t + 1:Nat):Int);simp only at *;lia
def zb{l:List α}(h:i < l.length)(hb:l.length≤1000000):mv l (i:Int)=some l[i]:=by
 have e:adi (i:Int) l.length=some i:=by delta adi;rw [if_neg iN,if_pos (nM.mpr ⟨decide_eq_true (xz i),decide_eq_true (xy.mpr h)⟩)];rfl
 refine (if_neg (fun q=>iN (FC q (by decide)))).trans ((if_neg (fun q=>?_)).trans ?_)
 ·exact xq _ (Nv (Fj h (aB hb (by decide))) (xy.mp q))
 ·rw [e];exact p_ h
def iO{d:DS}{rest:Hp}(dk:d.ok t)(ht:t≤100000)(h1:l≠[])(h2:l.length≤10000):
  ∃ (v:PV) (d':DS),(ai fu (j + 2)).call 20 [.loc 1,.fl l] (d.hp rest)=.ok v (d'.hp rest)∧v∈l∧d'.ok (t + 1):=by
 refine bx (nk (fu:=fu) (j:=j) (rest:=rest) dk ht (ael.mpr h1) h2) fun i d' e hi fY=>?_;have hL:l.length≤aC:=aB h2 (by decide);refine ⟨l[i],d',(e_ rfl rfl).trans ?_,nJ hi,fY⟩;have hx:kM (.fl l) (.int i) (d'.hp rest)=some l[i]:=zb hi (by lia);apply j_
 case h=>show aA _ _ D5 _ _=_;delta D5;exact b9 (sX (am rfl) (bL (aF rfl (aX (jD (aF rfl ak) (Cn rfl rfl hL)) ak)) e) hx)
 all_goals rfl
end
variable {d:DS}
section
theorem m4{test:Sl→Hp→R Bool}{elt:Sl→Hp→R PV}{sl:Sl}{H:Hp}{p:PV→Bool}{g:PV→PV}:∀ {l:Qp},(∀ v∈l,test (some v::sl) H=.ok (p v) H)→(∀ v∈l,p v=true→elt (some v::sl) H=.ok (g v) H)→
  fm test elt sl l H=.ok ((l.filter p).map g) H
 | [],_,_=>rfl
 | v::r,ht,he=>by
  have ih:=m4 (l:=r) (fun v hv=>ht v (bM _ hv)) fun v hv=>he v (bM _ hv);rw [IY];rw [ht v (bC ..)];generalize hp:(p v)=zz;induction zz with
  | false=>simp [hp,ih]
  | true=>simp [hp,ih,he v (bC ..) hp]
inductive nA{α β:Type}(Q:α→β→Prop):List α→List β→Prop
 | nil:nA Q [] []
 | cons {a:α} {b:β} {l:List α} {r:List β}:Q a b→nA Q l r→nA Q (a::l) (b::r)
def nA.len{Q:α→β→Prop}{l:List α}{r:List β}(h:nA Q l r):r.length=l.length:=by
 induction h with
 | nil=>rfl
 | cons _ _ ih=>simp [ih]
theorem vp{elt:Sl→Hp→R PV}{sl:Sl}{rest:Hp}{Q:PV→PV→Prop}{k:Nat}:∀ {l:Qp} {d:DS} {t:Nat},(∀ v∈l,∀ (d:DS) t',t≤t'→t' < t + k * l.length→d.ok t'→∃ (u:PV) (d':DS),elt (some v::sl) (d.hp rest)=.ok u (d'.hp rest)∧Q v u∧d'.ok (t' + k))→1≤k→d.ok t→
  ∃ (us:Qp) (d':DS),fm (fun _ H=>.ok true H) elt sl l (d.hp rest)=.ok us (d'.hp rest)∧nA Q l us∧d'.ok (t + k * l.length)
 | [],d,t,_,_,dk=>⟨[],d,rfl,.nil,by simpa using dk⟩
 | v::r,d,t,h,hk,dk=>by
  have hlen:k * (v::r).length=k * r.length + k:=by rw [kl,Nu]
  refine bx (h v (bC ..) d t (aS _) (by lia) dk) fun u tR cJ R3 Eg=>?_;refine bx (vp (elt:=elt) (sl:=sl) (rest:=rest) (Q:=Q) (k:=k) (l:=r) (d:=tR) (t:=t + k) (fun v hv d t' h1 h2 dk=>h v (bM _ hv) d t' (by lia) (by lia) dk) hk Eg) fun us rD g_ hq tS=>?_;refine ⟨u::us,rD,?_,.cons R3 hq,by rw [hlen,show t + (k * r.length + k)=t + k + k * r.length from by lia];exact tS⟩;rw [IY];simp [cJ,g_]
noncomputable def bu(n:Qn):Qy:=n.map (·.toUInt8)
theorem Ik:∀ {n:Qn},(∀ c∈n,c < 128)→qO (n.map fun (c:Nat)=>(PV.int c))=some (bu n)
 | [],_=>rfl
 | c::n,h=>by
  have ih:=Ik (n:=n) fun c hc=>h c (bM _ hc);have hc:=h c (bC ..);show eR ((if 0≤(c:Int)∧(c:Int) < 256 then some (c:Int).toNat.toUInt8 else none)::_)=_;rw [if_pos ⟨xz c,xy.mpr (Nv hc (by decide))⟩];show jq _ (qO _)=_;rw [ih];rfl
def Ck{n:Qn}(h:∀ c∈n,c < 128)(hl:n.length≤1000):(ai fu (j + 1)).call 21 [.str n] H=.ok (.bytes (bu n)) H:=by
 have hL:(n.map fun c=>PV.str [c]).length≤aC:=by rw [aQ];exact aB hl (by decide)
 have hm:=m4 (test:=fun sl H=>fK (ai fu j) .nil sl H) (elt:=fun sl H=>ao (ai fu j) (.bi .ord (.cons (.var 0) .nil)) sl H) (sl:=[some (.str n)]) (H:=H) (p:=fun _=>true) (g:=fun v=>match v with|.str [c]=>.int c|_=>.none) (l:=n.map fun c=>.str [c]) (fun _ _=>rfl) (fun v hv _=>by
  refine J (b7.mp hv) fun c hc z2=>?_;subst z2;exact if_pos (h c hc))
 rw [Fz.mpr fun _ _=>rfl,ju] at hm;have hB:nr .bytes [.fl (n.map fun (c:Nat)=>PV.int c)] H=.ok (.bytes (bu n)) H:=by show (match qO _ with|some l=>_|none=>_)=_;rw [Ik h];exact if_pos (by rw [bu,aQ];exact aB hl (by decide))
 have XD:(n.map fun (c:Nat)=>PV.int c).length≤aC:=by rw [aQ];exact aB hl (by decide)
 refine (e_ rfl rfl).trans ?_;apply j_
 case h=>
  show aA _ _ D4 _ _=_;delta D4;exact b9 (jD (aX (ly (fW (am rfl) rfl) hL hm XD) ak) hB)
 all_goals rfl
end
section
def DS.ok.mono{t':Nat}(h:d.ok t)(ht:t≤t'):d.ok t':=⟨h.1,h.2.1,h.2.2.1,by have:=h.2.2.2.1;lia,h.2.2.2.2⟩
noncomputable abbrev dO:Qn:=[116,101,120,116]
noncomputable abbrev l_:Qn:=[101,111,108]
noncomputable abbrev lx:Qn:=[98,105,110,97,114,121]
noncomputable abbrev sU:Qn:=[100,105,102,102]
noncomputable abbrev yo:Qn:=[109,101,114,103,101]
def fU:List Qn:=[dO,l_,[120],[120],[109],lx,sU]
noncomputable def lX:List Qn:=[[97,117,116,111],[108,102],[99,114,108,102],[],[118]]
inductive Wd:List UInt8→List Nat→PV→Prop
 | set {n:List Nat}:n∈fU→Wd (bu n) n (.bool true)
 | off {n:List Nat}:n∈fU→Wd (45::bu n) n (.bool false)
 | un {n:List Nat}:n∈fU→Wd (33::bu n) n .none
 | val {n v:List Nat}:n∈fU→v∈lX→Wd (bu n++61::bu v) n (.str v)
def yJ:∀ n∈fU,(∀ c∈n,c < 128)∧n.length≤10:=by decide
def xO:∀ n∈lX,(∀ c∈n,c < 128)∧n.length≤10:=by decide
def OI{rest:Hp}(dk:d.ok t)(ht:t≤90000):
  ∃ (b:Qy) (n:Qn) (v:PV) (d':DS),(ai fu (j + 3)).call 22 [.loc 1] (d.hp rest)=.ok (.tup [.bytes b,.str n,v]) (d'.hp rest)∧Wd b n v∧d'.ok (t + 3):=by
 refine bx (iO (fu:=fu) (j:=j) (rest:=rest) (l:=fU.map .str) dk (by exact aq ht rfl) (by decide) (by decide)) fun x tR cJ hx Eg=>?_;refine J (b7.mp hx) fun n hn z2=>?_;subst z2;refine bx (nk (fu:=fu) (j:=j + 1) (n:=6) (rest:=rest) Eg (by exact aq (bc ht) rfl) (by exact eH rfl) (by exact eH rfl)) fun w rD g_ hw tS=>?_;refine bx (iO (fu:=fu) (j:=j) (rest:=rest) (l:=lX.map .str) tS (by exact aq (bc (bc ht)) rfl) (by decide) (by decide)) fun y Lr oB hy ZO=>?_;refine J (b7.mp hy) fun v hv z2=>?_;subst z2;replace cJ:(ai fu (j + 2)).call 20 [.loc 1,.fl (fU.map .str)] (d.hp rest)=.ok (.str n) (tR.hp rest):=cJ;replace oB:(ai fu (j + 2)).call 20 [.loc 1,.fl (lX.map .str)] (rD.hp rest)=.ok (.str v) (Lr.hp rest):=oB;replace g_:(ai fu (j + 2)).call 19 [.loc 1,.int 6] (tR.hp rest)=.ok (.int w) (rD.hp rest):=g_;have on:(ai fu (j + 2)).call 21 [.str n] []=.ok (.bytes (bu n)) []:=Ck (yJ n hn).1 (by have:=(yJ n hn).2;exact aq this rfl);have ov:(ai fu (j + 2)).call 21 [.str v] []=.ok (.bytes (bu v)) []:=Ck (xO v hv).1 (by have:=(xO v hv).2;exact aq this rfl);have ln:(bu n).length≤10:=by rw [bu,aQ];exact (yJ n hn).2
 have lv:(bu v).length≤10:=by rw [bu,aQ];exact (xO v hv).2
 have L1:[33].length + (bu n).length≤aC:=bw (show 1 + (bu n).length≤_ by exact aq (addQ ln) rfl);have L0:[45].length + (bu n).length≤aC:=L1;have L2:(bu n).length + [61].length≤aC:=bw (show (bu n).length + 1≤_ by exact aq (bc ln) rfl);have L3:(bu n++[61]).length + (bu v).length≤aC:=bw (by rw [bP];show (bu n).length + 1 + (bu v).length≤_;exact aq (eS (bc ln) lv) rfl);have run:∀ {z v' H'} (b:Qy),aA (ai fu (j + 2)) fu tM (lj [.loc 1] 4) (d.hp rest)=.ok (.ret (.tup [.bytes b,.str n,v']),z) H'→(ai fu (j + 3)).call 22 [.loc 1] (d.hp rest)=.ok (.tup [.bytes b,.str n,v']) H':=fun b h=>(e_ rfl rfl).trans (jl h rfl);have c3:(w:Int) < 3∨¬ (w:Int) < 3∧(w:Int)=3∨¬ (w:Int) < 3∧(w:Int)≠3∧(w:Int) < 5∨¬ (w:Int) < 3∧¬ (w:Int) < 5:=by
  by_cases h3:(w:Int) < 3
  ·exact .inl h3
  ·by_cases h4:(w:Int)=3
   ·exact .inr (.inl ⟨h3,h4⟩)
   ·by_cases h5:(w:Int) < 5
    ·exact .inr (.inr (.inl ⟨h3,h4,h5⟩))
    ·exact .inr (.inr (.inr ⟨h3,h5⟩))
 rcases c3 with c|⟨c,c'⟩|⟨c,c',EC⟩|⟨c,c'⟩
 ·refine ⟨bu n,n,.bool true,rD,?_,.set hn,tS.mono (by exact iK (b8 (b8 iM (aS _)) (aS _)) rfl)⟩;apply run;delta tM;exact bQ (bL (aF rfl (aX (fJ (vs:=fU.map .str) rfl (bw (by decide))) ak)) cJ) (bQ (bL (aF rfl (be ak)) g_) (lA (bD rfl (Ey c)) (b9 (cB (aX (ip (aF rfl ak) (jc rfl on rfl)) (aF rfl (be ak)))))))
 ·refine ⟨[45]++bu n,n,.bool false,rD,?_,.off hn,tS.mono (by exact iK (b8 (b8 iM (aS _)) (aS _)) rfl)⟩;apply run;have c5:(w:Int) < 5:=by rw [c'];decide
  delta tM;exact bQ (bL (aF rfl (aX (fJ (vs:=fU.map .str) rfl (bw (by decide))) ak)) cJ) (bQ (bL (aF rfl (be ak)) g_) (b5 (bD rfl (Ar c)) aW (lA (bD rfl (Ey c5)) (b9 (cB (aX (bk (sW (bD rfl (tU c')) aO) (ip (aF rfl ak) (jc rfl on rfl)) (jY L0)) (aF rfl (aX (sW (bD rfl (tU c')) aO) ak))))))))
 ·refine ⟨[33]++bu n,n,.none,rD,?_,.un hn,tS.mono (by exact iK (b8 (b8 iM (aS _)) (aS _)) rfl)⟩;apply run;delta tM;exact bQ (bL (aF rfl (aX (fJ (vs:=fU.map .str) rfl (bw (by decide))) ak)) cJ) (bQ (bL (aF rfl (be ak)) g_) (b5 (bD rfl (Ar c)) aW (lA (bD rfl (Ey EC)) (b9 (cB (aX (bk (yt (bD rfl (tT c')) aO) (ip (aF rfl ak) (jc rfl on rfl)) (jY L1)) (aF rfl (aX (yt (bD rfl (tT c')) aO) ak))))))))
 ·refine ⟨bu n++61::bu v,n,.str v,Lr,?_,.val hn hv,ZO.mono (by exact aS _)⟩;rw [show bu n++61::bu v=bu n++[61]++bu v from by rw [dz];rfl];apply run;delta tM;exact bQ (bL (aF rfl (aX (fJ (vs:=fU.map .str) rfl (bw (by decide))) ak)) cJ) (bQ (bL (aF rfl (be ak)) g_) (b5 (bD rfl (Ar c)) aW (b5 (bD rfl (Ar c')) aW (bQ (bL (aF rfl (aX (fJ (vs:=lX.map .str) rfl (bw (by decide))) ak)) oB) (b9 (cB (aX (bk (bk (ip (aF rfl ak) (jc rfl on rfl)) aO (jY L2)) (ip (aF rfl ak) (jc rfl ov rfl)) (jY L3)) (aF rfl (aF rfl ak)))))))))
end
section
noncomputable abbrev WS:=Qy×Qy×Qn×PV
noncomputable def o6:List Qy:=[[32],[9],[32,32]]
noncomputable def im(w:WS):Prop:=w.1∈o6∧Wd w.2.1 w.2.2.1 w.2.2.2
noncomputable def bT(ws:List WS):Qy:=(ws.map fun w=>w.1++w.2.1).flatten
noncomputable def toldOf(ws:List WS):Qp:=ws.map fun w=>.tup [.str w.2.2.1,w.2.2.2]
noncomputable def lh(w:WS):PV:=.tup [.bytes w.2.1,.str w.2.2.1,w.2.2.2]
def Hq:∀ s∈o6,s.length≤2:=by decide
def Gj{b:Qy}{n:Qn}(h:Wd b n v):b.length≤21:=by
 have ln:∀ n∈fU,(bu n).length≤10:=fun n hn=>by simp [bu];exact (yJ n hn).2
 have lv:∀ n∈lX,(bu n).length≤10:=fun n hn=>by simp [bu];exact (xO n hn).2
 induction h with
 | set h=>have:=ln _ h;exact aq this rfl
 | off h=>have:=ln _ h;simp;exact aq this rfl
 | un h=>have:=ln _ h;simp;exact aq this rfl
 | val h h'=>have:=ln _ h;have:=lv _ h';simp;lia
theorem Mu:∀ {l us:Qp},nA (fun _ u=>∃ b n v,u=PV.tup [.bytes b,.str n,v]∧Wd b n v) l us→∃ ws:List (Qy×Qn×PV),us=ws.map (fun w=>.tup [.bytes w.1,.str w.2.1,w.2.2])∧∀ w∈ws,Wd w.1 w.2.1 w.2.2
 | _,_,.nil=>⟨[],rfl,fun _ h=>by cases h⟩
 | _,_,.cons ⟨b,n,v,e,h⟩ r=>by
  refine J (Mu r) fun ws e' h'=>?_;exact ⟨(b,n,v)::ws,by rw [e,e'];rfl,fun w hw=>by
   rcases cA.mp hw with rfl|hw
   ·exact h
   ·exact h' w hw⟩
theorem Mv:∀ {ws:List (Qy×Qn×PV)} {us:Qp},(∀ w∈ws,Wd w.1 w.2.1 w.2.2)→
  nA (fun x u=>∃ b n v s,x=PV.tup [.bytes b,.str n,v]∧s∈o6∧u=PV.bytes (s++b)) (ws.map (fun w=>PV.tup [.bytes w.1,.str w.2.1,w.2.2])) us→
  ∃ zs:List WS,(∀ z∈zs,im z)∧ws.map (fun w=>PV.tup [.bytes w.1,.str w.2.1,w.2.2])=zs.map lh∧us=zs.map fun z=>.bytes (z.1++z.2.1)
 | [],us,_,h=>by cases h;exact ⟨[],fun _ h=>by (cases h),rfl,rfl⟩
 | w::ws,us,hw,h=>by
  rw [da] at h;cases h with
  | cons q r=>
   refine sk q fun b n v s e hs z6=>?_;clear q;subst z6;refine ci (Mv (fun w C8=>hw w (bM _ C8)) r) fun zs h1 h2 h3=>?_;have VI:=hw w (bC ..);obtain ⟨wb,wn,wv⟩:=w;injection e with e;injection e with e1 e;injection e with e2 e;injection e with e3 _;injection e1 with e1;injection e2 with e2;subst e1 e2 e3;refine ⟨(s,wb,wn,wv)::zs,fun z hz=>?_,by rw [da,h2];rfl,by rw [h3];rfl⟩;rcases cA.mp hz with rfl|hz
   ·exact ⟨hs,VI⟩
   ·exact h1 z hz
theorem As{α:Type}(f:α→Qy):∀ l:List α,bytesOf (l.map fun a=>PV.bytes (f a))=some (l.map f)
 | []=>rfl
 | a::l=>by
  have ih:=As f l;unfold bytesOf at ih⊢;rw [da,da];exact congrArg (jq (f a::·)) ih
def kE:List Qn:=[[109],[109],lx,[120]]
noncomputable def vi:List Qy:=[[],[35,32,97,32,120],[32,32],[97],[100,47,32,120],[42,47,32,45,120]]
noncomputable def ku:List Qy:=[[42],[97],[42,46,98],[63],[47,97],[100,47,97],[101,47,42],[100,47,42,47,42,46,98],[47,42,46,98],[47,100,47,101,47,97,46,98],[42,97,42]]
noncomputable def kS:List Qy:=[[],[],[32],[13]]
noncomputable def iY:Qy:=[91,97,116,116,114,93]
inductive oK:List UInt8→List UInt8→PV→Prop
 | cY {n:List Nat} {ws:List WS}:n∈kE→(∀ w∈ws,im w)→ws.length≤2→ws≠[]→oK [] (iY++bu n++bT ws) (.tup [.bool true,.str n,.fl (toldOf ws)])
 | Iw {f r:List UInt8}:r∈vi→oK f r .none
 | rule {f p e:List UInt8} {ws:List WS}:p∈ku→e∈kS→(∀ w∈ws,im w)→ws.length≤2→ws≠[]→oK f (p++bT ws++e) (.tup [.bool false,.bytes p,.fl (toldOf ws)])
def OH{k:Nat}{rest:Hp}{f:PV}(dk:d.ok t)(ht:t≤80000)(hk:k≤10):
  ∃ (ws:List (Qy×Qn×PV)) (d':DS),fm (fun _ H=>.ok true H) (fun sl H=>ao (ai fu (j + 3)) (.call .aG 22 (.cons (.var 1) .nil)) sl H) (some (.loc 1)::sl) ((dR k).map fun (i:Nat)=>PV.int i) (d.hp rest)=.ok (ws.map fun w=>.tup [.bytes w.1,.str w.2.1,w.2.2]) (d'.hp rest)∧
   ws.length=k∧(∀ w∈ws,Wd w.1 w.2.1 w.2.2)∧d'.ok (t + 30):=by
 have hlen:((dR k).map fun (i:Nat)=>PV.int i).length=k:=by simp
 refine bx (vp (elt:=fun sl H=>ao (ai fu (j + 3)) (.call .aG 22 (.cons (.var 1) .nil)) sl H) (sl:=some (.loc 1)::sl) (rest:=rest) (Q:=fun _ u=>∃ b n v,u=PV.tup [.bytes b,.str n,v]∧Wd b n v) (k:=3)
   (l:=(dR k).map fun (i:Nat)=>PV.int i) (d:=d) (t:=t) (fun v hv d t' h1 h2 dk=>by
    rw [hlen] at h2;refine sk (OI (fu:=fu) (j:=j) (rest:=rest) dk (by lia)) fun b n v' d' e hw fY=>?_;exact ⟨_,d',bL (aF rfl ak) e,⟨b,n,v',rfl,hw⟩,fY⟩) (by exact eH rfl) dk) fun us d' e q fY=>?_
 refine J (Mu q) fun ws e' hw=>?_;have hl:=q.len;rw [hlen,e',aQ] at hl;exact ⟨ws,d',by rw [e,e'],hl,hw,fY.mono (by rw [hlen];exact iK (b8 iM (mulL hk)) rfl)⟩
def PH{rest:Hp}{ws:List (Qy×Qn×PV)}(dk:d.ok t)(ht:t≤80000)(hw:∀ w∈ws,Wd w.1 w.2.1 w.2.2)(hk:ws.length≤10):
  ∃ (zs:List WS) (d':DS),fm (fun _ H=>.ok true H) (fun sl H=>ao (ai fu (j + 2)) (.bin .add false (.call .aG 20 (.cons (.var 1) (.cons (.list false (.cons (.y [32]) (.cons (.y [9]) (.cons (.y [32,32]) .nil)))) .nil))) (.idx (.var 0) (.i 0))) sl H) (some (.loc 1)::sl)
    (ws.map fun w=>.tup [.bytes w.1,.str w.2.1,w.2.2]) (d.hp rest)=.ok (zs.map fun z=>.bytes (z.1++z.2.1)) (d'.hp rest)∧
   (∀ z∈zs,im z)∧ws.map (fun w=>PV.tup [.bytes w.1,.str w.2.1,w.2.2])=zs.map lh∧d'.ok (t + 10):=by
 refine bx (vp (elt:=fun sl H=>ao (ai fu (j + 2)) (.bin .add false (.call .aG 20 (.cons (.var 1) (.cons (.list false (.cons (.y [32]) (.cons (.y [9]) (.cons (.y [32,32]) .nil)))) .nil))) (.idx (.var 0) (.i 0))) sl H) (sl:=some (.loc 1)::sl) (rest:=rest)
   (Q:=fun x u=>∃ b n v s,x=PV.tup [.bytes b,.str n,v]∧s∈o6∧u=PV.bytes (s++b)) (k:=1) (l:=ws.map fun w=>.tup [.bytes w.1,.str w.2.1,w.2.2]) (d:=d) (t:=t) (fun v hv d t' h1 h2 dk=>by
    rw [aQ] at h2;refine J (b7.mp hv) fun w C8 z2=>?_;subst z2;refine bx (iO (fu:=fu) (j:=j) (rest:=rest) (l:=o6.map .bytes) dk (by lia) (by decide) (by decide)) fun x d' e hx fY=>?_;refine J (b7.mp hx) fun s hs z2=>?_;subst z2;have mw:=Hq s hs;have hb:=Gj (hw w C8);have hL:s.length + w.1.length≤16777216:=by exact aq (eS mw hb) rfl
    refine ⟨.bytes (s++w.1),d',?_,⟨w.1,w.2.1,w.2.2,s,rfl,hs,rfl⟩,fY⟩;exact bk (bL (aF rfl (aX (fJ (vs:=o6.map .bytes) rfl (bw (by decide))) ak)) e) (cI rfl rfl) (jY (bw hL))) (by exact eH rfl) dk) fun us d' e q fY=>?_
 refine ci (Mv hw q) fun zs h1 h2 h3=>?_;exact ⟨zs,d',by rw [e,h3],h1,h2,fY.mono (by rw [aQ];exact iK (b8 iM (mulL hk)) rfl)⟩
theorem qr:∀ {ws:List WS},(∀ w∈ws,im w)→(bT ws).length≤23 * ws.length
 | [],_=>by simp [bT]
 | w::ws,h=>by
  have ih:=qr (ws:=ws) fun x hx=>h x (bM _ hx);have h0:=h w (bC ..);have hb:=Gj h0.2;have mw:=Hq _ h0.1;simp only [bT,da,se,bP,kl] at ih⊢;lia
end
variable {ws zs:List WS}
section
open PySem.Builtin (Bytes.find? Bytes.occurrences Bytes.between Bytes.joined)
noncomputable def lz(P:Nat→Bool)(m:Nat):Nat→Nat→Nat→Qn
 | _,_,0=>[]
 | a,last,n + 1=>if last≤a∧P a=true then a::lz P m (a + 1) (a + m) n else lz P m (a + 1) last n
def Yd(P:Nat→Bool)(m n:Nat){a last:Nat}{acc:Qn}:
  (A9 (fun (acc:Qn×Nat) i=>if (decide (i≥acc.snd)&&P i)=true then (i::acc.fst,i + m) else acc) (acc,last) (aea a n)).fst.reverse=acc.reverse++lz P m a last n:=by
 induction n generalizing a last acc with
 | zero=>exact (gP _).symm
 | succ n ih=>
  rw [ad',qb];show _=acc.reverse++if last≤a∧P a=true then a::lz P m (a + 1) (a + m) n else lz P m (a + 1) last n
  by_cases h:last≤a∧P a=true
  ·rw [if_pos h,if_pos (by rw [decide_eq_true h.1,h.2];rfl),ih,AZ,dz];rfl
  ·rw [if_neg h,if_neg (by rw [i8,decide_eq_true_eq];exact h),ih]
def occ_eq(x y:Qy):fj x y=lz (fun i=>x.toArray.extract i (i + y.length)==y.toArray) y.length 0 0 (x.length + 1 - y.length):=by delta fj gQ;have h:=Yd (fun i=>x.toArray.extract i (i + y.length)==y.toArray) y.length (x.length + 1 - y.length) (a:=0) (last:=0) (acc:=[]);rw [List.reverse_nil,sd] at h;rw [←h,←List.range_eq_range'];simp
noncomputable def jk(x:Qy)(m:Nat):Nat→Qn→List Qy
 | last,[]=>[x.drop last]
 | last,p::ps=>(x.take p).drop last::jk x m (p + m) ps
def EH{last:Nat}:jk x m last []=[x.drop last]:=rfl
def EI{last p:Nat}{ps:Qn}:jk x m last (p::ps)=(x.take p).drop last::jk x m (p + m) ps:=rfl
def Me(x:Qy)(m:Nat)(ps:Qn):kV x m ps=jk x m 0 ps:=by
 have h:∀ (ps:Qn) (parts:Array Qu) (last:Nat),(match A9 (fun (y:Array Qu×Nat) p=>match y with|(parts,last)=>(parts.push (x.toArray.extract last p),p + m)) (parts,last) ps with
   | (parts,last)=>(parts.push (x.toArray.extract last)).toList).map (fun (z:Qu)=>z.toList)=parts.toList.map (fun (z:Qu)=>z.toList)++jk x m last ps:=by
  intro ps;induction ps with
  | nil=>intro parts last;simp [EH,EI];exact AX (by simp)
  | cons p ps ih=>intro parts last;rw [qb,ih];simp [EH,EI];exact List.drop_take.symm
 have:=h ps #[] 0;exact this
noncomputable def j8(b:UInt8):List Qy→List Qy
 | []=>[[b]]
 | l::r=>(b::l)::r
noncomputable def sp(y:Qy):Nat→Qy→List Qy
 | _,[]=>[[]]
 | k + 1,_::r=>sp y k r
 | 0,b::r=>if y.isPrefixOf (b::r) then []::sp y (y.length - 1) r else j8 b (sp y 0 r)
theorem GW:∀ {k:Nat},sp y k []=[[]]
 | 0=>rfl
 | _ + 1=>rfl
def sL{r:Qy}{k:Nat}{b:UInt8}:sp y (k + 1) (b::r)=sp y k r:=rfl
def qw{r:Qy}{b:UInt8}:sp y 0 (b::r)=if y.isPrefixOf (b::r) then []::sp y (y.length - 1) r else j8 b (sp y 0 r):=rfl
noncomputable def u8(l:Qy):List Qy→List Qy
 | []=>[l]
 | h::r=>(l++h)::r
def sM(y s:Qy)(k:Nat):sp y k s≠[]:=by
 induction s generalizing k with
 | nil=>induction k using dN<;>exact fun h=>nomatch h
 | cons b r ih=>
  induction k using dN with
  | succ k=>exact ih k
  | zero=>
   show (if y.isPrefixOf (b::r)=true then []::sp y (y.length - 1) r else j8 b (sp y 0 r))≠[];by_cases h:y.isPrefixOf (b::r)=true
   ·rw [if_pos h];exact fun h=>nomatch h
   ·rw [if_neg h];generalize (sp y 0 r)=zz;induction zz using bj<;>exact fun h=>nomatch h
def HX(y s:Qy)(k:Nat):u8 [] (sp y k s)=sp y k s:=by
 generalize h:(sp y k s)=zz;induction zz using bj with
 | nil=>exact absurd h (sM y s k)
 | cons a r=>rfl
def Sb(y s l:Qy)(b:UInt8)(k:Nat):u8 l (j8 b (sp y k s))=u8 (l++[b]) (sp y k s):=by
 generalize h:(sp y k s)=zz;induction zz using bj with
 | nil=>exact absurd h (sM y s k)
 | cons a r=>exact congrArg (·::r) (List.append_cons l b a)
noncomputable def nY(y:Qy):Qy→Nat→Nat→Qn
 | [],_,_=>[]
 | b::r,a,last=>if last≤a∧y.isPrefixOf (b::r)=true then a::nY y r (a + 1) (a + y.length) else nY y r (a + 1) last
def Tj{s:Qy}(h:s.length < y.length):¬ y.isPrefixOf s=true:=fun q=>Fi.mpr (A5.mp q).length_le h
def Sf{s:Qy}{a last:Nat}(h:s.length < y.length):nY y s a last=[]:=by
 induction s generalizing a last with
 | nil=>rfl
 | cons b r ih=>exact (if_neg fun q=>Tj h q.2).trans (ih (adW h))
def Sh{s p:Qy}{last:Nat}(hy:0 < y.length):lz (fun i=>y.isPrefixOf ((p++s).drop i)) y.length p.length last (s.length + 1 - y.length)=nY y s p.length last:=by
 induction s generalizing p last with
 | nil=>rw [show ([]:Qy).length + 1 - y.length=0 from Nt hy];rfl
 | cons b r ih=>
  by_cases h:y.length≤(b::r).length
  ·have ih:=fun last=>ih (p:=p++[b]) (last:=last);rw [bP,dz] at ih;rw [Nat.succ_sub h];show (if last≤p.length∧y.isPrefixOf ((p++b::r).drop p.length)=true then p.length::lz _ y.length (p.length + 1) (p.length + y.length) _ else lz _ y.length (p.length + 1) last _)=if _ then _ else _
   rw [NN];by_cases q:last≤p.length∧y.isPrefixOf (b::r)=true
   ·rw [if_pos q,if_pos q];exact congrArg _ (ih _)
   ·rw [if_neg q,if_neg q];exact ih _
  ·rw [show (b::r).length + 1 - y.length=0 from Nt (Nw h),Sf (Nw h)];rfl
def aa6(hy:0 < y.length){s:Qy}:(∀ d c:Qy,jk (d++(c++s)) y.length d.length (nY y s (d++c).length d.length)=u8 c (sp y 0 s))∧∀ (p:Qy) (k:Nat),jk (p++s) y.length (p.length + (k + 1)) (nY y s p.length (p.length + (k + 1)))=sp y (k + 1) s:=by
 induction s with
 | nil=>
  refine ⟨fun d c=>?_,fun p k=>?_⟩
  ·show [(d++(c++[])).drop d.length]=[c++[]];rw [NN]
  ·show [(p++[]).drop (p.length + (k + 1))]=[[]];rw [NO (by rw [gP];exact r7 _ _)]
 | cons b r ih=>
  have next:∀ p k,jk (p++b::r) y.length (p.length + 1 + k) (nY y r (p.length + 1) (p.length + 1 + k))=sp y k r:=fun p k=>by
   induction k using dN with
   | zero=>have:=ih.1 (p++[b]) [];rw [HX,gP,dz,bP] at this;exact this
   | succ k=>have:=ih.2 (p++[b]) k;rw [dz,bP] at this;exact this
  refine ⟨fun d c=>?_,fun p k=>?_⟩
  ·show jk _ _ _ (if d.length≤(d++c).length∧y.isPrefixOf (b::r)=true then (d++c).length::nY y r ((d++c).length + 1) ((d++c).length + y.length) else nY y r ((d++c).length + 1) d.length)=u8 c (if y.isPrefixOf (b::r)=true then []::sp y (y.length - 1) r else j8 b (sp y 0 r));by_cases q:y.isPrefixOf (b::r)=true
   ·rw [if_pos ⟨by rw [bP];exact r7 _ _,q⟩,if_pos q];have n:=next (d++c) (y.length - 1)
    rw [r8,Nat.add_sub_cancel' hy,dz] at n;show ((d++(c++b::r)).take (d++c).length).drop d.length::jk _ _ _ _=(c++[])::sp y (y.length - 1) r;rw [n,←dz,List.take_left,NN,gP]
   ·rw [if_neg fun h=>q h.2,if_neg q,Sb];have n:=ih.1 d (c++[b]);rw [←n,dz c,←dz d c [b],bP (as:=d++c)];rfl
  ·refine (congrArg (jk _ _ _) (if_neg fun h=>Fi.mpr h.1 (adX (Ff k)))).trans ?_;have n:=next p k
   rw [r8,xt 1 k] at n;exact n
def Ld(x y:Qy)(a:Nat):(x.toArray.extract a (a + y.length)==y.toArray)=y.isPrefixOf (x.drop a):=by
 rw [qe,A5,beq_iff_eq];constructor
 ·intro h;have h':=congrArg Array.toList h;simp at h';rw [←h'];exact List.take_prefix _ _
 ·intro h;apply Array.ext';simp;rw [List.prefix_iff_eq_take] at h;exact h.symm
def EJ(hy:y≠[]):kV x y.length (fj x y)=sp y 0 x:=by have h0:0 < y.length:=ael.mpr hy;rw [Me,occ_eq,show (fun i=>x.toArray.extract i (i + y.length)==y.toArray)=fun i=>y.isPrefixOf (([]++x).drop i) from funext fun a=>Ld x y a];have e:=Sh (s:=x) (p:=[]) (last:=0) h0;have b:=(aa6 h0 (s:=x)).1 [] [];rw [HX] at b;exact (congrArg (jk x y.length 0) e).trans b
noncomputable def ji(z:Qy):List Qy→Qy
 | []=>[]
 | a::l=>a++(l.map (z++·)).flatten
def CU(z:Qy):∀ l:List Qy,je z l=ji z l:=by
 have h:∀ (l:List Qy) (out:Qu) (k:Nat),(A9 (fun (out:Qu) (x:Qu×Nat)=>match x with|(p,i)=>(if i > 0 then out++z.toArray else out)++p) out ((l.map (·.toArray)).zipIdx (k + 1))).toList=out.toList++(l.map (z++·)).flatten:=by
  intro l;induction l with
  | nil=>intro out k;simp
  | cons a l ih=>intro out k;rw [da,Fo,qb,ih];simp
 intro l;delta je sj;induction l using bj with
 | nil=>rfl
 | cons a l=>rw [da,Fo,qb,h l _ 0];simp [ji]
noncomputable def rp(y z:Qy):Nat→Qy→Qy
 | _,[]=>[]
 | k + 1,_::r=>rp y z k r
 | 0,b::r=>if y.isPrefixOf (b::r) then z++rp y z (y.length - 1) r else b::rp y z 0 r
theorem u3:∀ {k:Nat},rp y z k []=[]
 | 0=>rfl
 | _ + 1=>rfl
def RC{r:Qy}{k:Nat}{b:UInt8}:rp y z (k + 1) (b::r)=rp y z k r:=rfl
def B3{r:Qy}{b:UInt8}:rp y z 0 (b::r)=if y.isPrefixOf (b::r) then z++rp y z (y.length - 1) r else b::rp y z 0 r:=rfl
def UW(z:Qy){l:List Qy}(h:l≠[]):ji z ([]::l)=z++ji z l:=by
 induction l using bj with
 | nil=>exact absurd rfl h
 | cons a l=>simp [ji]
def UX(z:Qy)(b:UInt8){l:List Qy}(h:l≠[]):ji z (j8 b l)=b::ji z l:=by
 induction l using bj with
 | nil=>exact absurd rfl h
 | cons a l=>rfl
def UV(y z s:Qy)(k:Nat):ji z (sp y k s)=rp y z k s:=by
 induction s generalizing k with
 | nil=>induction k using dN<;>rfl
 | cons b r ih=>
  induction k using dN with
  | succ k=>exact ih k
  | zero=>
   show ji z (if y.isPrefixOf (b::r)=true then []::sp y (y.length - 1) r else j8 b (sp y 0 r))=if y.isPrefixOf (b::r)=true then z++rp y z (y.length - 1) r else b::rp y z 0 r
   by_cases h:y.isPrefixOf (b::r)=true
   ·rw [if_pos h,if_pos h,UW z (sM _ _ _),ih]
   ·rw [if_neg h,if_neg h,UX z b (sM _ _ _),ih]
def RK(hy:y≠[]):je z (kV x y.length (fj x y))=rp y z 0 x:=by rw [EJ hy,CU,UV]
def Jn(l:List Qy):je [] l=l.flatten:=by
 rw [CU];induction l using bj with
 | nil=>rfl
 | cons a l=>simp [ji]
def Sd(c b:UInt8)(r:Qy):([c]:Qy).isPrefixOf (b::r)=(c==b):=Bool.and_true _
def HI(c d:UInt8)(x:Qy):rp [c] [d] 0 x=x.map fun b=>if b=c then d else b:=by
 induction x with
 | nil=>rfl
 | cons b r ih=>
  show (if ([c]:Qy).isPrefixOf (b::r)=true then [d]++rp [c] [d] 0 r else b::rp [c] [d] 0 r)=(if b=c then d else b)::_;rw [Sd,ih];by_cases h:b=c
  ·rw [if_pos h,if_pos (beq_iff_eq.mpr h.symm)];rfl
  ·rw [if_neg h,if_neg fun q=>h (beq_iff_eq.mp q).symm]
def Si(P:Nat→Bool)(m n:Nat){a last:Nat}:(lz P m a last n).length≤n:=by
 induction n generalizing a last with
 | zero=>exact aS _
 | succ n ih=>
  show (if last≤a∧P a=true then a::lz P m (a + 1) (a + m) n else lz P m (a + 1) last n).length≤n + 1;by_cases h:last≤a∧P a=true
  ·rw [if_pos h];exact Fg ih
  ·rw [if_neg h];exact oO ih
def S_(x y:Qy):(fj x y).length≤x.length + 1:=by rw [occ_eq];exact aB (Si _ _ _) (AQ _ _)
end
section
theorem uW(y:Qy):∀ (s:Qy) (k:Nat),(sp y k s).length≤s.length + 1
 | [],k=>by induction k using dN<;>simp [GW]
 | b::r,k + 1=>by simp only [sL,qw];have:=uW y r k;simp;exact oO this
 | b::r,0=>by
  simp only [sL,qw]
  split
  ·have:=uW y r (y.length - 1);simp;exact this
  ·have:=uW y r 0;generalize h:(sp y 0 r)=zz;induction zz using bj with
   | nil=>simp [j8]
   | cons a l=>rw [h] at this;simp [j8] at this⊢;exact oO this
theorem yc(y:Qy):∀ (s:Qy) (k:Nat),∀ p∈sp y k s,p.length≤s.length
 | [],k,p,h=>by induction k using dN<;>simp [GW] at h<;>subst h<;>simp
 | b::r,k + 1,p,h=>by simp only [sL,qw] at h;have:=yc y r k p h;simp;exact oO this
 | b::r,0,p,h=>by
  simp only [sL,qw] at h
  split at h
  ·rcases cA.mp h with rfl|h
   ·simp
   ·have:=yc y r (y.length - 1) p h;simp;exact oO this
  ·have ih:=yc y r 0;generalize q:(sp y 0 r)=zz;induction zz using bj with
   | nil=>exact absurd q (sM _ _ _)
   | cons a l=>
    rw [q] at h ih;simp only [j8] at h;rcases cA.mp h with rfl|h
    ·have:=ih a (bC ..);simp;exact this
    ·have:=ih p (bM _ h);simp;exact oO this
def GU(hy:y≠[])(hx:x.length≤100000)(hl:y.length≤100):lN .split x y H=.ok (.fl ((sp y 0 x).map .bytes)) H:=by
 have h1:=uW y x 0;have h2:=yc y x 0;unfold lN;rw [if_pos ⟨by show _≤16777216;exact aq hx rfl,by show _≤16777216;exact aq hl rfl⟩];simp only;rw [EJ hy,if_neg];rintro (h|h|h)
 ·exact hy h
 ·have h':16777216 < (sp y 0 x).length:=h;lia
 ·rw [uA] at h;refine J h fun p hp hd=>?_;clear h;have:=h2 p hp;have rh:16777216 < p.length:=of_decide_eq_true hd;lia
def u5(hy:y≠[])(hx:x.length≤100000)(hz:z.length≤100)(hr:(rp y z 0 x).length≤16777216):o7 x y z H=.ok (.bytes (rp y z 0 x)) H:=by
 have ho:=S_ x y;have:x.length + (fj x y).length * z.length≤16777216:=by have:(fj x y).length * z.length≤100001 * 100:=Nat.mul_le_mul (by exact aq (aB ho (bc hx)) rfl) hz;exact aq (eS hx this) rfl
 unfold o7;rw [if_neg hy,RK hy,if_pos ⟨this,hr⟩]
noncomputable def blank(x:Qy):Qy:=x.map fun b=>if b=9∨b=13 then 32 else b
def wordsOf(x:Qy):List Qy:=(sp [32] 0 (blank x)).filter fun w=>w != []
def OG(hx:x.length≤10000):(ai fu (j + 1)).call 9 [.bytes x] H=.ok (.fl ((wordsOf x).map .bytes)) H:=by
 have e1:rp [9] [32] 0 x=x.map fun b=>if b=9 then 32 else b:=HI 9 32 x
 have e2:rp [13] [32] 0 (x.map fun b=>if b=9 then 32 else b)=blank x:=by
  rw [HI,ju];refine Fs fun b _=>?_;show (if (if b=9 then 32 else b)=13 then 32 else (if b=9 then 32 else b))=_;by_cases h9:b=9
  ·subst h9;decide
  ·rw [if_neg h9];by_cases fz:b=13
   ·subst fz;decide
   ·exact (if_neg fz).trans (if_neg (fun q=>q.elim h9 fz)).symm
 have hb:(blank x).length=x.length:=aQ _;have r1:dv .replace (.bytes x) [.bytes [9],.bytes [32]] H=_:=u5 (by decide) (by exact aq hx rfl) (by decide) (by rw [e1,aQ];exact aq hx rfl);have r2:dv .replace (.bytes (x.map fun b=>if b=9 then 32 else b)) [.bytes [13],.bytes [32]] H=_:=u5 (by decide) (by rw [aQ];exact aq hx rfl) (by decide) (by rw [e2,hb];exact aq hx rfl);have r3:dv .split (.bytes (blank x)) [.bytes [32]] H=_:=GU (by decide) (by exact aq (aB (dM hb) hx) rfl) (by decide);rw [e1] at r1;rw [e2] at r2;have gu:(sp [32] 0 (blank x)).length≤16777216:=by have:=uW [32] (blank x) 0;exact aq (aB this (bc (aB (dM hb) hx))) rfl
 have hm:=m4 (test:=fun sl H=>fK (ai fu j) (.cons (.cmp .ne (.var 0) (.y [])) .nil) sl H) (elt:=fun sl H=>ao (ai fu j) (.var 0) sl H) (sl:=[some (.bytes x)]) (H:=H) (p:=fun v=>match v with|.bytes b=>b != []|_=>false) (g:=fun v=>v) (l:=(sp [32] 0 (blank x)).map .bytes)
  (fun v hv=>by
   refine J (b7.mp hv) fun b hb z2=>?_;subst z2;exact all1 (bD rfl rfl))
  (fun v hv _=>rfl)
 have WW:(NM (fun v=>match v with|PV.bytes b=>b != []|_=>false) ((sp [32] 0 (blank x)).map .bytes)).map (fun v=>v)=(wordsOf x).map .bytes:=by rw [A4,Fy];rfl
 rw [WW] at hm;have pz:((sp [32] 0 (blank x)).map PV.bytes).length≤aC:=bw (by rw [aQ];exact gu);have VE:((wordsOf x).map PV.bytes).length≤aC:=bw (by rw [aQ];exact aB (oQ _ _) gu);refine (e_ rfl rfl).trans ?_;apply jl
 case hl=>rfl
 delta f9;exact b9 (ly (fW (b4 (b4 (b4 (am rfl) rfl (be (be ak)) r1) rfl (be (be ak)) r2) rfl (be ak) r3) rfl) pz hm VE)
end
section
noncomputable def clean(w:Qy):Prop:=∀ c∈w,c≠9∧c≠13∧c≠32∧c≠10
noncomputable def nj(s:Qy):List Qy:=(sp [32] 0 s).filter fun w=>w != []
def yd(b:UInt8)(r:Qy):sp [32] 0 (b::r)=if b=32 then []::sp [32] 0 r else j8 b (sp [32] 0 r):=by
 simp only [sL,qw];by_cases h:b=32
 ·subst h;simp
 ·have:([32]:Qy).isPrefixOf (b::r)=false:=by simp [Ft];exact fun q=>h q.symm
  rw [this];simp [h]
theorem GY:∀ {w:Qy} (s:Qy),clean w→sp [32] 0 (w++32::s)=w::sp [32] 0 s
 | [],s,_=>by rw [sd,yd,if_pos rfl]
 | b::w,s,h=>by
  have hb:=(h b (bC ..)).2.2.1;rw [sg,yd,if_neg hb,GY s fun c hc=>h c (bM _ hc)];rfl
theorem GZ:∀ {w:Qy},clean w→sp [32] 0 w=[w]
 | [],_=>rfl
 | b::w,h=>by
  have hb:=(h b (bC ..)).2.2.1;rw [yd,if_neg hb,GZ fun c hc=>h c (bM _ hc)];rfl
def wz{w:Qy}(s:Qy)(h:clean w)(hn:w≠[]):nj (w++32::s)=w::nj s:=by unfold nj;rw [GY s h,uy,if_pos (by simpa using hn)]
def Yq(s:Qy):nj (32::s)=nj s:=by unfold nj;rw [yd,if_pos rfl,uy,if_neg (by simp)]
def Yp{w:Qy}(h:clean w)(hn:w≠[]):nj w=[w]:=by unfold nj;rw [GZ h];simp [hn]
def Aw(a b:Qy):blank (a++b)=blank a++blank b:=by simp [blank]
def L7{w:Qy}(h:clean w):blank w=w:=by
 unfold blank
 conv=>rhs;rw [←NC w]
 refine Fs fun c hc=>?_;have:=h c hc;rw [if_neg (by rintro (e|e);exact this.1 e;exact this.2.1 e)];rfl
def yM:∀ n∈fU++lX++kE,∀ c∈bu n,c≠9∧c≠13∧c≠32∧c≠10:=by decide
def IC:∀ n∈fU++kE,bu n≠[]:=by decide
def Bp{b:Qy}{n:Qn}(h:Wd b n v):clean b∧b≠[]:=by
 have cn:∀ n∈fU,clean (bu n):=fun n hn=>yM n (by simp [hn]);have cw:∀ n∈lX,clean (bu n):=fun n hn=>yM n (by simp [hn]);have ne:∀ n∈fU,bu n≠[]:=fun n hn=>IC n (by simp [hn]);induction h with
 | set h=>exact ⟨cn _ h,ne _ h⟩
 | off h=>exact ⟨fun c hc=>by rcases cA.mp hc with rfl|hc;decide;exact cn _ h c hc,by simp⟩
 | un h=>exact ⟨fun c hc=>by rcases cA.mp hc with rfl|hc;decide;exact cn _ h c hc,by simp⟩
 | val h h'=>exact ⟨fun c hc=>by
   rcases cy.mp hc with hc|hc
   ·exact cn _ h c hc
   ·rcases cA.mp hc with rfl|hc;decide;exact cw _ h' c hc,by simp⟩
theorem KZ:∀ {ws:List WS} {w e:Qy},(∀ w∈ws,im w)→clean w→w≠[]→e∈kS→nj (w++(blank (bT ws)++blank e))=w::ws.map fun z=>z.2.1
 | [],w,e,_,hc,hn,he=>by
  simp [kS] at he;rcases he with rfl|rfl|rfl
  ·simp [bT,blank];exact Yp hc hn
  ·simp only [bT,blank,A3,aer,sd,da];exact wz [] hc hn
  ·simp only [bT,blank,A3,aer,sd,da];exact wz [] hc hn
 | z::ws,w,e,hw,hc,hn,he=>by
  have hz:=hw z (bC ..);have hb:=Bp hz.2;have ih:=KZ (ws:=ws) (w:=z.2.1) (e:=e) (fun x hx=>hw x (bM _ hx)) hb.1 hb.2 he;have ht:bT (z::ws)=z.1++(z.2.1++bT ws):=by simp [bT]
  rw [ht,Aw,Aw,L7 hb.1,da,←ih];have hs:=hz.1;simp [o6] at hs;rcases hs with e'|e'|e'
  ·rw [e'];simp only [dz];exact wz _ hc hn
  ·rw [e'];simp only [dz];exact wz _ hc hn
  ·rw [e'];simp only [dz];show nj (w++32::(32::_))=_;rw [wz _ hc hn,Yq];rfl
def Gg{w e:Qy}(h:∀ w∈ws,im w)(hc:clean w)(hn:w≠[])(he:e∈kS):wordsOf (w++bT ws++e)=w::ws.map fun z=>z.2.1:=by unfold wordsOf;rw [Aw,Aw,L7 hc,dz];exact KZ h hc hn he
end
section
def yK{P:Qn→Prop}(h1:P dO)(h2:P l_)(h3:P [120])(h4:P [109])(h5:P lx)(h6:P sU):∀ n∈fU,P n:=by intro n hn;simp [fU] at hn;rcases hn with rfl|rfl|rfl|rfl|rfl|rfl<;>assumption
def sx{P:Qn→Prop}(h1:P [97,117,116,111])(h2:P [108,102])(h3:P [99,114,108,102])(h4:P [])(h5:P [118]):∀ n∈lX,P n:=by intro n hn;simp [lX] at hn;rcases hn with rfl|rfl|rfl|rfl|rfl<;>assumption
def told_set(j:Nat):∀ n∈fU,(ai 400 (j + 4)).call 11 [.bytes (bu n)] []=.ok (.tup [.str n,.bool true]) []:=
 yK (by kernel_rfl) (by kernel_rfl) (by kernel_rfl) (by kernel_rfl) (by kernel_rfl) (by kernel_rfl)
def Pe(j:Nat):∀ n∈fU,(ai 400 (j + 4)).call 11 [.bytes (45::bu n)] []=.ok (.tup [.str n,.bool false]) []:=
 yK (by kernel_rfl) (by kernel_rfl) (by kernel_rfl) (by kernel_rfl) (by kernel_rfl) (by kernel_rfl)
def Pc(j:Nat):∀ n∈fU,(ai 400 (j + 4)).call 11 [.bytes (33::bu n)] []=.ok (.tup [.str n,.none]) []:=
 yK (by kernel_rfl) (by kernel_rfl) (by kernel_rfl) (by kernel_rfl) (by kernel_rfl) (by kernel_rfl)
def Pb(j:Nat):∀ n∈fU,∀ v∈lX,(ai 400 (j + 4)).call 11 [.bytes (bu n++61::bu v)] []=.ok (.tup [.str n,.str v]) []:=
 yK (sx (by kernel_rfl) (by kernel_rfl) (by kernel_rfl) (by kernel_rfl) (by kernel_rfl)) (sx (by kernel_rfl) (by kernel_rfl) (by kernel_rfl) (by kernel_rfl) (by kernel_rfl))
  (sx (by kernel_rfl) (by kernel_rfl) (by kernel_rfl) (by kernel_rfl) (by kernel_rfl)) (sx (by kernel_rfl) (by kernel_rfl) (by kernel_rfl) (by kernel_rfl) (by kernel_rfl))
  (sx (by kernel_rfl) (by kernel_rfl) (by kernel_rfl) (by kernel_rfl) (by kernel_rfl)) (sx (by kernel_rfl) (by kernel_rfl) (by kernel_rfl) (by kernel_rfl) (by kernel_rfl))
def Pa{b:Qy}{n:Qn}(h:Wd b n v):(ai 400 (j + 4)).call 11 [.bytes b] []=.ok (.tup [.str n,v]) []:=by
 induction h with
 | set h=>exact told_set j _ h
 | off h=>exact Pe j _ h
 | un h=>exact Pc j _ h
 | val h h'=>exact Pb j _ h _ h'
end
section
noncomputable def rP(Q:R (Fl×Sl)→Prop)(I:Sl→Hp→Prop):R (Fl×Sl)→Prop
 | .ok (.ret v,sl) H=>Q (.ok (.ret v,sl) H)
 | .ok (_,sl) H=>I sl H
 | .bad H=>Q (.bad H)
 | .no=>False
def ja{Q:R (Fl×Sl)→Prop}{I:Sl→Hp→Prop}{r r':R (Fl×Sl)}(h:r=r')(h':rP Q I r'):rP Q I r:=h ▸ h'
theorem yV{body:Sl→Hp→R (Fl×Sl)}{ce:PV→Sl→Option Sl}{l:Qp}{it:It}(I:Nat→Sl→Hp→Prop)(Q:R (Fl×Sl)→Prop)(at_:∀ i sl H,I i sl H→it.at H i=some l[i]?)(step:∀ (i:Nat) v sl H,l[i]?=some v→I i sl H→∃ jU,ce v sl=some jU∧rP Q (I (i + 1)) (body jU H))(fin:∀ sl H,I l.length sl H→Q (.ok (.next,sl) H)):
  ∀ (fu i:Nat) sl H,i≤l.length→l.length < fu + i→I i sl H→Q (cQ body ce it fu i sl H)
 | 0,i,sl,H,h1,h2,h=>absurd h2 (by lia)
 | fu + 1,i,sl,H,h1,h2,h=>by
  have ha:=at_ i sl H h;generalize e:l[i]?=zz at ha;induction zz using az with
  | none=>
   have:i=l.length:=by have:=NK.mp e;exact Fm h1 this
   subst this;rw [CH ha];exact fin _ _ h
  | some v=>
   have hi:i < l.length:=(cF.mp e).1;refine J (step i v sl H e h) fun jU hb hs=>?_;rw [CG ha,hb];show Q ((body jU H).bind _);generalize Kk:(body jU H)=zz at hs⊢;induction zz with
   | no=>exact hs.elim
   | bad H'=>exact hs
   | ok x H'=>
    obtain ⟨f,aE⟩:=x;induction f with
    | ret v=>exact hs
    | next=>exact yV I Q at_ step fin fu (i + 1) aE H' hi (by lia) hs
    | cont=>exact yV I Q at_ step fin fu (i + 1) aE H' hi (by lia) hs
def n_{body:Sl→Hp→R (Fl×Sl)}(I:Nat→Sl→Hp→Prop)(Q:R (Fl×Sl)→Prop)(step:∀ (i:Nat) v sl H,l[i]?=some v→I i sl H→∃ jU,ce v sl=some jU∧rP Q (I (i + 1)) (body jU H))(fin:∀ sl H,I l.length sl H→Q (.ok (.next,sl) H)):
  ∀ (fu i:Nat) sl H,i≤l.length→l.length < fu + i→I i sl H→Q (cQ body ce (.fix l) fu i sl H):=yV I Q (fun _ _ _ _=>rfl) step fin
end
section
noncomputable def Cr:PV→Bool
 | .none=>false
 | _=>true
def U3(h:Cr v=true):vD v .none=some false:=by induction v using PV.casesOn<;>first|rfl|injection h
def JE(h:eJ v=true):cD H n v=some v:=by induction n using dN<;>induction v using PV.casesOn<;>first|exact if_pos h|cases h
def Y5{row:PV}{P:List (Qy×PV)}(h:∀ p∈P,(ai 400 j).call 11 [.bytes p.1] []=.ok p.2 []∧Cr p.2=true∧eJ p.2=true)(hl:P.length≤100):
  (ai 400 (j + 1)).call 12 [.fl (P.map fun p=>.bytes p.1),row] []=.ok (.loc 0) [.list (P.map (·.2))]:=by
 have hL:(P.map fun p=>PV.bytes p.1).length=P.length:=aQ _;have key:=n_ (body:=fun sl H=>aA (ai 400 j) 400 (.asg 4 (.call .pure 11 (.cons (.var 3) .nil)) (.ifs (.cmp .is (.var 4) (.cst .none)) (.raise (.var 1)) .nil (.expr (.gq .append (.var 2) (.cons (.var 4) .nil)) .nil))) sl H)
  (ce:=fun v sl=>some (cX sl 3 v)) (l:=P.map fun p=>.bytes p.1)
  (fun i sl H=>∃ s3 s4,sl=[some (.fl (P.map fun p=>.bytes p.1)),some row,some (.loc 0),s3,s4]∧H=[.list ((P.take i).map (·.2))])
  (fun r=>∃ sl,r=.ok (.next,sl) [.list (P.map (·.2))]∧dD sl 2=some (.loc 0))
  (fun i v sl H hv ⟨s3,s4,e1,e2⟩=>by
   refine ay (cF.mp hv) fun hi hv=>?_;rw [oR] at hv;rw [aQ] at hi;have ht:(P.take (i + 1)).map (·.2)=(P.take i).map (·.2)++[P[i].2]:=by rw [r_ hi,nI];rfl
   refine cG (h P[i] (nJ hi)) fun h1 h2 h3=>?_;have kK:((P.take i).map (·.2)).length < aC:=kZ (show _≤100 by rw [aQ,kj];exact aq (yP hl) rfl) (by decide);have hz:cD [] 4 P[i].2=some P[i].2:=JE h3;rw [ht];generalize P[i]=p at *;generalize (P.take i).map (·.2)=T at *;refine ⟨[some (.fl (P.map fun p=>.bytes p.1)),some row,some (.loc 0),some (.bytes p.1),s4],by rw [←hv,e1];rfl,?_⟩;rw [e2];exact ja (bQ (ip (aF rfl ak) (jc rfl h1 hz)) (b5 (bD rfl (U3 h2)) aW (kC (b4 (am rfl) (ol (n:=0) rfl) (aF rfl ak) (tb (n:=0) rfl kK)) aW))) ⟨_,_,rfl,rfl⟩)
  (fun sl H ⟨s3,s4,e1,e2⟩=>⟨sl,by rw [e2,hL,mN],by rw [e1];rfl⟩)
  400 0 [some (.fl (P.map fun p=>.bytes p.1)),some row,some (.loc 0),none,none] [.list []] (cE _) (by rw [hL];exact iI hl rfl) ⟨none,none,rfl,rfl⟩
 refine J key fun sl e hs=>?_;clear key;refine (e_ rfl rfl).trans ?_;apply jl
 case hl=>rfl
 delta tN;exact bQ (o8 ak (cE _)) (lB (fW (am rfl) rfl) e (b9 (am hs)))
end
section
theorem Ls{p:UInt8→Bool}:∀ {e:Qy} (l:Qy),(∀ c∈e,p c=true)→(e++l).dropWhile p=l.dropWhile p
 | [],_,_=>rfl
 | c::e,l,h=>by
  rw [sg,NP,if_pos (h c (bC ..))];exact Ls l fun x hx=>h x (bM _ hx)
def strip_eq{p:UInt8→Bool}{a b:UInt8}{u e m:Qy}(h1:u=a::m)(h2:∃ m',u=m'++[b])(ha:p a=false)(hb:p b=false)(he:∀ c∈e,p c=true):(((u++e).dropWhile p).reverse.dropWhile p).reverse=u:=by
 have d1:(u++e).dropWhile p=u++e:=by rw [h1,sg,NP,if_neg (by simp [ha])]
 rw [d1,Nz,Ls _ (fun c hc=>he c (p8.mp hc))];refine ay h2 ?_;clear h2;intro m' h2;have d2:u.reverse.dropWhile p=u.reverse:=by rw [h2,Nz];simp [NP,hb]
 rw [d2,AY]
theorem GG:∀ {ws:List WS},(∀ w∈ws,im w)→ws≠[]→∃ m b,bT ws=m++[b]∧b≠9∧b≠13∧b≠32
 | [],_,h=>absurd rfl h
 | [z],hw,_=>by
  have hb:=Bp (hw z (bC ..)).2;rcases aex z.2.1 with e|⟨m,b,e⟩
  ·exact absurd e hb.2
  ·refine ⟨z.1++m,b,by simp [bT,e],?_⟩;have:=hb.1 b (by rw [e];simp);exact ⟨this.1,this.2.1,this.2.2.1⟩
 | z::z'::ws,hw,_=>by
  refine ch (GG (ws:=z'::ws) (fun x hx=>hw x (bM _ hx)) (by simp)) fun m b e h=>?_;refine ⟨z.1++z.2.1++m,b,?_,h⟩;have:bT (z::z'::ws)=z.1++z.2.1++bT (z'::ws):=by simp [bT]
  rw [this,e];simp
def P2{p e:Qy}(hw:∀ w∈ws,im w)(hn:ws≠[])(hp:clean p)(q5:p≠[])(he:e∈kS)(hl:(p++bT ws++e).length≤10000):
  lN .strip (p++bT ws++e) [32,9,13] H=.ok (.bytes (p++bT ws)) H:=by
 unfold lN;rw [if_pos ⟨by show _≤16777216;exact aq hl rfl,by show _≤16777216;simp⟩];simp only;refine ch (GG hw hn) fun m b et hb=>?_;obtain ⟨a,p',rfl⟩:∃ a p',p=a::p':=by induction p using bj with|nil=>exact absurd rfl q5|cons a p'=>exact ⟨a,p',rfl⟩
 have ha:=hp a (bC ..);have hs:=strip_eq (p:=[32,9,13].contains) (u:=a::p'++bT ws) (e:=e) (a:=a) (b:=b) (m:=p'++bT ws) rfl ⟨a::p'++m,by rw [et];simp⟩ (by simp [ha]) (by simp [hb]) (fun c hc=>by
  simp [kS] at he;rcases he with rfl|rfl|rfl<;>simp at hc<;>subst hc<;>decide)
 rw [hs]
end
section
noncomputable def kX:List Qy:=[[42],[97],[42,46,98],[63],[47,97],[100,47,97],[101,47,42],[100,47,42,47,42,46,98],[47,42,46,98],[47,100,47,101,47,97,46,98],[42,97,42],[100,47],[42,47]]
noncomputable def dy:List Qy:=[[],[100],[100,47,101]]
def fieldsOf(pat folder:Qy)(vals:PV):Qm:=match mf (ai 400 5) 1 [.bytes pat,.bytes folder,vals] [] with
 | .ok _ [.inst _ l]=>l
 | _=>[]
def gw{P:Qy→Prop}(h1:P [])(h2:P [100])(h3:P [100,47,101]):∀ f∈dy,P f:=by intro f hf;simp [dy] at hf;rcases hf with rfl|rfl|rfl<;>assumption
def tZ{P:Qy→Prop}(h1:P [42])(h2:P [97])(h3:P [42,46,98])(h4:P [63])(h5:P [47,97])(h6:P [100,47,97])(h7:P [101,47,42])(h8:P [100,47,42,47,42,46,98])(h9:P [47,42,46,98])(wm:P [47,100,47,101,47,97,46,98])(wl:P [42,97,42])(pK:P [100,47])(fz:P [42,47]):∀ p∈kX,P p:=by intro p hp;simp [kX] at hp;rcases hp with rfl|rfl|rfl|rfl|rfl|rfl|rfl|rfl|rfl|rfl|rfl|rfl|rfl<;>assumption
def Rz(j:Nat)(us:Qp):∀ p∈kX,∀ f∈dy,mf (ai 400 (j + 5)) 1 [.bytes p,.bytes f,.fl us] []=.ok (.loc 0) [.inst 1 (fieldsOf p f (.fl us))]:=by refine tZ ?_ ?_ ?_ ?_ ?_ ?_ ?_ ?_ ?_ ?_ ?_ ?_ ?_<;>refine gw ?_ ?_ ?_<;>kernel_rfl
end
section
def HC(us:Qp):∀ p∈kX,∀ f∈dy,jV (fieldsOf p f (.fl us))=(dU us&&true):=by refine tZ ?_ ?_ ?_ ?_ ?_ ?_ ?_ ?_ ?_ ?_ ?_ ?_ ?_<;>refine gw ?_ ?_ ?_<;>kernel_rfl
def zL(h:eJ v=true):cD H n v=some v:=JE h
theorem ES{H:Hp}{n:Nat}:∀ {l:Qm},jV l=true→lP (l.map fun p=>(p.1,cD H n p.2))=some l
 | [],_=>rfl
 | (k,v)::l,h=>by
  rw [da,zL (aL h)];exact congrArg (jq ((k,v)::·)) (ES (aR h))
def RA{us:Qp}{p:Qy}(hp:p∈kX)(hf:f∈dy)(hu:dU us=true):
  runC .pure (mf (ai 400 (j + 5)) 1) [.bytes p,.bytes f,.fl us] H=.ok (.fi 1 (fieldsOf p f (.fl us))) H:=by
 have qZ:jV (fieldsOf p f (.fl us))=true:=by rw [HC us p hp f hf,hu];rfl
 exact jc (show (dU us&&true)=true by rw [hu];rfl) (Rz j us p hp f hf) (congrArg (jq (PV.fi 1)) (ES qZ))
end
section
def ve{k:Nat}{x:List ub×PS}(h1:mh[k]?=some x)(h2:pn[k]?=some np):(ai fu (j + 1)).own c k vs H=gn (ai fu j) fu x.2 np x.1.length vs H:=by show (match mh[k]?,pn[k]? with|some x,some np=>gn (ai fu j) fu x.2 np x.1.length vs H|_,_=>.no)=_;rw [h1,h2]
theorem Cb{α:Type}(f:α→Qy):∀ l:List α,dU (l.map fun a=>.bytes (f a))=true
 | []=>rfl
 | a::l=>Cb f l
def Gi{b:Qy}{n:Qn}(h:Wd b n v):eJ v=true∧nh v=true:=by induction h<;>exact ⟨rfl,rfl⟩
theorem Bv:∀ {ws:List WS},(∀ w∈ws,im w)→dU (toldOf ws)=true∧kN (toldOf ws)=true
 | [],_=>⟨rfl,rfl⟩
 | w::ws,h=>by
  have ih:=Bv (ws:=ws) fun x hx=>h x (bM _ hx);have h0:=Gi (h w (bC ..)).2;exact ⟨by show ((eJ w.2.2.2&&true)&&dU (toldOf ws))=true;rw [h0.1,ih.1];rfl,by show ((nh w.2.2.2&&true)&&kN (toldOf ws))=true;rw [h0.2,ih.2];rfl⟩
def Lb(h:∀ w∈ws,im w)(hl:ws.length≤100):
  runC .pure ((ai 400 (j + 5)).call 12) [.fl (ws.map fun z=>.bytes z.2.1),.bytes row] H=.ok (.fl (toldOf ws)) H:=by
 have e:=Y5 (j:=j + 4) (row:=.bytes row) (P:=ws.map fun z=>(z.2.1,PV.tup [.str z.2.2.1,z.2.2.2])) (fun p hp=>by
  refine J (b7.mp hp) fun z hz z2=>?_;subst z2;have JK:=(h z hz).2;exact ⟨Pa (j:=j) JK,rfl,show (eJ z.2.2.2&&true)=true by rw [(Gi JK).1];rfl⟩) (by rw [aQ];exact hl)
 rw [ju,ju] at e;have ht:=(Bv h).1;have mz:∀ {l:Qp},dU l=true→eR (l.map (cD [.list (toldOf ws)] 3))=some l:=by
  intro l;induction l with
  | nil=>intro _;rfl
  | cons v l ih=>intro hv;rw [da,zL (aL hv)];exact congrArg (jq (v::·)) (ih (aR hv))
 exact jc (show (dU (ws.map fun z=>PV.bytes z.2.1)&&true)=true by rw [Cb (fun z:WS=>z.2.1)];rfl) e (congrArg (jq PV.fl) (mz ht))
end
section
noncomputable def W5:Qy→Bool
 | []=>false
 | a::_=>!(a==34)&&(!(a==33)&&(!(a==35)&&!(a==91)))
def yL{a b:UInt8}(h:(!(a==b))=true):a≠b:=fun e=>by subst e;rw [beq_self_eq_true] at h;injection h
def yx(p:Qy)(hp:p∈ku):p∈kX∧p.length≤10∧∃ a m,p=a::m∧a≠34∧a≠33∧a≠35∧a≠91:=by
 refine cG ((by decide:∀ p∈ku,p∈kX∧p.length≤10∧W5 p=true) p hp) fun h1 h2 h3=>?_;induction p using bj with
 | nil=>injection h3
 | cons a m=>exact ⟨h1,h2,a,m,rfl,yL (aL h3),yL (aL (aR h3)),yL (aL (aR (aR h3))),yL (aR (aR (aR h3)))⟩
def Cg:∀ p∈ku,∀ c∈p,c≠9∧c≠13∧c≠32∧c≠10:=by decide
def sJ(hx:x.length≤100000)(hy:y.length≤100000):lN .starts x y H=.ok (.bool (decide (y.length≤x.length)&&x.take y.length==y)) H:=by unfold lN;rw [if_pos ⟨by show _≤16777216;exact aq hx rfl,by show _≤16777216;exact aq hy rfl⟩]
def aaa(a:α)(l:List α):cut (a::l) (some 1) none=l:=by have:ig (l.length + 1) 1=1:=(Aj (l.length + 1) 1).trans (AU (xr 1 _));show ((a::l).drop (ig (l.length + 1) 1)).take (l.length + 1 - ig (l.length + 1) 1)=l;rw [this];exact mN
def He{a:PV}(h:l.length + 1≤aC):gU (.fl (a::l)) (.int 1) .none H=some (.fl l):=(if_pos h).trans (congrArg (fun z=>some (PV.fl z)) (aaa a l))
def Jo{a:PV}(h:l.length≤1000):kM (.fl (a::l)) (.int 0) H=some a:=zb (l:=a::l) (i:=0) (Ff _) (Nat.succ_le_of_lt (kZ h (by decide)))
def Gf{w:Qy}(hx:x.length≤10000)(h:wordsOf x=w::ws.map fun z=>z.2.1):runC .pure ((ai 400 (j + 1)).call 9) [.bytes x] H=.ok (.fl (.bytes w::ws.map fun z=>.bytes z.2.1)) H:=by have e:=OG (fu:=400) (j:=j) (H:=[]) hx;rw [h,da,ju] at e;exact jc rfl e (zL (show (true&&dU (ws.map fun z=>PV.bytes z.2.1))=true by rw [Cb (fun z:WS=>z.2.1)];rfl))
def TJ{self:PV}{p:Qy}(hp:p∈ku)(hf:f∈dy)(hw:∀ w∈ws,im w)(hl:ws.length≤2):
  (ai 400 (j + 6)).own 2 3 [self,.bytes (p++bT ws),.bytes f] H=.ok (.fi 1 (fieldsOf p f (.fl (toldOf ws)))) H:=by
 refine cG (yx p hp) fun q0 jf z3=>?_;refine i_ z3 fun a m e Kx Ky _ _=>?_;clear z3;have ht:=qr hw;have oh:(p++bT ws).length≤100:=by rw [bP];exact aq (eS jf (aB ht (mulL hl))) rfl
 have st:∀ (b:UInt8) (y:Qy),a≠b→((decide (([b]:Qy).length≤(a::y).length))&&(a::y).take ([b]:Qy).length==[b])=false:=fun b y h=>by
  rw [show ((a::y).take ([b]:Qy).length==[b])=false from beq_eq_false_iff_ne.mpr fun q=>h (by injection q),xF]
 have s1:dv .starts (.bytes (p++bT ws)) [.bytes [34]] H=.ok (.bool false) H:=(sJ (by exact aq oh rfl) (by decide)).trans (by rw [e];exact congrArg (fun b=>R.ok (PV.bool b) H) (st 34 _ Kx));have s2:dv .starts (.bytes p) [.bytes [33]] H=.ok (.bool false) H:=(sJ (by exact aq jf rfl) (by decide)).trans (by rw [e];exact congrArg (fun b=>R.ok (PV.bool b) H) (st 33 _ Ky));have w2:=Gg (e:=[]) hw (Cg p hp) (by rw [e];exact xx _ _) (by decide);rw [gP] at w2;have w9:=Gf (j:=j + 4) (H:=H) (aB oh (by decide)) w2;have tN:=Lb (j:=j) (row:=p++bT ws) (H:=H) hw (by exact aq hl rfl);have rf:=RA (j:=j) (H:=H) q0 hf (Bv hw).1;have kJ:(ws.map fun z=>PV.bytes z.2.1).length≤2:=by rw [aQ];exact hl
 have ix:=Jo (a:=PV.bytes p) (H:=H) (aB kJ (by decide));have sl:=He (a:=PV.bytes p) (H:=H) (bw (show (ws.map fun z=>PV.bytes z.2.1).length + 1≤16777216 by exact aq (bc kJ) rfl));refine (ve (k:=3) rfl rfl).trans ?_;apply jl
 case hl=>rfl
 delta IN;exact b5 (nQ (b4 (am rfl) rfl (be ak) s1)) (bQ (ip (aF rfl ak) w9) (jE (cB (aX (cI rfl ix) (aX (nX (am rfl) aO aO sl) ak))) rfl aW))
  (b5 (nQ (b4 (am rfl) rfl (be ak) s2)) aW (b9 (B7 (aF rfl (aF rfl (aX (ip (aF rfl (aF rfl ak)) tN) ak))) rf)))
end
section
def T1{P:Qn→Prop}(h1:P [109])(h2:P lx)(h3:P [120]):∀ n∈kE,P n:=by intro n hn;have:=(by decide:∀ n∈kE,n=[109]∨n=lx∨n=[120]) n hn;rcases this with rfl|rfl|rfl<;>assumption
def Tv(j:Nat):∀ n∈kE,(ai 400 (j + 4)).call 10 [.bytes (bu n)] []=.ok (.str n) []:=T1 (by kernel_rfl) (by kernel_rfl) (by kernel_rfl)
def CE:∀ n∈kE,(bu n).length≤10:=by decide
def Z'(a b c d e f:α)(l:List α):cut (a::b::c::d::e::f::l) (some 6) none=l:=by have:ig (l.length + 6) 6=6:=(Aj (l.length + 6) 6).trans (AU (xr 6 _));show ((a::b::c::d::e::f::l).drop (ig (l.length + 6) 6)).take (l.length + 6 - ig (l.length + 6) 6)=l;rw [this];exact mN
def TN{self:PV}{n:Qn}(hn:n∈kE)(hw:∀ w∈ws,im w)(hl:ws.length≤2):
  (ai 400 (j + 6)).own 2 2 [self,.bytes (iY++bu n++bT ws),.bytes []] H=.ok (.tup [.str n,.fl (toldOf ws)]) H:=by
 have ht:=qr hw;have mx:=CE n hn;have oh:(bu n++bT ws).length≤100:=by rw [bP];exact aq (eS mx (aB ht (mulL hl))) rfl
 have w2:=Gg (w:=bu n) (e:=[]) hw (yM n (eW _ hn)) (IC n (eW _ hn)) (by decide);rw [gP] at w2;have w9:=Gf (j:=j + 4) (H:=H) (aB oh (by decide)) w2;have tN:=Lb (j:=j) (row:=iY++bu n++bT ws) (H:=H) hw (by exact aq hl rfl);have nm:runC .pure ((ai 400 (j + 5)).call 10) [.bytes (bu n)] H=.ok (.str n) H:=jc rfl (Tv (j + 1) n hn) rfl;have kJ:(ws.map fun z=>PV.bytes z.2.1).length≤2:=by rw [aQ];exact hl
 have ix:=Jo (a:=PV.bytes (bu n)) (H:=H) (aB kJ (by decide));have s1:=He (a:=PV.bytes (bu n)) (H:=H) (bw (show (ws.map fun z=>PV.bytes z.2.1).length + 1≤16777216 by exact aq (bc kJ) rfl));have s6:gU (.bytes (iY++bu n++bT ws)) (.int 6) .none H=some (.bytes (bu n++bT ws)):=(if_pos (bw (by rw [dz,bP];show 6 + _≤16777216;exact aq (addQ oh) rfl))).trans (congrArg (fun z=>some (PV.bytes z)) (by rw [dz];exact Z' _ _ _ _ _ _ _));generalize iY++bu n++bT ws=row at *;refine (ve (k:=2) rfl rfl).trans ?_;apply jl
 case hl=>rfl
 delta IP;exact bQ (ip (aX (nX (am rfl) aO aO s6) ak) w9) (bQ (sW (bX (am rfl) (fJ ak (cE _)) rfl) (ip (aX (cI rfl ix) ak) nm))
  (b5 (fF (o1 (bD rfl rfl) (gB (bD rfl rfl)))) aW (b9 (cB (aF rfl (aX (ip (aX (nX (am rfl) aO aO s1) (aF rfl ak)) tN) ak))))))
end
section
def G5(b:UInt8)(r:Qy):sp [10] 0 (b::r)=if b=10 then []::sp [10] 0 r else j8 b (sp [10] 0 r):=by
 simp only [qw];by_cases h:b=10
 ·subst h;simp
 ·have:([10]:Qy).isPrefixOf (b::r)=false:=by simp [Ft];exact fun q=>h q.symm
  rw [this];simp [h]
theorem G0:∀ {w:Qy} (s:Qy),(∀ c∈w,c≠10)→sp [10] 0 (w++10::s)=w::sp [10] 0 s
 | [],s,_=>by rw [sd,G5,if_pos rfl]
 | b::w,s,h=>by
  have hb:=h b (bC ..);rw [sg,G5,if_neg hb,G0 s fun c hc=>h c (bM _ hc)];rfl
theorem CW:∀ {l:List Qy},l≠[]→ji [10] l++[10]=(l.map fun w=>w++[10]).flatten
 | [],h=>absurd rfl h
 | [a],_=>by simp [ji]
 | a::b::l,_=>by
  have ih:=CW (l:=b::l) (by simp);have:ji [10] (a::b::l)=a++(10::ji [10] (b::l)):=by simp [ji]
  rw [this,da,se,←ih];simp
theorem GX:∀ {l:List Qy},(∀ w∈l,∀ c∈w,c≠10)→sp [10] 0 ((l.map fun w=>w++[10]).flatten)=l++[[]]
 | [],_=>rfl
 | a::l,h=>by
  rw [da,se,dz];show sp [10] 0 (a++10::_)=_;rw [G0 _ (h a (bC ..))];show a::sp [10] 0 ((l.map fun w=>w++[10]).flatten)=_;rw [GX fun w hw=>h w (bM _ hw)];rfl
inductive fS where
 | skip|cY (n:List Nat) (v:PV)|rule (v:PV)|bad
noncomputable def isBad:fS→Bool
 | .bad=>true
 | _=>false
noncomputable def iJ(l:List fS):Qp:=l.filterMap fun x=>match x with|.rule v=>some v|_=>none
noncomputable def gr(l:List fS):Qm:=l.filterMap fun x=>match x with|.cY n v=>some (n,v)|_=>none
noncomputable def gs(l:Qm):Qp:=l.map fun p=>.tup [.str p.1,p.2]
noncomputable def li(r:Qy):Qy:=((r.dropWhile ([32,9,13]:Qy).contains).reverse.dropWhile ([32,9,13]:Qy).contains).reverse
inductive Line(f:List UInt8):List UInt8→fS→Prop
 | none {r:List UInt8}:li r=[]→Line f r .skip
 | rem {r m:List UInt8}:li r=35::m→Line f r .skip
 | cY {r m:List UInt8} {n:List Nat} {v:PV}:li r=iY++m→(∀ j self H,(ai 400 (j + 6)).own 2 2 [self,.bytes (iY++m),.bytes f] H=.ok (.tup [.str n,v]) H)→Line f r (.cY n v)
 | pk {r m:List UInt8}:li r=iY++m→(∀ j self H,(ai 400 (j + 6)).own 2 2 [self,.bytes (iY++m),.bytes f] H=.bad H)→Line f r .bad
 | rule {r m:List UInt8} {a:UInt8} {v:PV}:li r=a::m→a≠35→a≠91→(∀ j self H,(ai 400 (j + 6)).own 2 3 [self,.bytes (a::m),.bytes f] H=.ok v H)→Line f r (.rule v)
 | nU {r m:List UInt8} {a:UInt8}:li r=a::m→a≠35→a≠91→(∀ j self H,(ai 400 (j + 6)).own 2 3 [self,.bytes (a::m),.bytes f] H=.bad H)→Line f r .bad
def GP{r:Qy}(h:r.length≤10000):lN .strip r [32,9,13] H=.ok (.bytes (li r)) H:=by unfold lN;rw [if_pos ⟨by show _≤16777216;exact aq h rfl,by show _≤16777216;simp⟩];rfl
def P1(r:Qy):(li r).length≤r.length:=by unfold li;rw [i6];exact aB (FA _).length_le (by rw [i6];exact (FA _).length_le)
def Ub{body:Sl→Hp→R (Fl×Sl)}(I:Nat→Sl→Hp→Prop)(Q:R (Fl×Sl)→Prop)(at_:∀ i sl H,I i sl H→H[n]?=some (.list l))(step:∀ (i:Nat) v sl H,l[i]?=some v→I i sl H→∃ jU,ce v sl=some jU∧rP Q (I (i + 1)) (body jU H))(fin:∀ sl H,I l.length sl H→Q (.ok (.next,sl) H)):
  ∀ (fu i:Nat) sl H,i≤l.length→l.length < fu + i→I i sl H→Q (cQ body ce (.dyn n) fu i sl H):=
 yV I Q (fun i sl H h=>by show (match H[n]? with|some (.list l)=>some l[i]?|_=>none)=_;rw [at_ i sl H h]) step fin
def oq{l t:List α}{x:α}(h:l[n]?=some x):(l++t)[n]?=some x:=by rw [eX (cF.mp h).1];exact h
def zK{l:List α}{x y:α}:(l++[x,y])[l.length]?=some x:=by simp
def wt{l:List α}{x y:α}:(l++[x,y])[l.length + 1]?=some y:=by simp
def Rh{l:List α}{x y z:α}:(l++[x,y]).set l.length z=l++[z,y]:=by simp
def Rg{l:List α}{x y z:α}:(l++[x,y]).set (l.length + 1) z=l++[x,z]:=by simp
def yk{l t:List α}{z:α}(h:n < l.length):(l++t).set n z=l.set n z++t:=ad_ _ _ h
noncomputable abbrev fM:Qn:=[114,117,108,101,115]
noncomputable abbrev fV:Qn:=[109,97,99,114,111,115]
end
section
def GM(l:List Qy):(l.map i7).sum=l.flatten.length:=List.length_flatten.symm
def UR(h:∀ z∈zs,im z)(hl:zs.length≤10):ml [] (.fl (zs.map fun z=>.bytes (z.1++z.2.1))) H=.ok (.bytes (bT zs)) H:=by
 have ht:=qr h;have hf:(zs.map fun z=>z.1++z.2.1).flatten=bT zs:=rfl;show (match bytesOf (zs.map fun z=>PV.bytes (z.1++z.2.1)) with|some ps=>_|.none=>R.no)=_;rw [As (fun z:WS=>z.1++z.2.1) zs];show (if _ then R.ok (PV.bytes (je [] (zs.map fun z:WS=>z.1++z.2.1))) H else R.no)=_;have hL:(bT zs).length≤16777216:=by exact aq (aB ht (mulL hl)) rfl
 rw [Jn,GM,hf];exact if_pos ⟨by rw [aQ];exact aq hl rfl,by rw [p9,adQ];exact hL,hL⟩
def Pj:fm (iD O .nil) (gM O (.tup (.cons (.idx (.var 0) (.i 1)) (.cons (.idx (.var 0) (.i 2)) .nil)))) sl (zs.map lh) H=.ok (toldOf zs) H:=by
 have hm:=m4 (test:=iD O .nil) (elt:=gM O (.tup (.cons (.idx (.var 0) (.i 1)) (.cons (.idx (.var 0) (.i 2)) .nil)))) (sl:=sl) (H:=H) (p:=fun _=>true)
  (g:=fun v=>match v with|.tup [_,a,b]=>.tup [a,b]|_=>.none) (l:=zs.map lh) (fun _ _=>rfl) (fun v hv _=>by
   refine J (b7.mp hv) fun z hz z2=>?_;subst z2;exact cB (aX (cI rfl rfl) (aX (cI rfl rfl) ak)))
 rw [hm,Fz.mpr (fun _ _=>rfl),ju];rfl
def Lm:∀ n∈kS,n.length≤1:=by decide
def T0:∀ n∈kE,∀ c∈n,c < 128:=by decide
def S7(n:Qn):(bu n).length=n.length:=by simp [bu]
noncomputable def wA:PS:=.f (.d (.c (.p .eq (.v 1) (.y [])) (.j (.p .eq (.l .aG 19 (.c (.v 0) (.j (.i 5)))) (.i 0))))) (.g 5 (.l .aG 20 (.c (.v 0) (.j (.list false (.c (.s [109]) (.c (.s [109]) (.c (.s [98,105,110,97,114,121]) (.j (.s [120]))))))))) (.r (.tup (.c (.q .add false (.q .add false (.y [91,97,116,116,114,93]) (.l .pure 21 (.j (.v 5)))) (.v 3)) (.j (.tup (.c (.b true) (.c (.v 5) (.j (.v 4)))))))))) .nil (.f (.p .eq (.l .aG 19 (.c (.v 0) (.j (.i 9)))) (.i 0)) (.r (.tup (.c (.l .aG 20 (.c (.v 0) (.j (.list false (.c (.y []) (.c (.y [35,32,97,32,120]) (.c (.y [32,32]) (.c (.y [97]) (.c (.y [100,47,32,120]) (.j (.y [42,47,32,45,120]))))))))))) (.j .w)))) .nil (.g 6 (.l .aG 20 (.c (.v 0) (.j (.list false (.c (.y [42]) (.c (.y [97]) (.c (.y [42,46,98]) (.c (.y [63]) (.c (.y [47,97]) (.c (.y [100,47,97]) (.c (.y [101,47,42]) (.c (.y [100,47,42,47,42,46,98]) (.c (.y [47,42,46,98]) (.c (.y [47,100,47,101,47,97,46,98]) (.j (.y [42,97,42])))))))))))))))) (.r (.tup (.c (.q .add false (.q .add false (.v 6) (.v 3)) (.l .aG 20 (.c (.v 0) (.j (.list false (.c (.y []) (.c (.y []) (.c (.y [32]) (.j (.y [13])))))))))) (.j (.tup (.c (.b false) (.c (.v 6) (.j (.v 4)))))))))))
noncomputable abbrev yi(f t:Qy)(w o:Qp):Sl:=[some (.loc 1),some (.bytes f),some (.fl w),some (.bytes t),some (.fl o),none,none]
def xU{l:bg}(h0:dD sl 0=some (.loc 1))(h:bB O l sl H=.ok vs H)(hl:vs.length≤aC):bB O (.cons (.var 0) (.cons (.list false l) .nil)) sl H=.ok [.loc 1,.fl vs] H:=
 aX (am h0) (aX (fJ h hl) ak)
def row_end{t':Nat}{rest H0:Hp}{X:Qy}{w:Qp}(dk:d.ok t')(ht:t'≤80000)(hz:∀ z∈zs,im z)(hX:X.length≤100)(Xr:X=bT zs)(hl:zs.length≤2)(vK:zs≠[])(hc:bK (ai fu (j + 3)) (.iF (.cons (.cmp .eq (.var 1) (.y [])) (.cons (.cmp .eq (.call .aG 19 (.cons (.var 0) (.cons (.i 5) .nil))) (.i 0)) .nil))) (yi f X w (toldOf zs)) H0=.ok false (d.hp rest)):
  ∃ (r:Qy) (v:PV) (d':DS) (aE:Sl),aA (ai fu (j + 3)) fu wA (yi f X w (toldOf zs)) H0=.ok (.ret (.tup [.bytes r,v]),aE) (d'.hp rest)∧oK f r v∧d'.ok (t' + 4):=by
 refine bx (nk (fu:=fu) (j:=j + 2) (n:=9) (rest:=rest) dk (by exact aq ht rfl) (by exact eH rfl) (by exact eH rfl)) fun b d' e _ fY=>?_;replace e:(ai fu (j + 3)).call 19 [.loc 1,.int 9] (d.hp rest)=.ok (.int b) (d'.hp rest):=e;by_cases hb:b=0
 ·refine bx (iO (fu:=fu) (j:=j + 1) (rest:=rest) (l:=vi.map .bytes) fY (by exact aq (bc ht) rfl) (by decide) (by decide)) fun x dn en hx ZQ=>?_;refine J (b7.mp hx) fun r hr z2=>?_;subst z2;replace en:(ai fu (j + 3)).call 20 [.loc 1,.fl (vi.map .bytes)] (d'.hp rest)=.ok (.bytes r) (dn.hp rest):=en;refine ⟨r,.none,dn,yi f X w (toldOf zs),?_,.Iw hr,ZQ.mono (by exact iK (b8 (b8 iM (aS _)) (aS _)) rfl)⟩;delta wA;exact b5 hc aW (lA (bX (bL (aF rfl (be ak)) e) aO (tU (congrArg aeK hb))) (b9 (cB (aX (bL (xU rfl (vs:=vi.map .bytes) rfl (bw (by decide))) en) (be ak)))))
 ·refine bx (iO (fu:=fu) (j:=j + 1) (rest:=rest) (l:=ku.map .bytes) fY (by exact aq (bc ht) rfl) (by decide) (by decide)) fun x dp ep hx ZP=>?_;refine J (b7.mp hx) fun p hp z2=>?_;subst z2;refine bx (iO (fu:=fu) (j:=j + 1) (rest:=rest) (l:=kS.map .bytes) ZP (by exact aq (bc (bc ht)) rfl) (by decide) (by decide)) fun x de ee hx ZS=>?_;refine J (b7.mp hx) fun q hq z2=>?_;subst z2;replace ep:(ai fu (j + 3)).call 20 [.loc 1,.fl (ku.map .bytes)] (d'.hp rest)=.ok (.bytes p) (dp.hp rest):=ep;replace ee:(ai fu (j + 3)).call 20 [.loc 1,.fl (kS.map .bytes)] (dp.hp rest)=.ok (.bytes q) (de.hp rest):=ee;have jf:=(yx p hp).2.1;have V1:=Lm q hq;subst Xr;refine ⟨p++bT zs++q,.tup [.bool false,.bytes p,.fl (toldOf zs)],de,[some (.loc 1),some (.bytes f),some (.fl w),some (.bytes (bT zs)),some (.fl (toldOf zs)),none,some (.bytes p)],?_,.rule (ws:=zs) hp hq hz hl vK,ZS.mono (by exact iK (b8 (b8 (b8 iM (aS _)) (aS _)) (aS _)) rfl)⟩;delta wA;exact b5 hc aW (b5 (bX (bL (aF rfl (be ak)) e) aO (tT (fun q=>hb (Int.ofNat.inj q)))) aW
   (bQ (bL (xU rfl (vs:=ku.map .bytes) rfl (bw (by decide))) ep) (b9 (cB (aX (bk (bk (am rfl) (am rfl) (jY (bw (by exact aq (eS jf hX) rfl)))) (bL (xU rfl (vs:=kS.map .bytes) rfl (bw (by decide))) ee) (jY (bw (by rw [bP];exact aq (eS (eS jf hX) V1) rfl))))
    (aX (cB (be (aF rfl (aF rfl ak)))) ak))))))
def RH{rest:Hp}(dk:d.ok t)(ht:t≤70000):
  ∃ (r:Qy) (v:PV) (d':DS),(ai fu (j + 4)).call 23 [.loc 1,.bytes f] (d.hp rest)=.ok (.tup [.bytes r,v]) (d'.hp rest)∧oK f r v∧d'.ok (t + 60):=by
 refine bx (nk (fu:=fu) (j:=j + 2) (n:=2) (rest:=rest) dk (by exact aq ht rfl) (by exact eH rfl) (by exact eH rfl)) fun i d1 e1 hi kU=>?_;refine cO (OH (fu:=fu) (j:=j) (k:=1 + i) (rest:=rest) (f:=.none) (sl:=[some (.bytes f),none,none,none,none,none]) kU (by exact aq (bc ht) rfl) (by exact aq (addQ (gb hi)) rfl)) fun ws d2 e2 hlen VF kT=>?_;refine cO (PH (fu:=fu) (j:=j + 1) (rest:=rest) (sl:=[some (.bytes f),some (.fl (ws.map fun w=>.tup [.bytes w.1,.str w.2.1,w.2.2])),none,none,none,none]) kT (by exact aq (bc (bc ht)) rfl) VF (by exact aq (aB (dM hlen) (addQ (gb hi))) rfl)) fun zs d3 e3 hz C4 nq=>?_;have JI:zs.length=1 + i:=by have:=congrArg i7 C4;rw [aQ,aQ] at this;lia
 have vK:zs≠[]:=by intro q;rw [q] at JI;exact absurd JI (by show ¬ 0=1 + i;lia)
 have pw:zs.length≤2:=by lia
 have hX:=qr hz;have hX:(bT zs).length≤100:=by exact aq (aB hX (mulL pw)) rfl
 rw [C4] at e2 e3;have hr:ma (.int (1 + (i:Int)))=some (.fix ((dR (1 + i)).map fun (k:Nat)=>.int k)):=by show (if -1000000000≤(1 + (i:Int))∧(1 + (i:Int))≤1000000000 then some (It.fix ((dR (1 + (i:Int)).toNat).map fun (k:Nat)=>PV.int k)) else none)=_;rw [if_pos (by lia),show (1 + (i:Int)).toNat=1 + i from by lia]
 replace e1:(ai fu (j + 3)).call 19 [.loc 1,.int 2] (d.hp rest)=.ok (.int i) (d1.hp rest):=e1;replace e2:fm (iD (ai fu (j + 3)) .nil) (gM (ai fu (j + 3)) (.call .aG 22 (.cons (.var 1) .nil))) [some (.loc 1),some (.bytes f),none,none,none,none,none] ((dR (1 + i)).map fun (i:Nat)=>PV.int i) (d1.hp rest)=.ok (zs.map lh) (d2.hp rest):=e2;replace e3:fm (iD (ai fu (j + 3)) .nil) (gM (ai fu (j + 3)) (.bin .add false (.call .aG 20 (.cons (.var 1) (.cons (.list false (.cons (.y [32]) (.cons (.y [9]) (.cons (.y [32,32]) .nil)))) .nil))) (.idx (.var 0) (.i 0)))) [some (.loc 1),some (.bytes f),some (.fl (zs.map lh)),none,none,none,none] (zs.map lh) (d2.hp rest)=.ok (zs.map fun z=>.bytes (z.1++z.2.1)) (d3.hp rest):=e3;have zW:(zs.map lh).length≤aC:=bw (by rw [aQ];exact aq pw rfl);have zB:(zs.map fun z:WS=>PV.bytes (z.1++z.2.1)).length≤aC:=bw (by rw [aQ];exact aq pw rfl);have zT:(toldOf zs).length≤aC:=bw (by unfold toldOf;rw [aQ];exact aq pw rfl);have zR:((dR (1 + i)).map fun (k:Nat)=>PV.int k).length≤aC:=bw (by rw [aQ,uu];exact aq (addQ (gb hi)) rfl);have tc:=Pj (O:=ai fu (j + 3)) (zs:=zs) (sl:=[some (.loc 1),some (.bytes f),some (.fl (zs.map lh)),some (.bytes (bT zs)),none,none,none]) (H:=d3.hp rest);have jt:=UR (H:=d3.hp rest) hz (by exact aq pw rfl);have pre:∀ z,aA (ai fu (j + 3)) fu wA (yi f (bT zs) (zs.map lh) (toldOf zs)) (d3.hp rest)=z→aA (ai fu (j + 3)) fu D3 (lj [.loc 1,.bytes f] 7) (d.hp rest)=z:=fun z h=>by
  delta D3;exact bQ (ly (tt (bk aO (bL (aF rfl (be ak)) e1) gY) hr) zR e2 zW)
   (bQ (b4 aO rfl (aX (ly (fW (am rfl) rfl) zW e3 zB) ak) jt) (bQ (ly (fW (am rfl) rfl) zW tc zT) h))
 clear e1 e2 e3 hr tc jt C4;by_cases pD:f=[]
 ·refine bx (nk (fu:=fu) (j:=j + 2) (n:=5) (rest:=rest) nq (by exact aq (bc (bc (bc ht))) rfl) (by exact eH rfl) (by exact eH rfl)) fun a d4 e4 ha mD=>?_;replace e4:(ai fu (j + 3)).call 19 [.loc 1,.int 5] (d3.hp rest)=.ok (.int a) (d4.hp rest):=e4;have ef:bU .eq (.bytes f) (.bytes []) (d3.hp rest)=some true:=by rw [pD];rfl
  by_cases pH:a=0
  ·refine bx (iO (fu:=fu) (j:=j + 1) (rest:=rest) (l:=kE.map .str) mD (by exact aq (bc (bc (bc (bc ht)))) rfl) (by decide) (by decide)) fun x dm em hx ZR=>?_;refine J (b7.mp hx) fun n hn z2=>?_;subst z2;have yE:=CE n hn;have on:=jc (H:=dm.hp rest) (vs:=[.str n]) rfl (Ck (fu:=fu) (j:=j + 2) (n:=n) (H:=[]) (T0 n hn) (by rw [S7] at yE;exact aq yE rfl)) rfl;replace em:(ai fu (j + 3)).call 20 [.loc 1,.fl (kE.map .str)] (d4.hp rest)=.ok (.str n) (dm.hp rest):=em;refine ⟨iY++bu n++bT zs,.tup [.bool true,.str n,.fl (toldOf zs)],dm,?_,by rw [pD];exact oK.cY (ws:=zs) hn hz pw vK,ZR.mono (by exact iK (b8 (b8 (b8 (b8 (b8 iM (aS _)) (aS _)) (aS _)) (aS _)) (aS _)) rfl)⟩;refine (e_ rfl rfl).trans ?_;apply jl
   case hl=>rfl
   apply pre;delta wA;exact lA (fG (qo (bD rfl ef) (all1 (bX (bL (aF rfl (be ak)) e4) aO (tU (congrArg aeK pH))))))
    (bQ (bL (xU rfl (vs:=kE.map .str) rfl (bw (by decide))) em) (b9 (cB (aX (bk (bk aO (ip (aF rfl ak) on) (jY (bw (show 6 + _≤16777216 by exact aq (addQ yE) rfl)))) (am rfl) (jY (bw (by rw [bP];show 6 + _ + _≤16777216;exact aq (eS (addQ yE) hX) rfl))))
     (aX (cB (be (aF rfl (aF rfl ak)))) ak)))))
  ·refine sk (row_end (H0:=d3.hp rest) (w:=zs.map lh) mD (by exact aq (bc (bc (bc (bc ht)))) rfl) hz hX rfl pw vK (fG (qo (bD rfl ef) (all1 (bX (bL (aF rfl (be ak)) e4) aO (tT (fun q=>pH (Int.ofNat.inj q)))))))) fun r v d' aE ex oh fY=>?_;exact ⟨r,v,d',(e_ rfl rfl).trans (jl (pre _ ex) rfl),oh,fY.mono (by exact iK (b8 (b8 (b8 (b8 (b8 iM (aS _)) (aS _)) (aS _)) (aS _)) (aS _)) rfl)⟩
 ·obtain ⟨r,v,d',aE,ex,oh,fY⟩:=row_end (H0:=d3.hp rest) (w:=zs.map lh) nq (by exact aq (bc (bc (bc ht))) rfl) hz hX rfl pw vK (fG (mU (bD rfl (congrArg some (beq_eq_false_iff_ne.mpr pD)))));exact ⟨r,v,d',(e_ rfl rfl).trans (jl (pre _ ex) rfl),oh,fY.mono (by exact iK (b8 (b8 (b8 (b8 iM (aS _)) (aS _)) (aS _)) (aS _)) rfl)⟩
end
section
noncomputable def MI(f:Qy)(ls:List (Qy×fS)):Prop:=∀ x∈ls,Line f x.1 x.2∧x.1.length≤1000
def Hz(l:List fS)(x:fS):iJ (l++[x])=iJ l++iJ [x]:=by simp [iJ,aew]
def yT(l:List fS)(x:fS):gr (l++[x])=gr l++gr [x]:=by simp [gr,aew]
def HA(l:List fS):(iJ l).length≤l.length:=NG _ _
def TX(l:List fS):(gr l).length≤l.length:=NG _ _
def TZ(l m:Qm):gs (l++m)=gs l++gs m:=by simp [gs]
def CD(l:Qm):(gs l).length=l.length:=by simp [gs]
noncomputable def AD:PS:=.g 6 (.m .strip (.v 5) (.j (.y [32,9,13]))) (.f (.o (.c (.p .eq (.v 6) (.y [])) (.j (.m .starts (.v 6) (.j (.y [35])))))) .cont .nil (.f (.m .starts (.v 6) (.j (.y [91,97,116,116,114,93]))) (.e (.m .append (.v 4) (.j (.own .aG 2 (.v 0) (.c (.v 6) (.j (.v 1)))))) .nil) (.e (.m .append (.v 3) (.j (.own .aG 3 (.v 0) (.c (.v 6) (.j (.v 1)))))) .nil) .nil))
noncomputable def w7(H:Hp)(ls:List (Qy×fS))(sl:Sl)(r:R (Fl×Sl)):Prop:=
 if (ls.map (·.2)).any isBad then ∃ a b,r=.bad (H++[.list a,.list b])
 else ∃ s5 s6,r=.ok (.next,sl.take 5++[s5,s6,none,none]) (H++[.list (iJ (ls.map (·.2))),.list (gs (gr (ls.map (·.2))))])
def ya{a b:UInt8}{m k:Qy}(h:a≠b):(decide ((b::k).length≤(a::m).length)&&(a::m).take (b::k).length==b::k)=false:=by rw [show ((a::m).take (b::k).length==b::k)=false from beq_eq_false_iff_ne.mpr fun q=>h (by injection q),xF]
section
variable {a b d:Nat} {e:Qy} {u:PV}
noncomputable abbrev l8(n c d:Nat)(f oc:Qy)(s5 s6:Qq):Sl:=[some (.loc n),some (.bytes f),some (.bytes oc),some (.loc c),some (.loc d),s5,s6,none,none]
structure AH(H:Hp)(row e:Qy)(t0 t1 t2:Bool):Prop where
 s:dv .strip (.bytes row) [.bytes [32,9,13]] H=.ok (.bytes e) H
 q:bU .eq (.bytes e) (.bytes []) H=some t0
 h:dv .starts (.bytes e) [.bytes [35]] H=.ok (.bool t1) H
 m:dv .starts (.bytes e) [.bytes [91,97,116,116,114,93]] H=.ok (.bool t2) H
def I2{t0 t1 t2:Bool}(h:AH H row e t0 t1 t2)(ht:(t0||t1)=true):dJ O 400 AD (l8 n c d f oc (some (.bytes row)) s6) H=.ok (.cont,l8 n c d f oc (some (.bytes row)) (some (.bytes e))) H:=by obtain ⟨h1,h2,h3,_⟩:=h;have tc:bK O (.jW (.cons (.cmp .eq (.var 6) (.y [])) (.cons (.gq .starts (.var 6) (.cons (.y [35]) .nil)) .nil))) (l8 n c d f oc (some (.bytes row)) (some (.bytes e))) H=.ok (t0||t1) H:=fF (anyB (bD rfl h2) (gB (nQ (b4 (am rfl) rfl (be ak) h3))));rw [ht] at tc;exact bQ (b4 (am rfl) rfl (be ak) h1) (SB tc SD)
def I4{i:Bool}{k pl:Nat}(hk:cond i 2 3=k)(jf:cond i d c=pl)(h:AH H row e false false i)(hi:hU (.loc n) H=some (2,[(fM,.loc a),(fV,.loc b)]))(ho:O.own 2 k [.loc n,.bytes e,.bytes f] H=.ok u H)(hm:jZ .append (.loc pl) H=true)(hp:dv .append (.loc pl) [u] H=.ok .none H'):
  dJ O 400 AD (l8 n c d f oc (some (.bytes row)) s6) H=.ok (.next,l8 n c d f oc (some (.bytes row)) (some (.bytes e))) H':=by
 obtain ⟨h1,h2,h3,h4⟩:=h;have tc:bK O (.jW (.cons (.cmp .eq (.var 6) (.y [])) (.cons (.gq .starts (.var 6) (.cons (.y [35]) .nil)) .nil))) (l8 n c d f oc (some (.bytes row)) (some (.bytes e))) H=.ok (false) H:=fF (anyB (bD rfl h2) (gB (nQ (b4 (am rfl) rfl (be ak) h3))));refine bQ (b4 (am rfl) rfl (be ak) h1) (b5 tc aW ?_);have ow:ao O (.own .aG k (.var 0) (.cons (.var 6) (.cons (.var 1) .nil))) (l8 n c d f oc (some (.bytes row)) (some (.bytes e))) H=.ok u H:=qB (am rfl) hi (by induction i<;>subst hk<;>rfl) (aF rfl (aF rfl ak)) ho;induction i with
 | true=>subst hk;subst jf;exact kz (nQ (b4 (am rfl) rfl (be ak) h4)) (kC (b4 (am rfl) hm (aX ow ak) hp) aW) aW
 | false=>subst hk;subst jf;exact b5 (nQ (b4 (am rfl) rfl (be ak) h4)) (kC (b4 (am rfl) hm (aX ow ak) hp) aW) aW
def I3{i:Bool}{k pl:Nat}(hk:cond i 2 3=k)(jf:cond i d c=pl)(hm:jZ .append (.loc pl) H=true)(h:AH H row e false false i)(hi:hU (.loc n) H=some (2,[(fM,.loc a),(fV,.loc b)]))(ho:O.own 2 k [.loc n,.bytes e,.bytes f] H=.bad H):
  dJ O 400 AD (l8 n c d f oc (some (.bytes row)) s6) H=.bad H:=by
 obtain ⟨h1,h2,h3,h4⟩:=h;have tc:bK O (.jW (.cons (.cmp .eq (.var 6) (.y [])) (.cons (.gq .starts (.var 6) (.cons (.y [35]) .nil)) .nil))) (l8 n c d f oc (some (.bytes row)) (some (.bytes e))) H=.ok (false) H:=fF (anyB (bD rfl h2) (gB (nQ (b4 (am rfl) rfl (be ak) h3))));refine bQ (b4 (am rfl) rfl (be ak) h1) (b5 tc aW ?_);induction i with
 | true=>subst hk;subst jf;exact Oj (nQ (b4 (am rfl) rfl (be ak) h4)) (F5 (F3 (am rfl) hm (F4 (Bk (am rfl) hi rfl (aF rfl (aF rfl ak)) ho))))
 | false=>subst hk;subst jf;exact Ol (nQ (b4 (am rfl) rfl (be ak) h4)) (F5 (F3 (am rfl) hm (F4 (Bk (am rfl) hi rfl (aF rfl (aF rfl ak)) ho))))
def vt{a0:UInt8}{m:Qy}(hs:∀ H,lN .strip row [32,9,13] H=.ok (.bytes e) H)(hl:e.length≤1000)(he:e=a0::m){t1 t2:Bool}(h1:(decide (([35]:Qy).length≤e.length)&&e.take ([35]:Qy).length==[35])=t1)(h2:(decide (([91,97,116,116,114,93]:Qy).length≤e.length)&&e.take ([91,97,116,116,114,93]:Qy).length==[91,97,116,116,114,93])=t2):AH H row e false t1 t2:=by have hL:=aB hl (by decide:1000≤100000);exact ⟨hs H,by subst he;rfl,(sJ hL (by decide)).trans (by rw [h1]),(sJ hL (by decide)).trans (by rw [h2])⟩
def Gu(x y:Qp):H++[.list x,.list y]=H++[PO.list (x++[]),.list (y++[])]:=by rw [gP,gP]
end
def abB{a b:Nat}{ls:List (Qy×fS)}(hI:H[n]?=some (.inst 2 [(fM,.loc a),(fV,.loc b)]))(hl:MI f ls)(hn:ls.length≤300):
  w7 H ls [some (.loc n),some (.bytes f),some (.bytes oc),some (.loc H.length),some (.loc (H.length + 1)),none,none,none,none]
   (cQ (dJ (ai 400 (j + 6)) 400 AD) (m6 5) (.fix (ls.map fun x=>.bytes x.1)) 400 0 [some (.loc n),some (.bytes f),some (.bytes oc),some (.loc H.length),some (.loc (H.length + 1)),none,none,none,none] (H++[.list [],.list []])):=by
 refine n_ (fun i sl H'=>(∀ x∈(ls.take i).map (·.2),isBad x=false)∧∃ s5 s6,sl=l8 n H.length (H.length + 1) f oc s5 s6∧H'=H++[.list (iJ ((ls.take i).map (·.2))),.list (gs (gr ((ls.take i).map (·.2))))]) _ ?_ ?_ 400 0 _ _ (cE _) (by rw [aQ];exact iI hn rfl) ⟨fun x hx=>(nomatch hx),none,none,rfl,rfl⟩
 ·intro i v sl H' hv cr;refine ad cr fun hb z2=>?_;clear cr;refine ch z2 fun s5 s6 e1 e2=>?_;clear z2;refine ay (cF.mp hv) fun hi hv=>?_;rw [oR] at hv;rw [aQ] at hi;have ht:(ls.take (i + 1)).map (·.2)=(ls.take i).map (·.2)++[ls[i].2]:=by
   rw [r_ hi,nI];rfl
  have vV:=nJ hi;have l1:=HA ((ls.take i).map (·.2));have l2:=TX ((ls.take i).map (·.2));rw [aQ,kj] at l1 l2;rw [←CD] at l2;have lr:(iJ ((ls.take i).map (·.2))).length < aC:=kZ (aB l1 (aB (AR ..) hn)) (by decide);have lm:(gs (gr ((ls.take i).map (·.2)))).length < aC:=kZ (aB l2 (aB (AR ..) hn)) (by decide);rw [ht,Hz,yT,TZ];generalize ls[i]=p at *;refine ⟨l8 n H.length (H.length + 1) f oc (some (.bytes p.1)) s6,by rw [←hv,e1];rfl,?_⟩;rw [e2];refine ad (hl p vV) fun hL hlen=>?_;have Kl:isBad p.2=true→(ls.map (·.2)).any isBad=true:=fun h=>uA.mpr ⟨p.2,b7.mpr ⟨p,vV,rfl⟩,h⟩;obtain ⟨row,it⟩:=p;dsimp only at hL hlen;have cC:=fun H=>GP (H:=H) (r:=row) (aB hlen (by decide));have gu:(li row).length≤1000:=aB (P1 row) hlen;have zx:isBad it=false→∀ x∈(ls.take i).map (·.2)++[it],isBad x=false:=fun h x hx=>by
   rcases cy.mp hx with hx|hx
   ·exact hb x hx
   ·rw [bZ.mp hx];exact h
  have hB:isBad it=true→∀ H2:Hp,(∃ x y,H2=H++[.list x,.list y])→w7 H ls [some (.loc n),some (.bytes f),some (.bytes oc),some (.loc H.length),some (.loc (H.length + 1)),none,none,none,none] (.bad H2):=fun h H2 ⟨x,y,e⟩=>by
   delta w7;rw [if_pos (Kl h)];exact ⟨x,y,congrArg _ e⟩
  generalize iJ ((ls.take i).map (·.2))=RS at *;generalize gs (gr ((ls.take i).map (·.2)))=MS at *;have gI:hU (.loc n) (H++[.list RS,.list MS])=some (2,[(fM,.loc a),(fV,.loc b)]):=ri (oq hI);clear hv e1 e2 Kl hb l1 l2 vV ht hl;induction hL with
  | none he=>rw [he] at cC;exact ja (I2 (t0:=true) (t1:=false) (t2:=false) ⟨cC _,rfl,sJ (by decide) (by decide),sJ (by decide) (by decide)⟩ rfl) ⟨zx rfl,_,_,rfl,Gu RS MS⟩
  | rem he=>rw [he] at cC gu;exact ja (I2 (vt cC gu rfl rfl rfl) rfl) ⟨zx rfl,_,_,rfl,Gu RS MS⟩
  | cY he own=>rw [he] at cC gu;exact ja (I4 (i:=true) rfl rfl (vt cC gu rfl rfl rfl) gI (own j _ _) (ol wt) ((tb wt lm).trans (by rw [Rg]))) ⟨zx rfl,_,_,rfl,by rw [show iJ [fS.cY _ _]=[] from rfl,gP];rfl⟩
  | pk he own=>rw [he] at cC gu;exact ja (I3 (i:=true) rfl rfl (ol wt) (vt cC gu rfl rfl rfl) gI (own j _ _)) (hB rfl _ ⟨_,_,rfl⟩)
  | rule he h1 h2 own=>rw [he] at cC gu;exact ja (I4 (i:=false) rfl rfl (vt cC gu rfl (ya h1) (ya h2)) gI (own j _ _) (ol zK) ((tb zK lr).trans (by rw [Rh]))) ⟨zx rfl,_,_,rfl,by rw [show gr [fS.rule _]=[] from rfl,show gs []=[] from rfl,gP];rfl⟩
  | nU he h1 h2 own=>rw [he] at cC gu;exact ja (I3 (i:=false) rfl rfl (ol zK) (vt cC gu rfl (ya h1) (ya h2)) gI (own j _ _)) (hB rfl _ ⟨_,_,rfl⟩)
 ·intro sl H' cr;refine ad cr fun hb z2=>?_;clear cr;refine ch z2 fun s5 s6 e1 e2=>?_;clear z2;rw [aQ,mN] at hb e2;rw [e1,e2];delta w7;rw [if_neg]
  ·exact ⟨s5,s6,rfl⟩
  ·intro q;refine J (uA.mp q) fun x hx Vy=>?_;exact cN ((hb x hx).symm.trans Vy)
def putAll(M:Qm)(l:Qm):Qm:=l.foldl (fun m p=>put p.1 p.2 m) M
theorem B_{α:Type}(k:Qn)(v:α):∀ (l:List (Qn×α)),(put k v l).length≤l.length + 1
 | []=>aS _
 | (k',v')::r=>by
  show (if k'=k then (k',v)::r else (k',v')::put k v r).length≤_;by_cases h:k'=k
  ·rw [if_pos h];exact uf _
  ·rw [if_neg h];exact Fg (B_ k v r)
theorem B':∀ (l M:Qm),(putAll M l).length≤M.length + l.length
 | [],M=>aS _
 | q::l,M=>by
  have h1:=B' l (put q.1 q.2 M);have h2:=B_ q.1 q.2 M;show (putAll (put q.1 q.2 M) l).length≤M.length + (l.length + 1);lia
noncomputable def pk:PS:=.gF (.a (.v 0) [109,97,99,114,111,115]) (.v 7) (.v 8) .nil
def TY{a b k:Nat}{M ms:Qm}(hI:H[n]?=some (.inst 2 [(fM,.loc a),(fV,.loc b)]))(hM:H[b]?=some (.dict M))(hk:H[k]?=some (.list (gs ms)))(h1:n≠b)(h2:k≠b)(hl:M.length + ms.length≤300):
  ∃ sl,cQ (dJ (ai 400 (j + 6)) 400 pk) (jK [7,8]) (.dyn k) 400 0 [some (.loc n),s1,s2,s3,some (.loc k),s5,s6,none,none] H=.ok (.next,sl) (H.set b (.dict (putAll M ms))):=by
 have hb:=cF.mp hM;refine Ub (l:=gs ms) (fun i sl H'=>∃ s7 s8,sl=[some (.loc n),s1,s2,s3,some (.loc k),s5,s6,s7,s8]∧H'=H.set b (.dict (putAll M (ms.take i)))) (fun r=>∃ sl,r=.ok (.next,sl) (H.set b (.dict (putAll M ms)))) ?_ ?_ ?_ 400 0 _ _ (cE _) (by rw [CD];exact iI (adY hl) rfl)
  ⟨none,none,rfl,by show H=H.set b (.dict M);rw [←hb.2,ad9]⟩
 ·intro i sl H' cr;refine ch cr fun s7 s8 e1 e2=>?_;clear cr;rw [e2,uw (Ne.symm h2)];exact hk
 ·intro i v sl H' hv cr;refine ch cr fun s7 s8 e1 e2=>?_;clear cr;delta gs at hv;refine ay (cF.mp hv) fun hi hv=>?_;rw [oR] at hv;rw [aQ] at hi;have ht:ms.take (i + 1)=ms.take i++[ms[i]]:=r_ hi;have q0:putAll M (ms.take (i + 1))=put ms[i].1 ms[i].2 (putAll M (ms.take i)):=by rw [ht];exact NL ..
  have hle:=B' (ms.take i) M;rw [kj] at hle;have hle:(putAll M (ms.take i)).length < aC:=kZ (show _≤300 by lia) (by decide);rw [q0];generalize putAll M (ms.take i)=D at *;generalize ms[i]=p at *;have g1:getattr (.loc n) fV (H.set b (.dict D))=some (.loc b):=Kr (by rw [uw (Ne.symm h1)];exact hI) rfl;have g2:=yH (k:=p.1) (v:=p.2) (H:=H.set b (.dict D)) (n:=b) (D:=D) (A6 hb.1) hle;rw [ad8] at g2;refine ⟨[some (.loc n),s1,s2,s3,some (.loc k),s5,s6,some (.str p.1),some p.2],by rw [←hv,e1];rfl,?_⟩;rw [e2];exact ja (qK (am rfl) (o9 (am rfl) g1) (am rfl) g2 aW) ⟨_,_,rfl,rfl⟩
 ·intro sl H' cr;refine ch cr fun s7 s8 e1 e2=>?_;clear cr;rw [CD,mN] at e2;rw [e2];exact ⟨_,rfl⟩
def ET{a b:Nat}{ls:List (Qy×fS)}{R:Qp}{M:Qm}(hI:H[n]?=some (.inst 2 [(fM,.loc a),(fV,.loc b)]))(hR:H[a]?=some (.list R))(hM:H[b]?=some (.dict M))(h1:n≠a)(h2:n≠b)(h3:a≠b)(hl:MI f ls)(hn:ls.length≤300)(hs:sp [10] 0 oc=ls.map (·.1))(ho:oc.length≤10000)(Xx:R.length≤1000)(wi:M.length + (gr (ls.map (·.2))).length≤300):
  if (ls.map (·.2)).any isBad then ∃ x y,(ai 400 (j + 7)).own 2 1 [.loc n,.bytes f,.bytes oc] H=.bad (H++[.list x,.list y])
  else (ai 400 (j + 7)).own 2 1 [.loc n,.bytes f,.bytes oc] H=.ok .none (((H.set a (.list (R++iJ (ls.map (·.2))))).set b (.dict (putAll M (gr (ls.map (·.2))))))++[.list (iJ (ls.map (·.2))),.list (gs (gr (ls.map (·.2))))]):=by
 have key:=abB (j:=j) (oc:=oc) hI hl hn;have so:dv .split (.bytes oc) [.bytes [10]] (H++[.list [],.list []])=_:=GU (x:=oc) (y:=[10]) (by decide) (by exact aq ho rfl) (by decide);rw [hs,ju] at so;replace so:dv .split (.bytes oc) [.bytes [10]] (H++[.list [],.list []])=.ok (.fl (ls.map fun x=>.bytes x.1)) (H++[.list [],.list []]):=so;have Ku:=HA (ls.map (·.2));rw [aQ] at Ku;rw [ve (k:=1) rfl rfl];have it:dB (ai 400 (j + 6)) (.ex (.gq .split (.var 2) (.cons (.y [10]) .nil))) [some (.loc n),some (.bytes f),some (.bytes oc),some (.loc H.length),some (.loc (H.length + 1)),none,none,none,none] (H++[.list [],.list []])=.ok (.fix (ls.map fun x=>.bytes x.1)) (H++[.list [],.list []]):=
  fW (b4 (am rfl) rfl (be ak) so) rfl
 unfold w7 at key;by_cases hb:(ls.map (·.2)).any isBad=true
 ·rw [if_pos hb] at key⊢;refine eB key fun x y e=>?_;clear key;exact ⟨x,y,x_run (jE Gr rfl (Om it e)) rfl⟩
 ·rw [if_neg hb] at key⊢;refine eB key fun s5 s6 e=>?_;clear key;generalize iJ (ls.map (·.2))=RS at *;generalize gr (ls.map (·.2))=MS at *;have la:=(cF.mp hR).1;have lb:=(cF.mp hM).1;have gI:(H++[PO.list RS,.list (gs MS)])[n]?=some (.inst 2 [(fM,.loc a),(fV,.loc b)]):=oq hI;have gR:(H++[PO.list RS,.list (gs MS)])[a]?=some (.list R):=oq hR;have ex:=Tb gR (DF zK) (adT la) (bw (show R.length + RS.length≤16777216 by exact aq (eS Xx (aB Ku hn)) rfl));rw [yk la] at ex;refine ay (TY (j:=j) (k:=H.length + 1) (H:=H.set a (.list (R++RS))++[.list RS,.list (gs MS)]) (n:=n) (a:=a) (b:=b) (s1:=some (.bytes f)) (s2:=some (.bytes oc)) (s3:=some (.loc H.length)) (s5:=s5) (s6:=s6) (M:=M) (ms:=MS)
     (oq ((uw (Ne.symm h1)).trans (hI))) (oq ((uw h3).trans (hM))) (by rw [←ut (as:=H) (i:=a) (a:=PO.list (R++RS))];exact wt) h2 (by lia) wi) fun sl e2=>?_
  rw [yk (by rw [ut];exact lb)] at e2;have e3:cV (cQ (dJ (ai 400 (j + 6)) 400 pk) (jK [7,8]) (.dyn (H.length + 1)) 400 0 [some (.loc n),some (.bytes f),some (.bytes oc),some (.loc H.length),some (.loc (H.length + 1)),s5,s6,none,none] (H.set a (.list (R++RS))++[.list RS,.list (gs MS)]))=_:=congrArg cV e2;have gi:og (.loc (H.length + 1)) (H.set a (.list (R++RS))++[.list RS,.list (gs MS)])=some (.dyn (H.length + 1)):=Xo (by rw [←ut (as:=H) (i:=a) (a:=PO.list (R++RS))];exact wt);refine Ex (jE Gr rfl (lB it e (kC (b4 (o9 (am rfl) (Kr gI rfl)) (zC gR) (aF rfl ak) ex) (yz (fW (am rfl) gi) e3 aW)))) rfl rfl
end
section
inductive Ent where
 | cY (n:List Nat) (t:List (List Nat×PV))
 | rule (f p:List UInt8) (t:List (List Nat×PV))
 | dead (f p:List UInt8) (t:List (List Nat×PV))
noncomputable abbrev Qf:=List Ent
noncomputable def bv(t:Qm):Qp:=t.map fun p=>.tup [.str p.1,p.2]
inductive cM:PV→Prop
 | none:cM .none
 | bool (b:Bool):cM (.bool b)
 | str (s:List Nat):cM (.str s)
noncomputable def nv(t:Qm):Prop:=t.length≤3∧∀ x∈t,cM x.2
noncomputable def AL(f:Qy):Ent→Prop
 | .cY n t=>f=[]∧n∈kE∧nv t
 | .rule f' p t=>f'=f∧p∈ku∧nv t
 | .dead f' p t=>f'=f∧(p=[97]∧t=[]∨p∈([[100,47],[42,47]]:List Qy))∧nv t
def gZ:Option Ent→fS
 | none=>.skip
 | some (.cY n t)=>.cY n (.fl (bv t))
 | some (.rule f p t)=>.rule (.fi 1 (fieldsOf p f (.fl (bv t))))
 | some (.dead f p t)=>.rule (.fi 1 (fieldsOf p f (.fl (bv t))))
def I_:Option Ent→PV
 | some (.cY n t)=>.tup [.bool true,.str n,.fl (bv t)]
 | some (.rule f p t)=>.tup [.bool false,.bytes p,.fl (bv t)]
 | _=>.none
def OK{b:Qy}{n:Qn}(h:Wd b n v):cM v:=by induction h<;>constructor
def Gz(h:∀ w∈ws,im w)(hl:ws.length≤2):∃ t,toldOf ws=bv t∧nv t:=⟨ws.map fun w=>(w.2.2.1,w.2.2.2),by simp [toldOf,bv],by simp;exact oO hl,fun x hx=>by
 refine J (b7.mp hx) fun w hw z2=>?_;subst z2;exact OK (h w hw).2⟩
def GO{p e:Qy}(hw:∀ w∈ws,im w)(hn:ws≠[])(hp:clean p)(q5:p≠[])(he:e∈kS)(hl:(p++bT ws++e).length≤10000):li (p++bT ws++e)=p++bT ws:=by have h1:=P2 (H:=[]) hw hn hp q5 he hl;rw [GP hl] at h1;injection h1 with h1;injection h1
def Tm(j:Nat)(self:PV)(H:Hp):∀ f∈dy,(ai 400 (j + 6)).own 2 3 [self,.bytes [97],.bytes f] H=.ok (.fi 1 (fieldsOf [97] f (.fl []))) H:=gw (by kernel_rfl) (by kernel_rfl) (by kernel_rfl)
def Tl(j:Nat)(self:PV)(H:Hp):∀ f∈dy,(ai 400 (j + 6)).own 2 3 [self,.bytes [100,47,32,120],.bytes f] H=.ok (.fi 1 (fieldsOf [100,47] f (.fl [.tup [.str [120],.bool true]]))) H:=gw (by kernel_rfl) (by kernel_rfl) (by kernel_rfl)
def Tk(j:Nat)(self:PV)(H:Hp):∀ f∈dy,(ai 400 (j + 6)).own 2 3 [self,.bytes [42,47,32,45,120],.bytes f] H=.ok (.fi 1 (fieldsOf [42,47] f (.fl [.tup [.str [120],.bool false]]))) H:=gw (by kernel_rfl) (by kernel_rfl) (by kernel_rfl)
def Rl:∀ s∈o6,∀ c∈s,c≠10:=by decide
def ZD:∀ s∈kS,∀ c∈s,c≠10:=by decide
def GF(h:∀ w∈ws,im w):∀ c∈bT ws,c≠10:=by
 intro c hc;simp only [bT,List.mem_flatten,b7] at hc;refine J hc ?_;clear hc;intro l z1;refine J z1 fun w hw mQ=>?_;clear z1;subst mQ;intro hc;rcases cy.mp hc with hc|hc
 ·exact Rl _ (h w hw).1 c hc
 ·exact ((Bp (h w hw).2).1 c hc).2.2.2
def aba:∀ c∈iY,c≠9∧c≠13∧c≠32∧c≠10:=by decide
set_option tactic.hygienic true in
def RI{r:Qy}(h:oK f r v)(hf:f∈dy):∃ oe:Option Ent,(∀ e,oe=some e→AL f e)∧Line f r (gZ oe)∧v=I_ oe∧r.length≤100∧∀ c∈r,c≠10:=by
 cases h with
 | cY hn hw hl h0=>
  rename_i n ws;refine J (Gz hw hl) fun t ht tok=>?_;have ty:=qr hw;have mx:=CE n hn;have cn:=yM n (by simp [hn]);have len:(iY++bu n++bT ws).length≤100:=by rw [bP,bP];simp [iY];exact aq (eS (addQ mx) (aB ty (mulL hl))) rfl
  have cl:clean (iY++bu n):=fun c hc=>by
   rcases cy.mp hc with hc|hc
   ·exact aba c hc
   ·exact cn c hc
  have st:=GO (e:=[]) hw h0 cl (by simp [iY]) (by simp [kS]) (by rw [gP];exact aq len rfl);rw [gP,dz] at st;refine ⟨some (.cY n t),fun e he=>(by (injection he with e1;subst e1);exact ⟨rfl,hn,tok⟩),?_,by rw [ht];rfl,len,fun c hc=>?_⟩
  ·rw [dz];refine .cY st fun j self H=>?_;have:=TN (j:=j) (self:=self) (H:=H) hn hw hl;rw [dz] at this;rw [this,ht]
  ·rcases cy.mp hc with hc|hc
   ·exact (cl c hc).2.2.2
   ·exact GF hw c hc
 | Iw hr=>
  simp [vi] at hr;rcases hr with rfl|rfl|rfl|rfl|rfl|rfl
  ·exact ⟨none,fun e he=>(by injection he),.none rfl,rfl,by simp,by simp⟩
  ·exact ⟨none,fun e he=>(by injection he),.rem (m:=[32,97,32,120]) (by decide +kernel),rfl,by simp,by decide⟩
  ·exact ⟨none,fun e he=>(by injection he),.none (by decide +kernel),rfl,by simp,by decide⟩
  ·exact ⟨some (.dead f [97] []),fun e he=>(by (injection he with e1;subst e1);exact ⟨rfl,.inl ⟨rfl,rfl⟩,by simp,by simp⟩),.rule (a:=97) (m:=[]) (by decide +kernel) (by decide) (by decide) fun j self H=>Tm j self H f hf,rfl,by simp,by decide⟩
  ·exact ⟨some (.dead f [100,47] [([120],.bool true)]),fun e he=>(by (injection he with e1;subst e1);exact ⟨rfl,.inr (by simp),by simp,(by simp;exact .bool _)⟩),.rule (a:=100) (m:=[47,32,120]) (by decide +kernel) (by decide) (by decide) fun j self H=>Tl j self H f hf,rfl,by simp,by decide⟩
  ·exact ⟨some (.dead f [42,47] [([120],.bool false)]),fun e he=>(by (injection he with e1;subst e1);exact ⟨rfl,.inr (by simp),by simp,(by simp;exact .bool _)⟩),.rule (a:=42) (m:=[47,32,45,120]) (by decide +kernel) (by decide) (by decide) fun j self H=>Tk j self H f hf,rfl,by simp,by decide⟩
 | rule hp he hw hl h0=>
  rename_i p e ws;refine J (Gz hw hl) fun t ht tok=>?_;have ty:=qr hw;refine cG (yx p hp) fun q0 jf z3=>?_;refine i_ z3 fun a m ea Kx Ky XN XM=>?_;clear z3;have W2:=Lm e he;have len:(p++bT ws++e).length≤100:=by rw [bP,bP];exact aq (eS (eS jf (aB ty (mulL hl))) W2) rfl
  have st:=GO hw h0 (Cg p hp) (by rw [ea];simp) he (by exact aq len rfl);refine ⟨some (.rule f p t),fun e he=>(by (injection he with e1;subst e1);exact ⟨rfl,hp,tok⟩),?_,by rw [ht];rfl,len,fun c hc=>?_⟩
  ·have a_:li (p++bT ws++e)=a::(m++bT ws):=by rw [st,ea];rfl
   refine .rule a_ XN XM fun j self H=>?_;have:=TJ (j:=j) (self:=self) (H:=H) hp hf hw hl;rw [ht] at this;rw [←this,ea];rfl
  ·rcases cy.mp hc with hc|hc
   ·rcases cy.mp hc with hc|hc
    ·exact (Cg p hp c hc).2.2.2
    ·exact GF hw c hc
   ·exact ZD e he c hc
noncomputable def n8:List Qy:=[[33,97,32,120],[97,32,45],[97,32,120,61,49,32,45,61,50],[97,32,98,47,99],[91,97,116,116,114,93],[91,97,116,116,114,93,45,109,32,120],[97,32,33],[97,32,45,45,120],[34,97,32,120],[97,32,36]]
def Ij{r:Qy}(hf:f∈dy)(hr:r∈n8):Line f r .bad:=by
 simp [n8] at hr;rcases hr with rfl|rfl|rfl|rfl|rfl|rfl|rfl|rfl|rfl|rfl
 ·exact .nU (a:=33) (m:=[97,32,120]) (by decide +kernel) (by decide) (by decide) fun j self H=>gw (P:=fun f=>(ai 400 (j + 6)).own 2 3 [self,.bytes [33,97,32,120],.bytes f] H=.bad H) (by kernel_rfl) (by kernel_rfl) (by kernel_rfl) f hf
 ·exact .nU (a:=97) (m:=[32,45]) (by decide +kernel) (by decide) (by decide) fun j self H=>gw (P:=fun f=>(ai 400 (j + 6)).own 2 3 [self,.bytes [97,32,45],.bytes f] H=.bad H) (by kernel_rfl) (by kernel_rfl) (by kernel_rfl) f hf
 ·exact .nU (a:=97) (m:=[32,120,61,49,32,45,61,50]) (by decide +kernel) (by decide) (by decide) fun j self H=>gw (P:=fun f=>(ai 400 (j + 6)).own 2 3 [self,.bytes [97,32,120,61,49,32,45,61,50],.bytes f] H=.bad H) (by kernel_rfl) (by kernel_rfl) (by kernel_rfl) f hf
 ·exact .nU (a:=97) (m:=[32,98,47,99]) (by decide +kernel) (by decide) (by decide) fun j self H=>gw (P:=fun f=>(ai 400 (j + 6)).own 2 3 [self,.bytes [97,32,98,47,99],.bytes f] H=.bad H) (by kernel_rfl) (by kernel_rfl) (by kernel_rfl) f hf
 ·exact .pk (m:=[]) (by decide +kernel) fun j self H=>gw (P:=fun f=>(ai 400 (j + 6)).own 2 2 [self,.bytes (iY++[]),.bytes f] H=.bad H) (by kernel_rfl) (by kernel_rfl) (by kernel_rfl) f hf
 ·exact .pk (m:=[45,109,32,120]) (by decide +kernel) fun j self H=>gw (P:=fun f=>(ai 400 (j + 6)).own 2 2 [self,.bytes (iY++[45,109,32,120]),.bytes f] H=.bad H) (by kernel_rfl) (by kernel_rfl) (by kernel_rfl) f hf
 ·exact .nU (a:=97) (m:=[32,33]) (by decide +kernel) (by decide) (by decide) fun j self H=>gw (P:=fun f=>(ai 400 (j + 6)).own 2 3 [self,.bytes [97,32,33],.bytes f] H=.bad H) (by kernel_rfl) (by kernel_rfl) (by kernel_rfl) f hf
 ·exact .nU (a:=97) (m:=[32,45,45,120]) (by decide +kernel) (by decide) (by decide) fun j self H=>gw (P:=fun f=>(ai 400 (j + 6)).own 2 3 [self,.bytes [97,32,45,45,120],.bytes f] H=.bad H) (by kernel_rfl) (by kernel_rfl) (by kernel_rfl) f hf
 ·exact .nU (a:=34) (m:=[97,32,120]) (by decide +kernel) (by decide) (by decide) fun j self H=>gw (P:=fun f=>(ai 400 (j + 6)).own 2 3 [self,.bytes [34,97,32,120],.bytes f] H=.bad H) (by kernel_rfl) (by kernel_rfl) (by kernel_rfl) f hf
 ·exact .nU (a:=97) (m:=[32,36]) (by decide +kernel) (by decide) (by decide) fun j self H=>gw (P:=fun f=>(ai 400 (j + 6)).own 2 3 [self,.bytes [97,32,36],.bytes f] H=.bad H) (by kernel_rfl) (by kernel_rfl) (by kernel_rfl) f hf
def SZ(hf:f∈dy)(h0:f≠[]):Line f [91,97,116,116,114,93,109,32,120] .bad:=by
 simp [dy] at hf;rcases hf with rfl|rfl|rfl
 ·exact absurd rfl h0
 ·exact .pk (m:=[109,32,120]) (by decide +kernel) fun j self H=>by kernel_rfl
 ·exact .pk (m:=[109,32,120]) (by decide +kernel) fun j self H=>by kernel_rfl
def SY:∀ r∈n8,r.length≤100∧∀ c∈r,c≠10:=by decide
end
section
def UA:Ent→Qp
 | .cY n t=>[.tup [.bytes [],.bool true,.str n,.fl (bv t)]]
 | .rule f p t=>[.tup [.bytes f,.bool false,.bytes p,.fl (bv t)]]
 | .dead ..=>[]
def aay:Ent→Qp
 | .cY ..=>[]
 | .rule f p t=>[.fi 1 (fieldsOf p f (.fl (bv t)))]
 | .dead f p t=>[.fi 1 (fieldsOf p f (.fl (bv t)))]
def pj:Ent→Qm
 | .cY n t=>[(n,.fl (bv t))]
 | _=>[]
def dI(es:Qf):Qp:=es.flatMap UA
def cK(es:Qf):Qp:=es.flatMap aay
def M0:Qm:=[(lx,.fl [.tup [.str sU,.bool false],.tup [.str yo,.bool false],.tup [.str dO,.bool false]])]
def iB(es:Qf):Qm:=putAll M0 (es.flatMap pj)
abbrev oI:PO:=.inst 2 [(fM,.loc 3),(fV,.loc 4)]
def stH(es:Qf)(bF:Hp):Hp:=oI::.list (cK es)::.dict (iB es)::.list (dI es)::bF
noncomputable abbrev LR:=Qy×Option Ent
noncomputable def t4(f:Qy)(x:LR):Prop:=(∀ e,x.2=some e→AL f e)∧Line f x.1 (gZ x.2)∧x.1.length≤100∧∀ c∈x.1,c≠10
def jC(x:LR):PV:=.tup [.bytes x.1,I_ x.2]
noncomputable def gy(l:List LR):Qf:=l.filterMap (·.2)
theorem Mx{f:Qy}(hf:f∈dy):∀ {l us:Qp},nA (fun _ u=>∃ r v,u=PV.tup [.bytes r,v]∧oK f r v) l us→∃ L:List LR,us=L.map jC∧∀ x∈L,t4 f x
 | _,_,.nil=>⟨[],rfl,fun _ h=>by cases h⟩
 | _,_,.cons ⟨r,v,e,h⟩ q=>by
  refine J (Mx hf q) fun L e' h'=>?_;refine xM (RI h hf) fun oe h1 h2 h3 h4 h5=>?_;exact ⟨(r,oe)::L,by rw [e,e',h3];rfl,fun x hx=>by
   rcases cA.mp hx with rfl|hx
   ·exact ⟨h1,h2,h4,h5⟩
   ·exact h' x hx⟩
theorem HB:∀ L:List LR,iJ (L.map fun x=>gZ x.2)=cK (gy L)
 | []=>rfl
 | (r,oe)::L=>by
  have ih:=HB L;rcases oe with _|(e|e|e)
  ·exact ih
  ·exact ih
  ·exact congrArg (_::·) ih
  ·exact congrArg (_::·) ih
theorem CC:∀ L:List LR,gr (L.map fun x=>gZ x.2)=(gy L).flatMap pj
 | []=>rfl
 | (r,oe)::L=>by
  have ih:=CC L;rcases oe with _|(e|e|e)
  ·exact ih
  ·exact congrArg (_::·) ih
  ·exact ih
  ·exact ih
def Ko(v:PV):Bool:=match v with|.tup [_,u]=>Cr u|_=>false
noncomputable def Gx(f:Qy)(v:PV):PV:=match v with|.tup [_,.tup l]=>.tup (.bytes f::l)|_=>.none
theorem Ja{f:Qy}:∀ {L:List LR},(∀ x∈L,t4 f x)→((L.map jC).filter Ko).map (Gx f)=dI (gy L)
 | [],_=>rfl
 | (r,oe)::L,h=>by
  have ih:=Ja (L:=L) fun x hx=>h x (bM _ hx);have h0:=(h _ (bC ..)).1;rcases oe with _|(⟨n,t⟩|⟨f',p,t⟩|⟨f',p,t⟩)
  ·exact ih
  ·(refine ad (h0 _ rfl) fun z0=>?_;subst z0;intro _);exact congrArg (_::·) ih
  ·(refine ad (h0 _ rfl) fun z0=>?_;subst z0;intro _);exact congrArg (_::·) ih
  ·exact ih
def Yb:∀ f∈([[],[],[100],[100,47,101]]:List Qy),f∈dy:=by decide
def RE{k:Nat}{rest:Hp}{x1 x2 x3 x4:Qq}(dk:d.ok t)(ht:t≤60000)(hk:k≤10)(hf:f∈dy):
  ∃ (L:List LR) (d':DS),fm (iD (ai fu (j + 4)) .nil) (gM (ai fu (j + 4)) (.call .aG 23 (.cons (.var 1) (.cons (.var 4) .nil)))) (some (.loc 1)::x2::x3::some (.bytes f)::sl) ((dR k).map fun (i:Nat)=>PV.int i) (d.hp rest)=.ok (L.map jC) (d'.hp rest)∧
   L.length=k∧(∀ x∈L,t4 f x)∧d'.ok (t + 600):=by
 have hlen:((dR k).map fun (i:Nat)=>PV.int i).length=k:=by rw [aQ,uu]
 refine bx (vp (elt:=gM (ai fu (j + 4)) (.call .aG 23 (.cons (.var 1) (.cons (.var 4) .nil)))) (sl:=some (.loc 1)::x2::x3::some (.bytes f)::sl) (rest:=rest) (Q:=fun _ u=>∃ r v,u=PV.tup [.bytes r,v]∧oK f r v) (k:=60)
   (l:=(dR k).map fun (i:Nat)=>PV.int i) (d:=d) (t:=t) (fun v hv d t' h1 h2 dk=>by
    rw [hlen] at h2;refine dS (RH (fu:=fu) (j:=j) (rest:=rest) (f:=f) dk (by lia)) fun r v' d' e hw fY=>?_;exact ⟨_,d',bL (aF rfl (aF rfl ak)) e,⟨r,v',rfl,hw⟩,fY⟩) (by exact eH rfl) dk) fun us d' e q fY=>?_
 refine J (Mx hf q) fun L e' hw=>?_;have hl:=q.len;rw [hlen,e',aQ] at hl;exact ⟨L,d',by rw [←e'];exact e,hl,hw,fY.mono (by rw [hlen];exact iK (b8 iM (mulL hk)) rfl)⟩
def PB{L:List LR}:fm (iD O .nil) (gM O (.idx (.var 0) (.i 0))) sl (L.map jC) H=.ok (L.map fun x=>.bytes x.1) H:=by
 have hm:=m4 (test:=iD O .nil) (elt:=gM O (.idx (.var 0) (.i 0))) (sl:=sl) (H:=H) (p:=fun _=>true) (g:=fun v=>match v with|.tup [a,_]=>a|_=>.none) (l:=L.map jC) (fun _ _=>rfl) (fun v hv _=>by
  refine J (b7.mp hv) fun x hx z2=>?_;subst z2;exact cI rfl rfl)
 rw [hm,Fz.mpr (fun _ _=>rfl),ju];rfl
def UB{x1 x2 x3:Qq}{L:List LR}(h:∀ x∈L,t4 f x):
  fm (iD O (.cons (.cmp .iQ (.idx (.var 0) (.i 1)) (.cst .none)) .nil)) (gM O (.bin .add false (.tup (.cons (.var 4) .nil)) (.idx (.var 0) (.i 1)))) (x1::x2::x3::some (.bytes f)::sl) (L.map jC) H=.ok (dI (gy L)) H:=by
 have hm:=m4 (test:=iD O (.cons (.cmp .iQ (.idx (.var 0) (.i 1)) (.cst .none)) .nil)) (elt:=gM O (.bin .add false (.tup (.cons (.var 4) .nil)) (.idx (.var 0) (.i 1)))) (sl:=x1::x2::x3::some (.bytes f)::sl) (H:=H) (p:=Ko) (g:=Gx f) (l:=L.map jC) (fun v hv=>by
  refine J (b7.mp hv) fun z0 hx z2=>?_;subst z2;obtain ⟨r,oe⟩:=z0;refine all1 (bX (cI rfl rfl) aO ?_);rcases oe with _|(e|e|e)<;>rfl) (fun v hv hp=>by
  refine J (b7.mp hv) fun x hx z2=>?_;subst z2;obtain ⟨r,oe⟩:=x;rcases oe with _|(⟨n,t⟩|⟨f',p,t⟩|⟨f',p,t⟩)
  ·injection hp
  ·exact bk (cB (aF rfl ak)) (cI rfl rfl) rfl
  ·exact bk (cB (aF rfl ak)) (cI rfl rfl) rfl
  ·injection hp)
 rw [hm,Ja h]
def zY{T:List Qy}(h0:T≠[])(h1:T.length≤10)(h:∀ r∈T,r.length≤100∧∀ c∈r,c≠10):
  (∀ k,H[k]?=some (.list (T.map .bytes))→ml [10] (.loc k) H=.ok (.bytes (ji [10] T)) H)∧(ji [10] T).length≤2000∧sp [10] 0 (ji [10] T++[10])=T++[[]]:=by
 have hb:bytesOf (T.map .bytes)=some (T.map fun b=>b):=As (fun b=>b) T;rw [A4] at hb;have hs:(T.map i7).sum≤100 * T.length:=by
  have:∀ l:List Qy,(∀ r∈l,r.length≤100)→(l.map i7).sum≤100 * l.length:=by
   intro l;induction l with
   | nil=>simp
   | cons a l ih=>intro hh;have h1:=ih fun r hr=>hh r (bM _ hr);have h2:=hh a (bC ..);simp;lia
  exact this T fun r hr=>(h r hr).1
 have hj:=congrArg i7 (CW h0);have hf:∀ l:List Qy,((l.map fun w=>w++[10]).flatten).length=(l.map i7).sum + l.length:=by
  intro l;induction l with
  | nil=>rfl
  | cons a l ih=>simp at ih⊢;lia
 rw [hf] at hj;simp at hj;have Kb:(ji [10] T).length≤2000:=by
  have:(T.map i7).sum≤1000:=by exact aq (aB hs (mulL h1)) rfl
  lia
 refine ⟨fun k hk=>?_,Kb,?_⟩
 ·show (match (bV (.loc k) H).bind bytesOf with|some ps=>_|.none=>R.no)=_;rw [DF hk];show (match bytesOf (T.map PV.bytes) with|some ps=>_|.none=>R.no)=_;rw [hb];show (if _ then R.ok (PV.bytes (je [10] T)) H else R.no)=_;rw [CU];exact if_pos ⟨by exact aq h1 rfl,by show _ + 1 * _≤16777216;exact aq (eS (aB hs (mulL h1)) (mulL h1)) rfl,by show _≤16777216;exact aq Kb rfl⟩
 ·rw [CW h0,GX fun w hw c hc=>(h w hw).2 c hc]
end
section
noncomputable def eV(es:Qf):Prop:=∀ e∈es,∃ f∈dy,AL f e
def HR(l l' M:Qm):putAll M (l++l')=putAll (putAll M l) l':=by simp [putAll,NL]
def aap(a b:Qf):cK (a++b)=cK a++cK b:=by simp [cK]
def Uz(a b:Qf):dI (a++b)=dI a++dI b:=by simp [dI]
def aar(a b:Qf):iB (a++b)=putAll (iB a) (b.flatMap pj):=by simp [iB,HR]
theorem zX{α β:Type}{g:α→List β}(h:∀ a,(g a).length≤1):∀ l:List α,(l.flatMap g).length≤l.length
 | []=>by simp
 | a::l=>by have:=zX h l;have:=h a;simp [qc] at *;lia
def Ek(es:Qf):(cK es).length≤es.length:=zX (fun e=>by induction e<;>first|exact aS 1|exact cE 1) es
def I'(es:Qf):(dI es).length≤es.length:=zX (fun e=>by induction e<;>first|exact aS 1|exact cE 1) es
def CB(es:Qf):(es.flatMap pj).length≤es.length:=zX (fun e=>by induction e<;>first|exact aS 1|exact cE 1) es
def LL(es:Qf):(iB es).length≤es.length + 1:=by have h1:=B' (es.flatMap pj) M0;have h2:=CB es;delta iB;simp [M0] at h1⊢;simp [M0] at h2;lia
def Eb(L:List LR):(gy L).length≤L.length:=NG _ _
def abv(L:List LR):(L.map fun x=>gZ x.2).any isBad=false:=by rw [A_];intro x hx;refine J (b7.mp hx) fun y _ z2=>?_;subst z2;rcases y.2 with _|(_|_|_)<;>simp [gZ,isBad]
def abC{es:Qf}{L:List LR}(hL:∀ x∈L,t4 f x)(h0:L≠[])(hl:L.length≤5)(he:es.length≤50):
  ∃ x y,(ai 400 (j + 7)).own 2 1 [.loc 2,.bytes f,.bytes (ji [10] (L.map (·.1))++[10])] (d.hp (stH es bF))=.ok .none (d.hp (oI::.list (cK (es++gy L))::.dict (iB (es++gy L))::.list (dI es)::(bF++[x,y]))):=by
 have ft:=zY (H:=[]) (T:=L.map (·.1)) (by simpa using h0) (by simp;exact aq hl rfl) (fun r hr=>by
  refine J (b7.mp hr) fun x hx z2=>?_;subst z2;exact ⟨(hL x hx).2.2.1,(hL x hx).2.2.2⟩)
 have hm:(L.map fun x=>(x.1,gZ x.2)).map (·.2)=L.map fun x=>gZ x.2:=by simp
 have e2:((L.map fun x=>(x.1,gZ x.2))++[(([]:Qy),fS.skip)]).map (·.2)=(L.map fun x=>gZ x.2)++[.skip]:=by simp
 have hmac:gr ((L.map fun x=>gZ x.2)++[.skip])=(gy L).flatMap pj:=by rw [yT,CC];simp [gr]
 have VW:iJ ((L.map fun x=>gZ x.2)++[.skip])=cK (gy L):=by rw [Hz,HB];simp [iJ]
 have l1:=CB (gy L);have l2:=Eb L;have l3:=Ek es;have l4:=LL es;have key:=ET (j:=j) (n:=2) (a:=3) (b:=4) (H:=d.hp (stH es bF)) (f:=f) (oc:=ji [10] (L.map (·.1))++[10]) (ls:=(L.map fun x=>(x.1,gZ x.2))++[([],.skip)]) (R:=cK es) (M:=iB es) rfl rfl rfl (by decide) (by decide) (by decide)
  (fun x hx=>by
   rcases cy.mp hx with hx|hx
   ·(refine J (b7.mp hx) fun y hy z2=>?_;subst z2)
    exact ⟨(hL y hy).2.1,aB (hL y hy).2.2.1 (by decide)⟩
   ·simp at hx;subst hx;exact ⟨.none rfl,by simp⟩)
  (by simp;exact aq hl rfl) (by rw [ft.2.2];simp) (by simp;lia) (by exact aq (aB l3 he) rfl) (by rw [e2,hmac];exact aq (eS (aB l4 (bc he)) (aB l1 (aB l2 hl))) rfl)
 rw [e2,hmac,VW,if_neg (by rw [List.any_append,abv];simp [isBad])] at key;rw [key];exact ⟨_,_,by rw [aap,aar];rfl⟩
def abD{es:Qf}{o:Qy}{L:List LR}(hL:∀ x∈L,t4 f x)(h0:L≠[])(hl:L.length≤5)(he:es.length≤50)(ho:Line f o .bad)(m8:o.length≤100∧∀ c∈o,c≠10):
  ∃ x y,(ai 400 (j + 7)).own 2 1 [.loc 2,.bytes f,.bytes (ji [10] (L.map (·.1)++[o])++[10])] (d.hp (stH es bF))=.bad (d.hp (stH es (bF++[x,y]))):=by
 have ft:=zY (H:=[]) (T:=L.map (·.1)++[o]) (by simp) (by simp;exact aq hl rfl) (fun r hr=>by
  rcases cy.mp hr with hr|hr
  ·(refine J (b7.mp hr) fun x hx z2=>?_;subst z2)
   exact ⟨(hL x hx).2.2.1,(hL x hx).2.2.2⟩
  ·simp at hr;subst hr;exact m8)
 have e2:((L.map fun x=>(x.1,gZ x.2))++[(o,fS.bad),(([]:Qy),fS.skip)]).map (·.2)=(L.map fun x=>gZ x.2)++[.bad,.skip]:=by simp
 have hmac:gr ((L.map fun x=>gZ x.2)++[.bad,.skip])=(gy L).flatMap pj:=by rw [show ((L.map fun x=>gZ x.2)++[fS.bad,.skip])=((L.map fun x=>gZ x.2)++[.bad])++[.skip] from by simp,yT,yT,CC];simp [gr]
 have l1:=CB (gy L);have l2:=Eb L;have l3:=Ek es;have l4:=LL es;have key:=ET (j:=j) (n:=2) (a:=3) (b:=4) (H:=d.hp (stH es bF)) (f:=f) (oc:=ji [10] (L.map (·.1)++[o])++[10]) (ls:=(L.map fun x=>(x.1,gZ x.2))++[(o,.bad),([],.skip)]) (R:=cK es) (M:=iB es) rfl rfl rfl (by decide) (by decide) (by decide)
  (fun x hx=>by
   rcases cy.mp hx with hx|hx
   ·(refine J (b7.mp hx) fun y hy z2=>?_;subst z2)
    exact ⟨(hL y hy).2.1,aB (hL y hy).2.2.1 (by decide)⟩
   ·simp at hx;rcases hx with rfl|rfl
    ·exact ⟨ho,by have:=m8.1;show o.length≤1000;exact aq this rfl⟩
    ·exact ⟨.none rfl,by simp⟩)
  (by simp;exact aq hl rfl) (by rw [ft.2.2];simp) (by rw [bP];have:=ft.2.1;show _ + 1≤10000;exact aq (bc this) rfl) (by exact aq (aB l3 he) rfl) (by rw [e2,hmac];exact aq (eS (aB l4 (bc he)) (aB l1 (aB l2 hl))) rfl)
 rw [e2,if_pos (by simp [isBad])] at key;refine eB key fun x y e=>?_;clear key;exact ⟨.list x,.list y,e⟩
def zj(d:DS)(es:Qf)(r:Hp)(x:PO):(d.hp (stH es (r++[x])))[r.length + 6]?=some x:=
 (show (d.hp (stH es (r++[x])))[r.length + 6]?=(r++[x])[r.length]? from rfl).trans Fw
def V9(d:DS)(es:Qf)(r:Hp)(x y:PO):(d.hp (stH es (r++[x]))).set (r.length + 6) y=d.hp (stH es (r++[y])):=by show d.hp (stH es ((r++[x]).set r.length y))=_;rw [Fp _ _ (aS _),xl];rfl
noncomputable def bb:List Qy:=[[],[],[100],[100,47,101]]
def yG:List Qy:=n8++[[91,97,116,116,114,93,109,32,120]]
def S3:∀ r∈yG,r.length≤100∧∀ c∈r,c≠10:=by decide
def S4{r:Qy}(hf:f∈dy)(h0:f≠[])(hr:r∈yG):Line f r .bad:=by
 rcases cy.mp hr with hr|hr
 ·exact Ij hf hr
 ·simp at hr;subst hr;exact SZ hf h0
noncomputable def D1:PS:=.f (.v 6) (.g 8 (.list false (.c (.y [33,97,32,120]) (.c (.y [97,32,45]) (.c (.y [97,32,120,61,49,32,45,61,50]) (.c (.y [97,32,98,47,99]) (.c (.y [91,97,116,116,114,93]) (.c (.y [91,97,116,116,114,93,45,109,32,120]) (.c (.y [97,32,33]) (.c (.y [97,32,45,45,120]) (.c (.y [34,97,32,120]) (.j (.y [97,32,36])))))))))))) (.e (.m .append (.v 5) (.j (.ite (.p .eq (.v 3) (.y [])) (.l .aG 20 (.c (.v 0) (.j (.v 8)))) (.l .aG 20 (.c (.v 0) (.j (.q .add false (.v 8) (.list false (.j (.y [91,97,116,116,114,93,109,32,120])))))))))) .nil)) .nil (.nR (.own .aG 1 (.v 1) (.c (.v 3) (.j (.q .add false (.m .join (.y [10]) (.j (.v 5))) (.y [10]))))) 7 true (.f (.p .ne (.v 7) (.v 6)) (.r (.b false)) .nil (.f (.n (.v 6)) (.e (.m .extend (.v 2) (.j (.comp false (.q .add false (.tup (.j (.v 4))) (.x (.v 0) (.i 1))) (.ex (.v 4)) (.j (.p .iQ (.x (.v 0) (.i 1)) .w))))) .nil) .nil (.r (.b true)))))
def Jl{X:Qy}(h3:dD sl 3=some (.bytes f))(h5:dD sl 5=some (.loc n))(hj:ml [10] (.loc n) H=.ok (.bytes X) H)(hl:X.length≤2000):
  bB O (.cons (.var 3) (.cons (.bin .add false (.gq .join (.y [10]) (.cons (.var 5) .nil)) (.y [10])) .nil)) sl H=.ok [.bytes f,.bytes (X++[10])] H:=
 aX (am h3) (aX (bk (b4 aO rfl (aX (am h5) ak) hj) aO (jY (bw (show X.length + 1≤16777216 by exact aq (bc hl) rfl)))) ak)
def abA{es:Qf}(dk:d.ok t)(ht:t≤50000)(cZ:eV es)(hl:es.length≤20):
  ∃ (d':DS) (j7:Qf) (mV:Hp),(ai 400 (j + 8)).call 27 [.loc 1,.loc 2,.loc 5] (d.hp (stH es bF))=.ok (.bool true) (d'.hp (stH j7 mV))∧eV j7∧j7.length≤es.length + 2∧mV.length=bF.length + 3∧d'.ok (t + 1000):=by
 refine bx (iO (fu:=400) (j:=j + 5) (rest:=stH es bF) (l:=bb.map .bytes) dk (by exact aq ht rfl) (by decide) (by decide)) fun x d1 e1 hx kU=>?_;refine J (b7.mp hx) fun f hf z2=>?_;subst z2;replace hf:=Yb f hf;refine bx (nk (fu:=400) (j:=j + 6) (n:=2) (rest:=stH es bF) kU (by exact aq (bc ht) rfl) (by decide) (by decide)) fun i d2 e2 hi kT=>?_;replace e2:(ai 400 (j + 7)).call 19 [.loc 1,.int 2] (d1.hp (stH es bF))=.ok (.int i) (d2.hp (stH es bF)):=e2;replace e1:(ai 400 (j + 7)).call 20 [.loc 1,.fl [.bytes [],.bytes [],.bytes [100],.bytes [100,47,101]]] (d.hp (stH es bF))=.ok (.bytes f) (d1.hp (stH es bF)):=e1;refine cO (RE (fu:=400) (j:=j + 3) (k:=1 + i) (rest:=stH es bF) (f:=f) (x1:=none) (x4:=none) (x2:=some (.loc 2)) (x3:=some (.loc 5)) (sl:=[none,none,none,none,none]) kT (by exact aq (bc (bc ht)) rfl) (by exact aq (addQ (gb hi)) rfl) hf) fun L d3 e3 hL pI nq=>?_;replace e3:fm (iD (ai 400 (j + 7)) .nil) (gM (ai 400 (j + 7)) (.call .aG 23 (.cons (.var 1) (.cons (.var 4) .nil)))) _ _ (d2.hp (stH es bF))=.ok (L.map jC) (d3.hp (stH es bF)):=e3;have DH:L≠[]:=by intro q;rw [q] at hL;exact absurd hL (by show ¬ 0=1 + i;lia)
 have hr:ma (.int (1 + (i:Int)))=some (.fix ((dR (1 + i)).map fun (k:Nat)=>.int k)):=by show (if -1000000000≤(1 + (i:Int))∧(1 + (i:Int))≤1000000000 then some (It.fix ((dR (1 + (i:Int)).toNat).map fun (k:Nat)=>PV.int k)) else none)=_;refine (if_pos (by lia)).trans ?_;rw [show (1 + (i:Int)).toNat=1 + i from by lia]
 refine bx (nk (fu:=400) (j:=j + 6) (n:=4) (rest:=stH es (bF++[.list (L.map fun x=>.bytes x.1)])) nq (by exact aq (bc (bc (bc ht))) rfl) (by decide) (by decide)) fun a d4 e4 ha mD=>?_;replace e4:(ai 400 (j + 7)).call 19 [.loc 1,.int 4] (d3.hp (stH es (bF++[.list (L.map fun x=>.bytes x.1)])))=.ok (.int a) (d4.hp (stH es (bF++[.list (L.map fun x=>.bytes x.1)]))):=e4;have ll:=I' es;have Ui:=I' (gy L);have Uh:=Eb L;have m5:L.length≤5:=by exact aq (aB (dM hL) (addQ (gb hi))) rfl
 have pre:∀ (t:Bool) z,bU .eq (.int a) (.int 0) (d4.hp (stH es (bF++[.list (L.map fun x=>.bytes x.1)])))=some t→
   aA (ai 400 (j + 7)) 400 D1 [some (.loc 1),some (.loc 2),some (.loc 5),some (.bytes f),some (.fl (L.map jC)),some (.loc (bF.length + 6)),some (.bool t),some (.bool false),none] (d4.hp (stH es (bF++[.list (L.map fun x=>.bytes x.1)])))=z→
   aA (ai 400 (j + 7)) 400 D2 (lj [.loc 1,.loc 2,.loc 5] 9) (d.hp (stH es bF))=z:=fun t z ht h=>by
  have q1:((dR (1 + i)).map fun (k:Nat)=>PV.int k).length≤aC:=bw (by rw [aQ,uu];exact aq (addQ (gb hi)) rfl);have q2:(L.map jC).length≤aC:=bw (by rw [aQ];exact aq m5 rfl);have q3:(L.map fun x=>PV.bytes x.1).length≤aC:=bw (by rw [aQ];exact aq m5 rfl);have tc:=PB (O:=ai 400 (j + 7)) (sl:=[some (.loc 1),some (.loc 2),some (.loc 5),some (.bytes f),some (.fl (L.map jC)),none,none,none,none]) (L:=L) (H:=d3.hp (stH es bF));delta D2;exact bQ (v:=.bytes f) (H₁:=d1.hp (stH es bF)) (bL (aF rfl (aX (fJ (vs:=[.bytes [],.bytes [],.bytes [100],.bytes [100,47,101]]) rfl (bw (by decide))) ak)) e1) (bQ (v:=.fl (L.map jC)) (H₁:=d3.hp (stH es bF)) (ly (tt (bk aO (bL (aF rfl (be ak)) e2) gY) hr) q1 e3 q2)
   (jE (cB (aX (R1 (fW (am rfl) rfl) q2 tc q3) (aX (yv (bL (aF rfl (be ak)) e4) aO ht) (be ak)))) rfl h))
 clear e1 e2 e3 hr;by_cases pH:a=0
 ·have pre:=fun z=>pre true z (tU (by rw [pH];rfl));have fin:∀ (d5:DS) (o:Qy),Line f o .bad→o.length≤100∧(∀ c∈o,c≠10)→d5.ok (t + 1000)→
    ao (ai 400 (j + 7)) (.ite (.cmp .eq (.var 3) (.y [])) (.call .aG 20 (.cons (.var 0) (.cons (.var 8) .nil))) (.call .aG 20 (.cons (.var 0) (.cons (.bin .add false (.var 8) (.list false (.cons (.y [91,97,116,116,114,93,109,32,120]) .nil))) .nil))))
     [some (.loc 1),some (.loc 2),some (.loc 5),some (.bytes f),some (.fl (L.map jC)),some (.loc (bF.length + 6)),some (.bool true),some (.bool false),some (.fl (n8.map .bytes))] (d4.hp (stH es (bF++[.list (L.map fun x=>.bytes x.1)])))=.ok (.bytes o) (d5.hp (stH es (bF++[.list (L.map fun x=>.bytes x.1)])))→
    ∃ (d':DS) (j7:Qf) (mV:Hp),(ai 400 (j + 8)).call 27 [.loc 1,.loc 2,.loc 5] (d.hp (stH es bF))=.ok (.bool true) (d'.hp (stH j7 mV))∧eV j7∧j7.length≤es.length + 2∧mV.length=bF.length + 3∧d'.ok (t + 1000):=fun d5 o hb ho rE oe=>by
   have ft:=zY (H:=d5.hp (stH es (bF++[.list (L.map (fun x=>.bytes x.1)++[.bytes o])]))) (T:=L.map (·.1)++[o]) (List.append_ne_nil_of_right_ne_nil _ (xx _ _)) (by rw [bP,aQ];show L.length + 1≤10;exact aq (bc m5) rfl) (fun r hr=>by
    rcases cy.mp hr with hr|hr
    ·(refine J (b7.mp hr) fun x hx z2=>?_;subst z2)
     exact ⟨(pI x hx).2.2.1,(pI x hx).2.2.2⟩
    ·rw [bZ.mp hr];exact ho)
   refine eB (abD (j:=j) (d:=d5) (es:=es) (bF:=bF++[.list (L.map (fun x=>.bytes x.1)++[.bytes o])]) pI DH m5 (by exact aq hl rfl) hb ho) fun x y ea=>?_;have jt:=ft.1 (bF.length + 6) (by rw [zj,nI,ju];rfl);have ap:=(tb (v:=.bytes o) (zj d5 es bF (.list (L.map fun x=>.bytes x.1))) (by rw [aQ];exact kZ m5 (by decide))).trans (by rw [V9]);refine ⟨d5,es,bF++[.list (L.map (fun x=>.bytes x.1)++[.bytes o])]++[x,y],?_,cZ,r7 ..,by rw [bP,bP];rfl,rE⟩;refine (e_ rfl rfl).trans ?_;apply jl
   case hl=>rfl
   apply pre;delta D1;exact kz (sD rfl) (bQ (v:=.fl (n8.map .bytes)) (fJ (vs:=n8.map .bytes) rfl (bw (by decide))) (kC (b4 (am rfl) (ol (zj ..)) (aX oe ak) ap) aW))
    (Sz (Bk (am rfl) (ri rfl) rfl (Jl rfl rfl jt ft.2.1) ea) (b5 (bX (am rfl) (am rfl) rfl) aW (b5 (lY (t:=true) (sD rfl)) aW (b9 aO))))
  by_cases pD:f=[]
  ·refine bx (iO (fu:=400) (j:=j + 5) (rest:=stH es (bF++[.list (L.map fun x=>.bytes x.1)])) (l:=n8.map .bytes) mD (by exact aq (bc (bc (bc (bc ht)))) rfl) (by decide) (by decide)) fun x d5 e5 hx rE=>?_;refine J (b7.mp hx) fun o ho z2=>?_;subst z2;replace e5:(ai 400 (j + 7)).call 20 [.loc 1,.fl (n8.map .bytes)] (d4.hp (stH es (bF++[.list (L.map fun x=>.bytes x.1)])))=.ok (.bytes o) (d5.hp (stH es (bF++[.list (L.map fun x=>.bytes x.1)]))):=e5;refine fin d5 o (by rw [pD];exact Ij (by decide) ho) (SY o ho) (rE.mono (by exact iK (b8 (b8 (b8 (b8 (b8 iM (aS _)) (aS _)) (aS _)) (aS _)) (aS _)) rfl)) (sW (bD rfl (by rw [pD];rfl)) (bL (aF rfl (aF rfl ak)) e5))
  ·refine bx (iO (fu:=400) (j:=j + 5) (rest:=stH es (bF++[.list (L.map fun x=>.bytes x.1)])) (l:=yG.map .bytes) mD (by exact aq (bc (bc (bc (bc ht)))) rfl) (by decide) (by decide)) fun x d5 e5 hx rE=>?_;refine J (b7.mp hx) fun o ho z2=>?_;subst z2;replace e5:(ai 400 (j + 7)).call 20 [.loc 1,.fl (yG.map .bytes)] (d4.hp (stH es (bF++[.list (L.map fun x=>.bytes x.1)])))=.ok (.bytes o) (d5.hp (stH es (bF++[.list (L.map fun x=>.bytes x.1)]))):=e5;refine fin d5 o (S4 hf pD ho) (S3 o ho) (rE.mono (by exact iK (b8 (b8 (b8 (b8 (b8 iM (aS _)) (aS _)) (aS _)) (aS _)) (aS _)) rfl)) (yt (bD rfl (congrArg some (beq_eq_false_iff_ne.mpr pD))) (bL (aF rfl (aX (bk (am rfl) (fJ (vs:=[.bytes [91,97,116,116,114,93,109,32,120]]) rfl (bw (by decide))) (by rfl)) ak)) e5))
 ·refine eB (abC (j:=j) (d:=d4) (es:=es) (bF:=bF++[.list (L.map fun x=>.bytes x.1)]) pI DH m5 (by exact aq hl rfl)) fun x y ea=>?_;have ft:=zY (H:=d4.hp (stH es (bF++[.list (L.map fun x=>.bytes x.1)]))) (T:=L.map (·.1)) (fun q=>DH (NE.mp q)) (by rw [aQ];exact aq m5 rfl) (fun r hr=>by
   refine J (b7.mp hr) fun x hx z2=>?_;subst z2;exact ⟨(pI x hx).2.2.1,(pI x hx).2.2.2⟩)
  have jt:=ft.1 (bF.length + 6) (by rw [zj,ju];rfl);have q2:(L.map jC).length≤aC:=bw (by rw [aQ];exact aq m5 rfl);have q4:(dI (gy L)).length≤aC:=bw (by exact aq (aB Ui (aB Uh m5)) rfl);have lc:=UB (O:=ai 400 (j + 7)) (x1:=some (.loc 1)) (x2:=some (.loc 2)) (x3:=some (.loc 5)) (sl:=[some (.fl (L.map jC)),some (.loc (bF.length + 6)),some (.bool false),some (.bool false),none]) (H:=d4.hp (oI::.list (cK (es++gy L))::.dict (iB (es++gy L))::.list (dI es)::(bF++[.list (L.map fun x=>.bytes x.1)]++[x,y]))) pI;refine ⟨d4,es++gy L,bF++[.list (L.map fun x=>.bytes x.1)]++[x,y],?_,?_,?_,by rw [bP,bP];rfl,mD.mono (by exact iK (b8 (b8 (b8 (b8 iM (aS _)) (aS _)) (aS _)) (aS _)) rfl)⟩
  ·rw [show stH (es++gy L)=fun r=>oI::.list (cK (es++gy L))::.dict (iB (es++gy L))::.list (dI es++dI (gy L))::r from by funext r;delta stH;rw [Uz]];refine (e_ rfl rfl).trans ?_;apply jl
   case hl=>rfl
   apply pre false
   ·exact tT (fun q=>pH (Int.ofNat.inj q))
   delta D1;exact b5 (sD rfl) aW (SA (qB (am rfl) (ri rfl) rfl (Jl rfl rfl jt ft.2.1) ea) (b5 (bX (am rfl) (am rfl) rfl) aW
    (kz (lY (t:=false) (sD rfl)) (kC (b4 (am rfl) (zC rfl) (aX (ly (fW (am rfl) rfl) q2 lc q4) ak) (Cp rfl (bw (by lia)))) aW) (b9 aO))))
  ·intro e he;rcases cy.mp he with he|he
   ·exact cZ e he
   ·refine J (Fr.mp he) fun x hx py=>?_;exact ⟨f,hf,(pI x hx).1 e py⟩
  ·rw [bP];lia
end
section
noncomputable def iP:List Qy:=[[97],[100,47,97],[100,47,98],[100,47,101,47,97,46,98],[120,46,98],[100,47,101,47,46,98],[101,47,100,47,97]]
def Ch{P:Qy→Prop}(h1:P [97])(h2:P [100,47,97])(h3:P [100,47,98])(h4:P [100,47,101,47,97,46,98])(h5:P [120,46,98])(h6:P [100,47,101,47,46,98])(h7:P [101,47,100,47,97]):∀ p∈iP,P p:=by intro n hn;simp [iP] at hn;rcases hn with rfl|rfl|rfl|rfl|rfl|rfl|rfl<;>assumption
def kBz(l:Qy):Nat:=l.foldr (fun b n=>n*133 + b.toNat) 0
def iA(p f a:Qy):Bool:=Nat.testBit 0x240963d9000186600000000000000000000000000000000090000900000040004080000001024090241000106400000000000000000000000100507400000240000000000000010000000000000000 ((kBz p%22*3 + kBz f%3)*10 + kBz a%10)
def Yl(j:Nat)(v:PV)(H:Hp):∀ p∈kX,∀ f∈dy,∀ a∈iP,(ai 400 (j + 5)).own 1 0 [.fi 1 (fieldsOf p f v),.bytes a,.bool false] H=.ok (.bool (iA p f a)) H:=by refine tZ ?_ ?_ ?_ ?_ ?_ ?_ ?_ ?_ ?_ ?_ ?_ ?_ ?_<;>refine gw ?_ ?_ ?_<;>refine Ch ?_ ?_ ?_ ?_ ?_ ?_ ?_<;>kernel_rfl
end
section
def Sq{P:Qy→Prop}(h1:P [42])(h2:P [97])(h3:P [42,46,98])(h4:P [63])(h5:P [47,97])(h6:P [100,47,97])(h7:P [101,47,42])(h8:P [100,47,42,47,42,46,98])(h9:P [47,42,46,98])(wm:P [47,100,47,101,47,97,46,98])(wl:P [42,97,42]):∀ p∈ku,P p:=by intro p hp;simp [ku] at hp;rcases hp with rfl|rfl|rfl|rfl|rfl|rfl|rfl|rfl|rfl|rfl|rfl<;>assumption
def U4(j:Nat)(us:Qp):∀ p∈ku,∀ f∈dy,∀ a∈iP,(ai 400 (j + 3)).call 25 [.tup [.bytes f,.bool false,.bytes p,.fl us],.bytes a] []=.ok (.bool (iA p f a)) []:=by refine Sq ?_ ?_ ?_ ?_ ?_ ?_ ?_ ?_ ?_ ?_ ?_<;>refine gw ?_ ?_ ?_<;>refine Ch ?_ ?_ ?_ ?_ ?_ ?_ ?_<;>kernel_rfl
def Z5:∀ p∈([[100,47],[42,47]]:List Qy),∀ f∈dy,∀ a∈iP,iA p f a=false:=by intro p hp;simp at hp;rcases hp with rfl|rfl<;>refine gw ?_ ?_ ?_<;>refine Ch ?_ ?_ ?_ ?_ ?_ ?_ ?_<;>kernel_rfl
noncomputable def UM:Qn:=[100,101,112,116,104]
noncomputable def UL:Qn:=[118,97,108,117,101,115]
noncomputable def depthOf(f:Qy):Int:=if f=[] then 0 else if f=[100] then 1 else 2
def Z0(v:PV):∀ p∈kX,∀ f∈dy,look UM (fieldsOf p f v)=some (.int (depthOf f)):=by refine tZ ?_ ?_ ?_ ?_ ?_ ?_ ?_ ?_ ?_ ?_ ?_ ?_ ?_<;>refine gw ?_ ?_ ?_<;>kernel_rfl
def ON(v:PV):∀ p∈kX,∀ f∈dy,look UL (fieldsOf p f v)=some v:=by refine tZ ?_ ?_ ?_ ?_ ?_ ?_ ?_ ?_ ?_ ?_ ?_ ?_ ?_<;>refine gw ?_ ?_ ?_<;>kernel_rfl
def SH(v:PV):∀ p∈kX,∀ f∈dy,look (mn 0) (fieldsOf p f v)=none:=by refine tZ ?_ ?_ ?_ ?_ ?_ ?_ ?_ ?_ ?_ ?_ ?_ ?_ ?_<;>refine gw ?_ ?_ ?_<;>kernel_rfl
end
section
noncomputable abbrev TL:=Qm
noncomputable abbrev MT:=List (Qn×TL)
noncomputable def isTrue:PV→Bool
 | .bool true=>true
 | _=>false
def ext(M:MT)(k:Qn)(v:PV):TL:=if isTrue v then ((look k M).getD []).reverse else []
noncomputable def pm(M:MT):Nat→TL→TL→Option TL
 | _,[],F=>some F
 | 0,_::_,_=>none
 | n + 1,(k,v)::W,F=>if (look k F).isSome then pm M n W F else pm M n (ext M k v++W) (put k v F)
def s9(M:MT)(n:Nat)(F:TL):pm M n [] F=some F:=by induction n using dN<;>rfl
def qI{M:MT}{p:Qn×PV}{W F:TL}(h:(look p.1 F).isSome=true):pm M (n + 1) (p::W) F=pm M n W F:=if_pos h
def qJ{M:MT}{p:Qn×PV}{W F:TL}(h:look p.1 F=none):pm M (n + 1) (p::W) F=pm M n (ext M p.1 p.2++W) (put p.1 p.2 F):=if_neg (by rw [h];exact cN)
def u_{M:MT}{P:Nat→TL→TL→Prop}(h0:∀ n F,P n [] F)(hz:∀ p W F,P 0 (p::W) F)(hT:∀ n p W F,(look p.1 F).isSome=true→P n W F→P (n + 1) (p::W) F)(hF:∀ n p W F,look p.1 F=none→P n (ext M p.1 p.2++W) (put p.1 p.2 F)→P (n + 1) (p::W) F)(n:Nat)(W F:TL):P n W F:=by
 induction n generalizing W F with
 | zero=>
  induction W using bj with
  | nil=>exact h0 _ _
  | cons p W=>exact hz _ _ _
 | succ n ih=>
  induction W using bj with
  | nil=>exact h0 _ _
  | cons p W=>
   generalize e:(look p.1 F)=zz;induction zz using az with
   | none=>exact hF _ _ _ _ e (ih _ _)
   | some x=>exact hT _ _ _ _ (by rw [e];rfl) (ih _ _)
def Sj{M:MT}{W F G:TL}:pm M n W F=some G→pm M (n + 1) W F=some G:=
 u_ (M:=M) (P:=fun n W F=>pm M n W F=some G→pm M (n + 1) W F=some G) (fun n F h=>(s9 M (n + 1) F).trans ((s9 M n F).symm.trans h)) (fun _ _ _ h=>nomatch h)
  (fun n p W F q ih h=>(qI q).trans (ih ((qI q).symm.trans h))) (fun n p W F q ih h=>(qJ q).trans (ih ((qJ q).symm.trans h))) n W F
def Cd{M:MT}{W F G:TL}(h:pm M n W F=some G)(hm:n≤m):pm M m W F=some G:=by
 induction hm with
 | refl=>exact h
 | step _ ih=>exact Sj ih
def Sk{M:MT}{B G K:TL}(hb:pm M m B G=some K){A F:TL}:pm M n A F=some G→pm M (n + m) (A++B) F=some K:=
 u_ (M:=M) (P:=fun n A F=>pm M n A F=some G→pm M (n + m) (A++B) F=some K) (fun n F h=>by generalize ((s9 M n F).symm.trans h)=zz;(injection zz with e1;subst e1);exact Cd hb (xr _ _)) (fun _ _ _ h=>nomatch h)
  (fun n p W F q ih h=>by rw [Fh];exact (qI q).trans (ih ((qI q).symm.trans h))) (fun n p W F q ih h=>by rw [Fh];exact (qJ q).trans (by have:=ih ((qJ q).symm.trans h);rwa [dz] at this)) n A F
def H1{M:MT}{W F G G':TL}(h:pm M n W F=some G)(h':pm M m W F=some G'):G=G':=
 Option.some.inj ((Cd h (r7 n m)).symm.trans (Cd h' (xr m n)))
def IZ(k k':Qn)(v:α)(F:List (Qn×α)):look k' (put k v F)=if k=k' then some v else look k' F:=by
 induction F with
 | nil=>rfl
 | cons p F ih=>
  obtain ⟨x,u⟩:=p;show look k' (if x=k then (x,v)::F else (x,u)::put k v F)=if k=k' then some v else if x=k' then some u else look k' F
  by_cases h:x=k
  ·subst h;rw [if_pos rfl];show (if x=k' then some v else look k' F)=_;by_cases h':x=k'
   ·rw [if_pos h',if_pos h']
   ·rw [if_neg h',if_neg h',if_neg h']
  ·rw [if_neg h];show (if x=k' then some u else look k' (put k v F))=_;rw [ih];by_cases h':x=k'
   ·rw [if_pos h',if_pos h',if_neg fun q=>h (h'.trans q.symm)]
   ·rw [if_neg h',if_neg h']
noncomputable def mu(F:TL):MT→Nat
 | []=>0
 | (k,l)::r=>(if (look k F).isSome then 0 else l.length) + mu F r
def Tz(k:Qn)(v:PV)(F:TL)(M:MT):mu (put k v F) M≤mu F M:=by
 induction M with
 | nil=>exact aS _
 | cons p r ih=>
  refine AW ?_ ih;rw [IZ];by_cases h:k=p.1
  ·rw [if_pos h];exact cE _
  ·rw [if_neg h];exact aS _
def TA{k:Qn}{F:TL}(hk:look k F=none)(M:MT):mu (put k v F) M + ((look k M).getD []).length≤mu F M:=by
 induction M with
 | nil=>exact aS _
 | cons p r ih=>
  obtain ⟨x,l⟩:=p;show (if (look x (put k v F)).isSome then 0 else l.length) + mu (put k v F) r + ((if x=k then some l else look k r).getD []).length≤(if (look x F).isSome then 0 else l.length) + mu F r;rw [IZ];by_cases h:x=k
  ·subst h;rw [if_pos rfl,if_pos rfl,hk,xt];exact Fn (aB (dM (xk _)) (Tz x v F r)) _
  ·rw [if_neg (c:=x=k) h,if_neg (c:=k=x) (fun q=>h q.symm),r8];exact Fn ih _
def Le{M:MT}(k:Qn)(v:PV):(ext M k v).length≤((look k M).getD []).length:=by
 delta ext;generalize (isTrue v)=zz;induction zz with
 | true=>exact dM i6
 | false=>exact cE _
def H4{M:MT}{W F:TL}:W.length + mu F M≤n→∃ G,pm M n W F=some G:=
 u_ (M:=M) (P:=fun n W F=>W.length + mu F M≤n→∃ G,pm M n W F=some G) (fun n F _=>⟨F,s9 _ _ _⟩) (fun p W F h=>absurd (aB (r7 _ _) h) (adS _))
  (fun n p W F q ih h=>by rw [qI q];exact ih (Nx (Fh _ _ ▸ h))) (fun n p W F q ih h=>by
   rw [qJ q];refine ih ?_;have zn:=TA (v:=p.2) q M;have:=Le (M:=M) p.1 p.2;rw [bP];rw [kl] at h;lia) n W F
def IF(F:TL){M:MT}(h:∀ x∈M,x.2.length≤c):mu F M≤c * M.length:=by
 induction M with
 | nil=>exact cE _
 | cons p r ih=>
  have h0:p.2.length≤c:=h _ (bC ..);show (if (look p.1 F).isSome then 0 else p.2.length) + mu F r≤c * (r.length + 1);rw [Nu,xt (c * r.length)];refine AW ?_ (ih fun x hx=>h x (bM _ hx));by_cases q:(look p.1 F).isSome=true
  ·rw [if_pos q];exact cE _
  ·rw [if_neg q];exact h0
noncomputable def lS(F:TL):Prop:=(F.map (·.1)).Nodup∧∀ x∈F,cM x.2
def Uf{k:Qn}{F:List (Qn×α)}:look k F=none↔k∉F.map (·.1):=by
 induction F with
 | nil=>exact ⟨fun _=>oP,fun _=>rfl⟩
 | cons p F ih=>
  obtain ⟨x,v⟩:=p;show (if x=k then some v else look k F)=none↔_;rw [da,cA,not_or];by_cases h:x=k
  ·rw [if_pos h];exact ⟨fun q=>(nomatch q),fun q=>absurd h.symm q.1⟩
  ·rw [if_neg h,ih];exact ⟨fun q=>⟨fun e=>h e.symm,q⟩,fun q=>q.2⟩
def R5{k:Qn}{v:α}{F:List (Qn×α)}(h:look k F=none):put k v F=F++[(k,v)]:=by
 induction F with
 | nil=>rfl
 | cons p F ih=>
  have hn:¬ p.1=k:=fun q=>nomatch (if_pos q:look k (p::F)=some p.2).symm.trans h
  exact (if_neg hn).trans (congrArg _ (ih ((if_neg hn).symm.trans h)))
def yW{k:Qn}{v:α}{F:List (Qn×α)}(h:look k F=some v):(k,v)∈F:=by
 induction F with
 | nil=>injection h
 | cons p F ih=>
  obtain ⟨x,u⟩:=p;by_cases hx:x=k
  ·generalize ((if_pos hx).symm.trans h)=zz
   (injection zz with e1;subst e1);subst hx;exact bC ..
  ·exact bM _ (ih ((if_neg hx).symm.trans h))
noncomputable def jn(M:MT):Prop:=∀ x∈M,nv x.2
def Lf{M:MT}(hM:jn M)(k:Qn)(v:PV):∀ x∈ext M k v,cM x.2:=fun x hx=>by
 delta ext at hx;generalize q:(isTrue v)=zz;induction zz with
 | false=>rw [q] at hx;cases hx
 | true=>
  rw [q] at hx;generalize e:(look k M)=zz;induction zz using az with
  | none=>rw [e] at hx;cases hx
  | some l=>rw [e] at hx;exact (hM _ (yW e)).2 x (p8.mp hx)
def Ye{F:TL}(hF:lS F){p:Qn×PV}(hk:look p.1 F=none)(hp:cM p.2):lS (put p.1 p.2 F)∧(put p.1 p.2 F).length=F.length + 1:=by
 rw [R5 hk];refine ⟨⟨?_,fun x hx=>?_⟩,bP⟩
 ·rw [nI,aed];exact ⟨hF.1,uq.mpr ⟨oP,Fq⟩,fun a ha b hb q=>Uf.mp hk ((q.trans (bZ.mp hb):a=p.1) ▸ ha)⟩
 ·exact (cy.mp hx).elim (hF.2 x) fun hx=>bZ.mp hx ▸ hp
def H3{M:MT}(hM:jn M){W F G:TL}:(∀ x∈W,cM x.2)→lS F→pm M n W F=some G→lS G∧G.length≤F.length + n:=
 u_ (M:=M) (P:=fun n W F=>(∀ x∈W,cM x.2)→lS F→pm M n W F=some G→lS G∧G.length≤F.length + n) (fun n F _ hF h=>by generalize ((s9 M n F).symm.trans h)=zz;(injection zz with e1;subst e1);exact ⟨hF,r7 _ _⟩) (fun _ _ _ _ _ h=>nomatch h)
  (fun n p W F q ih hW hF h=>(ih (fun x hx=>hW x (bM _ hx)) hF ((qI q).symm.trans h)).imp id fun h=>oO h) (fun n p W F q ih hW hF h=>by
   refine ad (Ye hF q (hW _ (bC ..))) fun h1 h2=>?_;rw [h2,Fh] at ih;exact ih (fun x hx=>(cy.mp hx).elim (Lf hM _ _ x) fun hx=>hW x (bM _ hx)) h1 ((qJ q).symm.trans h)) n W F
def abb(h:cM v):dE v v=some true:=by induction h<;>first|rfl|exact congrArg some (beq_self_eq_true _)
def Ue{k:Qn}{v:α}{F:List (Qn×α)}(hn:(F.map (·.1)).Nodup)(h:(k,v)∈F):look k F=some v:=by
 induction F with
 | nil=>exact absurd h oP
 | cons p F ih=>
  rw [da,uq] at hn;rcases cA.mp h with e|h
  ·subst e;exact if_pos rfl
  ·exact (if_neg fun q:p.1=k=>hn.1 (q ▸ b7.mpr ⟨_,h,rfl⟩)).trans (ih hn.2 h)
def ZZ{F:TL}(h:lS F):wG F F=some true:=by
 delta wG;refine (if_neg (by simp)).trans ?_;have:∀ l:TL,(∀ x∈l,x∈F)→l.foldr (fun kv acc=>match acc,look kv.1 F with
  | some t,some v=>(dE kv.2 v).map (·&&t)
  | some _,.none=>some false
  | .none,_=>.none) (some true)=some true:=by
  intro l;induction l with
  | nil=>intro _;rfl
  | cons x l ih=>intro hl;refine (aeq).trans ?_;rw [ih fun y hy=>hl y (bM _ hy)];have hx:=hl x (bC ..);rw [Ue h.1 hx];simp [abb (h.2 x hx)]
 exact this F fun x hx=>hx
end
section
def Zd{M:MT}(hM:jn M)(k:Qn)(v:PV):(ext M k v).length≤3:=by
 refine aB (Le k v) ?_;generalize e:(look k M)=zz;induction zz using az with
 | none=>exact cE _
 | some l=>exact (hM _ (yW e)).1
def T5{body:Sl→Hp→R (Fl×Sl)}(h:test sl H=.ok false H):lD test body (fu + 1) sl H=.ok (.next,sl) H:=rB h rfl
def IV{body:Sl→Hp→R (Fl×Sl)}(h:test sl H=.ok true H)(hb:body sl H=.ok (.next,aE) H'):lD test body (fu + 1) sl H=lD test body fu aE H':=rB h (rB hb rfl)
def T'{M:MT}(hM:jn M){body:Sl→Hp→R (Fl×Sl)}(P:TL→TL→Sl→Hp→Prop)(hT:∀ W F sl H,P W F sl H→test sl H=.ok (!W.isEmpty) H)(hB:∀ k v W F sl H,P ((k,v)::W) F sl H→cM v→W.length≤900→F.length≤900→∃ aE H',body sl H=.ok (.next,aE) H'∧(if (look k F).isSome then P W F aE H' else P (ext M k v++W) (put k v F) aE H'))(n:Nat)(W F G:TL):∀ (fu:Nat) (sl:Sl) (H:Hp),pm M n W F=some G→W.length + 3 * n≤900→F.length + n≤900→n < fu→(∀ x∈W,cM x.2)→P W F sl H→∃ aE H',lD test body fu sl H=.ok (.next,aE) H'∧P [] G aE H':=by
 refine u_ (M:=M) (P:=fun n W F=>∀ (fu:Nat) (sl:Sl) (H:Hp),pm M n W F=some G→W.length + 3 * n≤900→F.length + n≤900→n < fu→(∀ x∈W,cM x.2)→P W F sl H→∃ aE H',lD test body fu sl H=.ok (.next,aE) H'∧P [] G aE H')
  (fun n F fu sl H h _ _ hf _ hP=>?_) (fun _ _ _ _ _ _ h=>nomatch h) (fun n p W F q ih fu sl H h h1 h2 hf hA hP=>?_) (fun n p W F q ih fu sl H h h1 h2 hf hA hP=>?_) n W F
 ·induction fu using dN with
  | zero=>exact absurd hf (xm _)
  | succ fu=>
   generalize ((s9 M n F).symm.trans h)=zz
   (injection zz with e1;subst e1)
   exact ⟨sl,H,T5 (hT _ _ _ _ hP),hP⟩
 ·induction fu using dN with
  | zero=>exact absurd hf (xm _)
  | succ fu=>rw [kl] at h1;refine ch (hB p.1 p.2 W F sl H hP (hA _ (bC ..)) (by lia) (aB (r7 _ _) h2)) fun aE H' e DG=>?_;rw [IV (hT _ _ _ _ hP) e];exact ih fu aE H' ((qI q).symm.trans h) (by lia) (ug h2) (adV hf) (fun x hx=>hA x (bM _ hx)) ((if_pos q).mp DG)
 ·induction fu using dN with
  | zero=>exact absurd hf (xm _)
  | succ fu=>rw [kl] at h1;refine ch (hB p.1 p.2 W F sl H hP (hA _ (bC ..)) (by lia) (aB (r7 _ _) h2)) fun aE H' e DG=>?_;rw [IV (hT _ _ _ _ hP) e];have he:=Zd hM p.1 p.2;have hp:=B_ p.1 p.2 F;exact ih fu aE H' ((qJ q).symm.trans h) (by rw [bP];lia) (by lia) (adV hf) (fun x hx=>(cy.mp hx).elim (Lf hM _ _ x) fun hx=>hA x (bM _ hx)) ((if_neg (by rw [q];exact cN)).mp DG)
def dw(M:MT):TL:=M.map fun p=>(p.1,.fl (bv p.2))
def yX(k:Qn)(M:MT):look k (dw M)=(look k M).map fun l=>PV.fl (bv l):=by
 induction M with
 | nil=>rfl
 | cons p M ih=>
  show (if p.1=k then some (PV.fl (bv p.2)) else look k (dw M))=(if p.1=k then some p.2 else look k M).map _;by_cases h:p.1=k
  ·rw [if_pos h,if_pos h];rfl
  ·rw [if_neg h,if_neg h];exact ih
def sE(a b:TL):bv (a++b)=bv a++bv b:=nI
def mW(a:TL):(bv a).length=a.length:=aQ _
def PK(k:Qn)(v:PV):bv [(k,v)]=[.tup [.str k,v]]:=rfl
def U2(h:cM v):vD v (.bool true)=some (isTrue v):=by
 induction h with
 | none=>rfl
 | bool b=>induction b<;>rfl
 | str s=>rfl
def aaN(h:H[n]?=some (.list l)):bU .ne (.loc n) (.fl []) H=some (!l.isEmpty):=by
 show (eqv (.loc n) (.fl []) H).map _=_;have hd:dZ (.loc n) H=none:=by show (match H[n]? with|some (.dict l)=>some l|_=>none)=_;rw [h]
 delta eqv;rw [DF h,hd];rfl
def aaM{F:TL}{k:Qn}(h:H[n]?=some (.dict F)):bU .dg (.str k) (.loc n) H=some (!(look k F).isSome):=by
 have h1:bV (.loc n) H=none:=by show (match H[n]? with|some (.list l)=>some l|_=>none)=_;rw [h]
 have h2:dZ (.loc n) H=some F:=by show (match H[n]? with|some (.dict l)=>some l|_=>none)=_;rw [h]
 show (match bV (.loc n) H with|some l=>iE (.str k) l|.none=>match dZ (.loc n) H,toStr (.str k) with|some d,some k=>some (look k d).isSome|_,_=>.none).map _=_;rw [h1,h2];rfl
noncomputable def sI(a b f:Nat)(C D:PE):PS:=(.dr [a,b] (.gq .pop (.var 4) .nil)
  (.ifs (.cmp .dg (.var a) (.var f)) (.gF (.var f) (.var a) (.var b)
   (.ifs C (.expr (.gq .extend (.var 4) (.cons (.idx D (.var a)) .nil))
    .nil) .nil
   .nil)) .nil
  .nil))
noncomputable def x7:PE:=.p .ne (.v 4) (.list false .nil)
structure MD(O:dL)(M:MT)(HH:TL→TL→Hp)(a b f kW nf:Nat)(C D:PE)(k:Qn)(v:PV)(sl:Sl):Prop where
 a:dD sl a=some (.str k)
 b:dD sl b=some v
 f:dD sl f=some (.loc nf)
 w:dD sl 4=some (.loc kW)
 c:∀ W F,bK O C sl (HH W F)=.ok (isTrue v&&(look k M).isSome) (HH W F)
 d:∀ W F l,look k M=some l→∃ u,ao O D sl (HH W F)=.ok u (HH W F)∧kM u (.str k) (HH W F)=some (.fl (bv l))
structure MO(HH:TL→TL→Hp)(kW nf:Nat):Prop where
 w:∀ W F,(HH W F)[kW]?=some (.list (bv W.reverse))
 f:∀ W F,(HH W F)[nf]?=some (.dict F)
 sw:∀ W F X,(HH W F).set kW (.list (bv X.reverse))=HH X F
 sf:∀ W F X,(HH W F).set nf (.dict X)=HH W X
def P4{M:MT}{HH:TL→TL→Hp}{a b f kW:Nat}{C D:PE}{k:Qn}{gV:Sl}{W F:TL}(hM:jn M)(hh:MO HH kW nf)(h4:dD sl 4=some (.loc kW))(hb:jK [a,b] (.tup [.str k,v]) sl=some gV)(hs:MD O M HH a b f kW nf C D k v gV)(l1:W.length≤900)(l2:F.length≤900):
  ∃ H',aA O 400 (sI a b f C D) sl (HH ((k,v)::W) F)=.ok (.next,gV) H'∧(if (look k F).isSome then H'=HH W F else H'=HH (ext M k v++W) (put k v F)):=by
 have hw:=hh.w ((k,v)::W) F;rw [AZ,sE,PK] at hw;have lw:(bv W.reverse).length≤900:=by rw [mW,i6];exact l1
 have pp:=Cm hw (kZ lw (by decide));rw [hh.sw] at pp;have cn:=aaM (k:=k) (hh.f W F);have P:=jE (fu:=400) (r:=.ifs (.cmp .dg (.var a) (.var f)) (.gF (.var f) (.var a) (.var b) (.ifs C (.expr (.gq .extend (.var 4) (.cons (.idx D (.var a)) .nil)) .nil) .nil .nil)) .nil .nil) (b4 (O:=O) (bm:=.pop) (am h4) (ol hw) ak pp) hb rfl;generalize e:(look k F).isSome=zz;induction zz with
 | true=>rw [e] at cn;exact ⟨_,P.trans (b5 (bX (am hs.a) (am hs.f) cn) aW aW),rfl⟩
 | false=>
  rw [e] at cn;have st:=yH (k:=k) (v:=v) (hh.f W F) (kZ l2 (by decide));rw [hh.sf] at st;have hc:=hs.c W (put k v F);have he:ext M k v=cond (isTrue v) ((look k M).getD []).reverse []:=by delta ext;generalize (isTrue v)=zz;induction zz<;>rfl
  have fin:∀ H',aA O 400 (.ifs C (.expr (.gq .extend (.var 4) (.cons (.idx D (.var a)) .nil)) .nil) .nil .nil) gV (HH W (put k v F))=.ok (.next,gV) H'→
    aA O 400 (sI a b f C D) sl (HH ((k,v)::W) F)=.ok (.next,gV) H':=fun H' h=>
   P.trans (kz (bX (am hs.a) (am hs.f) cn) (qK (am hs.b) (am hs.f) (am hs.a) st h) aW)
  rw [he];generalize t:(isTrue v)=zz;induction zz with
  | false=>rw [t] at hc;exact ⟨_,fin _ (b5 hc aW aW),rfl⟩
  | true=>
   rw [t] at hc;generalize q:(look k M)=zz;induction zz using az with
   | none=>rw [q] at hc;exact ⟨_,fin _ (b5 hc aW aW),rfl⟩
   | some l=>
    rw [q] at hc;refine J (hs.d W (put k v F) l q) fun u hu hx=>?_;have hl:(bv l).length≤3:=by rw [mW];exact (hM _ (yW q)).1
    have ex:=Cp (hh.w W (put k v F)) (xs:=bv l) (bw (by exact aq (eS lw hl) rfl));rw [←sE,←AY (as:=l),←Nz,AY,hh.sw] at ex;exact ⟨_,fin _ (kz hc (kC (b4 (am hs.w) (zC (hh.w W (put k v F))) (aX (sX hu (am hs.a) hx) ak) ex) aW) aW),rfl⟩
def HZ{M:MT}{HH:TL→TL→Hp}{a b f kW:Nat}{C D:PE}(hM:jn M)(hh:MO HH kW nf)(S:Sl→Prop)(h4:∀ sl,S sl→dD sl 4=some (.loc kW))(hS:∀ sl k v,S sl→cM v→∃ gV,jK [a,b] (.tup [.str k,v]) sl=some gV∧S gV∧MD O M HH a b f kW nf C D k v gV){W F G:TL}(h:pm M n W F=some G)(h1:W.length + 3 * n≤900)(h2:F.length + n≤900)(hn:n < 400)(hA:∀ x∈W,cM x.2)(h0:S sl):
  ∃ aE,lD (y8 O x7) (dJ O 400 (sI a b f C D)) 400 sl (HH W F)=.ok (.next,aE) (HH [] G)∧S aE:=by
 refine bx (T' hM (test:=y8 O x7) (body:=dJ O 400 (sI a b f C D)) (fun W F sl H=>H=HH W F∧S sl) (fun W F sl H hP=>by
   refine ad hP fun z0=>?_;clear hP;subst z0;intro hs;refine bX (am (h4 _ hs)) (fJ ak (cE _)) ((aaN (hh.w W F)).trans ?_);induction W using bj with
   | nil=>rfl
   | cons x W=>rw [AZ,sE];generalize (bv W.reverse)=zz;induction zz using bj<;>rfl)
   (fun k v W F sl H hP hv l1 l2=>by
    refine ad hP fun z0=>?_;clear hP;subst z0;intro hs;refine ci (hS sl k v hs hv) fun gV hb m7 ho=>?_;refine J (P4 hM hh (h4 _ hs) hb ho l1 l2) fun H' e q=>?_;refine ⟨gV,H',e,?_⟩;by_cases i:(look k F).isSome=true
    ·rw [if_pos i] at q⊢;exact ⟨q,m7⟩
    ·rw [if_neg i] at q⊢;exact ⟨q,m7⟩)
   n W F G 400 sl (HH W F) h h1 h2 hn hA ⟨rfl,h0⟩) fun aE H' e e1 e2=>?_
 exact ⟨aE,by rw [e,e1],e2⟩
def PJ:PS:=sI 7 8 5 (.d (.c (.p .is (.v 8) (.b true)) (.j (.p .aG (.v 7) (.v 2))))) (.v 2)
def Uv{M:MT}(hM:jn M){r p:PV}{s8:Qq}{W F G:TL}(h:pm M n W F=some G)(h1:W.length + 3 * n≤900)(h2:F.length + n≤900)(hn:n < 400)(hA:∀ x∈W,cM x.2):
  ∃ aE,lD (y8 O x7) (dJ O 400 PJ) 400 [some r,some p,some (.loc 0),s3,some (.loc 1),some (.loc 2),s6,s7,s8] [.dict (dw M),.list (bv W.reverse),.dict F]=.ok (.next,aE) [.dict (dw M),.list [],.dict G]∧dD aE 5=some (.loc 2):=by
 (refine J (HZ (O:=O) (a:=7) (b:=8) (f:=5) (kW:=1) (nf:=2) (C:=.iF (.cons (.cmp .is (.var 8) (.b true)) (.cons (.cmp .aG (.var 7) (.var 2)) .nil))) (D:=.var 2) (HH:=fun W F=>[.dict (dw M),.list (bv W.reverse),.dict F]) hM ⟨fun _ _=>rfl,fun _ _=>rfl,fun _ _ _=>rfl,fun _ _ _=>rfl⟩
   (fun sl=>∃ s7 s8,sl=[some r,some p,some (.loc 0),s3,some (.loc 1),some (.loc 2),s6,s7,s8]) (fun sl ⟨_,_,e⟩=>by rw [e];rfl) (fun sl k v ⟨s7,s8,e⟩ hv=>⟨[some r,some p,some (.loc 0),s3,some (.loc 1),some (.loc 2),s6,some (.str k),some v],by rw [e];rfl,⟨_,_,rfl⟩,
    rfl,rfl,rfl,rfl,fun W F=>fG (allB (bD rfl (U2 hv)) (all1 (bX (am rfl) (am rfl) (congrArg some (by rw [yX];generalize (look k M)=zz;induction zz using az<;>rfl))))),fun W F l e=>⟨_,am rfl,(yX k M).trans (by rw [e];rfl)⟩⟩)
   h h1 h2 hn hA ⟨s7,s8,rfl⟩) fun aE e z3=>?_;(refine eB z3 fun u0 uZ e2=>?_;clear z3))
 exact ⟨aE,e,by rw [e2];rfl⟩
end
section
noncomputable def fH(H:Hp)(nf:Nat)(D:TL)(x:PO):Hp:=H.set nf (.dict D)++[x]
section
variable (h:nf < H.length) (D E:TL) (x y:PO)
include h
def Yw:(fH H nf D x)[nf]?=some (.dict D):=by unfold fH;exact oq (A6 h)
def Yu:(fH H nf D x).set nf (.dict E)=fH H nf E x:=by unfold fH;rw [ad_ _ _ (by rw [ut];exact h),ad8]
omit h
def Yv:(fH H nf D x)[H.length]?=some x:=by unfold fH;rw [gD (by simp)];simp
def Yt:(fH H nf D x).set H.length y=fH H nf D y:=by unfold fH;rw [Fp _ _ (by simp)];simp
end
def Rt:PS:=sI 2 3 1 (.d (.c (.bi .mq (.j (.v 3))) (.c (.v 3) (.j (.p .aG (.v 2) (.a (.v 0) [109,97,99,114,111,115])))))) (.a (.v 0) [109,97,99,114,111,115])
def fI(R:Qp)(M:MT):PV:=.fi 2 [(fM,.fl R),(fV,.fd (dw M))]
def Re{M:MT}(hM:jn M){R:Qp}{H0:Hp}{k:Qn}{F G:TL}(hF:H0[nf]?=some (.dict F))(h:pm M n [(k,v)] F=some G)(h1:3 * n≤890)(h2:F.length + n≤900)(hn:n < 400)(hA:cM v):
  (ai 400 (j + 1)).own 2 4 [fI R M,.loc nf,.str k,v] H0=.ok .none (H0.set nf (.dict G)++[.list []]):=by
 have hf:=(cF.mp hF).1;have gm:∀ H,getattr (fI R M) fV H=some (.fd (dw M)):=fun H=>rfl;have lm:∀ (k:Qn) H,bU .aG (.str k) (.fd (dw M)) H=some (look k M).isSome:=fun k H=>congrArg some (by rw [yX];generalize (look k M)=zz;induction zz using az<;>rfl)
 (refine J (HZ (O:=ai 400 j) (a:=2) (b:=3) (f:=1) (kW:=H0.length) (nf:=nf) (C:=(.iF (.cons (.bi .mq (.cons (.var 3) .nil)) (.cons (.var 3) (.cons (.cmp .aG (.var 2) (.attr (.var 0) [109,97,99,114,111,115])) .nil))))) (D:=(.attr (.var 0) [109,97,99,114,111,115])) (HH:=fun W F=>fH H0 nf F (.list (bv W.reverse))) hM
   ⟨fun W F=>Yv _ _,fun W F=>Yw hf _ _,fun W F X=>Yt _ _ _,fun W F X=>Yu hf _ _ _⟩
   (fun sl=>∃ s2 s3,sl=[some (fI R M),some (.loc nf),s2,s3,some (.loc H0.length)]) (fun sl ⟨_,_,e⟩=>by rw [e];rfl) (fun sl k v ⟨s2,s3,e⟩ hv=>⟨[some (fI R M),some (.loc nf),some (.str k),some v,some (.loc H0.length)],by rw [e];rfl,⟨_,_,rfl⟩,
    rfl,rfl,rfl,rfl,fun W F=>by
     have last:bK (ai 400 j) (.cmp .aG (.var 2) (.attr (.var 0) [109,97,99,114,111,115])) [some (fI R M),some (.loc nf),some (.str k),some v,some (.loc H0.length)] (fH H0 nf F (.list (bv W.reverse)))=.ok (look k M).isSome (fH H0 nf F (.list (bv W.reverse))):=bX (am rfl) (o9 (am rfl) (gm _)) (lm k _);induction hv with
     | none=>exact fG (mU (qm (jD (aF rfl ak) rfl)))
     | str s=>exact fG (mU (qm (jD (aF rfl ak) rfl)))
     | bool b=>exact fG (qo (qm (jD (aF rfl ak) rfl)) (allB (t:=isTrue (.bool b)) (sD (by induction b<;>rfl)) (all1 last))),
    fun W F l e=>⟨_,o9 (am rfl) (gm _),(yX k M).trans (by rw [e];rfl)⟩⟩)
   h (by show 1 + 3 * n≤900;exact aq (addQ h1) rfl) h2 hn (fun x hx=>by rw [bZ.mp hx];exact hA) ⟨some (.str k),some v,rfl⟩) fun aE e z3=>?_;(refine eB z3 fun s2' Hy e2=>?_;clear z3))
 have h0:H0++[PO.list [.tup [.str k,v]]]=fH H0 nf F (.list [.tup [.str k,v]]):=by unfold fH;rw [←(cF.mp hF).2,ad9]
 have e1:cV (lD (y8 (ai 400 j) x7) (dJ (ai 400 j) 400 Rt) 400 [some (fI R M),some (.loc nf),some (.str k),some v,some (.loc H0.length)] (H0++[PO.list [.tup [.str k,v]]]))=.ok (.next,aE) (H0.set nf (.dict G)++[.list []]):=by rw [h0];exact congrArg cV e
 refine (ve (k:=4) rfl rfl).trans ?_;apply Ex
 case h=>
  delta IM;exact bQ (o8 (aX (cB (aF rfl (aF rfl ak))) ak) (bw (p6 rfl))) (H7 e1 aW)
 all_goals rfl
end
section
noncomputable def isDead:Ent→Bool
 | .dead ..=>true
 | _=>false
noncomputable def U_:Ent→Bool
 | .cY ..=>true
 | _=>false
noncomputable def eF:Ent→Qy
 | .cY ..=>[]
 | .rule f _ _=>f
 | .dead f _ _=>f
noncomputable def eP:Ent→Qy
 | .cY ..=>[]
 | .rule _ p _=>p
 | .dead _ p _=>p
noncomputable def eT:Ent→TL
 | .cY _ t=>t
 | .rule _ _ t=>t
 | .dead _ _ t=>t
def kG:Ent→PV
 | .cY n t=>.tup [.bytes [],.bool true,.str n,.fl (bv t)]
 | e=>.tup [.bytes (eF e),.bool false,.bytes (eP e),.fl (bv (eT e))]
def gL(e:Ent):PV:=.fi 1 (fieldsOf (eP e) (eF e) (.fl (bv (eT e))))
def fq(es:Qf):Qf:=es.filter fun e=>!isDead e
def eQ(es:Qf):Qf:=es.filter fun e=>!U_ e
theorem yZ:∀ es:Qf,dI es=(fq es).map kG
 | []=>rfl
 | e::es=>by
  have ih:=yZ es;induction e with
  | cY=>exact congrArg (_::·) ih
  | rule=>exact congrArg (_::·) ih
  | dead=>exact ih
theorem Af:∀ es:Qf,cK es=(eQ es).map gL
 | []=>rfl
 | e::es=>by
  have ih:=Af es;induction e with
  | cY=>exact ih
  | rule=>exact congrArg (_::·) ih
  | dead=>exact congrArg (_::·) ih
def jT(M:MT):Ent→MT
 | .cY n t=>put n t M
 | _=>M
def pW:MT:=[(lx,[(sU,.bool false),(yo,.bool false),(dO,.bool false)])]
def fb(es:Qf):MT:=es.foldl jT pW
theorem B9(k:Qn)(t:TL):∀ M:MT,put k (.fl (bv t)) (dw M)=dw (put k t M)
 | []=>rfl
 | (x,l)::M=>by
  have ih:=B9 k t M;unfold dw at ih⊢;rw [da];rw [qH,qH];by_cases q:x=k
  ·rw [if_pos q,if_pos q];rfl
  ·rw [if_neg q,if_neg q,da,ih]
def aaq(es:Qf):iB es=dw (fb es):=by
 have:∀ (es:Qf) (M:MT),putAll (dw M) (es.flatMap pj)=dw (es.foldl jT M):=by
  intro es;induction es with
  | nil=>intro M;rfl
  | cons e es ih=>
   intro M;rw [qc,HR,qb,←ih];induction e with
   | cY n t=>exact congrArg (putAll · _) (B9 n t M)
   | rule f p t=>rfl
   | dead f p t=>rfl
 exact this es pW
def TW(es:Qf):(fq es).foldl jT pW=fb es:=by
 have:∀ (es:Qf) (M:MT),(fq es).foldl jT M=es.foldl jT M:=by
  intro es;induction es with
  | nil=>intro M;rfl
  | cons e es ih=>
   intro M;have:=ih;induction e with
   | cY n t=>exact ih _
   | rule f p t=>exact ih _
   | dead f p t=>exact ih _
 exact this es pW
theorem HQ{k:Qn}{t:TL}(ht:nv t):∀ {M:MT},jn M→jn (put k t M)∧(put k t M).length≤M.length + 1
 | [],_=>⟨fun x hx=>by obtain rfl:=bZ.mp hx;exact ht,aS _⟩
 | (x,l)::M,h=>by
  have ih:=HQ (k:=k) ht (M:=M) fun y hy=>h y (bM _ hy);rw [qH]
  split
  ·exact ⟨fun y hy=>by
    rcases cA.mp hy with rfl|hy
    ·exact ht
    ·exact h y (bM _ hy),by simp⟩
  ·exact ⟨fun y hy=>by
    rcases cA.mp hy with rfl|hy
    ·exact h _ (bC ..)
    ·exact ih.1 y hy,by have:=ih.2;simp;exact this⟩
def tP{e:Ent}(h:AL f e):nv (eT e):=by
 induction e with
 | cY n t=>exact h.2.2
 | rule f p t=>exact h.2.2
 | dead f p t=>exact h.2.2
def vm{es:Qf}(h:eV es):jn (fb es)∧(fb es).length≤es.length + 1:=by
 have:∀ (es:Qf) (M:MT),eV es→jn M→jn (es.foldl jT M)∧(es.foldl jT M).length≤es.length + M.length:=by
  intro es;induction es with
  | nil=>intro M _ h;exact ⟨h,by simp⟩
  | cons e es ih=>
   intro M he hM;refine J (he e (bC ..)) fun f _ h0=>?_;have ht:=tP h0;rw [qb];induction e with
   | cY n t=>have hp:=HQ (k:=n) ht hM;have:=ih (put n t M) (fun x hx=>he x (bM _ hx)) hp.1;exact ⟨this.1,by have h1:=this.2;have h2:=hp.2;simp [jT] at *;simp [eT] at h2;lia⟩
   | rule f p t=>have:=ih M (fun x hx=>he x (bM _ hx)) hM;exact ⟨this.1,by have h1:=this.2;simp [jT] at *;lia⟩
   | dead f p t=>have:=ih M (fun x hx=>he x (bM _ hx)) hM;exact ⟨this.1,by have h1:=this.2;simp [jT] at *;lia⟩
 have:=this es pW h (fun x hx=>by
  simp [pW] at hx;subst hx;exact ⟨by decide,fun y hy=>by simp at hy;rcases hy with rfl|rfl|rfl<;>exact .bool _⟩)
 exact ⟨this.1,this.2⟩
noncomputable def BD:PS:=.f (.x (.v 3) (.i 1)) (.gF (.v 2) (.x (.v 3) (.i 2)) (.x (.v 3) (.i 3)) .nil) .nil .nil
def T3(M:MT):(dw M).length=M.length:=aQ _
def Pg{es:Qf}{r p:PV}(he:eV es)(hl:es.length≤50):
  ∃ s3,cQ (dJ O 400 BD) (m6 3) (.fix (dI es)) 400 0 [some r,some p,some (.loc 0),none,none,none,none,none,none] [.dict M0]=.ok (.next,[some r,some p,some (.loc 0),s3,none,none,none,none,none]) [.dict (dw (fb es))]:=by
 rw [yZ];have g9:(fq es).length≤es.length:=oQ _ _;refine n_ (l:=(fq es).map kG) (fun i sl H=>∃ s3,sl=[some r,some p,some (.loc 0),s3,none,none,none,none,none]∧H=[.dict (dw (((fq es).take i).foldl jT pW))]) (fun x=>∃ s3,x=.ok (.next,[some r,some p,some (.loc 0),s3,none,none,none,none,none]) [.dict (dw (fb es))]) ?_ ?_ 400 0 _ _ (cE _) (by simp;exact iI (aB g9 hl) rfl) ⟨none,rfl,rfl⟩
 ·intro i v sl H hv cr;refine J cr fun s3 e1 e2=>?_;clear cr;refine ay (cF.mp hv) fun hi hv=>?_;rw [oR] at hv;rw [aQ] at hi;have ht:(fq es).take (i + 1)=(fq es).take i++[(fq es)[i]]:=r_ hi;have kJ:=(vm (es:=(fq es).take i) fun x hx=>he x ((jr.mp (A1 hx)).1)).2;rw [kj] at kJ;delta fb at kJ;rw [ht,NL];generalize ((fq es).take i).foldl jT pW=M at *;generalize (fq es)[i]=e at *;have Wt:(dw M).length < aC:=kZ (show _≤60 by rw [T3];exact aq (aB kJ (bc (yP (aB g9 hl)))) rfl) (by decide);refine ⟨[some r,some p,some (.loc 0),some (kG e),none,none,none,none,none],by rw [←hv,e1];rfl,?_⟩;rw [e2];have nx:∀ H':Hp,aA O 400 BD [some r,some p,some (.loc 0),some (kG e),none,none,none,none,none] [.dict (dw M)]=.ok (.next,[some r,some p,some (.loc 0),some (kG e),none,none,none,none,none]) H'→H'=[.dict (dw (jT M e))]→
    rP (fun x=>∃ s3,x=.ok (.next,[some r,some p,some (.loc 0),s3,none,none,none,none,none]) [.dict (dw (fb es))]) (fun sl H=>∃ s3,sl=[some r,some p,some (.loc 0),s3,none,none,none,none,none]∧H=[.dict (dw (jT M e))]) (dJ O 400 BD [some r,some p,some (.loc 0),some (kG e),none,none,none,none,none] [.dict (dw M)]):=
   fun H' h h'=>ja h ⟨_,rfl,h'⟩
  induction e with
  | cY n t=>exact nx _ (kz (uP (cI rfl rfl)) (qK (cI rfl rfl) (am rfl) (cI rfl rfl) (yH (n:=0) (k:=n) rfl Wt) aW) aW) (congrArg (fun d=>[PO.dict d]) (B9 n t M))
  | rule f q t=>exact nx _ (b5 (uP (cI rfl rfl)) aW aW) rfl
  | dead f q t=>exact nx _ (b5 (uP (cI rfl rfl)) aW aW) rfl
 ·rintro sl H ⟨s3,rfl,rfl⟩;rw [aQ,mN,TW];exact ⟨s3,rfl⟩
def oF(a f:Qy):Ent→TL
 | .rule f' p t=>if f'=f∧iA p f' a=true then t else []
 | _=>[]
def iu(a:Qy)(es:Qf)(f:Qy):TL:=(fq es).flatMap (oF a f)
noncomputable def BC:PS:=.f (.d (.c (.p .eq (.x (.v 3) (.i 0)) (.v 6)) (.c (.n (.x (.v 3) (.i 1))) (.j (.l .pure 25 (.c (.v 3) (.j (.v 1)))))))) (.e (.m .extend (.v 4) (.j (.x (.v 3) (.i 3)))) .nil) .nil .nil
theorem uR:∀ {t:TL},(∀ x∈t,cM x.2)→dU (bv t)=true
 | [],_=>rfl
 | (k,v)::t,h=>by
  have ih:=uR (t:=t) fun x hx=>h x (bM _ hx);have h0:eJ v=true:=by generalize (h _ (bC ..))=zz;cases zz<;>rfl
  show ((true&&(eJ v&&true))&&dU (bv t))=true;rw [h0,ih];rfl
def aaK{p a:Qy}{t:TL}(hp:p∈ku)(hf:f∈dy)(ha:a∈iP)(ht:nv t):runC .pure ((ai 400 (j + 3)).call 25) [.tup [.bytes f,.bool false,.bytes p,.fl (bv t)],.bytes a] H=.ok (.bool (iA p f a)) H:=by have e:=U4 j (bv t) p hp f hf a ha;exact jc (show ((dU (bv t)&&true)&&true)=true by rw [uR ht.2];rfl) e rfl
theorem DW{c:Nat}{g:Ent→TL}:∀ {l:Qf},(∀ e∈l,(g e).length≤c)→(l.flatMap g).length≤c * l.length
 | [],_=>by simp
 | e::l,h=>by
  have ih:=DW (l:=l) fun x hx=>h x (bM _ hx);have h0:=h e (bC ..);rw [qc,bP,kl,Nu];lia
def LD{es:Qf}(he:eV es)(a f:Qy):∀ e∈es,(oF a f e).length≤3:=fun e h=>by
 refine J (he e h) fun f' _ h0=>?_;have ht:=tP h0;induction e with
 | rule oz p t=>
  have VQ:t.length≤3:=ht.1;show (if oz=f∧iA p oz a=true then t else []).length≤3;by_cases q:oz=f∧iA p oz a=true
  ·rw [if_pos q];exact VQ
  ·rw [if_neg q];simp
 | _=>exact cE _
def Bw{es:Qf}{r:Qq}{a:Qy}{D:TL}{X:Qp}(ha:a∈iP)(he:eV es)(hl:es.length≤50)(hX:X.length≤1000):
  ∃ Hy,cQ (dJ (ai 400 (j + 3)) 400 BC) (m6 3) (.fix (dI es)) 400 0 [r,some (.bytes a),some (.loc 0),s3,some (.loc 1),some (.loc 2),some (.bytes f),none,none] [.dict D,.list X,.dict []]=.ok (.next,[r,some (.bytes a),some (.loc 0),Hy,some (.loc 1),some (.loc 2),some (.bytes f),none,none]) [.dict D,.list (X++bv (iu a es f)),.dict []]:=by
 rw [yZ];have g9:(fq es).length≤es.length:=oQ _ _;refine n_ (l:=(fq es).map kG) (fun i sl H=>∃ s3,sl=[r,some (.bytes a),some (.loc 0),s3,some (.loc 1),some (.loc 2),some (.bytes f),none,none]∧H=[.dict D,.list (X++bv (((fq es).take i).flatMap (oF a f))),.dict []]) (fun x=>∃ s3,x=.ok (.next,[r,some (.bytes a),some (.loc 0),s3,some (.loc 1),some (.loc 2),some (.bytes f),none,none]) [.dict D,.list (X++bv (iu a es f)),.dict []]) ?_ ?_ 400 0 _ _ (cE _) (by simp;exact iI (aB g9 hl) rfl) ⟨s3,rfl,by simp [bv]⟩
 ·intro i v sl H hv cr;refine J cr fun s3 e1 e2=>?_;clear cr;refine ay (cF.mp hv) fun hi hv=>?_;rw [oR] at hv;rw [aQ] at hi;have ht:(fq es).take (i + 1)=(fq es).take i++[(fq es)[i]]:=r_ hi;have zv:=jr.mp (nJ hi);have fy:=DW (c:=3) (g:=oF a f) (l:=(fq es).take i) fun x hx=>LD he a f x ((jr.mp (A1 hx)).1);rw [kj,←mW] at fy;refine J (he _ zv.1) fun f' tG h0=>?_;rw [ht,Fx,aes,sE];generalize bv (((fq es).take i).flatMap (oF a f))=Y at *;have hY:(X++Y).length≤2000:=by rw [bP];exact aq (eS hX (aB fy (mulL (yP (aB g9 hl))))) rfl
  rw [←dz];generalize X++Y=Z at *;generalize (fq es)[i]=e at *;have ty:=(tP h0).1;rw [←mW] at ty;refine ⟨[r,some (.bytes a),some (.loc 0),some (kG e),some (.loc 1),some (.loc 2),some (.bytes f),none,none],by rw [←hv,e1];rfl,?_⟩;rw [e2];clear ht fy hv;have keep:bK (ai 400 (j + 3)) (.iF (.cons (.cmp .eq (.idx (.var 3) (.i 0)) (.var 6)) (.cons (.me (.idx (.var 3) (.i 1))) (.cons (.call .pure 25 (.cons (.var 3) (.cons (.var 1) .nil))) .nil)))) [r,some (.bytes a),some (.loc 0),some (kG e),some (.loc 1),some (.loc 2),some (.bytes f),none,none] [.dict D,.list Z,.dict []]=.ok false [.dict D,.list Z,.dict []]→
    oF a f e=[]→rP (fun x=>∃ s3,x=.ok (.next,[r,some (.bytes a),some (.loc 0),s3,some (.loc 1),some (.loc 2),some (.bytes f),none,none]) [.dict D,.list (X++bv (iu a es f)),.dict []]) (fun sl H=>∃ s3,sl=[r,some (.bytes a),some (.loc 0),s3,some (.loc 1),some (.loc 2),some (.bytes f),none,none]∧H=[.dict D,.list (Z++bv (oF a f e)),.dict []])
     (dJ (ai 400 (j + 3)) 400 BC [r,some (.bytes a),some (.loc 0),some (kG e),some (.loc 1),some (.loc 2),some (.bytes f),none,none] [.dict D,.list Z,.dict []]):=
   fun h h'=>ja (b5 h aW aW) ⟨_,rfl,by rw [h'];exact congrArg (fun z=>[PO.dict D,.list z,.dict []]) (gP Z).symm⟩
  induction e with
  | cY n t=>
   refine keep (fG ?_) rfl;by_cases rd:([]:Qy)=f
   ·exact qo (bX (cI rfl rfl) (am rfl) (congrArg some (beq_iff_eq.mpr rd))) (mU (lY (t:=true) (uP (cI rfl rfl))))
   ·exact mU (bX (cI rfl rfl) (am rfl) (congrArg some (beq_eq_false_iff_ne.mpr rd)))
  | dead f q t=>injection zv.2
  | rule g q t=>
   refine cG h0 fun z0=>?_;clear h0;subst z0;intro hq C_;by_cases rd:g=f
   ·have c25:=aaK (j:=j) (H:=[.dict D,.list Z,.dict []]) hq tG ha C_;have hc:oF a f (.rule g q t)=cond (iA q g a) t []:=by
     show (if g=f∧iA q g a=true then t else [])=_;generalize (iA q g a)=zz;induction zz with
     | true=>exact if_pos ⟨rd,rfl⟩
     | false=>exact if_neg (fun q=>cN q.2)
    have tc:bK (ai 400 (j + 3)) (.iF (.cons (.cmp .eq (.idx (.var 3) (.i 0)) (.var 6)) (.cons (.me (.idx (.var 3) (.i 1))) (.cons (.call .pure 25 (.cons (.var 3) (.cons (.var 1) .nil))) .nil)))) [r,some (.bytes a),some (.loc 0),some (kG (.rule g q t)),some (.loc 1),some (.loc 2),some (.bytes f),none,none] [.dict D,.list Z,.dict []]=.ok (iA q g a) [.dict D,.list Z,.dict []]:=
     fG (qo (bX (cI rfl rfl) (am rfl) (congrArg some (beq_iff_eq.mpr rd))) (qo (lY (t:=false) (uP (cI rfl rfl))) (all1 (ql (ip (aF rfl (aF rfl ak)) c25)))))
    generalize hb:(iA q g a)=zz;induction zz with
    | true=>rw [hb] at tc hc;rw [hc];exact ja (kz tc (kC (b4 (am rfl) (zC (n:=1) rfl) (aX (cI rfl rfl) ak) (Cp (n:=1) (xs:=bv t) rfl (bw (aB (AW hY ty) (by decide))))) aW) aW) ⟨_,rfl,rfl⟩
    | false=>rw [hb] at tc hc;exact keep tc hc
   ·exact keep (fG (mU (bX (cI rfl rfl) (am rfl) (congrArg some (beq_eq_false_iff_ne.mpr rd))))) (if_neg (fun q=>rd q.1))
 ·rintro sl H ⟨s3,rfl,rfl⟩;rw [aQ,mN];exact ⟨s3,rfl⟩
end
section
def lG{body:Sl→Hp→R (Fl×Sl)}{gV Hf:Sl}{H2:Hp}(h:l[i]?=some v)(hb:ce v sl=some gV)(e:body gV H=.ok (.next,Hf) H2):
  cQ body ce (.fix l) (n + 1) i sl H=cQ body ce (.fix l) n (i + 1) Hf H2:=by
 refine (CG (it:=.fix l) (congrArg some h)).trans ?_;rw [hb];show (body gV H).bind _=_;rw [e];rfl
def yY{body:Sl→Hp→R (Fl×Sl)}(h:l[i]?=none):cQ body ce (.fix l) (n + 1) i sl H=.ok (.next,sl) H:=CH (it:=.fix l) (congrArg some h)
def j1(a:Qy)(es:Qf):TL:=iu a es []++iu a es [100]++iu a es [100,47,101]
def CO{es:Qf}(he:eV es)(a f:Qy):(iu a es f).length≤3 * es.length:=by have h1:=DW (c:=3) (g:=oF a f) (l:=fq es) fun x hx=>LD he a f x (jr.mp hx).1;have h2:(fq es).length≤es.length:=oQ _ _;unfold iu;lia
def CP{es:Qf}(he:eV es)(a f:Qy):∀ x∈iu a es f,cM x.2:=by
 intro x hx;refine J (NB.mp hx) fun e hm hx=>?_;refine J (he e (jr.mp hm).1) fun f' _ h0=>?_;have ht:=(tP h0).2;induction e with
 | rule oz p t=>
  replace hx:x∈if oz=f∧iA p oz a=true then t else []:=hx
  by_cases q:oz=f∧iA p oz a=true
  ·rw [if_pos q] at hx;exact ht x hx
  ·rw [if_neg q] at hx;cases hx
 | cY n t=>cases hx
 | dead f p t=>cases hx
def I8{es:Qf}(he:eV es)(a:Qy):∀ x∈j1 a es,cM x.2:=by
 intro x hx;unfold j1 at hx;rcases cy.mp hx with hx|hx
 ·rcases cy.mp hx with hx|hx
  ·exact CP he a _ x hx
  ·exact CP he a _ x hx
 ·exact CP he a _ x hx
def x8:PS:=.fP 3 (.ex (.v 0)) BC .nil
def Pd{es:Qf}{a:Qy}(ha:a∈iP)(he:eV es)(hl:es.length≤6):
  ∃ G nn,pm (fb es) nn (j1 a es).reverse []=some G∧nn≤100∧(ai 400 (j + 4)).call 26 [.fl (dI es),.bytes a] []=.ok (.loc 2) [.dict (dw (fb es)),.list [],.dict G]:=by
 have hM:=vm he;have w0:=CO he a [];have w1:=CO he a [100];have w2:=CO he a [100,47,101];have hW:(j1 a es).length≤54:=by unfold j1;rw [bP,bP];exact aq (eS (eS (aB w0 (mulL hl)) (aB w1 (mulL hl))) (aB w2 (mulL hl))) rfl
 have zn:=IF [] (c:=3) (M:=fb es) fun x hx=>(hM.1 x hx).1;refine ay (H4 (M:=fb es) (n:=75) (W:=(j1 a es).reverse) (F:=[]) (by rw [i6];exact aq (eS hW (aB zn (mulL (aB (And.right hM) (bc hl))))) rfl)) fun G hG=>?_;refine ⟨G,75,hG,by exact eH rfl,?_⟩;refine ay (Pg (O:=ai 400 (j + 3)) (r:=.fl (dI es)) (p:=.bytes a) he (by exact aq hl rfl)) fun s3 e1=>?_;refine ay (Bw (j:=j) (r:=some (.fl (dI es))) (s3:=s3) (f:=[]) (D:=dw (fb es)) (X:=[]) ha he (by exact aq hl rfl) (by simp)) fun Hx ea=>?_;refine ay (Bw (j:=j) (r:=some (.fl (dI es))) (s3:=Hx) (f:=[100]) (D:=dw (fb es)) (X:=bv (iu a es [])) ha he (by exact aq hl rfl) (by rw [mW];exact aq (aB w0 (mulL hl)) rfl)) fun Hw eb=>?_;refine ay (Bw (j:=j) (r:=some (.fl (dI es))) (s3:=Hw) (f:=[100,47,101]) (D:=dw (fb es)) (X:=bv (iu a es [])++bv (iu a es [100])) ha he (by exact aq hl rfl) (by rw [bP,mW,mW];exact aq (eS (aB w0 (mulL hl)) (aB w1 (mulL hl))) rfl)) fun Hv ec=>?_;rw [sd] at ea;have e3:cQ (dJ (ai 400 (j + 3)) 400 x8) (m6 6) (.fix [.bytes [],.bytes [100],.bytes [100,47,101]]) 400 0 [some (.fl (dI es)),some (.bytes a),some (.loc 0),s3,some (.loc 1),some (.loc 2),none,none,none] [.dict (dw (fb es)),.list [],.dict []]
   = .ok (.next,[some (.fl (dI es)),some (.bytes a),some (.loc 0),Hv,some (.loc 1),some (.loc 2),some (.bytes [100,47,101]),none,none]) [.dict (dw (fb es)),.list (bv (j1 a es)),.dict []]:=by
  refine (lG (body:=dJ (ai 400 (j + 3)) 400 x8) (v:=.bytes []) (gV:=[some (.fl (dI es)),some (.bytes a),some (.loc 0),s3,some (.loc 1),some (.loc 2),some (.bytes []),none,none]) rfl rfl (lB (fW (am rfl) rfl) ea aW)).trans ?_;refine (lG (body:=dJ (ai 400 (j + 3)) 400 x8) (v:=.bytes [100]) (gV:=[some (.fl (dI es)),some (.bytes a),some (.loc 0),Hx,some (.loc 1),some (.loc 2),some (.bytes [100]),none,none]) rfl rfl (lB (fW (am rfl) rfl) eb aW)).trans ?_;refine (lG (body:=dJ (ai 400 (j + 3)) 400 x8) (v:=.bytes [100,47,101]) (gV:=[some (.fl (dI es)),some (.bytes a),some (.loc 0),Hw,some (.loc 1),some (.loc 2),some (.bytes [100,47,101]),none,none]) rfl rfl (lB (fW (am rfl) rfl) ec aW)).trans ?_;refine (yY rfl).trans ?_;unfold j1;rw [sE,sE]
 refine J (Uv (O:=ai 400 (j + 3)) hM.1 (r:=.fl (dI es)) (p:=.bytes a) (s3:=Hv) (s6:=some (.bytes [100,47,101])) (s7:=none) (s8:=none) hG (by rw [i6];exact aq (eS hW (mulL (aS _))) rfl) (by simp) (by exact iI (aS _) rfl) (fun x hx=>I8 he a x (p8.mp hx))) fun aE e4 hs=>?_;rw [AY] at e4;refine (e_ rfl rfl).trans ?_;apply jl
 case hl=>rfl
 delta K7;exact bQ (qD (vs:=[.fl [.tup [.str sU,.bool false],.tup [.str yo,.bool false],.tup [.str dO,.bool false]]]) rfl rfl) (lB (fW (am rfl) rfl) e1
  (jE (cB (aX (o8 ak (cE _)) (aX (qD ak rfl) ak))) rfl (lB (fW (cB (vs:=[.bytes [],.bytes [100],.bytes [100,47,101]]) rfl) rfl) e3 (H7 (congrArg cV e4) (b9 (am hs))))))
end
section
noncomputable def Io:PS:=.e (.own .aG 4 (.v 0) (.c (.v 3) (.c (.v 7) (.j (.v 8))))) .nil
def OO{M:MT}(hM:jn M)(wi:M.length≤7){R rows:Qp}{a:Qy}{F0 P0 l:TL}{eN:Hp}{nn:Nat}{s8:Qq}(hG:pm M nn P0 []=some F0)(hn:nn≤22 * P0.length)(hl:P0.length + l.length≤18)(hA:∀ x∈P0++l,cM x.2):
  ∃ F vz pi u0 uZ,cQ (dJ (ai 400 (j + 1)) 400 Io) (jK [7,8]) (.fix (bv l)) 400 0 [some (fI R M),some (.bytes a),some (.loc 0),some (.loc 1),s4,s5,s6,s7,s8] (.list rows::.dict F0::eN)
   = .ok (.next,[some (fI R M),some (.bytes a),some (.loc 0),some (.loc 1),s4,s5,s6,u0,uZ]) (.list rows::.dict F::vz)∧pm M pi (P0++l) []=some F∧pi≤22 * (P0++l).length:=by
 refine n_ (l:=bv l) (fun i sl H=>∃ F eN nn s7 s8,sl=[some (fI R M),some (.bytes a),some (.loc 0),some (.loc 1),s4,s5,s6,s7,s8]∧H=.list rows::.dict F::eN∧pm M nn (P0++l.take i) []=some F∧nn≤22 * (P0++l.take i).length)
  (fun r=>∃ F vz pi u0 uZ,r=.ok (.next,[some (fI R M),some (.bytes a),some (.loc 0),some (.loc 1),s4,s5,s6,u0,uZ]) (.list rows::.dict F::vz)∧pm M pi (P0++l) []=some F∧pi≤22 * (P0++l).length) ?_ ?_ 400 0 _ _ (cE _) (by rw [mW];exact iI (adY hl) rfl) ⟨F0,eN,nn,s7,s8,rfl,rfl,by simpa using hG,by simpa using hn⟩
 ·intro i v sl H hv cr;refine Oo cr fun F eN nn s7 s8 e1 e2 h1 h2=>?_;clear cr;delta bv at hv;refine ay (cF.mp hv) fun hi hv=>?_;rw [oR] at hv;rw [aQ] at hi;have ht:P0++l.take (i + 1)=(P0++l.take i)++[l[i]]:=by rw [r_ hi,dz]
  have hlen:(P0++l.take i).length≤17:=by rw [bP,kj];lia
  have q6:=H3 hM (F:=[]) (fun x hx=>hA x (by
   rcases cy.mp hx with hx|hx
   ·exact ij _ hx
   ·exact eW _ (A1 hx))) ⟨Fq,fun x hx=>by cases hx⟩ h1
  have zn:=IF F (c:=3) (M:=M) fun x hx=>(hM x hx).1;have XK:=hA l[i] (eW _ (nJ hi));rw [ht,bP];generalize l[i]=p at *;refine ay (H4 (M:=M) (n:=22) (W:=[p]) (F:=F) (by show 1 + _≤22;exact aq (addQ (aB zn (mulL wi))) rfl)) fun G hg=>?_;have XH:F.length≤400:=by have h:=q6.2;rw [p9] at h;exact aq (aB h (addQ (aB h2 (mulL hlen)))) rfl
  have st:=Re (j:=j) hM (R:=R) (H0:=.list rows::.dict F::eN) (nf:=1) (k:=p.1) (v:=p.2) rfl hg (by decide) (by exact aq (bc XH) rfl) (by decide) XK;refine ⟨[some (fI R M),some (.bytes a),some (.loc 0),some (.loc 1),s4,s5,s6,some (.str p.1),some p.2],by rw [←hv,e1];rfl,?_⟩;rw [e2];exact ja (kC (qB (am rfl) rfl rfl (aF rfl (aF rfl (aF rfl ak))) st) aW) ⟨G,eN++[.list []],nn + 22,_,_,rfl,rfl,Sk hg h1,by rw [bP];show nn + 22≤22 * (_ + 1);lia⟩
 ·rintro sl H ⟨F,eN,nn,s7,s8,rfl,rfl,h1,h2⟩;rw [mW,mN] at h1 h2;exact ⟨F,eN,nn,s7,s8,rfl,h1,h2⟩
noncomputable abbrev ER:=Ent×Nat
def io(x:ER):PV:=.tup [.int (depthOf (eF x.1)),.int x.2]
def Tc:PS:=.mA [7,8] (.ex (.rev false (.a (.x (.a (.v 0) [114,117,108,101,115]) (.v 4)) [118,97,108,117,101,115]))) Io .nil
noncomputable def MW(e:Ent):Prop:=eP e∈kX∧eF e∈dy∧nv (eT e)
def Al{es:Qf}(he:eV es):∀ e∈eQ es,MW e:=by
 intro e hm;refine J (he e (jr.mp hm).1) fun f hf h0=>?_;have h1:=(jr.mp hm).2;have ht:=tP h0;induction e with
 | cY n t=>injection h1
 | rule f' p t=>(refine cG h0 fun z0=>?_;clear h0;subst z0;intro hp _);exact ⟨(yx p hp).1,hf,ht⟩
 | dead f' p t=>
  refine cG h0 fun z0=>?_;clear h0;subst z0;intro hp _;refine ⟨?_,hf,ht⟩;rcases hp with ⟨rfl,_⟩|hp
  ·exact List.elem_iff.mp rfl
  ·exact (by decide:∀ p∈([[100,47],[42,47]]:List Qy),p∈kX) _ hp
def Vq{l:List α}{x:α}(h:l[i]?=some x)(hb:l.length≤1000000):mv l (i:Int)=some x:=by have hi:=(cF.mp h).1;rw [zb hi hb,(cF.mp h).2]
def RF{M:MT}(hM:jn M)(wi:M.length≤7){es:Qf}(he:eV es)(cZ:es.length≤50){rows:Qp}{a:Qy}{S:List ER}(hS:∀ x∈S,(eQ es)[x.2]?=some x.1)(hl:S.length≤6):
  ∃ F eN nn sl,cQ (dJ (ai 400 (j + 1)) 400 Tc) (jK [6,4]) (.fix (S.map io)) 400 0 [some (fI (cK es) M),some (.bytes a),some (.loc 0),some (.loc 1),s4,s5,none,none,none] [.list rows,.dict []]
   = .ok (.next,sl) (.list rows::.dict F::eN)∧dD sl 3=some (.loc 1)∧pm M nn (S.flatMap fun x=>(eT x.1).reverse) []=some F:=by
 have hlen:∀ n,((S.take n).flatMap fun x=>(eT x.1).reverse).length≤3 * n∧∀ x∈(S.take n).flatMap (fun x=>(eT x.1).reverse),cM x.2:=by
  intro n;have:∀ (L:List ER),(∀ x∈L,(eQ es)[x.2]?=some x.1)→(L.flatMap fun x=>(eT x.1).reverse).length≤3 * L.length∧∀ x∈L.flatMap (fun x=>(eT x.1).reverse),cM x.2:=by
   intro L;induction L with
   | nil=>intro _;exact ⟨by decide,by simp⟩
   | cons y L ih=>
    intro h;have ih:=ih fun x hx=>h x (bM _ hx);have hc:=(Al he y.1 (jP (h y (bC ..)))).2.2;refine ⟨by rw [qc,bP,i6,kl];have:=hc.1;lia,fun x hx=>?_⟩;rw [qc] at hx;rcases cy.mp hx with hx|hx
    ·exact hc.2 x (p8.mp hx)
    ·exact ih.2 x hx
  have h:=this (S.take n) fun x hx=>hS x (A1 hx);rw [kj] at h;exact ⟨by lia,h.2⟩
 refine n_ (l:=S.map io) (fun i sl H=>∃ F eN nn s4 s6 s7 s8,sl=[some (fI (cK es) M),some (.bytes a),some (.loc 0),some (.loc 1),s4,s5,s6,s7,s8]∧H=.list rows::.dict F::eN∧pm M nn ((S.take i).flatMap fun x=>(eT x.1).reverse) []=some F∧nn≤22 * ((S.take i).flatMap fun x=>(eT x.1).reverse).length)
  (fun r=>∃ F eN nn sl,r=.ok (.next,sl) (.list rows::.dict F::eN)∧dD sl 3=some (.loc 1)∧pm M nn (S.flatMap fun x=>(eT x.1).reverse) []=some F) ?_ ?_ 400 0 _ _ (cE _) (by simp;exact iI hl rfl) ⟨[],[],0,s4,none,none,none,rfl,rfl,rfl,by simp⟩
 ·intro i v sl H hv cr;refine On cr fun F eN nn s4 s6 s7 s8 e1 e2 h1 h2=>?_;clear cr;refine ay (cF.mp hv) fun hi hv=>?_;rw [oR] at hv;rw [aQ] at hi;have ht:(S.take (i + 1)).flatMap (fun x:ER=>(eT x.1).reverse)=(S.take i).flatMap (fun x:ER=>(eT x.1).reverse)++(eT S[i].1).reverse:=by rw [r_ hi,Fx,aes]
  have hx:=hS S[i] (nJ hi);refine cG (Al he S[i].1 (jP hx)) fun c1 c2 c3=>?_;have jg:=hlen (i + 1);rw [ht] at jg⊢;generalize S[i]=x at *;refine Op (OO (j:=j) hM wi (R:=cK es) (rows:=rows) (a:=a) (l:=(eT x.1).reverse) (eN:=eN) (s4:=some (.int x.2)) (s5:=s5) (s6:=some (.int (depthOf (eF x.1)))) (s7:=s7) (s8:=s8) h1 h2 (by rw [←bP];lia) jg.2) fun F' vz pi u0 uZ e g1 g2=>?_;refine ⟨[some (fI (cK es) M),some (.bytes a),some (.loc 0),some (.loc 1),some (.int x.2),s5,some (.int (depthOf (eF x.1))),s7,s8],by rw [←hv,e1];rfl,?_⟩;rw [e2];have cl:=Ek es;have v6:mv (cK es) (x.2:Int)=some (gL x.1):=Vq (by rw [Af,km,hx];rfl) (by exact aq (aB cl cZ) rfl);have VK:getattr (gL x.1) [118,97,108,117,101,115] (.list rows::.dict F::eN)=some (.fl (bv (eT x.1))):=ON _ _ c1 _ c2;have JU:(bv (eT x.1)).reverse=bv (eT x.1).reverse:=A2.symm;have tA:(bv (eT x.1)).reverse.length≤aC:=bw (by rw [JU,mW,i6];have:=c3.1;exact aq this rfl);rw [←JU] at e;exact ja (yz (fW (HN (o9 (sX (o9 (am rfl) rfl) (am rfl) v6) VK) rfl tA) rfl) (congrArg cV e) aW) ⟨F',vz,pi,_,_,_,_,rfl,rfl,g1,g2⟩
 ·rintro sl H ⟨F,eN,nn,s4,s6,s7,s8,rfl,rfl,h1,h2⟩;rw [aQ,mN] at h1;exact ⟨F,eN,nn,_,rfl,rfl,h1⟩
def lL(a:Qy)(e:Ent):Bool:=iA (eP e) (eF e) a
def kO(a:Qy)(es:Qf):List ER:=(eQ es).zipIdx.filter fun x=>lL a x.1
noncomputable def Td:PS:=.f (.own .aG 0 (.v 5) (.c (.v 1) (.j (.b false)))) (.e (.m .append (.v 2) (.j (.tup (.c (.a (.v 5) [100,101,112,116,104]) (.j (.v 4)))))) .nil) .nil .nil
def Ym{M:MT}{es:Qf}(he:eV es)(cZ:es.length≤50){a:Qy}(ha:a∈iP):
  ∃ s4 s5,cQ (dJ (ai 400 (j + 5)) 400 Td) (jK [4,5]) (.fix ((cK es).mapIdx fun i v=>.tup [.int i,v])) 400 0 [some (fI (cK es) M),some (.bytes a),some (.loc 0),some (.loc 1),none,none,none,none,none] [.list [],.dict []]
   = .ok (.next,[some (fI (cK es) M),some (.bytes a),some (.loc 0),some (.loc 1),s4,s5,none,none,none]) [.list ((kO a es).map io),.dict []]:=by
 have Ww:((cK es).mapIdx fun i v=>PV.tup [.int i,v])=(eQ es).zipIdx.map fun x=>PV.tup [.int x.2,gL x.1]:=by rw [Af,List.mapIdx_eq_zipIdx_map,List.zipIdx_map,ju];rfl
 have lI:(eQ es).length≤es.length:=oQ _ _;rw [Ww];refine n_ (l:=(eQ es).zipIdx.map fun x=>PV.tup [.int x.2,gL x.1]) (fun i sl H=>∃ s4 s5,sl=[some (fI (cK es) M),some (.bytes a),some (.loc 0),some (.loc 1),s4,s5,none,none,none]∧H=[.list ((((eQ es).zipIdx.take i).filter fun x=>lL a x.1).map io),.dict []])
  (fun r=>∃ s4 s5,r=.ok (.next,[some (fI (cK es) M),some (.bytes a),some (.loc 0),some (.loc 1),s4,s5,none,none,none]) [.list ((kO a es).map io),.dict []]) ?_ ?_ 400 0 _ _ (cE _) (by simp;exact iI (aB lI cZ) rfl) ⟨none,none,rfl,rfl⟩
 ·intro i v sl H hv cr;refine ch cr fun s4 s5 e1 e2=>?_;clear cr;refine ay (cF.mp hv) fun hi hv=>?_;rw [oR] at hv;rw [aQ] at hi;have ht:(eQ es).zipIdx.take (i + 1)=(eQ es).zipIdx.take i++[(eQ es).zipIdx[i]]:=r_ hi;have Vu:(eQ es).zipIdx[i].1∈eQ es:=(aee (nJ hi)).2 ▸ nJ _;have hle:(((eQ es).zipIdx.take i).filter fun x=>lL a x.1).length≤50:=by
   refine aB (oQ _ _) ?_;rw [kj,aej];exact aq (yP (aB lI cZ)) rfl
  refine cG (Al he _ Vu) fun c1 c2 c3=>?_;rw [ht,List.filter_append];generalize (eQ es).zipIdx[i]=x at *;generalize ((eQ es).zipIdx.take i).filter (fun x=>lL a x.1)=L at *;refine ⟨[some (fI (cK es) M),some (.bytes a),some (.loc 0),some (.loc 1),some (.int x.2),some (gL x.1),none,none,none],by rw [←hv,e1];rfl,?_⟩;rw [e2];have lk:=SH (.fl (bv (eT x.1))) _ c1 _ c2;have ft:=Yl j (.fl (bv (eT x.1))) [.list (L.map io),.dict []] _ c1 _ c2 a ha;have hd:getattr (gL x.1) [100,101,112,116,104] [.list (L.map io),.dict []]=some (.int (depthOf (eF x.1))):=Z0 _ _ c1 _ c2;have tc:bK (ai 400 (j + 5)) (.own .aG 0 (.var 5) (.cons (.var 1) (.cons (.b false) .nil))) [some (fI (cK es) M),some (.bytes a),some (.loc 0),some (.loc 1),some (.int x.2),some (gL x.1),none,none,none] [.list (L.map io),.dict []]=.ok (lL a x.1) [.list (L.map io),.dict []]:=
   O8 (qB (am rfl) rfl (by rw [lk];rfl) (aF rfl (be ak)) ft)
  have hL:(L.map io).length < aC:=kZ (show _≤50 by rw [aQ];exact hle) (by decide);generalize hf:(lL a x.1)=zz;induction zz with
  | true=>rw [hf] at tc;exact ja (kz tc (kC (b4 (am rfl) (ol (n:=0) rfl) (aX (cB (aX (o9 (am rfl) hd) (aF rfl ak))) ak) (tb (n:=0) rfl hL)) aW) aW) ⟨_,_,rfl,by rw [qd (p:=fun x:ER=>lL a x.1) hf,nI];rfl⟩
  | false=>rw [hf] at tc;exact ja (b5 tc aW aW) ⟨_,_,rfl,by rw [oS (p:=fun x:ER=>lL a x.1) (by rw [hf];exact cN),List.filter_nil,gP]⟩
 ·rintro sl H ⟨s4,s5,rfl,rfl⟩;rw [aQ,mN];exact ⟨s4,s5,rfl⟩
end
section
def dq(c:Int)(x:ER):Bool:=decide (depthOf (eF x.1)=c)
noncomputable def jz(l:List ER):List ER:=l.filter (dq 0)++(l.filter (dq 1)++l.filter (dq 2))
def pairOf(x:ER):Int×Int:=(depthOf (eF x.1),x.2)
theorem Ms{α β:Type}(f:α→β):∀ l:List α,eR (l.map fun x=>some (f x))=some (l.map f)
 | []=>rfl
 | a::l=>congrArg (jq (f a::·)) (Ms f l)
theorem FR{α:Type}:∀ (l:List α) (k:Nat),(l.zipIdx k).Pairwise (fun x y=>x.2 < y.2)
 | [],k=>by simp
 | a::l,k=>by
  rw [Fo,List.pairwise_cons];exact ⟨fun y hy=>by have:=(List.mem_zipIdx hy).1;simp only;lia,FR l (k + 1)⟩
def Lz(f:Qy):0≤depthOf f∧depthOf f≤2:=by
 unfold depthOf;split
 ·decide
 ·split<;>decide
def Qk{l:List ER}(h1:l.length≤6)(h2:l.Pairwise fun x y=>x.2 < y.2):ye 0 (.list (l.map io)::H)=.ok .none (.list ((jz l).map io)::H):=by
 have e1:(l.map io).map qW=l.map fun x=>some (pairOf x):=by rw [ju];rfl
 have e2:ta (l.map pairOf)=true:=by
  unfold ta;simp only [i8,decide_eq_true_eq,aQ,oU];refine ⟨⟨h1,fun p hp=>?_⟩,?_⟩
  ·(refine J (b7.mp hp) fun x _ z2=>?_;subst z2)
   exact Lz _
  ·rw [aeb];exact h2.imp fun h=>by simp only [pairOf];lia
 have e3:∀ c,(l.map pairOf).filter (fun p=>decide (p.1=c))=(l.filter (dq c)).map pairOf:=fun c=>by rw [Fy];rfl
 show (match eR ((l.map io).map qW) with
  | some ps=>if ta ps then R.ok PV.none ((PO.list (l.map io)::H).set 0 (.list ((qN ps).map fun (p:Int×Int)=>PV.tup [.int p.1,.int p.2]))) else R.no
  | .none=>R.no)=_
 rw [e1,Ms];simp only [e2,if_true];unfold qN;rw [e3,e3,e3];simp [jz,nI,ju,aeU,pairOf];rfl
theorem FS{P Q:Ent→Bool}{g:Ent→TL}:∀ (l:Qf) (k:Nat),(((l.zipIdx k).filter fun x=>P x.1).filter fun x=>Q x.1).flatMap (fun x=>g x.1)=((l.filter P).filter Q).flatMap g
 | [],k=>rfl
 | a::l,k=>by
  have ih:=FS (P:=P) (Q:=Q) (g:=g) l (k + 1);rw [Fo];by_cases hp:P a=true
  ·rw [qd (by exact hp),qd hp];by_cases hq:Q a=true
   ·rw [qd (by exact hq),qd hq,qc,qc,ih]
   ·rw [oS (by exact hq),oS hq,ih]
  ·rw [oS (by exact hp),oS hp,ih]
def Z1:∀ f∈dy,∀ g∈dy,depthOf f=depthOf g→f=g:=by decide
theorem I7{a f:Qy}(ha:a∈iP)(hf:f∈dy):∀ {es:Qf},eV es→(((eQ es).filter (lL a)).filter fun e=>decide (depthOf (eF e)=depthOf f)).flatMap eT=iu a es f
 | [],_=>rfl
 | e::es,h=>by
  have ih:=I7 ha hf (es:=es) fun x hx=>h x (bM _ hx);refine J (h e (bC ..)) fun f' tG h0=>?_;induction e with
  | cY n t=>exact ih
  | rule g p t=>
   refine cG h0 fun z0=>?_;clear h0;subst z0;intro hp _;have hc:eQ (.rule g p t::es)=.rule g p t::eQ es:=rfl;have hl:iu a (.rule g p t::es) f=(if g=f∧iA p g a=true then t else [])++iu a es f:=rfl;rw [hc,hl,←ih];by_cases hb:iA p g a=true
   ·rw [qd (by exact hb)];by_cases hg:g=f
    ·rw [qd (by rw [decide_eq_true_eq,←hg];rfl),qc,if_pos ⟨hg,hb⟩];rfl
    ·rw [oS (by rw [decide_eq_true_eq];exact fun q=>hg (Z1 g tG f hf q)),if_neg fun q=>hg q.1];rfl
   ·rw [oS (by exact hb),if_neg fun q=>hb q.2];rfl
  | dead g p t=>
   refine cG h0 fun z0=>?_;clear h0;subst z0;intro hp _;have hc:eQ (.dead g p t::es)=.dead g p t::eQ es:=rfl;have hl:iu a (.dead g p t::es) f=iu a es f:=rfl;rw [hc,hl,←ih];rcases hp with ⟨rfl,rfl⟩|hp
   ·by_cases hb:lL a (.dead g [97] [])=true
    ·rw [qd hb];by_cases hg:depthOf g=depthOf f
     ·rw [qd (by rw [decide_eq_true_eq];exact hg),qc];rfl
     ·rw [oS (by rw [decide_eq_true_eq];exact hg)]
    ·rw [oS hb]
   ·have hb:¬ lL a (.dead g p t)=true:=by
     show ¬ iA p g a=true;rw [Z5 p hp g tG a ha];simp
    rw [oS hb]
def Qi{a:Qy}{es:Qf}(ha:a∈iP)(he:eV es):(jz (kO a es)).flatMap (fun x=>eT x.1)=j1 a es:=by
 have h:∀ f∈dy,((kO a es).filter (dq (depthOf f))).flatMap (fun x=>eT x.1)=iu a es f:=fun f hf=>by
  rw [←I7 ha hf he];exact FS (P:=lL a) (Q:=fun e=>decide (depthOf (eF e)=depthOf f)) (g:=eT) (eQ es) 0
 unfold jz j1;rw [Fx,Fx,dz];have h0:=h [] (by simp [dy]);have h1:=h [100] (by simp [dy]);have h2:=h [100,47,101] (by simp [dy]);rw [show depthOf []=0 from rfl] at h0;rw [show depthOf [100]=1 from rfl] at h1;rw [show depthOf [100,47,101]=2 from rfl] at h2;rw [h0,h1,h2]
def of_ok{es:Qf}{a:Qy}(ha:a∈iP)(he:eV es)(hl:es.length≤6):
  ∃ G nn rows eN,pm (fb es) nn (j1 a es).reverse []=some G∧(ai 400 (j + 6)).own 2 5 [fI (cK es) (fb es),.bytes a] []=.ok (.loc 1) (.list rows::.dict G::eN):=by
 have hM:=vm he;have lI:(eQ es).length≤es.length:=oQ _ _;have fy:(kO a es).length≤6:=by refine aB (oQ _ _) ?_;rw [aej];exact aB lI hl
 refine eB (Ym (j:=j) (M:=fb es) he (by exact aq hl rfl) ha) fun s4 s5 e0=>?_;have so:=Qk (H:=[.dict []]) fy ((FR (eQ es) 0).sublist List.filter_sublist);have Wx:∀ x∈(jz (kO a es)).reverse,(eQ es)[x.2]?=some x.1:=fun x hx=>by
  have hx:x∈kO a es:=by
   rw [p8] at hx;unfold jz at hx;rcases cy.mp hx with hx|hx
   ·exact (jr.mp hx).1
   ·rcases cy.mp hx with hx|hx<;>exact (jr.mp hx).1
  have hx:=(jr.mp hx).1;have:=aee hx;rw [this.2];exact p_ this.1
 have gu:(jz (kO a es)).length≤6:=by
  have h:∀ l:List ER,(jz l).length≤l.length:=by
   intro l;induction l with
   | nil=>simp [jz]
   | cons x l ih=>
    have hx:=Lz (eF x.1);simp only [jz,bP,uy] at ih⊢;have:dq 0 x=true∧dq 1 x=false∧dq 2 x=false∨dq 0 x=false∧dq 1 x=true∧dq 2 x=false∨dq 0 x=false∧dq 1 x=false∧dq 2 x=true:=by simp only [dq,decide_eq_true_eq,decide_eq_false_iff_not];lia
    rcases this with ⟨a,b,c⟩|⟨a,b,c⟩|⟨a,b,c⟩<;>simp [a,b,c]<;>lia
  exact aB (h _) fy
 refine sk (RF (j:=j + 4) hM.1 (by exact aq (aB (And.right hM) (bc hl)) rfl) he (by exact aq hl rfl) (rows:=(jz (kO a es)).map io) (a:=a) (S:=(jz (kO a es)).reverse) (s4:=s4) (s5:=s5) Wx (by rw [i6];exact gu)) fun F eN nn sl e2 hs hp=>?_;rw [A2] at e2;have VV:((jz (kO a es)).reverse.flatMap fun x=>(eT x.1).reverse)=(j1 a es).reverse:=by rw [←Qi ha he,List.reverse_flatMap];rfl
 rw [VV] at hp;refine ⟨F,nn,(jz (kO a es)).map io,eN,hp,?_⟩;have kJ:((jz (kO a es)).map io).reverse.length≤aC:=bw (by rw [i6,aQ];exact aq gu rfl);refine (ve (k:=5) rfl rfl).trans ?_;apply jl
 case hl=>rfl
 delta IL;exact jE (cB (aX (o8 ak (cE _)) (aX (qD ak rfl) ak))) rfl (yz (Vm (o9 (am rfl) rfl)) (congrArg cV e0)
  (kC (b4 (am rfl) rfl ak so) (yz (fW (HN (am rfl) rfl kJ) rfl) (congrArg cV e2) (b9 (am hs)))))
end
section
noncomputable def bq(b n:UInt8):Bool:=b==n
noncomputable def th(b:UInt8):Bool:=decide (b < 32)
noncomputable def pt(b:UInt8):Bool:=([8,9,10,12,13,27]:Qy).contains b
noncomputable def qX(b:UInt8):Bool:=([10,13,26]:Qy).contains b
noncomputable def xY(r:Qy):Bool:=r.take 1==[10]
noncomputable def rC(r:Qy):Bool:=r.isEmpty
def fQ(b:UInt8)(r:Qy):Bool:=bq b 0||(bq b 13&&!xY r)
def gX(b:UInt8):Bool:=bq b 127||(th b&&!pt b)
def gp(b:UInt8)(r:Qy):Bool:=bq b 127||(th b&&(!pt b&&!(bq b 26&&rC r)))
def ir(b:UInt8)(r:Qy):Bool:=!gp b r&&!qX b
noncomputable def iZ:Qy→Bool
 | []=>false
 | b::r=>fQ b r||iZ r
noncomputable def iX:Qy→Nat
 | []=>0
 | b::r=>(if gp b r then 1 else 0) + iX r
noncomputable def iW:Qy→Nat
 | []=>0
 | b::r=>(if ir b r then 1 else 0) + iW r
def iw(x:Qy):Bool:=!iZ x&&decide (iX x≤iW x / 128)
noncomputable def wB:PS:=.g 5 (.x (.v 0) (.v 4)) (.f (.o (.c (.p .eq (.v 5) (.i 0)) (.j (.d (.c (.p .eq (.v 5) (.i 13)) (.j (.p .ne (.z (.v 0) (.q .add false (.v 4) (.i 1)) (.q .add false (.v 4) (.i 2))) (.y [10])))))))) (.r (.b false)) .nil (.f (.o (.c (.p .eq (.v 5) (.i 127)) (.j (.d (.c (.p .lt (.v 5) (.i 32)) (.c (.p .dg (.v 5) (.tup (.c (.i 8) (.c (.i 9) (.c (.i 10) (.c (.i 12) (.c (.i 13) (.j (.i 27))))))))) (.j (.n (.d (.c (.p .eq (.v 5) (.i 26)) (.j (.p .eq (.q .add false (.v 4) (.i 1)) (.v 3))))))))))))) (.g 2 (.q .add false (.v 2) (.i 1)) .nil) (.f (.p .dg (.v 5) (.tup (.c (.i 10) (.c (.i 13) (.j (.i 26)))))) (.g 1 (.q .add false (.v 1) (.i 1)) .nil) .nil .nil) .nil))
def mT{P:UInt8→Prop}(h:∀ n,n < 256→P (M' n))(b:UInt8):P b:=by
 have:=h b.toNat (UInt8.toNat_lt b)
 rwa [adb] at this
def JB(b:UInt8):iE (.int b.toNat) [.int 8,.int 9,.int 10,.int 12,.int 13,.int 27]=some (pt b):=mT (P:=fun b=>iE (.int b.toNat) [.int 8,.int 9,.int 10,.int 12,.int 13,.int 27]=some (pt b)) (by decide +kernel) b
def Vj(b:UInt8):iE (.int b.toNat) [.int 10,.int 13,.int 26]=some (qX b):=mT (P:=fun b=>iE (.int b.toNat) [.int 10,.int 13,.int 26]=some (qX b)) (by decide +kernel) b
def e0(b:UInt8):dE (.int b.toNat) (.int 0)=some (bq b 0):=mT (P:=fun b=>dE (.int b.toNat) (.int 0)=some (bq b 0)) (by decide +kernel) b
def ZJ(b:UInt8):dE (.int b.toNat) (.int 13)=some (bq b 13):=mT (P:=fun b=>dE (.int b.toNat) (.int 13)=some (bq b 13)) (by decide +kernel) b
def ZI(b:UInt8):dE (.int b.toNat) (.int 26)=some (bq b 26):=mT (P:=fun b=>dE (.int b.toNat) (.int 26)=some (bq b 26)) (by decide +kernel) b
def Lq(b:UInt8):dE (.int b.toNat) (.int 127)=some (bq b 127):=mT (P:=fun b=>dE (.int b.toNat) (.int 127)=some (bq b 127)) (by decide +kernel) b
def Jc(b:UInt8):vd .lt (b.toNat:Int) 32=some (th b):=mT (P:=fun b=>vd .lt (b.toNat:Int) 32=some (th b)) (by decide +kernel) b
def wP{i j:Int}{e:Bool}(h:dE (.int i) (.int j)=some e):bU .eq (.int i) (.int j) H=some e:=h
def aaW{r:Qy}{b:UInt8}{k p o:Nat}(hi:kM (.bytes x) (.int k) []=some (.int b.toNat))(hc:gU (.bytes x) (.int ((k:Int) + 1)) (.int ((k:Int) + 2)) []=some (.bytes (r.take 1)))(he:dE (.int ((k:Int) + 1)) (.int n)=some (rC r)):
  dJ O 400 wB [some (.bytes x),some (.int p),some (.int o),some (.int n),some (.int k),s5] [] =
   cond (fQ b r) (.ok (.ret (.bool false),[some (.bytes x),some (.int p),some (.int o),some (.int n),some (.int k),some (.int b.toNat)]) [])
    (.ok (.next,[some (.bytes x),some (.int (p + (if ir b r then 1 else 0):Nat)),some (.int (o + (if gp b r then 1 else 0):Nat)),some (.int n),some (.int k),some (.int b.toNat)]) []):=by
 have h0:=wP (H:=[]) (e0 b);have fz:=wP (H:=[]) (ZJ b);have DN:=wP (H:=[]) (ZI b);have XO:=wP (H:=[]) (Lq b);have hl:bU .lt (.int b.toNat) (.int 32) []=some (th b):=Jc b;have hs:bU .ne (.bytes (r.take 1)) (.bytes [10]) []=some (!xY r):=rfl;have h6:bU .dg (.int b.toNat) (.tup [.int 8,.int 9,.int 10,.int 12,.int 13,.int 27]) []=some (!pt b):=rM (JB b);have h3:bU .dg (.int b.toNat) (.tup [.int 10,.int 13,.int 26]) []=some (!qX b):=rM (Vj b);have he:=wP (H:=[]) he;show aA O 400 wB _ _=_;delta wB;refine bQ (sX (am rfl) (am rfl) hi) ?_;have t1:bK O (.jW (.cons (.cmp .eq (.var 5) (.i 0)) (.cons (.iF (.cons (.cmp .eq (.var 5) (.i 13)) (.cons (.cmp .ne (.slice (.var 0) (.bin .add false (.var 4) (.i 1)) (.bin .add false (.var 4) (.i 2))) (.y [10])) .nil))) .nil))) [some (.bytes x),some (.int p),some (.int o),some (.int n),some (.int k),some (.int b.toNat)] []=.ok (fQ b r) []:=
  fF (anyB (bD rfl h0) (gB (fG (allB (bD rfl fz) (all1 (bX (nX (am rfl) (bk (am rfl) aO gY) (bk (am rfl) aO gY) hc) aO hs))))))
 generalize e1:(fQ b r)=zz;induction zz with
 | true=>rw [e1] at t1;exact lA t1 (b9 aO)
 | false=>
  rw [e1] at t1;refine b5 t1 aW ?_;have t2:bK O (.jW (.cons (.cmp .eq (.var 5) (.i 127)) (.cons (.iF (.cons (.cmp .lt (.var 5) (.i 32)) (.cons (.cmp .dg (.var 5) (.tup (.cons (.i 8) (.cons (.i 9) (.cons (.i 10) (.cons (.i 12) (.cons (.i 13) (.cons (.i 27) .nil)))))))) (.cons (.me (.iF (.cons (.cmp .eq (.var 5) (.i 26)) (.cons (.cmp .eq (.bin .add false (.var 4) (.i 1)) (.var 3)) .nil)))) .nil)))) .nil))) [some (.bytes x),some (.int p),some (.int o),some (.int n),some (.int k),some (.int b.toNat)] []=.ok (gp b r) []:=
   fF (anyB (bD rfl XO) (gB (fG (allB (bD rfl hl) (allB (bX (am rfl) (cB (vs:=[.int 8,.int 9,.int 10,.int 12,.int 13,.int 27]) rfl) h6) (all1 (lY (fG (allB (bD rfl DN) (all1 (bX (bk (am rfl) aO gY) (am rfl) he)))))))))))
  have t3:bK O (.cmp .dg (.var 5) (.tup (.cons (.i 10) (.cons (.i 13) (.cons (.i 26) .nil))))) [some (.bytes x),some (.int p),some (.int o),some (.int n),some (.int k),some (.int b.toNat)] []=.ok (!qX b) []:=bX (am rfl) (cB (vs:=[.int 10,.int 13,.int 26]) rfl) h3;unfold ir;generalize e2:(gp b r)=zz;induction zz with
  | true=>rw [e2] at t2;exact kz t2 (bQ (bk (am rfl) aO gY) aW) aW
  | false=>
   rw [e2] at t2;generalize e3:(qX b)=zz;induction zz with
   | true=>rw [e3] at t3;exact b5 t2 (b5 t3 aW aW) aW
   | false=>rw [e3] at t3;exact b5 t2 (kz t3 (bQ (bk (am rfl) aO gY) aW) aW) aW
def Ah(h:n≤m):ig m (n:Int)=n:=(Aj m n).trans (AU h)
def aaE{k:Nat}(h:k < x.length)(hL:x.length≤aC):gU (.bytes x) (.int ((k:Int) + 1)) (.int ((k:Int) + 2)) []=some (.bytes ((x.drop (k + 1)).take 1)):=by
 refine (if_pos hL).trans (congrArg (fun z=>some (PV.bytes z)) ?_);show (x.drop (ig x.length ((k + 1:Nat):Int))).take (ig x.length ((k:Int) + 2) - ig x.length ((k + 1:Nat):Int))=_;rw [Ah h];by_cases q:k + 2≤x.length
 ·have:ig x.length ((k:Int) + 2)=k + 2:=Ah q;rw [this,show k + 2 - (k + 1)=1 from by lia]
 ·have:x.drop (k + 1)=[]:=NO (by lia);rw [this,ad6,ad6]
def ZE{k:Nat}(h:k < x.length):dE (.int ((k:Int) + 1)) (.int (x.length:Int))=some (rC (x.drop (k + 1))):=by refine congrArg some ?_;unfold rC;rw [qe,beq_iff_eq,uv,aez];exact ⟨fun q=>by lia,fun q=>by lia⟩
def UY{k:Nat}(h:k < x.length)(hb:x.length≤390):kM (.bytes x) (.int k) []=some (.int x[k].toNat):=
 (if_pos (bw (aB hb (by decide)))).trans (congrArg (jq fun c:UInt8=>PV.int c.toNat) (zb h (aB hb (by decide))))
def U6(hx:x.length≤390):
  (iZ x=true∧∃ sl H,cQ (dJ O 400 wB) (m6 4) (.fix ((dR x.length).map fun (k:Nat)=>.int k)) 400 0 [some (.bytes x),some (.int 0),some (.int 0),some (.int x.length),none,none] []=.ok (.ret (.bool false),sl) H∧H=[])∨
  (iZ x=false∧∃ s4 s5,cQ (dJ O 400 wB) (m6 4) (.fix ((dR x.length).map fun (k:Nat)=>.int k)) 400 0 [some (.bytes x),some (.int 0),some (.int 0),some (.int x.length),none,none] []=.ok (.next,[some (.bytes x),some (.int (iW x)),some (.int (iX x)),some (.int x.length),s4,s5]) []):=by
 refine n_ (l:=(dR x.length).map fun (k:Nat)=>PV.int k) (fun i sl H=>∃ (p o:Nat) (s4 s5:Qq),sl=[some (.bytes x),some (.int p),some (.int o),some (.int x.length),s4,s5]∧H=[]∧p + iW (x.drop i)=iW x∧o + iX (x.drop i)=iX x∧iZ (x.drop i)=iZ x)
  (fun r=>(iZ x=true∧∃ sl H,r=.ok (.ret (.bool false),sl) H∧H=[])∨(iZ x=false∧∃ s4 s5,r=.ok (.next,[some (.bytes x),some (.int (iW x)),some (.int (iX x)),some (.int x.length),s4,s5]) [])) ?_ ?_ 400 0 _ _ (cE _) (by rw [aQ,uu];exact iI hx rfl) ⟨0,0,none,none,rfl,rfl,xk _,xk _,rfl⟩
 ·intro i v sl H hv cr;refine Bm cr fun p o s4 s5 e1 e2 h1 h2 h3=>?_;clear cr;refine ay (cF.mp hv) fun rc hv=>?_;rw [oR,List.getElem_range] at hv;rw [aQ,uu] at rc;rw [aeA rc] at h1 h2 h3;have bd:=aaW (O:=O) (s5:=s5) (p:=p) (o:=o) (UY rc hx) (aaE rc (bw (by exact aq hx rfl))) (ZE rc);refine ⟨[some (.bytes x),some (.int p),some (.int o),some (.int x.length),some (.int i),s5],by rw [←hv,e1];rfl,?_⟩;rw [e2,bd];generalize e:(fQ x[i] (x.drop (i + 1)))=zz;induction zz with
  | true=>exact .inl ⟨h3.symm.trans (by show (fQ _ _||_)=true;rw [e];rfl),_,_,rfl,rfl⟩
  | false=>exact ⟨_,_,_,_,rfl,rfl,(r8 ..).trans h1,(r8 ..).trans h2,Eq.trans (by show _=(fQ _ _||_);rw [e];rfl) h3⟩
 ·intro sl H cr;refine Bm cr fun p o s4 s5 e1 e2 h1 h2 h3=>?_;clear cr;rw [aQ,uu,List.drop_length] at h1 h2 h3;rw [e1,e2,←h1,←h2];exact .inr ⟨h3.symm,s4,s5,rfl⟩
end
section
def Yr(n m:Nat):decide ((n:Int).fdiv 128≥(m:Int))=decide (m≤n / 128):=by
 have:(n:Int).fdiv 128=((n / 128:Nat):Int):=by rw [Int.fdiv_eq_ediv_of_nonneg _ (by lia)];lia
 rw [this,decide_eq_decide];lia
def HJ(h:n≤1000000):ma (.int (n:Int))=some (.fix ((dR n).map fun (k:Nat)=>.int k)):=by show (if -1000000000≤(n:Int)∧(n:Int)≤1000000000 then some (It.fix ((dR (n:Int).toNat).map fun (k:Nat)=>PV.int k)) else none)=_;rw [if_pos (by lia)];rfl
def Lu(p o:Nat)(H:Hp):binop .fdiv false (.int p) (.int 128) H=.ok (.int ((p:Int).fdiv 128)) H∧bU .ge (.int ((p:Int).fdiv 128)) (.int o) H=some (decide (o≤p / 128)):=
 ⟨yI (by decide) (by decide),congrArg some (Yr p o)⟩
def La(hx:x.length≤390):(ai 400 (j + 1)).call 14 [.bytes x] []=.ok (.bool (iw x)) []:=by
 have hr:=HJ (n:=x.length) (by exact aq hx rfl);have hL:x.length≤aC:=bw (aB hx (by decide));refine ad (Lu (iW x) (iX x) []) fun d1 d2=>?_;refine (e_ rfl rfl).trans ?_;unfold iw;generalize (U6 (O:=ai 400 j) hx)=zz;induction zz with
 | inl h=>
  refine ad h fun hb z2=>?_;clear h;refine ch z2 fun sl H e xJ=>?_;clear z2;subst xJ;rw [hb];clear hx;apply j_
  case h=>show aA _ _ wC _ _=_;delta wC;exact jE (cB (be (be (aX (jD (aF rfl ak) (Co hL)) ak)))) rfl (SC (tt (am rfl) hr) e)
  all_goals rfl
 | inr h=>
  refine ad h fun hb z2=>?_;clear h;refine eB z2 fun s4 s5 e=>?_;clear z2;rw [hb];clear hx;apply j_
  case h=>show aA _ _ wC _ _=_;delta wC;exact jE (cB (be (be (aX (jD (aF rfl ak) (Co hL)) ak)))) rfl (lB (tt (am rfl) hr) e (b9 (yv (bk (am rfl) aO d1) (am rfl) d2)))
  all_goals rfl
def Km(x:Qy)(c:UInt8):zy x [c]=x.contains c:=by
 unfold zy af';rw [qe,NR,List.find?_isSome];have h:∀ i,(x.toArray.extract i (i + ([c]:Qy).toArray.size)==([c]:Qy).toArray)=([c]:Qy).isPrefixOf (x.drop i):=fun i=>Ld x [c] i;constructor
 ·rintro ⟨i,hi,hp⟩;rw [h,A5] at hp;have:=hp.subset (List.mem_singleton_self c);exact aef this
 ·intro hm;refine ay (List.getElem_of_mem hm) fun i z2=>?_;refine ay z2 fun hi uI=>?_;clear z2;subst uI;refine ⟨i,?_,?_⟩
  ·simp;exact hi
  ·rw [h,A5,aeA hi];exact ⟨x.drop (i + 1),rfl⟩
def Qh(c b:UInt8)(r:Qy):sp [c] 0 (b::r)=if b=c then []::sp [c] 0 r else j8 b (sp [c] 0 r):=by
 simp only [sL,qw];by_cases h:b=c
 ·subst h;simp
 ·have:([c]:Qy).isPrefixOf (b::r)=false:=by simp [Ft];exact fun q=>h q.symm
  rw [this];simp [h]
theorem GV(c:UInt8):∀ x:Qy,(sp [c] 0 x).length=x.count c + 1
 | []=>rfl
 | b::r=>by
  have ih:=GV c r;rw [Qh];by_cases h:b=c
  ·subst h;simp [ih]
  ·rw [if_neg h,aeC (by simpa using h),←ih];have:=sM [c] r 0;generalize q:(sp [c] 0 r)=zz;induction zz using bj with
   | nil=>exact absurd q this
   | cons a l=>simp [j8]
def S9(x:Qy)(c:UInt8):(fj x [c]).length=x.count c:=by
 have h:∀ (ps:Qn) (last:Nat),(jk x 1 last ps).length=ps.length + 1:=by
  intro ps;induction ps with
  | nil=>intro last;simp [EH]
  | cons p ps ih=>intro last;simp [EI,ih]
 have h1:=h (fj x [c]) 0;have h2:=EJ (x:=x) (y:=[c]) (by simp);rw [Me] at h2;rw [show jk x ([c]:Qy).length 0 (fj x [c])=jk x 1 0 (fj x [c]) from rfl] at h2;rw [h2,GV] at h1;lia
def qz(z:Qy)(b:UInt8)(r:Qy)(h:¬ (b=13∧r.take 1=[10])):rp [13,10] z 0 (b::r)=b::rp [13,10] z 0 r:=by
 have:([13,10]:Qy).isPrefixOf (b::r)=false:=by rw [Bool.eq_false_iff];intro q;rw [A5] at q;refine ay q ?_;clear q;intro t q;simp at q;exact h ⟨q.1.symm,by rw [←q.2];rfl⟩
 simp only [B3,this];simp
def u4(z r:Qy):rp [13,10] z 0 (13::10::r)=z++rp [13,10] z 0 r:=by simp [B3,RC]
theorem EN:∀ x:Qy,iZ x=(x.contains 0||decide (0 < (rp [13,10] [] 0 x).count 13))
 | []=>rfl
 | [b]=>by
  rw [qz [] b [] (by simp)];show (fQ b []||false)=_;unfold fQ bq xY;by_cases h0:b=0
  ·subst h0;simp
  ·by_cases fz:b=13
   ·subst fz;simp [u3]
   ·have h1:(b==0)=false:=by simpa using h0
    have h2:(b==13)=false:=by simpa using fz
    have h3:(0==b)=false:=by rw [xE];exact h1
    simp [h1,h2,h3,u3,fz,Ne.symm h0]
 | b::c::r=>by
  by_cases wd:b=13∧c=10
  ·(refine ad wd fun z0=>?_;clear wd;subst z0;intro z1;subst z1)
   have ih:=EN r;rw [u4];show (fQ 13 (10::r)||(fQ 10 r||iZ r))=_;have h1:fQ 13 (10::r)=false:=rfl;have h2:fQ 10 r=false:=rfl;rw [h1,h2,ih];simp
  ·have ih:=EN (c::r);have hn:¬ (b=13∧(c::r).take 1=[10]):=fun q=>wd ⟨q.1,by simpa using q.2⟩;rw [qz [] b (c::r) hn];show (fQ b (c::r)||iZ (c::r))=_;rw [ih];unfold fQ bq xY;by_cases h0:b=0
   ·subst h0;simp
   ·have h1:(b==0)=false:=by simpa using h0
    have h3:(0==b)=false:=by rw [xE];exact h1
    by_cases fz:b=13
    ·subst fz;have hc:(([c]:Qy)==[10])=false:=by simp;exact fun q=>wd ⟨rfl,q⟩
     have W_:0 < (13::rp [13,10] [] 0 (c::r):Qy).count 13:=by simp
     simp [W_];left;exact fun q=>wd ⟨rfl,q⟩
    ·have h2:(b==13)=false:=by simpa using fz
     have hc:(b::c::r).contains 0=(c::r).contains 0:=by rw [mO,h3];rfl
     rw [aeC (by simpa using fz),hc,h1,h2];rfl
noncomputable def kept(x:Qy):Qy:=if x.drop (x.length - 1)==[26] then x.dropLast else x
def kept_cons(b c:UInt8)(r:Qy):kept (b::c::r)=b::kept (c::r):=by
 unfold kept;have:(b::c::r).drop ((b::c::r).length - 1)=(c::r).drop ((c::r).length - 1):=by simp
 rw [this]
 split<;>simp
noncomputable def tr(b:UInt8):Bool:=([10,13]:Qy).contains b
def mc(b:UInt8):Bool:=!gX b&&!tr b
def ZF(b:UInt8):(if gp b [] then 1 else 0)=((kept [b]).filter gX).length∧(if ir b [] then 1 else 0)=((kept [b]).filter mc).length:=
 mT (P:=fun b=>(if gp b [] then 1 else 0)=((kept [b]).filter gX).length∧(if ir b [] then 1 else 0)=((kept [b]).filter mc).length) (by decide +kernel) b
def TD(b c:UInt8)(r:Qy):gp b (c::r)=gX b∧ir b (c::r)=mc b:=by
 have h1:gp b (c::r)=gX b:=by unfold gp gX rC;simp
 refine ⟨h1,?_⟩;unfold ir mc;rw [h1];exact mT (P:=fun b=>(!gX b&&!qX b)=(!gX b&&!tr b)) (by decide +kernel) b
theorem counts:∀ x:Qy,iX x=((kept x).filter gX).length∧iW x=((kept x).filter mc).length
 | []=>⟨rfl,rfl⟩
 | [b]=>by
  have:=ZF b;exact ⟨by rw [←this.1];rfl,by rw [←this.2];rfl⟩
 | b::c::r=>by
  have ih:=counts (c::r);have hm:=TD b c r;rw [kept_cons];refine ⟨?_,?_⟩
  ·show (if gp b (c::r) then 1 else 0) + iX (c::r)=_;rw [hm.1,ih.1,uy]
   split<;>simp;lia
  ·show (if ir b (c::r) then 1 else 0) + iW (c::r)=_;rw [hm.2,ih.2,uy]
   split<;>simp;lia
def UG(x:Qy):∃ n,kept x=x.take n:=by
 unfold kept
 split
 ·exact ⟨x.length - 1,NQ⟩
 ·exact ⟨x.length,by simp⟩
end
section
noncomputable def cT(b:UInt8):PV:=.int b.toNat
theorem Mp(b:UInt8):∀ l:Qy,iE (cT b) (l.map cT)=some (l.contains b)
 | []=>rfl
 | c::l=>by
  have ih:=Mp b l;have:dE (cT c) (cT b)=some (c==b):=by
   show some ((c.toNat:Int)==(b.toNat:Int))=_;congr 1;rw [qe,beq_iff_eq,beq_iff_eq];constructor
   ·intro q;exact UInt8.toNat_inj.mp (by lia)
   ·rintro rfl;rfl
  rw [da,Mq,ih,this];show some ((c==b)||l.contains b)=_;rw [mO,xE]
noncomputable def y9(p:UInt8→Bool)(v:PV):Bool:=match v with|.int i=>p (M' i.toNat)|_=>false
def CY(p:UInt8→Bool)(b:UInt8):y9 p (cT b)=p b:=by show p (M' (b.toNat:Int).toNat)=p b;rw [Int.toNat_natCast,adb]
def KY(p:UInt8→Bool)(l:Qy):((l.map cT).filter (y9 p)).map (fun v=>v)=(l.filter p).map cT:=by rw [A4,Fy];congr 1;refine aev fun b _=>CY p b
def Vi(b:UInt8):iE (cT b) [.int 8,.int 9,.int 10,.int 12,.int 13,.int 27]=some (pt b):=JB b
def Vk(b:UInt8):iE (cT b) [.int 10,.int 13]=some (tr b):=mT (P:=fun b=>iE (cT b) [.int 10,.int 13]=some (tr b)) (by decide +kernel) b
def ZK(b:UInt8):dE (cT b) (.int 127)=some (bq b 127):=Lq b
noncomputable def EA:bg:=.j (.o (.c (.p .eq (.v 0) (.i 127)) (.j (.d (.c (.p .lt (.v 0) (.i 32)) (.j (.p .dg (.v 0) (.tup (.c (.i 8) (.c (.i 9) (.c (.i 10) (.c (.i 12) (.c (.i 13) (.j (.i 27)))))))))))))))
noncomputable def Ez:bg:=.j (.d (.c (.p .dg (.v 0) (.v 3)) (.j (.p .dg (.v 0) (.tup (.c (.i 10) (.j (.i 13))))))))
def S1{k:Qy}:fm (iD O EA) (gM O (.var 0)) sl (k.map cT) []=.ok ((k.filter gX).map cT) []:=by
 rw [←KY];refine m4 (test:=iD O EA) (elt:=gM O (.var 0)) (sl:=sl) (H:=[]) (p:=y9 gX) (g:=fun v=>v) (l:=k.map cT) (fun v hv=>?_) (fun v hv _=>rfl);refine J (b7.mp hv) fun b _ z2=>?_;subst z2;rw [CY];unfold gX;have h1:bU .eq (cT b) (.int 127) []=some (bq b 127):=ZK b;have h2:bU .lt (cT b) (.int 32) []=some (th b):=Jc b;have h3:bU .dg (cT b) (.tup [.int 8,.int 9,.int 10,.int 12,.int 13,.int 27]) []=some (!pt b):=by show (isin (cT b) (.tup [.int 8,.int 9,.int 10,.int 12,.int 13,.int 27]) []).map (!·)=_;rw [show isin (cT b) (.tup [.int 8,.int 9,.int 10,.int 12,.int 13,.int 27]) []=some (pt b) from Vi b];rfl
 show fK _ _ _ _=_;delta EA;exact all1 (fF (anyB (bD rfl h1) (gB (fG (allB (bD rfl h2) (all1 (bX (am rfl) (cB (vs:=[.int 8,.int 9,.int 10,.int 12,.int 13,.int 27]) rfl) h3)))))))
def Sn{k:Qy}:fm (iD O Ez) (gM O (.var 0)) (s1::s2::some (.fl ((k.filter gX).map cT))::sl) (k.map cT) []=.ok ((k.filter mc).map cT) []:=by
 rw [←KY mc];refine m4 (test:=iD O Ez) (elt:=gM O (.var 0)) (sl:=s1::s2::some (.fl ((k.filter gX).map cT))::sl) (H:=[]) (p:=y9 mc) (g:=fun v=>v) (l:=k.map cT) (fun v hv=>?_) (fun v hv _=>rfl);refine J (b7.mp hv) fun b hb z2=>?_;subst z2;rw [CY];unfold mc;have h1:bU .dg (cT b) (.fl ((k.filter gX).map cT)) []=some (!gX b):=by show (iE (cT b) ((k.filter gX).map cT)).map _=_;rw [Mp,ud];congr 2;rw [qe,NR,jr];exact ⟨fun q=>q.2,fun q=>⟨hb,q⟩⟩
 have h3:bU .dg (cT b) (.tup [.int 10,.int 13]) []=some (!tr b):=by show (isin (cT b) (.tup [.int 10,.int 13]) []).map (!·)=_;rw [show isin (cT b) (.tup [.int 10,.int 13]) []=some (tr b) from Vk b];rfl
 show fK _ _ _ _=_;delta Ez;exact all1 (fG (allB (bX (am rfl) (am rfl) h1) (all1 (bX (am rfl) (cB (vs:=[.int 10,.int 13]) rfl) h3))))
def RD(z:Qy)(hz:z.length≤1):∀ (n:Nat) (x:Qy),x.length≤n→(rp [13,10] z 0 x).length≤x.length:=by
 intro n;induction n with
 | zero=>intro x h;induction x using bj with|nil=>exact aS _|cons b r=>exact absurd h (adS _)
 | succ n ih=>
  intro x h;induction x using bj with
  | nil=>exact aS _
  | cons b r=>
   by_cases q:b=13∧r.take 1=[10]
   ·(refine ad q ?_;clear q;intro z0;subst z0;intro q)
    induction r using bj with
    | nil=>injection q
    | cons c r=>injection q with q _;subst q;rw [u4,bP];have:=ih r (ug (Nx h));show _≤r.length + 1 + 1;lia
   ·rw [qz _ _ _ q];exact Fg (ih r (Nx h))
def K6(hx:x.length≤390):(ai 400 (j + 1)).call 28 [.bytes x] []=.ok (.bool (iw x)) []:=by
 have hL:x.length≤aC:=bw (aB hx (by decide));have tA:(rp [13,10] [] 0 x).length≤aC:=aB (RD [] (by decide) _ x (aS _)) hL;have r1:dv .replace (.bytes x) [.bytes [13,10],.bytes []] []=_:=u5 (x:=x) (y:=[13,10]) (z:=[]) (by decide) (by lia) (by decide) tA;have ct:dv .count (.bytes (rp [13,10] [] 0 x)) [.bytes [13]] []=.ok (.int ((rp [13,10] [] 0 x).count 13)) []:=(if_pos ⟨tA,by decide⟩).trans (by rw [S9];exact if_neg (by decide));have hz:bU .aG (.bytes [0]) (.bytes x) []=some (x.contains 0):=congrArg some (Km x 0);have WL:bU .gt (.int ((rp [13,10] [] 0 x).count 13:Nat)) (.int 0) []=some (decide (0 < (rp [13,10] [] 0 x).count 13)):=by refine congrArg some ?_;rw [decide_eq_decide];lia
 have c1:ig x.length (-1)=x.length - 1:=(Ai x.length (-1)).symm.trans (if_pos (by decide));have cL:gU (.bytes x) (.int (-1)) .none []=some (.bytes (x.drop (x.length - 1))):=(if_pos hL).trans (congrArg (fun z=>some (PV.bytes z)) (by
  show (x.drop (ig x.length (-1))).take (x.length - ig x.length (-1))=_;rw [c1];exact AX (dM xw)))
 have cR:gU (.bytes x) .none (.int (-1)) []=some (.bytes x.dropLast):=(if_pos hL).trans (congrArg (fun z=>some (PV.bytes z)) (by
  show (x.drop 0).take (ig x.length (-1) - 0)=_;rw [c1,NQ];rfl))
 have DN:bU .eq (.bytes (x.drop (x.length - 1))) (.bytes [26]) []=some (x.drop (x.length - 1)==[26]):=rfl;refine ay (UG x) fun n hn=>?_;have Dm:(kept x).length≤aC:=aB (by rw [hn,kj];exact AR ..) hL;have J_:((kept x).map cT).length≤aC:=aB (dM (aQ _)) Dm;have Jp:og (.bytes (kept x)) []=some (.fix ((kept x).map cT)):=rfl;have hk:cond (x.drop (x.length - 1)==[26]) (PV.bytes x.dropLast) (.bytes x)=.bytes (kept x):=by unfold kept;cases (x.drop (x.length - 1)==[26])<;>rfl
 have fo:(((kept x).filter gX).map cT).length≤aC:=aB (dM (aQ _)) (aB (oQ _ _) Dm);have fp:(((kept x).filter mc).map cT).length≤aC:=aB (dM (aQ _)) (aB (oQ _ _) Dm);have lo:nr .len [.fl (((kept x).filter gX).map cT)] []=.ok (.int (iX x)) []:=(Cn rfl rfl fo).trans (by rw [aQ,←(counts x).1]);have lp:nr .len [.fl (((kept x).filter mc).map cT)] []=.ok (.int (iW x)) []:=(Cn rfl rfl fp).trans (by rw [aQ,←(counts x).2]);refine ad (Lu (iW x) (iX x) []) fun d1 d2=>?_;have oc:=S1 (O:=ai 400 j) (sl:=[some (.bytes x),some (.bytes (kept x)),none,none]) (k:=kept x);have pc:=Sn (O:=ai 400 j) (s1:=some (.bytes x)) (s2:=some (.bytes (kept x))) (sl:=[none]) (k:=kept x);unfold iw;rw [EN];generalize (rp [13,10] [] 0 x)=R at *;generalize x.drop (x.length - 1)=X at *;clear hx c1;refine (e_ rfl rfl).trans ?_;apply j_
 case h=>
  show aA _ _ D0 _ _=_;delta D0;exact qL (fF (anyB (bX aO (am rfl) hz) (gB (bX (b4 (b4 (am rfl) rfl (be (be ak)) r1) rfl (be ak) ct) aO WL)))) (b9 aO) (bQ (yu (bX (nX (am rfl) (HO aO) aO cL) aO DN) (nX (am rfl) aO (HO aO) cR) (am rfl) hk)
   (bQ (ly (fW (am rfl) Jp) J_ oc fo) (bQ (ly (fW (am rfl) Jp) J_ pc fp) (b9 (yv (bk (jD (aF rfl ak) lp) aO d1) (jD (aF rfl ak) lo) d2)))))
 ·rfl
 ·generalize (x.contains 0||_)=c;induction c<;>rfl
 ·rfl
end
section
noncomputable abbrev gG:Qn:=[97,117,116,111]
noncomputable abbrev jB:Qn:=[108,102]
noncomputable abbrev fT:Qn:=[99,114,108,102]
noncomputable abbrev jb:Qn:=[110,111,110,101]
def jG:PV→Bool
 | .str s=>s==jB||s==fT
 | _=>false
def tn:PV→Bool
 | .str s=>s==fT
 | _=>false
def endOf(e:PV):PV:=if jG e then e else .none
def fX(t e:PV):Qn:=match t with
 | .bool b=>if b then dO else jb
 | .str s=>if s=gG then gG else if jG e then dO else jb
 | _=>if jG e then dO else jb
structure Told(v:PV)(H:Hp)(t e:PV):Prop where
 d:∃ F,dZ v H=some F∧(look dO F).getD .none=t∧(look l_ F).getD .none=e
 at_:cM t
 ae:cM e
def Jy{e:PV}(h:cM e)(H:Hp):isin e (.tup [.str jB,.str fT]) H=some (jG e):=by
 show iE e [.str jB,.str fT]=_;induction h with
 | none=>rfl
 | bool b=>rfl
 | str s=>show some ((jB==s)||((fT==s)||false))=some (s==jB||s==fT);rw [N5,xE (a:=jB),xE (a:=fT)]
def Zo{e:PV}(h:cM e)(H:Hp):eqv e (.str fT) H=some (tn e):=by induction h<;>rfl
def Zn{e:PV}(h:cM e)(H:Hp):eqv (endOf e) (.str fT) H=some (tn e):=by
 induction h with
 | none=>rfl
 | bool b=>rfl
 | str s=>
  unfold endOf;by_cases h:jG (.str s)=true
  ·rw [if_pos h];rfl
  ·rw [if_neg h];show some false=some (s==fT);congr 1;have h:¬ ((s==jB||s==fT)=true):=h;simp at h;exact (beq_eq_false_iff_ne.mpr h.2).symm
def aut:PV→Bool
 | .str s=>s==gG
 | _=>false
def Told.g{t e:PV}(h:Told v H t e):jZ .get v H=true∧dv .get v [.str dO] H=.ok t H∧dv .get v [.str l_] H=.ok e H:=by
 obtain ⟨⟨F,hD,ht,he⟩,_,_⟩:=h;refine ⟨?_,?_,?_⟩
 ·show (dZ v H).isSome=true;rw [hD];rfl
 ·show both (dZ v H) ((one [PV.str dO]).bind toStr) _=_;rw [hD,←ht];rfl
 ·show both (dZ v H) ((one [PV.str l_]).bind toStr) _=_;rw [hD,←he];rfl
def J1{e:PV}{s:Qn}(hs:s≠gG):fX (.str s) e=if jG e then dO else jb:=if_neg hs
def U5{e:PV}(h:cM e)(H:Hp):bU .iQ (endOf e) .none H=some (jG e):=by
 unfold endOf;generalize hl:(jG e)=zz;induction zz with
 | false=>rfl
 | true=>induction h with
  | none=>injection hl
  | bool b=>rfl
  | str s=>rfl
def K_{t e:PV}(h:Told v H t e):(ai 400 (j + 1)).call 15 [v] H=.ok (.tup [.str (fX t e),endOf e]) H:=by
 refine cG h.g fun g1 g2 g3=>?_;have il:bU .dg e (.tup [.str jB,.str fT]) H=some (!jG e):=rM (Jy h.ae H);have iQ:=U5 h.ae H;have at_:=h.at_;clear h;have S2:∀ {r:PS} {z},aA (ai 400 j) 400 r [some v,some t,some (endOf e)] H=z→aA (ai 400 j) 400 (.ifs (.cmp .dg (.var 2) (.tup (.cons (.cst (.str jB)) (.cons (.cst (.str fT)) .nil)))) (.asg 2 (.cst .none) .nil) .nil r) [some v,some t,some e] H=z:=fun h=>by
  unfold endOf at h;generalize hl:(jG e)=zz;induction zz with
  | true=>rw [hl] at il h;exact b5 (bX (am rfl) (cB (vs:=[.str jB,.str fT]) rfl) il) aW h
  | false=>rw [hl] at il h;exact kz (bX (am rfl) (cB (vs:=[.str jB,.str fT]) rfl) il) (bQ aO aW) h
 have LE:fX t e=(if jG e then dO else jb)→ao (ai 400 j) (.ite (.cmp .iQ (.var 2) (.cst .none)) (.cst (.str dO)) (.cst (.str jb))) [some v,some t,some (endOf e)] H=.ok (.str (fX t e)) H:=fun hx=>
  yu (bD rfl iQ) aO aO (by rw [hx];generalize (jG e)=zz;induction zz<;>rfl)
 refine (e_ rfl rfl).trans (jl (aE:=[some v,some t,some (endOf e)]) ?_ rfl);delta K';refine jE (cB (aX (b4 (am rfl) g1 (be ak) g2) (aX (b4 (am rfl) g1 (be ak) g3) ak))) rfl (S2 ?_);induction at_ with
 | none=>exact b5 (qm (jD (aF rfl ak) rfl)) aW (b5 (bD rfl rfl) aW (b9 (cB (aX (LE rfl) (aF rfl ak)))))
 | bool b=>exact lA (qm (jD (aF rfl ak) rfl)) (b9 (cB (aX (yu (sD rfl) aO aO (by induction b<;>rfl)) (aF rfl ak))))
 | str s=>
  by_cases hs:s=gG
  ·subst hs;exact b5 (qm (jD (aF rfl ak) rfl)) aW (lA (bD rfl rfl) (b9 (cB (be (aF rfl ak)))))
  ·exact b5 (qm (jD (aF rfl ak) rfl)) aW (b5 (bD rfl (congrArg some (beq_eq_false_iff_ne.mpr hs))) aW (b9 (cB (aX (LE (J1 hs)) (aF rfl ak)))))
def K4{t e:PV}(h:Told v H t e):(ai 400 (j + 1)).call 29 [v] H=.ok (.str (fX t e)) H:=by
 refine cG h.g fun g1 g2 g3=>?_;have il:bU .dg e (.tup [.str jB,.str fT]) H=some (!jG e):=rM (Jy h.ae H);have at_:=h.at_;clear h;have LE:bU .is t (.bool false) H=some false→fX t e=(if jG e then dO else jb)→ao (ai 400 j) (.ite (.jW (.cons (.cmp .is (.var 1) (.b false)) (.cons (.cmp .dg (.var 2) (.tup (.cons (.cst (.str jB)) (.cons (.cst (.str fT)) .nil)))) .nil))) (.cst (.str jb)) (.cst (.str dO))) [some v,some t,some e] H=.ok (.str (fX t e)) H:=fun h hx=>
  yu (fF (o1 (bD rfl h) (gB (bX (am rfl) (cB (vs:=[.str jB,.str fT]) rfl) il)))) aO aO (by rw [hx];generalize (jG e)=zz;induction zz<;>rfl)
 refine (e_ rfl rfl).trans (jl (aE:=[some v,some t,some e]) ?_ rfl);delta K5;refine jE (cB (aX (b4 (am rfl) g1 (be ak) g2) (aX (b4 (am rfl) g1 (be ak) g3) ak))) rfl ?_;induction at_ with
 | none=>exact b5 (fF (o1 (bD rfl rfl) (gB (bD rfl rfl)))) aW (b9 (LE rfl rfl))
 | bool b=>induction b with
  | true=>exact lA (fF (Gy (bD rfl rfl))) (b9 (sW (bD rfl rfl) aO))
  | false=>exact b5 (fF (o1 (bD rfl rfl) (gB (bD rfl rfl)))) aW (b9 (sW (fF (Gy (bD rfl rfl))) aO))
 | str s=>
  by_cases hs:s=gG
  ·subst hs;exact lA (fF (o1 (bD rfl rfl) (gB (bD rfl rfl)))) (b9 (yt (bD rfl rfl) aO))
  ·exact b5 (fF (o1 (bD rfl rfl) (gB (bD rfl (congrArg some (beq_eq_false_iff_ne.mpr hs)))))) aW (b9 (LE rfl (J1 hs)))
end
section
noncomputable def cu(x:Qy):Qy:=rp [13,10] [10] 0 x
noncomputable def cz(x:Qy):Qy:=rp [10] [13,10] 0 x
def cin(h:Qn)(x:Qy):Qy:=cond (h==jb||(h==gG&&!iw x)) x (cu x)
def cout(h:Qn)(c:Bool)(x:Qy):Qy:=cond (h==jb||!c) x (cond (h==gG&&(x.contains 13||!iw x)) x (cz (cu x)))
def vw(x:Qy):(cu x).length≤x.length:=by
 have:∀ (n:Nat) (x:Qy),x.length≤n→(cu x).length≤x.length:=by
  intro n;induction n with
  | zero=>intro x h;induction x using bj with|nil=>simp [cu,u3]|cons b r=>simp at h
  | succ n ih=>
   intro x h;induction x using bj with
   | nil=>simp [cu,u3]
   | cons b r=>
    unfold cu at ih⊢;by_cases q:b=13∧r.take 1=[10]
    ·(refine ad q ?_;clear q;intro z0;subst z0;intro q)
     induction r using bj with
     | nil=>simp at q
     | cons c r=>simp at q;subst q;rw [u4];have:=ih r (by simp at h;lia);simp;exact oO this
    ·rw [qz _ _ _ q];have:=ih r (by simp at h;exact h);simp;exact this
 exact this x.length x (aS _)
def Ad(b:UInt8)(r:Qy):cz (b::r)=if b=10 then 13::10::cz r else b::cz r:=by
 unfold cz;simp only [B3];by_cases h:b=10
 ·subst h;simp
 ·have:([10]:Qy).isPrefixOf (b::r)=false:=by simp [Ft];exact fun q=>h q.symm
  rw [this];simp [h]
theorem Ei:∀ x:Qy,(cz x).length≤2 * x.length
 | []=>by simp [cz,u3]
 | b::r=>by
  have:=Ei r;rw [Ad]
  split<;>simp<;>lia
def vu(hx:x.length≤1000):o7 x [13,10] [10] H=.ok (.bytes (cu x)) H:=
 u5 (by simp) (by exact aq hx rfl) (by simp) (by have:=vw x;unfold cu at this;exact aq (aB this hx) rfl)
def LB(hx:x.length≤1000):o7 x [10] [13,10] H=.ok (.bytes (cz x)) H:=
 u5 (by simp) (by exact aq hx rfl) (by simp) (by have:=Ei x;unfold cz at this;exact aq (aB this (mulL hx)) rfl)
def pQ(a b:Qn)(H:Hp):bU .eq (.str a) (.str b) H=some (a==b):=rfl
def D7{t e:PV}(h:Told v H t e)(hx:x.length≤390):(ai 400 (j + 2)).call 16 [.bytes x,v] H=.ok (.bytes (cin (fX t e) x)) H:=by
 have lJ:=K_ (j:=j) h;have rl:runC .pure ((ai 400 (j + 1)).call 14) [.bytes x] H=_:=jc rfl (La (j:=j) hx) rfl;have hl:dv .replace (.bytes x) [.bytes [13,10],.bytes [10]] H=_:=vu (by exact aq hx rfl);clear h hx;refine (e_ rfl rfl).trans ?_;apply j_
 case h=>
  show aA _ _ D8 _ _=_;delta D8;exact bQ (sX (bL (aF rfl ak) lJ) aO rfl) (qL (fF (anyB (bD rfl (pQ _ _ _)) (gB (fG (allB (bD rfl (pQ _ _ _)) (all1 (lY (ql (ip (aF rfl ak) rl))))))))) (b9 (am rfl)) (b9 (b4 (am rfl) rfl (be (be ak)) hl)))
 ·rfl
 ·unfold cin;generalize (fX t e==jb||_)=c;induction c<;>rfl
 ·rfl
def K3{t e:PV}(h:Told v H t e)(hx:x.length≤390):(ai 400 (j + 2)).call 30 [.bytes x,v] H=.ok (.bytes (cin (fX t e) x)) H:=by
 have lJ:=K4 (j:=j) h;have rl:runC .pure ((ai 400 (j + 1)).call 28) [.bytes x] H=_:=jc rfl (K6 (j:=j) hx) rfl;have hl:dv .replace (.bytes x) [.bytes [13,10],.bytes [10]] H=_:=vu (by exact aq hx rfl);clear h hx;refine (e_ rfl rfl).trans ?_;apply j_
 case h=>
  show aA _ _ DZ _ _=_;delta DZ;exact qL (fF (anyB (bX (bL (aF rfl ak) lJ) aO (pQ _ _ _)) (gB (fG (allB (bX (bL (aF rfl ak) lJ) aO (pQ _ _ _)) (all1 (lY (ql (ip (aF rfl ak) rl))))))))) (b9 (am rfl)) (b9 (b4 (am rfl) rfl (be (be ak)) hl))
 ·rfl
 ·unfold cin;generalize (fX t e==jb||_)=c;induction c<;>rfl
 ·rfl
def JC(x:Qy)(H:Hp):isin (.bytes [13]) (.bytes x) H=some (x.contains 13):=by show some (zy x [13])=_;rw [Km]
def K9{t e:PV}(h:Told v H t e)(hx:x.length≤390):(ai 400 (j + 2)).call 17 [.bytes x,v] H=.ok (.bytes (cout (fX t e) (tn e) x)) H:=by
 have lJ:=K_ (j:=j) h;have rl:runC .pure ((ai 400 (j + 1)).call 14) [.bytes x] H=_:=jc rfl (La (j:=j) hx) rfl;have hl:dv .replace (.bytes x) [.bytes [13,10],.bytes [10]] H=_:=vu (by exact aq hx rfl);have hc:dv .replace (.bytes (cu x)) [.bytes [10],.bytes [13,10]] H=_:=LB (by have:=vw x;exact aq (aB this hx) rfl);have C3:bU .aG (.bytes [13]) (.bytes x) H=_:=JC x H;have ec:bU .ne (endOf e) (.str fT) H=_:=rM (Zn h.ae H);clear h hx;refine (e_ rfl rfl).trans ?_;apply j_
 case h=>
  show aA _ _ D6 _ _=_;delta D6;exact jE (bL (aF rfl ak) lJ) rfl (qL (fF (anyB (bD rfl (pQ _ _ _)) (gB (bD rfl ec)))) (b9 (am rfl)) (qL (fG (allB (bD rfl (pQ _ _ _)) (all1 (fF (anyB (bX aO (am rfl) C3) (gB (lY (ql (ip (aF rfl ak) rl))))))))) (b9 (am rfl)) (b9 (b4 (b4 (am rfl) rfl (be (be ak)) hl) rfl (be (be ak)) hc))))
 ·rfl
 ·unfold cout;generalize (fX t e==jb||_)=c;generalize (fX t e==gG&&_)=d;induction c<;>induction d<;>rfl
 ·rfl
def YG{t e:PV}(h:Told v H t e)(hx:x.length≤390):(ai 400 (j + 2)).call 31 [.bytes x,v] H=.ok (.bytes (cout (fX t e) (tn e) x)) H:=by
 have lJ:=K4 (j:=j) h;have rl:runC .pure ((ai 400 (j + 1)).call 28) [.bytes x] H=_:=jc rfl (K6 (j:=j) hx) rfl;have hl:dv .replace (.bytes x) [.bytes [13,10],.bytes [10]] H=_:=vu (by exact aq hx rfl);have hc:dv .replace (.bytes (cu x)) [.bytes [10],.bytes [13,10]] H=_:=LB (by have:=vw x;exact aq (aB this hx) rfl);have C3:bU .aG (.bytes [13]) (.bytes x) H=_:=JC x H;refine cG h.g fun gk _ ge=>?_;have ec:bU .ne e (.str fT) H=_:=rM (Zo h.ae H);clear h hx;refine (e_ rfl rfl).trans ?_;apply j_
 case h=>
  show aA _ _ DY _ _=_;delta DY;exact qL (fF (anyB (bX (bL (aF rfl ak) lJ) aO (pQ _ _ _)) (gB (bX (b4 (am rfl) gk (be ak) ge) aO ec)))) (b9 (am rfl)) (qL (fG (allB (bX (bL (aF rfl ak) lJ) aO (pQ _ _ _)) (all1 (fF (anyB (bX aO (am rfl) C3) (gB (lY (ql (ip (aF rfl ak) rl))))))))) (b9 (am rfl)) (b9 (b4 (b4 (am rfl) rfl (be (be ak)) hl) rfl (be (be ak)) hc)))
 ·rfl
 ·unfold cout;generalize (fX t e==jb||_)=c;generalize (fX t e==gG&&_)=d;induction c<;>induction d<;>rfl
 ·rfl
def Um(h:x.contains 13=false):cu x=x:=by
 induction x with
 | nil=>rfl
 | cons b r ih=>rw [mO,N7] at h;unfold cu at ih⊢;rw [qz _ _ _ (by rintro ⟨rfl,_⟩;simp at h),ih h.2]
def Un(h:x.contains 13=false):cu (cz x)=x:=by
 induction x with
 | nil=>rfl
 | cons b r ih=>
  rw [mO,N7] at h;rw [Ad];by_cases hb:b=10
  ·subst hb;rw [if_pos rfl];unfold cu at ih⊢;rw [u4,ih h.2];rfl
  ·rw [if_neg hb];unfold cu at ih⊢;rw [qz _ _ _ (by rintro ⟨rfl,_⟩;simp at h),ih h.2]
def aaf(x:Qy):(cz x).isEmpty=x.isEmpty:=by
 induction x using bj with
 | nil=>rfl
 | cons b r=>rw [Ad];split<;>rfl
def aae(h:x.contains 13=false):iZ (cz x)=iZ x∧iX (cz x)=iX x∧iW (cz x)=iW x:=by
 induction x with
 | nil=>exact ⟨rfl,rfl,rfl⟩
 | cons b r ih=>
  rw [mO,N7] at h;refine cG (ih h.2) fun h1 h2 h3=>?_;rw [Ad];by_cases hb:b=10
  ·subst hb;rw [if_pos rfl];refine ⟨?_,?_,?_⟩
   ·show (fQ 13 (10::cz r)||(fQ 10 (cz r)||iZ (cz r)))=(fQ 10 r||iZ r);rw [h1];rfl
   ·show (if gp 13 (10::cz r) then 1 else 0) + ((if gp 10 (cz r) then 1 else 0) + iX (cz r))=(if gp 10 r then 1 else 0) + iX r;rw [h2];have a1:gp 13 (10::cz r)=false:=rfl;have a2:∀ r,gp 10 r=false:=fun r=>rfl;rw [a1,a2,a2];simp
   ·show (if ir 13 (10::cz r) then 1 else 0) + ((if ir 10 (cz r) then 1 else 0) + iW (cz r))=(if ir 10 r then 1 else 0) + iW r;rw [h3];have a1:ir 13 (10::cz r)=false:=rfl;have a2:∀ r,ir 10 r=false:=fun r=>rfl;rw [a1,a2,a2];simp
  ·rw [if_neg hb];have zv:rC (cz r)=rC r:=aaf r;have fz:bq b 13=false:=by unfold bq;rw [xE];exact h.1
   have o:gp b (cz r)=gp b r:=by unfold gp;rw [zv]
   have p:ir b (cz r)=ir b r:=by unfold ir;rw [o]
   have bd:fQ b (cz r)=fQ b r:=by unfold fQ;rw [fz];rfl
   refine ⟨?_,?_,?_⟩
   ·show (fQ b (cz r)||iZ (cz r))=(fQ b r||iZ r);rw [bd,h1]
   ·show (if gp b (cz r) then 1 else 0) + iX (cz r)=(if gp b r then 1 else 0) + iX r;rw [o,h2]
   ·show (if ir b (cz r) then 1 else 0) + iW (cz r)=(if ir b r then 1 else 0) + iW r;rw [p,h3]
def U7(h:x.contains 13=false):iw (cz x)=iw x:=by refine cG (aae h) fun h1 h2 h3=>?_;unfold iw;rw [h1,h2,h3]
def Pz{h:Qn}{c:Bool}(fz:x.contains 13=false):cin h (cout h c x)=x:=by
 have hl:=Um fz;have J8:=Un fz;have it:=U7 fz;unfold cout cin;rw [hl,fz];generalize (h==jb)=n;generalize (h==gG)=a;induction n with
 | true=>rfl
 | false=>
  induction c with
  | false=>show cond (a&&!iw x) x (cu x)=x;rw [hl];cases (a&&!iw x)<;>rfl
  | true=>
   induction a with
   | false=>exact J8
   | true=>
    show cond (true&&!iw (cond (!iw x) x (cz x))) (cond (!iw x) x (cz x)) (cu (cond (!iw x) x (cz x)))=x;generalize e:(iw x)=zz;induction zz with
    | true=>show cond (!iw (cz x)) _ (cu (cz x))=x;rw [it,e];exact J8
    | false=>show cond (!iw x) x _=x;rw [e];rfl
end
section
noncomputable def oH:List Qy:=[[97],[98,32],[10],[13,10],[10]]
noncomputable def Cj:List Qy:=[[13],[0],[1],[26],[127],[13,13,10],[27,9,233]]
def vx{b:UInt8}(r:Qy)(h:b≠13):cu (b::r)=b::cu r:=by unfold cu;rw [qz _ _ _ fun q=>h q.1]
def Ul(r:Qy):cu (13::10::r)=10::cu r:=by unfold cu;rw [u4];rfl
theorem LQ:∀ {cs:List Qy},(∀ c∈cs,c∈oH)→(cu cs.flatten).contains 13=false
 | [],_=>rfl
 | c::cs,h=>by
  have ih:=LQ (cs:=cs) fun x hx=>h x (bM _ hx);have hc:=h c (bC ..);rw [se];simp only [oH,cA,oP,or_false] at hc;rcases hc with rfl|rfl|rfl|rfl|rfl
  ·show (cu (97::cs.flatten)).contains 13=false;rw [vx _ (by decide),mO,ih];rfl
  ·show (cu (98::32::cs.flatten)).contains 13=false;rw [vx _ (by decide),vx _ (by decide),mO,mO,ih];rfl
  ·show (cu (10::cs.flatten)).contains 13=false;rw [vx _ (by decide),mO,ih];rfl
  ·show (cu (13::10::cs.flatten)).contains 13=false;rw [Ul,mO,ih];rfl
  ·show (cu (10::cs.flatten)).contains 13=false;rw [vx _ (by decide),mO,ih];rfl
theorem My:∀ {l us:Qp},nA (fun _ u=>∃ c∈oH,u=PV.bytes c) l us→∃ cs:List Qy,us=cs.map .bytes∧∀ c∈cs,c∈oH
 | _,_,.nil=>⟨[],rfl,fun _ h=>by cases h⟩
 | _,_,.cons ⟨c,hc,e⟩ q=>by
  refine J (My q) fun cs e' h'=>?_;exact ⟨c::cs,by rw [e,e'];rfl,fun x hx=>by
   rcases cA.mp hx with rfl|hx
   ·exact hc
   ·exact h' x hx⟩
def Z_(h:n≤x.length):cut x none (some (n:Int))=x.take n:=by show (x.drop 0).take (ig x.length (n:Int) - 0)=x.take n;rw [Ah h];rfl
def aab(h:n≤x.length):cut x (some (n:Int)) none=x.drop n:=by show (x.drop (ig x.length (n:Int))).take (x.length - ig x.length (n:Int))=x.drop n;rw [Ah h];exact AX (dM xw)
noncomputable def x6:PS:=.f (.o (.c (.p .ne (.l .aG 16 (.c (.v 5) (.j (.v 1)))) (.l .aG 30 (.c (.v 5) (.j (.v 1))))) (.j (.p .ne (.l .aG 17 (.c (.v 5) (.j (.v 1)))) (.l .aG 31 (.c (.v 5) (.j (.v 1)))))))) (.r (.b false)) .nil .nil
def Cv(a:Qy)(H:Hp):bU .ne (.bytes a) (.bytes a) H=some false:=congrArg (fun b=>some (!b)) (beq_self_eq_true a)
def GE{t e:PV}{p x0 k od:PV}{s:Qy}(h:Told v H t e)(hs:s.length≤390)(he:sl=[some p,some v,some x0,some k,some od,some (.bytes s),none]):
  dJ (ai 400 (j + 2)) 400 x6 sl H=.ok (.next,sl) H:=by
 have a1:=D7 (j:=j) h hs;have a2:=K3 (j:=j) h hs;have a3:=K9 (j:=j) h hs;have a4:=YG (j:=j) h hs;have n1:=Cv (cin (fX t e) s) H;have n2:=Cv (cout (fX t e) (tn e) s) H;subst he;clear h hs;show aA _ _ x6 _ _=_;delta x6;exact b5 (fF (o1 (bX (bL (aF rfl (aF rfl ak)) a1) (bL (aF rfl (aF rfl ak)) a2) n1) (gB (bX (bL (aF rfl (aF rfl ak)) a3) (bL (aF rfl (aF rfl ak)) a4) n2)))) aW aW
theorem I6:∀ {l:List Qy},(∀ c∈l,c∈oH)→l.flatten.length≤2 * l.length
 | [],_=>aS _
 | c::l,h=>by
  have h1:=I6 fun x hx=>h x (bM _ hx);have h2:c.length≤2:=(by decide:∀ c∈oH,c.length≤2) c (h c (bC ..));rw [se,bP,kl];lia
def US{cs:List Qy}(h1:cs.length≤4096)(h2:cs.flatten.length≤16777216)(H:Hp):ml [] (.fl (cs.map .bytes)) H=.ok (.bytes cs.flatten) H:=by have hb:=As (fun b=>b) cs;rw [A4] at hb;show (match bytesOf (cs.map PV.bytes) with|some ps=>_|.none=>R.no)=_;rw [show bytesOf (cs.map PV.bytes)=some cs from hb];show (if _ then R.ok (PV.bytes (je [] cs)) H else R.no)=_;rw [Jn,GM];exact if_pos ⟨h1,by rw [p9,adQ];exact h2,h2⟩
def Gv{tm:Nat}{rest:Hp}{t e:PV}(dk:d.ok tm)(ht:tm≤80000)(hT:∀ d:DS,Told v (d.hp rest) t e):
  ∃ d':DS,(ai 400 (j + 3)).call 32 [.loc 1,v] (d.hp rest)=.ok (.bool true) (d'.hp rest)∧d'.ok (tm + 20):=by
 refine bx (nk (fu:=400) (j:=j + 1) (n:=5) (rest:=rest) dk (by exact aq ht rfl) (by exact eH rfl) (by exact eH rfl)) fun i d1 e1 hi kU=>?_;replace e1:(ai 400 (j + 2)).call 19 [.loc 1,.int 5] (d.hp rest)=.ok (.int i) (d1.hp rest):=e1;have hlen:((dR i).map fun (k:Nat)=>PV.int k).length=i:=by rw [aQ,uu]
 refine bx (vp (elt:=gM (ai 400 (j + 2)) (.call .aG 20 (.cons (.var 1) (.cons (.list false (.cons (.y [97]) (.cons (.y [98,32]) (.cons (.y [10]) (.cons (.y [13,10]) (.cons (.y [10]) .nil)))))) .nil)))) (sl:=[some (.loc 1),some v,none,none,none,none,none]) (rest:=rest)
   (Q:=fun _ u=>∃ c∈oH,u=PV.bytes c) (k:=1) (l:=(dR i).map fun (k:Nat)=>PV.int k) (d:=d1) (t:=tm + 1) (fun w hw d t' h1 h2 dk=>by
    rw [hlen] at h2;refine bx (iO (fu:=400) (j:=j) (rest:=rest) (l:=oH.map .bytes) dk (by lia) (by decide) (by decide)) fun x d' e hx fY=>?_;refine J (b7.mp hx) fun c hc z2=>?_;subst z2;replace e:(ai 400 (j + 2)).call 20 [.loc 1,.fl [.bytes [97],.bytes [98,32],.bytes [10],.bytes [13,10],.bytes [10]]] (d.hp rest)=.ok (.bytes c) (d'.hp rest):=e;exact ⟨.bytes c,d',bL (aF rfl (aX (fJ (vs:=oH.map .bytes) rfl (bw (by decide))) ak)) e,⟨c,hc,rfl⟩,fY⟩) (by exact eH rfl) kU) fun us d2 e2 q kT=>?_
 refine J (My q) fun cs z1=>?_;subst z1;intro Dv;have lI:=q.len;rw [aQ,hlen] at lI;rw [hlen] at kT;have fy:=I6 Dv;have hj:=US (cs:=cs) (by exact aq (aB (dM lI) (gb hi)) rfl) (by exact aq (aB fy (mulL (aB (dM lI) (gb hi)))) rfl) (d2.hp rest);have fz:=LQ Dv;have kJ:(cs.map PV.bytes).length≤aC:=bw (by rw [aQ];exact aq (aB (dM lI) (gb hi)) rfl);generalize cs.flatten=X at *;refine bx (nk (fu:=400) (j:=j + 1) (n:=X.length + 1) (rest:=rest) kT (by exact aq (eS (bc ht) (mulL (gb hi))) rfl) (by exact eH rfl) (by exact aq (bc (aB fy (mulL (aB (dM lI) (gb hi))))) rfl)) fun k d3 e3 hk nq=>?_;replace e3:(ai 400 (j + 2)).call 19 [.loc 1,.int (X.length + 1)] (d2.hp rest)=.ok (.int k) (d3.hp rest):=e3;refine bx (iO (fu:=400) (j:=j) (rest:=rest) (l:=Cj.map .bytes) nq (by exact aq (bc (eS (bc ht) (mulL (gb hi)))) rfl) (by decide) (by decide)) fun x d4 e4 hx mD=>?_;refine J (b7.mp hx) fun o ho z2=>?_;subst z2;have Wa:o.length≤3:=(by decide:∀ c∈Cj,c.length≤3) o ho;replace e4:(ai 400 (j + 2)).call 20 [.loc 1,.fl [.bytes [13],.bytes [0],.bytes [1],.bytes [26],.bytes [127],.bytes [13,13,10],.bytes [27,9,233]]] (d3.hp rest)=.ok (.bytes o) (d4.hp rest):=e4;refine ⟨d4,?_,mD.mono (by exact iK (b8 (b8 (b8 (b8 iM (aS _)) (mulL (gb hi))) (aS _)) (aS _)) rfl)⟩;have hr:=HJ (n:=i) (by exact aq (gb hi) rfl);have hS:(X.take k++o++X.drop k).length≤20:=by rw [bP,bP,kj,xw];lia
 have wg:=hT d4;have L0:X.length≤aC:=bw (by exact aq (aB fy (mulL (aB (dM lI) (gb hi)))) rfl);have s1:gU (.bytes X) .none (.int k) (d3.hp rest)=some (.bytes (X.take k)):=(if_pos L0).trans (congrArg (fun z=>some (PV.bytes z)) (Z_ (n:=k) (by lia)));have s2:gU (.bytes X) (.int k) .none (d4.hp rest)=some (.bytes (X.drop k)):=(if_pos L0).trans (congrArg (fun z=>some (PV.bytes z)) (aab (n:=k) (by lia)));have L1:(X.take k).length + o.length≤aC:=bw (by rw [kj];lia);have L2:(X.take k++o).length + (X.drop k).length≤aC:=bw (by rw [←bP];exact aq hS rfl);have lp:∀ S:Qy,S.length≤20→cQ (dJ (ai 400 (j + 2)) 400 x6) (m6 5) (.fix [.bytes X,.bytes S]) 400 0 [some (.loc 1),some v,some (.bytes X),some (.int k),some (.fl [.bytes [13],.bytes [0],.bytes [1],.bytes [26],.bytes [127],.bytes [13,13,10],.bytes [27,9,233]]),none,none] (d4.hp rest)
   = .ok (.next,[some (.loc 1),some v,some (.bytes X),some (.int k),some (.fl [.bytes [13],.bytes [0],.bytes [1],.bytes [26],.bytes [127],.bytes [13,13,10],.bytes [27,9,233]]),some (.bytes S),none]) (d4.hp rest):=fun S hS=>
  (lG (v:=.bytes X) rfl rfl (GE wg (by lia) rfl)).trans ((lG (v:=.bytes S) rfl rfl (GE wg (by exact aq hS rfl) rfl)).trans (yY rfl))
 replace lp:=lp _ hS;have b1:dv .replace (.bytes X) [.bytes [13,10],.bytes [10]] (d4.hp rest)=_:=vu (x:=X) (by lia);have bl:=vw X;have b2:=K9 (j:=j) wg (x:=cu X) (by lia);have L8:(cout (fX t e) (tn e) (cu X)).length≤390:=by
  unfold cout;have l1:=vw (cu X);have l2:=Ei (cu (cu X));generalize (fX t e==jb||_)=c;generalize (fX t e==gG&&_)=d;induction c with
  | true=>show (cu X).length≤390;lia
  | false=>induction d with
   | true=>show (cu X).length≤390;lia
   | false=>show (cz (cu (cu X))).length≤390;lia
 have b3:=D7 (j:=j) wg L8;rw [Pz fz] at b3;have c1:bU .eq (.bytes (cu X)) (.bytes (cu X)) (d4.hp rest)=some true:=congrArg some (beq_self_eq_true (cu X));have hL:(ur (fun (k:Nat)=>PV.int k) (dR i)).length≤aC:=bw (by rw [hlen];exact aq (gb hi) rfl);clear L8 bl wg hS Wa hx ho hk mD nq fz fy lI kT Dv q kU dk hT ht hi;refine (e_ rfl rfl).trans ?_;apply j_
 case h=>show aA _ _ DX _ _=_;delta DX;exact bQ (b4 aO rfl (aX (ly (tt (bL (aF rfl (be ak)) e1) hr) hL e2 kJ) ak) hj) (jE (cB (aX (bL (aF rfl (aX (bk (jD (aF rfl ak) (Co L0)) aO gY) ak)) e3) (aX (fJ (vs:=Cj.map .bytes) rfl (bw (by decide))) ak))) rfl (lB (fW (cB (aF rfl (aX (bk (bk (nX (am rfl) aO (am rfl) s1) (bL (aF rfl (aF rfl ak)) e4) (jY L1)) (nX (am rfl) (am rfl) aO s2) (jY L2)) ak))) rfl) lp (bQ (b4 (am rfl) rfl (be (be ak)) b1) (b9 (yv (bL (aX (bL (aF rfl (aF rfl ak)) b2) (aF rfl ak)) b3) (am rfl) c1)))))
 all_goals rfl
end
section
def aac{x:List α}(h:x.length≤1000):cut x none (some (n:Int))=x.take n:=by have c1:ig x.length (n:Int)=min n x.length:=Aj _ _;show (x.drop 0).take (ig x.length (n:Int) - 0)=_;rw [c1];exact List.take_eq_take_min.symm
noncomputable def ZT:PS:=.g 2 (.q .mod false (.q .add false (.q .add false (.q .mul false (.v 2) (.i 48271)) (.q .mod false (.v 3) (.i 2147483629))) (.i 35)) (.i 2147483587)) .nil
def Z3{l:List Int}(hl:l.length≤100):
  ∃ (M:Int) (s3:Qq),0≤M∧M < 2147483648∧cQ (dJ O 400 ZT) (m6 3) (.fix (l.map .int)) 400 0 [s0,s1,some (.int 3535),none] []=.ok (.next,[s0,s1,some (.int M),s3]) []:=by
 refine n_ (l:=l.map .int) (fun i sl H=>∃ (M:Int) (s3:Qq),0≤M∧M < 2147483648∧sl=[s0,s1,some (.int M),s3]∧H=[]) (fun r=>∃ (M:Int) (s3:Qq),0≤M∧M < 2147483648∧r=.ok (.next,[s0,s1,some (.int M),s3]) []) ?_ ?_ 400 0 _ _ (cE _) (by rw [aQ];exact iI hl rfl) ⟨3535,none,by decide,by decide,rfl,rfl⟩
 ·intro i v sl H hv cr;refine cO cr fun M s3 h0 h1 e1 e2=>?_;clear cr;refine ay (cF.mp hv) fun hi hv=>?_;rw [oR] at hv;rw [aQ] at hi;generalize l[i]=c at *;refine ⟨[s0,s1,some (.int M),some (.int c)],by rw [←hv,e1];rfl,?_⟩;rw [e2];have hr:=zU (M * 48271 + c.fmod 2147483629 + 35) 2147483587 (by decide);have Ru:small M=true:=yf h0 (by exact iV h1 rfl);exact ja (bQ (bk (bk (bk (bk (am rfl) aO (kD Ru rfl)) (bk (am rfl) aO (jX (by decide))) gY) aO gY) aO (jX (by decide))) aW) ⟨_,_,hr.1,by exact iV (And.right hr) rfl,rfl,rfl⟩
 ·rintro sl H ⟨M,s3,h0,h1,rfl,rfl⟩;exact ⟨M,s3,h0,h1,rfl⟩
def Va{l:List Int}:fm (iD O .nil) (gM O (.bi .int (.cons (.var 0) .nil))) sl (l.map .int) H=.ok (l.map .int) H:=by
 have hm:=m4 (test:=iD O .nil) (elt:=gM O (.bi .int (.cons (.var 0) .nil))) (sl:=sl) (H:=H) (p:=fun _=>true) (g:=fun v=>v) (l:=l.map .int) (fun _ _=>rfl) (fun v hv _=>by
  refine J (b7.mp hv) fun c _ z2=>?_;subst z2;exact jD (aF rfl ak) rfl)
 rw [hm,Fz.mpr (fun _ _=>rfl),A4]
def Z2{xs:List Int}(hx:xs.length≤1000):∃ d:DS,(ai 400 (j + 1)).call 18 [.fl (xs.map .int)] []=.ok (.loc 1) (d.hp [])∧d.ok 0:=by
 have hl:(xs.take 24).length≤24:=by rw [kj];lia
 refine bx (Z3 (O:=ai 400 j) (s0:=some (.fl (xs.map .int))) (s1:=some (.fl ((xs.take 24).map .int))) (l:=xs.take 24) (by exact aq hl rfl)) fun M s3 h0 h1 e=>?_;refine ⟨⟨(xs.take 24).reverse,M,0⟩,?_,h0,h1,aeP _,aeP _,by simp;lia⟩;have jg:((xs.take 24).map PV.int).length≤aC:=bw (by rw [aQ];exact aq hl rfl);have Vv:(xs.map PV.int).length≤aC:=bw (by rw [aQ];exact aq hx rfl);have hs:gU (.fl (xs.map PV.int)) .none (.int 24) []=some (.fl ((xs.take 24).map .int)):=(if_pos Vv).trans (congrArg (fun z=>some (PV.fl z)) ((aac (n:=24) (by rw [aQ];exact hx)).trans List.map_take.symm));have ic:=Va (O:=ai 400 j) (sl:=[some (.fl (xs.map .int)),none,none,none]) (l:=xs.take 24) (H:=[]);have tA:((xs.take 24).map PV.int).reverse.length≤aC:=by rw [i6];exact jg
 generalize xs.take 24=ys at *;generalize xs.map PV.int=zs at *;refine (e_ rfl rfl).trans ?_;apply j_
 case h=>
  delta K8;exact jE (cB (aX (ly (fW (nX (am rfl) aO aO hs) rfl) jg ic jg) (be ak))) rfl (lB (fW (am rfl) rfl) e (b9 (qD (aX (RZ (am rfl) rfl tA) (aF rfl (be ak))) rfl)))
 ·rfl
 ·rfl
 ·delta DS.hp;rw [A2];rfl
def BX{l:List α}{x z:α}:(l++[x]).set l.length z=l++[z]:=by refine (Fp _ _ (aS _)).trans ?_;rw [xl];rfl
def Mi:mf (ai 400 (j + 1)) 2 [] H=.ok (.loc H.length) (H++[.inst 2 [(fM,.loc (H.length + 1)),(fV,.loc (H.length + 2))],.list [],.dict M0]):=by
 have lt:∀ x:PO,H.length < (H++[x]).length:=fun x=>by rw [bP];exact xo _
 have Qb:∀ v,jS (.loc H.length) fM v ((H++[.inst 2 []])++[.list []])=.ok () ((H++[.inst 2 [(fM,v)]])++[.list []]):=fun v=>(Il (oq Fw) (by decide)).trans (by rw [yk (lt _),BX];rfl);have P_:∀ u v,jS (.loc H.length) fV v ((H++[.inst 2 [(fM,u)]])++[.list []]++[.dict M0])=.ok () ((H++[.inst 2 [(fM,u),(fV,v)]])++[.list []]++[.dict M0]):=fun u v=>(Il (d:=[(fM,u)]) (oq (oq Fw)) (show 1 < aC by decide)).trans (by rw [dz,yk (lt _),BX,←dz];rfl);have key:(ai 400 (j + 1)).init 2 [.loc H.length] (H++[.inst 2 []])=.ok .none (H++[.inst 2 [(fM,.loc (H.length + 1)),(fV,.loc (H.length + 2))],.list [],.dict M0]):=by
  refine congrArg qP (a₂:=.ok .none _) ?_;apply Ex
  case h=>
   delta i2;exact H8 (o8 ak (cE _)) (am rfl) (Qb _) (H8 (qD (vs:=[.fl [.tup [.str sU,.bool false],.tup [.str yo,.bool false],.tup [.str dO,.bool false]]]) rfl rfl) (am rfl) (P_ _ _) aW)
  ·rfl
  ·rw [bP,bP,bP,dz,dz];rfl
 show (cV ((ai 400 (j + 1)).init 2 [.loc H.length] (H++[.inst 2 []]))).bind _=_;rw [key];rfl
theorem EP{H:Hp}{n:Nat}:∀ {l:Qp},dU l=true→eR (l.map (cD H n))=some l
 | [],_=>rfl
 | v::l,h=>by
  rw [da,zL (aL h)];exact congrArg (jq (v::·)) (EP (aR h))
def aao{es:Qf}(he:eV es):dU (cK es)=true:=by
 rw [Af];have:∀ l:Qf,(∀ e∈l,MW e)→dU (l.map gL)=true:=by
  intro l;induction l with
  | nil=>intro _;rfl
  | cons e l ih=>
   intro h;refine cG (h e (bC ..)) fun c1 c2 c3=>?_;have hp:eJ (gL e)=true:=by show jV (fieldsOf (eP e) (eF e) (.fl (bv (eT e))))=true;refine (HC _ _ c1 _ c2).trans ?_;rw [uR c3.2];rfl
   show (eJ _&&dU _)=true;rw [hp];exact ih fun x hx=>h x (bM _ hx)
 exact this _ (Al he)
def T2{M:MT}(h:jn M):jV (dw M)=true:=by
 induction M with
 | nil=>rfl
 | cons p M ih=>have h0:=uR (h p (bC ..)).2;show (dU (bv p.2)&&jV (dw M))=true;rw [h0];exact ih fun x hx=>h x (bM _ hx)
def abw(h:b=true):(b&&true)=true:=by rw [h];rfl
def Uy{es:Qf}(he:eV es):dU (dI es)=true:=by
 rw [yZ];have:∀ l:Qf,(∀ e∈l,nv (eT e))→dU (l.map kG)=true:=by
  intro l;induction l with
  | nil=>intro _;rfl
  | cons e l ih=>
   intro h;have h0:=uR (h e (bC ..)).2;have hp:eJ (kG e)=true:=by induction e<;>exact abw h0
   show (eJ _&&dU _)=true;rw [hp];exact ih fun x hx=>h x (bM _ hx)
 exact this _ fun e hm=>by
  refine J (he e (jr.mp hm).1) fun f _ h0=>?_;exact tP h0
def Yj{G:TL}(h:lS G):kN (G.map (·.2))=true:=by
 have:∀ l:TL,(∀ x∈l,cM x.2)→kN (l.map (·.2))=true:=by
  intro l;induction l with
  | nil=>intro _;rfl
  | cons x l ih=>
   intro h;have h0:nh x.2=true:=by have:=h x (bC ..);generalize x.2=v at this⊢;induction this<;>rfl
   show (nh x.2&&kN _)=true;rw [h0];exact ih fun y hy=>h y (bM _ hy)
 exact this G h.2
def KJ{a b:Nat}{es:Qf}(he:eV es)(h1:H[n]?=some (.inst 2 [(fM,.loc a),(fV,.loc b)]))(h2:H[a]?=some (.list (cK es)))(h3:H[b]?=some (.dict (iB es))):cD H 4 (.loc n)=some (fI (cK es) (fb es)):=by
 have e2:cD H 3 (.loc a)=some (.fl (cK es)):=by show wu H 2 H[a]?=_;rw [h2];exact congrArg (jq PV.fl) (EP (aao he))
 have e3:cD H 3 (.loc b)=some (.fd (dw (fb es))):=by show wu H 2 H[b]?=_;rw [h3,aaq];exact congrArg (jq PV.fd) (ES (T2 (vm he).1))
 show wu H 3 H[n]?=_;rw [h1];show (lP [(fM,cD H 3 (.loc a)),(fV,cD H 3 (.loc b))]).map (PV.fi 2)=_;rw [e2,e3];rfl
def L5{es:Qf}{p:Qy}(hp:p∈iP)(he:eV es)(hl:es.length≤6):
  ∃ G nn,pm (fb es) nn (j1 p es).reverse []=some G∧lS G∧G.length≤100∧
   (∀ H n,cD H 4 (.loc n)=some (fI (cK es) (fb es))→runC .jI ((ai 400 (j + 6)).own 2 5) [.loc n,.bytes p] H=.ok (.fd G) H)∧
   (∀ H n,H[n]?=some (.list (dI es))→runC .jI ((ai 400 (i + 4)).call 26) [.loc n,.bytes p] H=.ok (.fd G) H):=by
 refine uJ (of_ok (j:=j) hp he hl) fun G nn rows eN h1 e1=>?_;refine bx (Pd (j:=i) hp he hl) fun G' pi h2 hn e2=>?_;have hg:=H1 h1 h2;subst hg;have q6:=H3 (vm he).1 (fun x hx=>I8 he p x (p8.mp hx)) ⟨by simp,by simp⟩ h2;have ff:=Yj q6.1;refine ⟨G,nn,h1,q6.1,by have:=q6.2;simp at this;exact aB this hn,fun H n hf=>?_,fun H n hL=>?_⟩
 ·exact Im (show eR [cD H 4 (.loc n),some (.bytes p)]=_ by rw [hf];rfl) e1 (if_pos ff)
 ·have hf:cD H 4 (.loc n)=some (.fl (dI es)):=by
   show wu H 3 H[n]?=_;rw [hL];exact congrArg (jq PV.fl) (EP (Uy he))
  exact Im (show eR [cD H 4 (.loc n),some (.bytes p)]=_ by rw [hf];rfl) e2 (if_pos ff)
end
section
def vW(d:DS)(r l:Hp):d.hp r++l=d.hp (r++l):=rfl
def V_(d:DS)(es:Qf)(r:Hp):(d.hp (stH es r)).length=r.length + 6:=rfl
def JY(d:DS)(r:Hp)(x:PO):(d.hp (r++[x]))[r.length + 2]?=some x:=(show (d.hp (r++[x]))[r.length + 2]?=(r++[x])[r.length]? from rfl).trans Fw
def V4(d:DS)(r:Hp)(x y:PO):(d.hp (r++[x])).set (r.length + 2) y=d.hp (r++[y]):=congrArg d.hp BX
noncomputable def EZ:PS:=.g 5 (.dict true [[116,101,120,116]] (.j (.l .aG 20 (.c (.v 1) (.j (.list false (.c (.b true) (.c (.b false) (.c .w (.c (.s [97,117,116,111]) (.c (.s [97,117,116,111]) (.j (.s [118]))))))))))))) (.gF (.v 5) (.s [101,111,108]) (.l .aG 20 (.c (.v 1) (.j (.list false (.c (.s [108,102]) (.c (.s [99,114,108,102]) (.c (.s [99,114,108,102]) (.c .w (.j (.b true)))))))))) (.r (.l .aG 32 (.c (.v 1) (.j (.v 5))))))
def LT:PS:=.f (.p .eq (.l .aG 19 (.c (.v 1) (.j (.i 4)))) (.i 0)) (.g 7 (.q .add false (.q .mul false (.y [97]) (.l .aG 20 (.c (.v 1) (.j (.list false (.c (.i 127) (.j (.i 128)))))))) (.y [1,13,10])) (.f (.p .ne (.l .aG 16 (.c (.v 7) (.j (.dict false [[116,101,120,116]] (.j (.s [97,117,116,111])))))) (.l .aG 30 (.c (.v 7) (.j (.dict false [[116,101,120,116]] (.j (.s [97,117,116,111]))))))) (.r (.b false)) .nil .nil)) .nil EZ
def uO:Qp:=[.bool true,.bool false,.none,.str gG,.str gG,.str [118]]
def Aa:Qp:=[.str jB,.str fT,.str fT,.none,.bool true]
def mF{x:PV}(h:cM x)(hl:∀ v∈l,cM v):∀ v∈x::l,cM v:=fun v hv=>(cA.mp hv).elim (fun e=>e ▸ h) (hl v)
def Mj:∀ v∈([]:Qp),cM v:=fun _ h=>nomatch h
def O3:∀ v∈uO,cM v:=mF (.bool _) (mF (.bool _) (mF .none (mF (.str _) (mF (.str _) (mF (.str _) Mj)))))
def ZH:∀ v∈Aa,cM v:=mF (.str _) (mF (.str _) (mF (.str _) (mF .none (mF (.bool _) Mj))))
def GH{rest:Hp}(dk:d.ok t)(ht:t≤70000):
  ∃ aE H',aA (ai 400 (j + 8)) 400 EZ [s0,some (.loc 1),s2,s3,s4,s5,s6,s7] (d.hp rest)=.ok (.ret (.bool true),aE) H':=by
 refine bx (iO (fu:=400) (j:=j + 6) (rest:=rest) (l:=uO) dk (by exact aq ht rfl) (xx _ _) (by decide)) fun tv d1 e1 VM kU=>?_;refine bx (iO (fu:=400) (j:=j + 6) (rest:=rest++[.dict [(dO,tv)]]) (l:=Aa) kU (by exact aq (bc ht) rfl) (xx _ _) (by decide)) fun ev d2 e2 kL kT=>?_;replace e1:(ai 400 (j + 8)).call 20 [.loc 1,.fl uO] (d.hp rest)=.ok tv (d1.hp rest):=e1;replace e2:(ai 400 (j + 8)).call 20 [.loc 1,.fl Aa] (d1.hp (rest++[.dict [(dO,tv)]]))=.ok ev (d2.hp (rest++[.dict [(dO,tv)]])):=e2;have hT:∀ d:DS,Told (.loc (rest.length + 2)) (d.hp (rest++[.dict [(dO,tv),(l_,ev)]])) tv ev:=fun d=>⟨⟨[(dO,tv),(l_,ev)],Xp (JY ..),rfl,rfl⟩,O3 _ VM,ZH _ kL⟩;refine J (Gv (j:=j + 5) kT (by exact aq (bc (bc ht)) rfl) hT) fun d3 e3 nq=>?_;replace e3:(ai 400 (j + 8)).call 32 [.loc 1,.loc (rest.length + 2)] (d2.hp (rest++[.dict [(dO,tv),(l_,ev)]]))=.ok (.bool true) (d3.hp (rest++[.dict [(dO,tv),(l_,ev)]])):=e3;refine ⟨[s0,some (.loc 1),s2,s3,s4,some (.loc (rest.length + 2)),s6,s7],d3.hp (rest++[.dict [(dO,tv),(l_,ev)]]),?_⟩;have st:=(yH (k:=l_) (v:=ev) (JY d2 rest (.dict [(dO,tv)])) (show 1 < aC by decide)).trans (by rw [V4]);delta EZ;have w1:bB (ai 400 (j + 8)) (.cons (.var 1) (.cons (.list false (.cons (.b true) (.cons (.b false) (.cons (.cst .none) (.cons (.s [97,117,116,111]) (.cons (.s [97,117,116,111]) (.cons (.s [118]) .nil))))))) .nil)) [s0,some (.loc 1),s2,s3,s4,s5,s6,s7] (d.hp rest)=.ok [.loc 1,.fl uO] (d.hp rest):=aF rfl (aX (fJ (vs:=uO) rfl (bw (by decide))) ak);have g1:ao (ai 400 (j + 8)) (.dict true [[116,101,120,116]] (.cons (.call .aG 20 (.cons (.var 1) (.cons (.list false (.cons (.b true) (.cons (.b false) (.cons (.cst .none) (.cons (.s [97,117,116,111]) (.cons (.s [97,117,116,111]) (.cons (.s [118]) .nil))))))) .nil))) .nil)) [s0,some (.loc 1),s2,s3,s4,s5,s6,s7] (d.hp rest)=.ok (.loc (rest.length + 2)) (d1.hp (rest++[.dict [(dO,tv)]])):=qD (H₁:=d1.hp rest) (vs:=[tv]) (aX (bL w1 e1) ak) rfl;exact bQ g1 (qK (bL (aF rfl (aX (fJ (vs:=Aa) rfl (bw (by decide))) ak)) e2) (am rfl) aO st (b9 (bL (aF rfl (aF rfl ak)) e3)))
def PI{rest:Hp}(dk:d.ok t)(ht:t≤60000):
  ∃ aE H',aA (ai 400 (j + 8)) 400 LT [s0,some (.loc 1),s2,s3,s4,s5,s6,s7] (d.hp rest)=.ok (.ret (.bool true),aE) H':=by
 refine bx (nk (fu:=400) (j:=j + 7) (n:=4) (rest:=rest) dk (by exact aq ht rfl) (by exact eH rfl) (by exact eH rfl)) fun a d1 e1 ha kU=>?_;replace e1:(ai 400 (j + 8)).call 19 [.loc 1,.int 4] (d.hp rest)=.ok (.int a) (d1.hp rest):=e1;by_cases pH:a=0
 ·subst pH;refine bx (iO (fu:=400) (j:=j + 6) (rest:=rest) (l:=[.int 127,.int 128]) kU (by exact aq (bc ht) rfl) (xx _ _) (by decide)) fun x d2 e2 hx kT=>?_;replace e2:(ai 400 (j + 8)).call 20 [.loc 1,.fl [.int 127,.int 128]] (d1.hp rest)=.ok x (d2.hp rest):=e2;obtain ⟨n,hn,rfl⟩:∃ n:Nat,(n=127∨n=128)∧x=.int n:=by
   exact (cA.mp hx).elim (fun e=>⟨127,.inl rfl,e⟩) fun h=>⟨128,.inr rfl,bZ.mp h⟩
  have hT:Told (.fd [(dO,.str gG)]) (d2.hp rest) (.str gG) .none:=⟨⟨_,rfl,rfl,rfl⟩,.str _,.none⟩;have hm:Cx false (.bytes [97]) (n:Int) (d2.hp rest)=.ok (.bytes (gC n [97]).flatten) (d2.hp rest):=by show (if 0≤(n:Int)∧(n:Int) < 4096∧([97]:Qy)≠[]∧([97]:Qy).length≤16 then R.ok (PV.bytes (gC (n:Int).toNat [97]).flatten) (d2.hp rest) else R.no)=_;rw [if_pos ⟨by exact xz _,by lia,by simp,by simp⟩];rfl
  have hl:((gC n ([97]:Qy)).flatten).length=n:=by simp
  generalize (gC n ([97]:Qy)).flatten=Z at *;have jg:(Z++[1,13,10]).length≤390:=by rw [bP];simp;lia
  have a1:=D7 (j:=j + 6) hT jg;have a2:=K3 (j:=j + 6) hT jg;replace a1:(ai 400 (j + 8)).call 16 [.bytes (Z++[1,13,10]),.fd [(dO,.str gG)]] (d2.hp rest)=_:=a1;replace a2:(ai 400 (j + 8)).call 30 [.bytes (Z++[1,13,10]),.fd [(dO,.str gG)]] (d2.hp rest)=_:=a2;refine eB (GH (j:=j) (rest:=rest) (s0:=s0) (s2:=s2) (s3:=s3) (s4:=s4) (s5:=s5) (s6:=s6) (s7:=some (.bytes (Z++[1,13,10]))) kT (by exact aq (bc (bc ht)) rfl)) fun aE H' e3=>?_;refine ⟨aE,H',?_⟩;delta LT;exact kz (bX (bL (aF rfl (be ak)) e1) aO (tU rfl)) (bQ (bk (bk aO (bL (aF rfl (aX (fJ (vs:=[.int 127,.int 128]) rfl (bw (by decide))) ak)) e2) hm) aO (jY (bw (aB (dM (bP (as:=Z) (bs:=[1,13,10])).symm) (aB jg (by decide))))))
   (b5 (bX (bL (aF rfl (aX (B8 (vs:=[.str gG]) rfl rfl) ak)) a1) (bL (aF rfl (aX (B8 (vs:=[.str gG]) rfl rfl) ak)) a2) (Cv _ _)) aW aW)) e3
 ·refine eB (GH (j:=j) (rest:=rest) (s0:=s0) (s2:=s2) (s3:=s3) (s4:=s4) (s5:=s5) (s6:=s6) (s7:=s7) kU (by exact aq (bc ht) rfl)) fun aE H' e3=>?_;exact ⟨aE,H',b5 (bX (bL (aF rfl (be ak)) e1) aO (tT (fun q=>pH (Int.ofNat.inj q)))) aW e3⟩
end
section
noncomputable def u7:Qy:=[42,32,120,32,98,105,110,97,114,121]
noncomputable def u6:Qy:=[42,32,45,120,32,120,61,49,32,45,98,105,110,97,114,121]
def qt:TL:=[([120],.bool true),(lx,.bool true)]
def qs:TL:=[([120],.bool false),([120],.str [49]),(lx,.bool false)]
def kQ:Qf:=[.rule [] [42] qt,.rule [] [42] qs]
def Li:eV kQ:=by
 intro e he;simp only [kQ,cA,oP,or_false] at he;rcases he with rfl|rfl
 ·exact ⟨[],by decide +kernel,rfl,by decide +kernel,by decide,fun x hx=>by simp [qt] at hx;rcases hx with rfl|rfl<;>constructor⟩
 ·exact ⟨[],by decide +kernel,rfl,by decide +kernel,by decide,fun x hx=>by simp [qs] at hx;rcases hx with rfl|rfl|rfl<;>constructor⟩
def Uk:Line [] u7 (.rule (gL (.rule [] [42] qt))):=
 .rule (a:=42) (m:=[32,120,32,98,105,110,97,114,121]) (by decide +kernel) (by decide) (by decide) fun j self H=>by
  show (ai 400 (j + 6)).own 2 3 [self,.bytes [42,32,120,32,98,105,110,97,114,121],.bytes []] H=.ok (gL (.rule [] [42] qt)) H;kernel_rfl
def Uj:Line [] u6 (.rule (gL (.rule [] [42] qs))):=
 .rule (a:=42) (m:=[32,45,120,32,120,61,49,32,45,98,105,110,97,114,121]) (by decide +kernel) (by decide) (by decide) fun j self H=>by
  show (ai 400 (j + 6)).own 2 3 [self,.bytes [42,32,45,120,32,120,61,49,32,45,98,105,110,97,114,121],.bytes []] H=.ok (gL (.rule [] [42] qs)) H;kernel_rfl
def abE:∃ x y,(ai 400 (j + 7)).own 2 1 [.loc H.length,.bytes [],.bytes [42,32,120,32,98,105,110,97,114,121,10,42,32,45,120,32,120,61,49,32,45,98,105,110,97,114,121,10]]
  (H++[.inst 2 [(fM,.loc (H.length + 1)),(fV,.loc (H.length + 2))],.list [],.dict M0])
   = .ok .none (H++[.inst 2 [(fM,.loc (H.length + 1)),(fV,.loc (H.length + 2))],.list (cK kQ),.dict (iB kQ),x,y]):=by
 have key:=ET (j:=j) (n:=H.length) (a:=H.length + 1) (b:=H.length + 2) (H:=H++[.inst 2 [(fM,.loc (H.length + 1)),(fV,.loc (H.length + 2))],.list [],.dict M0]) (f:=[])
  (oc:=[42,32,120,32,98,105,110,97,114,121,10,42,32,45,120,32,120,61,49,32,45,98,105,110,97,114,121,10])
  (ls:=[(u7,.rule (gL (.rule [] [42] qt))),(u6,.rule (gL (.rule [] [42] qs))),([],.skip)]) (R:=[]) (M:=M0) (by simp) (by simp) (by simp) (by lia) (by lia) (by lia)
  (fun x hx=>by
   simp only [cA,oP,or_false] at hx;rcases hx with rfl|rfl|rfl
   ·exact ⟨Uk,by simp [u7]⟩
   ·exact ⟨Uj,by simp [u6]⟩
   ·exact ⟨.none rfl,by simp⟩) (by simp) (by decide +kernel) (by simp) (by simp) (by simp [gr,M0])
 rw [if_neg (by simp [isBad])] at key;rw [key];have hr:iJ ([(u7,fS.rule (gL (.rule [] [42] qt))),(u6,.rule (gL (.rule [] [42] qs))),([],.skip)].map (·.2))=cK kQ:=rfl;have hm:gr ([(u7,fS.rule (gL (.rule [] [42] qt))),(u6,.rule (gL (.rule [] [42] qs))),([],.skip)].map (·.2))=[]:=rfl;have hc:iB kQ=putAll M0 []:=rfl;rw [hr,hm,hc];have s1:∀ x y z w:PO,(H++[x,y,z]).set (H.length + 1) w=H++[x,w,z]:=fun x y z w=>by simp
 have s2:∀ x y z w:PO,(H++[x,y,z]).set (H.length + 2) w=H++[x,y,w]:=fun x y z w=>by simp
 rw [s1,s2];exact ⟨.list (cK kQ),.list (gs []),by simp⟩
def Sm:pm (fb kQ) 30 (j1 [97] kQ).reverse []=some [(lx,.bool false),([120],.str [49])]:=by kernel_rfl
noncomputable def AJ:PS:=.g 5 (.own .jI 5 (.v 2) (.j (.v 6))) (.f (.o (.c (.p .ne (.v 5) (.l .jI 26 (.c (.v 3) (.j (.v 6))))) (.j (.p .ne (.comp false (.v 0) (.vals (.v 5)) (.j (.d (.c (.p .eq (.v 0) (.i 1)) (.j (.p .iQ (.v 0) (.b true))))))) (.list false .nil))))) (.r (.b false)) .nil .nil)
def OP{G:TL}(h:lS G):fm (iD O (.cons (.iF (.cons (.cmp .eq (.var 0) (.i 1)) (.cons (.cmp .iQ (.var 0) (.b true)) .nil))) .nil)) (gM O (.var 0)) sl (G.map (·.2)) H=.ok [] H:=by
 have hm:=m4 (test:=iD O (.cons (.iF (.cons (.cmp .eq (.var 0) (.i 1)) (.cons (.cmp .iQ (.var 0) (.b true)) .nil))) .nil)) (elt:=gM O (.var 0)) (sl:=sl) (H:=H) (p:=fun _=>false) (g:=fun v=>v) (l:=G.map (·.2)) (fun v hv=>by
  refine J (b7.mp hv) fun x hx z2=>?_;subst z2;have:=h.2 x hx;generalize x.2=v at this⊢;induction this with
  | none=>exact all1 (fG (mU (bD rfl rfl)))
  | bool b=>induction b with
   | true=>exact all1 (fG (qo (bD rfl rfl) (mU (bD rfl rfl))))
   | false=>exact all1 (fG (mU (bD rfl rfl)))
  | str s=>exact all1 (fG (mU (bD rfl rfl)))) (fun v hv hp=>by injection hp)
 rw [hm,aeu.mpr (fun _ _=>cN)];rfl
def Su{es:Qf}{p:Qy}(hp:p∈iP)(he:eV es)(hl:es.length≤6)(h2:H[2]?=some oI)(h3:H[3]?=some (.list (cK es)))(h4:H[4]?=some (.dict (iB es)))(h5:H[5]?=some (.list (dI es))):
  ∃ G,lS G∧dJ (ai 400 (j + 8)) 400 AJ [s0,s1,some (.loc 2),some (.loc 5),s4,s5,some (.bytes p),s7] H=.ok (.next,[s0,s1,some (.loc 2),some (.loc 5),s4,some (.fd G),some (.bytes p),s7]) H:=by
 refine i_ (L5 (j:=j + 2) (i:=j + 4) hp he hl) fun G nn _ hG XE e1 e2=>?_;have a1:=e1 H 2 (KJ he h2 h3 h4);have a2:=e2 H 5 h5;replace a1:runC .jI ((ai 400 (j + 8)).own 2 5) [.loc 2,.bytes p] H=.ok (.fd G) H:=a1;replace a2:runC .jI ((ai 400 (j + 8)).call 26) [.loc 5,.bytes p] H=.ok (.fd G) H:=a2;have dn:bU .ne (.fd G) (.fd G) H=some false:=congrArg (jq (!·)) (ZZ hG);have vc:=OP (O:=ai 400 (j + 8)) (sl:=[s0,s1,some (.loc 2),some (.loc 5),s4,some (.fd G),some (.bytes p),s7]) (H:=H) hG;have gl:(G.map (·.2)).length≤aC:=bw (by rw [aQ];exact aq XE rfl);refine ⟨G,hG,?_⟩;show aA _ _ AJ _ _=_;delta AJ;exact bQ (qB (am rfl) (ri h2) rfl (aF rfl ak) a1) (b5 (fF (o1 (bX (am rfl) (ip (aF rfl (aF rfl ak)) a2) dn)
  (gB (bX (ly (Vl (am rfl)) gl vc (cE _)) (fJ ak (cE _)) rfl)))) aW aW)
noncomputable def MK:PS:=.f (.n (.l .aG 27 (.c (.v 1) (.c (.v 2) (.j (.v 3)))))) (.r (.b false)) .nil .nil
def B4{es:Qf}(dk:d.ok t)(ht:t≤50000)(cZ:eV es)(hl:es.length≤20):
  ∃ (d':DS) (j7:Qf) (mV:Hp),dJ (ai 400 (j + 8)) 400 MK [s0,some (.loc 1),some (.loc 2),some (.loc 5),s4,s5,s6,s7] (d.hp (stH es bF))=.ok (.next,[s0,some (.loc 1),some (.loc 2),some (.loc 5),s4,s5,s6,s7]) (d'.hp (stH j7 mV))∧eV j7∧j7.length≤es.length + 2∧mV.length=bF.length + 3∧d'.ok (t + 1000):=by
 refine ik (abA (j:=j) (bF:=bF) dk ht cZ hl) fun d' j7 mV e h=>?_;exact ⟨d',j7,mV,b5 (lY (t:=true) (ql (bL (aF rfl (aF rfl (aF rfl ak))) e))) aW aW,h⟩
def Ss:∀ p∈([[97],[98]]:List Qy),[100,47]++p∈iP:=by decide
def Sr:∀ p∈([[120,46,98],[100,47,101,47,46,98],[101,47,100,47,97]]:List Qy),p∈iP:=by decide
def Ph{G:TL}(h:lS G)(H:Hp):∃ t e,∀ H,Told (.fd G) H t e:=by
 have ha:∀ k,cM ((look k G).getD .none):=fun k=>by
  generalize e:(look k G)=zz;induction zz using az with
  | none=>exact .none
  | some v=>exact h.2 _ (yW e)
 exact ⟨_,_,fun H=>⟨⟨G,rfl,rfl,rfl⟩,ha _,ha _⟩⟩
end
section
def Uu{xs:List Int}(hx:xs.length≤1000):∃ H,(ai 400 (j + 9)).call 33 [.fl (xs.map .int)] []=.ok (.bool true) H:=by
 refine J (Z2 (j:=j + 7) hx) fun d0 e0 ZV=>?_;replace e0:(ai 400 (j + 8)).call 18 [.fl (xs.map .int)] []=.ok (.loc 1) (d0.hp []):=e0;have n0:mf (ai 400 (j + 8)) 2 [] (d0.hp [])=.ok (.loc 2) (d0.hp [oI,.list [],.dict M0]):=Mi (j:=j + 7) (H:=d0.hp []);have h0:∀ d:DS,d.hp [oI,.list [],.dict M0]++[.list []]=d.hp (stH [] []):=fun d=>rfl;have l0:∀ d:DS,(d.hp [oI,.list [],.dict M0]).length=5:=fun d=>rfl;generalize xs.map PV.int=lu at *;refine xL (B4 (j:=j) (es:=[]) (bF:=[]) (s0:=some (.fl lu)) (s4:=some (.int 0)) (s5:=none) (s6:=none) (s7:=none) ZV (by exact eH rfl) (fun e he=>nomatch he) (cE _)) fun d1 Zl Pp r1 SS tj lt1 kU=>?_;refine xL (B4 (j:=j) (es:=Zl) (bF:=Pp) (s0:=some (.fl lu)) (s4:=some (.int 1)) (s5:=none) (s6:=none) (s7:=none) kU (by exact eH rfl) SS (by rw [p9] at tj;exact aq tj rfl)) fun d2 Zk Po r2 SR I9 lt2 kT=>?_;refine xL (B4 (j:=j) (es:=Zk) (bF:=Po) (s0:=some (.fl lu)) (s4:=some (.int 2)) (s5:=none) (s6:=none) (s7:=none) kT (by exact eH rfl) SR (by rw [p9] at tj;exact aq (aB I9 (bc (aB tj (bc (aS _))))) rfl)) fun d3 es tm r3 SQ Uq lt3 nq=>?_;have cZ:es.length≤6:=by rw [p9] at tj;exact aq (aB Uq (bc (aB I9 (bc (aB tj (bc (aS _))))))) rfl
 have T9:cQ (dJ (ai 400 (j + 8)) 400 MK) (m6 4) (.fix [.int 0,.int 1,.int 2]) 400 0 [some (.fl lu),some (.loc 1),some (.loc 2),some (.loc 5),none,none,none,none] (d0.hp (stH [] []))
   = .ok (.next,[some (.fl lu),some (.loc 1),some (.loc 2),some (.loc 5),some (.int 2),none,none,none]) (d3.hp (stH es tm)):=by
  exact (lG (v:=.int 0) rfl rfl r1).trans ((lG (v:=.int 1) rfl rfl r2).trans ((lG (v:=.int 2) rfl rfl r3).trans (yY rfl)))
 have rg:ma (.int 3)=some (.fix [.int 0,.int 1,.int 2]):=rfl;refine bx (iO (fu:=400) (j:=j + 6) (rest:=stH es (tm++[.dict []])) (l:=([[97],[98]]:List Qy).map .bytes) nq (by exact eH rfl) (by decide) (by decide)) fun x d4 e4 ze mD=>?_;refine J (b7.mp ze) fun pa q0 z2=>?_;subst z2;refine bx (iO (fu:=400) (j:=j + 6) (rest:=stH es (tm++[.dict []])) (l:=([[120,46,98],[100,47,101,47,46,98],[101,47,100,47,97]]:List Qy).map .bytes) mD (by exact eH rfl) (by decide) (by decide)) fun x d5 e5 C5 rE=>?_;refine J (b7.mp C5) fun pb V7 z2=>?_;subst z2;replace e4:(ai 400 (j + 8)).call 20 [.loc 1,.fl [.bytes [97],.bytes [98]]] (d3.hp (stH es (tm++[.dict []])))=.ok (.bytes pa) (d4.hp (stH es (tm++[.dict []]))):=e4;replace e5:(ai 400 (j + 8)).call 20 [.loc 1,.fl [.bytes [120,46,98],.bytes [100,47,101,47,46,98],.bytes [101,47,100,47,97]]] (d4.hp (stH es (tm++[.dict []])))=.ok (.bytes pb) (d5.hp (stH es (tm++[.dict []]))):=e5;have Sv:pa.length≤1:=(by decide:∀ p∈([[97],[98]]:List Qy),p.length≤1) pa q0;have ps:=fun p (hp:p∈iP) (s5 s6:Qq)=>Su (j:=j) (H:=d5.hp (stH es (tm++[.dict []]))) (es:=es) (p:=p) (s0:=some (.fl lu)) (s1:=some (.loc 1)) (s4:=some (.int 2)) (s5:=s5) (s7:=none) hp SQ cZ rfl rfl rfl rfl;refine J (ps [97] (by decide) (some (.loc (tm.length + 6))) none) fun G1 _ q1=>?_;refine J (ps ([100,47]++pa) (Ss pa q0) (some (.fd G1)) none) fun G2 _ q2=>?_;refine J (ps [100,47,101,47,97,46,98] (by decide) (some (.fd G2)) none) fun G3 _ q3=>?_;refine J (ps pb (Sr pb V7) (some (.fd G3)) none) fun G4 XG q4=>?_;have T8:cQ (dJ (ai 400 (j + 8)) 400 AJ) (m6 6) (.fix [.bytes [97],.bytes ([100,47]++pa),.bytes [100,47,101,47,97,46,98],.bytes pb]) 400 0 [some (.fl lu),some (.loc 1),some (.loc 2),some (.loc 5),some (.int 2),some (.loc (tm.length + 6)),none,none] (d5.hp (stH es (tm++[.dict []])))
   = .ok (.next,[some (.fl lu),some (.loc 1),some (.loc 2),some (.loc 5),some (.int 2),some (.fd G4),some (.bytes pb),none]) (d5.hp (stH es (tm++[.dict []]))):=by
  exact (lG (v:=.bytes [97]) rfl rfl q1).trans ((lG (v:=.bytes ([100,47]++pa)) rfl rfl q2).trans ((lG (v:=.bytes [100,47,101,47,97,46,98]) rfl rfl q3).trans ((lG (v:=.bytes pb) rfl rfl q4).trans (yY rfl))))
 refine eB (Ph XG []) fun t e hT=>?_;refine J (Gv (j:=j + 5) (rest:=stH es (tm++[.dict []])) rE (by exact eH rfl) (fun d=>hT (d.hp (stH es (tm++[.dict []]))))) fun d6 e6 ZU=>?_;replace e6:(ai 400 (j + 8)).call 32 [.loc 1,.fd G4] (d5.hp (stH es (tm++[.dict []])))=.ok (.bool true) (d6.hp (stH es (tm++[.dict []]))):=e6;have q_:∀ d:DS,(d.hp (stH es (tm++[.dict []]))).length=tm.length + 7:=fun d=>by rw [V_,bP];rfl
 have n6:=Mi (j:=j + 7) (H:=d6.hp (stH es (tm++[.dict []])));refine eB (abE (j:=j + 1) (H:=d6.hp (stH es (tm++[.dict []])))) fun y1 y2 a2=>?_;rw [q_] at n6 a2;replace n6:mf (ai 400 (j + 8)) 2 [] (d6.hp (stH es (tm++[.dict []])))=_:=n6;rw [vW] at n6 a2;rw [vW] at a2;have DD:∀ l:Hp,(d6.hp (stH es (tm++[.dict []])++l))[tm.length + 7]?=l[0]?:=fun l=>by
  rw [←vW,gD (by rw [q_];exact aS _),q_,xl]
 have Xn:∀ l:Hp,(d6.hp (stH es (tm++[.dict []])++l))[tm.length + 7 + 1]?=l[1]?:=fun l=>by
  rw [←vW,gD (by rw [q_];exact iK iM rfl),q_,ad2]
 have Xm:∀ l:Hp,(d6.hp (stH es (tm++[.dict []])++l))[tm.length + 7 + 2]?=l[2]?:=fun l=>by
  rw [←vW,gD (by rw [q_];exact iK iM rfl),q_,ad2]
 generalize Xy:stH es (tm++[.dict []])=R0 at *;replace a2:(ai 400 (j + 8)).own 2 1 _ _=_:=a2;refine i_ (L5 (j:=j + 2) (i:=0) (p:=[97]) (by decide) Li (p6 rfl)) fun G nn vV hG _ b1 _=>?_;have XF:=H1 vV Sm;subst XF;have b2:=b1 _ (tm.length + 7) (KJ Li (DD _) (Xn _) (Xm _) (H:=d6.hp (R0++[.inst 2 [(fM,.loc (tm.length + 7 + 1)),(fV,.loc (tm.length + 7 + 2))],.list (cK kQ),.dict (iB kQ),y1,y2])));replace b2:runC .jI ((ai 400 (j + 8)).own 2 5) _ _=_:=b2;have deq:∀ H,eqv (.fd [(lx,.bool false),([120],.str [49])]) (.fd [([120],.str [49]),(lx,.bool false)]) H=some true:=fun H=>rfl;refine eB (PI (j:=j) (rest:=R0++[.inst 2 [(fM,.loc (tm.length + 7 + 1)),(fV,.loc (tm.length + 7 + 2))],.list (cK kQ),.dict (iB kQ),y1,y2]) (s0:=some (.fl lu)) (s2:=some (.loc (tm.length + 7))) (s3:=some (.loc 5)) (s4:=some (.int 2)) (s5:=some (.fd G4)) (s6:=some (.bytes pb)) (s7:=none) ZU (by exact eH rfl)) fun slT HT eT=>?_;refine ⟨HT,?_⟩;have g0:ao (ai 400 (j + 8)) (.tup (.cons (.call .aG 18 (.cons (.var 0) .nil)) (.cons (.new .aG 2 .nil) (.cons (.list true .nil) .nil)))) (lj [.fl lu] 8) []=.ok (.tup [.loc 1,.loc 2,.loc 5]) (d0.hp (stH [] [])):=
  cB (aX (bL (aF rfl ak) e0) (aX (B7 ak n0) (aX (o8 (H₁:=d0.hp [oI,.list [],.dict M0]) ak (cE _)) ak)))
 have g5:ao (ai 400 (j + 8)) (.dict true [] .nil) [some (.fl lu),some (.loc 1),some (.loc 2),some (.loc 5),some (.int 2),none,none,none] (d3.hp (stH es tm))=.ok (.loc (tm.length + 6)) (d3.hp R0):=by rw [←Xy];exact qD (H₁:=d3.hp (stH es tm)) (vs:=[]) ak rfl
 have g6:dB (ai 400 (j + 8)) (.ex (.tup (.cons (.y [97]) (.cons (.bin .add false (.y [100,47]) (.call .aG 20 (.cons (.var 1) (.cons (.list false (.cons (.y [97]) (.cons (.y [98]) .nil))) .nil)))) (.cons (.y [100,47,101,47,97,46,98]) (.cons (.call .aG 20 (.cons (.var 1) (.cons (.list false (.cons (.y [120,46,98]) (.cons (.y [100,47,101,47,46,98]) (.cons (.y [101,47,100,47,97]) .nil)))) .nil))) .nil)))))) [some (.fl lu),some (.loc 1),some (.loc 2),some (.loc 5),some (.int 2),some (.loc (tm.length + 6)),none,none] (d3.hp R0)=.ok (.fix [.bytes [97],.bytes ([100,47]++pa),.bytes [100,47,101,47,97,46,98],.bytes pb]) (d5.hp R0):=
  fW (cB (be (aX (bk aO (bL (aF rfl (aX (fJ (vs:=[.bytes [97],.bytes [98]]) rfl (bw (by decide))) ak)) e4) (jY (bw (show 2 + pa.length≤16777216 by exact aq (addQ Sv) rfl)))) (be (aX (bL (aF rfl (aX (fJ (vs:=[.bytes [120,46,98],.bytes [100,47,101,47,46,98],.bytes [101,47,100,47,97]]) rfl (bw (by decide))) ak)) e5) ak))))) rfl
 refine (e_ rfl rfl).trans ?_;apply jl
 case hl=>rfl
 delta K2;exact jE g0 rfl (lB (tt aO rg) T9 (bQ g5 (lB g6 T8 (b5 (lY (t:=true) (ql (bL (aF rfl (aF rfl ak)) e6))) aW
  (bQ (B7 ak n6) (kC (qB (am rfl) (ri ((DD _).trans rfl)) rfl (be (be ak)) a2)
  (b5 (bX (qB (am rfl) (ri ((DD _).trans rfl)) rfl (be ak) b2) (B8 (vs:=[.str [49],.bool false]) rfl rfl) rfl) aW eT)))))))
end
section
open PySem PySem.W PyProof.Rows
noncomputable abbrev L0:OpenLaw:=Nm
set_option backward.match.sparseCases true in
noncomputable def HY(d:Bool):Bool:=match (Bool.rec (some (.bool false)) (some (.bool true)) (!d):Option WData) with|some (.bool true)=>true|_=>false
def abn{args:List WData}(h:L0.row.claim.pre args=true):∃ xs:List Int,args=[.list (xs.map .int)]∧xs.length≤1000:=by
 refine ad (pre_splitW (r:=L0.row.toRowW) h) fun h1 h2=>?_;refine bx (hasAllW_cons (show WShape.hasAll [] args [.list .int]=true from h1)) fun d r z2=>?_;subst z2;intro hd hr;have VY:r=[]:=by induction r using bj with|nil=>rfl|cons _ _=>injection hr
 subst VY;refine J (hasW_list hd) fun ds z1=>?_;subst z1;intro hi;refine ay (items_int hi) fun xs z1=>?_;subst z1;refine ⟨xs,rfl,?_⟩;have h3:(L0.pre).holds [] {args:=[.list (xs.map .int)]}=true:=h2;by_cases q:xs.length≤63
 ·exact aq q rfl
 ·exfalso;have h5:decide ((63:Int) < ((xs.map WData.int).length:Nat))=true:=decide_eq_true (by rw [aQ];lia);have h4:L0.pre.holds [] {args:=[.list (xs.map .int)]}=HY (decide ((63:Int) < ((xs.map WData.int).length:Nat))):=by kernel_rfl
  exact cN ((congrArg HY h5).symm.trans (h4.symm.trans h3))
theorem lay_ints{R:WRecords}{cl:Str→Option Addr}{P:Params}{ord:List FF→List FF}:∀ (xs:List Int) (s:Shared),∃ (us:Qa) (k:Nat),layAllW R cl P ord (xs.map WData.int) s=some (us,{s with toks:=k})∧us.length=xs.length∧∀ (i:Nat) v u,(xs.map PV.int)[i]?=some v→us[i]?=some u→∃ j t,v=.int j∧u=.int j t
 | [],s=>⟨[],s.toks,rfl,rfl,fun i v u a=>by simp at a⟩
 | x::xs,s=>by
  obtain ⟨us,k,e1,e2,e3⟩:=lay_ints xs {s with toks:=s.toks + 1};refine ⟨.int x s.toks::us,k,?_,by simp [e2],fun i v u a b=>?_⟩
  ·rw [da,layAllW,layW];dsimp only;rw [e1]
  ·induction i using dN with
   | zero=>(injection a with e1;subst e1);(injection b with e1;subst e1);exact ⟨_,_,rfl,rfl⟩
   | succ i=>exact e3 i v u a b
def Ur{cl:Str→Option Addr}{P:Params}{ord:List FF→List FF}(xs:List Int)(s:Shared):∃ (us:Qa) (k:Nat),layAllW [] cl P ord [.list (xs.map WData.int)] s=some ([.ref s.heap.objs.size],{s with heap:=s.heap.push {cls:=.type "list",data:=.seq us.toArray},toks:=k})∧us.length=xs.length∧
  ∀ (i:Nat) v u,(xs.map PV.int)[i]?=some v→us[i]?=some u→∃ j t,v=.int j∧u=.int j t:=by
 refine bx (lay_ints (R:=[]) (cl:=cl) (P:=P) (ord:=ord) xs s) fun us k e1 e2 e3=>?_;refine ⟨us,k,?_,e2,e3⟩;rw [layAllW,layW];rw [e1];rfl
def Us{B:Base P0 w}(fc:Facts B)(bo:nz B)(fs:w4 B)(xs:List Int)(hx:xs.length≤1000)(hh:s.heap=B.h₀.push {cls:=.type "list",data:=.seq us.toArray})(hg:s.gens=#[])(ho:s.os=B.yB)(hl:us.length=xs.length)(hu:∀ (i:Nat) v u,(xs.map PV.int)[i]?=some v→us[i]?=some u→∃ j t,v=.int j∧u=.int j t):
  jN (model P0 w) oY (callThread "law" [.ref B.h₀.objs.size]).cur (fun f _ s'=>f=.done (.ret (.bool true))∧(∀ b o,s.heap.get? b=some o→s'.heap.get? b=some o)∧s'.os=s.os∧s'.gens=#[]) (fun _ _ _=>False) default s:=by
 have kk:∀ b o,B.h₀.get? b=some o→s.heap.get? b=some o:=fun b o e=>by rw [hh];exact fh _ e
 have tE:s.heap.get? B.h₀.objs.size=some {cls:=.type "list",data:=.seq us.toArray}:=by rw [hh];exact eu _ rfl
 refine ci ((Ia fc bo fs 400 9).call 33 "law" rfl) fun a ha _ hc=>?_;refine ay (Uu (j:=0) hx) fun H Dk=>?_;have st:af B callerA [] ⟨[],[]⟩ s:=by refine ⟨kk,⟨rfl,fun i o p a=>by simp at a,fun i j p q a=>by simp at a,fun b hb=>by simp [own,dQ] at hb,fun b hb=>by simp at hb⟩,hg,ho,fun env he=>by simp [callerA] at he⟩
 have aw:b0 (2 * 9) callerA:=⟨rfl,by show 1 + claimMargin + 8 * (2 * 9)≤900;decide,by show 4 + 40 * (2 * 9)≤5000;decide,rfl,⟨[],rfl⟩⟩;have rel:aK P0 w B.Cl ⟨[],[]⟩ s.heap [.fl (xs.map .int)] [.ref B.h₀.objs.size]:=by
  refine ⟨rfl,fun i v u a b=>?_⟩;induction i using dN with
  | zero=>
   (injection a with e1;subst e1);(injection b with e1;subst e1)
   refine .fl tE (fun q=>by rcases q with q|q<;>simp [own,dQ] at q) (by simp [hl]) fun i v u a b=>?_;refine ch (hu i v u a (by simpa using b)) fun j t z2=>?_;subst z2;intro z3;subst z3;exact .int _ _
  | succ i=>injection a
 have gl:s.heap.Ns h_ B.mg:=B.hg.keeps kk;show jN _ _ (do match←nsGet mainNs "law" with
   | some f=>do ret (←call f [.ref B.h₀.objs.size])
   | none=>unsupported "claim.caller:no-such-global") _ _ _ _
 have G:aT (model P0 w) callerA (do match←nsGet mainNs "law" with
   | some f=>do ret (←call f [.ref B.h₀.objs.size])
   | none=>unsupported "claim.caller:no-such-global") (fun f s'=>f=.done (.ret (.bool true))∧(∀ b o,s.heap.get? b=some o→s'.heap.get? b=some o)∧s'.os=s.os∧s'.gens=#[]) (fun _ _=>False) s:=by
  refine au (aZ (wpAny_nsGet gl ?_));rw [ha];refine au (oZ (hc callerA s _ [] _ _ aw st rel (by rw [Dk];exact fun q=>nomatch q) _ (fun u s' v H' σ' e a_ rv P=>?_) fun e s' H' σ' q=>nomatch Dk.symm.trans q));generalize (Dk.symm.trans e)=zz
  (injection zz with e1 e2;subst e1 e2)
  cases rv;refine ba ⟨rfl,fun b o e=>?_,a_.os.trans ho.symm,a_.gens⟩;by_cases hb:b=B.h₀.objs.size
  ·subst hb;generalize (tE.symm.trans e)=zz
   (injection zz with e1;subst e1)
   refine J (P.kp _ _ (fun q=>nomatch q) (fun q=>q.elim) tE) fun o' e' ko=>?_;rw [ko.exact (by simp)] at e';exact e'
  ·refine a_.keep b o ?_;rw [hh] at e;exact (Heap.get?_push_cases e).resolve_left fun q=>hb q.1
 exact G _ _ caller_in ⟨by decide,fun x hx=>by cases hx⟩
end
section
open PySem PySem.W PyProof.Rows
noncomputable def wW(w:gO):Prop:=∀ o p,∃ y ts,jR w=some y∧o2 w y o p=some ts∧uY y.up (toS y.bA ts)=uM y.up o∧sQ y.up (toS y.bA ts)=sA
theorem LX{w:gO}:∀ (vs:List (Value×Value)),(vs.all fun p=>(At p.1).isSome)=true→Carries (bytesKind P0 w) vs (kvsOf vs)
 | [],_=>trivial
 | (k,v)::r,h=>by
  refine ch (U' (aL h)) fun b t z2=>?_;subst z2;intro hb;refine ⟨?_,rfl,LX r (aR h)⟩;have:=bytesKind_is P0 w b.toList t;exact this
def ZG{d:Addr}(e:h.get? d=some {cls:=.type "dict",data:=.dict #[]}):h.DictOf (bytesKind P0 w) d []:=by exact ⟨_,#[],_,e,⟨rfl,rfl,rfl⟩,rfl,fun _ he=>by simp at he,Pairs.nil,Fq⟩
def Ux:((P0.theDef "law").map fun q=>q.1.defaults.isEmpty&&q.1.kwonlyargs.isEmpty&&q.1.kw_defaults.isEmpty)=some true:=by kernel_rfl
def Uw(hg:h.isNs h_=true)(ha:∃ a,h.nsMap h_ "law"=some (.ref a))(k:y4 h=y0):isTheDefsW P0 h "law":=by
 refine ay ha ?_;clear ha;intro a ha;have hA:=Ux;have e:gA h "law"=a:=by delta gA;rw [ha]
 delta y0 at k;generalize ht:(P0.theDef "law")=zz;induction zz using az with
 | none=>rw [ht] at hA;injection hA
 | some q=>obtain ⟨args,body,scope⟩:=q;rw [ht] at k hA;simp only [ud,No,i8,uv] at hA;refine ad hA fun z0 b3=>?_;clear hA;refine ad z0 fun b1 b2=>?_;clear z0;delta y4 at k;rw [e] at k;refine J (dG.mp k) fun fd tF k=>?_;refine J (K0 tF) fun o ho hd=>?_;simp only [Prod.mk.injEq] at k;refine Ou k fun c1 c2 c3 c4 c5 c6 c7 z8=>?_;clear k;refine cG z8 fun c8 c9 c10=>?_;clear z8;exact ⟨a,o,fd,args,body,scope,(adK hg _).trans ha,ho,hd,ht,c1,c2,c3,c4,c5,c6,c7,c8,.inl ⟨b1,c9⟩,[],by rw [b2,b3];rfl,.inl ⟨rfl,c10⟩⟩
structure MP(w:gO)(bA s:Shared):Prop where
 run:TopRan P0 w bA s
 Qr:s.asleep
 gens:s.gens=#[]
 defs:isTheDefsW P0 s.heap "law"
 base:∃ B:Base P0 w,B.h₀=s.heap∧B.yB=s.os∧Facts B∧nz B∧w4 B
def X2{x:AS}(h:Ak x s=true):s.gens=#[]:=xI (eq_of_beq (aL (aL (aL (aL (aL (aL (aL (aL (aL (aL (aL h))))))))))))
def W3(hs:wW w):(∃ s,AfterRun (opening P0) w s)∧∀ s,AfterRun (opening P0) w s→∃ bA,fenceModules? P0 s=some bA∧bA.gens=#[]∧∃ aa,MP w bA aa:=by
 refine cO (hs default default) fun y ts e1 e2 e3 e4=>?_;have c0:wI y.up (toS y.bA ts)=true:=congrArg Fc e3;have Kq:=aR c0;have Ki:y.up.s.heap.get? y.up.d=some {cls:=.type "dict",data:=.dict #[]}:=congrArg (fun q=>q.2.2.2.2.2.2) e3;have a2':y.up.vs.length≤100:=p6 (aR (aL (aL Kq)));refine ad (O9 (R:=fun s'=>∃ o,uY y.up s'=uM y.up o∧sQ y.up s'=sA∧(y.up.s.heap.update y.up.d fun _=>o).DictOf (bytesKind P0 w) y.up.d (merged [] (kvsOf y.up.vs))) e1 (LX (w:=w) _ (aL (aL (aL Kq)))) (ZG Ki) (by rw [kvsOf,aQ,sizeLine_eq];exact aB a2' (by decide)) fun o p ho=>by
   refine cO (hs o p) fun y' ts' f1 f2 f3 f4=>?_;replace f1:=(e1).symm.trans f1
   (injection f1 with e1;subst e1)
   exact ⟨_,f2,o,f3,f4,ho⟩) fun hF tw=>?_
 rw [←acW] at hF;refine J (xj.mp hF) fun s' h4 h5=>?_;have A:=agA h4;refine ⟨⟨s',A⟩,fun gW vT=>?_⟩;obtain rfl:gW=s':=agz vT A;have z:y.up.bA.asleep:=Nb (fence_lifeW h5) A.life;have ct:Ak y.up (toS y.bA ts)=true:=aL (aL (aL (aL (aL (aL c0)))));have WT:y.up.bA.gens=#[]:=xI (eq_of_beq (aR (aL (aL (aL (aL (aL (aL (aL (aL (aL (aL ct))))))))))))
 (refine ci (O_ z (fun s' hr=>by
   refine J hr fun o f3 _=>?_;clear hr;have c1:wI y.up s'=true:=congrArg Fc f3;exact X2 (aL (aL (aL (aL (aL (aL c1))))))) tw) fun aa z1 hl z4=>?_;refine ci z1 fun o f3 f4 hD=>?_;clear z1;(refine ch z4 fun n t hn ht=>?_;clear z4))
 have c1:wI y.up aa=true:=congrArg Fc f3;have k2:aa.os=y.up.bA.os:=congrArg (fun q=>q.2.1) f3;have k3:olds y.up.bA aa=olds y.up.bA y.up.bA:=congrArg (fun q=>q.2.2.1) f3;have k4:aa.heap.bltView=bltViewBooted:=congrArg (fun q=>q.2.2.2.1) f3;have k5:y4 aa.heap=y0:=congrArg (fun q=>q.2.2.2.2.1) f3;have k6:aa.heap.objs[y.up.d]?=some o:=congrArg (fun q=>q.2.2.2.2.2.1) f3;delta wI at c1;simp only [i8] at c1;refine ad c1 fun z0 c7=>?_;clear c1;refine ad z0 fun eA c6=>?_;clear z0;refine ad eA fun jw c5=>?_;clear eA;obtain ⟨⟨⟨c1,c2⟩,c3⟩,c4⟩:=jw;unfold Ak at c1;simp only [i8,beq_iff_eq,xg] at c1;refine ad c1 fun z0 Z6=>?_;clear c1;refine ad z0 fun eA Z7=>?_;clear z0;refine ad eA fun jw Z8=>?_;clear eA;obtain ⟨⟨⟨⟨⟨⟨⟨⟨d1,d2⟩,d3⟩,d4⟩,d5⟩,d6⟩,d7⟩,d8⟩,d9⟩:=jw;have Kc:aa.gens=#[]:=xI d1;have nl:aa.heap.NoLimit:=⟨_,.of_isNs d5,d6⟩;have sm:∃ o,aa.heap.get? lU=some o:=ue.mp d7;refine ⟨y.up.bA,h5,WT,aa,⟨⟨⟨n,t,hn,ht⟩,hl,adc k2,?_,Heap.accountedI_of_ok Z7,statics_of_ok d8,Pin.keysAreStrs_of d3,fun x hx=>(Pin.builtinOf_eq d4 x).trans (Heap.of_bltView d4 k4 x hx),?_,(fun g hg=>by rw [Kc] at hg;simp at hg),names_of_bound d9,laid_of_kept Z8⟩,
  Nb hl z,Kc,?_,lC w y.up aa d3 d4 nl sm,rfl,rfl,?_,aa9 c6 (Prod.mk.inj (Prod.mk.inj f4).2).1,KQ f4⟩⟩
 ·intro b ob hb hn;have kK:b < y.up.bA.heap.objs.size:=kn hb;have:=congrArg (·[b]?) k3;have h1:b≠mainNs:=fun q=>hn (.inl q);have h2:b≠cStatics:=fun q=>hn (.inr (.inl q));simp [olds,kK,h1,h2] at this;exact (this).trans (hb)
 ·refine Ot (Heap.bmainOk_spec Z6) fun bm ob a _ c d f _=>?_;exact ⟨bm,ob,(adK d3 _).trans a,c,d,f⟩
 ·exact Uw d3 (by
   refine eB ((KQ (w:=w) (h1:=d3) (h2:=d4) (h3:=nl) (h4:=sm) f4).f 33 "law" rfl) fun q np g=>?_;exact g.imp fun _ g=>g.2.2.g) k5
 ·refine Ys c2 c3 c4 c5 c7 ?_;refine ik hD fun o' es ep ho r=>?_;clear hD;refine ad (Bb.mp ho) fun q1 q2=>?_;refine ad (Bb.mp Ki) fun q3 _=>?_;have q4:(y.up.s.heap.update y.up.d fun _=>o).objs[y.up.d]?=some o:=by
   show (y.up.s.heap.objs.modify y.up.d fun _=>o)[y.up.d]?=some o;refine (afm).trans ?_;rw [if_pos rfl,q3];rfl
  replace q1:=(q4).symm.trans q1
  (injection q1 with e1;subst e1)
  exact ⟨o,es,ep,Bb.mpr ⟨k6,q2⟩,r⟩
def Se(args:List WData):L0.row.claim.post args (.bool true) args=true:=by show (WShape.has [] (.bool true) .bool&&(WTm.eq .res (.lit (.bool true))).holds [] {args:=args,res:=some (.bool true),after:=args})=true;kernel_rfl
def aaI{bA:Shared}(hd:MP w bA s){free:Addr→Prop}{gens:Prop}{kept:Heap→Prop}(hk:∀ h,kept h):L0.row.claim.CallFrom (callStub "law") w free gens kept s:=by
 refine xM hd.base fun B e1 e2 fc bo fs=>?_;intro args V3 WB ord V';refine J (abn V3) fun xs z1=>?_;subst z1;intro hx;refine bx (Ur (cl:=classAt s.heap) (P:=w.params) (ord:=ord) xs s) fun us k el hl hu=>?_;have WA:(s.heap.push {cls:=.type "list",data:=.seq us.toArray}).life=s.heap.life:=Heap.life_push _ _;generalize C':({s with heap:=s.heap.push {cls:=.type "list",data:=.seq us.toArray},toks:=k}:Shared)=aP at el;have hh:aP.heap=B.h₀.push {cls:=.type "list",data:=.seq us.toArray}:=by rw [←C',e1]
 have WR:aP.gens=#[]:=by rw [←C'];exact hd.gens
 have m8:aP.os=s.os:=by rw [←C']
 have J7:aP.heap.life=s.heap.life:=by rw [hh,e1];exact WA
 have L:=Us fc bo fs xs hx hh WR (m8.trans e2.symm) hl hu;rw [e1] at L;refine F7 (wp_halts_full (M:=model P0 w) (R:=fun r s'=>r=.ok (.ret (.bool true))∧(∀ b o,aP.heap.get? b=some o→s'.heap.get? b=some o)∧s'.os=aP.os∧s'.gens=#[]) (Nb J7 hd.Qr)
   (nF _ _ _ (fun f p s' h=>by
    refine sr h fun z0=>?_;clear h;subst z0;intro h1 h2 h3;exact ⟨⟨rfl,h1,h2,h3⟩,by rw [h3];kernel_rfl⟩) (fun _ _ _ h=>h.elim) _ _ L)) fun n r s' gW hn hr hf hR=>?_
 refine sr hR fun z0=>?_;clear hR;subst z0;intro g1 g2 g3;obtain rfl:=ade hf g3;refine ci (reads_layAllW (R:=[]) V' _ _ _ el WB gW.heap g1) fun bs VX _ hold=>?_;have Wz:gW.heap.life=s.heap.life:=(runN_life _ _ _ hr).trans J7;refine ⟨_,aP,el,n,_,gW,hn,.inl ⟨.bool true,rfl,fun cls=>rfl,⟨.bool true,_,[],bs,.bool true,VX,Se _,fun _=>⟨Fq,fun a ha=>by simp at ha,fun a ha=>by simp at ha⟩,fun afV _=>ident_freeW (r:=L0.row.toRowW) rfl rfl rfl _ _⟩,(fun i hi=>by injection hi),(fun b o hb _ _ _=>.inl (g1 b o hb)),fun i hi=>by cases hi⟩,(fun _ i x hx=>by rw [hd.gens] at hx;simp at hx),hk _,by rw [Wz],adc (g2.trans m8)⟩
def aa7:L0.row.prog.bare:=⟨rfl,rfl,rfl,rfl,rfl,by decide +kernel⟩
def SK:opensWell P0=true:=by decide +kernel
def HV:L0.row.toRowW.promised:=⟨[.list []],by decide +kernel,by decide +kernel⟩
def RG(hs:∀ w,wW w)(B1:L0.row.wellSaid=true):L0.row.Holds:=by refine ⟨B1,HV,⟨aa7,SK,rfl⟩,HV.witness,fun w=>?_⟩;refine ad (W3 (hs w)) fun h1 h2=>?_;refine ⟨h1,fun s iy=>?_⟩;refine ci (h2 s iy) fun bA hf hg z4=>?_;refine ay z4 fun aa hd=>?_;clear z4;refine ⟨bA,hf,hg,aa,hd.run,fun n hn=>?_,(fun x hx=>by cases hx),(fun x hx=>by cases hx),aaI hd fun h q=>by injection q⟩;have:n∈(["law"]:Qs):=hn;simp only [bZ] at this;subst this;exact hd.defs
end
section
open PySem PySem.W PyProof.Rows
def Hr(w':gO)(kA:KAz w')(kB:KBz w'):wW w':=by intro o p;have h1:=kA o p;have h2:=kB o p;obtain ⟨i1,i2⟩:=Prod.mk.inj h1;obtain ⟨y,hy⟩:=ue.mp i1;rw [hy,xh,ud] at i2;rw [hy,xh] at h2;obtain ⟨ts,JR,e⟩:=dG.mp i2;rw [JR,ud] at h2;exact ⟨y,ts,hy,JR,e,Option.some.inj h2⟩
def Rm(w:gO):wW w:=by
 have h:wW (wfz w (w.params.followText "special-get-raises")):=by
  cases w.params.followText "special-get-raises" with
  | false=>exact Hr _ (UQ w) (UO w)
  | true=>exact Hr _ (UP w) (UN w)
 delta wfz at h;rwa [World.withFollow_self] at h
def Ut(B1:L0.row.wellSaid=true):L0.row.Holds:=RG Rm B1
end
end mH
end
theorem PySem.Challenge.cw_nt0285_01_holds : PySem.Challenge.rw_nt0285_01.Holds := by
 exact ⟨mH.Hu,mH.Ut (PySem.W.row_said mH.Hu)⟩
