import PyProof.Rows.All
import Wide.All
import OpenK.AllK
import Wide.FinOn
import PySem.Challenge.RW_nu0247_01
open Option renaming some->R3,none->Sg,map_eq_some_iff->SR,bind_eq_some_iff->TY,some_inj->UT,isNone_iff_eq_none->Vp,map_eq_none_iff->Ww,elim->WR,map->Y0
open _root_ renaming List->R4,Option->Si,Int->Sj,if_neg->Sq,if_pos->Sv,absurd->Sw,of_decide_eq_true->SB,Nat->SH,congrArg->SU,decide_eq_true->Th,decide_eq_false->Ti,Bool->Tn,of_decide_eq_false->TF,trivial->TK,beq_self_eq_true->TV,cond->Ui,decide_eq_true_eq->Uz,beq_iff_eq->U5,String->Vn,Array->Vt,beq_eq_false_iff_ne->VF,dif_neg->W2,if_false->Xn,bne_iff_ne->YS,if_true->Zt
open Nat renaming le_of_ble_eq_true->R5,ne_of_beq_eq_false->Ss,le_trans->SJ,le_antisymm->SK,zero_le->S7,le_refl->S8,min_le_left->Tr,lt_of_lt_of_le->TN,min_le_right->TT,not_lt->T0,min_eq_left->Ue,le_of_lt->Uf,le_of_lt_succ->Um,lt_irrefl->Uq,ne_of_lt->Ur,lt_succ_self->UF,sub_le->UH,le_add_right->UN,le_total->UV,le_succ->UW,pow_le_pow_right->Vq,add_le_add_right->Vr,not_lt_zero->VE,lt_or_eq_of_le->VG,lt_of_le_of_lt->VH,lt_succ_of_le->VM,succ_lt_succ->VV,not_le->VW,min_eq_right->VX,add_le_add->Wd,one_pos->Wl,beq->Wm,lt_trans->WN,not_succ_le_zero->W4,not_succ_le_self->W5,zero_add->Xz,succ_pos->XA,sub_self->XB,lt_trichotomy->XC,le_of_eq->XD,add_pos_right->XF,succ_ne_zero->XX,succ_add_eq_add_succ->YJ,le_add_right_of_le->YV,eq_of_beq_eq_true->Y2,le_zero->Y5,le_sub_one_of_lt->Y6,add_le_add_left->Zh,sub_lt->Zx,pos_of_ne_zero->Zy,lt_succ_of_lt->ZN,le_succ_of_le->ZO,ble->ZP,succ_le_succ->ZY
open List renaming getElem?_eq_some_iff->R6,mem_singleton->R8,mem_of_getElem?->R9,length_map->Sa,mem_cons_self->Se,forall_mem_cons->Sh,mem_append->Sl,length_append->Sr,mem_append_left->Su,getElem?_map->Sx,not_mem_nil->Sy,mem_append_right->SA,getElem?_eq_getElem->SG,mem_map->SL,map_append->SN,mem_cons_of_mem->SQ,getElem?_append_left->SW,mem_cons->SZ,mem_iff_getElem?->S5,nodup_cons->S6,length_take->S9,nodup_append->Tf,map_map->Tg,nodup_nil->Tm,map_cons->Tq,getElem?_take_of_lt->Tu,getElem?_set_self->Tv,append_nil->Tw,mem_map_of_mem->Tz,length_cons->TB,getElem?_concat_length->TC,append_assoc->TG,map_congr_left->TI,filter_cons->TJ,range->TL,mem_filter->TQ,all_eq_true->TR,mem_of_mem_take->TU,lookup_cons->TZ,getElem?_eq_none_iff->T2,length_range->T6,getElem?_set_ne->Uc,getElem?_append_right->Ud,drop_eq_getElem_cons->Uh,filter_eq_self->Uj,length_filter_le->Uo,any_eq_true->Ut,pairwise_map->Uv,mem_range->Uw,mem_filterMap->UD,getElem?_inj->UG,length_reverse->UI,any_cons->UK,length_drop->UL,nodup_iff_pairwise_ne->UO,contains_cons->UP,find?_cons->UU,filterMap_cons->U1,length_eq_zero_iff->U2,countP_eq_length_filter->U9,map_take->Vb,getElem?_eq_none->Vd,length->Vl,length_set->VB,length_eq_one_iff->VI,drop_eq_nil_of_le->VJ,take_append_drop->VP,take_length->VS,map->VZ,pairwise_cons->V8,getElem_range->V9,filter_append->Wa,take_sublist->Wi,take_add_one->Wj,reverse_cons->Wk,mem_flatMap->Wx,getElem?_singleton->Wy,take_of_length_le->WF,length_nil->WO,mem_of_mem_drop->WX,countP_eq_zero->W8,map_drop->Xa,all_cons->Xb,find?_eq_none->Xg,size_toArray->Xu,map_nil->Xv,map_id'->Xw,eraseIdxIfInBounds_toArray->XG,map_fst_zip->XO,isEmpty_iff->XR,eq_nil_of_length_eq_zero->XY,dropLast_concat_getLast->Yc,take_zero->Ym,replicate->Yn,mem_of_find?_eq_some->Yu,exists_mem_of_ne_nil->Yv,length_filterMap_le->YD,drop_nil->YF,set_set->YK,filter_eq_nil_iff->YL,append_eq_nil_iff->YM,dropLast_eq_take->YW,filter_sublist->Y7,filterMap_map->Zi,flatMap_cons->Zz,ext_getElem?->ZA,eraseIdx_nil->ZB,any_eq_false->ZC,nodup_range->ZQ,drop_length->ZR,countP_cons->ZS,nil_append->ZZ,headD_cons->Z0,filter_nil->Z1
open Option.some renaming inj->R7
open PySem renaming wpAny_bind->Sb,Value->Sz,wpAny_pure->SD,Addr->SM,Expr->SX,eval->S3,model->Tc,Str->Tj,wpAny->Tx,Shared->TD,FuncData->TP,wpAny_loadName_local->TX,codeAny->T3,wpAny_holding->T7,Comprehension->T8,wpAny_mono->T9,wpAny_loadPart_at->Ub,wpAny_standAt->Ug,wpAny_execs_cons->Uk,codeAny_mono->UA,wpAny_field->UB,isTrue->UE,wpAny_execs_nil->UJ,Pos->UM,sizeLine_eq->UQ,execs->UX,wpAny_newObj_type->UZ,wpAny_assign_Name->U0,wpAny_isSubtype_exc->U6,wpAny_Name->Ve,NameKind->Vj,Stmt->Vo,exec->Vu,wpAny_of_eq->Vw,wpAny_call->Vx,call_meetsIn->VA,wpAny_Constant_str->VK,ks_wpAt_execs_cons->VL,wpAny_Return_some->VU,Heap->We,wpAny_Constant_bool->Wf,wpAny_setField->Wp,Scope->Wq,slot_list_getitem->WC,wpAt_of_wpAny->WH,wpAny_getItem_list_slice->WK,wpAny_comprehension_free->WL,Obj->WW,wpAny_rule->W0,ks_codeAny_call_bound->W9,Sem->Xf,wpAny_loadPart->Xl,wpAny_Slice->Xm,codeAny_call_builtin->Xp,Keyword->Xx,ks_wpAt_MethodCall->XU,codeAny_call_cells->XW,slot_dict_getitem->Yf,Program->Yi,wpAny_lookBehind->Yo,wpAny_getItem_of->Yp,wpAny_call_entry->Yq,pastItsLine_dict->Yr,ks_wpAt_Expr_any->Ys,Fin->YC,codeAny_of_tree->YH,evalPairs_cons->YQ,call_meets->YR,wpAt_of_wpAny->YZ,Env->Y4,wpAny_callSpecial?_slot->Zf,CmpOp->Zk,wpAny_typeOf->Zn,wpAny_mkText->Zo,wpAny_Assign_Subscript->Zq,is_none->Zr,Flow->ZF,wpAny_storeName_local->ZI,wpAny_isTrue_Compare1->ZJ,ks_codeAny_call_defAt->ZK,exec_Assign_Name_used->ZL,wpAt_bind->ZM,meets_dict_pop_there->ZV,World->ZX
open Bool renaming false->Sf,true->Sn,and_eq_true_iff->SV,and_eq_true->Tt,and_true->Wo,or_true->WG,false_ne_true->Xj,false_eq_true->Xk,or_eq_true->Ye,or_false->YG,not_not->YN,or_eq_true_iff->Ze,not_eq_false'->Zm,not_eq_true'->ZG,eq_false_iff->ZH
open PySem.Heap renaming get?_push_of_some->Sp,get?_push_size->To,lt_size->TA,dictOf_iff->TS,get?_update_self->Up,size_push->U4,get?_update_other->U7,SameBut->Vs,get?_none_of_le->WY,ExtBut->Y3,get?_update_ne->Zc,Ns->ZE
open And renaming imp_left->SY,intro->YP
open Int renaming natAbs_neg->S4,le_antisymm->Td,natCast_add->Te,natAbs->Tl,le_natAbs->Ts,ofNat_inj->T1,neg_neg->T5,eq_ofNat_of_zero_le->Ua,self_le_toNat->Uy,toNat_of_nonneg->U3,natCast_nonneg->U8,add_zero->Vv,natAbs_eq_natAbs_iff->VC,ofNat_lt->VN,zero_add->V6,le_of_eq->V7,ofNat->Wb,mul_nonneg->W6,lt_of_lt_of_le->Xq,ofNat_le->XI,mul_zero->XJ,le_total->XK,sub_nonneg_of_le->Y8,neg_inj->Y9,natAbs_of_nonneg->Za,mul_add->Zb,ofNat_eq_zero->ZT,min_le_right->Z2,min_eq_right->Z3
open Exists renaming imp->Ta
open Classical renaming byContradiction->Tk
open Ne renaming symm->TH
open Array renaming getElem?_toList->T4,getElem?_eq_some_iff->Uu,length_toList->Ux,mem_toList_iff->Vk,any_toList->Wu,toList_append->W7,toList_push->Xs,isEmpty_iff_size_eq_zero->XN
open Decidable renaming decide->Ul,byContradiction->Vi
open PySem.F renaming plainAttrs_dict->UY,plainAttrs_list->Vz,entry_dict_pop->Wr,slot_dict_pop->Wz,slot_list_pop->WZ,slot_tuple_getitem->Xc,ks_slot_super_ga->XM,slot_dict_delitem->Ya,excBase_Exception->Yb,args_dict_pop_3->Yl,slot_dict_get->Yx,slot_list_extend->Z4,slot_list_append->Z5,args_tuple_add_2->Z6
open PySem.Builtin.Slice renaming sliceAdjust->Va,slicePlaces->VY,sliceApplied->Xe
open PySem.W renaming Frag->Vc,callWith_of->VO,looks_clsIn->V5,looks_findIn->Wh,plainGet_of->WD,ks_superIn->W1,codeRec_of->XV,putName_dict->Yg,lookIn_dict->YB,InstAt->Zv,looks_mroIn->ZW
open PySem.Builtin.Tuple renaming tupleExact->Vf
open PySem.PyData renaming keyHash->Vg
open PySem.Heap.IsSliceOf renaming new->Vh
open PySem.Value renaming ref->Vm,isStrOf_shape->V1,isStrOf->Yt,isInt->YT
open PySem.Calls renaming Name_function_global->Vy,spliced_cons->Wg,spliced_nil->WB,evalArgs_plain->Xo,loadGlobal_builtin->XT,loadGlobal_global->Yh
open Nat.succ renaming inj->VD
open PySem.Expr.Constant renaming elim->VQ
open List.Perm renaming swap->V0
open PyProof.Rows renaming Subscript_->V2,tail_any->V4,Attribute_any_->Xr,call_abs_int->Zu
open PySem.Stmt.FunctionDef renaming elim->V3
open PySem.Obj renaming data_mapFields->Wc,mapFields->Ws,isFreed_of_fields->Y1,isFreed_of_dict->Zg,mapSeq->Zw
open ForInStep renaming yield->Wn
open Eq renaming symm->Wt
open List.Pairwise renaming nil->WP
open PySem.SeqAt.EqAt renaming int_int->WQ
open PySem.Around renaming frames_deeper->WT
open PySem.Challenge renaming rw_nu0247_01->WU
open PySem.NameKind renaming cell->WV
open PySem.Code renaming quiet_builtin->Xh
open PySem.Builtin.List renaming listFitsIndex->Xi
open PySem.Builtin.Range renaming rangeSize->Xy,small->Yd
open LT renaming lt->XS
open PySem.Expr.Subscript renaming elim->XZ
open PySem.Expr.Attribute renaming elim->X0
open PySem.Heap.SameBut renaming update->Yj
open PySem.Expr.ListComp renaming elim->Yk
open List.Sublist renaming refl->Yw
open PySem.Expr.UnaryOp renaming elim->Yy
open PySem.EntryCells renaming newEntry->Yz
open PySem.Expr.Tuple renaming elim->YX
open PySem.Expr.Slice renaming elim->YY
open PySem.Expr.Name renaming elim->Zd
open Int.ofNat renaming inj->Zj
open Int.Internal.Linear renaming Expr->ZD
open Bind renaming bind->ZU
set_option Elab.async false
set_option linter.all false
set_option genInjectivity false
set_option genSizeOf false
set_option tactic.hygienic false
set_option maxHeartbeats 4000000
open PySem PySem.W PyProof.Rows PySem.Calls
namespace CK
def br:Lean.Syntax:=.node .none `Lean.Parser.Tactic.tacticSeq #[.node .none `Lean.Parser.Tactic.tacticSeq1Indented #[.node .none `null #[.node .none `Lean.Parser.Tactic.tacticRfl #[.atom .none "rfl"]]]]
noncomputable section
variable{α β γ t1 t2 t3 t4 t5:Type}{E E':Sz->TD->Prop}{g G:SM->Si WW}{pos p p2 p1 p3 p4 px p5 q2 p6 apos ap p7 p0 q1 tpos:UM}{c r ks bU sc found r' bh:R4 Sj}{A:Around}{n k N i ep B j num hi n2 k1 m' ep' bA:SH}{x lit lost:Sj}{env ev:Y4}{s s' aB:TD}{prog:Yi}{L rows rs cs D' cT:R4 (R4 Sj)}{C I cda aC:SM}{b lL ab expr:Tn}{v cw it:Sz}{w:ZX}{body wc:R4 Vo}{R:Result->TD->Prop}{aF:R4 (Sj×Sz)}{scope:Wq}{o ox oD oI:WW}{y name:Tj}{xs:Vt Sz}{args ifs elts xM:R4 SX}{names:R4 (Tj×Vj)}{value func iter e1 e2 target i1 i2:SX}{ps sn OG sln:R4 Tj}{whole:Xf Sz}{h b₀ h':We}{pn:Sj->Si SH}{es:R4 DictEntry}{bL W pl:Sj->R4 SH}{st:Vo}{P:R4 Sz->Prop}{kf:Tj->Si Vj}{binds:R4 (Tj×Sz)}{M:Model}{col:Si Tn}{rest sub bmN bs bm vals us:R4 Sz}{dd:Si SM}{mA:Tj->Si Sz}{os:OsState}{q:Tj×UM×SX×R4 SX}{ts:R4 (Sz->Xf Unit)}{newId id:Vn}{aH:R4 SH}{gens:R4 T8}{outer fr:R4 Y4}{od:Si WW}{t tk:Tok}{k0 k2 k3 k5:Si Sz}{xR:TP}{op:Zk}{Q':β->TD->Prop}
section
noncomputable abbrev XE:=ZD
theorem Pg (a b c d:Sj):a+b+(c+d)=a+c+(b+d):=by rw[Int.add_assoc,Int.add_left_comm b,<-Int.add_assoc]
@[reducible] noncomputable def v0:XE:=.var 0
@[reducible] noncomputable def v1:XE:=.var 1
@[reducible] noncomputable def v2:XE:=.var 2
@[reducible] noncomputable def v3:XE:=.var 3
@[reducible] noncomputable def v4:XE:=.var 4
@[reducible] noncomputable def v5:XE:=.var 5
@[reducible] noncomputable def v6:XE:=.var 6
@[reducible] noncomputable def v7:XE:=.var 7
@[reducible] noncomputable def v8:XE:=.var 8
@[reducible] noncomputable def v9:XE:=.var 9
@[reducible] noncomputable def n0:XE:=.num 0
@[reducible] noncomputable def n1:XE:=.num 1
@[reducible] def vS (x:XE):XE:=.add x n1
noncomputable def aN:R4 SH->SH->SH |[],_=>0 |a::_,0=>a |_::l,i+1=>aN l i
noncomputable def aZ:R4 Sj->SH->Sj |[],_=>0 |a::_,0=>a |_::l,i+1=>aZ l i
noncomputable def dN (ns:R4 SH):XE->SH |.var i=>aN ns i |.num n=>n.toNat |.add x y=>dN ns x+dN ns y |.mulL j x=>j.toNat*dN ns x |.mulR x j=>dN ns x*j.toNat |_=>0
noncomputable def dZ (ns:R4 SH)(zs:R4 Sj):XE->Sj |.var i=>Ui (i % 2==0) (aZ zs (i / 2)) (aN ns (i / 2)) |.num n=>n |.add x y=>dZ ns zs x+dZ ns zs y |.sub x y=>dZ ns zs x - dZ ns zs y |.neg x=>- dZ ns zs x |.mulL j x=>j*dZ ns zs x |.mulR x j=>dZ ns zs x*j
noncomputable def lad:R4 Sj->R4 Sj->R4 Sj |[],y=>y |a::x,[]=>a::x |a::x,b::y=>(a+b)::lad x y
noncomputable def lmu (k:Sj):R4 Sj->R4 Sj |[]=>[] |a::x=>(k*a)::lmu k x
noncomputable def Oc:SH->R4 Sj |0=>[1] |i+1=>0::Oc i
noncomputable def dot:R4 Sj->R4 Sj->Sj |c::cs,n::ns=>c*n+dot cs ns |_,_=>0
theorem Aw (x:R4 Sj): ∀y ns,dot (lad x y) ns=dot x ns+dot y ns:=by
 induction x with
 |nil=>intro y ns;exact(V6 _).symm
 |cons a x ih=>intro y ns;cases y with
  |nil=>exact(Vv _).symm
  |cons b y=>cases ns with
   |nil=>rfl
   |cons n ns=>exact(congr (SU _ (Int.add_mul a b n)) (ih y ns)).trans (Pg _ _ _ _)
theorem Ax (k:Sj)(x:R4 Sj): ∀ns,dot (lmu k x) ns=k*dot x ns:=by
 induction x with
 |nil=>intro ns;exact(XJ _).symm
 |cons a x ih=>intro ns;cases ns with
  |nil=>exact(XJ _).symm
  |cons n ns=>exact(congr (SU _ (Int.mul_assoc k a n)) (ih ns)).trans (Zb _ _ _).symm
theorem Ay (i:SH): ∀zs,dot (Oc i) zs=aZ zs i:=by
 induction i with
 |zero=>intro zs;cases zs with
  |nil=>rfl
  |cons n ns=>exact(Vv _).trans (Int.one_mul n)
 |succ i ih=>intro zs;cases zs with
  |nil=>rfl
  |cons n ns=>exact(congr (SU _ (Int.zero_mul n)) (ih ns)).trans (V6 _)
noncomputable def cN (ns:R4 SH):R4 Sj:=ns.map Wb
theorem aaY (ns:R4 SH): ∀i,aZ (cN ns) i=(aN ns i:Sj):=by
 induction ns with
 |nil=>intro i;cases i<;>rfl
 |cons n ns ih=>intro i;cases i with
  |zero=>rfl
  |succ i=>exact ih i
structure Lf where
 p:R4 Sj
 q:R4 Sj
 r:Sj
def Lf.e (f:Lf)(ns:R4 SH)(zs:R4 Sj):Sj:=dot f.p (cN ns)+dot f.q zs+f.r
def Lf.a (f g:Lf):Lf:=⟨lad f.p g.p,lad f.q g.q,f.r+g.r⟩
def Lf.m (k:Sj)(f:Lf):Lf:=⟨lmu k f.p,lmu k f.q,k*f.r⟩
variable{ns:R4 SH}{zs:R4 Sj}
theorem Lf.e_a (f g:Lf):(f.a g).e ns zs=f.e ns zs+g.e ns zs:=
 (SU (· +(f.r+g.r)) ((congr (SU _ (Aw f.p g.p (cN ns))) (Aw f.q g.q zs)).trans (Pg _ _ _ _))).trans (Pg _ _ _ _)
theorem Lf.Od (k:Sj)(f:Lf):(f.m k).e ns zs=k*f.e ns zs:=
 (SU (· +k*f.r) ((congr (SU _ (Ax k f.p (cN ns))) (Ax k f.q zs)).trans (Zb _ _ _).symm)).trans (Zb _ _ _).symm
noncomputable def lN:XE->Lf |.var i=>⟨Oc i,[],0⟩ |.num n=>⟨[],[],n.toNat⟩ |.add x y=>(lN x).a (lN y) |.mulL j x=>(lN x).m j.toNat |.mulR x j=>(lN x).m j.toNat |_=>⟨[],[],0⟩
noncomputable def lZ:XE->Lf |.var i=>Ui (i % 2==0) ⟨[],Oc (i / 2),0⟩ ⟨Oc (i / 2),[],0⟩ |.num n=>⟨[],[],n⟩ |.add x y=>(lZ x).a (lZ y) |.sub x y=>(lZ x).a ((lZ y).m (-1)) |.neg x=>(lZ x).m (-1) |.mulL j x=>(lZ x).m j |.mulR x j=>(lZ x).m j
theorem JM (n:Sj):(Lf.mk [] [] n).e ns zs=n:=V6 n
theorem aaZ (i:SH):(Lf.mk (Oc i) [] 0).e ns zs=(aN ns i:Sj):=(Vv _).trans ((Vv _).trans ((Ay i _).trans (aaY ns i)))
theorem nB (x:XE):(lN x).e ns zs=(dN ns x:Sj):=by
 induction x with
 |var i=>exact aaZ i
 |num n=>exact JM _
 |add x y hx hy=>exact(Lf.e_a _ _).trans (congr (SU _ hx) hy)
 |mulL k x hx=>exact(Lf.Od _ _).trans ((SU _ hx).trans (Int.natCast_mul _ _).symm)
 |mulR x k hx=>exact(Lf.Od _ _).trans ((SU _ hx).trans ((Int.mul_comm _ _).trans (Int.natCast_mul _ _).symm))
 |_=>rfl
theorem Ey (x:Sj): -1*x= -x:=(Int.neg_mul 1 x).trans (SU _ (Int.one_mul x))
theorem nD (x:XE):(lZ x).e ns zs=dZ ns zs x:=by
 induction x with
 |var i=>
  show(Ui (i % 2==0) (Lf.mk [] (Oc (i / 2)) 0) (Lf.mk (Oc (i / 2)) [] 0)).e ns zs=Ui (i % 2==0) (aZ zs (i / 2)) (aN ns (i / 2):Sj);cases i % 2==0 with
  |true=>exact(Vv _).trans ((V6 _).trans (Ay _ _))
  |false=>exact aaZ _
 |num n=>exact JM _
 |add x y hx hy=>exact(Lf.e_a _ _).trans (congr (SU _ hx) hy)
 |sub x y hx hy=>exact(show _=dZ ns zs x+ - dZ ns zs y from(Lf.e_a _ _).trans (congr (SU HAdd.hAdd hx) ((Lf.Od _ _).trans ((Ey _).trans (SU Neg.neg hy)))))
 |neg x hx=>exact(Lf.Od _ _).trans ((Ey _).trans (SU _ hx))
 |mulL k x hx=>exact(Lf.Od _ _).trans (SU _ hx)
 |mulR x k hx=>exact(Lf.Od _ _).trans ((SU _ hx).trans (Int.mul_comm _ _))
noncomputable def fd (ns:R4 SH)(zs:R4 Sj)(l r:XE):SH->Prop
 |0=>dN ns l<=dN ns r |1=>dZ ns zs l<=dZ ns zs r |2=>dN ns l=dN ns r |3=>dZ ns zs l=dZ ns zs r |4=>¬dN ns l<=dN ns r |_=>¬dZ ns zs l<=dZ ns zs r
noncomputable def Oe (l r:Lf):Lf:=r.a (l.m (-1))
noncomputable def lnl (l r:Lf):Lf:=(l.a (r.m (-1))).a ⟨[],[],-1⟩
noncomputable def ff (l r:XE):SH->Lf
 |0=>Oe (lN l) (lN r) |1=>Oe (lZ l) (lZ r) |2=>Oe (lN l) (lN r) |3=>Oe (lZ l) (lZ r) |4=>lnl (lN l) (lN r) |_=>lnl (lZ l) (lZ r)
theorem Ez (l r:Lf):(Oe l r).e ns zs=r.e ns zs - l.e ns zs:=(Lf.e_a _ _).trans (SU _ ((Lf.Od _ _).trans (Ey _)))
theorem EA {l r:Lf}{y:Sj}(hx:l.e ns zs=x)(hy:r.e ns zs=y)(h:x<=y):0<=(Oe l r).e ns zs:=by rw[Ez,hx,hy];exact Y8 h
theorem EB {l r:Lf}{y:Sj}(hx:l.e ns zs=x)(hy:r.e ns zs=y)(h: ¬x<=y):0<=(lnl l r).e ns zs:=by
 show 0<=((Oe r l).a ⟨[],[],-1⟩).e ns zs;rw[Lf.e_a,Ez,hx,hy,JM];exact Y8 (Int.le_sub_left_of_add_le (Int.lt_of_not_ge h))
theorem tD {l r:Lf}{y:Sj}(hx:l.e ns zs=x)(hy:r.e ns zs=y)(h:x=y):(Oe l r).e ns zs=0:=by rw[Ez,hx,hy,h];exact Int.sub_self y
theorem AA {l r:XE}(k:SH)(h:fd ns zs l r k):0<=(ff l r k).e ns zs:=by
 rcases k with _ |_ |_ |_ |_ |k;·exact EA (nB l) (nB r) (XI.mpr h)
 ·exact EA (nD l) (nD r) h
 ·exact V7 (tD (nB l) (nB r) (SU Wb h)).symm
 ·exact V7 (tD (nD l) (nD r) h).symm
 ·exact EB (nB l) (nB r) λz=>h (XI.mp z)
 ·exact EB (nD l) (nD r) h
noncomputable def qkk (c:Sj):SH->Tn |2=>Sn |3=>Sn |_=>decide (0<=c)
theorem Ph {c:Sj}{l r:XE}(k:SH)(hk:qkk c k=Sn)(h:fd ns zs l r k):0<=c*(ff l r k).e ns zs:=by
 rcases k with _ |_ |_ |_ |_ |k;·exact W6 (SB hk) (AA 0 h)
 ·exact W6 (SB hk) (AA 1 h)
 ·exact V7 ((SU _ (tD (nB l) (nB r) (SU Wb h))).trans (XJ c)).symm
 ·exact V7 ((SU _ (tD (nD l) (nD r) h)).trans (XJ c)).symm
 ·exact W6 (SB hk) (AA 4 h)
 ·exact W6 (SB hk) (AA (k+5) h)
inductive XH where |e |c (k:SH)(c:Sj)(l r:XE)(t:XH)
noncomputable def lne:R4 Sj->Tn |[]=>Sn |a::x=>Ui (Ul (a<=0)) (lne x) Sf
noncomputable def lze:R4 Sj->Tn |[]=>Sn |a::x=>Ui (Ul (a=0)) (lze x) Sf
noncomputable def Pj:XH->Lf->Tn |.e,f=>Ui (lne f.p) (Ui (lze f.q) (Ul (f.r<0)) Sf) Sf |.c k c l r t,f=>Ui (qkk c k) (Pj t (((ff l r k).m c).a f)) Sf
noncomputable def imp (ns:R4 SH)(zs:R4 Sj)(G:Prop):XH->Prop |.e=>G |.c k _ l r t=>fd ns zs l r k->imp ns zs G t
theorem JN {a:Tn}(h:Ui a b Sf=Sn):a=Sn/\b=Sn:=by cases a with |true=>exact⟨rfl,h⟩ |false=>exact nomatch h
theorem Pk (x:R4 Sj)(h:lne x=Sn): ∀ns,dot x (cN ns)<=0:=by
 induction x with
 |nil=>intro ns;exact Int.le_refl 0
 |cons a x ih=>intro ns;cases ns with
  |nil=>exact Int.le_refl 0
  |cons n ns=>exact Int.add_nonpos (Int.mul_nonpos_of_nonpos_of_nonneg (SB (JN h).1) (U8 n)) (ih (JN h).2 ns)
theorem Pl (x:R4 Sj)(h:lze x=Sn): ∀zs,dot x zs=0:=by
 induction x with
 |nil=>intro zs;rfl
 |cons a x ih=>intro zs;cases zs with
  |nil=>rfl
  |cons n zs=>exact(congr (SU _ ((SU (· *n) (SB (JN h).1)).trans (Int.zero_mul n))) (ih (JN h).2 zs)).trans (V6 0)
theorem Pm {G:Prop}(t:XH): ∀(f:Lf),Pj t f=Sn->0<=f.e ns zs->imp ns zs G t:=by
 induction t with
 |e=>intro f h q;obtain⟨h1,h⟩:=JN h;obtain⟨h2,h3⟩:=JN h;have b:=Pk _ h1 ns;have c:=Pl _ h2 zs;have q':0<=dot f.p (cN ns)+dot f.q zs+f.r:=q;rw[c,Vv]at q';exact Sw q' (Int.not_le.mpr (Int.add_neg_of_nonpos_of_neg b (SB h3)))
 |c k c l r t ih=>
  intro f h q hf;obtain⟨h1,h2⟩:=JN h;have z:0<=(((ff l r k).m c).a f).e ns zs:=by rw[Lf.e_a,Lf.Od];exact Int.add_nonneg (Ph k h1 hf) q
  exact ih _ h2 z
theorem e_z:0<=(Lf.mk [] [] 0).e ns zs:=V7 (JM 0).symm
theorem xF (ns:R4 SH)(zs:R4 Sj)(t:XH){G:Prop}(h:Pj t ⟨[],[],0⟩=Sn):imp ns zs G t:=Pm t _ h e_z
theorem EC {G:Prop}(t:XH)(h: ¬G->imp ns zs G t):imp ns zs G t:=by
 by_cases g:G
 ·clear h;induction t with
  |e=>exact g
  |c k c l r t ih=>exact λO=>ih
 ·exact h g
theorem xN (ns:R4 SH)(zs:R4 Sj)(l r:XE)(c:Sj)(t:XH)(h:Pj (.c 4 c l r t) ⟨[],[],0⟩=Sn):imp ns zs (dN ns l<=dN ns r) t:=EC t (xF ns zs (.c 4 c l r t) h)
theorem xZ (ns:R4 SH)(zs:R4 Sj)(l r:XE)(c:Sj)(t:XH)(h:Pj (.c 5 c l r t) ⟨[],[],0⟩=Sn):imp ns zs (dZ ns zs l<=dZ ns zs r) t:=EC t (xF ns zs (.c 5 c l r t) h)
noncomputable def frc (n:SH)(k:SH->α):α:=Nat.casesOn n (k 0) λm=>k (m+1)
noncomputable def dL :SH->SH->(SH->SH->α)->α |0,n,k=>k 0 n |f+1,n,k=>frc (n / 16) λm=>dL f m λv r=>k (n % 16+16*v) r
def dI (n:SH)(k:SH->SH->α):α:=frc (n / 16) λm=>dL (n % 16) m k
noncomputable def dE :SH->SH->(XE->SH->α)->α
 |0,n,k=>k n0 n
 |f+1,n,k=>frc (n / 16) λm=>Ui (Nat.blt (n % 16) 10) (k (.var (n % 16)) m) (Ui (Wm (n % 16) 10) (dE f m λx r=>k (vS x) r) (Ui (Wm (n % 16) 11) (dE f m λx r=>dE f r λy r=>k (.add x y) r)
  (Ui (Wm (n % 16) 12) (dI m λv r=>k (.num v) r) (Ui (Wm (n % 16) 13) (dI m λv r=>k (.num (-v)) r) (Ui (Wm (n % 16) 14) (dI m λv r=>dE f r λx r=>k (.mulL v x) r)
  (frc (m / 16) λu=>Ui (Wm (m % 16) 0) (dE f u λx r=>dE f r λy r=>k (.sub x y) r) (Ui (Wm (m % 16) 1) (dE f u λx r=>k (.neg x) r) (Ui (Wm (m % 16) 2) (dI u λv r=>dE f r λx r=>k (.mulR x v) r) (dI u λv r=>k (.var v) r)))))))))
noncomputable def dH:SH->SH->XH
 |0,_=>.e
 |f+1,n=>Ui (Wm (n % 16) 15) .e (frc (n / 256) λm=>dE 9 m λl r=>dE 9 r λx r=>.c (n % 16) ((n / 16 % 16:SH) - 4) l x (dH f r))
noncomputable def gN (ns:R4 SH)(zs:R4 Sj):XH->Prop |.e=>True |.c _ _ l r t=>imp ns zs (dN ns l<=dN ns r) t
noncomputable def gZ (ns:R4 SH)(zs:R4 Sj):XH->Prop |.e=>True |.c _ _ l r t=>imp ns zs (dZ ns zs l<=dZ ns zs r) t
noncomputable def gk (k:SH):XH->Tn |.e=>Sf |.c j c l r t=>Ui (Wm j k) (Pj (.c j c l r t) ⟨[],[],0⟩) Sf
theorem yN (ns:R4 SH)(zs:R4 Sj)(n:SH)(h:gk 4 (dH 20 n)=Sn):gN ns zs (dH 20 n):=by
 cases e:dH 20 n with
 |e=>exact TK
 |c j c l r t=>replace h:=e▸h;obtain⟨h1,h2⟩:=JN h;obtain rfl:=Y2 h1;exact xN ns zs l r c t h2
theorem yZ (ns:R4 SH)(zs:R4 Sj)(n:SH)(h:gk 5 (dH 20 n)=Sn):gZ ns zs (dH 20 n):=by
 cases e:dH 20 n with
 |e=>exact TK
 |c j c l r t=>replace h:=e▸h;obtain⟨h1,h2⟩:=JN h;obtain rfl:=Y2 h1;exact xZ ns zs l r c t h2
theorem yF (ns:R4 SH)(zs:R4 Sj)(n:SH){G:Prop}(h:Pj (dH 20 n) ⟨[],[],0⟩=Sn):imp ns zs G (dH 20 n):=xF ns zs (dH 20 n) h
theorem li (a b:SH):a<=a - b+b:=Nat.le_add_of_sub_le (S8 _)
theorem i6 {a b:SH}(h:b<=a):a - b+b<=a:=XD (Nat.sub_add_cancel h)
theorem Of {a b:SH}(h:a<=b):a - b<=0:=XD (Nat.sub_eq_zero_of_le h)
theorem uY {a b:SH}(h:a<=b)(q:a≠b):a+1<=b:=Nat.lt_of_le_of_ne h q
theorem JO {a b:Sj}(h:a<=b)(q:a≠b):a+1<=b:=Int.lt_iff_le_and_ne.mpr ⟨h,q⟩
theorem sb (x:Sj): -x<=(x.natAbs:Sj):=S4 x▸Ts
theorem jX (h:0<=x):(x.natAbs:Sj)<=x:=V7 (Za h)
theorem my (h:x<=0):(x.natAbs:Sj)<=-x:=S4 x▸jX (Int.neg_nonneg_of_nonpos h)
end
section
theorem c6 {P:Prop}{a:α}(h:Sg=R3 a):P:=by cases h
theorem Eh {P:Prop}{a:α}(h:R3 a=Sg):P:=by cases h
theorem dq {P:Prop}(h:Sf=Sn):P:=by cases h
theorem gV {P:Prop}(h:Sn=Sf):P:=by cases h
theorem jY {P:Prop}{a:α}(h:a∈([]:R4 α)):P:=by cases h
theorem adq {P:Prop}{a:α}{l:R4 α}(h:a::l=[]):P:=by cases h
theorem adr {P:Prop}{a:α}{l:R4 α}(h:[]=a::l):P:=by cases h
inductive X2 (p:t1->t2->Prop):Prop
 |mk (a:t1) (b:t2):p a b->X2 p
inductive X3 (p:t1->t2->t3->Prop):Prop
 |mk (a:t1) (b:t2) (c:t3):p a b c->X3 p
inductive X4 (p:t1->t2->t3->t4->Prop):Prop
 |mk (a:t1) (b:t2) (c:t3) (d:t4):p a b c d->X4 p
inductive X5 (p:t1->t2->t3->t4->t5->Prop):Prop
 |mk (a:t1) (b:t2) (c:t3) (d:t4) (e:t5):p a b c d e->X5 p
inductive X6 {t6:Type}(p:t1->t2->t3->t4->t5->t6->Prop):Prop
 |mk (a:t1) (b:t2) (c:t3) (d:t4) (e:t5) (f:t6):p a b c d e f->X6 p
inductive X7 {t6 t7:Type}(p:t1->t2->t3->t4->t5->t6->t7->Prop):Prop
 |mk (a:t1) (b:t2) (c:t3) (d:t4) (e:t5) (f:t6) (g:t7):p a b c d e f g->X7 p
inductive X8 {t6 t7 t8:Type}(p:t1->t2->t3->t4->t5->t6->t7->t8->Prop):Prop
 |mk (a:t1) (b:t2) (c:t3) (d:t4) (e:t5) (f:t6) (g:t7) (h:t8):p a b c d e f g h->X8 p
inductive X9 {t6 t7 t8 t9:Type}(p:t1->t2->t3->t4->t5->t6->t7->t8->t9->Prop):Prop
 |mk (a:t1) (b:t2) (c:t3) (d:t4) (e:t5) (f:t6) (g:t7) (h:t8) (i:t9):p a b c d e f g h i->X9 p
inductive C3 (p1 p2 p3:Prop):Prop
 |mk:p1->p2->p3->C3 p1 p2 p3
inductive C4 (p1 p2 p3 p4:Prop):Prop
 |mk:p1->p2->p3->p4->C4 p1 p2 p3 p4
inductive C5 (p1 p2 p3 p4 p5:Prop):Prop
 |mk:p1->p2->p3->p4->p5->C5 p1 p2 p3 p4 p5
inductive C6 (p1 p2 p3 p4 p5 p6:Prop):Prop
 |mk:p1->p2->p3->p4->p5->p6->C6 p1 p2 p3 p4 p5 p6
inductive C7 (p1 p2 p3 p4 p5 p6 p7:Prop):Prop
 |mk:p1->p2->p3->p4->p5->p6->p7->C7 p1 p2 p3 p4 p5 p6 p7
inductive C8 (p1 p2 p3 p4 p5 p6 p7 p8:Prop):Prop
 |mk:p1->p2->p3->p4->p5->p6->p7->p8->C8 p1 p2 p3 p4 p5 p6 p7 p8
inductive C9 (p1 p2 p3 p4 p5 p6 p7 p8 p9:Prop):Prop
 |mk:p1->p2->p3->p4->p5->p6->p7->p8->p9->C9 p1 p2 p3 p4 p5 p6 p7 p8 p9
structure Ad where
 k:SH
 n:SH
inductive V where
 |none |bool (b:Tn) |int (i:Sj) |str (s:Tj) |ref (a:Ad) |glob (v:Sz) |bF (b:Tn) (vs:R4 V)
inductive SO where
 |list (vs:R4 V)
 |dict (kvs:R4 (Sj×V)) (ep:SH)
 |bB (kvs:R4 (SH×V))
 |inst (C:SM) (d:Ad)
 |range (a b:Sj)
structure St where
 loc:SH->Si V
 hp:Ad->Si SO
noncomputable def nms:R4 Tj:=["clauses","places","held","open","begun","empty","taken","trail","clash",
 "known","heights","causes","row","begins","seen","liked",
 "rows","watching","heats","gain","log","is_refuted","blamed","clashes","conflict_limit",
 "cells","spot"]
def nm (i:SH):Tj:=(nms[i]?).getD "?"
noncomputable abbrev WM (α:Type):=St->(α->St->Prop)->Prop
noncomputable def ae {α}(a:α):WM α:=λJ Q=>Q a J
def bk {α β}(h:α->WM β)(Q:β->St->Prop):α->St->Prop:=λa J=>h a J Q
noncomputable def Z {α β}(f:WM α)(h:α->WM β):WM β:=λJ Q=>f J (bk h Q)
noncomputable def aJ {α}:WM α:=λO O=>False
open Classical in
noncomputable def St.eM (J:St)(a:Ad)(o:SO):St:={J with hp:=λb=>if b=a then R3 o else J.hp b}
noncomputable def St.mB (J:St)(i:SH)(v:V):St:={J with loc:=λj=>if j=i then R3 v else J.loc j}
structure bW where
 dG:Ad->Si SM
 bF:SM->Si (Tn×R4 V)
def Ext (ρ bG:bW):Prop:=(∀a x,ρ.dG a=R3 x->bG.dG a=R3 x)/\∀x p,ρ.bF x=R3 p->bG.bF x=R3 p
theorem Ext.refl (ρ:bW):Ext ρ ρ:=⟨λO O e=>e,λO O e=>e⟩
theorem Ext.trans {a b c:bW}(h:Ext a b)(h':Ext b c):Ext a c:=⟨λO O e=>h'.1 _ _ (h.1 _ _ e),λO O e=>h'.2 _ _ (h.2 _ _ e)⟩
noncomputable def sg (b:Tn):Vn:=if b then "tuple" else "list"
noncomputable def VR (ρ:bW):V->Sz->Prop
 |.none,v=>v=.none
 |.bool b,v=>v=.bool b
 |.int i,v=>∃t,v=.int i t
 |.str s,v=>∃t,v=.str s t
 |.ref a,v=>∃x,ρ.dG a=R3 x/\v=.ref x
 |.glob g,v=>v=g
 |.bF b vs,v=>∃x,ρ.bF x=R3 (b,vs)/\v=.ref x
theorem VR.mono {ρ bG:bW}(e:Ext ρ bG){x:V}(h:VR ρ x v):VR bG x v:=by
 cases x with
 |ref a=>obtain⟨x,h,q⟩:=h;exact⟨x,e.1 _ _ h,q⟩
 |bF a b=>obtain⟨x,h,q⟩:=h;exact⟨x,e.2 _ _ h,q⟩
 |_=>exact h
noncomputable def F2 (R:α->β->Prop):R4 α->R4 β->Prop
 |[],[]=>True
 |a::as,b::bs=>R a b/\F2 R as bs
 |_,_=>False
theorem F2.ind {R:α->β->Prop}{P:(as:R4 α)->(bs:R4 β)->F2 R as bs->Prop}(nil:P [] [] trivial)(cons: ∀a b as bs (r:R a b) (t:F2 R as bs),P as bs t->P (a::as) (b::bs) ⟨r,t⟩){as:R4 α}: ∀{bs:R4 β} (h:F2 R as bs),P as bs h:=by
 induction as with
 |nil=>intro bs h;cases bs with
  |nil=>exact nil
  |cons=>exact h.elim
 |cons a as ih=>intro bs h;cases bs with
  |nil=>exact h.elim
  |cons b bs=>exact cons a b as bs h.1 h.2 (ih h.2)
section
variable{R R':α->β->Prop}{as xM:R4 α}{bs bs':R4 β}
theorem F2.imp (q: ∀a b,R a b->R' a b)(h:F2 R as bs):F2 R' as bs:=by
 induction h using F2.ind with
 |nil=>trivial
 |cons a b as bs r t ih=>exact⟨q _ _ r,ih⟩
theorem F2.len (h:F2 R as bs):bs.length=as.length:=by
 induction h using F2.ind with
 |nil=>rfl
 |cons a b as bs r t ih=>exact SU (· +1) ih
theorem F2.get (h:F2 R as bs): ∀{i:SH} {a:α},as[i]? =R3 a->∃b,bs[i]? =R3 b/\R a b:=by
 induction h using F2.ind with
 |nil=>intro i a e;exact c6 e
 |cons a b as bs r t ih=>intro i a' e;cases i with
  |zero=>obtain rfl:=R7 e;exact⟨_,rfl,r⟩
  |succ i=>exact ih (i:=i) e
theorem F2.app (h:F2 R as bs)(h':F2 R xM bs'):F2 R (as++xM) (bs++bs'):=by
 induction h using F2.ind with
 |nil=>exact h'
 |cons a b as bs r t ih=>exact⟨r,ih⟩
theorem F2.set (h:F2 R as bs): ∀(i:SH) {a:α} {b:β},R a b->F2 R (as.set i a) (bs.set i b):=by
 induction h using F2.ind with
 |nil=>exact λO O O O=>trivial
 |cons a b as bs r t ih=>intro i a' b' q;cases i with
  |zero=>exact⟨q,t⟩
  |succ i=>exact⟨r,ih i q⟩
theorem F2.take (n:SH)(h:F2 R as bs):F2 R (as.take n) (bs.take n):=by
 induction h using F2.ind generalizing n with
 |nil=>rw[List.take_nil,List.take_nil];trivial
 |cons a b as bs r t ih=>cases n with
  |zero=>trivial
  |succ n=>exact⟨r,ih n⟩
theorem F2.drop (n:SH)(h:F2 R as bs):F2 R (as.drop n) (bs.drop n):=by
 induction h using F2.ind generalizing n with
 |nil=>rw[YF,YF];trivial
 |cons a b as bs r t ih=>cases n with
  |zero=>exact⟨r,t⟩
  |succ n=>exact ih n
end
abbrev ja (ρ:bW):=F2 (VR ρ)
theorem ja.mono {ρ bG:bW}(e:Ext ρ bG){x:R4 V}{v:R4 Sz}(h:ja ρ x v):ja bG x v:=F2.imp (λO O=>VR.mono e) h
def PR (ρ:bW)(p:Sj×V)(q:Sj×Sz):Prop:=p.1=q.1/\VR ρ p.2 q.2
def NR (ρ:bW)(p:SH×V)(q:Tj×Sz):Prop:=q.1=nm p.1/\p.1<27/\VR ρ p.2 q.2
def JP (prog:Yi)(w:ZX)(o:WW)(kvs:R4 (Sj×Sz))(ep:SH):Prop:=
 ∃es,o.ExactDict/\o.data=.dict es ep/\KeysOf (intKind prog w) es/\Pairs (intKind prog w) es.toList kvs/\(kvs.map (·.1)).Nodup
theorem JP.of {kvs:R4 (Sj×Sz)}(h:o.IsDictOf (intKind prog w) kvs): ∃ep,JP prog w o kvs ep:=by obtain⟨es,ep,r⟩:=h;exact⟨ep,es,r⟩
theorem JP.is {kvs:R4 (Sj×Sz)}(h:JP prog w o kvs ep):o.IsDictOf (intKind prog w) kvs:=by obtain⟨es,r⟩:=h;exact⟨es,ep,r⟩
noncomputable def OR (prog:Yi)(w:ZX)(ρ:bW):SO->WW->Prop
 |.list vs,o=>∃xs n,o={cls:=.type "list",data:=.seq xs n}/\ja ρ vs xs.toList
 |.dict kvs ep,o=>∃aF,JP prog w o aF ep/\F2 (PR ρ) kvs aF/\∀p∈kvs,-1000<=p.1/\p.1<=1000
 |.bB kvs,o=>∃aF,o.IsDictOf (strKind prog w) aF/\F2 (NR ρ) kvs aF
 |.inst C d,o=>∃dx,ρ.dG d=R3 dx/\o={cls:=.ref C,dict:=R3 dx,data:=.plain}
 |.range a b,o=>∃t u v,o={cls:=.type "range",data:=.fields #[.int a t,.int b u,.int 1 v]}
theorem OR.mono {ρ bG:bW}(e:Ext ρ bG){so:SO}(h:OR prog w ρ so o):OR prog w bG so o:=by
 cases so with
 |list=>obtain⟨xs,n,h,r⟩:=h;exact⟨xs,n,h,r.mono e⟩
 |dict=>obtain⟨k,h,r,q⟩:=h;exact⟨k,h,r.imp λO O z=>⟨z.1,z.2.mono e⟩,q⟩
 |bB=>obtain⟨k,h,r⟩:=h;exact⟨k,h,r.imp λO O z=>⟨z.1,z.2.1,z.2.2.mono e⟩⟩
 |inst=>obtain⟨dx,h,r⟩:=h;exact⟨dx,e.1 _ _ h,r⟩
 |range=>exact h
theorem OR.JQ {ρ:bW}{so:SO}(h:OR prog w ρ so o):o.isFreed=Sf:=by
 cases so with
 |list=>obtain⟨xs,n,h,r⟩:=h;rw[h];rfl
 |dict=>obtain⟨k,⟨es,h,d,_⟩,r⟩:=h;exact Zg d
 |bB=>obtain⟨k,⟨es,ep,h,d,_⟩,r⟩:=h;exact Zg d
 |inst=>obtain⟨dx,h,r⟩:=h;rw[r];rfl
 |range=>obtain⟨_,_,_,h⟩:=h;rw[h];rfl
structure Un where
 prog:Yi
 w:ZX
 K:Vc
 base:We
 os:OsState
 mg:Tj->Si Sz
 mb:Tj->Si Sz
 rk:K.In base
 g:base.Ns mainGlobals mg
 b:base.Ns builtinsNs mb
 bi: ∀x:Tj,x≠"__name__"->mb x=bootBuiltins x
 sj:base.NoLimit
inductive Loc where
 |ns |cell (own:Tn) (d:SM) |Pn
structure Cx where
 L:SM
 vars:R4 (Tj×Loc)
 o9:R4 Y4
noncomputable def Cx.sl (c:Cx):R4 SM:=c.o9.filterMap (·.frame)
structure Fz (sl:R4 SM)(b:SM)(o:WW)(q:Si WW):Prop where
 ex:b∉sl->q=R3 o
 up: ∃x,q=R3 {o with slots:=x}
theorem Fz.of {sl:R4 SM}{b:SM}{q:Si WW}(h:q=R3 o):Fz sl b o q:=⟨λO=>h,o.slots,h⟩
theorem Fz.keep {sl:R4 SM}{b:SM}{q q':Si WW}(h:Fz sl b o q)(k: ∀o,q=R3 o->q'=R3 o):Fz sl b o q':=⟨λn=>k _ (h.ex n),by obtain⟨x,e⟩:=h.up;exact⟨x,k _ e⟩⟩
theorem Fz.no {sl:R4 SM}{b:SM}{q:Si WW}(h:Fz sl b o q)(e:q=Sg):False:=by
 obtain⟨x,z⟩:=h.up;replace z:=e▸z;cases z
def Pp (B:We)(g:SM->Si WW)(L:SM)(e:Y4):Prop:=(e.scope.kind≠.module/\∀x,e.frame=R3 x->B.get? x=Sg)/\∃x,e.frame=R3 x/\(x=L\/∃o,g x=R3 o/\∀vs,o.data≠.fields vs)
def LR (ρ:bW)(o:Si V)(m:Si Sz):Prop:=∀x,o=R3 x->∃v,m=R3 v/\VR ρ x v
theorem LR.mono {ρ bG:bW}(e:Ext ρ bG){o:Si V}{m:Si Sz}(h:LR ρ o m):LR bG o m:=λx q=>by obtain⟨v,a,b⟩:=h x q;exact⟨v,a,b.mono e⟩
structure OK (U:Un)(g:SM->Si WW)(c:Cx)(ρ:bW)(J:St)(s:TD):Prop where
 keep: ∀b o,U.base.get? b=R3 o->s.heap.get? b=R3 o
 cI: ∀b o,g b=R3 o->Fz c.sl b o (s.heap.get? b)
 k7: ∀e∈c.o9,Pp U.base g c.L e
 hp: ∀a so,J.hp a=R3 so->∃x o,ρ.dG a=R3 x/\s.heap.get? x=R3 o/\OR U.prog U.w ρ so o
 j9: ∀a x,ρ.dG a=R3 x->∃so,J.hp a=R3 so
 inj: ∀a b x,ρ.dG a=R3 x->ρ.dG b=R3 x->a=b
 low: ∀a x,ρ.dG a=R3 x->@XS SH _ 2 x
 eE: ∀a x,ρ.dG a=R3 x->U.base.get? x=Sg
 dr: ∀a x,ρ.dG a=R3 x->g x=Sg
 db: ∀a x,ρ.dG a=R3 x->x≠c.L
 eF: ∀a x,ρ.dG a=R3 x->∀(i:SH) (y:Tj) (ob:Tn) (d:SM),c.vars[i]? =R3 (y,Loc.cell ob d)->x≠d
 eO:U.base.get? c.L=Sg
 eG:g c.L=Sg
 eZ: ∀(i:SH) (y:Tj) (ob:Tn) (d:SM),c.vars[i]? =R3 (y,Loc.cell ob d)->d≠c.L
 dT: ∀(i:SH) (y:Tj) (d:SM),c.vars[i]? =R3 (y,Loc.cell Sn d)->U.base.get? d=Sg/\g d=Sg
 apart: ∀(i j:SH) (y z:Tj) (ob oc:Tn) (d:SM),c.vars[i]? =R3 (y,Loc.cell ob d)->c.vars[j]? =R3 (z,Loc.cell oc d)->i=j
 names: ∀(i j:SH) (y:Tj),c.vars[i]? =R3 (y,Loc.ns)->c.vars[j]? =R3 (y,Loc.ns)->i=j
 ns: ∃m,s.heap.Ns c.L m/\∀(i:SH) (y:Tj),c.vars[i]? =R3 (y,Loc.ns)->LR ρ (J.loc i) (m y)
 cells: ∀(i:SH) (y:Tj) (ob:Tn) (d:SM),c.vars[i]? =R3 (y,Loc.cell ob d)->∃cv,s.heap.IsCell d cv/\LR ρ (J.loc i) cv
 im: ∀x b vs,ρ.bF x=R3 (b,vs)->∃xs n,s.heap.get? x=R3 {cls:=.type (sg b),data:=.seq xs n}/\ja ρ vs xs.toList
 k9: ∀a x,ρ.dG a=R3 x->ρ.bF x=Sg
 kA: ∀x o,g x=R3 o->ρ.bF x=Sg
 kB:ρ.bF c.L=Sg
 mC: ∀(i:SH) (y:Tj) (ob:Tn) (d:SM),c.vars[i]? =R3 (y,Loc.cell ob d)->ρ.bF d=Sg
 gens:s.gens= #[]
 os:s.os=U.os
section
variable{U:Un}{c:Cx}{ρ:bW}{J:St}
theorem OK.K (h:OK U g c ρ J s):U.K.In s.heap:=U.rk.keeps h.keep
theorem OK.fresh (h:OK U g c ρ J s){a:Ad}(e:J.hp a=Sg):ρ.dG a=Sg:=by
 cases q:ρ.dG a with
 |none=>rfl
 |some x=>obtain⟨so,z⟩:=h.j9 _ _ q;replace z:=e▸z;cases z
theorem OK.two (h:OK U g c ρ J s):@XS SH _ 2 s.heap.objs.size:=by
 obtain⟨mc,⟨o',es,ep,q,_⟩,_⟩:=U.sj;exact TA (h.keep _ _ q)
theorem OK.Pq (h:OK U g c ρ J s){a:Ad}{x:SM}(e:ρ.dG a=R3 x):x<s.heap.objs.size:=by
 obtain⟨so,z⟩:=h.j9 _ _ e;obtain⟨x',o,e',q,_⟩:=h.hp _ _ z;replace e':=e▸e';obtain rfl:=R7 e';exact TA q
theorem OK.grow (h:OK U g c ρ J s)(k: ∀b o,s.heap.get? b=R3 o->s'.heap.get? b=R3 o)(hg:autoParam (s'.gens=s.gens) br)(ho:autoParam (s'.os=s.os) br):OK U g c ρ J s' where
 keep:=λb o e=>k _ _ (h.keep b o e)
 cI:=λb o e=>(h.cI b o e).keep (k b)
 k7:=h.k7
 hp:=λa so e=>by obtain⟨x,o,p,q,r⟩:=h.hp a so e;exact⟨x,o,p,k _ _ q,r⟩
 j9:=h.j9
 inj:=h.inj
 low:=h.low
 eE:=h.eE
 dr:=h.dr
 db:=h.db
 eF:=h.eF
 eO:=h.eO
 eG:=h.eG
 eZ:=h.eZ
 dT:=h.dT
 apart:=h.apart
 names:=h.names
 ns:=by obtain⟨m,a,b⟩:=h.ns;exact⟨m,a.keeps k,b⟩
 cells:=λi y ob d e=>by obtain⟨cv,a,b⟩:=h.cells i y ob d e;exact⟨cv,a.keeps k,b⟩
 im:=λx b vs e=>by obtain⟨xs,n,p,q⟩:=h.im x b vs e;exact⟨xs,n,k _ _ p,q⟩
 k9:=h.k9
 kA:=h.kA
 kB:=h.kB
 mC:=h.mC
 gens:=hg.trans h.gens
 os:=ho.trans h.os
theorem OK.tok (h:OK U g c ρ J s)(t:SH):OK U g c ρ J {s with toks:=t}:=h.grow (s':={s with toks:=t}) λO O e=>e
open Classical in
noncomputable def bW.add (ρ:bW)(a:Ad)(x:SM):bW:={ρ with dG:=λb=>if b=a then R3 x else ρ.dG b}
theorem bW.AB {ρ:bW}{a:Ad}{x:SM}(e:ρ.dG a=Sg):Ext ρ (ρ.add a x):=⟨λb y q=>by
 unfold bW.add;dsimp only;split;·rename_i z;replace q:=e▸z▸q;cases q
 ·exact q,λO O q=>q⟩
open Classical in
noncomputable def bW.bY (ρ:bW)(x:SM)(b:Tn)(vs:R4 V):bW:={ρ with bF:=λy=>if y=x then R3 (b,vs)else ρ.bF y}
theorem bW.vj {ρ:bW}{x:SM}{vs:R4 V}(e:ρ.bF x=Sg):Ext ρ (ρ.bY x b vs):=⟨λO O q=>q,λy p q=>by
 unfold bW.bY;dsimp only;split;·rename_i z;replace q:=e▸z▸q;cases q
 ·exact q⟩
theorem OK.new (h:OK U g c ρ J s){a:Ad}(e:J.hp a=Sg){so:SO}(r:OR U.prog U.w ρ so o){x:SM}(hx:s.heap.get? x=Sg)(h2:@XS SH _ 2 x)
  (mD:s'.heap.get? x=R3 o) (k: ∀b o,s.heap.get? b=R3 o->s'.heap.get? b=R3 o) (hg:autoParam (s'.gens=s.gens) br) (ho:autoParam (s'.os=s.os) br):
  Ext ρ (ρ.add a x)/\(ρ.add a x).dG a=R3 x/\OK U g c (ρ.add a x) (J.eM a so) s':=by
 have ex:=bW.AB (x:=x) (h.fresh e);have lo: ∀b y,ρ.dG b=R3 y->y≠x:=λb y q z=>by obtain⟨so,z'⟩:=h.j9 _ _ q;obtain⟨y',o,e',q',_⟩:=h.hp _ _ z';replace e':=q▸e';obtain rfl:=R7 e';replace q':=hx▸z▸q';cases q'
 have cut: ∀b y,(ρ.add a x).dG b=R3 y->(b=a/\y=x)\/(b≠a/\ρ.dG b=R3 y):=λb y q=>by
  unfold bW.add at q;dsimp only at q;split at q;·rename_i z;exact .inl ⟨z,(R7 q).symm⟩
  ·rename_i z;exact .inr ⟨z,q⟩
 have G:=h.grow k hg ho;refine⟨ex,by simp[bW.add],?_⟩;have ads:=h2;have xb:U.base.get? x=Sg:=by
  cases q:U.base.get? x with
  |none=>rfl
  |some z=>have:=h.keep _ _ q;replace this:=hx▸this;cases this
 have xg:g x=Sg:=by
  cases q:g x with
  |none=>rfl
  |some z=>exact((h.cI _ _ q).no hx).elim
 have xi:ρ.bF x=Sg:=by
  cases q:ρ.bF x with
  |none=>rfl
  |some z=>obtain⟨b,vs⟩:=z;obtain⟨xs,n,p,_⟩:=h.im x b vs q;rw[hx]at p;cases p
 have xL:x≠c.L:=λq=>by obtain⟨m,⟨o',es,ep,kC,_⟩,_⟩:=h.ns;replace kC:=hx▸q▸kC;cases kC
 have xC: ∀(i:SH) (y:Tj) (ob:Tn) (d:SM),c.vars[i]? =R3 (y,Loc.cell ob d)->x≠d:=λi y ob d q z=>by obtain⟨cv,⟨o',kC,_⟩,_⟩:=h.cells i y ob d q;replace kC:=hx▸z▸kC;cases kC
 exact{
  keep:=G.keep
  cI:=G.cI
  k7:=h.k7
  hp:=λb JR q=>by
   unfold St.eM at q;dsimp only at q;split at q
   ·rename_i z;obtain rfl:=R7 q;subst z;exact⟨x,o,by simp[bW.add],mD,r.mono ex⟩
   ·obtain⟨y,o',p,q',r'⟩:=G.hp b JR q;exact⟨y,o',ex.1 _ _ p,q',r'.mono ex⟩
  j9:=λb y q=>by
   unfold St.eM;dsimp only;rcases cut b y q with ⟨z,_⟩ |⟨z,q⟩;·exact⟨so,by simp[z]⟩
   ·obtain⟨JR,e'⟩:=h.j9 b y q;exact⟨JR,by simp[z,e']⟩
  inj:=λb d y p q=>by
   rcases cut b y p with ⟨z,w⟩ |⟨z,p⟩<;>rcases cut d y q with ⟨z',w'⟩ |⟨z',q⟩;·rw[z,z']
   ·exact Sw w (lo _ _ q)
   ·exact Sw w' (lo _ _ p)
   ·exact h.inj b d y p q
  low:=λb y q=>by
   rcases cut b y q with ⟨_,rfl⟩ |⟨_,q⟩;·exact ads
   ·exact h.low b y q
  eE:=λb y q=>by
   rcases cut b y q with ⟨_,rfl⟩ |⟨_,q⟩;·exact xb
   ·exact h.eE b y q
  dr:=λb y q=>by
   rcases cut b y q with ⟨_,rfl⟩ |⟨_,q⟩;·exact xg
   ·exact h.dr b y q
  db:=λb y q=>by
   rcases cut b y q with ⟨_,rfl⟩ |⟨_,q⟩;·exact xL
   ·exact h.db b y q
  eF:=λb y q=>by
   rcases cut b y q with ⟨_,rfl⟩ |⟨_,q⟩;·exact xC
   ·exact h.eF b y q
  eO:=h.eO
  eG:=h.eG
  eZ:=h.eZ
  dT:=h.dT
  apart:=h.apart
  names:=h.names
  ns:=let⟨m,p,q⟩:=G.ns;⟨m,p,λi y z=>(q i y z).mono ex⟩
  cells:=λi y ob d z=>let⟨cv,p,q⟩:=G.cells i y ob d z;⟨cv,p,q.mono ex⟩
  im:=λy b vs q=>let⟨xs,n,p,r⟩:=G.im y b vs q;⟨xs,n,p,r.mono ex⟩
  k9:=λb y q=>by
   rcases cut b y q with ⟨_,rfl⟩ |⟨_,q⟩;·exact xi
   ·exact h.k9 b y q
  kA:=h.kA
  kB:=h.kB
  mC:=h.mC
  gens:=G.gens
  os:=G.os}
theorem OK.push (h:OK U g c ρ J s){a:Ad}(e:J.hp a=Sg){so:SO}(r:OR U.prog U.w ρ so o):
  Ext ρ (ρ.add a s.heap.objs.size)/\(ρ.add a s.heap.objs.size).dG a=R3 s.heap.objs.size/\OK U g c (ρ.add a s.heap.objs.size) (J.eM a so) {s with heap:=s.heap.push o}:=
 h.new (s':={s with heap:=s.heap.push o}) e r (by
  cases q:s.heap.get? s.heap.objs.size with
  |none=>rfl
  |some z=>exact Sw (TA q) (Uq _)) h.two (To _ r.JQ) (λb o' e'=>Sp _ e')
theorem OK.adt (h:OK U g c ρ J s){vs:R4 V}(r:ja ρ vs xs.toList){x:SM}(hx:s.heap.get? x=Sg)
  (mD:s'.heap.get? x=R3 {cls:=.type (sg b),data:=.seq xs n}) (k: ∀b o,s.heap.get? b=R3 o->s'.heap.get? b=R3 o) (hg:autoParam (s'.gens=s.gens) br) (ho:autoParam (s'.os=s.os) br):
  Ext ρ (ρ.bY x b vs)/\VR (ρ.bY x b vs) (.bF b vs) (.ref x)/\OK U g c (ρ.bY x b vs) J s':=by
 have xi:ρ.bF x=Sg:=by
  cases q:ρ.bF x with
  |none=>rfl
  |some z=>obtain⟨b,vs⟩:=z;obtain⟨xs,n,p,_⟩:=h.im x b vs q;replace p:=hx▸p;cases p
 have ex:=bW.vj (b:=b) (vs:=vs) xi;have G:=h.grow k hg ho;have cut: ∀y p,(ρ.bY x b vs).bF y=R3 p->(y=x/\p=(b,vs))\/(y≠x/\ρ.bF y=R3 p):=λy p q=>by
  unfold bW.bY at q;dsimp only at q;split at q;·rename_i z;exact .inl ⟨z,(R7 q).symm⟩
  ·rename_i z;exact .inr ⟨z,q⟩
 have off: ∀y,y≠x->ρ.bF y=Sg->(ρ.bY x b vs).bF y=Sg:=λy q e=>by unfold bW.bY;dsimp only;exact(Sq q)▸(e)
 refine⟨ex,⟨x,by simp[bW.bY],rfl⟩,?_⟩;exact{
  keep:=G.keep
  cI:=G.cI
  k7:=h.k7
  hp:=λa so q=>let⟨y,o',p,q',r'⟩:=G.hp a so q;⟨y,o',p,q',r'.mono ex⟩
  j9:=h.j9
  inj:=h.inj
  low:=h.low
  eE:=h.eE
  dr:=h.dr
  db:=h.db
  eF:=h.eF
  eO:=h.eO
  eG:=h.eG
  eZ:=h.eZ
  dT:=h.dT
  apart:=h.apart
  names:=h.names
  ns:=let⟨m,p,q⟩:=G.ns;⟨m,p,λi y z=>(q i y z).mono ex⟩
  cells:=λi y ob d z=>let⟨cv,p,q⟩:=G.cells i y ob d z;⟨cv,p,q.mono ex⟩
  im:=λy b' vs' q=>by
   rcases cut y _ q with ⟨rfl,e⟩ |⟨_,q⟩;·cases e;exact⟨xs,n,mD,r.mono ex⟩
   ·obtain⟨xs',n',p,r'⟩:=G.im y b' vs' q;exact⟨xs',n',p,r'.mono ex⟩
  k9:=λa y q=>off y (λz=>by obtain⟨so,e⟩:=h.j9 a y q;obtain⟨y',o',e',q',_⟩:=h.hp a so e;replace e':=(show ρ.dG a=R3 y from q)▸e';obtain rfl:=R7 e';replace q':=hx▸z▸q';exact nomatch q') (h.k9 a y q)
  kA:=λy o q=>off y (λz=>(h.cI y o q).no (by rw[z];exact hx)) (h.kA y o q)
  kB:=off _ (λz=>by obtain⟨m,⟨o',es,ep,kC,_⟩,_⟩:=h.ns;replace kC:=hx▸z▸kC;cases kC) h.kB
  mC:=λi y ob d q=>off d (λz=>by obtain⟨cv,⟨o',kC,_⟩,_⟩:=h.cells i y ob d q;replace kC:=hx▸z▸kC;cases kC) (h.mC i y ob d q)
  gens:=G.gens
  os:=G.os}
theorem OK.put (h:OK U g c ρ J s){a:Ad}{x:SM}(e:ρ.dG a=R3 x){so:SO}(r:OR U.prog U.w ρ so o)
  (hx:s'.heap.get? x=R3 o) (k: ∀b o,b≠x->s.heap.get? b=R3 o->s'.heap.get? b=R3 o) (hg:autoParam (s'.gens=s.gens) br) (ho:autoParam (s'.os=s.os) br):OK U g c ρ (J.eM a so) s' where
 keep:=λb o q=>k _ _ (λz=>by replace q:=(h.eE a x e)▸z▸q;cases q) (h.keep b o q)
 cI:=λb o q=>(h.cI b o q).keep λo'=>k b o' (λz=>by replace q:=(h.dr a x e)▸z▸q;exact c6 q)
 k7:=h.k7
 hp:=λb JR q=>by
  unfold St.eM at q;dsimp only at q;split at q;·rename_i z;obtain rfl:=R7 q;subst z;exact⟨x,o,e,hx,r⟩
  ·rename_i z;obtain⟨y,o',p,q',r'⟩:=h.hp b JR q;exact⟨y,o',p,k _ _ (λw=>z (h.inj _ _ _ p (w▸e))) q',r'⟩
 j9:=λb y q=>by
  unfold St.eM;dsimp only;split;·exact⟨_,rfl⟩
  ·exact h.j9 b y q
 inj:=h.inj
 low:=h.low
 eE:=h.eE
 dr:=h.dr
 db:=h.db
 eF:=h.eF
 eO:=h.eO
 eG:=h.eG
 eZ:=h.eZ
 dT:=h.dT
 apart:=h.apart
 names:=h.names
 ns:=let⟨m,p,q⟩:=h.ns;⟨m,p.extBut (b:=x) (λb o z w=>k b o z w) (TH (h.db _ _ e)),q⟩
 cells:=λi y ob d z=>by obtain⟨cv,⟨o',p,p'⟩,q⟩:=h.cells i y ob d z;exact⟨cv,⟨o',k _ _ (TH (h.eF _ _ e i y ob d z)) p,p'⟩,q⟩
 im:=λy b vs q=>let⟨xs,n,p,r⟩:=h.im y b vs q;⟨xs,n,k _ _ (λw=>by have:=h.k9 _ _ e;replace this:=q▸w▸this;cases this) p,r⟩
 k9:=h.k9
 kA:=h.kA
 kB:=h.kB
 mC:=h.mC
 gens:=hg.trans h.gens
 os:=ho.trans h.os
theorem OK.JS (h:OK U g c ρ J s){a:Ad}{x:SM}(e:ρ.dG a=R3 x){so:SO}(r:OR U.prog U.w ρ so o)
  (hx:s'.heap.get? x=R3 o) (k:Vs x s.heap s'.heap) (hg:autoParam (s'.gens=s.gens) br) (ho:autoParam (s'.os=s.os) br):OK U g c ρ (J.eM a so) s':=
 h.put e r hx (λb o z w=>(k.2 b z).trans w) hg ho
theorem OK.aa0 (h:OK U g c ρ J s)(e:c.vars[i]? =R3 (y,Loc.ns)){x:V}(r:VR ρ x v){m:Tj->Si Sz}
  (hm:s.heap.Ns c.L m) (hn:s'.heap.Ns c.L (λz=>if z=y then R3 v else m z)) (k:Vs c.L s.heap s'.heap) (hg:autoParam (s'.gens=s.gens) br) (ho:autoParam (s'.os=s.os) br):OK U g c ρ (J.mB i x) s' where
 keep:=λb o q=>(k.2 b (λz=>by replace q:=h.eO▸z▸q;exact nomatch q)).trans (h.keep b o q)
 cI:=λb o q=>(h.cI b o q).keep λO w=>(k.2 b (λz=>by replace q:=h.eG▸z▸q;exact nomatch q)).trans w
 k7:=h.k7
 hp:=λb so q=>let⟨y,o',p,q',r'⟩:=h.hp b so q;⟨y,o',p,(k.2 _ (h.db _ _ p)).trans q',r'⟩
 j9:=h.j9
 inj:=h.inj
 low:=h.low
 eE:=h.eE
 dr:=h.dr
 db:=h.db
 eF:=h.eF
 eO:=h.eO
 eG:=h.eG
 eZ:=h.eZ
 dT:=h.dT
 apart:=h.apart
 names:=h.names
 ns:=⟨_,hn,λj z q=>by
  unfold St.mB;dsimp only;split
  ·rename_i w;subst w;replace q:=e▸q;cases q;intro x' e';obtain rfl:=R7 e';exact⟨v,by simp,r⟩
  ·rename_i w;have hz:z≠y:=λw'=>w (h.names j i z q (by rw[w'];exact e));obtain⟨m',vk,hl⟩:=h.ns;have em:m'=m:=by obtain⟨o1,es1,ep1,a1,b1,_,d1⟩:=vk;obtain⟨o2,es2,ep2,a2,b2,_,d2⟩:=hm;replace a2:=a1▸a2;obtain rfl:=R7 a2;rw[b1]at b2;cases b2;funext n;rw[<-d1 n,<-d2 n]
   refine(Sq hz)▸em▸?_;exact hl j z q⟩
 cells:=λj z ob d q=>by
  obtain⟨cv,p,q'⟩:=h.cells j z ob d q;refine⟨cv,p.sameBut k (h.eZ _ _ _ _ q),?_⟩;unfold St.mB;dsimp only;split;·rename_i w;subst w;replace q:=e▸q;cases q
  ·exact q'
 im:=λy b vs q=>let⟨xs,n,p,r⟩:=h.im y b vs q;⟨xs,n,(k.2 _ (λw=>by have:=h.kB;replace this:=q▸w▸this;cases this)).trans p,r⟩
 k9:=h.k9
 kA:=h.kA
 kB:=h.kB
 mC:=h.mC
 gens:=hg.trans h.gens
 os:=ho.trans h.os
theorem OK.setCell (h:OK U g c ρ J s){d:SM}(e:c.vars[i]? =R3 (y,Loc.cell Sn d)){x:V}(r:VR ρ x v)
  (hn:s'.heap.IsCell d (R3 v)) (k:Vs d s.heap s'.heap) (hg:autoParam (s'.gens=s.gens) br) (ho:autoParam (s'.os=s.os) br):OK U g c ρ (J.mB i x) s' where
 keep:=λb o q=>(k.2 b (λz=>by replace q:=((h.dT _ _ _ e).1)▸z▸q;exact nomatch q)).trans (h.keep b o q)
 cI:=λb o q=>(h.cI b o q).keep λO w=>(k.2 b (λz=>by replace q:=((h.dT _ _ _ e).2)▸z▸q;exact c6 q)).trans w
 k7:=h.k7
 hp:=λb so q=>let⟨z,o',p,q',r'⟩:=h.hp b so q;⟨z,o',p,(k.2 _ (h.eF _ _ p i y _ d e)).trans q',r'⟩
 j9:=h.j9
 inj:=h.inj
 low:=h.low
 eE:=h.eE
 dr:=h.dr
 db:=h.db
 eF:=h.eF
 eO:=h.eO
 eG:=h.eG
 eZ:=h.eZ
 dT:=h.dT
 apart:=h.apart
 names:=h.names
 ns:=let⟨m,p,q⟩:=h.ns;⟨m,p.sameBut k (TH (h.eZ _ _ _ _ e)),λj z w=>by
  unfold St.mB;dsimp only;split;·rename_i w';subst w';replace w:=e▸w;cases w
  ·exact q j z w⟩
 cells:=λj z ob d' q=>by
  unfold St.mB;dsimp only;split
  ·rename_i w;subst w;rw[e]at q;cases q;exact⟨_,hn,λx' e'=>by obtain rfl:=R7 e';exact⟨v,rfl,r⟩⟩
  ·rename_i w;obtain⟨cv,p,q'⟩:=h.cells j z ob d' q;exact⟨cv,p.sameBut k (λw'=>w (h.apart j i z y _ _ d (w'▸q) e)),q'⟩
 im:=λz b vs q=>let⟨xs,n,p,r⟩:=h.im z b vs q;⟨xs,n,(k.2 _ (λw=>by have:=h.mC _ _ _ _ e;replace this:=q▸w▸this;cases this)).trans p,r⟩
 k9:=h.k9
 kA:=h.kA
 kB:=h.kB
 mC:=h.mC
 gens:=hg.trans h.gens
 os:=ho.trans h.os
end
end
variable{Q:V->St->Prop}{l l':SH->Si V}{kvs ds:R4 (Sj×V)}{J bD:St}{mk ow:R4 V->WM V}{vs:R4 V}{ρ bG:bW}{U:Un}{so:SO}{test:WM Tn}{ws:R4 (V->WM Unit)}{fv fx fo elt ft fk fe f2:WM V}{ms:R4 (Tj×SM×SM×(R4 V->WM V))}{f kn ht ca:Sj->Si V}{fns:R4 (Tj×SM×(R4 V->WM V))}{lA:V->WM Unit}{xc w0 xv w4 z:V}{w6 w8 w7:Si V}{L':R4 (Si V)}
section
structure du (k:SH)(c:Cx)(A:Around):Prop where
 depth:A.depth+2*k<=900
 units:A.units+40*k<=9000
 hd:A.handled=Sg
 fr:A.frames=R3 c.o9
theorem du.le {c:Cx}(h:du k c A)(q:j<=k):du j c A:=⟨by have:=h.depth;exact yN [_,_,_] [] 0xf3843c221e0b5021603843c121e0b54 rfl q this,by have:=h.units;exact xN [_,_,_] [] (.add v0 (.mulL 40 v1)) (.num 9000) 1 (.c 0 40 v1 v2 (.c 0 1 (.add v0 (.mulL 40 v2)) (.num 9000) .e)) rfl q this,h.hd,h.fr⟩
theorem du.room {c:Cx}(h:du k c A):A.depth<recursionLimit:=by have:=h.depth;show _<1000;exact yN [_,_] [] 0xf3843c121e0b503e83c0a54 rfl this
theorem du.cl {c:Cx}(h:du k c A):A.units<cLine:=by have:=h.units;show _<9900;exact yN [_,_] [] 0xf23284c1282e0b5026ac4c0a54 rfl this
inductive cu (U:Un)(g:SM->Si WW)(c:Cx)(ρ:bW)(R:bW->α->β->Prop)(Q:α->St->Prop)(b:β)(s':TD):Prop
 |mk (bG:bW) (bD:St) (a:α):Ext ρ bG->OK U g c bG bD s'->R bG a b->Q a bD->cu U g c ρ R Q b s'
theorem cu.ext {c:Cx}{au:bW}{R:bW->α->β->Prop}{Q:α->St->Prop}{b:β}(e:Ext ρ au)(h:cu U g c au R Q b s'):cu U g c ρ R Q b s':=
 by obtain⟨bG,bD,a,x,y,z,q⟩:=h;exact⟨bG,bD,a,e.trans x,y,z,q⟩
theorem post {c:Cx}{R:bW->α->β->Prop}{Q:α->St->Prop}{b:β}(x:α)(ok:OK U g c ρ J s)(r:R ρ x b)(h:Q x J):cu U g c ρ R Q b s:=
 ⟨ρ,J,x,Ext.refl _,ok,r,h⟩
def aU (U:Un)(k:SH)(c:Cx)(R:bW->α->β->Prop)(t:Xf β)(f:WM α):Prop:=
 ∀A g ρ J s Q,du k c A->OK U g c ρ J s->f J Q->Tx (Tc U.prog U.w) A t (cu U g c ρ R Q) (λO O=>False) s
def BR (_:bW)(a b:Tn):Prop:=a=b
def UR (_:bW)(_ _:Unit):Prop:=True
inductive Fl where
 |next |brk |cont |ret (v:V)
noncomputable def FR (ρ:bW):Fl->ZF->Prop
 |.next,f=>f=.next
 |.brk,f=>f=.brk
 |.cont,f=>f=.cont
 |.ret v,f=>∃x,f=.ret x/\VR ρ v x
structure dJ (env:Y4)(c:Cx):Prop where
 L:env.locals=c.L
 kind:env.scope.kind=.function
 gl:env.globals=mainGlobals
 bi:env.builtins=builtinsNs
 ns: ∀(i:SH) (y:Tj),c.vars[i]? =R3 (y,Loc.ns)->env.kindOf y=R3 .local
 cell: ∀(i:SH) (y:Tj) (o:Tn) (d:SM),c.vars[i]? =R3 (y,Loc.cell o d)->env.kindOf y=R3 .cell/\env.cells.lookup y=R3 d
section
variable{c:Cx}
theorem jb (h:env.scope.kind=.function):interactive env=Sf:=by unfold interactive;rw[h];rfl
theorem cH {t:Xf β}{Q:β->TD->Prop}(h:Tx M A t Q (λO O=>False) s)(q: ∀b s,Q b s->Q' b s):Tx M A t Q' E s:=
 T9 h q λO O x=>x.elim
theorem aA {t:Xf β}{R:bW->α->β->Prop}{Q:α->St->Prop}(h:Tx M A t (cu U g c ρ R Q) (λO O=>False) s)
  (q: ∀b s' bG bD a,Ext ρ bG->OK U g c bG bD s'->R bG a b->Q a bD->Q' b s'):Tx M A t Q' E s:=
 T9 h (λb s' xW=>by obtain⟨bG,bD,a,e,ok,r,h⟩:=xW;exact q b s' bG bD a e ok r h) λO O x=>x.elim
theorem aU.fail {R:bW->α->β->Prop}{t:Xf β}:aU U k c R t aJ:=λO O O O O O O O h=>h.elim
theorem aU.le {R:bW->α->β->Prop}{t:Xf β}{f:WM α}(h:aU U j c R t f)(q:j<=k):aU U k c R t f:=λA g ρ J s Q r=>h A g ρ J s Q (r.le q)
noncomputable def ac (i:SH):WM V:=λJ Q=>WR (J.loc i) False λv=>Q v J
theorem pd (h:ac i J Q): ∃v,J.loc i=R3 v/\Q v J:=by
 unfold ac at h;cases e:J.loc i with
 |none=>rw[e]at h;exact h.elim
 |some v=>rw[e]at h;exact⟨v,rfl,h⟩
theorem Pr (he:dJ env c)(hv:c.vars[i]? =R3 (y,Loc.ns))(hd:(y==("__debug__" :Tj))=Sf):aU U k c VR (S3 (.Name y pos) env) (ac i):=by
 intro A g ρ J s Q rm ok h;obtain⟨x,hx,h⟩:=pd h;obtain⟨m,hm,hl⟩:=ok.ns;obtain⟨v,hmv,hr⟩:=hl i y hv x hx;exact Ve (TX he.kind (he.ns i y hv) (he.L▸hm) hmv ⟨ρ,J,x,Ext.refl _,ok,hr,h⟩) hd
theorem ED (he:dJ env c){o:Tn}{d:SM}(hv:c.vars[i]? =R3 (y,Loc.cell o d))(hd:(y==("__debug__" :Tj))=Sf):aU U k c VR (S3 (.Name y pos) env) (ac i):=by
 intro A g ρ J s Q rm ok h;obtain⟨x,hx,h⟩:=pd h;obtain⟨cv,hc,hl⟩:=ok.cells i y o d hv;obtain⟨v,e,hr⟩:=hl x hx;exact Ve (wpAny_loadName_cell he.kind (he.cell i y o d hv).1 (he.cell i y o d hv).2 (e▸hc) ⟨ρ,J,x,Ext.refl _,ok,hr,h⟩) hd
theorem lj (he:dJ env c){x:Tj}(hx:env.kindOf x=R3 .globalImplicit)(e:nsIn U.K mainGlobals x=R3 (R3 v))(hd:(x==("__debug__" :Tj))=Sf):
  aU U k c VR (S3 (.Name x pos) env) (ae (.glob v)):=by
 intro A g ρ J s Q rm ok h;exact Vy he.kind hx (Yh (he.gl▸U.g.keeps ok.keep) (mg_of U.rk U.g e) (post (.glob v) ok rfl h)) hd
theorem BZ (he:dJ env c){x:Tj}{i:Sj}(hx:env.kindOf x=R3 .globalImplicit)(e:nsIn U.K mainGlobals x=R3 (R3 (.int i t)))(hd:(x==("__debug__" :Tj))=Sf):
  aU U k c VR (S3 (.Name x pos) env) (ae (.int i)):=by
 intro A g ρ J s Q rm ok h;exact Vy he.kind hx (Yh (he.gl▸U.g.keeps ok.keep) (mg_of U.rk U.g e) (post (.int i) ok ⟨t,rfl⟩ h)) hd
theorem tE (he:dJ env c){x:Tj}(hx:env.kindOf x=R3 .globalImplicit)(e:nsIn U.K mainGlobals x=R3 Sg)(hv:bootBuiltins x=R3 v)(hn:x≠"__name__")(hd:(x==("__debug__" :Tj))=Sf):
  aU U k c VR (S3 (.Name x pos) env) (ae (.glob v)):=by
 intro A g ρ J s Q rm ok h;exact Vy he.kind hx (XT (he.gl▸U.g.keeps ok.keep) (mg_none_of U.rk U.g e) (he.bi▸U.b.keeps ok.keep) ((U.bi x hn).trans hv) (post (.glob v) ok rfl h)) hd
theorem AC {i:Sj}:aU U k c VR (S3 (.Constant (.int i) n pos) env) (ae (.int i)):=
 λA g ρ J s Q rm ok h=>wpAny_Constant_int (post (.int i) (ok.tok _) ⟨_,rfl⟩ h)
theorem EE :aU U k c VR (S3 (.Constant (.bool b) n pos) env) (ae (.bool b)):=
 λA g ρ J s Q rm ok h=>Wf (post (.bool b) ok rfl h)
theorem EG :aU U k c VR (S3 (.Constant .none n pos) env) (ae .none):=
 λA g ρ J s Q rm ok h=>wpAny_Constant_none (post .none ok rfl h)
def dv (U:Un)(k:SH)(c:Cx)(R:bW->α->β->Prop)(t:Sz->Xf β)(f:V->WM α):Prop:=
 ∀A g ρ J s Q x a,du k c A->OK U g c ρ J s->VR ρ x a->f x J Q->Tx (Tc U.prog U.w) A (t a) (cu U g c ρ R Q) (λO O=>False) s
def cP (U:Un)(k:SH)(c:Cx)(R:bW->α->β->Prop)(t:Sz->Sz->Xf β)(f:V->V->WM α):Prop:=
 ∀A g ρ J s Q x y a b,du k c A->OK U g c ρ J s->VR ρ x a->VR ρ y b->f x y J Q->Tx (Tc U.prog U.w) A (t a b) (cu U g c ρ R Q) (λO O=>False) s
theorem sk {l r:SX}{op:Operator}{fl fr:WM V}{ow:V->V->WM V}(hl:aU U k c VR (S3 l env) fl)(hr:aU U k c VR (S3 r env) fr)(ho:cP U k c VR (binaryOp op) ow):
  aU U k c VR (S3 (.BinOp l op r pos) env) (Z fl λx=>Z fr λy=>ow x y):=by
 intro A g ρ J s Q rm ok h;exact wpAny_BinOp (aA (hl A g ρ J s _ rm ok h) λa aB au ak x aQ al aV aD=>
  aA (hr A g au ak aB _ rm al aD) λb aX aM aL y bu aI bN aW=>cH (ho A g aM aL aX Q x y a b rm aI (aV.mono bu) bN aW) λv bR p=>(p.ext bu).ext aQ)
theorem JT {l r:SX}{fl fr:WM V}{ow:V->V->WM V}(hm:behindInMarks op r=Sf)(hl:aU U k c VR (S3 l env) fl)(hr:aU U k c VR (S3 r env) fr)(ho:cP U k c VR (compareOp op) ow):
  aU U k c VR (S3 (.Compare l [op] [r] pos) env) (Z fl λx=>Z fr λy=>ow x y):=by
 intro A g ρ J s Q rm ok h;exact wpAny_Compare1 (aA (hl A g ρ J s _ rm ok h) λa aB au ak x aQ al aV aD=>
  aA (hr A g au ak aB _ rm al aD) λb aX aM aL y bu aI bN aW=>cH (ho A g aM aL aX Q x y a b rm aI (aV.mono bu) bN aW) λv bR p=>(p.ext bu).ext aQ) hm
theorem ph {x:SX}{op:UnaryOp}{ow:V->WM V}(hx:aU U k c VR (S3 x env) fx)(ho:dv U k c VR (unaryOp op) ow):
  aU U k c VR (S3 (.UnaryOp op x pos) env) (Z fx ow):=by
 intro A g ρ J s Q rm ok h;exact wpAny_UnaryOp (aA (hx A g ρ J s _ rm ok h) λa aB au ak x aQ al aV aD=>cH (ho A g au ak aB Q x a rm al aV aD) λv bR p=>p.ext aQ)
noncomputable def intOp (f:Sj->Sj->V)(P:Sj->Sj->Prop:=λO O=>True)(x y:V):WM V:=λJ Q=>X2 λa b=>C4 (x=.int a) (y=.int b) (P a b) (Q (f a b) J)
theorem eP {t:Sz->Sz->Xf Sz}{f:Sj->Sj->V}{P:Sj->Sj->Prop}(H: ∀A g ρ J s Q i j u w,OK U g c ρ J s->P i j->Q (f i j) J->Tx (Tc U.prog U.w) A (t (.int i u) (.int j w)) (cu U g c ρ VR Q) (λO O=>False) s):cP U k c VR t (intOp f P):=by
 rintro A g ρ J s Q x y a b rm ok ha hb ⟨i,j,ex,ey,p,q⟩;subst ex ey;obtain⟨u,rfl⟩:=ha;obtain⟨w,rfl⟩:=hb;exact H A g ρ J s Q i j u w ok p q
def Pt:V->V->WM V:=intOp (λa b=>.int (a - b))
def ltW:V->V->WM V:=intOp (λa b=>.bool (Ul (a<b)))
def leW:V->V->WM V:=intOp (λa b=>.bool (Ul (a<=b)))
def geW:V->V->WM V:=intOp (λa b=>.bool (Ul (a>=b)))
def Pu:V->V->WM V:=intOp (λa b=>.int (a.fmod b)) (λO b=>b≠0)
def Pv:V->V->WM V:=intOp (λa b=>.int (a.fdiv b)) (λa b=>b≠0/\b.natAbs<1073741824)
def Pw:V->V->WM V:=intOp (λa b=>.int (a*b)) (λa b=>a.natAbs<2 ^ 60/\b.natAbs<2 ^ 60)
theorem JU:cP U k c VR (binaryOp .Sub) Pt:=eP λO O O O O O O O O O ok O q=>P.sub_int (post (.int _) (ok.tok _) ⟨_,rfl⟩ q)
theorem Px:cP U k c VR (compareOp .Lt) ltW:=eP λO O O O O O O O O O ok O q=>P.lt_int (post (.bool _) ok rfl q)
theorem Py:cP U k c VR (compareOp .LtE) leW:=eP λO O O O O O O O O O ok O q=>P.le_int (post (.bool _) ok rfl q)
theorem Pz:cP U k c VR (compareOp .GtE) geW:=eP λO O O O O O O O O O ok O q=>P.ge_int (post (.bool _) ok rfl q)
theorem JV:cP U k c VR (binaryOp .Mod) Pu:=eP λO O O O O O O O O O ok p q=>mod_int' p (post (.int _) (ok.tok _) ⟨_,rfl⟩ q)
theorem JW:cP U k c VR (binaryOp .FloorDiv) Pv:=eP λO O O O O O O O O O ok p q=>floordiv_int p.1 (post (.int _) (ok.tok _) ⟨_,rfl⟩ q) (.inl (PyProof.noPylong_small p.2))
theorem JX:cP U k c VR (binaryOp .Mult) Pw:=eP λO O O O O O O O O O ok adu q=>by obtain⟨p1,p2⟩:=adu;exact P.mul_int (post (.int _) (ok.tok _) ⟨_,rfl⟩ q)
noncomputable def fS (x:V):WM V:=λJ Q=>match x with |.int a=>Q (.int (-a)) J |_=>False
theorem AD:dv U k c VR (unaryOp .USub) fS:=by
 intro A g ρ J s Q x a rm ok ha h;cases x with
 |int i=>obtain⟨t,rfl⟩:=ha;exact P.neg_int (post (.int _) (ok.tok _) ⟨_,rfl⟩ h)
 |_=>exact h.elim
end
end
variable{fb:WM Fl}
section
section
variable{c:Cx}
inductive VwL (ρ:bW)(H:We)(a:Ad)(vs:R4 V):Sz->Prop
 |mk (x:SM) (xs:Vt Sz) (n:SH):ρ.dG a=R3 x->H.get? x=R3 {cls:=.type "list",data:=.seq xs n}->ja ρ vs xs.toList->VwL ρ H a vs (.ref x)
inductive VwQ (ρ:bW)(H:We)(b:Tn)(vs:R4 V):Sz->Prop
 |mk (x:SM) (xs:Vt Sz) (n:SH):H.get? x=R3 {cls:=.type (sg b),data:=.seq xs n}->ja ρ vs xs.toList->VwQ ρ H b vs (.ref x)
inductive VwD (U:Un)(ρ:bW)(H:We)(a:Ad)(kvs:R4 (Sj×V)):Sz->Prop
 |mk (x:SM) (aF:R4 (Sj×Sz)):ρ.dG a=R3 x->H.DictOf (intKind U.prog U.w) x aF->F2 (PR ρ) kvs aF->(∀p∈kvs,-1000<=p.1/\p.1<=1000)->(x==sysModules)=Sf->VwD U ρ H a kvs (.ref x)
inductive VwE (U:Un)(ρ:bW)(H:We)(a:Ad)(kvs:R4 (Sj×V))(ep:SH):Sz->Prop
 |mk (x:SM) (aF:R4 (Sj×Sz)):ρ.dG a=R3 x->H.DictAt (intKind U.prog U.w) x aF ep->F2 (PR ρ) kvs aF->(x==sysModules)=Sf->VwE U ρ H a kvs ep (.ref x)
inductive VwS (U:Un)(ρ:bW)(H:We)(a:Ad)(kvs:R4 (SH×V)):Sz->Prop
 |mk (x:SM) (aF:R4 (Tj×Sz)):ρ.dG a=R3 x->H.DictOf (strKind U.prog U.w) x aF->F2 (NR ρ) kvs aF->(x==sysModules)=Sf->VwS U ρ H a kvs (.ref x)
theorem OK.su (h:OK U g c ρ J s){a:Ad}(r:VR ρ (.ref a) v)(e:J.hp a=R3 (.list vs)):VwL ρ s.heap a vs v:=by
 obtain⟨x,q,rfl⟩:=r;obtain⟨x',o,q',ho,xs,n,rfl,hv⟩:=h.hp a _ e;replace q':=q▸q';obtain rfl:=R7 q';exact⟨x,xs,n,q,ho,hv⟩
noncomputable def tF:Si SO->Si (R4 V) |some (.list vs)=>R3 vs |_=>Sg
theorem B6 {o:Si SO}(h:tF o=R3 vs):o=R3 (.list vs):=by
 cases o with
 |none=>cases h
 |some so=>cases so with
  |list=>obtain rfl:=R7 h;rfl
  |_=>cases h
def gP (J:St)(x:V):Si (Tn×R4 V):=match x with
 |.bF b vs=>R3 (b,vs)
 |.ref a=>(tF (J.hp a)).map λvs=>(Sf,vs)
 |_=>Sg
theorem OK.dO (h:OK U g c ρ J s){x:V}(r:VR ρ x v)(e:gP J x=R3 (b,vs)):VwQ ρ s.heap b vs v:=by
 cases x with
 |bF=>cases e;obtain⟨x,q,rfl⟩:=r;obtain⟨xs,n,p,r⟩:=h.im x _ _ q;exact⟨x,xs,n,p,r⟩
 |ref a=>obtain⟨us,e,q⟩:=SR.mp e;cases q;obtain⟨x,xs,n,-,p,r'⟩:=h.su r (B6 e);exact⟨x,xs,n,p,r'⟩
 |_=>exact c6 e
theorem OK.gm (h:OK U g c ρ J s){a:Ad}(r:VR ρ (.ref a) v)(e:J.hp a=R3 (.dict kvs ep)):VwD U ρ s.heap a kvs v:=by
 obtain⟨x,q,rfl⟩:=r;obtain⟨x',o,q',ho,aF,hd,hp,hr⟩:=h.hp a _ e;replace q':=q▸q';obtain rfl:=R7 q';refine⟨x,aF,q,TS.mpr ⟨o,ho,hd.is⟩,hp,hr,?_⟩;have:=h.low a x q;exact Ti (λz=>by replace this:=z▸this;exact Sw this (by decide))
theorem OK.oQ (h:OK U g c ρ J s){a:Ad}(r:VR ρ (.ref a) v)(e:J.hp a=R3 (.dict kvs ep)):VwE U ρ s.heap a kvs ep v:=by
 obtain⟨x,q,rfl⟩:=r;obtain⟨x',o,q',ho,aF,⟨es,hd⟩,hp,hr⟩:=h.hp a _ e;rw[q]at q';obtain rfl:=R7 q';refine⟨x,aF,q,⟨o,es,ho,hd⟩,hp,?_⟩;have:=h.low a x q;exact Ti (λz=>by replace this:=z▸this;exact Sw this (by decide))
theorem OK.EH (h:OK U g c ρ J s){a:Ad}{kvs:R4 (SH×V)}(r:VR ρ (.ref a) v)(e:J.hp a=R3 (.bB kvs)):VwS U ρ s.heap a kvs v:=by
 obtain⟨x,q,rfl⟩:=r;obtain⟨x',o,q',ho,aF,hd,hp⟩:=h.hp a _ e;replace q':=q▸q';obtain rfl:=R7 q';refine⟨x,aF,q,TS.mpr ⟨o,ho,hd⟩,hp,?_⟩;have:=h.low a x q;exact Ti (λz=>by rw[z]at this;exact Sw this (by decide))
theorem mE {x:SM}(e:h.get? x=R3 {cls:=.type "list",data:=.seq xs n}):h.IsList x xs:=⟨_,e,rfl,n,rfl⟩
theorem JY {x:SM}(e:h.get? x=R3 {cls:=.type "tuple",data:=.seq xs n}):h.IsTuple x xs:=⟨_,e,rfl,n,rfl⟩
noncomputable def aj (x:V):WM Tn:=λJ Q=>match x with |.bool b=>Q b J |.none=>Q Sf J |_=>False
noncomputable def bK (b:WM Tn)(t e:WM α):WM α:=λJ Q=>b J λb bD=>(b=Sn->t bD Q)/\(b=Sf->e bD Q)
noncomputable def ka (f:WM Tn):WM Tn:=λJ Q=>f J λb bD=>Q (!b) bD
noncomputable def eH (f g:WM Tn):WM Tn:=λJ Q=>f J λb bD=>(b=Sn->g bD Q)/\(b=Sf->Q Sf bD)
noncomputable def oh (f g:WM Tn):WM Tn:=λJ Q=>f J λb bD=>(b=Sn->Q Sn bD)/\(b=Sf->g bD Q)
theorem fY:dv U k c BR truthy aj:=by
 intro A g ρ J s Q x a rm ok ha h;cases x<;>try exact h.elim
 ·subst ha;exact truthy_none (post Sf ok rfl h)
 ·subst ha;exact wpAny_truthy_bool (post _ ok rfl h)
theorem xX {e:SX}{f:WM V}(h:aU U k c VR (S3 e env) f)(he:UE e env (S3 e env)=(do let v <-S3 e env;standAt e.pos;holding [v] (truthy v))):
  aU U k c BR (UE e env (S3 e env)) (Z f aj):=by
 intro A g ρ J s Q rm ok q;exact isTrue_plain (aA (h A g ρ J s _ rm ok q) λa aB au ak x aQ al aV aD=>cH (fY A g au ak aB Q x a rm al aV aD) λv bR p=>p.ext aQ) he
theorem EJ {x:SX}{f:WM Tn}(h:aU U k c BR (UE x env (S3 x env)) f):aU U k c BR (UE (.UnaryOp .Not x pos) env whole) (ka f):=by
 intro A g ρ J s Q rm ok q;exact isTrue_not (aA (h A g ρ J s _ rm ok q) λa aB au ak x aQ al aV aD=>⟨au,ak,_,aQ,al,SU (! ·) aV,aD⟩)
theorem EK {x:SX}{rest:R4 SX}{f r:WM Tn}(h:aU U k c BR (UE x env (S3 x env)) f)(hr:aU U k c BR (UE (.BoolOp .And rest pos) env whole) r):
  aU U k c BR (UE (.BoolOp .And (x::rest) pos) env whole) (eH f r):=by
 intro A g ρ J s Q rm ok q;refine isTrue_and (aA (h A g ρ J s _ rm ok q) λa aB au ak pj aQ al aV aD=>?_);cases(show pj=a from aV);cases a;·exact⟨au,ak,_,aQ,al,rfl,aD.2 rfl⟩
 ·exact cH (hr A g au ak aB _ rm al (aD.1 rfl)) λv bR p=>p.ext aQ
theorem JZ {x:SX}{rest:R4 SX}{f r:WM Tn}(h:aU U k c BR (UE x env (S3 x env)) f)(hr:aU U k c BR (UE (.BoolOp .Or rest pos) env whole) r):
  aU U k c BR (UE (.BoolOp .Or (x::rest) pos) env whole) (oh f r):=by
 intro A g ρ J s Q rm ok q;refine isTrue_or (aA (h A g ρ J s _ rm ok q) λa aB au ak pj aQ al aV aD=>?_);cases(show pj=a from aV);cases a;·exact cH (hr A g au ak aB _ rm al (aD.2 rfl)) λv bR p=>p.ext aQ
 ·exact⟨au,ak,_,aQ,al,rfl,aD.1 rfl⟩
theorem B7 :aU U k c BR (UE (.BoolOp .And [] pos) env whole) (ae Sn):=
 λA g ρ J s Q rm ok q=>isTrue_and_nil (post Sn ok rfl q)
theorem EL :aU U k c BR (UE (.BoolOp .Or [] pos) env whole) (ae Sf):=
 λA g ρ J s Q rm ok q=>isTrue_or_nil (post Sf ok rfl q)
theorem EP {l r:SX}{fl fr:WM V}{ow:V->V->WM V}(hm:behindInMarks op r=Sf)(hl:aU U k c VR (S3 l env) fl)(hr:aU U k c VR (S3 r env) fr)(ho:cP U k c VR (compareOp op) ow):
  aU U k c BR (UE (.Compare l [op] [r] pos) env whole) (Z fl λx=>Z fr λy=>Z (ow x y) aj):=by
 intro A g ρ J s Q rm ok h;exact ZJ (aA (hl A g ρ J s _ rm ok h) λa aB au ak x aQ al aV aD=>
  aA (hr A g au ak aB _ rm al aD) λb aX aM aL y bu aI bN aW=>aA (ho A g aM aL aX _ x y a b rm aI (aV.mono bu) bN aW) λv bR b9 cg z c7 bI c9 cX=>
   cH (fY A g b9 cg bR Q z v rm bI c9 cX) λv bR p=>((p.ext c7).ext bu).ext aQ) hm
theorem sv {t b o:SX}{ft:WM Tn}{fb:WM V}(ht:aU U k c BR (UE t env (S3 t env)) ft)(hb:aU U k c VR (S3 b env) fb)(ho:aU U k c VR (S3 o env) fo):
  aU U k c VR (S3 (.IfExp t b o pos) env) (bK ft fb fo):=by
 intro A g ρ J s Q rm ok q;refine wpAny_IfExp (aA (ht A g ρ J s _ rm ok q) λa aB au ak pj aQ al aV aD=>?_);cases(show pj=a from aV);cases a;·exact cH (ho A g au ak aB _ rm al (aD.2 rfl)) λv bR p=>p.ext aQ
 ·exact cH (hb A g au ak aB _ rm al (aD.1 rfl)) λv bR p=>p.ext aQ
theorem J0 {x:SX}{f:WM V}(h:aU U k c VR (S3 x env) f):aU U k c VR (S3 (.UnaryOp .Not x pos) env) (Z f λx=>Z (aj x) λb=>ae (.bool (!b))):=by
 refine ph h ?_;intro A g ρ J s Q x a rm ok ha h;refine not_of (aA (fY A g ρ J s _ x a rm ok ha h) λv aB au ak pj aQ al aV aD=>?_);cases(show pj=v from aV);exact⟨au,ak,.bool _,aQ,al,rfl,aD⟩
theorem B8 {a b:Xf Sz}:boolOp pos .Or [a,b]=(do let v <-a;standAt pos;let t <-holding [v] (truthy v);Ui t (pure v) b):=by
 refine SU (ZU a) (funext λv=>SU (ZU (standAt pos)) (funext λO=>SU (ZU (holding [v] (truthy v))) (funext λt=>?_)));cases t<;>rfl
theorem J1 {x y:SX}{f r:WM V}(h:aU U k c VR (S3 x env) f)(hr:aU U k c VR (S3 y env) r):
  aU U k c VR (S3 (.BoolOp .Or [x,y] pos) env) (Z f λx=>bK (aj x) (ae x) r):=by
 intro A g ρ J s Q rm ok q;show Tx _ _ (boolOp pos .Or [S3 x env,S3 y env]) _ _ _;refine B8▸?_;refine Sb (aA (h A g ρ J s _ rm ok q) λa aB au ak x aQ al aV aD=>Sb (Ug (Sb (T7 (aA (fY A g au ak aB _ x a rm al aV (show aj x ak (λb bD=>(b=Sn->ae x bD Q)/\(b=Sf->r bD Q)) from aD)) λb aX aM aL EQ bu aI bN aW=>?_)))));cases(show EQ=b from bN);cases b;·exact cH (hr A g aM aL aX _ rm aI (aW.2 rfl)) λv bR p=>(p.ext bu).ext aQ
 ·exact SD ⟨aM,aL,x,aQ.trans bu,aI,aV.mono bu,aW.1 rfl⟩
theorem iW (ok:OK U g c ρ J s)(h:Q (.bool b) J):cu U g c ρ VR Q (.bool b) s:=⟨ρ,J,.bool b,Ext.refl _,ok,rfl,h⟩
noncomputable def dB (x y:V):WM V:=λJ Q=>match y with
 |.none=>(match x with |.none=>Q (.bool Sn) J |.str _=>False |.glob _=>False |_=>Q (.bool Sf) J)
 |.bool b=>(match x with |.bool a=>Q (.bool (a==b)) J |_=>False)
 |_=>False
theorem PA:cP U k c VR (compareOp .Is) dB:=by
 intro A g ρ J s Q x y a b rm ok ha hb h;cases y with
 |none=>
  subst hb;cases x with
  |none=>subst ha;exact Zr (iW ok h)
  |bool=>subst ha;exact Zr (iW ok h)
  |int=>obtain⟨t,rfl⟩:=ha;exact Zr (iW ok h)
  |ref=>obtain⟨t,_,rfl⟩:=ha;exact Zr (iW ok h)
  |bF=>obtain⟨t,_,rfl⟩:=ha;exact Zr (iW ok h)
  |_=>exact h.elim
 |bool b'=>cases x with
  |bool=>subst ha;subst hb;exact is_bool (iW ok h)
  |_=>exact h.elim
 |_=>exact h.elim
noncomputable def ER (x y:V):WM V:=λJ Q=>match x,y with |.bool a,.bool b=>Q (.bool (a !=b)) J |_,_=>False
theorem B9:cP U k c VR (compareOp .IsNot) ER:=by
 intro A g ρ J s Q x y a b rm ok ha hb h;cases x<;>try exact h.elim
 cases y<;>try exact h.elim
 subst ha;subst hb;exact isnot_bool (post (.bool _) ok rfl h)
inductive EqV (J:St):V->V->Tn->Prop
 |ii (a b:Sj):EqV J (.int a) (.int b) (a==b)
 |bb (a b:Tn):EqV J (.bool a) (.bool b) (a==b)
 |nb (b:Tn):EqV J .none (.bool b) Sf
 |bn (b:Tn):EqV J (.bool b) .none Sf
 |ss (x y:V) (xs ys:R4 V):gP J x=R3 (Sf,xs)->gP J y=R3 (Sf,ys)->xs=[]\/ys=[]->EqV J x y (xs.isEmpty && ys.isEmpty)
def eqV (J:St)(x y:V)(K:Tn->Prop):Prop:=∃r,EqV J x y r/\K r
noncomputable def eqW (x y:V):WM V:=λJ Q=>eqV J x y λb=>Q (.bool b) J
noncomputable def neW (x y:V):WM V:=λJ Q=>eqV J x y λb=>Q (.bool (!b)) J
theorem AF {xs ys:R4 V}(h0:xs=[]\/ys=[]):(xs.length=0/\ys.length=0/\(xs.isEmpty && ys.isEmpty)=Sn)\/(xs.length≠ys.length/\(xs.isEmpty && ys.isEmpty)=Sf):=by
 cases xs with
 |nil=>cases ys with
  |nil=>exact .inl ⟨rfl,rfl,rfl⟩
  |cons=>exact .inr ⟨nofun,rfl⟩
 |cons=>cases ys with
  |nil=>exact .inr ⟨nofun,rfl⟩
  |cons=>exact h0.elim (λz=>nomatch z) λz=>nomatch z
theorem oR {R:V->Sz->Prop}(h:F2 R vs xs.toList):xs.size=vs.length:=Ux.symm.trans h.len
theorem PB:cP U k c VR (compareOp .Eq) eqW:=by
 rintro A g ρ J s Q x y a b rm ok ha hb ⟨r,hr,h⟩;have h:=iW ok h;cases hr with
 |ii=>obtain⟨t,rfl⟩:=ha;obtain⟨u,rfl⟩:=hb;exact P.eq_int h
 |bb=>subst ha;subst hb;exact eq_bool h
 |nb=>subst ha;subst hb;exact EqNone.eq_none_bool h
 |bn=>subst ha;subst hb;exact EqNone.eq_bool_none h
 |ss _ _ xs ys e1 e2 h0=>
  obtain⟨x,vs,n,h1,r1⟩:=ok.dO ha e1;obtain⟨y,us,n',h2,r2⟩:=ok.dO hb e2;have l1:=oR r1;have l2:=oR r2;refine cmp_ofEq ?_;rcases AF h0 with ⟨a0,b0,e⟩ |⟨ne,e⟩
  ·rw[e]at h;refine SeqAt.RcAt.lists (e:=λO=>Sn) (mE h1) (mE h2) (by rw[l1,l2,a0,b0]) rm.cl (λj j1 j2=>Sw j1 (by rw[l1,a0];exact VE _)) _ _ _ _ ?_;rw[TR.mpr λO O=>rfl];exact h
  ·rw[e]at h;exact SeqAt.RcAt.lists_lengths (mE h1) (mE h2) (by rw[l1,l2];exact YS.mpr ne) rm.cl _ _ _ _ h
theorem PE:cP U k c VR (compareOp .NotEq) neW:=by
 rintro A g ρ J s Q x y a b rm ok ha hb ⟨r,hr,h⟩;have h:=iW ok h;cases hr with
 |ii=>obtain⟨t,rfl⟩:=ha;obtain⟨u,rfl⟩:=hb;exact P.ne_int h
 |bb=>subst ha;subst hb;exact ne_bool h
 |nb=>subst ha;subst hb;exact EqNone.ne_none_bool h
 |bn=>subst ha;subst hb;exact EqNone.ne_bool_none h
 |ss _ _ xs ys e1 e2 h0=>
  obtain⟨x,vs,n,h1,r1⟩:=ok.dO ha e1;obtain⟨y,us,n',h2,r2⟩:=ok.dO hb e2;have l1:=oR r1;have l2:=oR r2;refine cmp_ofNotEq ?_;rcases AF h0 with ⟨a0,b0,e⟩ |⟨ne,e⟩
  ·rw[e]at h;refine SeqAt.RcNeAt.lists (e:=λO=>Sn) (mE h1) (mE h2) (by rw[l1,l2,a0,b0]) rm.cl (λj j1 j2=>Sw j1 (by rw[l1,a0];exact VE _)) _ _ _ _ ?_;rw[TR.mpr λO O=>rfl];exact h
  ·rw[e]at h;exact SeqAt.RcNeAt.lists_lengths (mE h1) (mE h2) (by rw[l1,l2];exact YS.mpr ne) rm.cl _ _ _ _ h
end
end
section
section
variable[DecidableEq α]
noncomputable def bC (l:R4 (α×β))(k:α):Si β:=(l.find? λp=>decide (p.1=k)).map (·.2)
noncomputable def cY (l:R4 (α×β))(k:α)(v:β):R4 (α×β):=if l.any (λp=>decide (p.1=k))then l.map (λp=>if p.1=k then(p.1,v)else p)else l++[(k,v)]
noncomputable def oi (l:R4 (α×β))(k:α):R4 (α×β):=l.filter λp=>decide (p.1≠k)
end
inductive OV (ρ:bW):Si V->Si Sz->Prop
 |no:OV ρ Sg Sg
 |so {x:V} {v:Sz}:VR ρ x v->OV ρ (R3 x) (R3 v)
theorem jc (h:F2 (PR ρ) kvs aF)(k:Sj):OV ρ (bC kvs k) (valueAt aF k):=by
 induction h using F2.ind with
 |nil=>exact .no
 |cons p p' r r' h t ih=>
  unfold bC valueAt at ih ⊢;rw[UU,UU,<-show p.1=p'.1 from h.1];by_cases q:p.1=k;·rw[Th q];exact .so h.2
  ·rw[Ti q];exact ih
theorem PF (h:F2 (PR ρ) kvs aF)(k:Sj):aF.any (λp=>decide (p.1=k))=kvs.any (λp=>decide (p.1=k)):=by
 induction h using F2.ind with
 |nil=>rfl
 |cons p p' r r' h t ih=>rw[UK,UK,ih,<-show p.1=p'.1 from h.1]
theorem PG (h:F2 (PR ρ) kvs aF)(k:Sj){x:V}(w:VR ρ x v):F2 (PR ρ) (kvs.map λp=>if p.1=k then(p.1,x)else p) (aF.map λp=>if p.1=k then(p.1,v)else p):=by
 induction h using F2.ind with
 |nil=>trivial
 |cons p p' r r' h t ih=>
  refine⟨?_,ih⟩;show PR ρ (if p.1=k then(p.1,x)else p) (if p'.1=k then(p'.1,v)else p');by_cases z:p.1=k;·rw[Sv z,Sv (h.1.symm.trans z)];exact⟨h.1,w⟩
  ·rw[Sq z,Sq λe=>z (h.1.trans e)];exact h
theorem tG (h:F2 (PR ρ) kvs aF)(k:Sj){x:V}(r:VR ρ x v):F2 (PR ρ) (cY kvs k x) (stored aF k v):=by
 unfold cY stored;rw[PF h k];split;·exact PG h k r
 ·exact F2.app h ⟨⟨rfl,r⟩,TK⟩
theorem xY (h:F2 (PR ρ) kvs aF)(k:Sj):F2 (PR ρ) (oi kvs k) (without aF k):=by
 induction h using F2.ind with
 |nil=>trivial
 |cons p p' r r' h t ih=>
  unfold oi without at ih ⊢;rw[TJ,TJ,<-show p.1=p'.1 from h.1];by_cases q:p.1≠k;·rw[Th q];exact⟨h,ih⟩
  ·rw[Ti q];exact ih
theorem AG (h:F2 (PR ρ) kvs aF):aF.map (·.1)=kvs.map (·.1):=by
 induction h using F2.ind with
 |nil=>rfl
 |cons p p' r r' h t ih=>rw[Tq,Tq,ih,<-show p.1=p'.1 from h.1]
theorem jG (h: ∀p∈kvs,-1000<=p.1/\p.1<=1000){k:Sj}(hk: -1000<=k/\k<=1000)(x:V): ∀p∈cY kvs k x,-1000<=p.1/\p.1<=1000:=by
 intro p hp;unfold cY at hp;split at hp
 ·obtain⟨q,hq,rfl⟩:=SL.mp hp;split;·rename_i e;exact e▸(hk)
  ·exact h q hq
 ·rcases Sl.mp hp with hp |hp;·exact h p hp
  ·exact(R8.mp hp)▸(hk)
theorem mF (h: ∀p∈kvs,-1000<=p.1/\p.1<=1000)(k:Sj): ∀p∈oi kvs k,-1000<=p.1/\p.1<=1000:=λp hp=>h p (TQ.mp hp).1
theorem iB (n:SH): ∀(lo:Sj) (l:R4 Sj),l.Nodup->(∀x∈l,lo<=x/\x<lo+n)->l.length<=n:=by
 induction n with
 |zero=>
  intro lo l _ h;cases l with
  |nil=>exact S8 _
  |cons x r=>have:=h x Se;exact yF [] [_,_] 0xf01c0b2a512051 rfl this.1 this.2
 |succ n ih=>
  intro lo l hn h;have h1:=ih lo (l.filter λx=>decide (x≠lo+n)) (hn.filter _) (λx hx=>by
   obtain⟨a,b⟩:=TQ.mp hx;have:=h x a;have b':x≠lo+n:=by simpa using b
   exact⟨yZ [] [_,_] 64966697045 rfl this.1,yZ [_] [_,_] 0xf12b0a5112b0a55 rfl (JO (yZ [_] [_,_,_] 0xf1a45342b0a5112b055 rfl this.2 (Te _ _)) b')⟩)
  have h2:l.length<=(l.filter λx=>decide (x≠lo+n)).length+1:=by
   have h3: ∀(l:R4 Sj) (y:Sj),l.Nodup->l.length<=(l.filter λx=>decide (x≠y)).length+1:=by
    intro l y hl;induction l with
    |nil=>simp
    |cons a r ih=>
     obtain⟨ha,hr⟩:=S6.mp hl;by_cases q:a=y
     ·subst q;have:(r.filter λx=>decide (x≠a))=r:=Uj.mpr (λx hx=>by simpa using λe:x=a=>ha (e▸hx));rw[TJ,Sq (by simp),this];exact S8 _
     ·simp only[TJ,ne_eq,q,not_false_eq_true,decide_true,Zt,TB];have:=ih hr;simp only[ne_eq]at this;exact yN [_,_] [] 0xf1a0501aa0a54 rfl this
   exact h3 l _ hn
  exact yN [_,_,_] [] 0xf2a05012501a054 rfl h1 h2
theorem eQ {d:SM}(hd:h.DictOf (intKind prog w) d aF)(hp:F2 (PR ρ) kvs aF)(hr: ∀p∈kvs,-1000<=p.1/\p.1<=1000):aF.length<=sizeLine:=by
 obtain⟨o,es,ep,_,_,_,_,_,hn⟩:=hd;rw[AG hp]at hn;have:=iB 2001 (-1000) (kvs.map (·.1)) hn (λx hx=>by obtain⟨p,hp,rfl⟩:=SL.mp hx;have:=hr p hp;exact⟨yZ [] [_] 0xf03e83d5103e83d55 rfl this.1,yZ [] [_] 0xf3e83c0517d13c3e83db0a55 rfl this.2⟩);rw[Sa]at this;rw[hp.len,UQ];exact yN [_] [] 0xf7d13c05010000007c054 rfl this
section
variable{c:Cx}
structure cy (U:Un)(k:SH)(c:Cx)(env:Y4)(args:R4 SX)(f:WM (R4 V)):Prop where
 plain: ∀pos,(backTo pos (starEach args env)).any (·.1)=Sf
 sim: ∀pos,aU U k c ja (spliced (backTo pos (starEach args env))) f
 ev: ∀pos h,aU U k c (λρ xs (a:Args)=>a.kw=[]/\ja ρ xs a.pos) (evalArgs h Sn (backTo pos (starEach args env)) []) f
theorem AH:cy U k c env [] (ae []):=⟨λO=>rfl,λpos A g ρ J s Q rm ok h=>WB (post [] ok trivial h),λpos f A g ρ J s Q rm ok h=>evalArgs_nil3 (post [] ok ⟨rfl,TK⟩ h)⟩
theorem sw {e:SX}{r:R4 SX}{f:WM V}{fr:WM (R4 V)}(he:starEach (e::r) env=(Sf,S3 e env)::starEach r env)(h:aU U k c VR (S3 e env) f)(hr:cy U k c env r fr):
  cy U k c env (e::r) (Z f λx=>Z fr λxs=>ae (x::xs)):=by
 have hs: ∀pos,aU U k c ja (spliced (backTo pos (starEach (e::r) env))) (Z f λx=>Z fr λxs=>ae (x::xs)):=λpos A g ρ J s Q rm ok q=>by refine he▸?_;refine Wg (aA (h A g ρ J s _ rm ok q) λa aB au ak x aQ al aV aD=>aA (hr.sim pos A g au ak aB _ rm al aD) λb aX aM aL y bu aI bN aW=>?_);exact⟨aM,aL,x::y,aQ.trans bu,aI,⟨aV.mono bu,bN⟩,aW⟩
 refine⟨λpos=>?_,hs,λpos f A g ρ J s Q rm ok q=>?_⟩
 ·rw[he];show(Sf || (backTo pos (starEach r env)).any (·.1))=Sf;rw[hr.plain];rfl
 ·have:=hs pos A g ρ J s _ rm ok q;rw[he]at this ⊢;exact Xo (cH this λa aB xW=>by obtain⟨au,ak,x,aQ,al,aV,aD⟩:=xW;exact⟨au,ak,x,aQ,al,⟨rfl,aV⟩,aD⟩)
def dw (U:Un)(k:SH)(c:Cx)(R:bW->α->β->Prop)(t:R4 Sz->Xf β)(f:R4 V->WM α):Prop:=
 ∀A g ρ J s Q xs as,du k c A->OK U g c ρ J s->ja ρ xs as->f xs J Q->Tx (Tc U.prog U.w) A (t as) (cu U g c ρ R Q) (λO O=>False) s
def w1 (f:V->WM α)(xs:R4 V):WM α:=match xs with |[]=>aJ |x::r=>(match r with |[]=>f x |_::_=>aJ)
def w2 (f:V->V->WM α)(xs:R4 V):WM α:=match xs with |[]=>aJ |x::r=>w1 (f x) r
def w3 (f:V->V->V->WM α)(xs:R4 V):WM α:=match xs with |[]=>aJ |x::r=>w2 (f x) r
theorem dw.of1 {R:bW->α->β->Prop}{t:R4 Sz->Xf β}{f:V->WM α}(h:dv U k c R (λa=>t [a]) f):dw U k c R t (w1 f):=by
 intro A g ρ J s Q xs as rm ok r q;cases xs with
 |nil=>exact q.elim
 |cons x xs=>cases xs with
  |cons=>exact q.elim
  |nil=>cases as with
   |nil=>exact r.elim
   |cons a as=>cases as with
    |nil=>exact h A g ρ J s Q x a rm ok r.1 q
    |cons=>exact r.2.elim
theorem dw.of2 {R:bW->α->β->Prop}{t:R4 Sz->Xf β}{f:V->V->WM α}(h:cP U k c R (λa b=>t [a,b]) f):dw U k c R t (w2 f):=by
 intro A g ρ J s Q xs as rm ok r q;cases xs with
 |nil=>exact q.elim
 |cons x xs=>cases xs with
  |nil=>exact q.elim
  |cons y xs=>cases xs with
   |cons=>exact q.elim
   |nil=>cases as with
    |nil=>exact r.elim
    |cons a as=>cases as with
     |nil=>exact r.2.elim
     |cons b as=>cases as with
      |nil=>exact h A g ρ J s Q x y a b rm ok r.1 r.2.1 q
      |cons=>exact r.2.2.elim
def ya (U:Un)(k:SH)(c:Cx)(R:bW->α->β->Prop)(t:Sz->Sz->Sz->Xf β)(f:V->V->V->WM α):Prop:=
 ∀A g ρ J s Q x y z a b d,du k c A->OK U g c ρ J s->VR ρ x a->VR ρ y b->VR ρ z d->f x y z J Q->Tx (Tc U.prog U.w) A (t a b d) (cu U g c ρ R Q) (λO O=>False) s
theorem dw.of3 {R:bW->α->β->Prop}{t:R4 Sz->Xf β}{f:V->V->V->WM α}(h:ya U k c R (λa b d=>t [a,b,d]) f):dw U k c R t (w3 f):=by
 intro A g ρ J s Q xs as rm ok r q;cases xs with
 |nil=>exact q.elim
 |cons x xs=>cases xs with
  |nil=>exact q.elim
  |cons y xs=>cases xs with
   |nil=>exact q.elim
   |cons z xs=>cases xs with
    |cons=>exact q.elim
    |nil=>cases as with
     |nil=>exact r.elim
     |cons a as=>cases as with
      |nil=>exact r.2.elim
      |cons b as=>cases as with
       |nil=>exact r.2.2.elim
       |cons d as=>cases as with
        |nil=>exact h A g ρ J s Q x y z a b d rm ok r.1 r.2.1 r.2.2.1 q
        |cons=>exact r.2.2.2.elim
theorem jH {fa:WM (R4 V)}(hf:aU U k c VR (S3 func env) (ae (.glob (.builtin id))))(ha:cy U k c env args fa)
  (ho:dw U k c VR (λas=>call (.builtin id) as) ow)
  (hc:S3 (.Call func args [] pos) env=(do callWith pos (<-S3 func env) [] (backTo pos (starEach args env)) (backToKw pos (keywordEach [] env)))):
  aU U k c VR (S3 (.Call func args [] pos) env) (Z fa ow):=by
 intro A g ρ J s Q rm ok q;refine Call_ (aA (hf A g ρ J s (λf bD=>f=.glob (.builtin id)/\Z fa ow bD Q) rm ok ⟨rfl,q⟩) λf aB au ak x aQ al aV ⟨hx,aD⟩=>?_) hc;subst hx;cases(show f=_ from aV);refine callWith_builtin (ha.plain pos) (aA (ha.ev pos _ A g au ak aB _ rm al aD) λa aX aM aL y bu aI ⟨bN,c9⟩ aW=>?_);refine bN▸?_;exact cH (ho A g aM aL aX Q y a.pos rm aI c9 aW) λv bR p=>(p.ext bu).ext aQ
noncomputable def SO.ty:SO->Vn
 |.list _=>"list" |.dict _ _=>"dict" |.bB _=>"dict" |.range _ _=>"range" |.inst _ _=>""
def aa1 (J:St)(x:V):Vn:=match x with |.bF b _=>sg b |.ref a=>WR (J.hp a) "" SO.ty |_=>""
def EV (T:Vn)(x:V)(f:WM α):WM α:=λJ Q=>aa1 J x=T/\f J Q
theorem OK.typed (h:OK U g c ρ J s){x:V}{a:Sz}{T:Vn}(r:VR ρ x a)(e:aa1 J x=T)(hT:T≠""):s.TypeIs a T/\∀b,a=.ref b->∃o,s.heap.get? b=R3 o/\o.dict=Sg:=by
 have fin: ∀{y:SM} {o:WW},s.heap.get? y=R3 o->o.cls=.type T->o.dict=Sg->s.TypeIs (.ref y) T/\∀b,Vm y=.ref b->∃o,s.heap.get? b=R3 o/\o.dict=Sg:=
  λho h1 h2=>⟨⟨_,ho,h1⟩,λb e=>by cases e;exact⟨_,ho,h2⟩⟩
 cases x with
 |bF=>obtain⟨y,q,rfl⟩:=r;obtain⟨xs,n,p,_⟩:=h.im y _ _ q;exact fin p (SU _ e) rfl
 |ref a=>
  obtain⟨y,q,rfl⟩:=r;cases hs:J.hp a with
  |none=>exact Sw ((show(WR (J.hp a) "" SO.ty)=T from e).symm.trans (by rw[hs];rfl)) hT
  |some so=>
   have e:so.ty=T:=(show so.ty=WR (J.hp a) "" SO.ty by rw[hs];rfl).trans e;obtain⟨y',o,q',ho,hr⟩:=h.hp _ so hs;cases R7 (q.symm.trans q');cases so with
   |list vs=>obtain⟨xs,n,rfl,_⟩:=hr;exact fin ho (SU _ e) rfl
   |dict kvs ep=>obtain⟨_,⟨es,hd,_⟩,_⟩:=hr;exact fin ho (hd.1.trans (SU _ e)) hd.2.1
   |bB kvs=>obtain⟨_,⟨es,ep,hd,_⟩,_⟩:=hr;exact fin ho (hd.1.trans (SU _ e)) hd.2.1
   |range a b=>obtain⟨_,_,_,rfl⟩:=hr;exact fin ho (SU _ e) rfl
   |inst _ _=>exact Sw e.symm hT
 |_=>exact Sw e.symm hT
theorem dU {o:SX}{pl:Xf Tn}{T:Vn}{fa:WM (R4 V)}(slot:Slot T name id)(pa:PlainAttrs T)(hty:typeOf (.builtin id)=pure (.type "method_descriptor"))
  (hT:T≠"") (hb:aU U k c VR (S3 o env) fo) (ha:cy U k c env args fa) (ho:dw U k c VR (λas=>call (.builtin id) as) ow)
  (hc:S3 (.Call (.Attribute o name apos) args [] pos) env=(do
   let ov <-S3 o env
   standAt apos.atName
   let(f,first) <-holding [ov] (getMethod ov name pl)
   callWith pos f first (backTo pos (starEach args env)) [])):
  aU U k c VR (S3 (.Call (.Attribute o name apos) args [] pos) env) (Z fo λx=>EV T x (Z fa λxs=>ow (x::xs))):=by
 intro A g ρ J s Q rm ok q;refine MethodCall_ (aA (hb A g ρ J s _ rm ok q) λa aB au ak x aQ al aV ⟨h₀,aD⟩=>?_) hc;obtain⟨t1,t2⟩:=al.typed aV h₀ hT;refine getMethod_builtin t1 pa slot hty (λb e=>t2 b e) ?_;refine callWith_builtin (ha.plain pos) (aA (ha.ev pos _ A g au ak aB _ rm al aD) λa' aX aM aL y bu aI ⟨bN,c9⟩ aW=>?_);refine bN▸?_;exact cH (ho A g aM aL aX Q (x::y) (a::a'.pos) rm aI ⟨aV.mono bu,c9⟩ aW) λv bR p=>(p.ext bu).ext aQ
end
end
section
noncomputable def big:SH:=1000000
section
variable{c:Cx}
theorem PH:big<sizeLine:=by rw[UQ];decide
theorem dW (h:n<=big):n<sizeLine:=VH h PH
theorem adv:3000000<=sizeLine:=by rw[UQ];decide
theorem yb:2000000<=sizeLine:=by rw[UQ];decide
theorem cJ (r:ja ρ vs xs.toList):xs.size=vs.length:=Ux.symm.trans r.len
theorem OK.lq (h:OK U g c ρ J s){a:Ad}{x:SM}(q:ρ.dG a=R3 x)(hx:s.heap.get? x=R3 {cls:=.type "list",data:=.seq xs n})(f:Vt Sz->Vt Sz)(r:ja ρ vs (f xs).toList)(t:SH):
  OK U g c ρ (J.eM a (.list vs)) {s with heap:=s.heap.update x (Zw f),toks:=t}:=
 h.JS (s':={s with heap:=s.heap.update x (Zw f),toks:=t}) q (so:=.list vs) ⟨f xs,_,rfl,r⟩ (Up _ hx rfl) (Yj ..)
def tH (x y:V):WM V:=λJ Q=>X2 λa vs=>C4 (x=.ref a) (J.hp a=R3 (.list vs)) (vs.length<=big) (Q .none (J.eM a (.list (vs++[y]))))
theorem yd:cP U k c VR (λa b=>call (.builtin "list.append") [a,b]) tH:=by
 rintro A g ρ J s Q x y a b rm ok ha hb ⟨_,vs,ex,e,hz,h⟩;subst ex;obtain⟨x,xs,n,q,hx,r⟩:=ok.su ha e;refine YR Z5 ⟨_,hx,rfl⟩ F.entry_list_append (F.args_list_append_2 _ _) (list_append x xs n b (by rw[cJ r];exact Uf (dW hz))) ⟨hx,?_⟩;exact post .none (ok.lq q hx (λz=>z.push b) (vs:=vs++[y]) (by rw[Xs];exact F2.app r ⟨hb,TK⟩) _) rfl h
def EW (x:V):WM V:=λJ Q=>X3 λa vs y=>C4 (x=.ref a) (J.hp a=R3 (.list (vs++[y]))) (vs.length<big) (Q y (J.eM a (.list vs)))
theorem pop_list (xs:Vt α):(xs.eraseIdxIfInBounds (xs.size - 1)).toList=xs.toList.take (xs.size - 1):=by
 obtain⟨l⟩:=xs;simp only[XG,Xu];rw[<-YW,List.eraseIdx_length_sub_one]
theorem EX:dv U k c VR (λa=>call (.builtin "list.pop") [a]) EW:=by
 rintro A g ρ J s Q x a rm ok ha ⟨_,vs,y,ex,e,hz,h⟩;subst ex;obtain⟨x,xs,n,q,hx,r⟩:=ok.su ha e;have hs:xs.size - 1=vs.length:=by rw[cJ r,Sr];rfl
 obtain⟨v,hv,rv⟩:=r.get TC;refine YR WZ ⟨_,hx,rfl⟩ F.entry_list_pop (F.args_list_pop_1 _) (MeetsSeq.list_pop_last x xs n v (by rw[<-T4,hs];exact hv) (by rw[cJ r,Sr];exact Uf (dW (n:=vs.length+1) hz))) ⟨hx,?_⟩;refine post y (ok.lq q hx _ (vs:=vs) ?_ _) rv h;rw[pop_list,hs];have:=r.take vs.length;rwa [List.take_left]at this
def tI (x y:V):WM V:=λJ Q=>X4 λa vs (i:Sj) v=>C7 (x=.ref a) (y=.int i) (J.hp a=R3 (.list vs)) (vs.length<=big) (0<=i) (vs[i.toNat]? =R3 v) (Q v (J.eM a (.list (vs.eraseIdx i.toNat))))
theorem F2.erase {R:α->β->Prop}{as:R4 α}{bs:R4 β}(n:SH)(h:F2 R as bs):F2 R (as.eraseIdx n) (bs.eraseIdx n):=by
 induction h using F2.ind generalizing n with
 |nil=>rw[ZB,ZB];trivial
 |cons a b as bs r t ih=>cases n with
  |zero=>exact t
  |succ n=>exact⟨r,ih n⟩
theorem ye:cP U k c VR (λa b=>call (.builtin "list.pop") [a,b]) tI:=by
 rintro A g ρ J s Q x y a b rm ok ha hb ⟨_,vs,i,y,ex,ey,e,hz,h0,hy,h⟩;subst ex ey;obtain⟨x,xs,n,q,hx,r⟩:=ok.su ha e;obtain⟨t,rfl⟩:=hb;have hs:=cJ r;obtain⟨v,hv,rv⟩:=r.get hy;have hlt:i.toNat<vs.length:=(R6.mp hy).1;have adw:i.toNat<big:=TN hlt hz;unfold big at adw;have k1:Xi i=Sn:=by clear h hv rv hy hs hlt;simp only[Xi,Tt,Uz];lia
 have k2:seqIndex? i xs.size=R3 i.toNat:=by clear h hv rv hy;unfold seqIndex?;simp only[Sq (show ¬i<0 by exact λhh=>yF [] [_] 0xf01c0a51001c51 rfl h0 hh),Tt,Uz];rw[Sv (by exact⟨yZ [] [_] 0xf001c51001c55 rfl h0,yZ [_,_,_] [_] 0xf505112a50103210a55 rfl hs hlt (Uy _)⟩)]
 refine YR WZ ⟨_,hx,rfl⟩ F.entry_list_pop (F.args_list_pop_2 _ _) (MeetsSeq.list_pop_at x xs n i t i.toNat v k1 k2 (by rw[<-T4];exact hv) (by rw[hs];exact Uf (dW hz))) ⟨hx,?_⟩;refine post y (ok.lq q hx _ (vs:=vs.eraseIdx i.toNat) ?_ _) rv h;have e2:(xs.eraseIdxIfInBounds i.toNat).toList=xs.toList.eraseIdx i.toNat:=by obtain⟨l⟩:=xs;exact SU Array.toList (XG ..)
 rw[e2];exact F2.erase _ r
def tJ (x y:V):WM V:=λJ Q=>X3 λa vs us=>C6 (x=.ref a) (J.hp a=R3 (.list vs)) (gP J y=R3 (Sf,us)) (vs.length<=big) (us.length<=big) (Q .none (J.eM a (.list (vs++us))))
theorem yf:cP U k c VR (λa b=>call (.builtin "list.extend") [a,b]) tJ:=by
 rintro A g ρ J s Q x y a b rm ok ha hb ⟨_,vs,us,ex,e,e',hz,Ei,h⟩;subst ex;obtain⟨x,xs,n,q,hx,r⟩:=ok.su ha e;obtain⟨y,ys,n',hy,r'⟩:=ok.dO hb e';have hs:=cJ r;have J2:=cJ r';have z2:xs.size+ys.size<=2000000:=by exact hs▸J2▸(Wd hz Ei)
 refine YR Z4 ⟨_,hx,rfl⟩ F.entry_list_extend (F.args_list_extend_2 _ _) (AutoSeq1.list_extend_list_list_0 x xs n y ys n' ?_ (by rw[hs];exact Uf (dW hz)) (SJ z2 (SJ yb (UW _)))) ⟨hx,hy,?_⟩
 ·simp only[Builtin.List.listTooLong,Tt,Uz,not_and];intro _;have:=yb;clear hs J2 r r' h;exact λhh=>yF [_,_,_] [] 0xf10b2a5021e84806c501e84806c10b50 rfl z2 this hh
 ·exact post .none (ok.lq q hx (λz=>z++ys) (vs:=vs++us) (by rw[W7];exact F2.app r r') _) rfl h
theorem OV.getD {o:Si V}{m:Si Sz}{d:Sz}(h:OV ρ o m)(hz:VR ρ z d):VR ρ (o.getD z) (m.getD d):=by
 cases h with
 |no=>exact hz
 |so r=>exact r
theorem OV.isSome {o:Si V}{m:Si Sz}(h:OV ρ o m):o.isSome=m.isSome:=by
 cases h with
 |no=>rfl
 |so r=>rfl
def po (J:St)(x y:V)(K:Sj->R4 (Sj×V)->Ad->Prop):Prop:=X4 λa i kvs ep=>C4 (x=.ref a) (y=.int i) (J.hp a=R3 (.dict kvs ep)) (K i kvs a)
theorem isInt (w:ZX)(prog:Yi)(i:Sj)(t:Tok):(intKind prog w).is i (.int i t)=Sn:=by simp[intKind,YT]
theorem OK.dictPut (h:OK U g c ρ J s){a:Ad}{x:SM}(q:ρ.dG a=R3 x)(hd:s'.heap.DictOf (intKind U.prog U.w) x aF)(r:F2 (PR ρ) kvs aF)(hr: ∀p∈kvs,-1000<=p.1/\p.1<=1000)
  (hs:Vs x s.heap s'.heap) (hg:autoParam (s'.gens=s.gens) br) (ho:autoParam (s'.os=s.os) br): ∃ep,OK U g c ρ (J.eM a (.dict kvs ep)) s':=by
 obtain⟨o,kC,xO⟩:=TS.mp hd;obtain⟨ep,xO⟩:=JP.of xO;exact⟨ep,h.JS q (so:=.dict kvs ep) ⟨aF,xO,r,hr⟩ kC hs hg ho⟩
def yg (J:St)(a:Ad)(kvs:R4 (Sj×V))(K:St->Prop):Prop:=∀ep,K (J.eM a (.dict kvs ep))
def tK (x y z:V):WM V:=λJ Q=>po J x y λi kvs O=>Q ((bC kvs i).getD z) J
theorem Ca:ya U k c VR (λa b d=>call (.builtin "dict.get") [a,b,d]) tK:=by
 intro A g ρ J s Q x y z a b d rm ok ha hb hd h;obtain⟨ad,i,kvs,ep,rfl,rfl,e,h⟩:=h;obtain⟨x,aF,q,hD,r,hr,hS⟩:=ok.gm ha e;obtain⟨t,rfl⟩:=hb;refine VA Yx hD.typeIs F.entry_dict_get (F.args_dict_get_3 _ _ _) (meets_dict_get_default (intKind U.prog U.w) x (isInt U.w U.prog i t) hS d) ⟨_,hD.mapOf,?_⟩;exact post _ (ok.tok _) ((jc r i).getD hd) h
def AI (x y:V):WM V:=λJ Q=>po J x y λi kvs O=>Q ((bC kvs i).getD .none) J
theorem EY:cP U k c VR (λa b=>call (.builtin "dict.get") [a,b]) AI:=by
 intro A g ρ J s Q x y a b rm ok ha hb h;obtain⟨ad,i,kvs,ep,rfl,rfl,e,h⟩:=h;obtain⟨x,aF,q,hD,r,hr,hS⟩:=ok.gm ha e;obtain⟨t,rfl⟩:=hb;refine VA Yx hD.typeIs F.entry_dict_get (F.args_dict_get_2 _ _) (meets_dict_get (intKind U.prog U.w) x (isInt U.w U.prog i t) hS) ⟨_,hD.mapOf,?_⟩;exact post _ (ok.tok _) ((jc r i).getD (z:=.none) rfl) h
def ae6 (x y:V):WM V:=λJ Q=>po J y x λi kvs O=>Q (.bool (bC kvs i).isSome) J
end
end
section
section
variable{c:Cx}
noncomputable def eqB (x y:V):Tn:=match x,y with |.int i,.int j=>j==i |.bool a,.bool b=>b==a |_,_=>Sf
noncomputable def PJ:Si SO->Si (R4 (Sj×V)) |some (.dict kvs _)=>R3 kvs |_=>Sg
theorem aaW {o:Si SO}(h:PJ o=R3 kvs): ∃ep,o=R3 (.dict kvs ep):=by
 cases o with
 |none=>cases h
 |some so=>cases so with
  |dict _ ep=>obtain rfl:=R7 h;exact⟨ep,rfl⟩
  |_=>cases h
inductive J3:V->V->Prop
 |i (a b:Sj):J3 (.int a) (.int b)
 |b (a b:Tn):J3 (.bool a) (.bool b)
 |n (a:Tn):J3 (.bool a) .none
inductive InV (J:St):V->V->Tn->Prop
 |d (i:Sj) (a:Ad) (kvs:R4 (Sj×V)) (ep:SH):J.hp a=R3 (.dict kvs ep)->InV J (.int i) (.ref a) (bC kvs i).isSome
 |s (x y:V) (b:Tn) (vs:R4 V):gP J y=R3 (b,vs)->(∀y∈vs,J3 x y)->InV J x y (vs.any (eqB x))
def inV (J:St)(x y:V)(K:Tn->Prop):Prop:=∃r,InV J x y r/\K r
noncomputable def inW (x y:V):WM V:=λJ Q=>inV J x y λb=>Q (.bool b) J
noncomputable def EZ (x y:V):WM V:=λJ Q=>inV J x y λb=>Q (.bool (!b)) J
noncomputable def Og (a v:Sz):Tn:=match a,v with |.int i _,.int j _=>j==i |.bool a,.bool b=>b==a |_,_=>Sf
theorem J4 {x y:V}{a b:Sz}(ha:VR ρ x a)(hb:VR ρ y b)(h:J3 x y):Og a b=eqB x y:=by
 cases h with
 |i=>obtain⟨t,rfl⟩:=ha;obtain⟨u,rfl⟩:=hb;rfl
 |b=>subst ha;subst hb;rfl
 |n=>subst ha;subst hb;rfl
theorem PK {x y:V}{a b:Sz}(ha:VR ρ x a)(hb:VR ρ y b)(h:J3 x y):SeqAt.EqAt A s b a (Og a b):=by
 cases h with
 |i=>obtain⟨t,rfl⟩:=ha;obtain⟨u,rfl⟩:=hb;exact WQ _ _ _ _
 |b=>subst ha;subst hb;exact SeqAt.EqAt.bool_bool _ _
 |n=>subst ha;subst hb;exact SeqAt.EqAt.none_bool _
theorem AJ {x:V}{a:Sz}(ha:VR ρ x a): ∀{us:R4 Sz},ja ρ vs us->(∀y∈vs,J3 x y)->us.any (Og a)=vs.any (eqB x):=by
 induction vs with
 |nil=>intro us h _;cases us with
  |nil=>rfl
  |cons=>exact h.elim
 |cons y r ih=>intro us h q;cases us with
  |nil=>exact h.elim
  |cons b r'=>rw[UK,UK,ih h.2 λy hy=>q y (SQ _ hy),J4 ha h.1 (q y Se)]
theorem tL {x:V}{a:Sz}(ha:VR ρ x a)(h:ja ρ vs us)(q: ∀y∈vs,J3 x y)(v:Sz)(hv:v∈us):SeqAt.EqAt A s v a (Og a v):=by
 obtain⟨i,hi⟩:=S5.mp hv;have hl:i<vs.length:=by exact h.len▸((R6.mp hi).1)
 obtain⟨b,hb,r⟩:=h.get (SG hl);cases R7 (hb.symm.trans hi);exact PK ha r (q _ (List.getElem_mem hl))
theorem PL:cP U k c VR (compareOp .In) inW:=by
 rintro A g ρ J s Q x y a b rm ok ha hb ⟨r,hr,h⟩;cases hr with
 |d i _ kvs ep e0=>obtain⟨t,rfl⟩:=ha;obtain⟨x,aF,q,hD,r,hr,hS⟩:=ok.gm hb e0;refine wpAny_in_of (isInt U.w U.prog i t) hS hD.mapOf ?_;refine((jc r i).isSome)▸?_;exact iW (ok.tok _) h
 |s _ _ bt vs e z=>
  obtain⟨x,xs,n,hx,r⟩:=ok.dO hb e;have h:=iW ok h;rw[<-AJ ha r z,Wu]at h;cases bt;·exact SeqAt.in_listAt (Og a) (mE hx) (λv hv=>tL ha r z v (Vk.mpr hv)) h
  ·exact SeqAt.in_tupleAt (Og a) (JY hx) (λv hv=>tL ha r z v (Vk.mpr hv)) h
theorem J5:cP U k c VR (compareOp .NotIn) EZ:=by
 rintro A g ρ J s Q x y a b rm ok ha hb ⟨r,hr,h⟩;cases hr with
 |d i _ kvs ep e0=>obtain⟨t,rfl⟩:=ha;obtain⟨x,aF,q,hD,r,hr,hS⟩:=ok.gm hb e0;refine wpAny_notIn_of (isInt U.w U.prog i t) hS hD.mapOf ?_;rw[<-(jc r i).isSome];exact iW (ok.tok _) h
 |s _ _ bt vs e z=>
  obtain⟨x,xs,n,hx,r⟩:=ok.dO hb e;have h:=iW ok h;rw[<-AJ ha r z,Wu]at h;cases bt;·exact SeqAt.notIn_listAt (Og a) (mE hx) (λv hv=>tL ha r z v (Vk.mpr hv)) h
  ·exact SeqAt.notIn_tupleAt (Og a) (JY hx) (λv hv=>tL ha r z v (Vk.mpr hv)) h
noncomputable def gE (vs:R4 V)(i:Sj):Si V:=if 0<=i then vs[i.toNat]? else if -i<=vs.length then vs[(i+vs.length).toNat]? else Sg
inductive PN (J:St):V->Sj->V->Prop
 |d (a:Ad) (i:Sj) (kvs:R4 (Sj×V)) (ep:SH) (v:V):J.hp a=R3 (.dict kvs ep)->bC kvs i=R3 v->PN J (.ref a) i v
 |s (x:V) (i:Sj) (b:Tn) (vs:R4 V) (v:V):gP J x=R3 (b,vs)->vs.length<=big->gE vs i=R3 v->PN J x i v
noncomputable def PO (x y:V):WM V:=λJ Q=>X2 λi v=>C3 (y=.int i) (PN J x i v) (Q v J)
theorem item_at {i:Sj}{v:V}(h:gE vs i=R3 v): ∃j,C4 (vs[j]? =R3 v) (j<vs.length) (seqIndex? i vs.length=R3 j) ((0<=i/\i.toNat=j)\/C3 (i<0) (-i<=vs.length) ((i+vs.length).toNat=j)):=by
 unfold gE at h;unfold seqIndex?;by_cases z:0<=i
 ·replace h:=(Sv z)▸h;have hj:=(R6.mp h).1;refine⟨_,h,hj,?_,.inl ⟨z,rfl⟩⟩;clear h;simp only[Sq (show ¬i<0 by exact λhh=>yF [] [_] 0xf01c0a51001c51 rfl z hh),Tt,Uz];rw[Sv (by exact⟨yZ [] [_] 0xf001c51001c55 rfl z,yZ [_,_] [_] 0xf305101a5010a55 rfl hj (Uy _)⟩)]
 ·rw[Sq z]at h;by_cases z2: -i<=vs.length
  ·rw[Sv z2]at h;have hj:=(R6.mp h).1;refine⟨_,h,hj,?_,.inr ⟨yZ [] [_] 0xf001c5501c0a55 rfl z,z2,rfl⟩⟩;clear h;simp only[Sv (show i<0 by exact yZ [] [_] 0xf001c5501c0a55 rfl z),Tt,Uz];rw[Sv (by exact⟨yZ [_] [_] 0xf101f5110b01c55 rfl z2,yZ [_] [_] 0xf001c55110ba55 rfl z⟩)]
  ·replace h:=(Sq z2)▸h;exact c6 h
theorem E0 (value slice:SX)(yh: ∀o i,subscripted slice Sf o i=operate [o,i] (getItem o i)):cP U k c VR (subscriptTail value slice) PO:=by
 rintro A g ρ J s Q x y a b rm ok ha hb ⟨i,v,ey,hg,h⟩;subst ey;obtain⟨t,rfl⟩:=hb;cases hg with
 |d _ _ kvs ep _ e0 hv=>
  obtain⟨x,aF,q,hD,r,hr,hS⟩:=ok.gm ha e0;have:=jc r i;replace this:=hv▸this;generalize hq:valueAt aF i=m at this;cases this with
  |so ru=>exact V4 (id:="dict.__getitem__") hD.typeIs Yf.lookup (Yp (isInt U.w U.prog i t) hD.mapOf hq (post v (ok.tok _) ru h)) (yh _ _)
 |s _ _ bt vs _ e hz hv=>
  obtain⟨x,xs,n,hx,r⟩:=ok.dO ha e;have hs:=cJ r;obtain⟨j,hj,hl,hi,hc⟩:=item_at hv;obtain⟨u,hu,ru⟩:=r.get hj;replace hu:=(T4)▸hu;have h:=post v ok ru h;rw[<-hs]at hi hl hz hc;have hz:xs.size<=1000000:=hz;have b1: -1000000<=i/\i<1000000:=by clear h hi hu;rcases hc with ⟨h0,rfl⟩ |⟨h0,h1,rfl⟩<;>lia
  cases bt
  ·refine V4 (id:="list.__getitem__") (mE hx).typeIs WC.lookup ?_ (yh _ _);rcases hc with ⟨h0,rfl⟩ |⟨h0,h1,rfl⟩;·exact wpAny_getItem_list (mE hx) h0 (Xq b1.2 (by decide)) hu h
   ·exact wpAny_getItem_list_neg (mE hx) h0 (Int.neg_le_of_neg_le h1) (by clear h hi hu;lia) hu h
  ·exact V4 (id:="tuple.__getitem__") ⟨_,hx,rfl⟩ Xc.lookup (getItem_tuple (JY hx) (Int.le_trans (by decide) b1.1) (Xq b1.2 (by decide)) hi hu h) (yh _ _)
theorem E1 {slice:SX}{fs:WM V}{ow:V->V->WM V}(hv:aU U k c VR (S3 value env) fv)(hs:aU U k c VR (S3 slice env) fs)(ho:cP U k c VR (subscriptTail value slice) ow):
  aU U k c VR (S3 (.Subscript value slice pos) env) (Z fv λx=>Z fs λy=>ow x y):=by
 intro A g ρ J s Q rm ok h;exact V2 (aA (hv A g ρ J s _ rm ok h) λa aB au ak x aQ al aV aD=>
  aA (hs A g au ak aB _ rm al aD) λb aX aM aL y bu aI bN aW=>cH (ho A g aM aL aX Q x y a b rm aI (aV.mono bu) bN aW) λv bR p=>(p.ext bu).ext aQ)
theorem ro {l:SM}{k:Sj}{Q:Unit->TD->Prop}
  (hl:s.heap.get? l=R3 {cls:=.type "list",data:=.seq xs n}) (h0:0<=k) (J6:k<2 ^ 63) (hn:k<xs.size) (hQ:Q () {s with heap:=s.heap.update l (Zw (·.setIfInBounds k.toNat v))}):
  Tx (Tc prog w) A (setItem (.ref l) (.int k t) v) Q E s:=by
 have ho:=hl;have hd:Obj.data {cls:=.type "list",data:=.seq xs n}=.seq xs n:=rfl;unfold setItem;try with_reducible refine T7 ?_
 first |refine Sb (SD ?_) |skip
 refine Sb (wpAny_sequenceKey (mE hl).typeIs (by decide) ?_);refine Sb (Zf (name:=Str.ofString "__setitem__") (mE hl).typeIs slot_list_setitem
  (Yq slot_list_setitem (mE hl).typeIs entry_list_setitem ?_ (args_list_setitem _ _ _)))
 show Tx _ _ (Builtin.List.listSubscript? (.int k t)>>=_) _ _ s;refine Sb (wpAny_listSubscript_int (fitsIndex_of h0 J6) ?_);clear J6;obtain⟨j,rfl⟩:=Ua h0;have hj:j<xs.size:=yN [_,_] [] 0xf31a5110a54 rfl hn;have mD:xs[j]? =R3 xs[j]:=Array.getElem?_eq_getElem hj;refine Sb (Sb (wpAny_seqItemAt ho hd (SD ?_)));refine mD▸?_;refine Sb (wpAny_setSeqItemAt ho hd ?_);first
  |exact Sb (SD (SD ⟨.none,rfl,SD hQ⟩))
  |exact SD ⟨.none,rfl,SD hQ⟩
inductive PP (J:St)(z:V)(Q:Unit->St->Prop):V->V->Prop
 |l (a:Ad) (i:SH) (vs:R4 V):J.hp a=R3 (.list vs)->vs.length<=big->i<vs.length->Q () (J.eM a (.list (vs.set i z)))->PP J z Q (.ref a) (.int (i:Sj))
 |d (a:Ad) (i:Sj) (kvs:R4 (Sj×V)) (ep:SH):J.hp a=R3 (.dict kvs ep)->-1000<=i->i<=1000->yg J a (cY kvs i z) (Q ())->PP J z Q (.ref a) (.int i)
noncomputable def J7 (x y z:V):WM Unit:=λJ Q=>PP J z Q x y
theorem nE:ya U k c UR setItem J7:=by
 intro A g ρ J s Q x y z a b d rm ok ha hb hd h;cases h with
 |l _ j vs e hz h1 h=>obtain⟨t,rfl⟩:=hb;obtain⟨x,xs,n,q,hx,r⟩:=ok.su ha e;have hs:=cJ r;refine ro hx (U8 j) (Xq (VN.mpr (TN h1 hz)) (by decide)) (by rw[hs];exact VN.mpr h1) ?_;refine post () (ok.lq q hx (·.setIfInBounds j d) (vs:=vs.set j z) ?_ s.toks) TK h;rw[Array.toList_setIfInBounds];exact r.set j hd
 |d _ i kvs ep e h0 h1 h=>obtain⟨t,rfl⟩:=hb;obtain⟨x,aF,q,hD,r,hr,hS⟩:=ok.gm ha e;exact wpAny_setItem_pairs (isInt U.w U.prog i t) hD (λh' xP nF=>(ok.dictPut (s':={s with heap:=h',toks:=s.toks+1}) q xP (tG r i hd) (jG hr ⟨h0,h1⟩ z) nF).elim λep ok'=>post () ok' trivial (h ep)) (eQ hD r hr)
end
end
section
section
variable{c:Cx}
theorem tM {d:SM}(hd:h.DictOf (intKind prog w) d aF)(hp:F2 (PR ρ) kvs aF)(hr: ∀p∈kvs,-1000<=p.1/\p.1<=1000):aF.length<=2001:=by
 obtain⟨o,es,ep,_,_,_,_,_,hn⟩:=hd;rw[AG hp]at hn;have:=iB 2001 (-1000) (kvs.map (·.1)) hn (λx hx=>by obtain⟨p,hp,rfl⟩:=SL.mp hx;have:=hr p hp;exact⟨yZ [] [_] 0xf03e83d5103e83d55 rfl this.1,yZ [] [_] 0xf3e83c0517d13c3e83db0a55 rfl this.2⟩);rw[Sa]at this;rw[hp.len];exact this
theorem lr (r:F2 (PR ρ) kvs aF){i:Sj}(e:bC kvs i=Sg):valueAt aF i=Sg:=by
 have:=(jc r i).isSome;rw[e]at this;exact Option.not_isSome_iff_eq_none.mp (by rw[<-this];decide)
theorem OV.get {o:Si V}{m:Si Sz}{x:V}(h:OV ρ o m)(e:o=R3 x): ∃v,m=R3 v/\VR ρ x v:=by
 cases h with
 |no=>cases e
 |so r=>obtain rfl:=R7 e;exact⟨_,rfl,r⟩
theorem dX (r:F2 (PR ρ) kvs aF){i:Sj}{x:V}(e:bC kvs i=R3 x): ∃v,valueAt aF i=R3 v/\VR ρ x v:=(jc r i).get e
def PQ (x y:V):WM Unit:=λJ Q=>po J x y λi kvs a=>(bC kvs i).isSome=Sn/\yg J a (oi kvs i) (Q ())
theorem J8:cP U k c UR delItem PQ:=by
 intro A g ρ J s Q x y a b rm ok ha hb h;obtain⟨ad,i,kvs,ep,rfl,rfl,e,hs,h⟩:=h;obtain⟨x,aF,q,hD,r,hr,hS⟩:=ok.gm ha e;obtain⟨t,rfl⟩:=hb;obtain⟨v,hv⟩:=Option.isSome_iff_exists.mp hs;obtain⟨v',jZ,rv⟩:=dX r hv;refine wpAny_delItem_slot hD.typeIs (by decide) Ya ?_;refine VA Ya hD.typeIs PySem.F.entry_dict_delitem (PySem.F.args_dict_delitem_2 _ _) (meets_dict_delitem_pairs (intKind U.prog U.w) x (isInt U.w U.prog i t))
  ⟨aF,hD,eQ hD r hr,SU _ jZ,λh' xP nF=>?_⟩
 exact(ok.dictPut (s':={s with heap:=h',toks:=s.toks+1}) q xP (xY r i) (mF hr i) nF).elim λep ok'=>post () ok' trivial (h ep)
def E2 (x y:V):WM V:=λJ Q=>po J x y λi kvs a=>∃v,bC kvs i=R3 v/\yg J a (oi kvs i) (Q v)
theorem E3:cP U k c VR (λa b=>call (.builtin "dict.pop") [a,b]) E2:=by
 rintro A g ρ J s Q x y a b rm ok ha hb ⟨ad,i,kvs,ep,ex,ey,e,v,hv,h⟩;subst ex ey;obtain⟨x,aF,q,hD,r,hr,hS⟩:=ok.gm ha e;obtain⟨t,rfl⟩:=hb;obtain⟨v',jZ,rv⟩:=dX r hv;refine VA Wz hD.typeIs Wr (PySem.F.args_dict_pop_2 _ _) (ZV (intKind U.prog U.w) x (isInt U.w U.prog i t) [] (.inl rfl) rfl)
  ⟨aF,v',hD,eQ hD r hr,jZ,λh' xP nF=>?_⟩
 exact(ok.dictPut (s':={s with heap:=h',toks:=s.toks+1}) q xP (xY r i) (mF hr i) nF).elim λep ok'=>post v ok' rv (h ep)
theorem pq {K:Type}[DecidableEq K](knd:KeyKind prog w K)(d:SM){i:K}{key:Sz}(PS:knd.is i key=Sn)(dflt:Sz)(aa2:(keyPart key).isSome=Sn)(hS:(d==sysModules)=Sf):
  MeetsIn prog w (Builtin.«dict.pop» ⟨[.ref d,key,dflt],[]⟩) (λO R s=>∃kvs,s.heap.DictOf knd d kvs/\valueAt kvs i=Sg/\R (.ok (.ret dflt)) {s with toks:=s.toks+1}):=
 .of_wp λA R s ⟨kvs,hm,hv,h⟩=>by
  unfold Builtin.«dict.pop»;refine Sb ?_;unfold Builtin.Dict.keyAndDefault;refine Sb (wpAny_notOrdered_dict hm.typeIs ?_);refine SD ?_;simp only[aa2,Zt];refine Sb (SD ?_);simp only[Xk,Xn];refine Sb (wpAny_takeOut_pairs_none PS hm hv ?_);simp only[Option.isNone_none,Zt];refine Sb (wpAny_missedRemoval_other hS ?_);first
   |exact Sb (W0 (SD ⟨dflt,rfl,h⟩))
   |exact SD ⟨dflt,rfl,h⟩
def yi (x y z:V):WM V:=λJ Q=>po J x y λi kvs a=>(∀v,bC kvs i=R3 v->yg J a (oi kvs i) (Q v))/\(bC kvs i=Sg->Q z J)
theorem Cb:ya U k c VR (λa b d=>call (.builtin "dict.pop") [a,b,d]) yi:=by
 intro A g ρ J s Q x y z a b d rm ok ha hb hd h;obtain⟨ad,i,kvs,ep,rfl,rfl,e,h⟩:=h;obtain⟨x,aF,q,hD,r,hr,hS⟩:=ok.gm ha e;obtain⟨t,rfl⟩:=hb;cases hv:bC kvs i with
 |some v=>
  obtain⟨v',jZ,rv⟩:=dX r hv;refine VA Wz hD.typeIs Wr (Yl _ _ _) (ZV (intKind U.prog U.w) x (isInt U.w U.prog i t) [d] (.inr ⟨_,rfl⟩) rfl)
   ⟨aF,v',hD,eQ hD r hr,jZ,λh' xP nF=>?_⟩
  exact(ok.dictPut (s':={s with heap:=h',toks:=s.toks+1}) q xP (xY r i) (mF hr i) nF).elim λep ok'=>post v ok' rv (h.1 v hv ep)
 |none=>
  refine VA Wz hD.typeIs Wr (Yl _ _ _) (pq (intKind U.prog U.w) x (isInt U.w U.prog i t) d rfl hS)
   ⟨aF,hD,lr r hv,?_⟩
  exact post z (ok.tok _) hd (h.2 hv)
def yj (x y z:V):WM V:=λJ Q=>po J x y λi kvs a=>(∀v,bC kvs i=R3 v->Q v J)/\(bC kvs i=Sg->C3 (-1000<=i) (i<=1000) (yg J a (cY kvs i z) (Q z)))
theorem Cd:ya U k c VR (λa b d=>call (.builtin "dict.setdefault") [a,b,d]) yj:=by
 intro A g ρ J s Q x y z a b d rm ok ha hb hd h;obtain⟨ad,i,kvs,ep,rfl,rfl,e,h⟩:=h;obtain⟨x,aF,q,hD,r,hr,hS⟩:=ok.gm ha e;obtain⟨t,rfl⟩:=hb;refine VA PySem.F.slot_dict_setdefault hD.typeIs PySem.F.entry_dict_setdefault (PySem.F.args_dict_setdefault_3 _ _ _) (kt_meets_setdefault (intKind U.prog U.w) x (isInt U.w U.prog i t) hS d)
   ⟨aF,hD,eQ hD r hr,λv' jZ=>?_,λhn h' xP nF=>?_⟩
 ·cases hv:bC kvs i with
  |some v=>obtain⟨v'',PT,rv⟩:=dX r hv;cases R7 (jZ.symm.trans PT);exact post v (ok.tok _) rv (h.1 v hv)
  |none=>exact c6 ((lr r hv).symm.trans jZ)
 ·cases hv:bC kvs i with
  |some v=>obtain⟨v'',PT,rv⟩:=dX r hv;exact c6 (hn.symm.trans PT)
  |none=>obtain⟨h1,h2,h⟩:=h.2 hv;exact(ok.dictPut (s':={s with heap:=h',toks:=s.toks+1}) q xP (tG r i hd) (jG hr ⟨h1,h2⟩ z) nF).elim λep ok'=>post z ok' hd (h ep)
def kD (kvs more:R4 (Sj×V)):R4 (Sj×V):=more.foldl (λacc p=>cY acc p.1 p.2) kvs
theorem E4 {more:R4 (Sj×V)}{AK:R4 (Sj×Sz)}(h:F2 (PR ρ) more AK): ∀{kvs:R4 (Sj×V)} {aF:R4 (Sj×Sz)},F2 (PR ρ) kvs aF->F2 (PR ρ) (kD kvs more) (merged aF AK):=by
 induction h using F2.ind with
 |nil=>exact λh=>h
 |cons p p' r r' h t ih=>intro kvs aF q;have:=ih (tG q p.1 h.2);rw[show p.1=p'.1 from h.1]at this;unfold kD at this ⊢;rw[List.foldl_cons,show p.1=p'.1 from h.1];exact this
theorem vm {more:R4 (Sj×V)}: ∀{kvs:R4 (Sj×V)},(∀p∈more,-1000<=p.1/\p.1<=1000)->(∀p∈kvs,-1000<=p.1/\p.1<=1000)->∀p∈kD kvs more,-1000<=p.1/\p.1<=1000:=by
 induction more with
 |nil=>intro kvs hm h;exact h
 |cons p r ih=>intro kvs hm h;exact ih (λp hp=>hm p (SQ _ hp)) (jG h (hm _ Se) p.2)
def E5 (x y:V):WM V:=λJ Q=>X6 λa kvs ep b more ep'=>C6 (x=.ref a) (y=.ref b) (J.hp a=R3 (.dict kvs ep)) (J.hp b=R3 (.dict more ep')) (a≠b) (yg J a (kD kvs more) (Q .none))
theorem E6:cP U k c VR (λa b=>call (.builtin "dict.update") [a,b]) E5:=by
 rintro A g ρ J s Q x y a b rm ok ha hb ⟨_,kvs,ep,_,more,ep',ex,ey,e,e',cF,h⟩;subst ex ey;obtain⟨x,aF,q,hD,r,hr,hS⟩:=ok.gm ha e;obtain⟨y,AK,q',xP,r',PU,hS'⟩:=ok.gm hb e';have hxy:x≠y:=λz=>cF (ok.inj _ _ _ q (z▸q'));refine VA PySem.F.slot_dict_update hD.typeIs PySem.F.entry_dict_update (PySem.F.args_dict_update_2 _ _) (meets_dict_update (intKind U.prog U.w) x y hxy hS')
  ⟨aF,AK,hD,xP,SJ (Wd (tM hD r hr) (tM xP r' PU)) (SJ (by decide) yb),λh' hDx hDy nF=>?_⟩
 exact(ok.dictPut (s':={s with heap:=h'}) q hDx (E4 r' r) (vm PU hr) nF).elim λep ok'=>post .none ok' rfl (h ep)
end
end
section
section
variable{c:Cx}
theorem tN: ∀i,i<27->∀j,j<27->nm i=nm j->i=j:=by decide+kernel
theorem yk {kvs:R4 (SH×V)}{aF:R4 (Tj×Sz)}(h:F2 (NR ρ) kvs aF)(i:SH)(hi:i<27):OV ρ (bC kvs i) (valueAt aF (nm i)):=by
 induction h using F2.ind with
 |nil=>exact .no
 |cons p p' r r' h t ih=>
  unfold bC valueAt at ih ⊢;rw[UU,UU,show p'.1=nm p.1 from h.1];by_cases q:p.1=i;·rw[Th q,Th (SU nm q)];exact .so h.2.2
  ·rw[Ti q,Ti λz=>q (tN _ h.2.1 i hi z)];exact ih
theorem PV {kvs:R4 (SH×V)}{aF:R4 (Tj×Sz)}(h:F2 (NR ρ) kvs aF)(i:SH)(hi:i<27):aF.any (λp=>decide (p.1=nm i))=kvs.any (λp=>decide (p.1=i)):=by
 induction h using F2.ind with
 |nil=>rfl
 |cons p p' r r' h t ih=>
  rw[UK,UK,ih,show p'.1=nm p.1 from h.1];by_cases q:p.1=i;·rw[Th q,Th (SU nm q)]
  ·rw[Ti q,Ti λz=>q (tN _ h.2.1 i hi z)]
theorem PW {kvs:R4 (SH×V)}{aF:R4 (Tj×Sz)}(h:F2 (NR ρ) kvs aF)(i:SH)(hi:i<27){x:V}(w:VR ρ x v):F2 (NR ρ) (kvs.map λp=>if p.1=i then(p.1,x)else p) (aF.map λp=>if p.1=nm i then(p.1,v)else p):=by
 induction h using F2.ind with
 |nil=>trivial
 |cons p p' r r' h t ih=>
  refine⟨?_,ih⟩;show NR ρ (if p.1=i then(p.1,x)else p) (if p'.1=nm i then(p'.1,v)else p');by_cases z:p.1=i;·rw[Sv z,Sv (h.1.trans (SU nm z))];exact⟨h.1,h.2.1,w⟩
  ·rw[Sq z,Sq λe=>z (tN _ h.2.1 i hi (h.1.symm.trans e))];exact h
theorem yl {kvs:R4 (SH×V)}{aF:R4 (Tj×Sz)}(h:F2 (NR ρ) kvs aF)(hk:k<27){x:V}(r:VR ρ x v):F2 (NR ρ) (cY kvs k x) (stored aF (nm k) v):=by
 unfold cY stored;rw[PV h k hk];split;·exact PW h k hk r
 ·exact F2.app h ⟨⟨rfl,hk,r⟩,TK⟩
theorem J9 {kvs:R4 (SH×V)}{aF:R4 (Tj×Sz)}(h:F2 (NR ρ) kvs aF):aF.map (·.1)=(kvs.map (·.1)).map nm/\∀x∈kvs.map (·.1),x<27:=by
 induction h using F2.ind with
 |nil=>exact⟨rfl,λO h=>jY h⟩
 |cons p p' r r' h t ih=>exact⟨by rw[Tq,Tq,Tq,ih.1,show p'.1=nm p.1 from h.1],Sh.mpr ⟨h.2.1,ih.2⟩⟩
theorem jd {kvs:R4 (SH×V)}{aF:R4 (Tj×Sz)}(hd:o.IsDictOf (strKind prog w) aF)(hp:F2 (NR ρ) kvs aF):aF.length<=1000:=by
 obtain⟨es,ep,_,_,_,_,hn⟩:=hd;obtain⟨e,l⟩:=J9 hp;rw[e]at hn;have sx:(kvs.map (·.1)).Nodup:=List.Pairwise.of_map nm (λa b h z=>h (SU nm z)) hn;have hn2:((kvs.map (·.1)).map Wb).Nodup:=sx.map Wb (λa b h z=>h (Zj z));have:=iB 27 0 _ hn2 (λx hx=>by obtain⟨p,hp,rfl⟩:=SL.mp hx;have:=l p hp;exact⟨yZ [_] [] 252714069 rfl,yZ [_] [] 0xf1b2c0a501b2c01cb1a55 rfl this⟩);rw[Sa,Sa]at this;exact hp.len▸(yN [_] [] 0xf1b2c0503e83c054 rfl this)
theorem isS (w:ZX)(prog:Yi)(x:Tj)(t:Tok):(strKind prog w).is x (.str x t)=Sn:=by show Yt x (.str x t)=Sn;simp[Yt]
theorem kE {kvs:R4 (Tj×Sz)}(h:Pairs (strKind prog w) es kvs)(hr: ∀e∈es,e.refKey=Sf):getL name es=R3 (valueAt kvs name):=by
 induction h with
 |nil=>rfl
 |@cons e kv es kvs h1 h2 h3 IH=>
  obtain⟨t,ht⟩:=V1 h1;have ih:=IH (λe he=>hr e (SQ _ he));have q1:e.key.isStr name=(kv.1==name):=by rw[ht];rfl
  unfold getL valueAt at ih ⊢;rw[UU,UU,q1];by_cases q:kv.1=name;·simp[q,h2]
  ·have Ka:=hr e Se;simp only[q,VF.mpr q,decide_false];rw[UK,Ka,Bool.false_or];exact ih
theorem mG {kvs:R4 (Tj×Sz)}(h:Pairs (strKind prog w) es kvs): ∀e∈es,e.refKey=Sf:=by
 induction h with
 |nil=>exact λe he=>Sw he Sy
 |@cons e kv es kvs h1 h2 h3 ih=>
  intro e' he;rcases SZ.mp he with rfl |he
  ·obtain⟨t,ht⟩:=V1 h1;unfold DictEntry.refKey;exact ht▸rfl
  ·exact ih e' he
theorem any_put {kv:Tj×Sz}{kvs:R4 (Tj×Sz)}(q:kv.1≠name):stored (kv::kvs) name v=kv::stored kvs name v:=by
 unfold stored;rw[UK,Ti q,Bool.false_or];split;·rw[Tq,Sq q]
 ·rfl
theorem pr {kvs:R4 (Tj×Sz)}(h:Pairs (strKind prog w) es kvs)(hn:(kvs.map (·.1)).Nodup):
  Pairs (strKind prog w) (putL name (Vg w.params name) (.str name t) v es) (stored kvs name v):=by
 induction h with
 |nil=>exact .cons (isS w prog name t) rfl .nil
 |@cons e kv es kvs h1 h2 h3 ih=>
  obtain⟨u,hu⟩:=V1 h1;have q1:e.key.isStr name=(kv.1==name):=by rw[hu];rfl
  obtain⟨Oh,hn2⟩:=S6.mp hn;unfold putL;rw[q1];by_cases q:kv.1=name
  ·rw[Sv (by simp[q])];have:stored (kv::kvs) name v=(kv.1,v)::kvs:=by unfold stored;rw[UK,Th q,Bool.true_or,Sv rfl,Tq,Sv q];congr 1;refine(TI λp hp=>?_).trans (List.map_id _);rw[Sq];rfl;intro z;exact Oh (SL.mpr ⟨p,hp,z.trans q.symm⟩)
   rw[this];exact .cons h1 rfl h3
  ·rw[Sq (by simp[q]),any_put q];exact .cons h1 h2 (ih hn2)
theorem kb {kvs:R4 (Tj×Sz)}(hn:(kvs.map (·.1)).Nodup):((stored kvs name v).map (·.1)).Nodup:=by
 have hf: ∀p:Tj×Sz,(if p.1=name then(p.1,v)else p).1=p.1:=λp=>by
  by_cases q:p.1=name;·rw[Sv q]
  ·rw[Sq q]
 unfold stored;cases z:kvs.any λp=>decide (p.1=name)with
 |true=>rw[Sv rfl,Tg];exact(TI (g:=(·.1)) λp O=>hf p)▸hn
 |false=>rw[Sq (by decide),SN];refine Tf.mpr ⟨hn,S6.mpr ⟨Sy,Tm⟩,λa ha b hb e=>?_⟩;obtain⟨p,hp,rfl⟩:=SL.mp ha;rw[R8.mp hb]at e;exact Xj (z.symm.trans (Ut.mpr ⟨p,hp,Th e⟩))
theorem sy (h: ∀e∈es,∃k,(strKind prog w).is k e.key=Sn/\e.hash=(strKind prog w).hash k):
  ∀e∈putL name (Vg w.params name) (.str name t) v es,∃k,(strKind prog w).is k e.key=Sn/\e.hash=(strKind prog w).hash k:=by
 induction es with
 |nil=>intro e he;refine(R8.mp he)▸?_;exact⟨name,isS w prog name t,rfl⟩
 |cons aa3 es ih=>
  intro e he;unfold putL at he;by_cases z:aa3.key.isStr name=Sn
  ·replace he:=(Sv z)▸he;rcases SZ.mp he with rfl |he;·exact h aa3 Se
   ·exact h e (SQ _ he)
  ·replace he:=(Sq z)▸he;rcases SZ.mp he with rfl |he;·exact h e Se
   ·exact ih (λe he=>h e (SQ _ he)) e he
theorem PX {kvs:R4 (Tj×Sz)}(h:o.IsDictOf (strKind prog w) kvs):
  ∃es n,o=dictOf es n/\Pairs (strKind prog w) es kvs/\(kvs.map (·.1)).Nodup/\∀e∈es,∃k,(strKind prog w).is k e.key=Sn/\e.hash=(strKind prog w).hash k:=by
 obtain⟨es,ep,⟨h1,h2,h3⟩,h4,h5,h6,h7⟩:=h;obtain⟨oc,od,odt,osl⟩:=o;dsimp only at h1 h2 h3 h4;subst h1 h2 h3 h4;exact⟨es.toList,ep,rfl,h6,h7,λe he=>h5 e (Vk.mp he)⟩
theorem ofL {kvs:R4 (Tj×Sz)}(h:Pairs (strKind prog w) es kvs)(hn:(kvs.map (·.1)).Nodup)(hk: ∀e∈es,∃k,(strKind prog w).is k e.key=Sn/\e.hash=(strKind prog w).hash k):
  (dictOf es n).IsDictOf (strKind prog w) kvs:=⟨es.toArray,n,⟨rfl,rfl,rfl⟩,rfl,λe he=>hk e (by simpa using he),by simpa using h,hn⟩
structure iC (K:Vc)(C:SM)(i:SH):Prop where
 lt:i<27
 get:plainGet K C (nm i)=Sn
 hd:hasDictIn K C=Sn
 no:findIn K (.ref C) (nm i)=R3 Sg
 set:findIn K (.ref C) "__setattr__" =R3 (R3 (.builtin "object.__setattr__"))
 over:plainOver K C=Sn
inductive VwI (U:Un)(ρ:bW)(H:We)(a d:Ad)(C:SM)(kvs:R4 (SH×V)):Sz->Prop
 |mk (x dx:SM) (es:R4 DictEntry) (n:SH) (aF:R4 (Tj×Sz)):ρ.dG a=R3 x->ρ.dG d=R3 dx->H.get? x=R3 (instObj C dx)->H.get? dx=R3 (dictOf es n)->(dictOf es n).IsDictOf (strKind U.prog U.w) aF->F2 (NR ρ) kvs aF->
   Zv H x (instObj C dx) C (R3 (dictOf es n))->(∀i,i<27->getL (nm i) es=R3 (valueAt aF (nm i)))->VwI U ρ H a d C kvs (.ref x)
theorem OK.vn (h:OK U g c ρ J s){a d:Ad}{kvs:R4 (SH×V)}(r:VR ρ (.ref a) v)(e:J.hp a=R3 (.inst C d))(e':J.hp d=R3 (.bB kvs)):VwI U ρ s.heap a d C kvs v:=by
 obtain⟨x,q,rfl⟩:=r;obtain⟨x',o,q',ho,dx,qd,rfl⟩:=h.hp a _ e;rw[q]at q';obtain rfl:=R7 q';obtain⟨dx',od,qd',hod,aF,hD,hr⟩:=h.hp d _ e';replace qd':=qd▸qd';obtain rfl:=R7 qd';obtain⟨es,n,rfl,hp,hn,hk⟩:=PX hD;exact⟨x,dx,es,n,aF,q,qd,ho,hod,hD,hr,⟨ho,rfl,rfl,hod⟩,λi O=>kE hp (mG hp)⟩
def jI (x:V):Prop:=match x with |.glob _=>False |_=>True
theorem Ce {x:V}(h:VR ρ x v)(n:jI x):handedIn v=Sn:=by
 cases x with
 |none=>subst h;rfl
 |bool b=>subst h;rfl
 |int i=>obtain⟨t,rfl⟩:=h;rfl
 |str s=>obtain⟨t,rfl⟩:=h;rfl
 |ref a=>obtain⟨t,_,rfl⟩:=h;rfl
 |glob v=>exact n.elim
 |bF b vs=>obtain⟨t,_,rfl⟩:=h;rfl
def AO (C:SM)(J:St)(x:V)(K:Ad->R4 (SH×V)->Prop):Prop:=X3 λa d kvs=>C4 (x=.ref a) (J.hp a=R3 (.inst C d)) (J.hp d=R3 (.bB kvs)) (K d kvs)
def pA (C:SM)(i:SH)(x:V):WM V:=λJ Q=>AO C J x λO kvs=>∃v,C3 (bC kvs i=R3 v) (jI v) (Q v J)
theorem vo (K:iC U.K C i):dv U k c VR (λa=>getAttr a (nm i) expr) (pA C i):=by
 rintro A g ρ J s Q x a rm ok ha ⟨a,d,kvs,ex,e,e',v,hv,hg,h⟩;subst ex;obtain⟨x,dx,es,n,aF,q,qd,hx,hdx,hD,hr,I,hl⟩:=ok.vn ha e e';obtain⟨v',hq,rv⟩:=(yk hr i K.lt).get hv;have hf:findObj U.K C (R3 (dictOf es n)) (nm i)=R3 (.value v'):=findObj_own K.hd K.no rfl (by rw[YB,hl i K.lt,hq]);exact get_value ok.K I (WD K.get).1 hf (Ce rv hg) (post v (ok.tok _) rv h)
theorem E7 (K:iC U.K C i)(hn:name=nm i)(hv:aU U k c VR (S3 value env) fv)
  (he:S3 (.Attribute value name pos) env=(do
   let o <-S3 value env
   standAt pos.atName
   let r <-holding [o] (getAttr o name Sn)
   letTemporaryGo value o r
   pure r)):aU U k c VR (S3 (.Attribute value name pos) env) (Z fv λx=>pA C i x):=by
 subst hn;intro A g ρ J s Q rm ok h;exact Xr (aA (hv A g ρ J s _ rm ok h) λa aB au ak x aQ al aV aD=>cH (vo K A g au ak aB Q x a rm al aV aD) λv bR p=>p.ext aQ) he
set_option tactic.hygienic true in
theorem Kb {K:Vc}{x dx:SM}(X:K.In s.heap)
  (I:Zv s.heap x ox C (R3 (dictOf es n))) (hd:ox.dict=R3 dx) (hp:plainOver K C=Sn) (ht:takerIn K C name=R3 Sg) (hh:(clsIn K C).any (·.hasDict)=Sn)
  (hl:(getL name es).isSome=Sn) (hz:(putL name (Vg w.params name) (.str name s.toks) v es).length<=1000)
  (h:R (.ok (.ret .none)) {s with heap:=s.heap.update dx (Obj.putName name (Vg w.params name) (.str name s.toks) v),toks:=s.toks+1}):
  T3 (Tc prog w) A (.call (.builtin "object.__setattr__") ⟨[.ref x,.str name tk,v],[]⟩) R s:=by
 refine osa_open X I hp ht λb=>?_;obtain⟨cd,hc,xO⟩:=any_some hh;obtain⟨hx,tO,hn,D⟩:=I;obtain⟨oc,odi,oda,osl⟩:=ox;dsimp only at tO hd;subst tO hd;dsimp only at D;have D':(s.heap.update dx (Obj.putName name (Vg w.params name) (.str name s.toks) v)).get? dx=R3 (dictOf (putL name (Vg w.params name) (.str name s.toks) v es) (putN name es n)):=by rw[<-Yg];exact Up _ D (by rw[Yg];rfl)
 refine Sb (SD (Sb (Sb (Xl hx (Sb ((V5 X hc).here ?_))))));rw[xO];refine SD (a:=R3 dx) (Sb (SD (Sb ?_)));unfold nsSet;refine Sb (Sb (wpAny_askSetting (SD (Sb (Zo (Sb (Xl D ?_)))))));dsimp only;have c:(!(es.toArray).any (·.key.isStr name) && (es.toArray).any (·.refKey))=Sf:=by
  unfold getL at hl;rw[<-Wu,<-Wu];split at hl
  ·rename_i en he;rw[Ut.mpr ⟨en,Yu he,List.find?_some he⟩];rfl
  ·split at hl;·exact nomatch hl
   ·rename_i z;rw[Bool.not_eq_true]at z;rw[show es.toArray.toList=es from rfl,z,Bool.and_false]
 rw[aRefKeyMayBeTheName_at,c];refine wpAny_updatePart D ?_;refine Sb (Yo D' (by exact Yr (by rw[Xu,UQ];exact yN [_] [] 0xf3e83c05010000007ca054 rfl hz)) ?_);exact SD h
def lu (C:SM)(i:SH)(x v:V):WM Unit:=λJ Q=>AO C J x λd kvs=>Q () (J.eM d (.bB (cY kvs i v)))
theorem vq (K:iC U.K C i):cP U k c UR (λa b=>setAttr a (nm i) b) (lu C i):=by
 intro A g ρ J s Q x y a b rm ok ha hb h;obtain⟨a,d,kvs,rfl,e,e',h⟩:=h;obtain⟨x,dx,es,n,aF,q,qd,hx,hdx,hD,hr,I,hl⟩:=ok.vn ha e e';have ht:takerIn U.K C (nm i)=R3 Sg:=by unfold takerIn;rw[K.no];rfl
 obtain⟨es',n',e1,hp,hn,hk⟩:=PX hD;cases e1;refine set_plain ok.K I K.set (Kb (s:={s with toks:=s.toks+1}) ok.K I rfl K.over ht K.hd (by rw[hl i K.lt];rfl) ?_ ?_)
 ·have h1:=pr (name:=nm i) (v:=b) (t:=s.toks+1) hp hn;rw[h1.length];have:=jd hD hr;have h2:=stored_length_le aF (nm i) b;have h3:=jd (ofL (n:=putN (nm i) es n) h1 (kb hn) (sy hk)) (yl hr K.lt hb);exact h3
 ·refine post () ?_ trivial h;refine ok.JS (s':={s with heap:=_,toks:=s.toks+1+1}) qd (so:=.bB (cY kvs i y)) (o:=dictOf (putL (nm i) (Vg U.w.params (nm i)) (.str (nm i) (s.toks+1)) b es) (putN (nm i) es n)) ⟨stored aF (nm i) b,ofL (pr hp hn) (kb hn) (sy hk),yl hr K.lt hb⟩ ?_ (Yj ..);rw[<-Yg];exact Up _ hdx (by rw[Yg];rfl)
end
end
section
section
variable{c:Cx}
def AP (J:St):Prop:=∃N,∀a:Ad,N<=a.n->J.hp a=Sg
theorem PY (f:SH->SH)(m:SH): ∃N,∀x,x<m->f x<=N:=by
 induction m with
 |zero=>exact⟨0,λx h=>Sw h (VE _)⟩
 |succ m ih=>
  obtain⟨N,h⟩:=ih;refine⟨max N (f m),λx hx=>?_⟩;by_cases q:x=m;·subst q;exact Nat.le_max_right _ _
  ·exact SJ (h x (yN [_,_] [] 0xf10a5010a54 rfl (uY (yN [_,_] [] 0xf1a0a501054 rfl hx) q))) (Nat.le_max_left _ _)
open Classical in
theorem OK.fin (h:OK U g c ρ J s):AP J:=by
 obtain⟨N,hN⟩:=PY (λx=>if q: ∃a,ρ.dG a=R3 x then(Classical.choose q).n+1 else 0) s.heap.objs.size;refine⟨N,λa ha=>?_⟩;cases e:J.hp a with
 |none=>rfl
 |some so=>obtain⟨x,o,q,ho,_⟩:=h.hp a so e;have:=hN x (TA ho);have hq: ∃a,ρ.dG a=R3 x:=⟨a,q⟩;simp only[dif_pos hq]at this;have e2:=h.inj _ _ _ (Classical.choose_spec hq) q;rw[e2]at this;exact yF [_,_] [] 0xf01a501050 rfl ha this
noncomputable def pB (so:SO):WM V:=λJ Q=>AP J->∃a,J.hp a=Sg/\Q (.ref a) (J.eM a so)
noncomputable abbrev Shape:=R4 (Tj×Si SH)
noncomputable def ctx (L:SH)(sh:Shape)(fr:R4 Y4):Cx:={L:=L,vars:=sh.map λp=>(p.1,match p.2 with |none=>Loc.ns |some j=>Loc.cell Sn (L+1+j)),o9:=fr}
noncomputable def lv (names:R4 (Tj×Vj))(sh:Shape):Tn:=sh.all λp=>match p.2 with
 |none=>names.lookup p.1==R3 .local
 |some j=>names.lookup p.1==R3 .cell && (cellsFrom 0 names []).lookup p.1==R3 j
theorem oj (a:SH)(names:R4 (Tj×Vj)): ∀(b:SH) (acc:R4 (Tj×SM)),cellsFrom (a+b) names (acc.map λp=>(p.1,a+p.2))=(cellsFrom b names acc).map λp=>(p.1,a+p.2):=by
 induction names with
 |nil=>exact λO O=>rfl
 |cons p r ih=>
  intro b acc;obtain⟨n,kd⟩:=p;unfold cellsFrom;split;·exact ih (b+1) ((n,b)::acc)
  ·exact ih b acc
theorem tP (a:SH)(x:Tj)(l:R4 (Tj×SM)):(l.map λp=>(p.1,a+p.2)).lookup x=(l.lookup x).map (a+ ·):=by
 induction l with
 |nil=>rfl
 |cons p r ih=>
  obtain⟨n,v⟩:=p;rw[Tq,TZ,TZ];cases x==n with
  |true=>rfl
  |false=>exact ih
theorem dC {L:SH}{sh:Shape}{l:Loc}(h:(ctx L sh fr).vars[i]? =R3 (y,l)): ∃o,sh[i]? =R3 (y,o)/\l=(match o with |none=>Loc.ns |some j=>Loc.cell Sn (L+1+j)):=by
 unfold ctx at h;dsimp only at h;replace h:=(Sx)▸h;cases q:sh[i]? with
 |none=>replace h:=q▸h;cases h
 |some p=>replace h:=q▸h;cases h;exact⟨p.2,rfl,rfl⟩
theorem je {sh:Shape}(h:lv names sh=Sn)(e:sh[i]? =R3 (y,Sg)):names.lookup y=R3 .local:=by
 have:=TR.mp h _ (R9 e);simpa using this
theorem kF {sh:Shape}(h:lv names sh=Sn)(e:sh[i]? =R3 (y,R3 j))(L:SH):names.lookup y=R3 .cell/\(cellsFrom (L+1) names []).lookup y=R3 (L+1+j):=by
 have:=TR.mp h _ (R9 e);simp only[Tt,U5]at this;refine⟨this.1,?_⟩;have h2:=oj (L+1) names 0 [];rw[Xv]at h2;rw[show L+1=L+1+0 from rfl,h2,tP,this.2];rfl
theorem ym : ∀{m:Tj->Si Sz},y∉binds.map (·.1)->bindL kf binds m y=m y:=by
 induction binds with
 |nil=>exact λO=>rfl
 |cons p r ih=>
  intro m h;obtain⟨n,v⟩:=p;rw[Tq,SZ,not_or]at h;unfold bindL;refine(ih h.2)▸?_;split;·exact Sq h.1
  ·rfl
theorem jJ (hk:kf y=R3 .local): ∀{m:Tj->Si Sz},(binds.map (·.1)).Nodup->(y,v)∈binds->bindL kf binds m y=R3 v:=by
 induction binds with
 |nil=>exact λO h=>Sw h Sy
 |cons p r ih=>
  intro m hn h;obtain⟨n,u⟩:=p;obtain⟨h1,h2⟩:=S6.mp hn;unfold bindL;rcases SZ.mp h with e |h
  ·cases e;rw[ym h1,Sv hk,Sv rfl]
  ·exact ih h2 h
theorem yp : ∀{m:Tj->Si Sz},y∉binds.map (·.1)->bindC kf binds m y=m y:=by
 induction binds with
 |nil=>exact λO=>rfl
 |cons p r ih=>
  intro m h;obtain⟨n,v⟩:=p;rw[Tq,SZ,not_or]at h;unfold bindC;rw[ih h.2];split;·rfl
  ·exact Sq h.1
theorem Cg (hk:kf y=R3 .cell): ∀{m:Tj->Si Sz},(binds.map (·.1)).Nodup->(y,v)∈binds->bindC kf binds m y=R3 v:=by
 induction binds with
 |nil=>exact λO h=>Sw h Sy
 |cons p r ih=>
  intro m hn h;obtain⟨n,u⟩:=p;obtain⟨h1,h2⟩:=S6.mp hn;unfold bindC;rcases SZ.mp h with e |h
  ·cases e;rw[yp h1,Sq (by rw[hk];decide),Sv rfl]
  ·exact ih h2 h
theorem E8 {fd:TP}{a:SM}{sh:Shape}(hk:fd.scope.kind=.function)(hg:fd.globals=mainGlobals)(hb:fd.builtins=builtinsNs)(hs:lv fd.scope.names sh=Sn)(L:SH)(fr:R4 Y4):dJ (callEnvC fd L a) (ctx L sh fr) where
 L:=rfl
 kind:=hk
 gl:=hg
 bi:=hb
 ns:=λi y e=>by
  obtain⟨o,e1,e2⟩:=dC e;cases o with
  |none=>exact je hs e1
  |some j=>cases e2
 cell:=λi y o d e=>by
  obtain⟨q,e1,e2⟩:=dC e;cases q with
  |none=>cases e2
  |some j=>cases e2;exact kF hs e1 L
def Ch (c:Cx)(b:SM):Prop:=b=c.L\/∃(i:SH) (y:Tj) (ob:Tn),c.vars[i]? =R3 (y,Loc.cell ob b)
open Classical in
noncomputable def fF (g:SM->Si WW)(c:Cx)(s:TD):SM->Si WW:=λb=>if Ch c b then s.heap.get? b else g b
theorem OK.Ci (h:OK U g c ρ J s){b:SM}(e:Ch c b): ∃o,s.heap.get? b=R3 o:=by
 rcases e with rfl |⟨i,y,ob,e⟩;·obtain⟨m,⟨o,_,_,ho,_⟩,_⟩:=h.ns;exact⟨o,ho⟩
 ·obtain⟨cv,⟨o,ho,_⟩,_⟩:=h.cells i y ob b e;exact⟨o,ho⟩
theorem OK.lw (h:OK U g c ρ J s){b:SM}(e:fF g c s b=R3 o):Fz c.sl b o (s.heap.get? b):=by
 unfold fF at e;split at e;·exact .of e
 ·exact h.cI b o e
theorem OK.AQ (h:OK U g c ρ J s){b:SM}(e:g b=R3 o): ∃o',fF g c s b=R3 o'/\(b∉c.sl->o'=o)/\∃x,o'={o with slots:=x}:=by
 unfold fF;split
 ·obtain⟨x,z⟩:=(h.cI b o e).up;exact⟨_,z,λn=>R7 (z.symm.trans ((h.cI b o e).ex n)),x,rfl⟩
 ·exact⟨o,e,λO=>rfl,o.slots,rfl⟩
theorem OK.E9 (h:OK U g c ρ J s){L:SM}{e:Y4}(q:Pp U.base g c.L e):Pp U.base (fF g c s) L e:=by
 obtain⟨h1,x,h2,h3⟩:=q;refine⟨h1,x,h2,.inr ?_⟩;rcases h3 with rfl |⟨o,h3,h4⟩
 ·obtain⟨m,⟨o,es,ep,ho,hd,_⟩,_⟩:=h.ns;exact⟨o,by unfold fF;rw[Sv (.inl rfl)];exact ho,λvs z=>by replace z:=hd▸z;cases z⟩
 ·obtain⟨o',e1,_,x,e2⟩:=h.AQ h3;exact⟨o',e1,by rw[e2];exact h4⟩
theorem OK.AR (h:OK U g c ρ J s){a:Ad}{x:SM}(e:ρ.dG a=R3 x):fF g c s x=Sg:=by
 unfold fF;rw[Sq];·exact h.dr a x e
 ·rintro(q |⟨i,y,ob,q⟩);·exact h.db a x e q
  ·exact h.eF a x e i y ob x q rfl
theorem OK.AT (h:OK U g c ρ J s){x:SM}(e:fF g c s x=R3 o):ρ.bF x=Sg:=by
 unfold fF at e;split at e
 ·rename_i q;rcases q with rfl |⟨i,y,ob,q⟩;·exact h.kB
  ·exact h.mC i y ob x q
 ·exact h.kA x o e
theorem vt {sh:Shape}{a:SH}{z:Tj}(h:(sh.filterMap (·.2)).Nodup)(e:sh[i]? =R3 (y,R3 a))(e':sh[j]? =R3 (z,R3 a)):i=j:=by
 have k:=List.pairwise_iff_getElem.mp (List.pairwise_filterMap.mp h);obtain⟨hi,e⟩:=R6.mp e;obtain⟨hj,e'⟩:=R6.mp e';rcases XC i j with z |z |z;·exact Sw rfl (k i j hi hj z a (e▸rfl) a (e'▸rfl))
 ·exact z
 ·exact Sw rfl (k j i hj hi z a (e'▸rfl) a (e▸rfl))
theorem OK.enter (h:OK U g c ρ J s){L:SH}{sh:Shape}(hv1:ev.scope.kind≠.module)(Ke:ev.frame=R3 L){m:Tj->Si Sz}{loc:SH->Si V}(hL:@LE.le SH _ s.heap.objs.size L)(keep: ∀b o,s.heap.get? b=R3 o->aB.heap.get? b=R3 o)
  (hn:aB.heap.Ns L m) (hv: ∀(i:SH) (y:Tj),sh[i]? =R3 (y,Sg)->LR ρ (loc i) (m y)) (hc: ∀(i j:SH) (y:Tj),sh[i]? =R3 (y,R3 j)->∃cv,aB.heap.IsCell (L+1+j) cv/\LR ρ (loc i) cv)
  (d1:(sh.map (·.1)).Nodup) (d2:(sh.filterMap (·.2)).Nodup) (hg:aB.gens=s.gens) (ho:aB.os=s.os):OK U (fF g c s) (ctx L sh (ev::c.o9)) ρ {loc:=loc,hp:=J.hp} aB:=by
 have new: ∀b,L<=b->s.heap.get? b=Sg:=λb hb=>by
  cases q:s.heap.get? b with
  |none=>rfl
  |some o=>exact Sw (TA q) (T0.mpr (SJ hL hb))
 have cellOf: ∀{i:SH} {y:Tj} {ob:Tn} {d:SM},(ctx L sh (ev::c.o9)).vars[i]? =R3 (y,Loc.cell ob d)->∃j,d=L+1+j/\sh[i]? =R3 (y,R3 j)/\ob=Sn:=λ{i y ob d} e=>by
  obtain⟨q,e1,e2⟩:=dC e;cases q with
  |none=>cases e2
  |some j=>cases e2;exact⟨j,rfl,e1,rfl⟩
 have low: ∀a x,ρ.dG a=R3 x->@XS SH _ x L:=λa x e=>TN (h.Pq e) hL;have adx: ∀x p,ρ.bF x=R3 p->@XS SH _ x L:=λx p e=>by obtain⟨b,vs⟩:=p;obtain⟨xs,n,q,_⟩:=h.im x b vs e;exact TN (TA q) hL
 have Fa: ∀b,L<=b->U.base.get? b=Sg:=λb hb=>by
  cases q:U.base.get? b with
  |none=>rfl
  |some o=>have:=h.keep _ _ q;replace this:=(new b hb)▸this;cases this
 have gN: ∀b,L<=b->fF g c s b=Sg:=λb hb=>by
  cases q:fF g c s b with
  |none=>rfl
  |some o=>exact((h.lw q).no (new b hb)).elim
 have aa4: ∀b,L<=b->ρ.bF b=Sg:=λb hb=>by
  cases q:ρ.bF b with
  |none=>rfl
  |some p=>exact Sw (adx _ _ q) (T0.mpr hb)
 exact{
  keep:=λb o e=>keep _ _ (h.keep b o e)
  cI:=λb o e=>by have z:=(h.lw e).keep (keep b);refine⟨λn=>z.ex λm=>n ?_,z.up⟩;show b∈List.filterMap _ (ev::c.o9);rw[U1,Ke];exact SQ _ m
  k7:=λe he=>by
   rcases SZ.mp he with rfl |he;·exact⟨⟨hv1,λx e=>by replace e:=Ke▸e;obtain rfl:=R7 e;exact Fa _ (S8 _)⟩,L,Ke,.inl rfl⟩
   ·exact h.E9 (h.k7 e he)
  hp:=λa so e=>by obtain⟨x,o,p,q,r⟩:=h.hp a so e;exact⟨x,o,p,keep _ _ q,r⟩
  j9:=h.j9
  inj:=h.inj
  low:=h.low
  eE:=h.eE
  dr:=λa x e=>h.AR e
  db:=λa x e=>Ur (low a x e)
  eF:=λa x e i y ob d q=>by obtain⟨j,rfl,_⟩:=cellOf q;have:=low a x e;intro z;have z':@Eq SH x (L+1+j):=z;exact yF [_,_,_] [] 0xf21ab03210a50 rfl this z
  eO:=Fa L (S8 _)
  eG:=gN L (S8 _)
  eZ:=λi y ob d q=>by obtain⟨j,rfl,_⟩:=cellOf q;intro z;have z':@Eq SH (L+1+j) L:=z;exact yF [_,_] [] 4027624274 rfl z'
  dT:=λi y d q=>by obtain⟨j,rfl,_⟩:=cellOf q;have:@LE.le SH _ L (L+1+j):=yN [_,_] [] 4044009556 rfl;exact⟨Fa _ this,gN _ this⟩
  apart:=λi j y z ob oc d p q=>by obtain⟨a,rfl,e1,_⟩:=cellOf p;obtain⟨b,e,e2,_⟩:=cellOf q;have e:@Eq SH (L+1+a) (L+1+b):=e;have:a=b:=Nat.add_left_cancel e;subst this;exact vt d2 e1 e2
  names:=λi j y p q=>by
   obtain⟨a,e1,_⟩:=dC p;obtain⟨b,e2,_⟩:=dC q;have f1:(sh.map (·.1))[i]? =R3 y:=by rw[Sx,e1];rfl
   have f2:(sh.map (·.1))[j]? =R3 y:=by rw[Sx,e2];rfl
   exact(UG (R6.mp f1).1 d1).mp (f1.trans f2.symm)
  ns:=⟨m,hn,λi y e=>by
   obtain⟨q,e1,e2⟩:=dC e;cases q with
   |none=>exact hv i y e1
   |some j=>cases e2⟩
  cells:=λi y ob d e=>by obtain⟨j,rfl,e1,_⟩:=cellOf e;exact hc i j y e1
  im:=λx b vs e=>by obtain⟨xs,n,p,q⟩:=h.im x b vs e;exact⟨xs,n,keep _ _ p,q⟩
  k9:=h.k9
  kA:=λx o e=>h.AT e
  kB:=aa4 L (S8 _)
  mC:=λi y ob d e=>by obtain⟨j,rfl,_⟩:=cellOf e;have:@LE.le SH _ L (L+1+j):=yN [_,_] [] 4044009556 rfl;exact aa4 _ this
  gens:=hg.trans h.gens
  os:=ho.trans h.os}
theorem OK.leave (h:OK U g c ρ J s){c':Cx}(hs: ∀b∈c'.sl,b=c'.L\/b∈c.sl)(ex:Ext ρ bG)(h':OK U (fF g c s) c' bG bD s'):OK U g c bG {loc:=J.loc,hp:=bD.hp} s':=by
 have same: ∀b o,Ch c b->s.heap.get? b=R3 o->∃x,s'.heap.get? b=R3 {o with slots:=x}:=λb o e ho=>(h'.cI b o (by unfold fF;rw[Sv e];exact ho)).up;have Oi: ∀b,Ch c b->∃o,fF g c s b=R3 o:=λb e=>by obtain⟨o,ho⟩:=h.Ci e;exact⟨o,by unfold fF;rw[Sv e];exact ho⟩
 have aa5: ∀a x,bG.dG a=R3 x->¬Ch c x:=λa x e q=>by obtain⟨o,ho⟩:=Oi x q;replace ho:=(h'.dr a x e)▸ho;cases ho
 have imX: ∀x,Ch c x->bG.bF x=Sg:=λx q=>by obtain⟨o,ho⟩:=Oi x q;exact h'.kA x o ho
 exact{
  keep:=h'.keep
  cI:=λb o e=>by obtain⟨o',e1,e2,x,e3⟩:=h.AQ e;obtain⟨y,e4⟩:=(h'.cI b o' e1).up;refine⟨λn=>?_,y,by rw[e4,e3]⟩;refine(e2 n)▸?_;exact(h'.cI b o' e1).ex λm=>(hs b m).elim (λz=>by replace e1:=h'.eG▸z▸e1;exact c6 e1) n
  k7:=h.k7
  hp:=h'.hp
  j9:=h'.j9
  inj:=h'.inj
  low:=h'.low
  eE:=h'.eE
  dr:=λa x e=>by
   cases q:g x with
   |none=>rfl
   |some o=>obtain⟨o',z,_⟩:=h.AQ q;replace z:=(h'.dr a x e)▸z;cases z
  db:=λa x e q=>aa5 a x e (.inl q)
  eF:=λa x e i y ob d q z=>aa5 a x e (.inr ⟨i,y,ob,z▸q⟩)
  eO:=h.eO
  eG:=h.eG
  eZ:=h.eZ
  dT:=h.dT
  apart:=h.apart
  names:=h.names
  ns:=by obtain⟨m,⟨o,es,ep,ho,r⟩,q⟩:=h.ns;obtain⟨x,z⟩:=same _ o (.inl rfl) ho;exact⟨m,⟨_,es,ep,z,r⟩,λi y e=>(q i y e).mono ex⟩
  cells:=λi y ob d e=>by obtain⟨cv,⟨o,ho,r⟩,q⟩:=h.cells i y ob d e;obtain⟨x,z⟩:=same _ o (.inr ⟨i,y,ob,e⟩) ho;exact⟨cv,⟨_,z,r⟩,q.mono ex⟩
  im:=h'.im
  k9:=h'.k9
  kA:=λx o e=>by obtain⟨o',z,_⟩:=h.AQ e;exact h'.kA x o' z
  kB:=imX _ (.inl rfl)
  mC:=λi y ob d e=>imX _ (.inr ⟨i,y,ob,e⟩)
  gens:=h'.gens
  os:=h'.os}
end
end
variable{sh GN:Shape}
section
section
variable{c:Cx}
structure FnAt (K:Vc)(a:SM)(fd:TP)(body:R4 Vo)(ps:R4 Tj)(sh:Shape):Prop where
 look:(K.lookup a).map (·.data)=R3 (.func fd)
 code:codeIn K fd.code fd.qualname=Sn
 bd:fd.body=.stmts body
 bind: ∀as:R4 Sz,as.length=ps.length->bindArgs fd ⟨as,[]⟩=pure (ps.zip as)
 Ej:fd.closure=[]
 kind:fd.scope.kind=.function
 gl:fd.globals=mainGlobals
 bi:fd.builtins=builtinsNs
 co:fd.scope.isCoroutine=Sf
 gen:fd.scope.isGenerator=Sf
 Ek:lv fd.scope.names sh=Sn
 d1:(sh.map (·.1)).Nodup
 d2:(sh.filterMap (·.2)).Nodup
 pre:ps=(sh.map (·.1)).take ps.length
def bZ (U:Un)(k:SH)(f:SM)(w:R4 V->WM V):Prop:=
 ∀c A g ρ J s Q xs as,du k c A->OK U g c ρ J s->ja ρ xs as->w xs J Q->
  T3 (Tc U.prog U.w) A (.call (.ref f) ⟨as,[]⟩) (λr s'=>match r with |.ok (.ret v)=>cu U g c ρ VR Q v s' |_=>False) s
theorem bZ.le {f:SM}{w:R4 V->WM V}(h:bZ U j f w)(q:j<=k):bZ U k f w:=λc A g ρ J s Q xs as r=>h c A g ρ J s Q xs as (r.le q)
theorem bZ.PX {f:SM}{w:R4 V->WM V}(h:bZ U k f w):dw U k c VR (λas=>call (.ref f) as) w:=by
 intro A g ρ J s Q xs as rm ok r q;refine Vx (UA (h c A g ρ J s Q xs as rm ok r q) λr s' z=>?_);rcases r with e |(v |_ |_ |_)<;>first |exact z |exact z.elim
noncomputable def Ju (l:SH->Si V)(Q:V->St->Prop):Fl->St->Prop
 |.ret v,J=>Q v ⟨l,J.hp⟩
 |.next,J=>Q .none ⟨l,J.hp⟩
 |_,_=>False
def lx (n:SH)(f:WM Fl)(xs:R4 V):WM V:=λJ Q=>xs.length=n/\f {loc:=λi=>xs[i]?,hp:=J.hp} (Ju J.loc Q)
theorem oS {as:R4 Sz}(h1:ps[i]? =R3 y)(h2:as[i]? =R3 v):(y,v)∈ps.zip as:=by
 have:(ps.zip as)[i]? =R3 (y,v):=by rw[List.getElem?_zip_eq_some];exact⟨h1,h2⟩
 exact R9 this
theorem pC {a:SM}{fd:TP}{xs:R4 V}{as:R4 Sz}(F:FnAt U.K a fd body ps sh)(rm:du (k+1) c A)(ok:OK U g c ρ J s)(r:ja ρ xs as)(hl:xs.length=ps.length)
  (h: ∀aB,du k (ctx s.heap.objs.size sh (callEnvC fd s.heap.objs.size a::c.o9)) (A.deeper (callEnvC fd s.heap.objs.size a))->
   OK U (fF g c s) (ctx s.heap.objs.size sh (callEnvC fd s.heap.objs.size a::c.o9)) ρ {loc:=λi=>xs[i]?,hp:=J.hp} aB->
   Tx (Tc U.prog U.w) (A.deeper (callEnvC fd s.heap.objs.size a)) (UX body (callEnvC fd s.heap.objs.size a)) (λf s'=>R (.ok (.ret (match f with |.ret v=>v |_=>.none))) s')
    (λe s'=>Tx (Tc U.prog U.w) (A.deeper (callEnvC fd s.heap.objs.size a)) (leaving (callEnvC fd s.heap.objs.size a) e) (λO om=>R (.error e) om) (λe' om=>R (.error e') om) s') aB):
  T3 (Tc U.prog U.w) A (.call (.ref a) ⟨as,[]⟩) R s:=by
 obtain⟨o,ho,hd⟩:=SR.mp F.look;have Fb:as.length=ps.length:=by rw[r.len,hl]
 have AU:(ps.zip as).map (·.1)=ps:=by rw[XO];exact yN [_,_] [] 64444567636 rfl Fb
 have psn:ps.Nodup:=by rw[F.pre];exact F.d1.sublist (Wi _ _)
 have par: ∀{i:SH} {y:Tj} {o:Si SH} {x:V},sh[i]? =R3 (y,o)->xs[i]? =R3 x->ps[i]? =R3 y:=λ{i y o x} e1 e2=>by have hi:i<xs.length:=(R6.mp e2).1;rw[F.pre,Tu (by exact yN [_,_,_] [] 0xf20a50125210a54 rfl hl hi),Sx,e1];rfl
 refine XW rm.room (ok.K _ _ ho) hd (U.sj.keeps ok.keep) (XV ok.K F.code) F.bd (F.bind as Fb) F.Ej (λx hx=>?_) (λaB ic=>?_) F.co F.gen F.kind
 ·have Oj:x.1∈ps:=by exact AU▸(Tz hx)
  rw[F.pre]at Oj;obtain⟨p,hp,e⟩:=SL.mp (TU Oj);obtain⟨i,hi⟩:=S5.mp hp;obtain⟨y,o'⟩:=p;cases o' with
  |none=>exact e▸(.inl (je F.Ek hi))
  |some j=>rw[<-e];obtain⟨e1,e2⟩:=kF F.Ek hi s.heap.objs.size;exact .inr ⟨e1,SU _ e2⟩
 ·obtain⟨h',tk,es⟩:=ic.toInCall.same;refine h aB ⟨by have:=rm.depth;exact yN [_,_] [] 0xf3843c1a21e0b503843c121e0ab54 rfl this,by have:=rm.units;exact yN [_,_] [] 0xf23284c1a282e0b5023284c1282e31c0bb54 rfl this,rm.hd,WT rm.fr⟩ ?_;refine ok.enter (ev:=callEnvC fd s.heap.objs.size a) (by show fd.scope.kind≠_;rw[F.kind];decide) rfl (S8 _) ic.toInCall.keep ic.toInCall.ns (λi y e x hx=>?_) (λi j y e=>?_) F.d1 F.d2 (by rw[es]) (by rw[es])
  ·obtain⟨v,hv,rv⟩:=r.get hx;refine⟨v,?_,rv⟩;exact jJ (je F.Ek e) (by rw[AU];exact psn) (oS (par e hx) hv)
  ·obtain⟨e1,e2⟩:=kF F.Ek e s.heap.objs.size;refine⟨_,ic.cell y _ e2,λx hx=>?_⟩;obtain⟨v,hv,rv⟩:=r.get hx;refine⟨v,?_,rv⟩;exact Cg e1 (by rw[AU];exact psn) (oS (par e hx) hv)
theorem OK.Kf (ok:OK U g c ρ J s){L:SM}(hf:ev.frame=R3 L)(e':Ext ρ bG)(ok':OK U (fF g c s) (ctx L sh (ev::c.o9)) bG bD s'):OK U g c bG {loc:=J.loc,hp:=bD.hp} s':=
 ok.leave (c':=ctx L sh (ev::c.o9)) (λb hb=>by have hb:b∈(ev::c.o9).filterMap (·.frame):=hb;rw[U1,hf]at hb;exact(SZ.mp hb).imp id id) e' ok'
theorem Fc {a:SM}{fd:TP}{f:WM Fl}(F:FnAt U.K a fd body ps sh)(h: ∀L fr,aU U k (ctx L sh fr) FR (UX body (callEnvC fd L a)) f):
  bZ U (k+1) a (lx ps.length f):=by
 intro c A g ρ J s Q xs as rm ok r q;obtain⟨hl,q⟩:=q;refine pC (R:=λr s'=>match r with |.ok (.ret v)=>cu U g c ρ VR Q v s' |_=>False) F rm ok r hl λaB nG al=>?_;refine T9 (h s.heap.objs.size _ _ _ ρ _ aB _ nG al q) (λfl s' z=>?_) (λO O z=>z.elim);obtain⟨bG,bD,r',e',ok',v',q'⟩:=z;have nH:=ok.Kf rfl e' ok';cases r' with
 |ret v=>obtain⟨x,rfl,rv⟩:=v';exact⟨bG,_,v,e',nH,rv,q'⟩
 |next=>subst v';exact⟨bG,_,.none,e',nH,rfl,q'⟩
 |brk=>exact q'.elim
 |cont=>exact q'.elim
theorem Fd {f:SM}{fa:WM (R4 V)}(hk:keepIn U.K (.ref f)=Sn)(hf:aU U k c VR (S3 func env) (ae (.glob (.ref f))))(ha:cy U k c env args fa)
  (ho:dw U k c VR (λas=>call (.ref f) as) ow)
  (hc:S3 (.Call func args [] pos) env=(do callWith pos (<-S3 func env) [] (backTo pos (starEach args env)) (backToKw pos (keywordEach [] env)))):
  aU U k c VR (S3 (.Call func args [] pos) env) (Z fa ow):=by
 intro A g ρ J s Q rm ok q;refine Call_ (aA (hf A g ρ J s (λf' bD=>f'=.glob (.ref f)/\Z fa ow bD Q) rm ok ⟨rfl,q⟩) λf' aB au ak x aQ al aV ⟨hx,aD⟩=>?_) hc;subst hx;cases(show f'=_ from aV);refine VO (P:=U.K.In) (by rw[ha.plain pos];rfl) (keeps_K hk) (aA (ha.ev pos _ A g au ak aB _ rm al aD) λa aX aM aL y bu aI ⟨bN,c9⟩ aW=>⟨aI.K,?_⟩);refine bN▸?_;exact cH (ho A g aM aL aX Q y a.pos rm aI c9 aW) λv bR p=>(p.ext bu).ext aQ
structure kG (K:Vc)(C:SM)(name:Tj)(f:SM):Prop where
 get:plainGet K C name=Sn
 hf:findIn K (.ref C) name=R3 (R3 (.ref f))
 ht:isFn K (.ref f)=Sn
 hk:keepIn K (.ref f)=Sn
 no: ∀i,i<27->nm i≠name
theorem AV {kvs:R4 (SH×V)}{aF:R4 (Tj×Sz)}(h:F2 (NR ρ) kvs aF)(q: ∀i,i<27->nm i≠name):valueAt aF name=Sg:=by
 induction h using F2.ind with
 |nil=>rfl
 |cons p p' r r' h t ih=>unfold valueAt at ih ⊢;rw[UU,show p'.1=nm p.1 from h.1,Ti (q _ h.2.1)];exact ih
noncomputable def Fe (C:SM)(x:V)(f:WM α):WM α:=λJ Q=>AO C J x λO O=>f J Q
theorem Cj {o:SX}{pl:Xf Tn}{f:SM}{fa:WM (R4 V)}(K:kG U.K C name f)
  (hb:aU U k c VR (S3 o env) fo) (ha:cy U k c env args fa) (ho:dw U k c VR (λas=>call (.ref f) as) ow)
  (hc:S3 (.Call (.Attribute o name apos) args [] pos) env=(do
   let ov <-S3 o env
   standAt apos.atName
   let(f,first) <-holding [ov] (getMethod ov name pl)
   callWith pos f first (backTo pos (starEach args env)) [])):
  aU U k c VR (S3 (.Call (.Attribute o name apos) args [] pos) env) (Z fo λx=>Fe C x (Z fa λxs=>ow (x::xs))):=by
 intro A g ρ J s Q rm ok q;refine MethodCall_ (aA (hb A g ρ J s _ rm ok q) λa aB au ak x aQ al aV aD=>?_) hc;obtain⟨ad,d,kvs,rfl,e,e',aD⟩:=aD;obtain⟨x,dx,es,n,aF,q,qd,hx,hdx,hD,hr,I,hl⟩:=al.vn aV e e';obtain⟨es',n',e1,hp,hn,hk⟩:=PX hD;cases e1;have PZ:getL name es=R3 Sg:=by rw[kE hp (mG hp),AV hr K.no]
 refine method_fn al.K I (WD K.get).1 (WD K.get).2 K.hf (U5.mp K.ht) (by show(lookIn name (dictOf es n)).map _=_;rw[YB,PZ];rfl) ?_;refine VO (P:=U.K.In) (by rw[ha.plain pos];rfl) (keeps_K K.hk) (aA (ha.ev pos _ A g au ak aB _ rm al aD) λa' aX aM aL y bu aI ⟨bN,c9⟩ aW=>⟨aI.K,?_⟩);refine bN▸?_;exact cH (ho A g aM aL aX Q (.ref ad::y) (.ref x::a'.pos) rm aI ⟨aV.mono bu,c9⟩ aW) λv bR p=>(p.ext bu).ext aQ
noncomputable def sA (C:SM)(f:R4 V->WM V)(xs:R4 V):WM V:=λJ Q=>AP J->∃a d:Ad,a≠d/\J.hp a=Sg/\J.hp d=Sg/\
 f (.ref a::xs) ((J.eM d (.bB [])).eM a (.inst C d)) λr bD=>r=.none/\Q (.ref a) bD
theorem vu {fI:SM}{f:R4 V->WM V}(hm:makesIn U.K C=Sn)(hi:findIn U.K (.ref C) "__init__" =R3 (R3 (.ref fI)))(ht:isFn U.K (.ref fI)=Sn)(h:bZ U k fI f):bZ U (k+1) C (sA C f):=by
 intro c A g ρ J s Q xs as rm ok r q;obtain⟨a,d,pD,ha,hd,q⟩:=q ok.fin;obtain⟨e1,l1,pE⟩:=ok.push (a:=d) hd (so:=.bB []) (o:=emptyDict) ⟨[],⟨#[],0,⟨rfl,rfl,rfl⟩,rfl,λe he=>by simp at he,.nil,Tm⟩,TK⟩;have ha':(J.eM d (.bB [])).hp a=Sg:=by unfold St.eM;dsimp only;exact(Sq pD)▸(ha)
 obtain⟨e2,l2,nH⟩:=pE.push (a:=a) ha' (so:=.inst C d) (o:=instObj C s.heap.objs.size) ⟨_,l1,rfl⟩;dsimp only at l2;rw[U4]at l2 nH e2;obtain⟨hh,gg,dd,tt,oo⟩:=s;refine make_core (makes_of ok.K hm) (Wh ok.K hi) (λself=>bind_fn ok.K self (U5.mp ht)) (.inl rfl) ?_;have rm':du k c (A.under (.builtin "type.__call__" ⟨.ref C::as,[]⟩)):=⟨by have:=rm.depth;show A.depth+1+2*k<=900;exact yN [_,_] [] 0xf3843c1a21e0b503843c121e0ab54 rfl this,by have:=rm.units;show A.units+1+40*k<=9000;exact yN [_,_] [] 0xf23284c1a282e0b5023284c1282e0ab54 rfl this,rm.hd,rm.fr⟩;refine UA (h c _ g _ _ _ _ (.ref a::xs) (.ref (hh.objs.size+1)::as) rm' nH ⟨⟨_,l2,rfl⟩,(r.mono e1).mono e2⟩ q) λr s' z=>?_;rcases r with e |(v |_ |_ |_)<;>try exact z.elim
 obtain⟨bG,bD,v',e',ok',rv,hv,q'⟩:=z;subst hv;exact⟨rv,bG,bD,.ref a,(e1.trans e2).trans e',ok',⟨_,e'.1 _ _ l2,rfl⟩,q'⟩
end
end
section
section
variable{c:Cx}
structure bO (U:Un)(g:SM->Si WW)(c:Cx)(ρ:bW)(I:SM):Prop where
 base:U.base.get? I=Sg
 g:g I=Sg
 L:I≠c.L
 C: ∀(i:SH) (y:Tj) (ob:Tn) (d:SM),c.vars[i]? =R3 (y,Loc.cell ob d)->d≠I
 dG: ∀a,ρ.dG a≠R3 I
 bF:ρ.bF I=Sg
 sl:I∉c.sl
open Classical in
noncomputable def gI (g:SM->Si WW)(I:SM)(o:WW):SM->Si WW:=λb=>if b=I then R3 o else g b
theorem OK.yq (h:OK U g c ρ J s){b:SM}(hb:b∈c.sl): ∃o,s.heap.get? b=R3 o/\(∀vs,o.data≠.fields vs)/\(b=c.L\/∃o,g b=R3 o):=by
 obtain⟨e,he,hf⟩:=UD.mp hb;obtain⟨_,x,hx,h3⟩:=h.k7 e he;replace hx:=hf▸hx;obtain rfl:=R7 hx;rcases h3 with rfl |⟨o,h3,h4⟩
 ·obtain⟨m,⟨o,es,ep,ho,hd,_⟩,_⟩:=h.ns;exact⟨o,ho,(λvs z=>by replace z:=hd▸z;cases z),.inl rfl⟩
 ·obtain⟨y,z⟩:=(h.cI b o h3).up;exact⟨_,z,h4,.inr ⟨o,h3⟩⟩
theorem bO.fresh (h:OK U g c ρ J s)(e:s.heap.get? I=Sg):bO U g c ρ I where
 base:=by
  cases q:U.base.get? I with
  |none=>rfl
  |some o=>have:=h.keep _ _ q;replace this:=e▸this;cases this
 g:=by
  cases q:g I with
  |none=>rfl
  |some o=>exact((h.cI _ _ q).no e).elim
 L:=λq=>by obtain⟨m,⟨o',es,ep,kC,_⟩,_⟩:=h.ns;replace kC:=e▸q▸kC;cases kC
 C:=λi y ob d q z=>by obtain⟨cv,⟨o',kC,_⟩,_⟩:=h.cells i y ob d q;replace kC:=e▸z▸kC;cases kC
 dG:=λa q=>by obtain⟨so,z⟩:=h.j9 a _ q;obtain⟨y,o,e',q',_⟩:=h.hp _ _ z;replace e':=q▸e';obtain rfl:=R7 e';replace q':=e▸q';cases q'
 bF:=by
  cases q:ρ.bF I with
  |none=>rfl
  |some z=>obtain⟨b,vs⟩:=z;obtain⟨xs,n,p,_⟩:=h.im I b vs q;replace p:=e▸p;cases p
 sl:=λm=>by obtain⟨o,z,_⟩:=h.yq m;replace z:=e▸z;cases z
theorem OK.freeze (h:OK U g c ρ J s)(P:bO U g c ρ I)(e:s.heap.get? I=R3 o):OK U (gI g I o) c ρ J s where
 keep:=h.keep
 cI:=λb o' q=>by
  unfold gI at q;split at q;·rename_i z;obtain rfl:=R7 q;exact z▸(.of e)
  ·exact h.cI b o' q
 k7:=λe he=>by obtain⟨h1,x,h2,h3⟩:=h.k7 e he;exact⟨h1,x,h2,h3.imp id λzq=>by obtain⟨o',z,w⟩:=zq;exact⟨o',(by unfold gI;rw[Sq (λy=>by replace z:=P.g▸y▸z;cases z)];exact z),w⟩⟩
 hp:=h.hp
 j9:=h.j9
 inj:=h.inj
 low:=h.low
 eE:=h.eE
 dr:=λa x q=>by unfold gI;rw[Sq];exact h.dr a x q;intro z;rw[z]at q;exact P.dG a q
 db:=h.db
 eF:=h.eF
 eO:=h.eO
 eG:=by unfold gI;rw[Sq (TH P.L)];exact h.eG
 eZ:=h.eZ
 dT:=λi y d q=>⟨(h.dT i y d q).1,by unfold gI;rw[Sq (P.C i y _ d q)];exact(h.dT i y d q).2⟩
 apart:=h.apart
 names:=h.names
 ns:=h.ns
 cells:=h.cells
 im:=h.im
 k9:=h.k9
 kA:=λx o' q=>by
  unfold gI at q;split at q;·rename_i z;exact z▸(P.bF)
  ·exact h.kA x o' q
 kB:=h.kB
 mC:=h.mC
 gens:=h.gens
 os:=h.os
theorem OK.gQ (h:OK U (gI g I o) c bG bD s')(P:bO U g c ρ I):OK U g c bG bD s'/\bO U g c bG I/\s'.heap.get? I=R3 o:=by
 have g1:gI g I o I=R3 o:=by unfold gI;exact Sv rfl
 have g2: ∀b o',g b=R3 o'->gI g I o b=R3 o':=λb o' q=>by unfold gI;rw[Sq];exact q;intro z;replace q:=P.g▸z▸q;cases q
 have g3: ∀b,gI g I o b=Sg->g b=Sg:=λb q=>by
  unfold gI at q;split at q;·exact Eh q
  ·exact q
 refine⟨?_,⟨P.base,P.g,P.L,P.C,λa q=>?_,h.kA _ _ g1,P.sl⟩,(h.cI _ _ g1).ex P.sl⟩
 ·exact{h with
   cI:=λb o' q=>h.cI b o' (g2 b o' q)
   k7:=λe he=>by
    obtain⟨h1,x,h2,h3⟩:=h.k7 e he;refine⟨h1,x,h2,h3.imp id λ⟨o',z,w⟩=>⟨o',?_,w⟩⟩;unfold gI at z;split at z;·rename_i y;exact(P.sl (UD.mpr ⟨e,he,y▸h2⟩)).elim
    ·exact z
   dr:=λa x q=>g3 x (h.dr a x q)
   eG:=g3 _ h.eG
   dT:=λi y d q=>⟨(h.dT i y d q).1,g3 _ (h.dT i y d q).2⟩
   kA:=λx o' q=>h.kA x o' (g2 x o' q)}
 ·have:=h.dr a I q;replace this:=g1▸this;exact Eh this
theorem OK.away (h:OK U g c ρ J s)(P:bO U g c ρ I)(k: ∀b o,b≠I->s.heap.get? b=R3 o->s'.heap.get? b=R3 o)(hg:autoParam (s'.gens=s.gens) br)(ho:autoParam (s'.os=s.os) br):OK U g c ρ J s' where
 keep:=λb o q=>k b o (λz=>by replace q:=P.base▸z▸q;exact nomatch q) (h.keep b o q)
 cI:=λb o q=>(h.cI b o q).keep λo'=>k b o' (λz=>by rw[z,P.g]at q;exact nomatch q)
 k7:=h.k7
 hp:=λa so q=>by obtain⟨x,o,p,q',r⟩:=h.hp a so q;exact⟨x,o,p,k x o (λz=>P.dG a (z▸p)) q',r⟩
 j9:=h.j9
 inj:=h.inj
 low:=h.low
 eE:=h.eE
 dr:=h.dr
 db:=h.db
 eF:=h.eF
 eO:=h.eO
 eG:=h.eG
 eZ:=h.eZ
 dT:=h.dT
 apart:=h.apart
 names:=h.names
 ns:=by obtain⟨m,⟨o,es,ep,p,r⟩,q⟩:=h.ns;exact⟨m,⟨o,es,ep,k _ o (TH P.L) p,r⟩,q⟩
 cells:=λi y ob d e=>by obtain⟨cv,⟨o,p,r⟩,q⟩:=h.cells i y ob d e;exact⟨cv,⟨o,k _ o (P.C i y ob d e) p,r⟩,q⟩
 im:=λx b vs e=>by obtain⟨xs,n,p,q⟩:=h.im x b vs e;exact⟨xs,n,k x _ (λz=>by replace e:=P.bF▸z▸e;exact nomatch e) p,q⟩
 k9:=h.k9
 kA:=h.kA
 kB:=h.kB
 mC:=h.mC
 gens:=hg.trans h.gens
 os:=ho.trans h.os
inductive Src where
 |seq (b:Tn) (vs:R4 V) |dict (kvs:R4 (Sj×V)) (ep:SH) |kH (a b:Sj)
noncomputable def vw:Si SO->Si Src
 |some (.list vs)=>R3 (.seq Sf vs)
 |some (.dict kvs ep)=>R3 (.dict kvs ep)
 |some (.range a b)=>R3 (.kH a b)
 |_=>Sg
def cM (J:St)(x:V):Si Src:=match x with
 |.bF b vs=>R3 (.seq b vs)
 |.ref a=>vw (J.hp a)
 |_=>Sg
noncomputable def Src.items:Src->R4 V
 |.seq _ vs=>vs
 |.dict kvs _=>kvs.map λp=>.int p.1
 |.kH a b=>(TL (b - a).toNat).map λ(i:SH)=>V.int (a+(i:Sj))
noncomputable def Src.fits:Src->Prop
 |.seq _ vs=>vs.length<=big
 |.dict _ _=>True
 |.kH a b=>-1000000<=a/\a<=1000000/\-1000000<=b/\b<=1000000
def Ff (a:Sz)(S:Src)(i:SH)(o:WW):Prop:=match S with
 |.seq Sn _=>o.cls=.type "tuple_iterator"/\o.data=.fields #[a,.int i 0]
 |.seq Sf _=>o.cls=.type "list_iterator"/\o.data=.fields #[a,.int i 0]
 |.dict kvs ep=>o.cls=.type "dict_keyiterator"/\o.data=.fields #[a,.int i 0,.int kvs.length 0,.int ep 0]
 |.kH p q=>o={cls:=.type "range_iterator",dict:=Sg,data:=.fields #[rawInt (p+i*1),rawInt (((q - p).toNat:Sj) - i),rawInt 1],slots:=#[]}
theorem Fg {o:Si SO}{S:Src}(h:vw o=R3 S):(∃vs,o=R3 (.list vs)/\S=.seq Sf vs)\/(X2 λkvs ep=>o=R3 (.dict kvs ep)/\S=.dict kvs ep)\/X2 λa b=>o=R3 (.range a b)/\S=.kH a b:=by
 cases o with
 |none=>exact c6 h
 |some so=>cases so with
  |list=>obtain rfl:=R7 h;exact .inl ⟨_,rfl,rfl⟩
  |dict=>obtain rfl:=R7 h;exact .inr (.inl ⟨_,_,rfl,rfl⟩)
  |range=>obtain rfl:=R7 h;exact .inr (.inr ⟨_,_,rfl,rfl⟩)
  |_=>exact c6 h
theorem pF {x:V}{S:Src}(h:cM J x=R3 S):(X2 λb vs=>gP J x=R3 (b,vs)/\S=.seq b vs)\/∃a,x=.ref a/\((X2 λkvs ep=>J.hp a=R3 (.dict kvs ep)/\S=.dict kvs ep)\/X2 λp q=>J.hp a=R3 (.range p q)/\S=.kH p q):=by
 cases x with
 |bF=>obtain rfl:=R7 h;exact .inl ⟨_,_,rfl,rfl⟩
 |ref a=>exact(Fg h).imp (λzq=>by obtain⟨vs,e,q⟩:=zq;exact⟨_,vs,SU (Y0 _) (show tF (J.hp a)=R3 vs by rw[e];rfl),q⟩) λz=>⟨a,rfl,z⟩
 |_=>exact c6 h
theorem jf {x:V}(h:cM J x=R3 (.seq b vs)):gP J x=R3 (b,vs):=by
 rcases pF h with ⟨_,_,e,q⟩ |⟨a,_,⟨_,_,e,q⟩ |⟨_,_,e,q⟩⟩<;>cases q;exact e
theorem gW {x:V}(h:cM J x=R3 (.dict kvs ep)): ∃a,x=.ref a/\J.hp a=R3 (.dict kvs ep):=by
 rcases pF h with ⟨_,_,e,q⟩ |⟨a,z,⟨_,_,e,q⟩ |⟨_,_,e,q⟩⟩<;>cases q;exact⟨a,z,e⟩
theorem Fh {x:V}{p q:Sj}(h:cM J x=R3 (.kH p q)): ∃a,x=.ref a/\J.hp a=R3 (.range p q):=by
 rcases pF h with ⟨_,_,e,q⟩ |⟨a,z,⟨_,_,e,q⟩ |⟨_,_,e,q⟩⟩<;>cases q;exact⟨a,z,e⟩
theorem pG (a b:Sj):Xy a b 1=((b - a).toNat:Sj):=by
 unfold Xy;simp;lia
theorem sB {p q:Sj}(hf:(Src.kH p q).fits):Yd p q 1=Sn:=by
 obtain⟨h1,h2,h3,h4⟩:=hf;unfold Yd;rw[pG];simp only[Builtin.Range.rangeFitsLong,Tt,Ye,Uz,U5];refine⟨⟨⟨⟨?_,?_⟩,?_⟩,?_⟩,?_⟩<;>first |lia |(right;simp;exact⟨xZ [] [_] (.num (-9223372036854775808)) v0 1 (.c 1 1 (.num (-1000000)) v0 .e) rfl h3,xZ [] [_] (vS v0) (.num 9223372036854775808) 1 (.c 1 1 v0 (.num 1000000) .e) rfl h4⟩)
theorem gp {x:V}{a:Sz}{S:Src}{Q:Sz->TD->Prop}(ok:OK U g c ρ J s)(r:VR ρ x a)(e:cM J x=R3 S)(hf:S.fits)
  (h: ∀o,Ff a S 0 o->o.isFreed=Sf->Q (.ref s.heap.objs.size) {s with heap:=s.heap.push o}):Tx (Tc U.prog U.w) A (pyIter a) Q E s:=by
 cases S with
 |seq b vs=>
  obtain⟨x,xs,n,hx,rr⟩:=ok.dO r (jf e);cases b;·exact wpAny_pyIter_list (mE hx) (h _ ⟨rfl,rfl⟩ rfl)
  ·exact wpAny_pyIter_tuple (JY hx) (h _ ⟨rfl,rfl⟩ rfl)
 |dict kvs ep=>obtain⟨ad,rfl,e0⟩:=gW e;obtain⟨x,aF,-,hD,rr,hS⟩:=ok.oQ r e0;refine wpAny_pyIter_dict hS hD (h _ ⟨rfl,?_⟩ rfl);rw[rr.len];rfl
 |kH p q=>
  obtain⟨ad,rfl,e0⟩:=Fh e;obtain⟨x,hx,rfl⟩:=r;obtain⟨x',o,mD,ho,t,u,v,rfl⟩:=ok.hp ad _ e0;rw[hx]at mD;obtain rfl:=R7 mD;refine wpAny_pyIter_range ho (sB hf) (h _ ?_ rfl)
  ·rw[pG];show _=_;simp
theorem yr {x v:V}{a:Sz}{S:Src}{Q:Si Sz->TD->Prop}(ok:OK U g c ρ J s)(r:VR ρ x a)(e:cM J x=R3 S)(hi:s.heap.get? I=R3 o)(it:Ff a S i o)
  (hv:S.items[i]? =R3 v) (h: ∀u o' h' tk,VR ρ v u->Ff a S (i+1) o'->h'.get? I=R3 o'->Vs I s.heap h'->Q (R3 u) {s with heap:=h',toks:=tk}):Tx (Tc U.prog U.w) A (pyNext (.ref I)) Q E s:=by
 cases S with
 |seq b vs=>
  obtain⟨x,xs,n,hx,rr⟩:=ok.dO r (jf e);obtain⟨u,hu,ru⟩:=rr.get hv;rw[T4]at hu;cases b;·exact wpAny_pyNext_list_item ⟨o,hi,it⟩ (mE hx) hu λh' zq1 hs=>by obtain⟨o',e1,e2⟩:=zq1;exact h u o' h' s.toks ru e2 e1 hs
  ·exact wpAny_pyNext_tuple_item ⟨o,hi,it⟩ (JY hx) hu λh' zq1 hs=>by obtain⟨o',e1,e2⟩:=zq1;exact h u o' h' s.toks ru e2 e1 hs
 |dict kvs ep=>
  obtain⟨ad,rfl,e0⟩:=gW e;obtain⟨x,aF,-,hD,rr,hS⟩:=ok.oQ r e0;unfold Src.items at hv;rw[Sx]at hv;cases q:kvs[i]? with
  |none=>replace hv:=q▸hv;cases hv
  |some p=>
   rw[q]at hv;obtain rfl:=R7 hv;obtain⟨p',hp',e1,e2⟩:=rr.get q;obtain⟨k',v'⟩:=p';have e1:p.1=k':=e1;have hl:=rr.len;refine wpAny_pyNext_dict_item (it:=I) (i:=i) ⟨o,hi,by rw[hl];exact it⟩ hD hp' λkey h' hk hit hs=>?_;obtain⟨o',e3,e4⟩:=hit;have Fi: ∃t,key=.int k' t:=by cases key<;>simp[intKind,YT]at hk;exact⟨_,by rw[hk]⟩
   obtain⟨t,rfl⟩:=Fi;exact h _ o' h' s.toks ⟨t,by rw[e1]⟩ (by replace e4:=hl▸e4;exact e4) e3 hs
 |kH p q=>
  unfold Src.items at hv;replace hv:=(Sx)▸hv;cases z:(TL (q - p).toNat)[i]? with
  |none=>replace hv:=z▸hv;cases hv
  |some j=>replace hv:=z▸hv;obtain rfl:=R7 hv;obtain⟨AU,hz2⟩:=R6.mp z;replace AU:=T6▸AU;rw[V9]at hz2;subst hz2;subst it;refine wpAny_pyNext_range_item hi (yZ [_,_] [] 0xf01a50310f01ca55 rfl AU) λh' hit hs=>?_;refine h _ _ h' _ ⟨s.toks,by rw[Int.mul_one]⟩ ?_ hit hs;show _=_;rw[show p+(i:Sj)*1+1=p+((i+1:SH):Sj)*1 by exact Td (yZ [_] [_,_] 0xf1a2332112f0b1112f0ba55 rfl (Te _ _)) (yZ [_] [_,_] 0xf1a2531112f0ba2112f0b55 rfl (Te _ _)),show(((q - p).toNat:Sj) - (i:Sj) - 1)=((q - p).toNat:Sj) - ((i+1:SH):Sj) by exact Td (yZ [_,_] [_] 0xf3a053010f11c310f0f55 rfl (Te _ _)) (yZ [_,_] [_] 0xf3a03311c310f0f010f55 rfl (Te _ _))]
theorem yt {x:V}{a:Sz}{S:Src}{Q:Si Sz->TD->Prop}(hh:A.handled=Sg)(ok:OK U g c ρ J s)(r:VR ρ x a)(e:cM J x=R3 S)(hi:s.heap.get? I=R3 o)(it:Ff a S i o)
  (hv:S.items[i]? =Sg) (h: ∀h',Y3 I s.heap h'->Q Sg {s with heap:=h'}):Tx (Tc U.prog U.w) A (pyNext (.ref I)) Q E s:=by
 cases S with
 |seq b vs=>
  obtain⟨x,xs,n,hx,rr⟩:=ok.dO r (jf e);have hu:xs[i]? =Sg:=by rw[<-T4,T2,rr.len];exact T2.mp hv
  cases b;·exact wpAny_pyNext_list_end hh ⟨o,hi,it⟩ (mE hx) hu h
  ·exact wpAny_pyNext_tuple_end hh ⟨o,hi,it⟩ (JY hx) hu h
 |dict kvs ep=>
  obtain⟨ad,rfl,e0⟩:=gW e;obtain⟨x,aF,-,hD,rr,hS⟩:=ok.oQ r e0;have hl:=rr.len;have hu:aF[i]? =Sg:=by have:=T2.mp hv;unfold Src.items at this;rw[Sa]at this;rw[T2,hl];exact this
  exact wpAny_pyNext_dict_end hh (it:=I) (i:=i) ⟨o,hi,by rw[hl];exact it⟩ hD hu h
 |kH p q=>have:=T2.mp hv;unfold Src.items at this;rw[Sa,T6]at this;subst it;exact wpAny_pyNext_range_end hh hi (yZ [_,_] [] 0xf105001c310f55 rfl this) h
inductive It (U:Un)(g:SM->Si WW)(c:Cx)(ρ:bW)(I:SM)(a:Sz)(S:Src)(i:SH)(bG:bW)(J:St)(s:TD):Prop
 |mk (o:WW):Ext ρ bG->OK U (gI g I o) c bG J s->Ff a S i o->It U g c ρ I a S i bG J s
theorem It.ext {a:Sz}{S:Src}(h:It U g c ρ I a S i bG J s):Ext ρ bG:=by cases h;assumption
theorem ly {x:V}{a:Sz}{S:Src}{Q:Si Sz->TD->Prop}(hh:A.handled=Sg)(P:bO U g c ρ I)(r:VR ρ x a)(h:It U g c ρ I a S i bG J s)(e:cM J x=R3 S)
  (more: ∀u v o aB,S.items[i]? =R3 v->VR bG v u->OK U (gI g I o) c bG J aB->Ff a S (i+1) o->Q (R3 u) aB) (fin:S.items[i]? =Sg->∀aB,OK U g c bG J aB->Q Sg aB):Tx (Tc U.prog U.w) A (pyNext (.ref I)) Q E s:=by
 obtain⟨o,ex,ok,it⟩:=h;obtain⟨El,P',ho⟩:=ok.gQ P;cases hv:S.items[i]? with
 |some v=>exact yr El (r.mono ex) e ho it hv λu o' h' tk ru vz kC nF=>more u v o' _ hv ru (OK.freeze (El.away (s':={s with heap:=h',toks:=tk}) P' λb o q e=>(nF.2 b q).trans e) P' kC) vz
 |none=>exact yt hh El (r.mono ex) e ho it hv λh' nF=>fin hv _ (El.away (s':={s with heap:=h'}) P' nF)
theorem jK {l:R4 α}{v:α}(h:l[i]? =R3 v):l.drop i=v::l.drop (i+1):=by
 obtain⟨q,rfl⟩:=R6.mp h;exact Uh q
theorem gX {l:R4 α}(h:l[i]? =Sg):l.drop i=[]:=VJ (T2.mp h)
theorem pH {l:R4 α}{v:α}(hn:n+i=l.length)(h:l[i]? =R3 v): ∃m,m<n/\m+(i+1)=l.length:=by
 cases n with
 |zero=>exact Sw ((Xz i).symm.trans hn) (Ur (R6.mp h).1)
 |succ m=>exact⟨m,UF m,(YJ m i).symm.trans hn⟩
end
end
section
section
variable{c:Cx}
noncomputable def sqK (r:WM Fl)(Q:Fl->St->Prop):Fl->St->Prop
 |.next,J=>r J Q
 |.brk,J=>Q .brk J
 |.cont,J=>Q .cont J
 |.ret v,J=>Q (.ret v) J
def aq (f r:WM Fl):WM Fl:=λJ Q=>f J (sqK r Q)
theorem Kg:aU U k c FR (UX [] env) (ae .next):=λA g ρ J s Q rm ok h=>UJ (post .next ok rfl h)
theorem gF {rest:R4 Vo}{f r:WM Fl}(h:aU U k c FR (Vu st env) f)(hr:aU U k c FR (UX rest env) r):aU U k c FR (UX (st::rest) env) (aq f r):=by
 intro A g ρ J s Q rm ok q;refine Uk (aA (h A g ρ J s _ rm ok q) λa aB au ak x aQ al aV aD=>?_);cases x with
 |next=>subst aV;exact cH (hr A g au ak aB _ rm al aD) λv bR p=>p.ext aQ
 |brk=>subst aV;exact⟨au,ak,.brk,aQ,al,rfl,aD⟩
 |cont=>subst aV;exact⟨au,ak,.cont,aQ,al,rfl,aD⟩
 |ret v=>obtain⟨w,rfl,rv⟩:=aV;exact⟨au,ak,.ret v,aQ,al,⟨w,rfl,rv⟩,aD⟩
theorem vA {f:WM Fl}(h:aU U k c FR (Vu st env) f):aU U k c FR (UX [st] env) f:=by
 intro A g ρ J s Q rm ok q;refine Uk (aA (h A g ρ J s _ rm ok q) λa aB au ak x aQ al aV aD=>?_);cases x with
 |next=>cases aV;exact UJ ⟨au,ak,.next,aQ,al,rfl,aD⟩
 |brk=>subst aV;exact⟨au,ak,.brk,aQ,al,rfl,aD⟩
 |cont=>subst aV;exact⟨au,ak,.cont,aQ,al,rfl,aD⟩
 |ret v=>obtain⟨w,rfl,rv⟩:=aV;exact⟨au,ak,.ret v,aQ,al,⟨w,rfl,rv⟩,aD⟩
theorem P7 {test:SX}{orelse:R4 Vo}{ft:WM Tn}{fo:WM Fl}(ht:aU U k c BR (UE test env (S3 test env)) ft)(hb:aU U k c FR (UX body env) fb)(ho:aU U k c FR (UX orelse env) fo):
  aU U k c FR (Vu (.If test body orelse pos) env) (bK ft fb fo):=by
 intro A g ρ J s Q rm ok q;refine wpAny_If (aA (ht A g ρ J s _ rm ok q) λa aB au ak pj aQ al aV aD=>?_);cases(show pj=a from aV);cases a;·exact cH (ho A g au ak aB _ rm al (aD.2 rfl)) λv bR p=>p.ext aQ
 ·exact cH (hb A g au ak aB _ rm al (aD.1 rfl)) λv bR p=>p.ext aQ
theorem Kh {e:SX}{f:WM V}(h:aU U k c VR (S3 e env) f):aU U k c FR (Vu (.Return (R3 e) pos) env) (Z f λv=>ae (.ret v)):=by
 intro A g ρ J s Q rm ok q;exact VU (aA (h A g ρ J s _ rm ok q) λa aB au ak x aQ al aV aD=>⟨au,ak,.ret x,aQ,al,⟨a,rfl,aV⟩,aD⟩)
theorem Fj :aU U k c FR (Vu (.Return Sg pos) env) (ae (.ret .none)):=λA g ρ J s Q rm ok q=>wpAny_Return_none (post (.ret .none) ok ⟨_,rfl,rfl⟩ q)
theorem tQ :aU U k c FR (Vu (.Continue pos) env) (ae .cont):=λA g ρ J s Q rm ok q=>wpAny_Continue (post .cont ok rfl q)
theorem Fk {e:SX}{f:WM V}(h:aU U k c VR (S3 e env) f)(hi:interactive env=Sf)(hs:swapsWith e Sg pos.line env=pure Sf):aU U k c FR (Vu (.Expr e pos) env) (Z f λO=>ae .next):=by
 intro A g ρ J s Q rm ok q;exact wpAny_Expr_any (aA (h A g ρ J s _ rm ok q) λa aB au ak x aQ al aV aD=>⟨au,ak,.next,aQ,al,rfl,aD⟩) hi hs
noncomputable def cC (i:SH)(v:V):WM Unit:=λJ Q=>Q () (J.mB i v)
theorem dY (he:dJ env c)(hv:c.vars[i]? =R3 (y,Loc.ns)):dv U k c UR (λv=>storeName env y v) (cC i):=by
 intro A g ρ J s Q x a rm ok ha h;obtain⟨m,hm,hl⟩:=ok.ns;have hp:(env.scope.kind== .class || (env.scope.kind== .module && env.locals !=env.globals))=Sf:=by rw[he.kind];rfl
 refine ZI (he.ns i y hv) (he.L▸hm) (λh' hn hs=>?_) hp;rw[he.L]at hn hs;exact post () (ok.aa0 (s':={s with heap:=h',toks:=s.toks+1}) hv ha hm hn hs) TK h
theorem pI (he:dJ env c){d:SM}(hv:c.vars[i]? =R3 (y,Loc.cell Sn d)):dv U k c UR (λv=>storeName env y v) (cC i):=by
 intro A g ρ J s Q x a rm ok ha h;obtain⟨cv,hc,hl⟩:=ok.cells i y Sn d hv;obtain⟨e1,e2⟩:=he.cell i y Sn d hv;refine wpAny_storeName_cell he.kind e1 e2 hc λh' hn hs=>?_;exact post () (ok.setCell (s':={s with heap:=h'}) hv ha hn hs) TK h
theorem fT {f:V->WM Unit}(h:dv U k c UR (λv=>storeName env y v) f):dv U k c UR (λv=>assign (.Name y pos) env v) f:=
 λA g ρ J s Q x a rm ok ha q=>U0 (h A g ρ J s Q x a rm ok ha q)
theorem kI {st:V->WM Unit}(hv:aU U k c VR (S3 value env) fv)(Ck:dv U k c UR (λv=>storeName env y v) st)
  (hs:swapsWith value (R3 (.Name y p)) pos.line env=pure Sf):aU U k c FR (Vu (.Assign [.Name y p] value pos) env) (Z fv λv=>Z (st v) λO=>ae .next):=by
 intro A g ρ J s Q rm ok q;exact wpAny_Assign_Name (aA (hv A g ρ J s _ rm ok q) λa aB au ak x aQ al aV aD=>aA (Ck A g au ak aB _ x a rm al aV aD) λO aX aM aL O bu aI O aW=>
  ⟨aM,aL,.next,aQ.trans bu,aI,rfl,aW⟩) hs
theorem oq {o:SX}(K:iC U.K C i)(hn:name=nm i)(hv:aU U k c VR (S3 value env) fv)(ho:aU U k c VR (S3 o env) fo)
  (hs:swapsWith value (R3 (.Attribute o name p)) pos.line env=pure Sf):aU U k c FR (Vu (.Assign [.Attribute o name p] value pos) env) (Z fv λv=>Z fo λx=>Z (lu C i x v) λO=>ae .next):=by
 subst hn;intro A g ρ J s Q rm ok q;exact plainObj_wpAny_Assign_Attribute (aA (hv A g ρ J s _ rm ok q) λa aB au ak x aQ al aV aD=>aA (ho A g au ak aB _ rm al aD) λb aX aM aL y bu aI bN aW=>
  aA (vq K A g aM aL aX _ y x b a rm aI bN (aV.mono bu) aW) λO bR b9 cg O c7 bI O cX=>⟨b9,cg,.next,(aQ.trans bu).trans c7,bI,rfl,cX⟩) hs
theorem pJ {o i:SX}{fi:WM V}{ow:V->V->V->WM Unit}(hv:aU U k c VR (S3 value env) fv)(ho:aU U k c VR (S3 o env) fo)(hi:aU U k c VR (S3 i env) fi)(hw:ya U k c UR setItem ow)
  (hs:swapsWith value (R3 (.Subscript o i p)) pos.line env=pure Sf):aU U k c FR (Vu (.Assign [.Subscript o i p] value pos) env) (Z fv λv=>Z fo λx=>Z fi λy=>Z (ow x y v) λO=>ae .next):=by
 intro A g ρ J s Q rm ok q;exact Zq (aA (hv A g ρ J s _ rm ok q) λa aB au ak x aQ al aV aD=>aA (ho A g au ak aB _ rm al aD) λb aX aM aL y bu aI bN aW=>
  aA (hi A g aM aL aX _ rm aI aW) λd bR b9 cg z c7 bI c9 cX=>
   aA (hw A g b9 cg bR _ y z x b d a rm bI (bN.mono c7) c9 ((aV.mono bu).mono c7) cX) λO gA gq gG O pK dK O gR=>⟨gq,gG,.next,((aQ.trans bu).trans c7).trans pK,dK,rfl,gR⟩) hs
theorem yu {o i:SX}{fi:WM V}{ow:V->V->WM Unit}(ho:aU U k c VR (S3 o env) fo)(hi:aU U k c VR (S3 i env) fi)(hw:cP U k c UR delItem ow):
  aU U k c FR (Vu (.Delete [.Subscript o i p] pos) env) (Z fo λx=>Z fi λy=>Z (ow x y) λO=>ae .next):=by
 intro A g ρ J s Q rm ok q;exact wpAny_Delete (wpAny_deleteEach_cons (wpAny_delete_Subscript (aA (ho A g ρ J s _ rm ok q) λb aX aM aL y bu aI bN aW=>
  aA (hi A g aM aL aX _ rm aI aW) λd bR b9 cg z c7 bI c9 cX=>
   aA (hw A g b9 cg bR _ y z b d rm bI (bN.mono c7) c9 cX) λO gA gq gG O pK dK O gR=>wpAny_deleteEach_nil ⟨gq,gG,.next,(bu.trans c7).trans pK,dK,rfl,gR⟩)))
noncomputable def AW (Q:Fl->St->Prop)(N:St->Prop):Fl->St->Prop
 |.next,J=>N J
 |.cont,J=>N J
 |.brk,J=>Q .next J
 |.ret v,J=>Q (.ret v) J
noncomputable def forL (x:V)(S:Src)(lA:V->WM Unit)(body:WM Fl):R4 V->WM Fl
 |[]=>λJ Q=>cM J x=R3 S/\Q .next J
 |v::r=>λJ Q=>cM J x=R3 S/\lA v J λO ak=>body ak (AW Q λaL=>forL x S lA body r aL Q)
def P8 (lA:V->WM Unit)(body:WM Fl)(x:V):WM Fl:=λJ Q=>∃S,C3 (cM J x=R3 S) S.fits (forL x S lA body S.items J Q)
theorem Fm {x:V}{S:Src}{l:R4 V}{Q:Fl->St->Prop}(h:forL x S lA fb l J Q):cM J x=R3 S:=by
 cases l with
 |nil=>exact h.1
 |cons=>exact h.1
theorem Fn {x:V}{a:Sz}{S:Src}{Q:Fl->St->Prop}(rm:du k c A)(ht:dv U k c UR (λv=>assign target env v) lA)(hb:aU U k c FR (UX body env) fb)
  (hl: ∀it v,letOwnedTupleGo target it v=pure ()) (P:bO U g c ρ I) (hx:VR ρ x a)  (ok:OK U (gI g I o) c ρ J s) (it:Ff a S 0 o) (h:forL x S lA fb S.items J Q):
  T3 (Tc U.prog U.w) A (.forLoop target (.ref I) body [] env) (λr s'=>match r with |.ok f=>cu U g c ρ FR Q f s' |.error e=>E' e s') s:=by
 refine codeAny_forLoop (λn s=>X3 λi bG J=>C3 (n+i=S.items.length) (It U g c ρ I a S i bG J s) (forL x S lA fb (S.items.drop i) J Q)) ?_ S.items.length ⟨0,ρ,J,rfl,⟨o,Ext.refl _,ok,it⟩,h⟩ (hl _);rintro n s ⟨i,bG,J,hn,hit,h⟩;refine ly rm.hd P hx hit (Fm h) (λu v o' aB hv ru pE vz=>?_) λhv aB pE=>?_
 ·rw[jK hv]at h;refine aA (ht A _ bG J aB _ _ u rm pE ru h.2) λO aX aM aL O bu aI O aW=>aA (hb A _ aM aL aX _ rm aI aW) λf bR b9 cg fl c7 bI gB cX=>?_;have ex:=(hit.ext.trans bu).trans c7;have fin:forL x S lA fb (S.items.drop (i+1)) cg Q->∃m,m<n/\X3 λi bG J=>C3 (m+i=S.items.length) (It U g c ρ I a S i bG J bR) (forL x S lA fb (S.items.drop i) J Q):=λz=>
   (pH hn hv).imp λm q=>⟨q.1,i+1,b9,cg,q.2,⟨o',ex,bI,vz⟩,z⟩
  have tR:=(bI.gQ (P:=P) (ρ:=ρ)).1;cases fl with
  |next=>cases gB;exact fin cX
  |cont=>subst gB;exact fin cX
  |brk=>subst gB;exact⟨b9,cg,.next,ex,tR,rfl,cX⟩
  |ret v=>obtain⟨w,rfl,rv⟩:=gB;exact⟨b9,cg,.ret v,ex,tR,⟨w,rfl,rv⟩,cX⟩
 ·rw[gX hv]at h;exact UJ ⟨bG,J,.next,hit.ext,pE,rfl,h.2⟩
theorem cp (h:We):h.get? h.objs.size=Sg:=by
 cases q:h.get? h.objs.size with
 |none=>rfl
 |some z=>exact Sw (TA q) (Uq _)
theorem Ki (hx:aU U k c VR (S3 iter env) fx)(ht:dv U k c UR (λv=>assign target env v) lA)(hb:aU U k c FR (UX body env) fb)
  (hl: ∀it v,letOwnedTupleGo target it v=pure ()) (hs: ∀x,foldedSetIterable iter env x=pure x):aU U k c FR (Vu (.For target iter body [] pos) env) (Z fx (P8 lA fb)):=by
 intro A g ρ J s Q rm ok q;refine wpAny_For (aA (hx A g ρ J s _ rm ok q) λa aB au ak x aQ al aV aD=>?_) hs;obtain⟨S,hS,hf,aD⟩:=aD;refine gp al aV hS hf λo hit oU=>?_;have P:bO U g c au aB.heap.objs.size:=.fresh al (cp _);have nH:OK U (gI g aB.heap.objs.size o) c au ak {aB with heap:=aB.heap.push o}:=(al.grow (λb o' e=>Sp _ e)).freeze P (To _ oU);exact UA (Fn (E':=cameBackBy (Tc U.prog U.w) A env λO O=>False) rm ht hb hl P aV nH hit aD) λr s' z=>by
  cases r with
  |ok f=>exact cu.ext aQ z
  |error e=>exact z
def yw (test:WM Tn)(body:WM Fl):WM Fl:=λJ Q=>∃zAB:SH->St->Prop,(∃n,zAB n J)/\∀n J,zAB n J->test J λb ak=>(b=Sn->body ak (AW Q λaL=>∃m,m<n/\zAB m aL))/\(b=Sf->Q .next ak)
theorem Cm {test:SX}{ft:WM Tn}(ht:aU U k c BR (UE test env (S3 test env)) ft)(hb:aU U k c FR (UX body env) fb):
  aU U k c FR (Vu (.While test body [] pos) env) (yw ft fb):=by
 rintro A g ρ J s Q rm ok ⟨zAB,⟨n,hn⟩,hJ⟩;refine wpAny_While (codeAny_whileLoop (λn s=>X2 λbG J=>C3 (Ext ρ bG) (OK U g c bG J s) (zAB n J)) ?_ n ⟨ρ,J,Ext.refl _,ok,hn⟩);rintro n s ⟨bG,J,ex,ok,hn⟩;refine aA (ht A g bG J s _ rm ok (hJ n J hn)) λb aX aM aL b' bu aI P9 aW=>?_;cases(show b'=b from P9);cases b;·exact UJ ⟨aM,aL,.next,ex.trans bu,aI,rfl,aW.2 rfl⟩
 ·refine aA (hb A g aM aL aX _ rm aI (aW.1 rfl)) λf bR b9 cg fl c7 bI gB cX=>?_;have Eo:=(ex.trans bu).trans c7;cases fl with
  |next=>cases gB;obtain⟨m,hm,hj⟩:=cX;exact⟨m,hm,b9,cg,Eo,bI,hj⟩
  |cont=>cases gB;obtain⟨m,hm,hj⟩:=cX;exact⟨m,hm,b9,cg,Eo,bI,hj⟩
  |brk=>subst gB;exact⟨b9,cg,.next,Eo,bI,rfl,cX⟩
  |ret v=>obtain⟨w,rfl,rv⟩:=gB;exact⟨b9,cg,.ret v,Eo,bI,⟨w,rfl,rv⟩,cX⟩
end
end
section
section
variable{c:Cx}
noncomputable def Ej (o:Si (Tj×Loc)):Loc:=by
 cases o with
 |none=>exact .Pn
 |some p=>
  obtain⟨y,l⟩:=p;cases l with
  |cell b d=>exact .cell Sf d
  |_=>exact .Pn
theorem Fo {o:Si (Tj×Loc)}{ob:Tn}{d:SM}(h:Loc.cell ob d=Ej o): ∃z pL,o=R3 (z,Loc.cell pL d)/\ob=Sf:=by
 cases o with
 |none=>cases h
 |some p=>
  obtain⟨y,l⟩:=p;cases l with
  |cell b d=>cases h;exact⟨_,_,rfl,rfl⟩
  |_=>cases h
theorem yx {P:Prop}{o:Si (Tj×Loc)}(h:Loc.ns=Ej o):P:=by
 cases o with
 |none=>cases h
 |some p=>obtain⟨y,l⟩:=p;cases l<;>cases h
def cj (C:SH)(c:Cx)(sh:Shape):Cx:={L:=C,vars:=sh.map λp=>(p.1,match p.2 with |none=>Loc.ns |some i=>Ej c.vars[i]?),o9:=c.o9}
noncomputable def aY (J:St)(sh:Shape)(v:Si V):SH->Si V:=λj=>match sh[j]? with
 |some (_,Sg)=>v
 |some (_,R3 i)=>J.loc i
 |none=>Sg
def jg (c:Cx)(names:R4 (Tj×Vj))(cl:R4 (Tj×SM))(sh:Shape):Prop:=
 ∀p∈sh,(p.2=Sg->names.lookup p.1=R3 .local)/\∀i,p.2=R3 i->names.lookup p.1=R3 .free/\∃ob d,c.vars[i]? =R3 (p.1,Loc.cell ob d)/\cl.lookup p.1=R3 d
theorem Qb {cl:R4 (Tj×SM)}(h:jg c names cl sh)(e:sh[i]? =R3 (y,Sg)):names.lookup y=R3 .local:=
 (h _ (R9 e)).1 rfl
theorem Fp {cl:R4 (Tj×SM)}(h:jg c names cl sh)(e:sh[i]? =R3 (y,R3 j)):names.lookup y=R3 .free/\∃ob d,c.vars[j]? =R3 (y,Loc.cell ob d)/\cl.lookup y=R3 d:=
 (h _ (R9 e)).2 _ rfl
theorem j0 (hk:env.scope.kind=.function){x:Tj}(h:names.lookup x=R3 .free)(q:env.kindOf x=R3 .cell):
  (names.map λ(n,k)=>if(k==NameKind.free && env.scope.kind== .function && env.kindOf n==R3 .cell)then(n,WV)else(n,k)).lookup x=R3 .cell:=by
 induction names with
 |nil=>exact c6 h
 |cons p r ih=>
  obtain⟨n,k⟩:=p;show List.lookup x ((if(k==NameKind.free && env.scope.kind== .function && env.kindOf n==R3 .cell)=Sn then(n,WV)else(n,k))::_)=_;cases hx:x==n with
  |true=>rw[TZ,hx]at h;obtain rfl:=R7 h;obtain rfl:=eq_of_beq hx;rw[Sv (by rw[hk,q];rfl),TZ,hx]
  |false=>
   rw[TZ,hx]at h;by_cases hc:(k==NameKind.free && env.scope.kind== .function && env.kindOf n==R3 .cell)=Sn;·rw[Sv hc,TZ,hx];exact ih h
   ·rw[Sq hc,TZ,hx];exact ih h
theorem du.cc {C:SH}(rm:du k c A):du k (cj C c sh) A:=⟨rm.depth,rm.units,rm.hd,rm.fr⟩
theorem gY {C:SH}{l:Loc}(h:(cj C c sh).vars[i]? =R3 (y,l)): ∃o,sh[i]? =R3 (y,o)/\l=(match o with |none=>Loc.ns |some i=>Ej c.vars[i]?):=by
 unfold cj at h;dsimp only at h;replace h:=(Sx)▸h;cases q:sh[i]? with
 |none=>replace h:=q▸h;cases h
 |some p=>replace h:=q▸h;cases h;exact⟨p.2,rfl,rfl⟩
theorem cU {C:SH}{ob:Tn}{d:SM}(h:(cj C c sh).vars[i]? =R3 (y,Loc.cell ob d)): ∃j z pL,sh[i]? =R3 (y,R3 j)/\c.vars[j]? =R3 (z,Loc.cell pL d)/\ob=Sf:=by
 obtain⟨o,e1,e2⟩:=gY h;cases o with
 |none=>cases e2
 |some j=>obtain⟨z,pL,e3,e4⟩:=Fo e2;exact⟨j,z,pL,e1,e3,e4⟩
theorem oV (he:dJ env c){cl:R4 (Tj×SM)}(hk:scope.kind=.function)(hc:jg c scope.names cl sh)(C:SH):dJ (compEnvC scope cl C env) (cj C c sh) where
 L:=rfl
 kind:=hk
 gl:=he.gl
 bi:=he.bi
 ns:=λi y e=>by
  obtain⟨o,e1,e2⟩:=gY e;cases o with
  |none=>exact lookup_relabel_local (Qb hc e1)
  |some j=>exact yx e2
 cell:=λi y o d e=>by obtain⟨j,z,pL,e1,e2,_⟩:=cU e;obtain⟨f1,ob,d',f2,f3⟩:=Fp hc e1;replace f2:=e2▸f2;cases f2;exact⟨j0 he.kind f1 (he.cell j y pL d e2).1,f3⟩
theorem OK.aa6 (h:OK U g c ρ J s)(l:SH->Si V)(hn: ∀(i:SH) (y:Tj),c.vars[i]? =R3 (y,Loc.ns)->l i=Sg)(hc: ∀(i:SH) (y:Tj) (ob:Tn) (d:SM),c.vars[i]? =R3 (y,Loc.cell ob d)->∃cv,s.heap.IsCell d cv/\LR ρ (l i) cv):
  OK U g c ρ {loc:=l,hp:=J.hp} s:=
 {h with
  ns:=let⟨m,a,_⟩:=h.ns;⟨m,a,λi y e x q=>by have q:l i=R3 x:=q;replace q:=(hn i y e)▸q;cases q⟩
  cells:=hc}
theorem apart2: ∀{sh:Shape} {i j a:SH} {y z:Tj},(sh.filterMap (·.2)).Nodup->sh[i]? =R3 (y,R3 a)->sh[j]? =R3 (z,R3 a)->i=j:=vt
theorem OK.Qc (h:OK U g c ρ J s){m:Tj->Si Sz}{cl:R4 (Tj×SM)}(hL:s.heap.get? C=Sg)(keep: ∀b o,s.heap.get? b=R3 o->aB.heap.get? b=R3 o)
  (hn:aB.heap.Ns C m) (sC:jg c names cl sh) (d1:(sh.map (·.1)).Nodup) (d2:(sh.filterMap (·.2)).Nodup) (hg:autoParam (aB.gens=s.gens) br) (ho:autoParam (aB.os=s.os) br):
  OK U (fF g c s) (cj C c sh) ρ {loc:=aY J sh Sg,hp:=J.hp} aB:=by
 have P:=bO.fresh h hL;have adm: ∀{b:SM} {o:WW},s.heap.get? b=R3 o->b≠C:=λ{b o} e z=>by replace e:=hL▸z▸e;cases e
 have gC:fF g c s C=Sg:=by
  cases q:fF g c s C with
  |none=>rfl
  |some o=>exact((h.lw q).no hL).elim
 exact{
  keep:=λb o e=>keep _ _ (h.keep b o e)
  cI:=λb o e=>(h.lw e).keep (keep b)
  k7:=λe he=>h.E9 (h.k7 e he)
  hp:=λa so e=>let⟨x,o,p,q,r⟩:=h.hp a so e;⟨x,o,p,keep _ _ q,r⟩
  j9:=h.j9
  inj:=h.inj
  low:=h.low
  eE:=h.eE
  dr:=λa x e=>h.AR e
  db:=λa x e z=>P.dG a (by replace e:=(show x=C from z)▸e;exact e)
  eF:=λa x e i y ob d q=>by obtain⟨j,z,pL,e1,e2,_⟩:=cU q;exact h.eF a x e j z pL d e2
  eO:=P.base
  eG:=gC
  eZ:=λi y ob d q=>by obtain⟨j,z,pL,e1,e2,_⟩:=cU q;exact P.C j z pL d e2
  dT:=λi y d q=>by obtain⟨j,z,pL,e1,e2,e3⟩:=cU q;exact nomatch e3
  apart:=λi j y z ob oc d p q=>by obtain⟨a,w,pL,e1,e2,_⟩:=cU p;obtain⟨b,w',ady,f1,f2,_⟩:=cU q;have:a=b:=h.apart a b w w' pL ady d e2 f2;subst this;exact apart2 d2 e1 f1
  names:=λi j y p q=>by
   obtain⟨a,e1,_⟩:=gY p;obtain⟨b,e2,_⟩:=gY q;have f1:(sh.map (·.1))[i]? =R3 y:=by rw[Sx,e1];rfl
   have f2:(sh.map (·.1))[j]? =R3 y:=by rw[Sx,e2];rfl
   exact(UG (R6.mp f1).1 d1).mp (f1.trans f2.symm)
  ns:=⟨m,hn,λi y e x hx=>by
   obtain⟨q,e1,e2⟩:=gY e;cases q with
   |none=>have hx:aY J sh Sg i=R3 x:=hx;unfold aY at hx;replace hx:=e1▸hx;cases hx
   |some j=>exact yx e2⟩
  cells:=λi y ob d e=>by obtain⟨j,z,pL,e1,e2,_⟩:=cU e;obtain⟨cv,p,q⟩:=h.cells j z pL d e2;refine⟨cv,p.keeps keep,λx hx=>q x ?_⟩;have hx:aY J sh Sg i=R3 x:=hx;unfold aY at hx;replace hx:=e1▸hx;exact hx
  im:=λx b vs e=>let⟨xs,n,p,q⟩:=h.im x b vs e;⟨xs,n,keep _ _ p,q⟩
  k9:=h.k9
  kA:=λx o e=>h.AT e
  kB:=P.bF
  mC:=λi y ob d e=>by obtain⟨j,z,pL,e1,e2,_⟩:=cU e;exact h.mC j z pL d e2
  gens:=hg.trans h.gens
  os:=ho.trans h.os}
theorem bO.comp (P:bO U g c ρ I)(cF:I≠C):bO U (fF g c s) (cj C c sh) ρ I where
 base:=P.base
 g:=by
  unfold fF;rw[Sq];exact P.g;rintro(q |⟨i,y,ob,q⟩);·exact P.L q
  ·exact P.C i y ob I q rfl
 L:=cF
 C:=λi y ob d q=>by obtain⟨j,z,pL,e1,e2,_⟩:=cU q;exact P.C j z pL d e2
 dG:=P.dG
 bF:=P.bF
 sl:=P.sl
theorem OK.back (h:OK U g c ρ J s)(hG: ∀b o,fF g c s b=R3 o->G b=R3 o)(ex:Ext ρ bG)(h':OK U G (cj C c sh) bG bD s'):OK U G (cj C c sh) bG {loc:=aY J sh Sg,hp:=bD.hp} s':=by
 refine h'.aa6 _ (λi y e=>?_) (λi y ob d e=>?_)
 ·obtain⟨q,e1,e2⟩:=gY e;unfold aY;rw[e1];cases q with
  |none=>rfl
  |some j=>exact yx e2
 ·obtain⟨j,z,pL,e1,e2,_⟩:=cU e;obtain⟨cv,⟨o,p,p'⟩,q⟩:=h.cells j z pL d e2;obtain⟨w,hw⟩:=(h'.cI d o (hG d o (by unfold fF;rw[Sv (.inr ⟨j,z,pL,e2⟩)];exact p))).up;refine⟨cv,⟨_,hw,p'⟩,λx hx=>?_⟩;unfold aY at hx;rw[e1]at hx;exact(q.mono ex) x hx
noncomputable def Kj (x:V)(S:Src)(l:Si V->SH->Si V)(test:WM Tn)(elt:WM V):R4 V->R4 V->(Ad->Si SO)->(R4 V->(Ad->Si SO)->Prop)->Prop
 |[],acc,H,Q=>cM ⟨l Sg,H⟩ x=R3 S/\Q acc H
 |v::r,acc,H,Q=>cM ⟨l Sg,H⟩ x=R3 S/\test ⟨l (R3 v),H⟩ λb ak=>
  (b=Sn->elt ak λy aL=>Kj x S l test elt r (acc++[y]) aL.hp Q)/\(b=Sf->Kj x S l test elt r acc ak.hp Q)
def lcW (sh:Shape)(test:WM Tn)(elt:WM V)(x:V):WM (R4 V):=λJ Q=>∃S,C3 (cM J x=R3 S) S.fits (Kj x S (aY J sh) test elt S.items [] J.hp λacc H=>Q acc ⟨J.loc,H⟩)
noncomputable def fU (ifs:R4 SX)(env:Y4):Xf Tn:=forIn ifs Sn λc r=>if r=Sn then do let ok <-UE c env (S3 c env);pure (Wn ok)else pure (Wn r)
theorem yy:aU U k c BR (fU [] env) (ae Sn):=λA g ρ J s Q rm ok h=>wpAny_tests_nil (post Sn ok rfl h)
theorem yz {e:SX}{f:WM Tn}(h:aU U k c BR (UE e env (S3 e env)) f):aU U k c BR (fU [e] env) f:=λA g ρ J s Q rm ok q=>wpAny_tests_one (h A g ρ J s Q rm ok q)
theorem Kk {S:Src}(ok:OK U g c ρ J s){x:V}{a:Sz}(r:VR ρ x a)(e:cM J x=R3 S)(hf:S.fits):S.items.length<=3000000:=by
 cases S with
 |seq b vs=>unfold Src.fits big at hf;show vs.length<=_;lia
 |dict kvs ep=>obtain⟨ad,rfl,e0⟩:=gW e;obtain⟨x,aF,q,hD,rr,hr,hS⟩:=ok.gm r e0;have:=tM hD rr hr;rw[rr.len]at this;unfold Src.items;rw[Sa];exact yN [_] [] 0xf7d13c0502dc6c06c054 rfl this
 |kH p q=>obtain⟨_,_,_,_⟩:=hf;unfold Src.items;rw[Sa,T6];lia
theorem adn {H:Ad->Si SO}{x:V}:cM ⟨l,H⟩ x=cM ⟨l',H⟩ x:=rfl
theorem OK.Qd (h:OK U g c ρ J s){D:SM}(P:bO U g c ρ D)(e:s.heap.get? D=R3 {cls:=.type (sg b),data:=.seq xs n})(r:ja ρ vs xs.toList):
  Ext ρ (ρ.bY D b vs)/\VR (ρ.bY D b vs) (.bF b vs) (.ref D)/\OK U g c (ρ.bY D b vs) J s:=by
 have ex:=bW.vj (b:=b) (vs:=vs) P.bF;have cut: ∀y p,(ρ.bY D b vs).bF y=R3 p->(y=D/\p=(b,vs))\/(y≠D/\ρ.bF y=R3 p):=λy p q=>by
  unfold bW.bY at q;dsimp only at q;split at q;·rename_i z;exact .inl ⟨z,(R7 q).symm⟩
  ·rename_i z;exact .inr ⟨z,q⟩
 have off: ∀y,y≠D->ρ.bF y=Sg->(ρ.bY D b vs).bF y=Sg:=λy q e=>by unfold bW.bY;dsimp only;rw[Sq q];exact e
 refine⟨ex,⟨D,by simp[bW.bY],rfl⟩,?_⟩;exact{h with
  hp:=λa so q=>let⟨y,o',p,q',r'⟩:=h.hp a so q;⟨y,o',p,q',r'.mono ex⟩
  ns:=let⟨m,p,q⟩:=h.ns;⟨m,p,λi y z=>(q i y z).mono ex⟩
  cells:=λi y ob d z=>let⟨cv,p,q⟩:=h.cells i y ob d z;⟨cv,p,q.mono ex⟩
  im:=λy b' vs' q=>by
   rcases cut y _ q with ⟨rfl,e'⟩ |⟨_,q⟩;·cases e';exact⟨xs,n,e,r.mono ex⟩
   ·obtain⟨xs',n',p,r'⟩:=h.im y b' vs' q;exact⟨xs',n',p,r'.mono ex⟩
  k9:=λa y q=>off y (λz=>P.dG a (by rw[<-z];exact q)) (h.k9 a y q)
  kA:=λy o q=>off y (λz=>by replace q:=P.g▸z▸q;cases q) (h.kA y o q)
  kB:=off _ (TH P.L) h.kB
  mC:=λi y ob d q=>off d (P.C i y ob d q) (h.mC i y ob d q)}
theorem OK.adopt (h:OK U g c ρ J s){D:SM}(P:bO U g c ρ D)(h2:@XS SH _ 2 D){a:Ad}(ha:J.hp a=Sg)(e:s.heap.get? D=R3 o)(r:OR U.prog U.w ρ so o):
  Ext ρ (ρ.add a D)/\VR (ρ.add a D) (.ref a) (.ref D)/\OK U g c (ρ.add a D) (J.eM a so) s:=by
 have ex:=bW.AB (x:=D) (h.fresh ha);have cut: ∀b y,(ρ.add a D).dG b=R3 y->(b=a/\y=D)\/(b≠a/\ρ.dG b=R3 y):=λb y q=>by
  unfold bW.add at q;dsimp only at q;split at q;·rename_i z;exact .inl ⟨z,(R7 q).symm⟩
  ·rename_i z;exact .inr ⟨z,q⟩
 refine⟨ex,⟨D,by simp[bW.add],rfl⟩,?_⟩;exact{h with
  hp:=λb JR q=>by
   unfold St.eM at q;dsimp only at q;split at q
   ·rename_i z;obtain rfl:=R7 q;subst z;exact⟨D,o,by simp[bW.add],e,r.mono ex⟩
   ·obtain⟨y,o',p,q',r'⟩:=h.hp b JR q;exact⟨y,o',ex.1 _ _ p,q',r'.mono ex⟩
  j9:=λb y q=>by
   unfold St.eM;dsimp only;rcases cut b y q with ⟨z,_⟩ |⟨z,q⟩;·exact⟨so,by simp[z]⟩
   ·obtain⟨JR,e'⟩:=h.j9 b y q;exact⟨JR,by simp[z,e']⟩
  inj:=λb d y p q=>by
   rcases cut b y p with ⟨z,w⟩ |⟨z,p⟩<;>rcases cut d y q with ⟨z',w'⟩ |⟨z',q⟩;·rw[z,z']
   ·exact(P.dG d (by rw[q,w])).elim
   ·exact(P.dG b (by rw[p,w'])).elim
   ·exact h.inj b d y p q
  low:=λb y q=>by
   rcases cut b y q with ⟨_,rfl⟩ |⟨_,q⟩;·exact h2
   ·exact h.low b y q
  eE:=λb y q=>by
   rcases cut b y q with ⟨_,rfl⟩ |⟨_,q⟩;·exact P.base
   ·exact h.eE b y q
  dr:=λb y q=>by
   rcases cut b y q with ⟨_,rfl⟩ |⟨_,q⟩;·exact P.g
   ·exact h.dr b y q
  db:=λb y q=>by
   rcases cut b y q with ⟨_,rfl⟩ |⟨_,q⟩;·exact P.L
   ·exact h.db b y q
  eF:=λb y q=>by
   rcases cut b y q with ⟨_,rfl⟩ |⟨_,q⟩;·exact λi z ob d w=>TH (P.C i z ob d w)
   ·exact h.eF b y q
  ns:=let⟨m,p,q⟩:=h.ns;⟨m,p,λi y z=>(q i y z).mono ex⟩
  cells:=λi y ob d z=>let⟨cv,p,q⟩:=h.cells i y ob d z;⟨cv,p,q.mono ex⟩
  im:=λy b vs q=>let⟨xs,n,p,r⟩:=h.im y b vs q;⟨xs,n,p,r.mono ex⟩
  k9:=λb y q=>by
   rcases cut b y q with ⟨_,rfl⟩ |⟨_,q⟩;·exact P.bF
   ·exact h.k9 b y q}
theorem bO.lB (P:bO U g c ρ I)(hG:G I=Sg):bO U G c ρ I:=⟨P.base,hG,P.L,P.C,P.dG,P.bF,P.sl⟩
theorem fP {b:SM}(h:b≠I):gI g I o b=g b:=by unfold gI;rw[Sq h]
theorem AX {b:SM}{o':WW}(e:g b=R3 o')(h:g I=Sg):gI g I o b=R3 o':=by rw[fP];exact e;intro z;replace e:=h▸z▸e;cases e
theorem AY {D:SM}(h:I≠D):gI (gI g D oD) I o=gI (gI g I o) D oD:=by
 funext b;unfold gI;by_cases q:b=I;·rw[Sv q,Sq (q▸h),Sv q]
 ·rw[Sq q,Sq q]
theorem pyIter_self {a:Sz}{S:Src}{Q:Sz->TD->Prop}(e:s.heap.get? I=R3 o)(it:Ff a S i o)(ha: ∃x,a=.ref x)(h:Q (.ref I) s):Tx (Tc U.prog U.w) A (pyIter (.ref I)) Q E s:=by
 obtain⟨x,rfl⟩:=ha;cases S with
 |seq b vs=>
  cases b;·exact wpAny_pyIter_listiter ⟨o,e,it⟩ h
  ·exact wpAny_pyIter_tupleiter ⟨o,e,it⟩ h
 |dict kvs ep=>exact wpAny_pyIter_keyiter ⟨o,e,it⟩ h
 |kH p q=>subst it;exact wpAny_pyIter_rangeiter e h
theorem oW {S:Src}{x:V}{a:Sz}(r:VR ρ x a)(e:cM J x=R3 S): ∃y,a=.ref y:=by
 cases x with
 |bF=>obtain⟨y,_,rfl⟩:=r;exact⟨y,rfl⟩
 |ref=>obtain⟨y,_,rfl⟩:=r;exact⟨y,rfl⟩
 |_=>exact c6 e
theorem mH (h:We)(j:SH):h.get? (h.objs.size+j)=Sg:=by
 cases q:h.get? (h.objs.size+j)with
 |none=>rfl
 |some z=>exact Sw (TA q) (T0.mpr (UN _ _))
theorem kJ {e:SX}{cl:R4 (Tj×SM)}{RR:Sz->SM->Result->TD->Prop}(ok:OK U g c ρ J s)(oU:oI.isFreed=Sf)(hfD:oD.isFreed=Sf)
  (Fq: ∀y∈scope.names,y.2≠.cell) (lC:scope.kind=.function) (sC:jg c scope.names cl sh) (d1:(sh.map (·.1)).Nodup) (d2:(sh.filterMap (·.2)).Nodup)
  (K: ∀I D C s',I≠D->D≠C->@XS SH _ 2 D->bO U g c ρ D->bO U g c ρ C->bO U (fF g c s) (cj C c sh) ρ I->bO U (fF g c s) (cj C c sh) ρ D->OK U (gI (gI (fF g c s) D oD) I oI) (cj C c sh) ρ ⟨aY J sh Sg,J.hp⟩ s'->
   T3 (Tc U.prog U.w) A (.compStart e 0 (.ref I) (.ref D) (compEnvC scope cl C env)) (RR (.ref D) C) s'):
  Tx (Tc U.prog U.w) A (newFunctionEnv scope env.globals cl [] env.qual Sg .none (R3 env)) (λaa7 gA=>
   T3 (Tc U.prog U.w) A (.compStart e 0 (.ref s.heap.objs.size) (.ref (s.heap.push oI).objs.size) {aa7 with scope:=relabel scope env}) (RR (.ref (s.heap.push oI).objs.size) aa7.locals) gA) E {s with heap:=(s.heap.push oI).push oD}:=by
 refine wpAny_newFunctionEnv Fq (λy hy=>nomatch hy) (λaD iD mI=>?_) lC;dsimp only at iD mI ⊢;rw[U4]at iD mI;rw[U4]at iD mI;have eI:aD.get? s.heap.objs.size=R3 oI:=mI.extBut _ _ (by show @Ne SH _ _;exact λhh=>yF [_] [] 252354610 rfl hh) (Sp _ (Sp _ (To _ oU)));have eD:aD.get? (s.heap.objs.size+1)=R3 oD:=mI.extBut _ _ (by show @Ne SH _ _;exact λhh=>yF [_] [] 4037675570 rfl hh) (Sp _ (by have:=To (s.heap.push oI) hfD;rw[U4]at this;exact this));have k1: ∀b o,s.heap.get? b=R3 o->aD.get? b=R3 o:=λb o e=>mI.extBut b o (Ur (TN (TA e) (UN _ 2))) (Sp _ (Sp _ (Sp _ e)));have fI:=bO.fresh ok (cp s.heap);have fD:=bO.fresh ok (mH s.heap 1);have fC:=bO.fresh ok (mH s.heap 2);have nC:=mH s.heap 2;rw[U4,U4,U4];have n1:s.heap.objs.size≠s.heap.objs.size+1:=Ur (UF _);have n2:s.heap.objs.size≠s.heap.objs.size+2:=Ur (Nat.lt_add_of_pos_right (by decide));have n3:s.heap.objs.size+1≠s.heap.objs.size+2:=Ur (UF _);have two:@XS SH _ 2 (s.heap.objs.size+1):=ZN ok.two;generalize s.heap.objs.size+2=C at*;generalize s.heap.objs.size+1=D at*;generalize s.heap.objs.size=I at*;have PI:bO U (fF g c s) (cj C c sh) ρ I:=fI.comp n2;have PD:bO U (fF g c s) (cj C c sh) ρ D:=fD.comp n3;have okC:OK U (fF g c s) (cj C c sh) ρ {loc:=aY J sh Sg,hp:=J.hp} {s with heap:=aD,toks:=s.toks+([]:R4 (Tj×Sz)).length}:=ok.Qc nC k1 iD sC d1 d2;exact K I D C _ n1 n3 two fD fC PI PD ((okC.freeze PD eD).freeze (PI.lB (by rw[fP n1];exact PI.g)) eI)
theorem pM (ok:OK U g c ρ J s){D:SM}(fD:bO U g c ρ D)(fC:bO U g c ρ C)(PD:bO U (fF g c s) (cj C c sh) ρ D)(ex:Ext ρ bG)(h:OK U (gI (fF g c s) D oD) (cj C c sh) bG bD s'):
  C5 (OK U g c bG ⟨J.loc,bD.hp⟩ s') (bO U g c bG D) (bO U g c bG C) (s'.heap.get? D=R3 oD) (∃m,s'.heap.Ns C m):=by
 obtain⟨pE,Ep,eD⟩:=h.gQ PD;obtain⟨m,hm,_⟩:=pE.ns;exact⟨ok.leave (c':=cj C c sh) (λO hb=>.inr hb) ex pE,⟨fD.base,fD.g,fD.L,fD.C,Ep.dG,Ep.bF,Ep.sl⟩,⟨fC.base,fC.g,fC.L,fC.C,λa q=>pE.db a C q rfl,pE.kB,fC.sl⟩,eD,m,hm⟩
theorem OK.tS {D:SM}(h:OK U (gI (gI g D oD) I o) c bG bD s)(PD:bO U g c ρ D)(PI:bO U g c ρ I)(kg:I≠D):s.heap.get? D=R3 oD:=
 ((h.gQ (P:=PI.lB (by rw[fP kg];exact PI.g))).1.gQ PD).2.2
theorem OK.acc {D:SM}{Qe:WW}(h:OK U (gI (gI g D oD) I o) c bG bD s)(PD:bO U g c ρ D)(PI:bO U g c ρ I)(kg:I≠D)(nF:Vs D s.heap s'.heap)(e:s'.heap.get? D=R3 Qe)(hg:autoParam (s'.gens=s.gens) br)(ho:autoParam (s'.os=s.os) br):
  OK U (gI (gI g D Qe) I o) c bG bD s':=by
 obtain⟨pE,P1,eI⟩:=h.gQ (P:=PI.lB (by rw[fP kg];exact PI.g));obtain⟨nH,P2,eD⟩:=pE.gQ PD;exact((nH.away P2 (λb o q e=>(nF.2 b q).trans e) hg ho).freeze P2 e).freeze ⟨P1.base,by rw[fP kg];exact PI.g,P1.L,P1.C,P1.dG,P1.bF,P1.sl⟩ ((nF.2 I kg).trans eI)
theorem nI {x:Tj}(hx:sh[0]? =R3 (x,Sg))(h1: ∀i y,sh[i]? =R3 (y,Sg)->i=0)(v:V){H:Ad->Si SO}:St.mB ⟨aY J sh Sg,H⟩ 0 v=⟨aY J sh (R3 v),H⟩:=by
 have:(λj=>if j=0 then R3 v else aY J sh Sg j)=aY J sh (R3 v):=by
  funext j;by_cases q:j=0;·subst q;rw[Sv rfl];unfold aY;rw[hx]
  ·rw[Sq q];unfold aY;cases z:sh[j]? with
   |none=>rfl
   |some p=>
    obtain⟨y,o⟩:=p;cases o with
    |none=>exact Sw (h1 j y z) q
    |some i=>rfl
 unfold St.mB;rw[this]
theorem AZ {x:V}{S:Src}{l:Si V->SH->Si V}{acc:R4 V}{H:Ad->Si SO}{Q:R4 V->(Ad->Si SO)->Prop}(h:Kj x S l test ft vs acc H Q):cM ⟨l Sg,H⟩ x=R3 S:=by
 cases vs with
 |nil=>exact h.1
 |cons=>exact h.1
theorem lD {D:SM}(PD:bO U g c ρ D)(PI:bO U g c ρ I)(kg:I≠D): ∀b o',g b=R3 o'->gI (gI g D oD) I o b=R3 o':=λb o' e=>AX (AX e PD.g) (by rw[fP kg];exact PI.g)
theorem Fs {elt:SX}{x:Tj}{cl:R4 (Tj×SM)}{a:Sz}{S:Src}{D:SM}
  {Qa:R4 V->(Ad->Si SO)->Prop} 
  (rm:du k c A) (he:dJ env c) (ok:OK U g c ρ J s) (r:VR ρ xv a) (sz:S.items.length<=3000000) (it:Ff a S 0 oI)
  (lC:scope.kind=.function) (sC:jg c scope.names cl sh) (hx:sh[0]? =R3 (x,Sg)) (h1: ∀i y,sh[i]? =R3 (y,Sg)->i=0)
  (ht: ∀C,aU U k (cj C c sh) BR (fU ifs (compEnvC scope cl C env)) test) (kh: ∀C,aU U k (cj C c sh) VR (S3 elt (compEnvC scope cl C env)) ft)
  (h:Kj xv S (aY J sh) test ft S.items [] J.hp Qa) (kg:I≠D) (PI:bO U (fF g c s) (cj C c sh) ρ I) (PD:bO U (fF g c s) (cj C c sh) ρ D) (hD:OR U.prog U.w ρ (.list []) oD) (ok':OK U (gI (gI (fF g c s) D oD) I oI) (cj C c sh) ρ ⟨aY J sh Sg,J.hp⟩ s')
  (fin: ∀bG H acc oD s',Ext ρ bG->OK U (gI (fF g c s) D oD) (cj C c sh) bG ⟨aY J sh Sg,H⟩ s'->OR U.prog U.w bG (.list acc) oD->Qa acc H->R (.ok .next) s'):
  T3 (Tc U.prog U.w) A (.compStart (.ListComp elt [⟨.Name x px,iter,ifs,0⟩] scope pos) 0 (.ref I) (.ref D) (compEnvC scope cl C env)) R s':=by
 have ee:=oV he lC sC C;have Jv: ∀{oD},bO U (gI (fF g c s) D oD) (cj C c sh) ρ I:=PI.lB (by rw[fP kg];exact PI.g);have hv0:(cj C c sh).vars[0]? =R3 (x,Loc.ns):=by unfold cj;dsimp only;rw[Sx,hx];rfl
 obtain⟨El,P0,eI⟩:=ok'.gQ Jv;have loop:T3 (Tc U.prog U.w) A (.compLoop (.ListComp elt [⟨.Name x px,iter,ifs,0⟩] scope pos) 0 (.ref I) (.ref D) (compEnvC scope cl C env)) R s':=by
  refine codeAny_compLoop_tests (λn s'=>X5 λi bG H oD acc=>C5 (n+i=S.items.length) (It U (gI (fF g c s) D oD) (cj C c sh) ρ I a S i bG ⟨aY J sh Sg,H⟩ s') (OR U.prog U.w bG (.list acc) oD) (acc.length<=i) (Kj xv S (aY J sh) test ft (S.items.drop i) acc H Qa)) ?_ S.items.length
   ⟨0,ρ,J.hp,oD,[],rfl,⟨oI,Ext.refl _,ok',it⟩,hD,S8 _,h⟩
  rintro n s' ⟨i,bG,H,oD,acc,hn,hit,dP,hlen,h⟩;refine ly rm.hd Jv r hit (AZ h) (λu v o' aB hv ru nH vz=>?_) λhv aB pE=>?_
  ·replace h:=(jK hv)▸h;refine U0 (aA (dY (k:=k) ee hv0 A _ bG _ _ (λO bD=>bD=⟨aY J sh (R3 v),H⟩) _ u rm.cc nH ru (nI hx h1 v)) (λO aX aM aL O dM aI O aW=>?_));subst aW;refine aA (ht C A _ aM _ aX _ rm.cc aI h.2) (λb bR b9 cg b' hH bI gB cX=>?_);cases(show b'=b from gB);have Eo:=(hit.ext.trans dM).trans hH;obtain⟨m,hm,sx⟩:=pH hn hv;cases b
   ·rw[Sq (by decide)];exact⟨m,hm,i+1,b9,cg.hp,oD,acc,sx,⟨o',Eo,ok.back (lD PD PI kg) Eo bI,vz⟩,(dP.mono dM).mono hH,ZO hlen,cX.2 rfl⟩
   ·rw[Sv rfl];refine aA (kh C A _ b9 _ bR _ rm.cc bI (cX.1 rfl)) (λyv gA gq gG y nJ dK Ft gR=>?_);obtain⟨xs,nn,rfl,vB⟩:=((dP.mono dM).mono hH).mono nJ;refine append_at (dK.tS PD PI kg) (λh5 Fu e5=>?_) (by rw[cJ vB];exact SJ hlen (SJ (Uf (R6.mp hv).1) (SJ sz adv)));have ex4:=Eo.trans nJ;exact⟨m,hm,i+1,gq,gG.hp,_,acc++[y],sx,⟨o',ex4,ok.back (lD PD PI kg) ex4 (dK.acc (s':={gA with heap:=h5}) PD PI kg Fu e5),vz⟩,⟨_,_,rfl,by rw[Xs];exact F2.app vB ⟨Ft,TK⟩⟩,
     by rw[Sr];exact ZY hlen,gR⟩
  ·rw[gX hv]at h;exact fin bG H acc oD aB hit.ext pE dP h.2
 exact codeAny_compStart_list loop (pyIter_self eI it (oW r (AZ h)) loop)
end
end
section
section
variable{c:Cx}
def bf (acc:R4 V):WM V:=ae (.bF Sf acc)
def eR (acc:R4 V):WM V:=pB (.list acc)
def ji (mk:R4 V->WM V):Prop:=∀U g c ρ J s D acc xs n Q,OK U g c ρ J s->bO U g c ρ D->@XS SH _ 2 D->s.heap.get? D=R3 {cls:=.type "list",data:=.seq xs n}->ja ρ acc xs.toList->mk acc J Q->
 cu U g c ρ VR Q (.ref D) s
theorem Kl:ji bf:=λU g c ρ J s D acc xs n Q ok P h2 e r h=>by
 obtain⟨ex,v,ok'⟩:=ok.Qd P (b:=Sf) e r;exact⟨_,J,_,ex,ok',v,h⟩
theorem Km:ji eR:=λU g c ρ J s D acc xs n Q ok P h2 e r h=>by
 obtain⟨a,ha,h⟩:=h ok.fin;obtain⟨ex,v,ok'⟩:=ok.adopt P h2 ha (so:=.list acc) e ⟨xs,n,rfl,r⟩;exact⟨_,_,_,ex,ok',v,h⟩
structure pN (env:Y4)(c:Cx)(scope:Wq)(cl:R4 (Tj×SM))(sh:Shape)(x:Tj)(iter:SX):Prop where
 Fv:closureFor scope env=pure cl
 cell: ∀y∈scope.names,y.2≠.cell
 kind:scope.kind=.function
 names: ∀y∈scope.names,y.2=.local->scope.names.lookup y.1=R3 .local
 sC:jg c scope.names cl sh
 d1:(sh.map (·.1)).Nodup
 d2:(sh.filterMap (·.2)).Nodup
 hx:sh[0]? =R3 (x,Sg)
 h1: ∀i y,sh[i]? =R3 (y,Sg)->i=0
 hs: ∀v,foldedSetIterable iter env v=pure v
theorem aa8 {x:Tj}{r:Shape}(h: ∀p∈r,p.2≠Sg)(i:SH)(y:Tj)(e:((x,Sg)::r:Shape)[i]? =R3 (y,Sg)):i=0:=by
 cases i with
 |zero=>rfl
 |succ i=>exact Sw rfl (h _ (R9 (show r[i]? =R3 (y,Sg) from e)))
theorem Fw {elt:SX}{x:Tj}{cl:R4 (Tj×SM)}{pos':UM}{use:Si (Sz->Xf Unit)}
   {Q':Sz->TD->Prop} (rm:du k c A) (he:dJ env c) (K:pN env c scope cl sh x iter) (hm:ji mk) (hx:aU U k c VR (S3 iter env) fx)
  (ht: ∀C,aU U k (cj C c sh) BR (fU ifs (compEnvC scope cl C env)) test) (kh: ∀C,aU U k (cj C c sh) VR (S3 elt (compEnvC scope cl C env)) ft)
  (ok:OK U g c ρ J s) (q:(Z fx λx=>Z (lcW sh test ft x) mk) J Q)
  (fin: ∀D C oC bG s' m,Ext ρ bG->s'.heap.get? C=R3 oC->s'.heap.Ns C m->bO U g c bG C->cu U (gI g C oC) c bG VR Q (.ref D) s'->compPost (Tc U.prog U.w) A (λO O=>False) use Q' (.ref D) C (.ok .next) s'):
  Tx (Tc U.prog U.w) A (comprehension (.ListComp elt [⟨.Name x px,iter,ifs,0⟩] scope pos) scope env pos' (newList []) Sf (S3 iter env) use) Q' (λO O=>False) s:=by
 refine WL (cl:=cl) rfl K.hs K.Fv K.kind K.names (aA (hx A g ρ J s _ rm ok q) λa aB au ak xv aQ al aV aD=>?_);obtain⟨S,hS,hf,aD⟩:=aD;refine gp al aV hS hf λoI hit oU=>UZ (kJ al oU rfl K.cell K.kind K.sC K.d1 K.d2 λI D C s' kg hDC h2D fD fC PI PD ok'=>?_);refine Fs rm he al aV (Kk al aV hS hf) hit K.kind K.sC K.hx K.h1 ht kh aD kg PI PD ⟨#[],0,rfl,TK⟩ ok' λbG H acc oD om ex nH dP hq=>?_;obtain⟨Kn,Ep,PC,eD,m,jL⟩:=pM al fD fC PD ex nH;obtain⟨xs,n,rfl,dP⟩:=dP;obtain⟨oC,es,ep,eC,r⟩:=id jL;exact fin D C oC bG om m (aQ.trans ex) eC jL PC (hm U _ c bG _ om D acc xs n Q (Kn.freeze PC eC) (Ep.lB (by rw[fP hDC];exact Ep.g)) h2D eD dP hq)
theorem Qf {elt:SX}{x:Tj}{cl:R4 (Tj×SM)}(he:dJ env c)(K:pN env c scope cl sh x iter)(hm:ji mk)
  (hx:aU U k c VR (S3 iter env) fx) (ht: ∀C,aU U k (cj C c sh) BR (fU ifs (compEnvC scope cl C env)) test) (kh: ∀C,aU U k (cj C c sh) VR (S3 elt (compEnvC scope cl C env)) ft):
  aU U k c VR (S3 (.ListComp elt [⟨.Name x px,iter,ifs,0⟩] scope pos) env) (Z fx λx=>Z (lcW sh test ft x) mk):=by
 intro A g ρ J s Q rm ok q;rw[eval_ListComp];refine Fw (use:=Sg) rm he K hm hx ht kh ok q λD C oC bG s' m ex eC jL PC ⟨aM,aL,v,dM,aI,bN,tT⟩=>⟨m,jL,λh' hs=>?_⟩;obtain⟨ot,PC3,eC3⟩:=aI.gQ PC;exact⟨aM,aL,v,ex.trans dM,ot.away PC3 (λb o z e=>(hs.2 b z).trans e),bN,tT⟩
theorem rq {elt:SX}{x:Tj}{cl:R4 (Tj×SM)}{py Fx:UM}{st:V->WM Unit}
  (he:dJ env c) (K:pN env c scope cl sh x iter) (hm:ji mk) (hx:aU U k c VR (S3 iter env) fx) (ht: ∀C,aU U k (cj C c sh) BR (fU ifs (compEnvC scope cl C env)) test) (kh: ∀C,aU U k (cj C c sh) VR (S3 elt (compEnvC scope cl C env)) ft)
  (Ck:dv U k c UR (λv=>storeName env y v) st) (A0:swapsWith (.ListComp elt [⟨.Name x px,iter,ifs,0⟩] scope pos) (R3 (.Name y py)) Fx.line env=pure Sn):
  aU U k c FR (Vu (.Assign [.Name y py] (.ListComp elt [⟨.Name x px,iter,ifs,0⟩] scope pos) Fx) env) (Z (Z fx λx=>Z (lcW sh test ft x) mk) λv=>Z (st v) λO=>ae .next):=by
 intro A g ρ J s Q rm ok q;rw[ZL _ _ _ _ A0];refine Sb (Ug (Sb ?_));refine Sb (cH (Fw (use:=R3 (assign (.Name y py) env)) (Q':=λO s'=>cu U g c ρ FR Q .next s') rm he K hm hx ht kh ok q λD C oC bG s' m ex eC jL PC ⟨aM,aL,v,dM,aI,bN,tT⟩=>?_) λO s' hq=>SD (SD hq));refine U0 (aA (Ck A _ aM aL s' _ v _ rm aI bN tT) λO om b9 cg O hH bI O vC=>?_);obtain⟨tR,PC4,eC4⟩:=bI.gQ PC;obtain⟨oC',es,ep,eC',r⟩:=jL;replace eC':=eC▸eC';obtain rfl:=R7 eC';exact⟨m,⟨oC,es,ep,eC4,r⟩,λh' hs=>⟨b9,cg,.next,(ex.trans dM).trans hH,tR.away PC4 (λb o z e=>(hs.2 b z).trans e),rfl,vC⟩⟩
end
end
section
section
variable{c:Cx}
theorem hO (hm:ji mk)(ok:OK U g c ρ J s){acc:R4 V}(r:ja ρ acc xs.toList)(h:mk acc J Q)(t:SH):
  cu U g c ρ VR Q (.ref s.heap.objs.size) {s with heap:=s.heap.push {cls:=.type "list",data:=.seq xs n},toks:=t}:=by
 have P:=bO.fresh ok (cp s.heap);exact hm U g c ρ J {s with heap:=s.heap.push {cls:=.type "list",data:=.seq xs n},toks:=t} _ acc xs n Q (ok.grow (λb o e=>Sp _ e)) P ok.two (To _ rfl) r h
theorem jk (ok:OK U g c ρ J s){acc:R4 V}(r:ja ρ acc xs.toList)(h:Q (.bF Sn acc) J)(t:SH):
  cu U g c ρ VR Q (.ref s.heap.objs.size) {s with heap:=s.heap.push {cls:=.type "tuple",data:=.seq xs n},toks:=t}:=by
 obtain⟨ex,v,ok'⟩:=ok.adt (b:=Sn) (xs:=xs) (n:=n) (s':={s with heap:=s.heap.push {cls:=.type "tuple",data:=.seq xs n},toks:=t}) (x:=s.heap.objs.size) r (cp _) (To _ rfl) (λb o e=>Sp _ e);exact⟨_,J,_,ex,ok',v,h⟩
def vD (mk:R4 V->WM V)(vs:R4 V):WM V:=λJ Q=>vs.length<=big/\mk vs J Q
def cR (acc:R4 V):WM V:=ae (.bF Sn acc)
theorem A1 (r:ja ρ vs us):ja ρ vs us.toArray.toList:=by simpa using r
theorem Fy {fa:WM (R4 V)}(hm:ji mk)(ha:cy U k c env elts fa):aU U k c VR (S3 (.List elts pos) env) (Z fa (vD mk)):=by
 intro A g ρ J s Q rm ok q;refine wpAny_List (aA (ha.sim pos A g ρ J s _ rm ok q) λus aB au ak vs aQ al aV ⟨hz,aD⟩=>⟨?_,?_⟩);·rw[aV.len];exact Uf (dW hz)
 ·exact(hO hm al (A1 aV) aD aB.toks).ext aQ
theorem Cp {fa:WM (R4 V)}(ha:cy U k c env elts fa):aU U k c VR (S3 (.Tuple elts n pos) env) (Z fa (vD cR)):=by
 intro A g ρ J s Q rm ok q;refine wpAny_Tuple (aA (ha.sim pos A g ρ J s _ rm ok q) λus aB au ak vs aQ al aV ⟨hz,aD⟩=>⟨?_,?_⟩);·rw[aV.len];exact Uf (dW hz)
 ·exact(jk al (A1 aV) aD aB.toks).ext aQ
inductive Ko (mk:R4 V->WM V)(J:St)(Q:V->St->Prop):V->V->Prop
 |i (a b:Sj):Q (.int (a+b)) J->Ko mk J Q (.int a) (.int b)
 |l (x y:V) (vs us:R4 V):gP J x=R3 (Sf,vs)->gP J y=R3 (Sf,us)->vs.length<=big->us.length<=big->mk (vs++us) J Q->Ko mk J Q x y
 |t (vs us:R4 V):vs.length<=big->us.length<=big->Q (.bF Sn (vs++us)) J->Ko mk J Q (.bF Sn vs) (.bF Sn us)
noncomputable def addW (mk:R4 V->WM V)(x y:V):WM V:=λJ Q=>Ko mk J Q x y
theorem A2 (hm:ji mk):cP U k c VR (binaryOp .Add) (addW mk):=by
 intro A g ρ J s Q x y a b rm ok ha hb h;cases h with
 |i _ _ h=>obtain⟨t,rfl⟩:=ha;obtain⟨u,rfl⟩:=hb;exact P.add_int (post (.int _) (ok.tok _) ⟨_,rfl⟩ h)
 |l _ _ vs us e1 e2 z1 z2 h=>obtain⟨x,xs,n,hx,r⟩:=ok.dO ha e1;obtain⟨y,ys,n',hy,r'⟩:=ok.dO hb e2;exact P.add_list hx hy (hO hm ok (acc:=vs++us) (by rw[W7];exact F2.app r r') h s.toks) (by rw[cJ r,cJ r'];exact SJ (Wd z1 z2) yb)
 |t vs us z1 z2 h=>
  obtain⟨x,xs,n,hx,r⟩:=ok.dO (b:=Sn) ha rfl;obtain⟨y,ys,n',hy,r'⟩:=ok.dO (b:=Sn) hb rfl;by_cases n1:xs.isEmpty=Sn
  ·refine concat_meets ⟨_,hx,rfl⟩ ⟨_,hy,rfl⟩ noFill_tuple_add seq_tuple_add F.slot_tuple_add F.entry_tuple_add (Z6 _ _) (AutoSeq1.tuple___add___tuple_tuple_0 x xs n y ys n' n1) ⟨hx,hy,?_⟩;rw[XN,cJ r]at n1;rw[U2.mp n1]at h;exact post _ ok hb h
  ·by_cases n2:ys.isEmpty=Sn
   ·refine concat_meets ⟨_,hx,rfl⟩ ⟨_,hy,rfl⟩ noFill_tuple_add seq_tuple_add F.slot_tuple_add F.entry_tuple_add (Z6 _ _) (AutoSeq1.tuple___add___tuple_tuple_1 x xs n y ys n' n1 n2) ⟨hx,hy,?_⟩;rw[XN,cJ r']at n2;rw[U2.mp n2,Tw]at h;exact post _ ok ha h
   ·exact P.add_tuple hx hy n1 n2 (jk ok (acc:=vs++us) (by rw[W7];exact F2.app r r') h s.toks) (by rw[cJ r,cJ r'];exact SJ (Wd z1 z2) yb)
theorem yA (n:Sj):(if n<0 then -n else n)=(n.natAbs:Sj):=by
 by_cases h:n<0;·exact(Sv h).trans (Int.ofNat_natAbs_of_nonpos (Int.le_of_lt h)).symm
 ·exact(Sq h).trans (Za (Int.not_lt.mp h)).symm
noncomputable def jl (x:V):WM V:=λJ Q=>match x with |.int a=>Q (.int (a.natAbs:Sj)) J |_=>False
theorem Kr:dv U k c VR (λa=>call (.builtin "abs") [a]) jl:=by
 intro A g ρ J s Q x a rm ok ha h;cases x with
 |int i=>obtain⟨t,rfl⟩:=ha;refine Zu λu tk=>?_;have e:(if i<0 then -i else i)=(i.natAbs:Sj):=yA i;refine e▸?_;exact post (.int _) (ok.tok _) ⟨_,rfl⟩ h
 |_=>exact h.elim
def Qg (x:V):WM V:=λJ Q=>X2 λb vs=>C3 (gP J x=R3 (b,vs)) (vs.length<=big) (Q (.int vs.length) J)
theorem Ks:dv U k c VR (λa=>call (.builtin "len") [a]) Qg:=by
 rintro A g ρ J s Q x a rm ok ha ⟨b,vs,e,hz,h⟩;obtain⟨x,xs,n,hx,r⟩:=ok.dO ha e;have hs:=cJ r;rw[<-hs]at h;have hz2:(xs.size:Sj)<2 ^ 63:=by rw[hs];exact Int.lt_of_le_of_lt (XI.mpr hz) (by decide)
 cases b;·exact call_len_list (mE hx) hz2 (post (.int _) (ok.tok _) ⟨_,rfl⟩ h)
 ·exact len_tuple (JY hx) hz2 (post (.int _) (ok.tok _) ⟨_,rfl⟩ h)
def Qh (x y:V):WM V:=intOp (λa b=>.int (if b>a then b else a)) (λO O=>True) x y
theorem Kt:cP U k c VR (λa b=>call (.builtin "max") [a,b]) Qh:=by
 rintro A g ρ J s Q x y a b rm ok ha hb ⟨i,j,ex,ey,_,q⟩;subst ex ey;obtain⟨t,rfl⟩:=ha;obtain⟨u,rfl⟩:=hb;refine max_two_ints rm.hd λh' tk hk=>?_;have ok':OK U g c ρ J {s with heap:=h',toks:=tk}:=ok.grow hk;have q:Q (.int (if j>i then j else i)) J:=q;by_cases z:j>i;·rw[Sv z]at q ⊢;exact post (.int _) ok' ⟨_,rfl⟩ q
 ·rw[Sq z]at q ⊢;exact post (.int _) ok' ⟨_,rfl⟩ q
theorem Ok {R:α->β->Prop}{as:R4 α}: ∀{bs:R4 β},bs.length=as.length->(∀(i:SH) (a:α) (b:β),as[i]? =R3 a->bs[i]? =R3 b->R a b)->F2 R as bs:=by
 induction as with
 |nil=>intro bs hl _;cases bs with
  |nil=>trivial
  |cons=>exact nomatch hl
 |cons a as ih=>intro bs hl h;cases bs with
  |nil=>exact nomatch hl
  |cons b bs=>exact⟨h 0 a b rfl rfl,ih (VD hl) λi a' b' e1 e2=>h (i+1) a' b' e1 e2⟩
theorem Cq {p q:Sj}{y:V}(e:(Src.kH p q).items[i]? =R3 y):y=.int (p+(i:Sj))/\i<(q - p).toNat:=by
 unfold Src.items at e;rw[Sx]at e;obtain⟨j,z,rfl⟩:=SR.mp e;obtain⟨AU,rfl⟩:=R6.mp z;rw[T6]at AU;rw[V9];exact⟨rfl,AU⟩
inductive FB (mk:R4 V->WM V)(J:St)(Q:V->St->Prop):V->Prop
 |s (x:V) (b:Tn) (vs:R4 V):gP J x=R3 (b,vs)->vs.length<=big->mk vs J Q->FB mk J Q x
 |r (a:Ad) (p q:Sj):J.hp a=R3 (.range p q)->(Src.kH p q).fits->mk (Src.kH p q).items J Q->FB mk J Q (.ref a)
noncomputable def FD (mk:R4 V->WM V)(x:V):WM V:=λJ Q=>FB mk J Q x
theorem yB (hm:ji mk):dv U k c VR (λa=>call (.type "list") [a]) (FD mk):=by
 intro A g ρ J s Q x a rm ok ha h;have P:=bO.fresh ok (cp s.heap);cases h with
 |s _ b vs e hz h=>obtain⟨x,xs,n,hx,r⟩:=ok.dO ha e;refine call_list_seq x (T:=sg b) (by cases b;exact .inl rfl;exact .inr rfl) hx rfl rfl (λh' c' hk hD=>?_) (by rw[cJ r];exact Uf (dW hz));exact hm U g c ρ J {s with heap:=h'} _ vs xs c' Q (ok.grow hk) P ok.two hD r h
 |r ad p q e0 hf h=>obtain⟨x,hx,rfl⟩:=ha;obtain⟨x',o,mD,ho,t,u,v,rfl⟩:=ok.hp ad _ e0;cases R7 (hx.symm.trans mD);refine call_list_range (n:=(q - p).toNat) rm.hd ho (sB hf) (pG p q) (by obtain⟨h1,h2,h3,h4⟩:=hf;clear h;lia) (λh' tk vE c' hk hD hit=>?_);refine hm U g c ρ J {s with heap:=h',toks:=tk} _ (Src.kH p q).items vE c' Q (ok.grow hk) P ok.two hD ?_ h;obtain⟨hl,hi⟩:=hit;refine Ok (by rw[Ux,hl];unfold Src.items;rw[Sa,T6]) λi y v e1 e2=>?_;replace e2:=(T4)▸e2;obtain⟨t,rfl⟩:=hi i v e2;rw[(Cq e1).1];exact⟨t,by rw[Int.mul_one]⟩
def Qi (x:V):WM V:=λJ Q=>∃vs,C3 (gP J x=R3 (Sf,vs)) (vs.length<=big) (Q (.bF Sn vs) J)
theorem vF:dv U k c VR (λa=>call (.type "tuple") [a]) Qi:=by
 rintro A g ρ J s Q x a rm ok ha ⟨vs,e,hz,h⟩;obtain⟨x,xs,n,hx,r⟩:=ok.dO ha e;refine call_tuple_list (mE hx) (λh' hk=>?_) (by rw[cJ r];exact Uf (dW hz));have ok':OK U g c ρ J {s with heap:=h'}:=ok.grow hk;exact jk ok' r h s.toks
theorem FE (ok:OK U g c ρ J s){m n:Sj}{u v:Tok}{tk:SH}(h:pB (.range m n) J Q):cu U g c ρ VR Q (.ref s.heap.objs.size) {s with heap:=s.heap.push {cls:=.type "range",data:=.fields #[.int m t,.int n u,.int 1 v]},toks:=tk}:=by
 obtain⟨ad,hn,h⟩:=h ok.fin;obtain⟨ex,l,ok'⟩:=ok.new (s':={s with heap:=s.heap.push {cls:=.type "range",data:=.fields #[.int m t,.int n u,.int 1 v]},toks:=tk}) hn (so:=.range m n) ⟨t,u,v,rfl⟩ (cp _) ok.two (To _ rfl) (λb o e=>Sp _ e);exact⟨_,_,.ref ad,ex,ok',⟨_,l,rfl⟩,h⟩
def FG (x:V):WM V:=λJ Q=>∃n,x=.int n/\pB (.range 0 n) J Q
theorem yC:dv U k c VR (λa=>call (.type "range") [a]) FG:=by
 rintro A g ρ J s Q x a rm ok ha ⟨n,ex,h⟩;subst ex;obtain⟨t,rfl⟩:=ha;exact call_range_1 (FE ok h)
def FH (x y:V):WM V:=λJ Q=>X2 λm n=>C3 (x=.int m) (y=.int n) (pB (.range m n) J Q)
theorem yD:cP U k c VR (λa b=>call (.type "range") [a,b]) FH:=by
 rintro A g ρ J s Q x y a b rm ok ha hb ⟨m,n,ex,ey,h⟩;subst ex ey;obtain⟨t,rfl⟩:=ha;obtain⟨u,rfl⟩:=hb;exact call_range_2 (FE ok h)
theorem mJ {T:Vn}{fa:WM (R4 V)}(hf:aU U k c VR (S3 func env) (ae (.glob (.type T))))(ha:cy U k c env args fa)
  (ho:dw U k c VR (λas=>call (.type T) as) ow)
  (hc:S3 (.Call func args [] pos) env=(do callWith pos (<-S3 func env) [] (backTo pos (starEach args env)) (backToKw pos (keywordEach [] env)))):
  aU U k c VR (S3 (.Call func args [] pos) env) (Z fa ow):=by
 intro A g ρ J s Q rm ok q;refine Call_ (aA (hf A g ρ J s (λf bD=>f=.glob (.type T)/\Z fa ow bD Q) rm ok ⟨rfl,q⟩) λf aB au ak x aQ al aV ⟨hx,aD⟩=>?_) hc;subst hx;cases(show f=_ from aV);refine PyProof.Rows.callWith_type (ha.plain pos) (aA (ha.ev pos _ A g au ak aB _ rm al aD) λa aX aM aL y bu aI ⟨bN,c9⟩ aW=>?_);refine bN▸?_;exact cH (ho A g aM aL aX Q y a.pos rm aI c9 aW) λv bR p=>(p.ext bu).ext aQ
inductive Ku:V->V->Tn->Prop
 |t (vs:R4 V):Ku (.bF Sn vs) (.glob (.type "tuple")) Sn
 |i (i:Sj):Ku (.int i) (.glob (.type "int")) Sn
 |b (i:Sj):Ku (.int i) (.glob (.type "bool")) Sf
noncomputable def Cr (x y:V):WM V:=λJ Q=>∃r,Ku x y r/\Q (.bool r) J
theorem Kv:cP U k c VR (λa b=>call (.builtin "isinstance") [a,b]) Cr:=by
 rintro A g ρ J s Q x y a b rm ok ha hb ⟨r,hr,h⟩;cases hr with
 |t=>obtain⟨x,q,rfl⟩:=ha;subst hb;obtain⟨xs,n,p,_⟩:=ok.im x _ _ q;exact IsiPair.tuple_tuple p rfl (post (.bool Sn) ok rfl h)
 |i=>obtain⟨t,rfl⟩:=ha;subst hb;exact IsiPair.int_int (post (.bool Sn) ok rfl h)
 |b=>obtain⟨t,rfl⟩:=ha;subst hb;exact IsiPair.int_bool (post (.bool Sf) (ok.tok _) rfl h)
end
end
section
section
variable{c:Cx}
noncomputable def jM:R4 (V->WM Unit)->R4 V->WM Unit
 |t::ts,x::xs=>Z (t x) λO=>jM ts xs
 |[],[]=>ae ()
 |_,_=>aJ
inductive Stores (U:Un)(k:SH)(c:Cx):R4 (Sz->Xf Unit)->R4 (V->WM Unit)->Prop
 |nil:Stores U k c [] []
 |cons {t:Sz->Xf Unit} {w:V->WM Unit} {ts:R4 (Sz->Xf Unit)} {ws:R4 (V->WM Unit)}:dv U k c UR t w->Stores U k c ts ws->Stores U k c (t::ts) (w::ws)
theorem Stores.sim (h:Stores U k c ts ws):dw U k c UR (λas=>assignInOrder ts as) (jM ws):=by
 induction h with
 |nil=>
  intro A g ρ J s Q xs as rm ok r q;cases xs with
  |nil=>exact assignInOrder_nil (post () ok trivial q)
  |cons _ _=>exact q.elim
 |@cons t w ts ws h1 h2 ih=>
  intro A g ρ J s Q xs as rm ok r q;cases xs with
  |nil=>exact q.elim
  |cons x xs=>
   cases as with
   |nil=>exact r.elim
   |cons a as=>exact assignInOrder_cons (aA (h1 A g ρ J s _ x a rm ok r.1 q) λO aB au ak O aQ al O adz=>cH (ih A g au ak aB Q xs as rm al (ja.mono aQ r.2) adz) λO aX p=>p.ext aQ)
theorem Stores.len (h:Stores U k c ts ws):ts.length=ws.length:=by
 induction h with
 |nil=>rfl
 |cons _ _ ih=>simp[ih]
def oX (ws:R4 (V->WM Unit))(x:V):WM Unit:=λJ Q=>∃vs,C3 (x=.bF Sn vs) (vs.length=ws.length) (jM ws vs J Q)
theorem OK.grown (h:OK U g c ρ J s)(e:Y3 s.heap.objs.size s.heap h'):OK U g c ρ J {s with heap:=h'}:=
 h.grow λb o q=>e b o (λz=>by have:=TA q;rw[z]at this;exact Sw this (Uq _)) q
theorem rt (h:Stores U k c ((assignEach elts env).map (·.2)) ws)(hs:(assignEach elts env).findIdx? (·.1)=Sg):
  dv U k c UR (λv=>assign (.Tuple elts n tpos) env v) (oX ws):=by
 rintro A g ρ J s Q x a rm ok ha ⟨vs,ex,hl,q⟩;subst ex;obtain⟨x,xs,m,hx,r⟩:=ok.dO (b:=Sn) ha rfl;have hz:=cJ r;refine wpAny_assign_Tuple rm.hd (JY hx) ?_ hs λh' he=>?_;·have:=h.len;rw[Sa]at this;rw[this,hz,hl]
 ·exact h.sim A g ρ J _ Q vs _ rm (ok.grown he) r q
theorem mK (hv:aU U k c VR (S3 value env) fv)(h:Stores U k c ((assignEach elts env).map (·.2)) ws)(Ck:(assignEach elts env).findIdx? (·.1)=Sg)
  (hs:swapsWithSole [.Tuple elts n tpos] value pos.line env=pure Sf) (hw:swappedStores [.Tuple elts n tpos] value env=pure Sg):
  aU U k c FR (Vu (.Assign [.Tuple elts n tpos] value pos) env) (Z fv λv=>Z (oX ws v) λO=>ae .next):=by
 intro A g ρ J s Q rm ok q;exact Assign_Tuple (aA (hv A g ρ J s _ rm ok q) λa aB au ak x aQ al aV aD=>aA (rt (tpos:=tpos) (n:=n) h Ck A g au ak aB _ x a rm al aV aD) λO aX aM aL O bu aI O aW=>
  ⟨aM,aL,.next,aQ.trans bu,aI,rfl,aW⟩) hs hw
def pO (ws:R4 (V->WM Unit))(x:V):WM Unit:=λJ Q=>∃vs,C3 (x=.bF Sn vs) (vs.length=ws.length) (jM ws vs.reverse J Q)
theorem F2.snoc {R:α->β->Prop}: ∀{as:R4 α} {bs:R4 β} {a:α} {b:β},F2 R as bs->R a b->F2 R (as++[a]) (bs++[b]):=λh r=>F2.app h ⟨r,TK⟩
theorem F2.rev {R:α->β->Prop}{as:R4 α}{bs:R4 β}(h:F2 R as bs):F2 R as.reverse bs.reverse:=by
 induction h using F2.ind with
 |nil=>trivial
 |cons a b as bs r t ih=>rw[Wk,Wk];exact F2.snoc ih r
theorem kK {names:R4 Tj}(hv:aU U k c VR (S3 value env) fv)(h:Stores U k c (names.reverse.map λn=>bindName env n) ws)
  (hs:swapsWithSole [.Tuple elts n tpos] value pos.line env=pure Sf) (hw:swappedStores [.Tuple elts n tpos] value env=pure (R3 names)):
  aU U k c FR (Vu (.Assign [.Tuple elts n tpos] value pos) env) (Z fv λv=>Z (pO ws v) λO=>ae .next):=by
 intro A g ρ J s Q rm ok q;refine Assign_Tuple_swapped (aA (hv A g ρ J s _ rm ok q) λa aB au ak x aQ al aV aD=>?_) hs hw;obtain⟨vs,ex,hl,aD⟩:=aD;subst ex;obtain⟨x,xs,m,hx,r⟩:=al.dO (b:=Sn) aV rfl;have e:names.length=xs.size:=by have:=h.len;rw[Sa,UI]at this;rw[this,cJ r,hl]
 refine e▸?_;refine wpAny_unpackItems_tuple rm.hd (JY hx) λh' he=>?_;exact aA (h.sim A g au ak _ _ vs.reverse _ rm (al.grown he) (F2.rev r) aD) λO aX aM aL O bu aI O aW=>⟨aM,aL,.next,aQ.trans bu,aI,rfl,aW⟩
theorem FJ {f:V->WM Unit}(h:dv U k c UR (λv=>storeName env y v) f):dv U k c UR (λv=>bindName env y v) f:=
 λA g ρ J s Q x a rm ok ha q=>bindName_ (h A g ρ J s Q x a rm ok ha q)
theorem vG {o i:SX}{fi:WM V}{ow:V->V->V->WM Unit}(ho:aU U k c VR (S3 o env) fo)(hi:aU U k c VR (S3 i env) fi)(hw:ya U k c UR setItem ow):
  dv U k c UR (λv=>assign (.Subscript o i p) env v) (λv=>Z fo λx=>Z fi λy=>ow x y v):=by
 intro A g ρ J s Q x a rm ok ha q;dsimp only;rw[arm_assign_Subscript];refine Sb (T7 (aA (ho A g ρ J s _ rm ok q) λb aX aM aL y bu aI bN aW=>?_));refine Sb (T7 (aA (hi A g aM aL aX _ rm aI aW) λd bR b9 cg z c7 bI c9 cX=>?_));have fin:=hw A g b9 cg bR Q y z x b d a rm bI (bN.mono c7) c9 ((ha.mono bu).mono c7) cX;refine Sb (Ug (Sb (T7 (cH fin λO gA p=>?_))));exact wpAny_release ((p.ext c7).ext bu)
theorem yE {l r1 r2:SX}{op1 op2:Zk}{fl f1:WM V}{o1 o2:V->V->WM V}(hm:lastMarks [op1,op2] [r1,r2]=Sf)(hl:aU U k c VR (S3 l env) fl)(h1:aU U k c VR (S3 r1 env) f1)(h2:aU U k c VR (S3 r2 env) f2)
  (ho1:cP U k c VR (compareOp op1) o1) (ho2:cP U k c VR (compareOp op2) o2):
  aU U k c BR (UE (.Compare l [op1,op2] [r1,r2] pos) env whole) (Z fl λx=>Z f1 λy=>bK (Z (o1 x y) aj) (Z f2 λz=>Z (o2 y z) aj) (ae Sf)):=by
 intro A g ρ J s Q rm ok q;refine isTrue_chain (aA (hl A g ρ J s _ rm ok q) λa aB au ak x aQ al aV aD=>?_) hm;refine test_link (aA (h1 A g au ak aB _ rm al aD) λb aX aM aL y bu aI bN aW=>?_);refine aA (ho1 A g aM aL aX _ x y a b rm aI (aV.mono bu) bN aW) λcv bR b9 cg z c7 bI c9 cX=>?_;refine aA (fY A g b9 cg bR _ z cv rm bI c9 cX) λt gA gq gG t' pK dK adA gR=>?_;cases(show t'=t from adA);have ex:=((aQ.trans bu).trans c7).trans pK;cases t;·exact⟨gq,gG,Sf,ex,dK,rfl,gR.2 rfl⟩
 ·refine test_last (aA (h2 A g gq gG gA _ rm dK (gR.1 rfl)) λd hP pP sE w Ct nK Qj rx=>?_);refine aA (ho2 A g pP sE hP _ y w b d rm nK (((bN.mono c7).mono pK).mono Ct) Qj rx) λcv' Qk vH vI z' Ql vJ adB Qm=>?_;exact cH (fY A g vH vI Qk Q z' cv' rm vJ adB Qm) λt ae7 p=>((p.ext Ql).ext Ct).ext ex
end
end
section
theorem nL {a b:Sj}{u:Tok}{Q:Sz->TD->Prop}(h:Q (.bool (Ul (a>b))) s):Tx (Tc prog w) A (richCompare .Gt (.int a t) (.int b u)) Q E s:=
 show Tx (Tc prog w) A (compareOp .Gt (.int a t) (.int b u)) Q E s from P.gt_int h
set_option maxHeartbeats 2000000 in
theorem pQ (l b:SM)(i1 i2 j1 j2:Sj)(t1 t2 u1 u2:Tok)(n n2:SH):
  Meets (Builtin.«tuple.__gt__» ⟨[.ref l,.ref b],[]⟩)
   (λA R s=>s.heap.get? l=R3 {cls:=.type "tuple",data:=.seq #[.int i1 t1,.int i2 t2] n}/\s.heap.get? b=R3 {cls:=.type "tuple",data:=.seq #[.int j1 u1,.int j2 u2] n2}/\
    R (.ok (.ret (.bool (if i1=j1 then decide (i2>j2)else decide (i1>j1))))) s):=
 .of_wp λprog w A R s h=>by
  obtain⟨hp,g,d,tk,os⟩:=s;obtain⟨hl,hb,h⟩:=h;have f2:=AutoSeq1.sub_tuple_tuple
  wp_walk using wpAny_loadPart' hl,wpAny_loadPart' hb
  refine WQ _ _ _ _ prog w _ _ ?_;by_cases q:i1=j1
  ·subst q;rw[Sv rfl]at h;rw[show(i1==i1)=Sn from TV i1]
   wp_walk
   refine WQ _ _ _ _ prog w _ _ ?_;by_cases q2:i2=j2
   ·subst q2;rw[show(i2==i2)=Sn from TV i2]
    wp_walk
    refine⟨_,rfl,?_⟩;have e:decide (i2>i2)=Sf:=Ti (Int.lt_irrefl i2);rw[e]at h;exact h
   ·rw[show(i2==j2)=Sf from VF.mpr q2];refine Sb (m:=rule _) (W0 ?_);refine Sb (m:=richCompare _ _ _) (nL ?_)
    wp_walk
    exact⟨_,rfl,h⟩
  ·rw[show(i1==j1)=Sf from VF.mpr q];replace h:=(Sq q)▸h;refine Sb (m:=rule _) (W0 ?_);refine Sb (m:=richCompare _ _ _) (nL ?_)
   wp_walk
   exact⟨_,rfl,h⟩
theorem FK {l b:SM}{i1 i2 j1 j2:Sj}{t1 t2 u1 u2:Tok}{Q:Sz->TD->Prop}(hu:A.units<cLine)
  (hl:s.heap.get? l=R3 {cls:=.type "tuple",data:=.seq #[.int i1 t1,.int i2 t2] n}) (hb:s.heap.get? b=R3 {cls:=.type "tuple",data:=.seq #[.int j1 u1,.int j2 u2] n2})
  (h:Q (.bool (if i1=j1 then decide (i2>j2)else decide (i1>j1))) s):Tx (Tc prog w) A (compareOp .Gt (.ref l) (.ref b)) Q E s:=
 cmp_ofGt (richCompare_meets_room (op:=.Gt) ⟨_,hl,rfl⟩ ⟨_,hb,rfl⟩ F.slot_tuple_gt F.entry_tuple_gt (F.args_tuple_gt_2 _ _) (pQ l b i1 i2 j1 j2 t1 t2 u1 u2 n n2)
  ⟨hl,hb,⟨(λx=>nomatch x),h⟩⟩ hu)
section
variable{c:Cx}
inductive GtV:V->V->Tn->Prop
 |i (a b:Sj):GtV (.int a) (.int b) (Ul (a>b))
 |p (i1 i2 j1 j2:Sj):GtV (.bF Sn [.int i1,.int i2]) (.bF Sn [.int j1,.int j2]) (if i1=j1 then decide (i2>j2)else decide (i1>j1))
noncomputable def gtW (x y:V):WM V:=λJ Q=>∃r,GtV x y r/\Q (.bool r) J
theorem FM {i j:Sj}(r:ja ρ [.int i,.int j] xs.toList): ∃t u,xs= #[.int i t,.int j u]:=by
 obtain⟨l⟩:=xs;cases l with
 |nil=>exact r.elim
 |cons a l=>cases l with
  |nil=>exact r.2.elim
  |cons b l=>cases l with
   |cons=>exact r.2.2.elim
   |nil=>obtain⟨⟨t,rfl⟩,⟨u,rfl⟩,_⟩:=r;exact⟨t,u,rfl⟩
theorem Qn:cP U k c VR (compareOp .Gt) gtW:=by
 rintro A g ρ J s Q x y a b rm ok ha hb ⟨r,hr,h⟩;cases hr with
 |i=>obtain⟨t,rfl⟩:=ha;obtain⟨u,rfl⟩:=hb;exact P.gt_int (post (.bool _) ok rfl h)
 |p=>obtain⟨x,qx,rfl⟩:=ha;obtain⟨y,qy,rfl⟩:=hb;obtain⟨xs,n1,hx,r1⟩:=ok.im x _ _ qx;obtain⟨ys,n2,hy,r2⟩:=ok.im y _ _ qy;obtain⟨t1,u1,rfl⟩:=FM r1;obtain⟨t2,u2,rfl⟩:=FM r2;exact FK rm.cl hx hy (post (.bool _) ok rfl h)
inductive FN (mk:R4 V->WM V)(J:St)(Q:V->St->Prop)(x:V)(vs:R4 V):Sj->Prop
 |p (j:SH):mk (vs.take j) J Q->FN mk J Q x vs (j:Sj)
 |n:mk vs.dropLast J Q->FN mk J Q x vs (-1)
def FO (mk:R4 V->WM V)(x y:V):WM V:=λJ Q=>X2 λvs (i:Sj)=>C4 (y=.int i) (gP J x=R3 (Sf,vs)) (vs.length<=big) (FN mk J Q x vs i)
def FP (mk:R4 V->WM V)(x y:V):WM V:=λJ Q=>X2 λvs (j:SH)=>C4 (y=.int (j:Sj)) (gP J x=R3 (Sf,vs)) (vs.length<=big) (mk (vs.drop j) J Q)
def Kw (mk:R4 V->WM V)(x:V):WM V:=λJ Q=>∃vs,C3 (gP J x=R3 (Sf,vs)) (vs.length<=big) (mk vs.reverse J Q)
theorem FQ {e:SX}(hm:ji mk)(hv:aU U k c VR (S3 value env) fv)(he:aU U k c VR (S3 e env) fe):
  aU U k c VR (S3 (.Subscript value (.Slice Sg (R3 e) Sg p) pos) env) (Z fv λx=>Z fe λy=>FO mk x y):=by
 intro A g ρ J s Q rm ok h;refine V2 (aA (hv A g ρ J s _ rm ok h) λa aB au ak x aQ al aV aD=>Xm (SD (aA (he A g au ak aB _ rm al aD) λb aX aM aL y bu aI bN aW=>SD ?_)));obtain⟨vs,i,ey,hs,hz,aW⟩:=aW;subst ey;obtain⟨t,rfl⟩:=bN;obtain⟨x,xs,n,hx,r⟩:=aI.dO (aV.mono bu) hs;have hl:=cJ r;have ot:OK U g c aM aL {aX with heap:=aX.heap.push {cls:=.type "slice",data:=.fields #[.none,.int i t,.none]}}:=aI.grow λb o q=>Sp _ q;refine V4 (T:="list") (id:="list.__getitem__") ⟨_,Sp _ hx,rfl⟩ WC.lookup ?_ rfl;refine WK (mE (Sp _ hx)) (Vh ..) .none (.int i t) .none (by decide) (cu.ext aQ (cu.ext bu ?_)) (by rw[hl];exact Uf (dW hz));cases aW with
 |p j aW=>exact hO hm ot (by rw[slicePick_upto'];exact r.take j) aW aX.toks
 |n aW=>refine hO hm ot ?_ aW aX.toks;have:=slicePick_butLast xs 1 (S8 _);rw[show(-((1:SH):Sj))= -1 by rfl]at this;rw[this,YW,<-hl];exact r.take _
theorem FU {e:SX}(hm:ji mk)(hv:aU U k c VR (S3 value env) fv)(he:aU U k c VR (S3 e env) fe):
  aU U k c VR (S3 (.Subscript value (.Slice (R3 e) Sg Sg p) pos) env) (Z fv λx=>Z fe λy=>FP mk x y):=by
 intro A g ρ J s Q rm ok h;refine V2 (aA (hv A g ρ J s _ rm ok h) λa aB au ak x aQ al aV aD=>Xm (aA (he A g au ak aB _ rm al aD) λb aX aM aL y bu aI bN aW=>SD (SD ?_)));obtain⟨vs,j,ey,hs,hz,aW⟩:=aW;subst ey;obtain⟨t,rfl⟩:=bN;obtain⟨x,xs,n,hx,r⟩:=aI.dO (aV.mono bu) hs;have ot:OK U g c aM aL {aX with heap:=aX.heap.push {cls:=.type "slice",data:=.fields #[.int (j:Sj) t,.none,.none]}}:=aI.grow λb o q=>Sp _ q;refine V4 (T:="list") (id:="list.__getitem__") ⟨_,Sp _ hx,rfl⟩ WC.lookup ?_ rfl;exact WK (mE (Sp _ hx)) (Vh ..) (.int (j:Sj) t) .none .none (by decide) (cu.ext aQ (cu.ext bu (hO hm ot (by rw[slicePick_from'];exact r.drop j) aW aX.toks))) (by rw[cJ r];exact Uf (dW hz))
theorem Kx {q:UM}{n₁:SH}{q':UM}(hm:ji mk)(hv:aU U k c VR (S3 value env) fv):
  aU U k c VR (S3 (.Subscript value (.Slice Sg Sg (R3 (.UnaryOp .USub (.Constant (.int 1) n₁ q) q')) p) pos) env) (Z fv λx=>Kw mk x):=by
 intro A g ρ J s Q rm ok h;refine V2 (aA (hv A g ρ J s _ rm ok h) λa aB au ak x aQ al aV aD=>Xm (SD (SD (aA (ph (k:=k) (AC (i:=1)) AD A g au ak aB (λv bD=>v=.int (-1)/\Kw mk x bD Q) rm al ⟨rfl,aD⟩) λb aX aM aL y bu aI bN ⟨hy,aW⟩=>?_))));subst hy;obtain⟨t,rfl⟩:=bN;obtain⟨vs,hs,hz,aW⟩:=aW;obtain⟨x,xs,n,hx,r⟩:=aI.dO (aV.mono bu) hs;have ot:OK U g c aM aL {aX with heap:=aX.heap.push {cls:=.type "slice",data:=.fields #[.none,.none,.int (-1) t]}}:=aI.grow λb o q=>Sp _ q;refine V4 (T:="list") (id:="list.__getitem__") ⟨_,Sp _ hx,rfl⟩ WC.lookup ?_ rfl;exact WK (mE (Sp _ hx)) (Vh ..) .none .none (.int (-1) t) (by decide) (cu.ext aQ (cu.ext bu (hO hm ot (by rw[krv_pick];exact F2.rev r) aW aX.toks))) (by rw[cJ r];exact Uf (dW hz))
theorem Ky (lo hi:SH):VY (lo:Sj) (hi:Sj) 1=hi - lo:=by
 unfold VY;simp only[show(1:Sj)>0 by decide,Zt,Int.ediv_one];split<;>lia
theorem lE {p:Si Sj}{Q:Si Sj->TD->Prop}(h:IsPart v p)(q:Q p s):Tx (Tc prog w) A (Builtin.Slice.slicePartIndex v) Q E s:=by
 cases h with
 |none=>exact slicePart_none q
 |int i t=>exact slicePart_int q
theorem ou {sl:SM}{va vb:Sz}{pa pb:Si Sj}{lo:SH}{Q:Sj×Sj×SH->TD->Prop}(hs:s.heap.IsSliceOf sl va vb .none)(ha:IsPart va pa)(hb:IsPart vb pb)
  (e:Va pa pb 1 (n:Sj)=((lo:Sj),(hi:Sj))) (h:Q ((lo:Sj),1,hi - lo) s):Tx (Tc prog w) A (Xe (.ref sl) (pure (n:Sj))) Q E s:=by
 obtain⟨os,hos,hcs,hds⟩:=id hs;unfold Xe Builtin.Slice.sliceFields;refine Sb (Sb (UB hos hds (x:=va) rfl (Sb (UB hos hds (x:=vb) rfl (Sb (UB hos hds (x:=.none) rfl (SD ?_)))))));refine Sb (slicePart_none ?_);rw[Sq (by decide)];refine Sb (lE ha (Sb (lE hb (Sb (SD ?_)))));refine e▸?_;show Tx _ _ (pure ((lo:Sj),(1:Sj),VY (lo:Sj) (hi:Sj) 1)) _ _ s;rw[Ky];exact SD h
theorem aa9 (xs:Vt Sz)(lo cnt:SH):((TL cnt).filterMap λ(k:SH)=>xs[((lo:Sj)+(k:Sj)*1).toNat]?).toArray=((xs.toList.drop lo).take cnt).toArray:=by
 have e:(λ(k:SH)=>xs[((lo:Sj)+(k:Sj)*1).toNat]?)=λk=>xs[lo+k]? :=by funext k;have:((lo:Sj)+(k:Sj)*1).toNat=lo+k:=SK (yN [_,_,_] [] 0xf5112f3b15321b054 rfl (U3 (yZ [_,_] [] 0xf3112f1b01c55 rfl))) (yN [_,_,_] [] 0xf53112f1b51210b54 rfl (Uy _));rw[this]
 refine e▸?_;have:=pick_run xs lo cnt;rw[Zi]at this;have e2:((λx=>xs[x]?) ∘ λx=>lo+x)=λk=>xs[lo+k]? :=rfl;rw[e2]at this;rw[this]
theorem fQ {t sl:SM}{m:SH}{va vb:Sz}{pa pb:Si Sj}{lo:SH}{Q:Sz->TD->Prop}(ht:s.heap.get? t=R3 {cls:=.type "tuple",data:=.seq xs m})
  (hs:s.heap.IsSliceOf sl va vb .none) (ha:IsPart va pa) (hb:IsPart vb pb) (e:Va pa pb 1 (xs.size:Sj)=((lo:Sj),(hi:Sj))) (Qo:xs.size<=sizeLine)
  (h1:lo=0->hi - lo=xs.size->Q (.ref t) s)
  (h2:Q (.ref s.heap.objs.size) {s with heap:=s.heap.push {cls:=.type "tuple",data:=.seq ((xs.toList.drop lo).take (hi - lo)).toArray}}):Tx (Tc prog w) A (getItem (.ref t) (.ref sl)) Q E s:=by
 have hT:IsTup s.heap t xs:=⟨_,ht,rfl,_,rfl⟩;have A3:sizeOk (.seq ((xs.toList.drop lo).take (hi - lo)).toArray):=by show((xs.toList.drop lo).take (hi - lo)).toArray.size<=sizeLine;rw[Xu,S9,UL,Ux];exact yN [_,_,_,_] [] 0xf3050235012501054 rfl Qo (UH _ _) (TT _ _)
 obtain⟨os,hos,hcs,hds⟩:=id hs;have hTs:s.TypeIs (.ref sl) "slice":=⟨os,hos,hcs⟩;unfold getItem;try with_reducible refine T7 ?_
 first |refine Sb (SD ?_) |skip
 refine Sb (wpAny_sequenceKey hT.typeIs (by decide) ?_);refine Sb (Zf (name:=Str.ofString "__getitem__") hT.typeIs slot_tuple_getitem
  (Yq slot_tuple_getitem hT.typeIs entry_tuple_getitem ?_ (args_tuple_getitem _ _)))
 show Tx _ _ (Builtin.Tuple.tupleItemsOf (.ref t)>>=_) _ _ s;refine Sb (tupleItemsOf_ hT ?_);refine Sb (Zn hTs ?_);rw[Sv (by decide)];refine Sb (ou hs ha hb e ?_);show Tx _ _ (if((lo:Sj)==0 && (1:Sj)==1 && (hi - lo)==xs.size)=Sn then _ else _) _ _ s;by_cases q:((lo:Sj)==0 && (1:Sj)==1 && (hi - lo)==xs.size)=Sn
 ·rw[Sv q];have q1:lo=0/\hi - lo=xs.size:=by simp only[Tt,U5]at q;exact⟨by have:=q.1.1;exact SK (yN [_] [] 0xf01c15301c054 rfl this) (yN [_] [] 251665492 rfl),q.2⟩
  unfold Builtin.Tuple.tupleIsExact;refine Sb (Sb (Zn hT.typeIs (SD ?_)));rw[Sv (by decide)];refine Sb (W0 ?_);first
   |exact Sb (SD (SD ⟨_,rfl,SD (h1 q1.1 q1.2)⟩))
   |exact SD ⟨_,rfl,SD (h1 q1.1 q1.2)⟩
 ·rw[Sq q,aa9];first
   |exact Sb (m:=Vf _) (UZ (SD ⟨_,rfl,SD h2⟩) A3)
   |exact Sb (m:=Vf _) (UZ (Sb (SD (SD ⟨_,rfl,SD h2⟩))) A3)
   |exact Sb (Sb (m:=Vf _) (UZ (SD (SD ⟨_,rfl,SD h2⟩)) A3))
   |exact Sb (Sb (m:=Vf _) (UZ (SD ⟨_,rfl,SD h2⟩) A3))
def Ol (f:R4 V->SH->R4 V)(x y:V):WM V:=λJ Q=>X2 λvs (i:SH)=>C4 (x=.bF Sn vs) (y=.int (i:Sj)) (vs.length<=big) (Q (.bF Sn (f vs i)) J)
def yG:V->V->WM V:=Ol λvs i=>vs.take i
def yH:V->V->WM V:=Ol λvs i=>vs.drop i
theorem ado {x:V}{a:Sz}(ok:OK U g c ρ J s)(h:VR ρ x a)(e:x=.bF Sn vs):VwQ ρ s.heap Sn vs a:=by subst e;exact ok.dO h rfl
theorem Cu {e:SX}(hv:aU U k c VR (S3 value env) fv)(he:aU U k c VR (S3 e env) fe):
  aU U k c VR (S3 (.Subscript value (.Slice Sg (R3 e) Sg p) pos) env) (Z fv λx=>Z fe λy=>yG x y):=by
 intro A g ρ J s Q rm ok h;refine V2 (aA (hv A g ρ J s _ rm ok h) λa aB au ak x aQ al aV aD=>Xm (SD (aA (he A g au ak aB _ rm al aD) λb aX aM aL y bu aI bN aW=>SD ?_)));obtain⟨vs,j,rfl,rfl,hz,aW⟩:=aW;obtain⟨t,rfl⟩:=bN;have v1':=aV.mono bu;obtain⟨x,xs,n,hx,r⟩:=aI.dO (b:=Sn) v1' rfl;have hl:=cJ r;unfold big at hz;have ot:OK U g c aM aL {aX with heap:=aX.heap.push {cls:=.type "slice",data:=.fields #[.none,.int (j:Sj) t,.none]}}:=aI.grow λb o q=>Sp _ q;refine V4 (T:="tuple") (id:="tuple.__getitem__") ⟨_,Sp _ hx,rfl⟩ Xc.lookup ?_ rfl;refine fQ (lo:=0) (hi:=min j xs.size) (Sp _ hx) (Vh ..) .none (.int (j:Sj) t) ?_ (by rw[hl,UQ];exact yN [_] [] 0xff42405c05010000007c054 rfl hz) (λO z=>?_) ?_
 ·unfold Va;simp only[show ¬((1:Sj)<0) by decide,Xn,show ¬((j:Sj)<0) by exact λhh=>yF [_] [] 4028373585 rfl hh];congr 1;exact(XK _ _).elim (λbE=>Td (yZ [_,_] [_] 0xf103230511055 rfl (Int.min_le_left _ _) (Ue (yN [_,_] [] 65251905620 rfl bE))) (yZ [_,_] [_] 0xf303310500155 rfl (Tr _ _) (Int.min_eq_left (yZ [_,_] [] 65251914069 rfl bE)))) (λbE=>Td (yZ [_,_] [_] 0xf103230511055 rfl (Z2 _ _) (VX (yN [_,_] [] 65251905620 rfl bE))) (yZ [_,_] [_] 0xf303310500155 rfl (TT _ _) (Z3 (yZ [_,_] [] 65251914069 rfl bE))))
 ·refine cu.ext aQ (cu.ext bu (post (.bF Sn (vs.take j)) ot ?_ aW));rw[WF (by exact yN [_,_,_,_,_] [] 0xf43501450233202321054 rfl hl z (Tr _ _) (UH _ _))];exact v1'
 ·refine cu.ext aQ (cu.ext bu (jk ot (acc:=vs.take j) ?_ aW aX.toks));show ja _ _ ((xs.toList.drop 0).take (min j xs.size - 0));rw[List.drop_zero,Nat.sub_zero,<-Ux,kmk_take_min];exact r.take j
theorem Cv {e:SX}(hv:aU U k c VR (S3 value env) fv)(he:aU U k c VR (S3 e env) fe):
  aU U k c VR (S3 (.Subscript value (.Slice (R3 e) Sg Sg p) pos) env) (Z fv λx=>Z fe λy=>yH x y):=by
 intro A g ρ J s Q rm ok h;refine V2 (aA (hv A g ρ J s _ rm ok h) λa aB au ak x aQ al aV aD=>Xm (aA (he A g au ak aB _ rm al aD) λb aX aM aL y bu aI bN aW=>SD (SD ?_)));obtain⟨vs,j,rfl,rfl,hz,aW⟩:=aW;obtain⟨t,rfl⟩:=bN;have v1':=aV.mono bu;obtain⟨x,xs,n,hx,r⟩:=aI.dO (b:=Sn) v1' rfl;have hl:=cJ r;unfold big at hz;have ot:OK U g c aM aL {aX with heap:=aX.heap.push {cls:=.type "slice",data:=.fields #[.int (j:Sj) t,.none,.none]}}:=aI.grow λb o q=>Sp _ q;refine V4 (T:="tuple") (id:="tuple.__getitem__") ⟨_,Sp _ hx,rfl⟩ Xc.lookup ?_ rfl;refine fQ (lo:=min j xs.size) (hi:=xs.size) (Sp _ hx) (Vh ..) (.int (j:Sj) t) .none ?_ (by rw[hl,UQ];exact yN [_] [] 0xff42405c05010000007c054 rfl hz) (λz O=>?_) ?_
 ·unfold Va;simp only[show ¬((1:Sj)<0) by decide,Xn,show ¬((j:Sj)<0) by exact λhh=>yF [_] [] 4028373585 rfl hh];congr 1;exact(XK _ _).elim (λbE=>Td (yZ [_,_] [_] 0xf103230511055 rfl (Int.min_le_left _ _) (Ue (yN [_,_] [] 65251905620 rfl bE))) (yZ [_,_] [_] 0xf303310500155 rfl (Tr _ _) (Int.min_eq_left (yZ [_,_] [] 65251914069 rfl bE)))) (λbE=>Td (yZ [_,_] [_] 0xf103230511055 rfl (Z2 _ _) (VX (yN [_,_] [] 65251905620 rfl bE))) (yZ [_,_] [_] 0xf303310500155 rfl (TT _ _) (Z3 (yZ [_,_] [] 65251914069 rfl bE))))
 ·refine cu.ext aQ (cu.ext bu (post (.bF Sn (vs.drop j)) ot ?_ aW));have:vs.drop j=vs:=by
   by_cases q:j=0;·subst q;rfl
   ·have:vs.length=0:=by lia
    rw[U2.mp this,YF]
  rw[this];exact v1'
 ·refine cu.ext aQ (cu.ext bu (jk ot (acc:=vs.drop j) ?_ aW aX.toks));show ja _ _ ((xs.toList.drop (min j xs.size)).take (xs.size - min j xs.size));rw[WF (by rw[UL,Ux];exact S8 _),<-Ux,kmk_drop_min];exact r.drop j
end
end
section
section
variable{c:Cx}
noncomputable def lF (kvs:R4 (Sj×V)):WM V:=λJ Q=>AP J->∃a,J.hp a=Sg/\yg J a kvs (Q (.ref a))
theorem FV {Q:Sz->TD->Prop}(h:Q (.ref s.heap.objs.size) {s with heap:=s.heap.push {cls:=.type "dict",data:=.dict #[]}}):Tx M A newDict Q E s:=by
 simp only[newDict,newObj];exact Sb (wpAny_alloc (SD h))
theorem pR (ok:OK U g c ρ J s){D:SM}(P:bO U g c ρ D)(h2:@XS SH _ 2 D){acc:R4 (Sj×V)}(e:s.heap.get? D=R3 o)(r:OR U.prog U.w ρ (.dict acc ep) o)
   (h:lF acc J Q):cu U g c ρ VR Q (.ref D) s:=by
 obtain⟨a,ha,h⟩:=h ok.fin;obtain⟨ex,v,ok'⟩:=ok.adopt P h2 ha (so:=.dict acc ep) e r;exact⟨_,_,_,ex,ok',v,h ep⟩
theorem mL (prog:Yi)(w:ZX):JP prog w {cls:=.type "dict",data:=.dict #[]} [] 0:=⟨#[],⟨rfl,rfl,rfl⟩,rfl,λe he=>by simp at he,.nil,Tm⟩
theorem Cw :aU U k c VR (S3 (.Dict [] [] pos) env) (lF []):=by
 intro A g ρ J s Q rm ok h;refine wpAny_Dict_empty ?_;have P:=bO.fresh ok (cp s.heap);have ok':OK U g c ρ J {s with heap:=s.heap.push {cls:=.type "dict",data:=.dict #[]}}:=ok.grow λb o e=>Sp _ e;exact pR (acc:=[]) ok' P ok.two (To _ rfl) ⟨_,mL _ _,TK,λp hp=>Sw hp (Sy)⟩ h
def yI (x y:V):WM V:=λJ Q=>∃i,C4 (x=.int i) (-1000<=i) (i<=1000) (lF [(i,y)] J Q)
theorem Cy {ke ve:SX}(hk:aU U k c VR (S3 ke env) fk)(hv:aU U k c VR (S3 ve env) fv):aU U k c VR (S3 (.Dict [R3 ke] [ve] pos) env) (Z fk λx=>Z fv λy=>yI x y):=by
 intro A g ρ J s Q rm ok h;have P:=bO.fresh ok (cp s.heap);have eD:(s.heap.push {cls:=.type "dict",data:=.dict #[]}).get? s.heap.objs.size=R3 {cls:=.type "dict",data:=.dict #[]}:=To _ rfl;have Kn:OK U (gI g s.heap.objs.size {cls:=.type "dict",data:=.dict #[]}) c ρ J {s with heap:=s.heap.push {cls:=.type "dict",data:=.dict #[]}}:=OK.freeze (ok.grow λb o e=>Sp _ e) P eD;have two:=ok.two;refine wpAny_Dict_pairs (knd:=intKind U.prog U.w) (pairs:=[(S3 ke env,do let x <-S3 ve env;standAt pos;pure x)]) rfl (by simp) (by simp) ?_;generalize s.heap.objs.size=D at*;refine YQ (aA (hk A _ ρ J _ _ rm Kn h) λa aB au ak x aQ al aV aD=>?_);refine Sb (aA (hv A _ au ak aB _ rm al aD) λb aX aM aL y bu aI bN aW=>Sb (Ug (SD (evalPairs_nil ?_))));obtain⟨i,ex,z1,z2,aW⟩:=aW;subst ex;obtain⟨t,rfl⟩:=aV;obtain⟨ot,P3,e3⟩:=aI.gQ P;refine⟨[(i,b)],⟨isInt U.w U.prog i t,rfl,TK⟩,TS.mpr ⟨_,e3,(mL _ _).is⟩,λh' hD nF=>?_⟩;obtain⟨o',e',xO⟩:=TS.mp hD;obtain⟨ep,adC⟩:=JP.of xO;have tR:OK U g c aM aL {aX with heap:=h',toks:=aX.toks+1}:=ot.away P3 (λb o q e=>(nF.2 b q).trans e);exact cu.ext aQ (cu.ext bu (pR tR P3 two e' (acc:=[(i,y)]) ⟨_,adC,⟨⟨rfl,bN⟩,TK⟩,λp hp=>by rw[R8.mp hp];exact⟨z1,z2⟩⟩ aW))
noncomputable def Qp (f:Sj->WM α)(x:V):WM α:=λJ Q=>∃i,C4 (x=.int i) (-1000<=i) (i<=1000) (f i J Q)
noncomputable def Qq (x:V)(S:Src)(l:Si V->SH->Si V)(test:WM Tn)(fk fv:WM V):R4 V->R4 (Sj×V)->(Ad->Si SO)->(R4 (Sj×V)->(Ad->Si SO)->Prop)->Prop
 |[],acc,H,Q=>cM ⟨l Sg,H⟩ x=R3 S/\Q acc H
 |v::r,acc,H,Q=>cM ⟨l Sg,H⟩ x=R3 S/\test ⟨l (R3 v),H⟩ λb ak=>
  (b=Sn->fk ak λkk aL=>Qp (λi=>λaL (Q':Unit->St->Prop)=>fv aL λy cg=>Qq x S l test fk fv r (cY acc i y) cg.hp Q) kk aL (λO O=>True))/\(b=Sf->Qq x S l test fk fv r acc ak.hp Q)
def dcW (sh:Shape)(test:WM Tn)(fk fv:WM V)(x:V):WM (R4 (Sj×V)):=λJ Q=>∃S,C3 (cM J x=R3 S) S.fits (Qq x S (aY J sh) test fk fv S.items [] J.hp λacc H=>Q acc ⟨J.loc,H⟩)
theorem A4 {x:V}{S:Src}{l:Si V->SH->Si V}{acc:R4 (Sj×V)}{H:Ad->Si SO}{Q:R4 (Sj×V)->(Ad->Si SO)->Prop}(h:Qq x S l test fk fv vs acc H Q):cM ⟨l Sg,H⟩ x=R3 S:=by
 cases vs with
 |nil=>exact h.1
 |cons=>exact h.1
theorem FW {kx vx:SX}{x:Tj}{cl:R4 (Tj×SM)}{a:Sz}{S:Src}{D:SM}
  {Qa:R4 (Sj×V)->(Ad->Si SO)->Prop} 
  (rm:du k c A) (he:dJ env c) (ok:OK U g c ρ J s) (r:VR ρ xv a) (it:Ff a S 0 oI)
  (lC:scope.kind=.function) (sC:jg c scope.names cl sh) (hx:sh[0]? =R3 (x,Sg)) (h1: ∀i y,sh[i]? =R3 (y,Sg)->i=0)
  (ht: ∀C,aU U k (cj C c sh) BR (fU ifs (compEnvC scope cl C env)) test) (oY: ∀C,aU U k (cj C c sh) VR (S3 kx (compEnvC scope cl C env)) fk) (hev: ∀C,aU U k (cj C c sh) VR (S3 vx (compEnvC scope cl C env)) fv)
  (h:Qq xv S (aY J sh) test fk fv S.items [] J.hp Qa) (kg:I≠D) (PI:bO U (fF g c s) (cj C c sh) ρ I) (PD:bO U (fF g c s) (cj C c sh) ρ D) {uZ:SH} (hD:OR U.prog U.w ρ (.dict [] uZ) oD) (ok':OK U (gI (gI (fF g c s) D oD) I oI) (cj C c sh) ρ ⟨aY J sh Sg,J.hp⟩ s')
  (fin: ∀bG H acc ep oD s',Ext ρ bG->OK U (gI (fF g c s) D oD) (cj C c sh) bG ⟨aY J sh Sg,H⟩ s'->OR U.prog U.w bG (.dict acc ep) oD->Qa acc H->R (.ok .next) s'):
  T3 (Tc U.prog U.w) A (.compStart (.DictComp kx vx [⟨.Name x px,iter,ifs,0⟩] scope pos) 0 (.ref I) (.ref D) (compEnvC scope cl C env)) R s':=by
 have ee:=oV he lC sC C;have Jv: ∀{oD},bO U (gI (fF g c s) D oD) (cj C c sh) ρ I:=PI.lB (by rw[fP kg];exact PI.g);have hv0:(cj C c sh).vars[0]? =R3 (x,Loc.ns):=by unfold cj;dsimp only;rw[Sx,hx];rfl
 obtain⟨El,P0,eI⟩:=ok'.gQ Jv;have loop:T3 (Tc U.prog U.w) A (.compLoop (.DictComp kx vx [⟨.Name x px,iter,ifs,0⟩] scope pos) 0 (.ref I) (.ref D) (compEnvC scope cl C env)) R s':=by
  refine codeAny_compLoop_testsD (λn s'=>X6 λi bG H oD acc ep=>C4 (n+i=S.items.length) (It U (gI (fF g c s) D oD) (cj C c sh) ρ I a S i bG ⟨aY J sh Sg,H⟩ s') (OR U.prog U.w bG (.dict acc ep) oD) (Qq xv S (aY J sh) test fk fv (S.items.drop i) acc H Qa)) ?_ S.items.length
   ⟨0,ρ,J.hp,oD,[],uZ,rfl,⟨oI,Ext.refl _,ok',it⟩,hD,h⟩
  rintro n s' ⟨i,bG,H,oD,acc,ep,hn,hit,dP,h⟩;refine ly rm.hd Jv r hit (A4 h) (λu v o' aB hv ru nH vz=>?_) λhv aB pE=>?_
  ·rw[jK hv]at h;refine U0 (aA (dY (k:=k) ee hv0 A _ bG _ _ (λO bD=>bD=⟨aY J sh (R3 v),H⟩) _ u rm.cc nH ru (nI hx h1 v)) (λO aX aM aL O dM aI O aW=>?_));subst aW;refine aA (ht C A _ aM _ aX _ rm.cc aI h.2) (λb bR b9 cg b' hH bI gB cX=>?_);cases(show b'=b from gB);have Eo:=(hit.ext.trans dM).trans hH;obtain⟨m,hm,sx⟩:=pH hn hv;have dP:=(dP.mono dM).mono hH;cases b
   ·rw[Sq (by decide)];exact⟨m,hm,i+1,b9,cg.hp,oD,acc,ep,sx,⟨o',Eo,ok.back (lD PD PI kg) Eo bI,vz⟩,dP,cX.2 rfl⟩
   ·rw[Sv rfl];refine aA (oY C A _ b9 _ bR _ rm.cc bI (cX.1 rfl)) (λkv gA gq gG kk nJ dK Ft gR=>?_);obtain⟨ki,ek,hk1,hk2,gR⟩:=gR;subst ek;obtain⟨tk4,rfl⟩:=Ft;refine aA (hev C A _ gq _ gA _ rm.cc dK gR) (λvv hP pP sE y Om nK adD rx=>?_);have ex5:=(Eo.trans nJ).trans Om;obtain⟨kvs,adE,vB,On⟩:=(dP.mono nJ).mono Om;have hD4:hP.heap.DictOf (intKind U.prog U.w) D kvs:=TS.mpr ⟨oD,nK.tS PD PI kg,adE.is⟩;refine wpAny_dictSet_pairs (isInt U.w U.prog ki tk4) hD4 (λh5 hD5 Fu=>?_) (eQ hD4 vB On);obtain⟨Qe,e5,hd5⟩:=TS.mp hD5;obtain⟨ep',aba⟩:=JP.of hd5;exact⟨m,hm,i+1,pP,sE.hp,Qe,cY acc ki y,ep',sx,⟨o',ex5,ok.back (lD PD PI kg) ex5 (nK.acc (s':={hP with heap:=h5,toks:=hP.toks+1}) PD PI kg Fu e5),vz⟩,⟨_,aba,tG vB ki adD,jG On ⟨hk1,hk2⟩ y⟩,rx⟩
  ·rw[gX hv]at h;exact fin bG H acc ep oD aB hit.ext pE dP h.2
 exact codeAny_compStart_dict loop (pyIter_self eI it (oW r (A4 h)) loop)
theorem Qr {kx vx:SX}{x:Tj}{cl:R4 (Tj×SM)}(he:dJ env c)(K:pN env c scope cl sh x iter)
  (hx:aU U k c VR (S3 iter env) fx) (ht: ∀C,aU U k (cj C c sh) BR (fU ifs (compEnvC scope cl C env)) test) (oY: ∀C,aU U k (cj C c sh) VR (S3 kx (compEnvC scope cl C env)) fk) (hev: ∀C,aU U k (cj C c sh) VR (S3 vx (compEnvC scope cl C env)) fv):
  aU U k c VR (S3 (.DictComp kx vx [⟨.Name x px,iter,ifs,0⟩] scope pos) env) (Z fx λx=>Z (dcW sh test fk fv x) lF):=by
 intro A g ρ J s Q rm ok q;rw[arm_eval_DictComp];refine WL (use:=Sg) (cl:=cl) rfl K.hs K.Fv K.kind K.names (aA (hx A g ρ J s _ rm ok q) λa aB au ak xv aQ al aV aD=>?_);obtain⟨S,hS,hf,aD⟩:=aD;refine gp al aV hS hf λoI hit oU=>FV (kJ al oU rfl K.cell K.kind K.sC K.d1 K.d2 λI D C s' kg hDC h2D fD fC PI PD ok'=>?_);refine FW rm he al aV hit K.kind K.sC K.hx K.h1 ht oY hev aD kg PI PD ⟨_,mL _ _,TK,λp hp=>jY hp⟩ ok' λbG H acc ep oD om ex nH dP hq=>?_;obtain⟨Kn,Ep,PC,eD,m,jL⟩:=pM al fD fC PD ex nH;obtain⟨oC,es,ep',eC,r⟩:=id jL;refine⟨m,jL,λh' hs=>?_⟩;obtain⟨aM,aL,v,dM,aI,bN,tT⟩:=pR (Kn.freeze PC eC) (Ep.lB (by rw[fP hDC];exact Ep.g)) h2D eD dP hq;obtain⟨ot,PC3,eC3⟩:=aI.gQ PC;exact⟨aM,aL,v,(aQ.trans ex).trans dM,ot.away PC3 (λb o z e=>(hs.2 b z).trans e),bN,tT⟩
end
end
section
section
variable{c:Cx}
noncomputable def sF (h:We)(L:SM):R4 (SM×WW):=(TL h.objs.size).filterMap λb=>if b=L then Sg else(h.get? b).map λo=>(b,o)
theorem pS {L b:SM}:(b,o)∈sF h L↔b≠L/\h.get? b=R3 o:=by
 unfold sF;rw[UD];constructor
 ·rintro⟨x,_,e⟩;split at e;·exact c6 e
  ·rename_i q;obtain⟨o',e1,e2⟩:=SR.mp e;cases e2;exact⟨q,e1⟩
 ·rintro⟨q,e⟩;exact⟨b,Uw.mpr (TA e),by rw[Sq q,e];rfl⟩
noncomputable def mM:We:={objs:=#[]}
theorem kL (b:SM):mM.get? b=Sg:=by unfold Heap.get? mM;simp
theorem Kz {L:SM}{m:Tj->Si Sz}(hn:h.Ns L m):Fr mM L h m:=⟨hn,(λb o e=>by rw[kL]at e;exact c6 e),S7 _⟩
theorem Cz {L:SM}:News mM L h (sF h L):=λp hp=>by
 obtain⟨b,o⟩:=p;obtain⟨q,e⟩:=pS.mp hp;exact⟨e,q,kL _⟩
theorem OK.abb (h:OK U g c ρ J s)(k: ∀b o,b≠c.L->s.heap.get? b=R3 o->s'.heap.get? b=R3 o){m:Tj->Si Sz}(hm:s.heap.Ns c.L m)(hn:s'.heap.Ns c.L m)(hg:autoParam (s'.gens=s.gens) br)(ho:autoParam (s'.os=s.os) br):OK U g c ρ J s' where
 keep:=λb o q=>k b o (λz=>by replace q:=h.eO▸z▸q;exact nomatch q) (h.keep b o q)
 cI:=λb o q=>(h.cI b o q).keep λo'=>k b o' (λz=>by replace q:=h.eG▸z▸q;exact nomatch q)
 k7:=h.k7
 hp:=λa so q=>by obtain⟨x,o,p,q',r⟩:=h.hp a so q;exact⟨x,o,p,k x o (h.db a x p) q',r⟩
 j9:=h.j9
 inj:=h.inj
 low:=h.low
 eE:=h.eE
 dr:=h.dr
 db:=h.db
 eF:=h.eF
 eO:=h.eO
 eG:=h.eG
 eZ:=h.eZ
 dT:=h.dT
 apart:=h.apart
 names:=h.names
 ns:=⟨m,hn,by
  obtain⟨m',⟨o1,es1,ep1,a1,b1,_,d1⟩,q⟩:=h.ns;obtain⟨o2,es2,ep2,a2,b2,_,d2⟩:=hm;have em:m'=m:=by replace a2:=a1▸a2;obtain rfl:=R7 a2;replace b2:=b1▸b2;cases b2;funext n;rw[<-d1 n,<-d2 n]
  rw[<-em];exact q⟩
 cells:=λi y ob d e=>by obtain⟨cv,⟨o,p,r⟩,q⟩:=h.cells i y ob d e;exact⟨cv,⟨o,k _ o (h.eZ i y ob d e) p,r⟩,q⟩
 im:=λx b vs e=>by obtain⟨xs,n,p,q⟩:=h.im x b vs e;exact⟨xs,n,k x _ (λz=>by replace e:=h.kB▸z▸e;cases e) p,q⟩
 k9:=h.k9
 kA:=h.kA
 kB:=h.kB
 mC:=h.mC
 gens:=hg.trans h.gens
 os:=ho.trans h.os
def jN (S:Src):Prop:=match S with |.seq Sf _=>True |.dict _ _=>True |_=>False
theorem vK {x:V}{a:Sz}{S:Src}{Q:R4 Sz->TD->Prop}(hh:A.handled=Sg)(ok:OK U g c ρ J s)(r:VR ρ x a)(e:cM J x=R3 S)(hf:S.fits)(hs:jN S)
  (h: ∀h' tk acc,(∀b o,s.heap.get? b=R3 o->h'.get? b=R3 o)->ja ρ S.items acc->Q acc {s with heap:=h',toks:=tk}):Tx (Tc U.prog U.w) A (collect a) Q E s:=by
 cases S with
 |seq b vs=>
  cases b
  ·obtain⟨x,xs,n,hx,rr⟩:=ok.dO r (jf e);have hl:=cJ rr;unfold Src.fits big at hf;exact wpAny_collect_seq x (.inl rfl) hx rfl rfl (λh' hk=>h h' s.toks xs.toList hk rr) (by rw[hl,UQ];lia)
  ·exact hs.elim
 |dict kvs ep=>
  obtain⟨ad,rfl,e0⟩:=gW e;obtain⟨x,aF,-,hD,rr,hS⟩:=ok.oQ r e0;obtain⟨FX,hD2,rr2,Jw⟩: ∃FX,s.heap.DictOf (intKind U.prog U.w) x FX/\F2 (PR ρ) kvs FX/\∀p∈kvs,-1000<=p.1/\p.1<=1000:=by
   cases ok.gm r e0 with
   |mk _ FX _ hD2 rr2 Jw _=>exact⟨FX,hD2,rr2,Jw⟩
  have hlen:=tM hD2 rr2 Jw;have hl:=rr.len;have hl2:=rr2.len;refine kdu_collect (kdl_dict (knd:=intKind U.prog U.w) (kvs:=aF) (ep:=ep) hS) hh hD (by rw[UQ];exact yN [_,_,_] [] 0xf213220527d13c15010000007c054 rfl hlen hl hl2) (λh' tk acc hk dP=>h h' tk acc.toList hk ?_);obtain⟨ha1,ha2⟩:=dP;refine Ok (by rw[Ux,ha1,hl];unfold Src.items;rw[Sa]) λi y v q1 q2=>?_;unfold Src.items at q1;replace q1:=(Sx)▸q1;cases z:kvs[i]? with
  |none=>replace q1:=z▸q1;cases q1
  |some p=>replace q1:=z▸q1;obtain rfl:=R7 q1;replace q2:=(T4)▸q2;obtain⟨kk,xx,e3,e4⟩:=ha2 i v q2;obtain⟨p',e5,e6,_⟩:=rr.get z;replace e5:=e3▸e5;obtain rfl:=R7 e5;have e6:p.1=kk:=e6;cases v<;>simp[intKind,YT]at e4;exact⟨_,by rw[e6,e4]⟩
 |kH p q=>exact hs.elim
noncomputable def intOf:Sz->Sj |.int n _=>n |_=>0
theorem KA {ns:R4 Sj}: ∀{vs:R4 Sz},ja ρ (ns.map V.int) vs->vs.map intOf=ns/\∀v∈vs,∃t,v=.int (intOf v) t:=by
 induction ns with
 |nil=>
  intro vs h;cases vs with
  |nil=>exact⟨rfl,λO h=>(jY h)⟩
  |cons=>exact h.elim
 |cons n ns ih=>
  intro vs h;cases vs with
  |nil=>exact h.elim
  |cons v vs=>
   obtain⟨⟨t,h⟩,r⟩:=h;subst h;obtain⟨a,b⟩:=ih r;refine⟨by rw[Tq,a];rfl,λv hv=>?_⟩;rcases SZ.mp hv with rfl |hv;·exact⟨t,rfl⟩
   ·exact b v hv
theorem KB {vs:R4 Sz}(h: ∀v∈vs,∃t,v=.int (intOf v) t):ja ρ ((vs.map intOf).map V.int) vs:=by
 induction vs with
 |nil=>exact TK
 |cons v vs ih=>exact⟨h v Se,ih λv hv=>h v (SQ _ hv)⟩
theorem ry {κ:Sj->Sj}{vs:R4 Sz}:((vs.map intOf).map κ).zip vs=vs.map λv=>(κ (intOf v),v):=by
 induction vs with
 |nil=>rfl
 |cons v vs ih=>exact SU (_:: ·) ih
theorem sG {f:Sz}{kw:R4 (Tj×Sz)}{S:Src}{x:V}{a:Sz}{ns:R4 Sj}(κ:Sj->Sj)(hm:ji mk)(hh:A.handled=Sg)(ok:OK U g c ρ J s)(r:VR ρ x a)(e:cM J x=R3 S)
  (hf:S.fits) (hs:jN S) (hit:S.items=ns.map V.int) (Qs:ns.length<64)
  (ha1:argsOk "sorted" ⟨[a],kw⟩) (ha2: ∀x,argsOk "list.sort" ⟨[.ref x],kw⟩) (ht: ∀x,Builtin.«list.sort» ⟨[.ref x],kw⟩=ksk_tree x f b)
  (turn: ∀n t,n∈ns->∀(h:We) (tk:SH),(∀b o,b≠c.L->s.heap.get? b=R3 o->h.get? b=R3 o)->Tx (Tc U.prog U.w) A.in1.in1 (call f [.int n t])
   (λv aX=>∃h' FY t',aX={s with heap:=h',toks:=FY}/\v=.int (κ n) t'/\∀b o,h.get? b=R3 o->h'.get? b=R3 o) (λO O=>False) {s with heap:=h,toks:=tk})
  (fin: ∀out:R4 Sj,out.Perm ns->out.Pairwise (λp q=>if b then κ q<=κ p else κ p<=κ q)->mk (out.map V.int) J Q):
  Tx (Tc U.prog U.w) A (call (.builtin "sorted") [a] kw) (cu U g c ρ VR Q) E s:=by
 refine call_function_entry_kw kind_sorted plain_sorted entry_sorted ha1 ?_;unfold Builtin.«sorted»;refine Sb (m:=checkCount "sorted" 1 1 _) (SD ?_);refine Sb (vK (A:=A.in1) hh ok r e hf hs λh1 tk acc hk dP=>?_);rw[hit]at dP;obtain⟨jL,hints⟩:=KA dP;have Fb:acc.length=ns.length:=by rw[<-jL,Sa]
 refine Sb (wpAny_newList ?_ (by rw[Fb,UQ];exact yN [_] [] 0xf402c0a5010000007c054 rfl Qs));have pE:OK U g c ρ J {s with heap:=h1.push {cls:=.type "list",data:=.seq acc.toArray},toks:=tk}:=ok.grow λb o q=>Sp _ (hk b o q);have hDD:(h1.push {cls:=.type "list",data:=.seq acc.toArray}).get? h1.objs.size=R3 (seqObj "list" acc.toArray 0):=To _ rfl;obtain⟨m,Er,_⟩:=ok.ns;have Oh:(h1.push {cls:=.type "list",data:=.seq acc.toArray}).Ns c.L m:=Er.keeps λb o q=>Sp _ (hk b o q);have adF:c.L≠h1.objs.size:=by obtain⟨o,es,ep,ho,_⟩:=Er;exact Ur (TA (hk _ _ ho))
 have oU:s.heap.get? h1.objs.size=Sg:=by
  cases q:s.heap.get? h1.objs.size with
  |none=>rfl
  |some o=>exact Sw (TA (hk _ _ q)) (Uq _)
 have PD:=bO.fresh ok oU;have two:@XS SH _ 2 h1.objs.size:=(OK.grow (s':={s with heap:=h1,toks:=tk}) ok hk).two;refine Sb (T7 (wpAny_call_entry_kw slot_list_sort ⟨_,hDD,rfl⟩ entry_list_sort ?body (ha2 _)));case body=>
  show Tx (Tc U.prog U.w) A.in1.in1 (Builtin.«list.sort» ⟨[.ref h1.objs.size],kw⟩) _ _ _;rw[ht];have Oo: ∀{h:We} {own:R4 (SM×WW)},News mM c.L h (sF h1 c.L++own)->∀b o,b≠c.L->s.heap.get? b=R3 o->h.get? b=R3 o:=λN b o q e=>(N (b,o) (Su _ (pS.mpr ⟨q,hk b o e⟩))).1;refine ksk_sort (s:={s with heap:=h1.push {cls:=.type "list",data:=.seq acc.toArray},toks:=tk}) (L:=c.L) (m:=m) (news:=sF h1 c.L) (kz:=ns.map κ) (vs:=acc) (Kz Oh) (News.grown Cz λb o q=>Sp _ q) hDD (TH adF) (kL _)
   (λp hp=>by obtain⟨b,o⟩:=p;exact Ur (TA (pS.mp hp).2)) (by rw[Sa,Fb]) (by rw[Fb];exact Qs) (λi v kk hv hkk h FY own F' N'=>?_) (λh' FY out c' F' N' ko=>?_)
  ·obtain⟨tv,hvt⟩:=hints v (R9 hv);have hni:ns[i]? =R3 (intOf v):=by rw[<-jL,Sx,hv];rfl
   replace hkk:=hni▸(Sx)▸hkk;obtain rfl:=R7 hkk;rw[hvt];refine T9 (turn (intOf v) tv (R9 hni) h FY (Oo N')) (λv' aX h2=>?_) λO O z=>z;obtain⟨h'',abd,t',rfl,rfl,hkk⟩:=h2;exact KskEnd.intro (F'.keeps hkk) (News.grown N' hkk) λp hp=>hp
  ·refine⟨_,rfl,SD ⟨_,rfl,?_⟩⟩;have N'':News mM c.L h' (sF h1 c.L++[]):=λp hp=>by rw[Tw]at hp;exact N' p (SQ _ hp)
   have nH:OK U g c ρ J {s with heap:=h',toks:=FY}:=ok.abb (Oo N'') Er F'.ns;obtain⟨ps,CB,tU,FZ⟩:=ko;have hz:=ry (κ:=κ) (vs:=acc);rw[jL]at hz;rw[hz]at CB;have Qt: ∀p∈ps,p.1=κ (intOf p.2)/\p.2∈acc:=λp hp=>by obtain⟨v,hv,rfl⟩:=SL.mp (CB.mem_iff.mp hp);exact⟨rfl,hv⟩
   have hvs:ja ρ ((out.toList.map intOf).map V.int) out.toList:=KB λv hv=>by rw[tU]at hv;obtain⟨p,hp,rfl⟩:=SL.mp hv;exact hints _ (Qt p hp).2
   refine hm U g c ρ J {s with heap:=h',toks:=FY} h1.objs.size _ out c' Q nH PD two (N' _ Se).1 hvs (fin _ ?_ ?_)
   ·rw[tU,Tg];have:=CB.map (intOf ∘ Prod.snd);rw[Tg]at this;refine this.trans ?_;refine jL▸?_;exact List.Perm.of_eq (TI λv O=>rfl)
   ·rw[tU,Tg];refine Uv.mpr (List.Pairwise.imp_of_mem (λ{p q} hp hq z=>?_) FZ);have e1:=(Qt p hp).1;have e2:=(Qt q hq).1;cases b
    ·rw[Sq (by decide)]at z ⊢;rw[e1,e2]at z;exact z
    ·rw[Sv rfl]at z ⊢;rw[e1,e2]at z;exact z
end
end
section
section
variable{c:Cx}
def jm (mk:R4 V->WM V)(x:V):WM V:=λJ Q=>X2 λS (ns:R4 Sj)=>C6 (cM J x=R3 S) (jN S) S.fits (S.items=ns.map V.int) (ns.length<64) (∀out:R4 Sj,out.Perm ns->out.Pairwise (λp q=>(p.natAbs:Sj)<=(q.natAbs:Sj))->mk (out.map V.int) J Q)
theorem pT {e f:SX}{kp:UM}(hm:ji mk)(hf:aU U k c VR (S3 func env) (ae (.glob (.builtin "sorted"))))(hx:aU U k c VR (S3 e env) fx)(hk:aU U k c VR (S3 f env) (ae (.glob (.builtin "abs"))))
  (he:starEach [e] env=(Sf,S3 e env)::starEach [] env)
  (hc:S3 (.Call func [e] [⟨R3 "key",f,kp⟩] pos) env=(do callWith pos (<-S3 func env) [] (backTo pos (starEach [e] env)) (backToKw pos (keywordEach [⟨R3 "key",f,kp⟩] env)))):
  aU U k c VR (S3 (.Call func [e] [⟨R3 "key",f,kp⟩] pos) env) (Z fx λx=>jm mk x):=by
 intro A g ρ J s Q rm ok q;refine hc▸?_;refine Sb (aA (hf A g ρ J s (λf bD=>f=.glob (.builtin "sorted")/\Z fx (λx=>jm mk x) bD Q) rm ok ⟨rfl,q⟩) λf' aB au ak x aQ al aV ⟨mD,aD⟩=>?_);subst mD;cases(show f'=_ from aV);refine callWith_kw ?_ (SU _ he) (he▸rfl);refine he▸?_;refine Wg (aA (hx A g au ak aB _ rm al aD) λa aX aM aL xv bu aI bN aW=>WB (kws_cons (aA (hk A g aM aL aX (λf bD=>f=.glob (.builtin "abs")/\jm mk xv bD Q) rm aI ⟨rfl,aW⟩) λb bR b9 cg y c7 bI c9 ⟨hy,cX⟩=>kws_nil ?_)));subst hy;cases(show b=_ from c9);obtain⟨S,ns,hS,hsd,J6,hit,Qs,Qu⟩:=cX;refine cH (sG (b:=Sf) (λn=>(n.natAbs:Sj)) hm rm.hd bI (bN.mono c7) hS J6 hsd hit Qs (ksk_s1 _ _) (λx=>ksk_l1 _ _) (λx=>ksk_t4 _ _) (λn t hn h tk F0=>?_) (λout hp sH=>Qu out hp (by simpa using sH))) λv gA p=>((p.ext c7).ext bu).ext aQ;refine Zu λu FY=>⟨h,FY,u,rfl,?_,λO O z=>z⟩;rw[yA]
def F3 (i:SH)(x:V):WM V:=λJ Q=>X3 λa kvs v=>C4 (x=.ref a) (J.hp a=R3 (.bB kvs)) (bC kvs i=R3 v) (Q v J)
theorem F4 {q:UM}(hn:name=nm i)(hi:i<27)(hv:aU U k c VR (S3 value env) fv)(yh: ∀o i,subscripted (.Constant (.str name) n q) Sf o i=operate [o,i] (getItem o i)):
  aU U k c VR (S3 (.Subscript value (.Constant (.str name) n q) pos) env) (Z fv λx=>F3 i x):=by
 subst hn;intro A g ρ J s Q rm ok h;refine V2 (aA (hv A g ρ J s _ rm ok h) λa aB au ak x aQ al aV aD=>VK ?_);obtain⟨_,kvs,v,ex,e,jZ,aD⟩:=aD;subst ex;have nH:=al.tok (aB.toks+1);obtain⟨x,aF,qx,hD,r,hS⟩:=nH.EH aV e;obtain⟨v',hq,rv⟩:=(yk r i hi).get jZ;refine V4 (id:="dict.__getitem__") hD.typeIs Yf.lookup ?_ (yh _ _);exact Yp (isS U.w U.prog (nm i) _) hD.mapOf hq (cu.ext aQ (post v (nH.tok _) rv aD))
def F5 (i:SH)(x v:V):WM Unit:=λJ Q=>X2 λa kvs=>C3 (x=.ref a) (J.hp a=R3 (.bB kvs)) (Q () (J.eM a (.bB (cY kvs i v))))
theorem tV {o:SX}{q:UM}(hn:name=nm i)(hi:i<27)(hv:aU U k c VR (S3 value env) fv)(ho:aU U k c VR (S3 o env) fo)
  (hs:swapsWith value (R3 (.Subscript o (.Constant (.str name) n q) p)) pos.line env=pure Sf):
  aU U k c FR (Vu (.Assign [.Subscript o (.Constant (.str name) n q) p] value pos) env) (Z fv λv=>Z fo λx=>Z (F5 i x v) λO=>ae .next):=by
 subst hn;intro A g ρ J s Q rm ok h;refine Zq (aA (hv A g ρ J s _ rm ok h) λa aB au ak x aQ al aV aD=>aA (ho A g au ak aB _ rm al aD) λb aX aM aL y bu aI bN aW=>VK ?_) hs;obtain⟨ad,kvs,ex,e,aW⟩:=aW;subst ex;have ot:=aI.tok (aX.toks+1);obtain⟨y,aF,qx,hD,r,hS⟩:=ot.EH bN e;obtain⟨od,hod,Qv⟩:=TS.mp hD;refine wpAny_setItem_pairs (isS U.w U.prog (nm i) _) hD (λh' xP nF=>?_) (SJ (jd Qv r) (SJ (by decide) yb));obtain⟨od',adG,adH⟩:=TS.mp xP;have tR:OK U g c aM (aL.eM ad (.bB (cY kvs i x))) {aX with heap:=h',toks:=aX.toks+1+1}:=ot.JS (s':={aX with heap:=h',toks:=aX.toks+1+1}) qx (so:=.bB (cY kvs i x)) ⟨_,adH,yl r hi (aV.mono bu)⟩ adG nF;exact⟨aM,_,.next,aQ.trans bu,tR,rfl,aW⟩
def A5 (kvs:R4 (SH×V)):WM V:=pB (.bB kvs)
theorem yJ {n1 n2:Tj}{m1 m2:SH}{i1 i2:SH}{f1:WM V}(h1:n1=nm i1)(h2:n2=nm i2)(l1:i1<27)(l2:i2<27)(cF:i1≠i2)(s1:aU U k c VR (S3 e1 env) f1)(s2:aU U k c VR (S3 e2 env) f2):
  aU U k c VR (S3 (.Dict [R3 (.Constant (.str n1) m1 q1),R3 (.Constant (.str n2) m2 q2)] [e1,e2] pos) env) (Z f1 λx=>Z f2 λy=>A5 [(i1,x),(i2,y)]):=by
 subst h1 h2;intro A g ρ J s Q rm ok h;have P:=bO.fresh ok (cp s.heap);have eD:(s.heap.push {cls:=.type "dict",data:=.dict #[]}).get? s.heap.objs.size=R3 {cls:=.type "dict",data:=.dict #[]}:=To _ rfl;have Kn:OK U (gI g s.heap.objs.size {cls:=.type "dict",data:=.dict #[]}) c ρ J {s with heap:=s.heap.push {cls:=.type "dict",data:=.dict #[]}}:=OK.freeze (ok.grow λb o e=>Sp _ e) P eD;have two:=ok.two;refine wpAny_Dict_pairs (knd:=PySem.strKind U.prog U.w) (pairs:=[(S3 (.Constant (.str (nm i1)) m1 q1) env,do let x <-S3 e1 env;standAt pos;pure x),(S3 (.Constant (.str (nm i2)) m2 q2) env,do let x <-S3 e2 env;standAt pos;pure x)]) rfl (by simp) (by simp) ?_;generalize s.heap.objs.size=D at*;refine YQ (VK ?_);refine Sb (aA (s1 A _ ρ J _ _ rm (Kn.tok _) h) λa aB au ak x aQ al aV aD=>Sb (Ug (SD ?_)));refine YQ (VK ?_);refine Sb (aA (s2 A _ au ak _ _ rm (al.tok _) aD) λb aX aM aL y bu aI bN aW=>Sb (Ug (SD (evalPairs_nil ?_))));obtain⟨ot,P3,e3⟩:=aI.gQ P;have adI:Obj.IsDictOf (PySem.strKind U.prog U.w) {cls:=.type "dict",data:=.dict #[]} []:=⟨#[],0,⟨rfl,rfl,rfl⟩,rfl,λe he=>by simp at he,.nil,Tm⟩;refine⟨[(nm i1,a),(nm i2,b)],⟨isS U.w U.prog _ _,rfl,isS U.w U.prog _ _,rfl,TK⟩,TS.mpr ⟨_,e3,adI⟩,λh' hD nF=>?_⟩;obtain⟨o',e',xO⟩:=TS.mp hD;have tR:OK U g c aM aL {aX with heap:=h',toks:=aX.toks+2}:=ot.away P3 (λb o q e=>(nF.2 b q).trans e);obtain⟨ad,ha,hq⟩:=aW tR.fin;have hnn:nm i1≠nm i2:=λz=>cF (tN i1 l1 i2 l2 z);have hmg:merged [] [(nm i1,a),(nm i2,b)]=[(nm i1,a),(nm i2,b)]:=by simp[merged,stored,hnn]
 rw[hmg]at xO;obtain⟨ex,v,KC⟩:=tR.adopt P3 two ha (so:=.bB [(i1,x),(i2,y)]) e' ⟨_,xO,⟨rfl,l1,aV.mono bu⟩,⟨rfl,l2,bN⟩,TK⟩;exact⟨_,_,_,(aQ.trans bu).trans ex,KC,v,hq⟩
end
end
section
section
variable{c:Cx}
noncomputable def F6 (x:V)(S:Src)(elt:WM V):R4 V->R4 V->St->(R4 V->St->Prop)->Prop
 |[],acc,J,Q=>cM J x=R3 S/\Q acc J
 |u::r,acc,J,Q=>cM J x=R3 S/\elt (J.mB 1 u) λy aL=>F6 x S elt r (acc++[y]) aL Q
noncomputable def CC (x:V)(S:Src)(f2:WM V)(elt:WM V):R4 V->R4 V->St->(R4 V->St->Prop)->Prop
 |[],acc,J,Q=>cM J x=R3 S/\Q acc J
 |v::r,acc,J,Q=>cM J x=R3 S/\acc.length<=big/\f2 (J.mB 0 v) λx2 ak=>∃S2,C4 (cM ak x2=R3 S2) S2.fits (S2.items.length<=big) (F6 x2 S2 elt S2.items acc ak λvE aL=>CC x S f2 elt r vE aL Q)
def Qw (sh:Shape)(f2 elt:WM V)(x:V):WM (R4 V):=λJ Q=>∃S,C3 (cM J x=R3 S) S.fits (CC x S f2 elt S.items [] ⟨aY J sh Sg,J.hp⟩ λacc bD=>Q acc ⟨J.loc,bD.hp⟩)
theorem F7 {x:V}{S:Src}{acc:R4 V}{Q:R4 V->St->Prop}(h:F6 x S elt vs acc J Q):cM J x=R3 S:=by
 cases vs with
 |nil=>exact h.1
 |cons=>exact h.1
theorem vL {x:V}{S:Src}{acc:R4 V}{Q:R4 V->St->Prop}(h:CC x S f2 elt vs acc J Q):cM J x=R3 S:=by
 cases vs with
 |nil=>exact h.1
 |cons=>exact h.1
theorem j5 {elt t1 t2:SX}{acc:Sz}(I:SH->TD->Prop)
  (turn: ∀n s,I n s->Tx (Tc prog w) A (pyNext it) (λr aB=>match r with
   |none=>R (.ok .next) aB
   |some v=>Tx (Tc prog w) A (assign t2 env v) (λO aX=>Tx (Tc prog w) A (S3 elt env) (λx gA=>
       Tx (Tc prog w) A (call (.builtin "list.append") [acc,x]) (λO hP=>∃m,m<n/\I m hP) (λO O=>False) gA) (λO O=>False) aX) (λO O=>False) aB) (λO O=>False) s)
  (n:SH) (h:I n s) (ht: ∀v,letOwnedTupleGo t2 it v=pure ()):
  T3 (Tc prog w) A (.compLoop (.ListComp elt [⟨t1,i1,[],0⟩,⟨t2,i2,[],0⟩] scope pos) 1 it acc env) R s:=by
 refine codeAny_loop rfl I (λn s hI=>?_) n h;show Tx _ A ((compTurn (.ListComp elt [⟨t1,i1,[],0⟩,⟨t2,i2,[],0⟩] scope pos) 1 it acc env).onRaise (λx=>do noteFrame x env;theTreesLotGoes x)) _ _ s;refine wpAny_noted ?_;have e:compTurn (.ListComp elt [⟨t1,i1,[],0⟩,⟨t2,i2,[],0⟩] scope pos) 1 it acc env=(do
   standAt i2.pos
   match <-pyNext it with
   |none=>pure (.done .next)
   |some v=>
    letOwnedTupleGo t2 it v
    assign t2 env v
    (do let _ <-call (.builtin "list.append") [acc,<-S3 elt env])
    again (.compLoop (.ListComp elt [⟨t1,i1,[],0⟩,⟨t2,i2,[],0⟩] scope pos) 1 it acc env)):=by rfl
 refine e▸?_;refine Sb (Ug (Sb (T9 (turn n s hI) (λr aB aD=>?_) λO O h'=>h'.elim)));cases r with
 |none=>exact SD aD
 |some v=>refine Sb (Vw (ht v) ?_);refine Sb (T9 aD (λO aX aW=>?_) λO O h'=>h'.elim);exact Sb (Sb (T9 aW (λx gA gR=>Sb (T9 gR (λO hP rx=>SD (SD ⟨rfl,rx⟩)) λO O h'=>h'.elim)) λO O h'=>h'.elim))
theorem j6 {elt t1 t2:SX}{acc:Sz}(I:SH->TD->Prop)
  (turn: ∀n s,I n s->Tx (Tc prog w) A (pyNext it) (λr aB=>match r with
   |none=>R (.ok .next) aB
   |some v=>Tx (Tc prog w) A (assign t1 env v) (λO aX=>Tx (Tc prog w) A (S3 i2 env) (λx bR=>Tx (Tc prog w) A (pyIter x) (λit2 gA=>
     T3 (Tc prog w) (A.mark Sg) (.compStart (.ListComp elt [⟨t1,i1,[],0⟩,⟨t2,i2,[],0⟩] scope pos) 1 it2 acc env) (λr hP=>match r with |.ok _=>∃m,m<n/\I m hP |.error _=>False) gA)
      (λO O=>False) bR) (λO O=>False) aX) (λO O=>False) aB) (λO O=>False) s)
  (n:SH) (h:I n s) (ht: ∀v,letOwnedTupleGo t1 it v=pure ()) (hs: ∀x,foldedSetIterable i2 env x=pure x):
  T3 (Tc prog w) A (.compLoop (.ListComp elt [⟨t1,i1,[],0⟩,⟨t2,i2,[],0⟩] scope pos) 0 it acc env) R s:=by
 refine codeAny_loop rfl I (λn s hI=>?_) n h;show Tx _ A ((compTurn (.ListComp elt [⟨t1,i1,[],0⟩,⟨t2,i2,[],0⟩] scope pos) 0 it acc env).onRaise (λx=>do noteFrame x env;theTreesLotGoes x)) _ _ s;refine wpAny_noted ?_;have e:compTurn (.ListComp elt [⟨t1,i1,[],0⟩,⟨t2,i2,[],0⟩] scope pos) 0 it acc env=(do
   standAt i1.pos
   match <-pyNext it with
   |none=>pure (.done .next)
   |some v=>
    letOwnedTupleGo t1 it v
    assign t1 env v
    let x <-S3 i2 env
    standAt i2.pos
    let x <-foldedSetIterable i2 env x;let _ <-runOwn (.compStart (.ListComp elt [⟨t1,i1,[],0⟩,⟨t2,i2,[],0⟩] scope pos) 1 (<-holding [x] (pyIter x)) acc env) env
    again (.compLoop (.ListComp elt [⟨t1,i1,[],0⟩,⟨t2,i2,[],0⟩] scope pos) 0 it acc env)):=by rfl
 refine e▸?_;refine Sb (Ug (Sb (T9 (turn n s hI) (λr aB aD=>?_) λO O h'=>h'.elim)));cases r with
 |none=>exact SD aD
 |some v=>
  refine Sb (Vw (ht v) ?_);refine Sb (T9 aD (λO aX aW=>?_) λO O h'=>h'.elim);refine Sb (T9 aW (λx bR cX=>Sb (Ug (Sb (Vw (hs x) (Sb (T7 (T9 cX (λit2 gA gR=>?_) λO O h'=>h'.elim))))))) λO O h'=>h'.elim);refine Sb (wpAny_runOwn (UA gR λr hP rx=>?_));cases r with
  |ok f=>exact SD ⟨rfl,rx⟩
  |error e=>exact rx.elim
theorem fR {elt t1 t2:SX}{d:SH}{acc:Sz}(hd:d=0\/d=1)
  (h0:T3 (Tc prog w) A (.compLoop (.ListComp elt [⟨t1,i1,[],0⟩,⟨t2,i2,[],0⟩] scope pos) d it acc env) R s)
  (h:Tx (Tc prog w) A (pyIter it) (λvz s'=>T3 (Tc prog w) A (.compLoop (.ListComp elt [⟨t1,i1,[],0⟩,⟨t2,i2,[],0⟩] scope pos) d vz acc env) R s') (λO O=>False) s):
  T3 (Tc prog w) A (.compStart (.ListComp elt [⟨t1,i1,[],0⟩,⟨t2,i2,[],0⟩] scope pos) d it acc env) R s:=by
 refine YH ?_;show Tx _ _ ((compStart (.ListComp elt [⟨t1,i1,[],0⟩,⟨t2,i2,[],0⟩] scope pos) d it acc env).onRaise (λx=>do noteFrame x env;standAt theWindowsPlace)) _ _ s;refine wpAny_notedAt ?_;unfold compStart;rcases hd with rfl |rfl;all_goals
  refine Sb (wpAny_askSetting (wpAny_ite ?_));split
  ·first
    |exact Sb (SD (SD (YP rfl h0)))
    |exact SD (YP rfl h0)
  ·first
    |exact Sb (W0 (Sb (Ug (Sb (T9 h (λvz s' h'=>SD (YP rfl h')) λO O x=>x.elim)))))
    |(refine Sb (W0 ?_);show Tx _ _ (standAt _>>=_) _ _ s;exact Sb (Ug (Sb (T9 h (λvz s' h'=>SD (YP rfl h')) λO O x=>x.elim))))
end
end
section
section
variable{c:Cx}
theorem vM {elt:SX}{t1:SX}{x2:Tj}{a:Sz}{S:Src}{D:SM}{acc:R4 V}{Qa:R4 V->St->Prop}
  (rm:du k c A) (ee:dJ env c) (hv:c.vars[1]? =R3 (x2,Loc.ns)) (kh:aU U k c VR (S3 elt env) ft) (PD:bO U g c ρ D) (PI:bO U g c ρ I) (kg:I≠D) (r:VR ρ xv a)
  (ok:OK U (gI (gI g D oD) I oI) c ρ J s) (it:Ff a S 0 oI) (dP:OR U.prog U.w ρ (.list acc) oD) (Qo:acc.length+S.items.length<=2000000) (h:F6 xv S ft S.items acc J Qa):
  T3 (Tc U.prog U.w) A (.compLoop (.ListComp elt [⟨t1,i1,[],0⟩,⟨.Name x2 p2,i2,[],0⟩] scope pos) 1 (.ref I) (.ref D) env) (λr s'=>match r with
   |.ok _=>X4 λbG bD vE Qe=>C4 (Ext ρ bG) (OK U (gI g D Qe) c bG bD s') (OR U.prog U.w bG (.list vE) Qe) (Qa vE bD)
   |.error _=>False) s:=by
 have Jv: ∀{oD},bO U (gI g D oD) c ρ I:=PI.lB (by rw[fP kg];exact PI.g);refine j5 (λn s'=>X5 λi bG bD oD acc=>C5 (n+i=S.items.length) (It U (gI g D oD) c ρ I a S i bG bD s') (OR U.prog U.w bG (.list acc) oD) (acc.length+n<=2000000) (F6 xv S ft (S.items.drop i) acc bD Qa)) ?_ S.items.length
  ⟨0,ρ,J,oD,acc,rfl,⟨oI,Ext.refl _,ok,it⟩,dP,Qo,h⟩ (λO=>rfl)
 rintro n s' ⟨i,bG,bD,oD,acc,hn,hit,dP,Qo,h⟩;refine ly rm.hd Jv r hit (F7 h) (λu v o' aB jZ ru nH vz=>?_) λjZ aB pE=>?_
 ·rw[jK jZ]at h;refine U0 (aA (dY (k:=k) ee hv A _ bG _ _ (λO gS=>gS=bD.mB 1 v) _ u rm nH ru rfl) (λO aX aM aL O dM aI O aW=>?_));subst aW;refine aA (kh A _ aM _ aX _ rm aI h.2) (λyv gA gq gG y nJ dK Ft gR=>?_);obtain⟨m,hm,sx⟩:=pH hn jZ;obtain⟨xs,nn,rfl,vB⟩:=(dP.mono dM).mono nJ;refine append_at (dK.tS PD PI kg) (λh5 Fu e5=>?_) (by rw[cJ vB];exact SJ (SJ (UN _ n) Qo) yb);exact⟨m,hm,i+1,gq,gG,_,acc++[y],sx,⟨o',(hit.ext.trans dM).trans nJ,dK.acc (s':={gA with heap:=h5}) PD PI kg Fu e5,vz⟩,⟨_,_,rfl,by rw[Xs];exact F2.app vB ⟨Ft,TK⟩⟩,
   by rw[Sr,List.length_singleton,Nat.add_assoc,Nat.add_comm 1 m];exact SJ (Zh hm _) Qo,gR⟩
 ·replace h:=(gX jZ)▸h;exact⟨bG,bD,acc,oD,hit.ext,pE,dP,h.2⟩
theorem CD (rm:du k c A):du k c (A.mark Sg):=⟨rm.depth,rm.units,by show Around.handled (A.mark Sg)=Sg;unfold Around.mark;first |rfl |exact rm.hd,rm.fr⟩
theorem KD {elt:SX}{x1 x2:Tj}{cl:R4 (Tj×SM)}{Fx:UM}{py:UM}{r:Shape}{st:V->WM Unit}
  (he:dJ env c) (abe:closureFor scope env=pure cl) (Fq: ∀y∈scope.names,y.2≠.cell) (lC:scope.kind=.function) (Qx: ∀y∈scope.names,y.2=.local->scope.names.lookup y.1=R3 .local)
  (sC:jg c scope.names cl ((x1,Sg)::(x2,Sg)::r)) (d1:(((x1,Sg)::(x2,Sg)::r:Shape).map (·.1)).Nodup) (d2:(((x1,Sg)::(x2,Sg)::r:Shape).filterMap (·.2)).Nodup) (sI: ∀v,foldedSetIterable i1 env v=pure v) (lb: ∀C v,foldedSetIterable i2 (compEnvC scope cl C env) v=pure v)
  (hm:ji mk) (hx:aU U k c VR (S3 i1 env) fx) (h2: ∀C,aU U k (cj C c ((x1,Sg)::(x2,Sg)::r)) VR (S3 i2 (compEnvC scope cl C env)) f2) (kh: ∀C,aU U k (cj C c ((x1,Sg)::(x2,Sg)::r)) VR (S3 elt (compEnvC scope cl C env)) ft)
  (Ck:dv U k c UR (λv=>storeName env y v) st) (A0:swapsWith (.ListComp elt [⟨.Name x1 p1,i1,[],0⟩,⟨.Name x2 p2,i2,[],0⟩] scope pos) (R3 (.Name y py)) Fx.line env=pure Sn):
  aU U k c FR (Vu (.Assign [.Name y py] (.ListComp elt [⟨.Name x1 p1,i1,[],0⟩,⟨.Name x2 p2,i2,[],0⟩] scope pos) Fx) env)
   (Z (Z fx λx=>Z (Qw ((x1,Sg)::(x2,Sg)::r) f2 ft x) mk) λv=>Z (st v) λO=>ae .next):=by
 intro A g ρ J s Q rm ok q;refine(ZL _ _ _ _ A0)▸?_;refine Sb (Ug (Sb ?_));refine Sb (cH (WL (cl:=cl) (use:=R3 (assign (.Name y py) env)) (Q:=λO s'=>cu U g c ρ FR Q .next s') (E:=λO O=>False) rfl sI abe lC Qx (aA (hx A g ρ J s _ rm ok q) λa aB au ak xv aQ al aV aD=>?_)) λO s' hq=>SD (SD hq));obtain⟨S,hS,hf,aD⟩:=aD;refine gp al aV hS hf λoI it oU=>UZ (kJ (sh:=(x1,Sg)::(x2,Sg)::r) al oU rfl Fq lC sC d1 d2 λI D C s' kg hDC h2D fD fC PI PD ok'=>?_);have ee:=oV he lC sC C;have Jv: ∀{oD},bO U (gI (fF g c aB) D oD) (cj C c ((x1,Sg)::(x2,Sg)::r)) au I:=PI.lB (by rw[fP kg];exact PI.g);obtain⟨El,P0,eI⟩:=ok'.gQ Jv;have loop:T3 (Tc U.prog U.w) A (.compLoop (.ListComp elt [⟨.Name x1 p1,i1,[],0⟩,⟨.Name x2 p2,i2,[],0⟩] scope pos) 0 (.ref I) (.ref D) (compEnvC scope cl C env)) (compPost (Tc U.prog U.w) A (λO O=>False) (R3 (assign (.Name y py) env)) (λO s'=>cu U g c ρ FR Q .next s') (.ref D) C) s':=by
  refine j6 (λn s'=>X5 λi bG bD oD acc=>C4 (n+i=S.items.length) (It U (gI (fF g c aB) D oD) (cj C c ((x1,Sg)::(x2,Sg)::r)) au I a S i bG bD s') (OR U.prog U.w bG (.list acc) oD) (CC xv S f2 ft (S.items.drop i) acc bD (λacc gS=>mk acc ⟨ak.loc,gS.hp⟩ λv J=>st v J λO J=>Q .next J))) ?_ S.items.length
   ⟨0,au,_,_,[],rfl,⟨oI,Ext.refl _,ok',it⟩,⟨#[],0,rfl,TK⟩,aD⟩ (λO=>rfl) (lb C)
  rintro n s' ⟨i,bG,bD,oD,acc,hn,hit,dP,h⟩;refine ly rm.hd Jv aV hit (vL h) (λu v o' ae8 jZ ru nH vz=>?_) λjZ aX pE=>?_
  ·rw[jK jZ]at h;obtain⟨-,Fb,h⟩:=h;refine U0 (aA (dY (k:=k) ee (i:=0) rfl A _ bG _ _ (λO gS=>gS=bD.mB 0 v) _ u rm.cc nH ru rfl) (λO aX aM aL O dM aI O abf=>?_));subst abf;refine aA (h2 C A _ aM _ aX _ rm.cc aI h) (λx2v bR b9 cg x2' hH bI gB F8=>?_);obtain⟨S2,hS2,hf2,hl2,F8⟩:=F8;refine gp bI gB hS2 hf2 λoI2 it2 adJ=>?_;have bI:OK U (gI (gI (fF g c aB) I o') D oD) (cj C c ((x1,Sg)::(x2,Sg)::r)) b9 cg bR:=AY kg▸bI;have P2:=bO.fresh bI (cp bR.heap);have eI2:(bR.heap.push oI2).get? bR.heap.objs.size=R3 oI2:=To _ adJ;obtain⟨KC,PD5,eD5⟩:=bI.gQ (P:=PD.lB (by rw[fP (TH kg)];exact PD.g));have cF:bR.heap.objs.size≠D:=TH (Ur (TA eD5));have tR:=OK.freeze (bI.grow (s':={bR with heap:=bR.heap.push oI2}) λb o e=>Sp _ e) P2 eI2;generalize bR.heap.objs.size=I2 at*;have inner:=vM (t1:=.Name x1 p1) (i1:=i1) (i2:=i2) (p2:=p2) (scope:=scope) (pos:=pos) (CD rm.cc) ee (x2:=x2) rfl (kh C) PD5 (P2.lB (by have z:=P2.g;rw[fP cF]at z;exact z)) cF gB tR it2 ((dP.mono dM).mono hH) (Wd Fb hl2) F8;obtain⟨m,vk,sx⟩:=pH hn jZ;have fin:=UA (R':=λrr hP=>match rr with
     |.ok _=>∃m,m<n/\X5 λi bG bD oD acc=>C4 (m+i=S.items.length) (It U (gI (fF g c aB) D oD) (cj C c ((x1,Sg)::(x2,Sg)::r)) au I a S i bG bD hP) (OR U.prog U.w bG (.list acc) oD) (CC xv S f2 ft (S.items.drop i) acc bD (λacc gS=>mk acc ⟨ak.loc,gS.hp⟩ λv J=>st v J λO J=>Q .next J))
     |.error _=>False) inner λr' hP z=>by
    cases r' with
    |ok f=>obtain⟨vH,vI,Qy,abg,abh,vJ,KE,abi⟩:=z;exact⟨m,vk,i+1,vH,vI,abg,Qy,sx,⟨o',((hit.ext.trans dM).trans hH).trans abh,AY kg▸vJ,vz⟩,KE,abi⟩
    |error e=>exact z
   exact fR (.inr rfl) fin (pyIter_self eI2 it2 (oW gB hS2) fin)
  ·rw[gX jZ]at h;obtain⟨Kn,Ep,PC,eD,m,jL⟩:=pM al fD fC PD hit.ext pE;obtain⟨xs,nn,rfl,dP⟩:=dP;obtain⟨oC,es,ep,eC,rC⟩:=id jL;obtain⟨aM,aL,v,dM,aI,bN,tT⟩:=hm U _ c bG _ _ D acc xs nn _ (Kn.freeze PC eC) (Ep.lB (by rw[fP hDC];exact Ep.g)) h2D eD dP h.2;refine U0 (aA (Ck A _ aM aL _ _ v _ rm aI bN tT) λO om b9 cg O hH bI O vC=>?_);obtain⟨tR,PC4,eC4⟩:=bI.gQ PC;exact⟨m,⟨oC,es,ep,eC4,rC⟩,λh' hs=>⟨b9,cg,.next,((aQ.trans hit.ext).trans dM).trans hH,tR.away PC4 (λb o z e=>(hs.2 b z).trans e),rfl,vC⟩⟩
 exact fR (.inl rfl) loop (pyIter_self eI it (oW aV (vL aD)) loop)
end
end
section
structure SE where
 names:R4 (Tj×Vj)
 vs:R4 (Tj×SH)
noncomputable def Loc.tag:Loc->SH |.ns=>0 |.cell Sn _=>1 |.cell Sf _=>2 |.Pn=>3
structure cD (se:SE)(env:Y4)(c:Cx):Prop where
 e:dJ env c
 names:env.scope.names=se.names
 vs:c.vars.map (λp=>(p.1,p.2.tag))=se.vs
noncomputable def pU (x:Tj):R4 (Tj×SH)->SH->Si (SH×SH)
 |[],_=>Sg
 |(y,t)::r,i=>if y==x then R3 (i,t)else pU x r (i+1)
theorem F9 {x:Tj}{l:R4 (Tj×SH)}: ∀{i j t:SH},pU x l i=R3 (j,t)->∃n,j=i+n/\l[n]? =R3 (x,t):=by
 induction l with
 |nil=>intro i j t h;exact c6 h
 |cons p r ih=>
  intro i j t h;replace h:(if p.1==x then R3 (i,p.2)else pU x r (i+1))=R3 (j,t):=h;cases e:p.1==x with
  |true=>replace h:=(Sv e)▸h;cases h;exact⟨0,rfl,(eq_of_beq e)▸rfl⟩
  |false=>rw[Sq (by rw[e];decide)]at h;obtain⟨n,e,q⟩:=ih h;exact⟨n+1,by rw[e,Nat.add_assoc,Nat.add_comm 1 n],q⟩
theorem cD.var {se:SE}{c:Cx}(h:cD se env c){x:Tj}{t:SH}(e:pU x se.vs 0=R3 (j,t)): ∃l,c.vars[j]? =R3 (x,l)/\l.tag=t:=by
 obtain⟨n,rfl,q⟩:=F9 e;replace q:=(Sx)▸h.vs▸q;obtain⟨p,h1,h2⟩:=SR.mp q;obtain⟨y,l⟩:=p;cases h2;exact⟨l,by rw[Xz];exact h1,rfl⟩
theorem cD.kind {se:SE}{c:Cx}(h:cD se env c)(x:Tj):env.kindOf x=se.names.lookup x:=by unfold Env.kindOf;rw[h.names]
theorem mem_lookup {x:Tj}{v:β}{l:R4 (Tj×β)}:l.lookup x=R3 v->(x,v)∈l:=by
 induction l with
 |nil=>intro h;exact c6 h
 |cons p r ih=>
  intro h;cases e:x==p.1 with
  |true=>rw[TZ,e]at h;obtain rfl:=R7 h;rw[eq_of_beq e];exact Se
  |false=>rw[TZ,e]at h;exact SQ _ (ih h)
noncomputable def cls (e:SX):SH:=by
 cases e with
 |Starred=>exact 1
 |ListComp=>exact 2
 |SetComp=>exact 2
 |DictComp=>exact 2
 |Set=>exact 3
 |Slice=>exact 4
 |UnaryOp=>exact 5
 |BoolOp=>exact 5
 |IfExp=>exact 5
 |Compare=>exact 5
 |Attribute=>exact 6
 |Tuple=>exact 7
 |List=>exact 7
 |Call f args kj=>cases args with
  |nil=>cases kj with
   |nil=>exact 8
   |cons=>exact 0
  |cons=>exact 0
 |_=>exact 0
noncomputable def asName (e:SX):Si (Tj×UM):=if h:e.ctorIdx=23 then Zd (motive_1:=λO=>Si (Tj×UM)) e h λx p=>R3 (x,p)else Sg
theorem eT {e:SX}{q:Tj×UM}(h:asName e=R3 q):e=.Name q.1 q.2:=by
 by_cases z:e.ctorIdx=23;·exact Zd (motive_1:=λe=>asName e=R3 q->e=.Name q.1 q.2) e z (λx p h=>by obtain rfl:=R7 h;rfl) h
 ·exact c6 ((W2 z).symm.trans h)
theorem jn {e:SX}{r:R4 SX}(h:cls e≠1):starEach (e::r) env=(Sf,S3 e env)::starEach r env:=by
 cases e<;>first |rfl |exact Sw rfl h
theorem vN {e:SX}{t:Si SX}{l:SH}(h:cls e≠2):swapsWith e t l env=pure Sf:=by
 cases e<;>first |rfl |exact Sw rfl h
theorem yK {e:SX}(h:cls e≠5):UE e env (S3 e env)=(do let v <-S3 e env;standAt e.pos;holding [v] (truthy v)):=by
 cases e<;>first |rfl |exact Sw rfl h
theorem jO {e:SX}{x:Sz}(h:cls e≠3):foldedSetIterable e env x=pure x:=by
 cases e<;>first |rfl |exact Sw rfl h
theorem CE {e:SX}(h:cls e≠4)(o i:Sz):subscripted e Sf o i=operate [o,i] (getItem o i):=by
 cases e<;>first |rfl |exact Sw rfl h
theorem kM {e:SX}{n:Tj}{w:Xf Sz}(h:cls e≠8):attributeBase e n env w=w:=by
 cases e with
 |Call f a k p=>
  cases f<;>try rfl
  cases a<;>try rfl
  cases k<;>try rfl
  exact Sw rfl h
 |_=>rfl
structure Cfg where
 fns:R4 (Tj×SM×(R4 V->WM V))
 ms:R4 (Tj×SM×SM×(R4 V->WM V))
 Ga:R4 (Tj×Sj)
 UC:SM
 SC:SM
 abj:R4 (SH×SH)
 abk:R4 (SH×SH)
noncomputable def km:R4 (Tj×Sz):=[("len",.builtin "len"),("abs",.builtin "abs"),("max",.builtin "max"),("isinstance",.builtin "isinstance"),("sorted",.builtin "sorted"),("list",.type "list"),("tuple",.type "tuple"),("range",.type "range"),("int",.type "int"),("bool",.type "bool")]
structure dm (U:Un)(k:SH)(G:Cfg):Prop where
 fns: ∀p∈G.fns,nsIn U.K mainGlobals p.1=R3 (R3 (.ref p.2.1))/\keepIn U.K (.ref p.2.1)=Sn/\bZ U k p.2.1 p.2.2
 ms: ∀p∈G.ms,kG U.K p.2.1 p.1 p.2.2.1/\bZ U k p.2.2.1 p.2.2.2
 Ga: ∀p∈G.Ga,∃t,nsIn U.K mainGlobals p.1=R3 (R3 (.int p.2 t))
 Qz: ∀p∈km,nsIn U.K mainGlobals p.1=R3 Sg
 ua: ∀i,i<9->iC U.K G.UC i
 sa: ∀i,9<=i->i<25->iC U.K G.SC i
theorem jP: ∀p∈km,bootBuiltins p.1=R3 p.2/\p.1≠"__name__"/\(p.1==("__debug__" :Tj))=Sf:=by
 intro p hp;simp only[km,SZ,Sy,or_false]at hp;rcases hp with rfl |rfl |rfl |rfl |rfl |rfl |rfl |rfl |rfl |rfl<;>exact⟨rfl,by decide+kernel,by decide+kernel⟩
def kN (G:Cfg)(p:UM):R4 V->WM V:=Ui (G.abj.contains (p.line,p.col)) eR bf
theorem cS (G:Cfg)(p:UM):ji (kN G p):=by
 unfold kN;cases G.abj.contains (p.line,p.col);·exact Kl
 ·exact Km
section
variable{c:Cx}{R:bW->α->β->Prop}{t:Xf β}{f g:WM α}{o:Si γ}{h:γ->WM α}
theorem aU.bif (h1:b=Sn->aU U k c R t f)(h0:b=Sf->aU U k c R t g):aU U k c R t (Ui b f g):=by
 cases b with
 |true=>exact h1 rfl
 |false=>exact h0 rfl
theorem aU.xQ (h1:b=Sn->aU U k c R t f):aU U k c R t (Ui b f aJ):=.bif h1 λO=>.fail
theorem aU.Gb (h0:b=Sf->aU U k c R t f):aU U k c R t (Ui b aJ f):=.bif (λO=>.fail) h0
theorem aU.mN (h1: ∀a,o=R3 a->aU U k c R t (h a))(h0:o=Sg->aU U k c R t f):aU U k c R t (o.elim f h):=by
 cases o with
 |some a=>exact h1 a rfl
 |none=>exact h0 rfl
theorem aU.opt (h1: ∀a,o=R3 a->aU U k c R t (h a)):aU U k c R t (o.elim aJ h):=.mN h1 λO=>.fail
theorem fZ {a:γ}(h:Ui b o Sg=R3 a):b=Sn/\o=R3 a:=by
 cases b with
 |true=>exact⟨rfl,h⟩
 |false=>exact c6 h
end
theorem yL {a b:SH}(h:(a !=b)=Sn):a≠b:=by simpa using h
theorem yM {a b:SH}(h:(a==b)=Sf):a≠b:=by simpa using h
def Op (G:Cfg)(se:SE)(x:Tj):WM V:=Ui (x==("__debug__" :Tj)) aJ ((pU x se.vs 0).elim (Ui (se.names.lookup x==R3 .globalImplicit) ((G.Ga.lookup x).elim ((km.lookup x).elim aJ λv=>ae (.glob v)) λn=>ae (.int n)) aJ)
 λq=>Ui (Ul (q.2<=2)) (ac q.1) aJ)
section
variable{c:Cx}
variable{se:SE}{G:Cfg}
theorem KF (hG:dm U k G)(hs:cD se env c)(x:Tj)(pos:UM):aU U k c VR (S3 (.Name x pos) env) (Op G se x):=by
 refine .Gb λhd=>.mN (λq e=>.xQ λht=>?_) λO=>.xQ λhk=>?_
 ·obtain⟨l,e1,e2⟩:=hs.var e;cases l with
  |ns=>exact Pr hs.e e1 hd
  |cell o d=>exact ED hs.e e1 hd
  |Pn=>replace ht:=e2▸ht;exact dq ht
 ·have hk:env.kindOf x=R3 .globalImplicit:=(hs.kind x).trans (eq_of_beq hk);refine .mN (λn e=>?_) λO=>.opt λv e=>?_
  ·obtain⟨t,e1⟩:=hG.Ga _ (mem_lookup e);exact BZ hs.e hk e1 hd
  ·have e1:=mem_lookup e;have e2:=jP _ e1;exact tE hs.e hk (hG.Qz _ e1) e2.1 e2.2.1 hd
def A6 (se:SE)(y:Tj):Si (V->WM Unit):=(pU y se.vs 0).bind λq=>Ui (Ul (q.2<=1)) (R3 (cC q.1)) Sg
theorem jo (hs:cD se env c){f:V->WM Unit}(h:A6 se y=R3 f):dv U k c UR (λv=>storeName env y v) f:=by
 obtain⟨q,e,h⟩:=TY.mp h;obtain⟨ht,h⟩:=fZ h;obtain rfl:=R7 h;obtain⟨l,e1,e2⟩:=hs.var e;replace ht:=e2▸ht;cases l with
 |ns=>exact dY hs.e e1
 |cell o d=>
  cases o with
  |true=>exact pI hs.e e1
  |false=>cases ht
 |Pn=>cases ht
noncomputable def abl (G:Cfg)(pos:UM):Operator->V->V->WM V
 |.Add=>addW (kN G pos)
 |.Sub=>Pt
 |.Mult=>Pw
 |.FloorDiv=>Pv
 |.Mod=>Pu
 |_=>λO O=>aJ
theorem QA (pos:UM)(op:Operator):cP U k c VR (binaryOp op) (abl G pos op):=by
 cases op<;>first
  |exact A2 (cS G pos)
  |exact JU
  |exact JX
  |exact JW
  |exact JV
  |exact λO O O O O O O O O O O O O O h=>h.elim
def KG (x y:V):WM V:=match y with
 |.none=>(match x with |.none=>ae (.bool Sf) |.bF _ _=>ae (.bool Sn) |_=>aJ)
 |.bool _=>ER x y
 |_=>aJ
theorem KH:cP U k c VR (compareOp .IsNot) KG:=by
 intro A g ρ J s Q x y a b rm ok ha hb h;cases y with
 |none=>
  cases x with
  |none=>subst ha;subst hb;exact isnot_none_none (post (.bool Sf) ok rfl h)
  |bF=>obtain⟨t,_,rfl⟩:=ha;subst hb;exact isnot_none_ne (λe=>nomatch e) (post (.bool Sn) ok rfl h)
  |_=>exact h.elim
 |bool=>exact B9 A g ρ J s Q x _ a b rm ok ha hb h
 |_=>exact h.elim
noncomputable def Gc:Zk->V->V->WM V
 |.Eq=>eqW
 |.NotEq=>neW
 |.Lt=>ltW
 |.LtE=>leW
 |.Gt=>gtW
 |.GtE=>geW
 |.Is=>dB
 |.IsNot=>KG
 |.In=>inW
 |.NotIn=>EZ
theorem tW (op:Zk):cP U k c VR (compareOp op) (Gc op):=by
 cases op;·exact PB
 ·exact PE
 ·exact Px
 ·exact Py
 ·exact Qn
 ·exact Pz
 ·exact PA
 ·exact KH
 ·exact PL
 ·exact J5
noncomputable def lG (E:SX->WM V):R4 SX->WM (R4 V)
 |[]=>ae []
 |e::r=>Z (E e) λx=>Z (lG E r) λxs=>ae (x::xs)
def eU (l:R4 SX):Tn:=l.all λe=>cls e !=1
theorem lH {E:SX->WM V}(h: ∀e,aU U k c VR (S3 e env) (E e)){l:R4 SX}(q:eU l=Sn):cy U k c env l (lG E l):=by
 induction l with
 |nil=>exact AH
 |cons e r ih=>unfold eU at q;rw[Xb,Tt]at q;exact sw (jn (by simpa using q.1)) (h e) (ih q.2)
def abm (xs:R4 V):WM V:=match xs with |[]=>aJ |x::r=>(match r with |[]=>FG x |y::r=>w1 (FH x) (y::r))
theorem Gd:dw U k c VR (λas=>call (.type "range") as) abm:=by
 intro A g ρ J s Q xs as rm ok r q;cases xs with
 |nil=>exact q.elim
 |cons x xs=>
  cases xs with
  |nil=>exact dw.of1 (t:=λas=>call (.type "range") as) yC A g ρ J s Q _ as rm ok r q
  |cons y xs=>exact dw.of2 (t:=λas=>call (.type "range") as) yD A g ρ J s Q _ as rm ok r q
theorem abn {P:α->Prop}: ∀q∈([]:R4 α),P q:=λO h=>jY h
theorem all1 {P:α->Prop}{a:α}{l:R4 α}(h:P a)(r: ∀q∈l,P q): ∀q∈a::l,P q:=Sh.mpr ⟨h,r⟩
theorem pV (i:SH){q:Tj×Sz}(h:km[i]? =R3 q):q∈km:=R9 h
noncomputable def Oq (G:Cfg)(pos:UM):R4 (Tj×(R4 V->WM V)):=[("len",w1 Qg),("abs",w1 jl),("max",w2 Qh),("isinstance",w2 Cr),("list",w1 (FD (kN G pos))),("tuple",w1 Qi),("range",abm)]
noncomputable def abo (G:Cfg)(pos:UM)(x:Tj):Si (R4 V->WM V):=(Oq G pos).lookup x
theorem KJ (hG:dm U k G)(hs:cD se env c){x:Tj}{fa:WM (R4 V)}(hk:env.kindOf x=R3 .globalImplicit)(ha:cy U k c env args fa)(h:abo G pos x=R3 ow):
  aU U k c VR (S3 (.Call (.Name x p) args [] pos) env) (Z fa ow):=by
 have glob: ∀{x},env.kindOf x=R3 .globalImplicit->∀{v} i,km[i]? =R3 (x,v)->aU U k c VR (S3 (.Name x p) env) (ae (.glob v)):=λhk O i hi=>have hm:=pV i hi;tE hs.e hk (hG.Qz _ hm) (jP _ hm).1 (jP _ hm).2.1 (jP _ hm).2.2;have key: ∀q∈Oq G pos,env.kindOf q.1=R3 .globalImplicit->aU U k c VR (S3 (.Call (.Name q.1 p) args [] pos) env) (Z fa q.2):=
  all1 (λhk=>jH (glob hk 0 rfl) ha (dw.of1 Ks) rfl) (all1 (λhk=>jH (glob hk 1 rfl) ha (dw.of1 Kr) rfl)
  (all1 (λhk=>jH (glob hk 2 rfl) ha (dw.of2 Kt) rfl) (all1 (λhk=>jH (glob hk 3 rfl) ha (dw.of2 Kv) rfl)
  (all1 (λhk=>mJ (glob hk 5 rfl) ha (dw.of1 (yB (cS G pos))) rfl) (all1 (λhk=>mJ (glob hk 6 rfl) ha (dw.of1 vF) rfl)
  (all1 (λhk=>mJ (glob hk 7 rfl) ha Gd rfl) abn))))))
 exact key _ (mem_lookup h) hk
noncomputable def abp (n:SH)(b:Tn):Vn×Vn×(R4 V->WM V):=Ui (n==0) ("list","list.pop",w1 EW) (Ui (n==2) ("dict","dict.pop",w3 yi) (Ui b ("dict","dict.pop",w2 E2) ("list","list.pop",w2 tI)))
noncomputable def mbT (n:SH)(b:Tn):R4 (Tj×Vn×Vn×(R4 V->WM V)):=[("append","list","list.append",w2 tH),("extend","list","list.extend",w2 tJ),("get","dict","dict.get",Ui (n==1) (w2 AI) (w3 tK)),
 ("setdefault","dict","dict.setdefault",w3 yj),("update","dict","dict.update",w2 E5),
 ("pop",abp n b)]
noncomputable def mbW (m:Tj)(n:SH)(b:Tn):Si (Vn×Vn×(R4 V->WM V)):=(mbT n b).lookup m
noncomputable def plO (o:SX)(env:Y4):Xf Tn:=do return (<-importBound o env).getD Sn
theorem tX (h:eU args=Sn):(backTo pos (starEach args env)).all (!·.1)=Sn:=by
 induction args with
 |nil=>rfl
 |cons e r ih=>unfold eU at h;rw[Xb,Tt]at h;refine(jn (yL h.1))▸?_;exact ih h.2
theorem lI {o:SX}{m:Tj}(h:eU args=Sn)(hn:args.length<30)(hl:ap.endLine=pos.line):S3 (.Call (.Attribute o m ap) args [] pos) env=(do
   let ov <-attributeBase o m env (S3 o env)
   standAt ap.atName
   let(f,first) <-holding [ov] (getMethod ov m (plO o env))
   callWith pos f first (backTo pos (starEach args env)) []):=by
 have hf:methodCallForm (args.length+0) (backTo pos (starEach args env)) []=Sn:=by unfold methodCallForm;rw[tX h];simp[hn]
 have hp:methodCallPos Sn o env ap pos=pure pos:=Sv (show(!Sn || ap.endLine==pos.line)=Sn from by rw[hl];exact TV _);show(do let ov <-attributeBase o m env (S3 o env);standAt ap.atName;methodCall o m ap pos env ov (args.length+0) (backTo pos (starEach args env)) [])=_;unfold methodCall;rw[hf,hp];rfl
theorem A7 {o:SX}{m:Tj}(h:eU args=Sn)(h8:cls o≠8)(hn:args.length<30)(hl:ap.endLine=pos.line):S3 (.Call (.Attribute o m ap) args [] pos) env=(do
   let ov <-S3 o env
   standAt ap.atName
   let(f,first) <-holding [ov] (getMethod ov m (plO o env))
   callWith pos f first (backTo pos (starEach args env)) []):=(lI h hn hl).trans ((kM h8)▸rfl)
theorem KK (hs:cD se env c){o:SX}{m:Tj}{fa:WM (R4 V)}{q:Vn×Vn×(R4 V->WM V)}(hb:aU U k c VR (S3 o env) fo)(ha:cy U k c env args fa)
  (hk:eU args=Sn) (h8:cls o≠8) (hn:args.length<30) (hl:ap.endLine=pos.line) (h:mbW m args.length b=R3 q):
  aU U k c VR (S3 (.Call (.Attribute o m ap) args [] pos) env) (Z fo λx=>EV q.1 x (Z fa λxs=>q.2.2 (x::xs))):=by
 have hc:=λm=>A7 (o:=o) (env:=env) (m:=m) hk h8 hn hl;have key: ∀q∈mbT args.length b,aU U k c VR (S3 (.Call (.Attribute o q.1 ap) args [] pos) env) (Z fo λx=>EV q.2.1 x (Z fa λxs=>q.2.2.2 (x::xs))):=by
  refine all1 (dU Z5 Vz rfl (by decide) hb ha (dw.of2 yd) (hc _))
   (all1 (dU Z4 Vz rfl (by decide) hb ha (dw.of2 yf) (hc _))
   (all1 (dU (T:="dict") Yx UY rfl (by decide) hb ha (ow:=Ui (args.length==1) (w2 AI) (w3 tK)) ?_ (hc _))
   (all1 (dU F.slot_dict_setdefault UY rfl (by decide) hb ha (dw.of3 Cd) (hc _))
   (all1 (dU F.slot_dict_update UY rfl (by decide) hb ha (dw.of2 E6) (hc _)) (all1 ?_ abn)))))
  ·cases args.length==1;·exact dw.of3 Ca
   ·exact dw.of2 EY
  ·unfold abp;cases args.length==0
   ·cases args.length==2
    ·cases b;·exact dU (T:="list") WZ Vz rfl (by decide) hb ha (dw.of2 ye) (hc _)
     ·exact dU (T:="dict") F.slot_dict_pop UY rfl (by decide) hb ha (dw.of2 E3) (hc _)
    ·exact dU (T:="dict") F.slot_dict_pop UY rfl (by decide) hb ha (dw.of3 Cb) (hc _)
   ·exact dU (T:="list") WZ Vz rfl (by decide) hb ha (dw.of1 EX) (hc _)
 exact key _ (mem_lookup h)
theorem KL (hG:dm U k G){o:SX}{m:Tj}{fa:WM (R4 V)}{q:SM×SM×(R4 V->WM V)}(hb:aU U k c VR (S3 o env) fo)(ha:cy U k c env args fa)
  (hk:eU args=Sn) (h8:cls o≠8) (hn:args.length<30) (hl:ap.endLine=pos.line) (h:G.ms.lookup m=R3 q):
  aU U k c VR (S3 (.Call (.Attribute o m ap) args [] pos) env) (Z fo λx=>Fe q.1 x (Z fa λxs=>q.2.2 (x::xs))):=by
 have hc:=A7 (o:=o) (env:=env) (m:=m) hk h8 hn hl;obtain⟨h1,h2⟩:=hG.ms _ (mem_lookup h);exact Cj h1 hb ha h2.PX hc
theorem KM (hG:dm U k G)(hs:cD se env c){x:Tj}{fa:WM (R4 V)}{q:SM×(R4 V->WM V)}(hd:(x==("__debug__" :Tj))=Sf)(hk:env.kindOf x=R3 .globalImplicit)(ha:cy U k c env args fa)(h:G.fns.lookup x=R3 q):
  aU U k c VR (S3 (.Call (.Name x p) args [] pos) env) (Z fa q.2):=by
 obtain⟨h1,h2,h3⟩:=hG.fns _ (mem_lookup h);exact Fd h2 (lj hs.e hk h1 hd) ha h3.PX rfl
end
end
variable{se:SE}
section
def cA (se:SE)(scope:Wq)(xs:R4 Tj):Shape:=xs.map (λx=>(x,Sg))++scope.names.filterMap λp=>if p.2== .free then(pU p.1 se.vs 0).map (λq=>(p.1,R3 q.1))else Sg
noncomputable def cse (se:SE)(scope:Wq)(sh:Shape):SE:=⟨scope.names.map (λp=>if p.2== .free && se.names.lookup p.1==R3 .cell then(p.1,.cell)else p),
 sh.map λp=>(p.1,match p.2 with |none=>0 |some i=>match se.vs[i]? with |some q=>(if q.2=1\/q.2=2 then 2 else 3) |none=>3)⟩
def kO (se:SE)(scope:Wq)(xs:R4 Tj):Tn:=(scope.kind== .function) && scope.names.all (λp=>p.2 != .cell) && scope.names.all (λp=>p.2 != .local || scope.names.lookup p.1==R3 .local) && xs.all (λx=>scope.names.lookup x==R3 .local) &&
 scope.names.all (λp=>p.2 != .free || ((match pU p.1 se.vs 0 with |some q=>q.2==1 || q.2==2 |none=>Sf) && scope.names.lookup p.1==R3 .free)) && decide ((cA se scope xs).map (·.1)).Nodup && decide ((cA se scope xs).filterMap (·.2)).Nodup
section
variable{c:Cx}
variable{G:Cfg}
noncomputable def tY (env:Y4):R4 (Tj×Vj)->R4 (Tj×SM)->R4 (Tj×SM)
 |[],cs=>cs
 |p::r,cs=>tY env r (if p.2== .free then(p.1,(env.cells.lookup p.1).getD 0)::cs else cs)
theorem KN (h: ∀p∈scope.names,p.2=.free->∃d,env.cells.lookup p.1=R3 d):closureFor scope env=pure (tY env scope.names []):=by
 have key: ∀(l:R4 (Tj×Vj)) (cs:R4 (Tj×SM)),(∀p∈l,p.2=.free->∃d,env.cells.lookup p.1=R3 d)->
   (forIn l cs λx r=>(match x with |(name,kind)=>if(kind==NameKind.free)=Sn then(do let a <-cellOf env name;pure (Wn ((name,a)::r)):Xf _)else pure (Wn r)))=pure (tY env l cs):=by
  intro l;induction l with
  |nil=>intro cs _;rfl
  |cons p r ih=>
   intro cs hl;obtain⟨n,kd⟩:=p;rw[List.forIn_cons];by_cases hk:(kd==NameKind.free)=Sn
   ·obtain⟨d,hd⟩:=hl (n,kd) Se (eq_of_beq hk);have hc:cellOf env n=pure d:=by unfold cellOf;dsimp only at hd;exact hd▸rfl
    dsimp only;rw[Sv hk,hc];show _=pure (tY env r (if kd== .free then(n,(env.cells.lookup n).getD 0)::cs else cs));dsimp only at hd ⊢;rw[Sv hk,hd];exact ih _ λp hp=>hl p (SQ _ hp)
   ·dsimp only;rw[Sq hk];show _=pure (tY env r (if kd== .free then(n,(env.cells.lookup n).getD 0)::cs else cs));rw[Sq hk];exact ih _ λp hp=>hl p (SQ _ hp)
 have:=key scope.names [] h;unfold closureFor;exact SU (λt=>t>>=λcs=>pure cs) this
theorem QB {n:Tj}{d:SM}(e:env.cells.lookup n=R3 d)(l:R4 (Tj×Vj)): ∀(cs:R4 (Tj×SM)),((∀d',cs.lookup n=R3 d'->d'=d)/\((n,NameKind.free)∈l\/cs.lookup n=R3 d))->(tY env l cs).lookup n=R3 d:=by
 induction l with
 |nil=>
  intro cs h;obtain⟨h1,h2⟩:=h;rcases h2 with h2 |h2;·exact Sw h2 Sy
  ·exact h2
 |cons p r ih=>
  intro cs h;obtain⟨h1,h2⟩:=h;show(tY env r (if(p.2==NameKind.free)=Sn then(p.1,(env.cells.lookup p.1).getD 0)::cs else cs)).lookup n=R3 d;refine ih _ ⟨?_,?_⟩
  ·by_cases hk:(p.2==NameKind.free)=Sn
   ·rw[Sv hk];intro d' h';rw[TZ]at h';cases q:n==p.1 with
    |true=>rw[q,<-eq_of_beq q,e]at h';exact(R7 h').symm
    |false=>rw[q]at h';exact h1 d' h'
   ·rw[Sq hk];exact h1
  ·by_cases hk:(p.2==NameKind.free)=Sn
   ·rw[Sv hk];by_cases hn:n=p.1;·right;rw[TZ,hn,TV,<-hn,e];rfl
    ·rcases h2 with h2 |h2
     ·rcases SZ.mp h2 with q |q;·exact Sw (SU Prod.fst q) hn
      ·exact .inl q
     ·right;rw[TZ,show(n==p.1)=Sf from VF.mpr hn];exact h2
   ·rw[Sq hk];rcases h2 with h2 |h2
    ·rcases SZ.mp h2 with q |q;·rw[<-q]at hk;exact Sw rfl hk
     ·exact .inl q
    ·exact .inr h2
structure QC (env:Y4)(c:Cx)(scope:Wq)(cl:R4 (Tj×SM))(sh:Shape):Prop where
 Fv:closureFor scope env=pure cl
 cell: ∀y∈scope.names,y.2≠.cell
 kind:scope.kind=.function
 names: ∀y∈scope.names,y.2=.local->scope.names.lookup y.1=R3 .local
 sC:jg c scope.names cl sh
 d1:(sh.map (·.1)).Nodup
 d2:(sh.filterMap (·.2)).Nodup
theorem A8 (hs:cD se env c){xs:R4 Tj}(h:kO se scope xs=Sn): ∃cl,QC env c scope cl (cA se scope xs)/\∀C,cD (cse se scope (cA se scope xs)) (compEnvC scope cl C env) (cj C c (cA se scope xs)):=by
 unfold kO at h;simp only[Tt,TR,YS,ne_eq,U5,Ye,Uz]at h;obtain⟨⟨⟨⟨⟨⟨h1,h2⟩,h3⟩,h4⟩,h5⟩,h6⟩,h7⟩:=h;have free: ∀p∈scope.names,p.2=.free->scope.names.lookup p.1=R3 .free/\∃i ob d,pU p.1 se.vs 0=R3 (i,if ob then 1 else 2)/\c.vars[i]? =R3 (p.1,Loc.cell ob d)/\env.cells.lookup p.1=R3 d:=by
  intro p hp hf;obtain⟨q1,q2⟩:=(h5 p hp).resolve_left (λz=>z hf);refine⟨q2,?_⟩;cases e:pU p.1 se.vs 0 with
  |none=>rw[e]at q1;exact dq q1
  |some q=>
   obtain⟨i,t⟩:=q;rw[e]at q1;simp only[Ye,U5]at q1;obtain⟨l,e1,e2⟩:=hs.var e;cases l with
   |ns=>rw[<-e2]at q1;rcases q1 with q1 |q1<;>cases q1
   |Pn=>rw[<-e2]at q1;rcases q1 with q1 |q1<;>cases q1
   |cell ob d=>exact⟨i,ob,d,by rw[<-e2];cases ob<;>rfl,e1,(hs.e.cell i _ ob d e1).2⟩
 have sC:jg c scope.names (tY env scope.names []) (cA se scope xs):=λp hp=>by
  clear h6 h7;rcases Sl.mp hp with q |q
  ·obtain⟨x,hx,rfl⟩:=SL.mp q;exact⟨λO=>h4 x hx,λi e=>c6 e⟩
  ·obtain⟨w,hw,e⟩:=UD.mp q;by_cases hf:(w.2==NameKind.free)=Sn
   ·obtain⟨q1,i,ob,d,e1,e2,e3⟩:=free w hw (eq_of_beq hf);replace e:=e1▸(Sv hf)▸e;obtain rfl:=R7 e;refine⟨(λz=>Eh z),λi e=>?_⟩;obtain rfl:=R7 e;exact⟨q1,ob,d,e2,QB e3 _ _ ⟨(λd' h'=>c6 h'),.inl (eq_of_beq hf▸hw)⟩⟩
   ·replace e:=(Sq hf)▸e;cases e
 refine⟨tY env scope.names [],⟨KN λp hp hf=>by obtain⟨_,_,_,d,_,_,e⟩:=free p hp hf;exact⟨d,e⟩,λy hy=>h2 y hy,h1,λy hy hl=>(h3 y hy).resolve_left (λz=>z hl),sC,h6,h7⟩,λC=>⟨oV hs.e h1 sC C,?_,?_⟩⟩
 ·refine TI λp O=>?_;obtain⟨n,kd⟩:=p;show(if(kd==NameKind.free && env.scope.kind== .function && env.kindOf n==R3 .cell)=Sn then(n,WV)else(n,kd))=_;rw[hs.e.kind,hs.kind];simp
 ·show(VZ _ (VZ _ _))=VZ _ _;rw[Tg];refine TI λp O=>?_;obtain⟨y,o⟩:=p;cases o with
  |none=>rfl
  |some i=>
   show(y,Loc.tag (Ej c.vars[i]?))=(y,_);dsimp only;rw[<-hs.vs,Sx];cases c.vars[i]? with
   |none=>rfl
   |some q=>
    obtain⟨z,l⟩:=q;cases l with
    |ns=>rfl
    |cell o d=>cases o<;>rfl
    |Pn=>rfl
structure Dn where
 e:SE->SX->WM V
 t:SE->SX->WM Tn
def Ge (l:R4 T8):Si (Tj×UM×SX×R4 SX):=match l with
 |[]=>Sg
 |p::r=>Ui (r.isEmpty && p.is_async==0) ((asName p.target).map λq=>(q.1,q.2,p.iter,p.ifs)) Sg
theorem KO {l:R4 T8}(h:Ge l=R3 q):l=[⟨.Name q.1 q.2.1,q.2.2.1,q.2.2.2,0⟩]:=by
 cases l with
 |nil=>exact c6 h
 |cons p r=>
  obtain⟨ha,h⟩:=fZ h;obtain⟨q',h1,rfl⟩:=SR.mp h;rw[Tt]at ha;obtain⟨tg,it,ifs,n⟩:=p;cases r with
  |nil=>cases eT h1;cases eq_of_beq ha.2;rfl
  |cons=>exact dq ha.1
noncomputable def yO (T:SX->WM Tn):R4 SX->WM Tn |[]=>ae Sn |[e]=>T e |_=>aJ
theorem pW {T:SX->WM Tn}(h: ∀e,aU U k c BR (UE e env (S3 e env)) (T e))(l:R4 SX):aU U k c BR (fU l env) (yO T l):=by
 cases l with
 |nil=>exact yy
 |cons e r=>
  cases r with
  |nil=>exact yz (h e)
  |cons=>exact .fail
def pX (G:Cfg)(d:Dn)(se:SE)(elt:SX)(gens:R4 T8)(scope:Wq)(pos:UM):WM V:=(Ge gens).elim aJ λq=>Ui (kO se scope [q.1] && (cls q.2.2.1 !=3) && ((cA se scope [q.1]).drop 1).all (λp=>p.2 !=Sg))
   (Z (d.e se q.2.2.1) λx=>Z (lcW (cA se scope [q.1]) (yO (d.t (cse se scope (cA se scope [q.1]))) q.2.2.2) (d.e (cse se scope (cA se scope [q.1])) elt) x) (kN G pos)) aJ
def Gf (G:Cfg)(d:Dn)(se:SE)(kx vx:SX)(gens:R4 T8)(scope:Wq)(pos:UM):WM V:=(Ge gens).elim aJ λq=>Ui (kO se scope [q.1] && (cls q.2.2.1 !=3) && ((cA se scope [q.1]).drop 1).all (λp=>p.2 !=Sg))
   (Z (d.e se q.2.2.1) λx=>Z (dcW (cA se scope [q.1]) (yO (d.t (cse se scope (cA se scope [q.1]))) q.2.2.2) (d.e (cse se scope (cA se scope [q.1])) kx) (d.e (cse se scope (cA se scope [q.1])) vx) x) lF) aJ
structure fG (U:Un)(k:SH)(G:Cfg)(d:Dn):Prop where
 e: ∀{c env se},cD se env c->∀e,aU U k c VR (S3 e env) (d.e se e)
 t: ∀{c env se},cD se env c->∀e,aU U k c BR (UE e env (S3 e env)) (d.t se e)
theorem tZ (hs:cD se env c)(hg:Ge gens=R3 q)(h:(kO se scope [q.1] && (cls q.2.2.1 !=3) && ((cA se scope [q.1]).drop 1).all (λp=>p.2 !=Sg))=Sn):
  gens=[⟨.Name q.1 q.2.1,q.2.2.1,q.2.2.2,0⟩]/\∃cl,pN env c scope cl (cA se scope [q.1]) q.1 q.2.2.1/\∀C,cD (cse se scope (cA se scope [q.1])) (compEnvC scope cl C env) (cj C c (cA se scope [q.1])):=by
 rw[Tt,Tt]at h;obtain⟨⟨h1,h2⟩,h3⟩:=h;obtain⟨cl,K,hC⟩:=A8 hs h1;refine⟨KO hg,cl,⟨K.Fv,K.cell,K.kind,K.names,K.sC,K.d1,K.d2,rfl,aa8 (λp hp=>?_),λv=>jO (yL h2)⟩,hC⟩;simpa using TR.mp h3 p hp
theorem vO {d:Dn}(hd:fG U k G d)(hs:cD se env c)(elt:SX)(gens:R4 T8)(scope:Wq)(pos:UM):aU U k c VR (S3 (.ListComp elt gens scope pos) env) (pX G d se elt gens scope pos):=by
 refine .opt λq hg=>.xQ λh=>?_;obtain⟨e,cl,K,hC⟩:=tZ hs hg h;refine e▸?_;exact Qf hs.e K (cS G pos) (hd.e hs _) (λC=>pW (λe=>hd.t (hC C) e) _) (λC=>hd.e (hC C) _)
theorem Gg {d:Dn}(hd:fG U k G d)(hs:cD se env c)(kx vx:SX)(gens:R4 T8)(scope:Wq)(pos:UM):aU U k c VR (S3 (.DictComp kx vx gens scope pos) env) (Gf G d se kx vx gens scope pos):=by
 refine .opt λq hg=>.xQ λh=>?_;obtain⟨e,cl,K,hC⟩:=tZ hs hg h;refine e▸?_;exact Qr hs.e K (hd.e hs _) (λC=>pW (λe=>hd.t (hC C) e) _) (λC=>hd.e (hC C) _) (λC=>hd.e (hC C) _)
noncomputable def QD (e:SX):Tn:=e.ctorIdx==20
def vP (kj:R4 Xx):Tn:=match kj with |[]=>Sf |p::r=>r.isEmpty && (p.arg==R3 ("key" :Tj) && (asName p.value).elim Sf λq=>q.1==("abs" :Tj))
theorem CF {kj:R4 Xx}(h:vP kj=Sn): ∃p kp,kj=[⟨R3 ("key" :Tj),.Name ("abs" :Tj) p,kp⟩]:=by
 cases kj with
 |nil=>exact dq h
 |cons p r=>
  obtain⟨h0,h⟩:=SV.mp h;obtain⟨h1,h2⟩:=SV.mp h;cases r with
  |cons=>exact dq h0
  |nil=>
   obtain⟨n,v,kp⟩:=p;cases e:asName v with
   |none=>rw[e]at h2;exact dq h2
   |some q=>rw[e]at h2;obtain⟨x,pp⟩:=q;cases eT e;cases eq_of_beq h1;cases(show x=_ from eq_of_beq h2);exact⟨_,_,rfl⟩
def pY (se:SE)(x:Tj):Tn:=(pU x se.vs 0==Sg) && se.names.lookup x==R3 .globalImplicit && !(x==("__debug__" :Tj))
def KP (G:Cfg)(d:Dn)(se:SE)(x:Tj)(args:R4 SX)(pos:UM):WM V:=(G.fns.lookup x).elim ((abo G pos x).elim aJ λw=>Z (lG (d.e se) args) w) λq=>Z (lG (d.e se) args) q.2
def abq (G:Cfg)(d:Dn)(se:SE)(o:SX)(m:Tj)(args:R4 SX):WM V:=
 (G.ms.lookup m).elim ((mbW m args.length (QD o)).elim aJ λq=>Z (d.e se o) λx=>EV q.1 x (Z (lG (d.e se) args) λxs=>q.2.2 (x::xs))) λq=>Z (d.e se o) λx=>Fe q.1 x (Z (lG (d.e se) args) λxs=>q.2.2 (x::xs))
def abr (G:Cfg)(d:Dn)(se:SE)(pos:UM)(args:R4 SX):WM V:=match args with |[]=>aJ |e::r=>Ui r.isEmpty (Z (d.e se e) λx=>jm (kN G pos) x) aJ
noncomputable def ub (e:SX):Si (SX×Tj×UM):=if h:e.ctorIdx=20 then X0 (motive_1:=λO=>Si (SX×Tj×UM)) e h λo m p=>R3 (o,m,p)else Sg
theorem sJ {e:SX}{q:SX×Tj×UM}(h:ub e=R3 q):e=.Attribute q.1 q.2.1 q.2.2:=by
 by_cases z:e.ctorIdx=20;·exact X0 (motive_1:=λe=>ub e=R3 q->e=.Attribute q.1 q.2.1 q.2.2) e z (λo m p h=>by obtain rfl:=R7 h;rfl) h
 ·exact c6 ((W2 z).symm.trans h)
def dcN (G:Cfg)(d:Dn)(se:SE)(x:Tj)(args:R4 SX)(kj:R4 Xx)(pos:UM):WM V:=Ui (pY se x && eU args) (Ui kj.isEmpty (KP G d se x args pos) (Ui (x==("sorted" :Tj) && vP kj && pY se ("abs" :Tj)) (abr G d se pos args) aJ)) aJ
def dcA (G:Cfg)(d:Dn)(se:SE)(o:SX)(m:Tj)(ap:UM)(args:R4 SX)(kj:R4 Xx)(pos:UM):WM V:=Ui (kj.isEmpty && eU args && (cls o !=8) && decide (args.length<30) && (ap.endLine==pos.line)) (abq G d se o m args) aJ
def Gh (G:Cfg)(d:Dn)(se:SE)(f:SX)(args:R4 SX)(kj:R4 Xx)(pos:UM):WM V:=(asName f).elim ((ub f).elim aJ λq=>dcA G d se q.1 q.2.1 q.2.2 args kj pos) λq=>dcN G d se q.1 args kj pos
theorem pZ (hG:dm U k G)(hs:cD se env c){x:Tj}(h:pY se x=Sn):env.kindOf x=R3 .globalImplicit/\(x==("__debug__" :Tj))=Sf/\∀v pos,(x,v)∈km->aU U k c VR (S3 (.Name x pos) env) (ae (.glob v)):=by
 unfold pY at h;obtain⟨h,h2⟩:=SV.mp h;have h2:(x==("__debug__" :Tj))=Sf:=(ZG _).mp h2;have hk:env.kindOf x=R3 .globalImplicit:=(hs.kind x).trans (eq_of_beq (SV.mp h).2);exact⟨hk,h2,λv pos hm=>tE hs.e hk (hG.Qz _ hm) (jP _ hm).1 (jP _ hm).2.1 h2⟩
theorem QE {d:Dn}(hG:dm U k G)(hd:fG U k G d)(hs:cD se env c)(x:Tj)(p:UM)(args:R4 SX)(kj:R4 Xx)(pos:UM):aU U k c VR (S3 (.Call (.Name x p) args kj pos) env) (dcN G d se x args kj pos):=by
 refine .xQ λh=>?_;obtain⟨h0,h1⟩:=SV.mp h;obtain⟨hk,hdb,hb⟩:=pZ hG hs h0;have ha:=lH (E:=d.e se) (λe=>hd.e hs e) h1;refine .bif (λhkw=>?_) λO=>.xQ λh2=>?_
 ·cases kj with
  |cons=>exact dq hkw
  |nil=>exact .mN (λq e=>KM hG hs hdb hk ha e) λO=>.opt λw e=>KJ hG hs hk ha e
 ·obtain⟨h3,h5⟩:=SV.mp h2;obtain⟨h3,h4⟩:=SV.mp h3;obtain rfl:=eq_of_beq h3;obtain⟨pa,kp,rfl⟩:=CF h4;cases args with
  |nil=>exact .fail
  |cons e r=>
   refine .xQ λhr=>?_;cases r with
   |cons=>exact dq hr
   |nil=>exact pT (cS G pos) (hb _ _ (pV 4 rfl)) (hd.e hs e) ((pZ hG hs h5).2.2 _ _ (pV 1 rfl)) (jn (yL (SV.mp h1).1)) rfl
theorem QF {d:Dn}(hG:dm U k G)(hd:fG U k G d)(hs:cD se env c)(o:SX)(m:Tj)(ap:UM)(args:R4 SX)(kj:R4 Xx)(pos:UM):aU U k c VR (S3 (.Call (.Attribute o m ap) args kj pos) env) (dcA G d se o m ap args kj pos):=by
 refine .xQ λh=>?_;obtain⟨h,h5⟩:=SV.mp h;obtain⟨h,h4⟩:=SV.mp h;obtain⟨h,h3⟩:=SV.mp h;obtain⟨h1,h2⟩:=SV.mp h;cases kj with
 |cons=>exact nomatch h1
 |nil=>have ha:=lH (E:=d.e se) (λe=>hd.e hs e) h2;exact .mN (λq e=>KL hG (hd.e hs o) ha h2 (yL h3) (SB h4) (eq_of_beq h5) e) λO=>.opt λq e=>KK hs (hd.e hs o) ha h2 (yL h3) (SB h4) (eq_of_beq h5) e
theorem Gi {d:Dn}(hG:dm U k G)(hd:fG U k G d)(hs:cD se env c)(f:SX)(args:R4 SX)(kj:R4 Xx)(pos:UM):aU U k c VR (S3 (.Call f args kj pos) env) (Gh G d se f args kj pos):=
 .mN (λq e=>eT e▸QE hG hd hs q.1 q.2 args kj pos) λO=>.opt λq e=>sJ e▸QF hG hd hs q.1 q.2.1 q.2.2 args kj pos
end
end
variable{d:Dn}
section
section
variable{c:Cx}
variable{G:Cfg}
def qb (x:Tj):Si SH:=nms.findIdx? λy=>y==x
theorem dy {x:Tj}(h:qb x=R3 i):x=nm i/\i<27:=by
 unfold qb at h;rw[List.findIdx?_eq_some_iff_getElem]at h;obtain⟨hl,h1,_⟩:=h;have PZ:i<27:=hl;refine⟨?_,PZ⟩;unfold nm;refine(SG hl)▸?_;exact(eq_of_beq h1).symm
noncomputable def QG (G:Cfg)(i:SH):Si SM:=Ui (Ul (i<9)) (R3 G.UC) (Ui (Ul (i<25)) (R3 G.SC) Sg)
theorem Gj (hG:dm U k G)(h:QG G i=R3 C):iC U.K C i:=by
 unfold QG at h;cases e:decide (i<9)with
 |true=>replace h:=e▸h;obtain rfl:=R7 h;exact hG.ua i (SB e)
 |false=>replace h:=e▸h;obtain⟨e',h⟩:=fZ (o:=R3 G.SC) h;obtain rfl:=R7 h;exact hG.sa i (Nat.le_of_not_lt (TF e)) (SB e')
def abt (G:Cfg)(name:Tj)(f:SM->SH->WM α):WM α:=(qb name).elim aJ λi=>(QG G i).elim aJ λC=>f C i
def atW (G:Cfg)(d:Dn)(se:SE)(v:SX)(name:Tj):WM V:=Ui (cls v==8) aJ (abt G name λC i=>Z (d.e se v) λx=>pA C i x)
theorem abu (hG:dm U k G)(hd:fG U k G d)(hs:cD se env c)(v:SX)(name:Tj)(pos:UM):aU U k c VR (S3 (.Attribute v name pos) env) (atW G d se v name):=by
 refine .Gb λh8=>.opt λi hi=>.opt λC hC=>E7 (Gj hG hC) (dy hi).1 (hd.e hs v) ?_;show(do let o <-attributeBase v name env (S3 v env);standAt pos.atName;let r <-holding [o] (getAttr o name Sn);letTemporaryGo v o r;pure r)=_;exact(kM (yM h8))▸rfl
noncomputable def cInt:Const->Si Sj |.int i=>R3 i |_=>Sg
theorem KQ {v:Const}{i:Sj}(h:cInt v=R3 i):v=.int i:=by
 cases v with
 |int i=>obtain rfl:=R7 h;rfl
 |_=>exact c6 h
def sK (e:SX):Si (Sj×SH×UM):=if h:e.ctorIdx=19 then VQ (motive_1:=λO=>Si (Sj×SH×UM)) e h λv n p=>(cInt v).map λi=>(i,n,p)else Sg
theorem Gk {e:SX}{q:Sj×SH×UM}(h:sK e=R3 q):e=.Constant (.int q.1) q.2.1 q.2.2:=by
 by_cases z:e.ctorIdx=19;·exact VQ (motive_1:=λe=>sK e=R3 q->e=.Constant (.int q.1) q.2.1 q.2.2) e z (λv n p h=>by obtain⟨i,h1,rfl⟩:=SR.mp h;rw[KQ h1]) h
 ·exact c6 ((W2 z).symm.trans h)
noncomputable def A9:UnaryOp->Tn |.USub=>Sn |_=>Sf
theorem yP {o:UnaryOp}(h:A9 o=Sn):o=.USub:=by cases o<;>first |rfl |exact dq h
def Ba (e:SX):Si (SX×UM):=if h:e.ctorIdx=3 then Yy (motive_1:=λO=>Si (SX×UM)) e h λop x p=>Ui (A9 op) (R3 (x,p)) Sg else Sg
theorem Gl {e:SX}{q:SX×UM}(h:Ba e=R3 q):e=.UnaryOp .USub q.1 q.2:=by
 by_cases z:e.ctorIdx=3;·exact Yy (motive_1:=λe=>Ba e=R3 q->e=.UnaryOp .USub q.1 q.2) e z (λop x p h=>by obtain⟨h1,h2⟩:=fZ h;obtain rfl:=R7 h2;rw[yP h1]) h
 ·exact c6 ((W2 z).symm.trans h)
def yQ (e:SX):Tn:=(Ba e).elim Sf λq=>(sK q.1).elim Sf λr=>r.1==1
theorem CG {e:SX}(h:yQ e=Sn): ∃n q q',e=.UnaryOp .USub (.Constant (.int 1) n q) q':=by
 unfold yQ at h;cases e1:Ba e with
 |none=>rw[e1]at h;exact dq h
 |some q=>
  cases e2:sK q.1 with
  |none=>rw[e1]at h;exact dq (show Sf=Sn from(by rw[<-h];show _=(sK q.1).elim _ _;rw[e2];rfl))
  |some r=>rw[e1]at h;have h:(sK q.1).elim Sf (λr=>r.1==1)=Sn:=h;rw[e2]at h;refine⟨r.2.1,r.2.2,q.2,?_⟩;rw[Gl e1,Gk e2,show r.1=1 from eq_of_beq h]
noncomputable def cStr:Const->Si Tj |.str i=>R3 i |_=>Sg
theorem KR {v:Const}{i:Tj}(h:cStr v=R3 i):v=.str i:=by
 cases v with
 |str i=>obtain rfl:=R7 h;rfl
 |_=>exact c6 h
def sL (e:SX):Si (Tj×SH×UM):=if h:e.ctorIdx=19 then VQ (motive_1:=λO=>Si (Tj×SH×UM)) e h λv n p=>(cStr v).map λi=>(i,n,p)else Sg
theorem lJ {e:SX}{q:Tj×SH×UM}(h:sL e=R3 q):e=.Constant (.str q.1) q.2.1 q.2.2:=by
 by_cases z:e.ctorIdx=19;·exact VQ (motive_1:=λe=>sL e=R3 q->e=.Constant (.str q.1) q.2.1 q.2.2) e z (λv n p h=>by obtain⟨i,h1,rfl⟩:=SR.mp h;rw[KR h1]) h
 ·exact c6 ((W2 z).symm.trans h)
def QH (G:Cfg)(d:Dn)(se:SE)(v:SX)(pos:UM)(lo hi st:Si SX):WM V:=match st with
 |some e=>(match lo with |some _=>aJ |none=>(match hi with |some _=>aJ |none=>Ui (yQ e) (Z (d.e se v) λx=>Kw (kN G pos) x) aJ))
 |none=>(match lo with
  |none=>(match hi with
   |some e=>Ui (G.abk.contains (pos.line,pos.col)) (Z (d.e se v) λx=>Z (d.e se e) λy=>yG x y) (Z (d.e se v) λx=>Z (d.e se e) λy=>FO (kN G pos) x y)
   |none=>aJ)
  |some e=>(match hi with
   |none=>Ui (G.abk.contains (pos.line,pos.col)) (Z (d.e se v) λx=>Z (d.e se e) λy=>yH x y) (Z (d.e se v) λx=>Z (d.e se e) λy=>FP (kN G pos) x y)
   |some _=>aJ))
def abv (d:Dn)(se:SE)(v s:SX):WM V:=Ui (cls s==4) aJ ((sL s).elim (Z (d.e se v) λx=>Z (d.e se s) λy=>PO x y)
 λq=>(qb q.1).elim aJ λi=>Z (d.e se v) λx=>F3 i x)
noncomputable def uc (e:SX):Si (Si SX×Si SX×Si SX×UM):=if h:e.ctorIdx=26 then YY (motive_1:=λO=>Si (Si SX×Si SX×Si SX×UM)) e h λlo hi st p=>R3 (lo,hi,st,p)else Sg
theorem yR {e:SX}{q:Si SX×Si SX×Si SX×UM}(h:uc e=R3 q):e=.Slice q.1 q.2.1 q.2.2.1 q.2.2.2:=by
 by_cases z:e.ctorIdx=26;·exact YY (motive_1:=λe=>uc e=R3 q->e=.Slice q.1 q.2.1 q.2.2.1 q.2.2.2) e z (λlo hi st p h=>by obtain rfl:=R7 h;rfl) h
 ·exact c6 ((W2 z).symm.trans h)
def Os (G:Cfg)(d:Dn)(se:SE)(v s:SX)(pos:UM):WM V:=(uc s).elim (abv d se v s) λq=>QH G d se v pos q.1 q.2.1 q.2.2.1
theorem KS (hd:fG U k G d)(hs:cD se env c)(v s:SX)(pos:UM):aU U k c VR (S3 (.Subscript v s pos) env) (Os G d se v s pos):=by
 refine .mN (λq hq=>?_) λO=>.Gb λh4=>.mN (λq hq=>.opt λi hi=>?_) λO=>E1 (hd.e hs _) (hd.e hs _) (E0 _ _ (CE (yM h4)))
 ·refine(yR hq)▸?_;obtain⟨lo,hi,st,p⟩:=q;cases st with
  |some e=>cases lo with
   |some=>exact .fail
   |none=>cases hi with
    |some=>exact .fail
    |none=>refine .xQ λh=>?_;obtain⟨n,q,q',rfl⟩:=CG h;exact Kx (cS G pos) (hd.e hs _)
  |none=>cases lo with
   |none=>cases hi with
    |some e=>exact .bif (λO=>Cu (hd.e hs _) (hd.e hs _)) λO=>FQ (cS G pos) (hd.e hs _) (hd.e hs _)
    |none=>exact .fail
   |some e=>cases hi with
    |none=>exact .bif (λO=>Cv (hd.e hs _) (hd.e hs _)) λO=>FU (cS G pos) (hd.e hs _) (hd.e hs _)
    |some=>exact .fail
 ·refine(lJ hq)▸?_;exact F4 (dy hi).1 (dy hi).2 (hd.e hs _) (λO O=>rfl)
def QI (d:Dn)(se:SE)(ke:Si SX)(ve:SX):WM V:=ke.elim aJ λke=>Z (d.e se ke) λx=>Z (d.e se ve) λy=>yI x y
def QJ (d:Dn)(se:SE)(k1 k2:Si SX)(e1 e2:SX):WM V:=k1.elim aJ λk1=>k2.elim aJ λk2=>(sL k1).elim aJ λq1=>(sL k2).elim aJ λq2=>
 (qb q1.1).elim aJ λi1=>(qb q2.1).elim aJ λi2=>Ui (i1==i2) aJ (Z (d.e se e1) λx=>Z (d.e se e2) λy=>A5 [(i1,x),(i2,y)])
def Ot (d:Dn)(se:SE)(keys:R4 (Si SX))(values:R4 SX):WM V:=match keys with
 |[]=>(match values with |[]=>lF [] |_=>aJ)
 |k1::ks=>(match values with
  |[]=>aJ
  |e1::es=>(match ks with
   |[]=>(match es with |[]=>QI d se k1 e1 |_=>aJ)
   |k2::ks=>(match ks with |_::_=>aJ |[]=>(match es with |[]=>aJ |e2::es=>(match es with |_::_=>aJ |[]=>QJ d se k1 k2 e1 e2)))))
theorem KT (hd:fG U k G d)(hs:cD se env c)(keys:R4 (Si SX))(values:R4 SX)(pos:UM):aU U k c VR (S3 (.Dict keys values pos) env) (Ot d se keys values):=by
 cases keys with
 |nil=>cases values with
  |nil=>exact Cw
  |cons=>exact .fail
 |cons k1 ks=>cases values with
  |nil=>exact .fail
  |cons e1 es=>cases ks with
   |nil=>cases es with
    |nil=>cases k1 with
     |none=>exact .fail
     |some k1=>exact Cy (hd.e hs _) (hd.e hs _)
    |cons=>exact .fail
   |cons k2 ks=>cases ks with
    |cons=>exact .fail
    |nil=>cases es with
     |nil=>exact .fail
     |cons e2 es=>cases es with
      |cons=>exact .fail
      |nil=>cases k1 with
       |none=>exact .fail
       |some k1=>cases k2 with
        |none=>exact .fail
        |some k2=>refine .opt λq1 h1=>.opt λq2 h2=>.opt λi1 h3=>.opt λi2 h4=>.Gb λcF=>?_;refine(lJ h1)▸(lJ h2)▸?_;exact yJ (dy h3).1 (dy h4).1 (dy h3).2 (dy h4).2 (yM cF) (hd.e hs _) (hd.e hs _)
def Ou (G:Cfg)(d:Dn)(se:SE)(l:SX)(ops:R4 Zk)(rs:R4 SX):WM V:=match ops with
 |[]=>aJ
 |op::os=>(match rs with
  |[]=>aJ
  |r::rs=>(match os with |_::_=>aJ |[]=>(match rs with |_::_=>aJ |[]=>Ui (behindInMarks op r) aJ (Z (d.e se l) λx=>Z (d.e se r) λy=>Gc op x y))))
theorem KU (hd:fG U k G d)(hs:cD se env c)(l:SX)(ops:R4 Zk)(rs:R4 SX)(pos:UM):aU U k c VR (S3 (.Compare l ops rs pos) env) (Ou G d se l ops rs):=by
 cases ops with
 |nil=>exact .fail
 |cons op os=>cases rs with
  |nil=>exact .fail
  |cons r rs=>cases os with
   |cons=>exact .fail
   |nil=>cases rs with
    |cons=>exact .fail
    |nil=>exact .Gb λh=>JT h (hd.e hs _) (hd.e hs _) (tW _)
noncomputable def adK:Const->WM V |.int i=>ae (.int i) |.bool b=>ae (.bool b) |.none=>ae .none |_=>aJ
noncomputable def unW (d:Dn)(se:SE)(x:SX):UnaryOp->WM V |.USub=>Z (d.e se x) fS |.Not=>Z (d.e se x) λx=>Z (aj x) λb=>ae (.bool (!b)) |_=>aJ
def abw (d:Dn)(se:SE)(vs:R4 SX):WM V:=match vs with
 |[]=>aJ
 |x::r=>(match r with |[]=>aJ |y::r=>(match r with |_::_=>aJ |[]=>Z (d.e se x) λx=>bK (aj x) (ae x) (d.e se y)))
theorem QK (hd:fG U k G d)(hs:cD se env c)(vs:R4 SX)(pos:UM):aU U k c VR (S3 (.BoolOp .Or vs pos) env) (abw d se vs):=by
 cases vs with
 |nil=>exact .fail
 |cons x r=>cases r with
  |nil=>exact .fail
  |cons y r=>cases r with
   |cons=>exact .fail
   |nil=>exact J1 (hd.e hs _) (hd.e hs _)
def abx (G:Cfg)(d:Dn)(se:SE)(e:SX):WM V:=by
 cases e with
 |Constant v=>exact adK v
 |Name x=>exact Op G se x
 |BinOp l op r pos=>exact Z (d.e se l) λx=>Z (d.e se r) λy=>abl G pos op x y
 |UnaryOp op x=>exact unW d se x op
 |BoolOp op vs=>cases op with
  |Or=>exact abw d se vs
  |And=>exact aJ
 |IfExp t b o=>exact bK (d.t se t) (d.e se b) (d.e se o)
 |Compare l ops rs=>exact Ou G d se l ops rs
 |List elts pos=>exact Ui (eU elts) (Z (lG (d.e se) elts) (vD (kN G pos))) aJ
 |Tuple elts=>exact Ui (eU elts) (Z (lG (d.e se) elts) (vD cR)) aJ
 |Dict keys values=>exact Ot d se keys values
 |ListComp elt gens scope pos=>exact pX G d se elt gens scope pos
 |DictComp kx vx gens scope pos=>exact Gf G d se kx vx gens scope pos
 |Call f args kj pos=>exact Gh G d se f args kj pos
 |Attribute v name=>exact atW G d se v name
 |Subscript v s pos=>exact Os G d se v s pos
 |_=>exact aJ
theorem KV (hG:dm U k G)(hd:fG U k G d)(hs:cD se env c)(e:SX):aU U k c VR (S3 e env) (abx G d se e):=by
 cases e with
 |Constant v n p=>
  cases v with
  |int i=>exact AC
  |bool b=>exact EE
  |none=>exact EG
  |_=>exact .fail
 |Name x p=>exact KF hG hs x p
 |BinOp l op r pos=>exact sk (hd.e hs _) (hd.e hs _) (QA pos op)
 |UnaryOp op x p=>
  cases op with
  |USub=>exact ph (ow:=fS) (hd.e hs _) AD
  |Not=>exact J0 (hd.e hs _)
  |_=>exact .fail
 |BoolOp op vs p=>
  cases op with
  |Or=>exact QK hd hs vs p
  |And=>exact .fail
 |IfExp t b o p=>exact sv (hd.t hs _) (hd.e hs _) (hd.e hs _)
 |Compare l ops rs p=>exact KU hd hs l ops rs p
 |List elts p=>exact .xQ λh=>Fy (cS G p) (lH (λe=>hd.e hs e) h)
 |Tuple elts n p=>exact .xQ λh=>Cp (lH (λe=>hd.e hs e) h)
 |Dict keys values p=>exact KT hd hs keys values p
 |ListComp elt gens scope p=>exact vO hd hs elt gens scope p
 |DictComp kx vx gens scope p=>exact Gg hd hs kx vx gens scope p
 |Call f args kj p=>exact Gi hG hd hs f args kj p
 |Attribute v name p=>exact abu hG hd hs v name p
 |Subscript v s p=>exact KS hd hs v s p
 |_=>exact .fail
noncomputable def Gm (T:SX->WM Tn):R4 SX->WM Tn |[]=>ae Sn |e::r=>eH (T e) (Gm T r)
noncomputable def QL (T:SX->WM Tn):R4 SX->WM Tn |[]=>ae Sf |e::r=>oh (T e) (QL T r)
def Ov (G:Cfg)(d:Dn)(se:SE)(l:SX)(ops:R4 Zk)(rs:R4 SX):WM Tn:=match ops with
 |[]=>aJ
 |op::os=>(match rs with
  |[]=>aJ
  |r::rs=>(match os with
   |[]=>(match rs with |_::_=>aJ |[]=>Ui (behindInMarks op r) aJ (Z (d.e se l) λx=>Z (d.e se r) λy=>Z (Gc op x y) aj))
   |o2::os=>(match rs with
    |[]=>aJ
    |r2::rs=>(match os with |_::_=>aJ |[]=>(match rs with
     |_::_=>aJ
     |[]=>Ui (lastMarks [op,o2] [r,r2]) aJ (Z (d.e se l) λx=>Z (d.e se r) λy=>bK (Z (Gc op x y) aj) (Z (d.e se r2) λz=>Z (Gc o2 y z) aj) (ae Sf)))))))
theorem KW (hd:fG U k G d)(hs:cD se env c)(l:SX)(ops:R4 Zk)(rs:R4 SX)(pos:UM){w:Xf Sz}:aU U k c BR (UE (.Compare l ops rs pos) env w) (Ov G d se l ops rs):=by
 cases ops with
 |nil=>exact .fail
 |cons op os=>cases rs with
  |nil=>exact .fail
  |cons r rs=>cases os with
   |nil=>cases rs with
    |cons=>exact .fail
    |nil=>exact .Gb λh=>EP h (hd.e hs _) (hd.e hs _) (tW _)
   |cons o2 os=>cases rs with
    |nil=>exact .fail
    |cons r2 rs=>cases os with
     |cons=>exact .fail
     |nil=>cases rs with
      |cons=>exact .fail
      |nil=>exact .Gb λh=>yE h (hd.e hs _) (hd.e hs _) (hd.e hs _) (tW _) (tW _)
def adL (G:Cfg)(d:Dn)(se:SE)(o:WM Tn)(e:SX):WM Tn:=by
 cases e with
 |UnaryOp op x=>cases op with
  |Not=>exact ka (d.t se x)
  |_=>exact aJ
 |BoolOp op vs=>cases op with
  |And=>exact Gm (d.t se) vs
  |Or=>exact QL (d.t se) vs
 |Compare l ops rs=>exact Ov G d se l ops rs
 |_=>exact o
def aby (G:Cfg)(d:Dn)(se:SE)(e:SX):WM Tn:=adL G d se (Ui (cls e==5) aJ (Z (d.e se e) aj)) e
theorem KY {T:SX->WM Tn}{w:Xf Sz}(h: ∀e,aU U k c BR (UE e env (S3 e env)) (T e))(vs:R4 SX):aU U k c BR (UE (.BoolOp .And vs pos) env w) (Gm T vs):=by
 induction vs with
 |nil=>exact B7
 |cons e r ih=>exact EK (h e) ih
theorem QM {T:SX->WM Tn}{w:Xf Sz}(h: ∀e,aU U k c BR (UE e env (S3 e env)) (T e))(vs:R4 SX):aU U k c BR (UE (.BoolOp .Or vs pos) env w) (QL T vs):=by
 induction vs with
 |nil=>exact EL
 |cons e r ih=>exact JZ (h e) ih
theorem KZ (hG:dm U k G)(hd:fG U k G d)(hs:cD se env c)(e:SX):aU U k c BR (UE e env (S3 e env)) (aby G d se e):=by
 have oth: ∀{e:SX},aU U k c BR (UE e env (S3 e env)) (Ui (cls e==5) aJ (Z (d.e se e) aj)):=.Gb λh=>xX (hd.e hs _) (yK (yM h));cases e with
 |UnaryOp op x p=>cases op with
  |Not=>exact EJ (hd.t hs x)
  |_=>exact .fail
 |BoolOp op vs p=>cases op with
  |And=>exact KY (λe=>hd.t hs e) vs
  |Or=>exact QM (λe=>hd.t hs e) vs
 |Compare l ops rs p=>exact KW hd hs l ops rs p
 |_=>exact oth
noncomputable def D (G:Cfg):SH->Dn
 |0=>⟨λO O=>aJ,λO O=>aJ⟩
 |n+1=>⟨abx G (D G n),aby G (D G n)⟩
theorem CH (hG:dm U k G)(n:SH):fG U k G (D G n):=by
 induction n with
 |zero=>exact⟨λO O=>.fail,λO O=>.fail⟩
 |succ n ih=>exact⟨λhs e=>KV hG ih hs e,λhs e=>KZ hG ih hs e⟩
end
end
section
section
variable{c:Cx}
variable{G:Cfg}
theorem gH {e:SX}{t:SX}{l:SH}(h:asName t=Sg):swapsWith e (R3 t) l env=pure Sf:=by
 cases e with
 |ListComp=>cases t with
  |Name=>cases h
  |_=>rfl
 |SetComp=>cases t with
  |Name=>cases h
  |_=>rfl
 |DictComp=>cases t with
  |Name=>cases h
  |_=>rfl
 |_=>rfl
noncomputable def sM (e:SX):Si (SX×SX×UM):=if h:e.ctorIdx=21 then XZ (motive_1:=λO=>Si (SX×SX×UM)) e h λo i p=>R3 (o,i,p)else Sg
theorem qc {e:SX}{q:SX×SX×UM}(h:sM e=R3 q):e=.Subscript q.1 q.2.1 q.2.2:=by
 by_cases z:e.ctorIdx=21;·exact XZ (motive_1:=λe=>sM e=R3 q->e=.Subscript q.1 q.2.1 q.2.2) e z (λo i p h=>by obtain rfl:=R7 h;rfl) h
 ·exact c6 ((W2 z).symm.trans h)
def elW (d:Dn)(se:SE)(e:SX):Si (V->WM Unit):=(asName e).elim ((sM e).elim Sg λq=>R3 λv=>Z (d.e se q.1) λx=>Z (d.e se q.2.1) λy=>J7 x y v) λq=>A6 se q.1
theorem elim_some {δ:Type}{o:Si γ}{a:γ}{f:δ}{h:γ->δ}(e:o=R3 a):o.elim f h=h a:=by subst e;rfl
theorem elim_none {δ:Type}{o:Si γ}{f:δ}{h:γ->δ}(e:o=Sg):o.elim f h=f:=by subst e;rfl
theorem abz (hd:fG U k G d)(hs:cD se env c){e:SX}{f:V->WM Unit}(h:elW d se e=R3 f):cls e≠1/\dv U k c UR (λv=>assign e env v) f:=by
 cases h1:asName e with
 |some q=>rw[eT h1];exact⟨by show ¬(0=1);decide,fT (jo hs ((elim_some h1).symm.trans h))⟩
 |none=>
  replace h:=(elim_none h1).symm.trans h;cases h2:sM e with
  |none=>exact c6 ((elim_none h2).symm.trans h)
  |some q=>replace h:=(elim_some h2).symm.trans h;obtain rfl:=R7 h;rw[qc h2];exact⟨by show ¬(0=1);decide,vG (hd.e hs _) (hd.e hs _) nE⟩
noncomputable def QN (d:Dn)(se:SE):R4 SX->Si (R4 (V->WM Unit))
 |[]=>R3 []
 |e::r=>(elW d se e).bind λf=>(QN d se r).bind λfs=>R3 (f::fs)
theorem CL {e:SX}{r:R4 SX}(h:cls e≠1):assignEach (e::r) env=(Sf,assign e env)::assignEach r env:=by
 cases e<;>first |rfl |exact Sw rfl h
theorem Gn (hd:fG U k G d)(hs:cD se env c){l:R4 SX}: ∀{ws:R4 (V->WM Unit)},QN d se l=R3 ws->Stores U k c ((assignEach l env).map (·.2)) ws/\(assignEach l env).findIdx? (·.1)=Sg:=by
 induction l with
 |nil=>intro ws h;obtain rfl:=R7 h;exact⟨.nil,rfl⟩
 |cons e r ih=>intro ws h;obtain⟨f,h1,h⟩:=TY.mp h;obtain⟨fs,h2,h⟩:=TY.mp h;obtain rfl:=R7 h;obtain⟨q1,q2⟩:=abz hd hs h1;obtain⟨q3,q4⟩:=ih h2;refine(CL q1)▸?_;refine⟨.cons q2 q3,?_⟩;rw[List.findIdx?_cons];simp[q4]
noncomputable def fW (nk:R4 (Tj×Vj))(ts:R4 SX):R4 Tj:=ts.filterMap λe=>swappedStores.match_8 (λO=>Si Tj) e (λid pos=>if nk.lookup id==R3 .local && pos.line==(ts.head?.map (·.pos.line)).getD 0 then R3 id else Sg) λO=>Sg
noncomputable def isStar (e:SX):Tn:=swappedStores.match_5 (λO=>Tn) e (λO O=>Sn) λO=>Sf
def swT (nk:R4 (Tj×Vj))(ts vs:R4 SX):Si (Si (R4 Tj)):=
 if(!(ts.length==2 || ts.length==3) || vs.length !=ts.length)=Sn then R3 Sg
  else if(vs.any isStar)=Sn then R3 Sg
  else if((fW nk ts).length !=ts.length || (fW nk ts).eraseDups.length !=(fW nk ts).length)=Sn then R3 Sg
  else if(vs.all (foldedForSure 8))=Sn then R3 Sg
  else if(vs.all (constantsAlone 8))=Sn then Sg else R3 (R3 (fW nk ts))
noncomputable def sN (e:SX):Si (R4 SX×SH×UM):=if h:e.ctorIdx=25 then YX (motive_1:=λO=>Si (R4 SX×SH×UM)) e h λvs n p=>R3 (vs,n,p)else Sg
theorem vQ {e:SX}{q:R4 SX×SH×UM}(h:sN e=R3 q):e=.Tuple q.1 q.2.1 q.2.2:=by
 by_cases z:e.ctorIdx=25;·exact YX (motive_1:=λe=>sN e=R3 q->e=.Tuple q.1 q.2.1 q.2.2) e z (λvs n p h=>by obtain rfl:=R7 h;rfl) h
 ·exact c6 ((W2 z).symm.trans h)
theorem abA {e:SX}{ts:R4 SX}(h:sN e=Sg):swappedStores [.Tuple ts n p] e env=pure Sg:=by
 cases e with
 |Tuple=>cases h
 |_=>rfl
def swN (nk:R4 (Tj×Vj))(ts:R4 SX)(value:SX):Si (Si (R4 Tj)):=(sN value).elim (R3 Sg) λq=>swT nk ts q.1
theorem lK {P:Prop}[Decidable P]{r:Si (R4 Tj)}{o:Si (Si (R4 Tj))}{m:Xf (Si (R4 Tj))}(h:(if P then R3 Sg else o)=R3 r)(q:o=R3 r->m=pure r):(if P then pure Sg else m)=pure r:=by
 by_cases z:P;·rw[Sv z]at h ⊢;obtain rfl:=R7 h;rfl
 ·rw[Sq z]at h ⊢;exact q h
theorem Go (hs:cD se env c){ts:R4 SX}{r:Si (R4 Tj)}(h:swN se.names ts value=R3 r):swappedStores [.Tuple ts n p] value env=pure r:=by
 have hb:env.blockKind=.function:=by unfold Env.blockKind;rw[hs.e.kind];rfl
 replace h:=hs.names▸h;unfold swN at h;cases e1:sN value with
 |none=>replace h:=e1▸h;obtain rfl:=R7 h;exact abA e1
 |some q=>
  rw[e1]at h;obtain⟨vs,n',p'⟩:=q;rw[vQ e1];have e:swappedStores [.Tuple ts n p] (.Tuple vs n' p') env=(if(!(ts.length==2 || ts.length==3) || vs.length !=ts.length || env.blockKind != .function)=Sn then pure Sg
   else if(vs.any isStar)=Sn then pure Sg
   else if((fW env.scope.names ts).length !=ts.length || (fW env.scope.names ts).eraseDups.length !=(fW env.scope.names ts).length)=Sn then pure Sg
   else if(vs.all (foldedForSure 8))=Sn then pure Sg
   else if(vs.all (constantsAlone 8))=Sn then(do unsupported "assign.tuple-of-constant-expressions:order-of-the-stores";pure (R3 (fW env.scope.names ts)))else pure (R3 (fW env.scope.names ts))):=rfl
  refine e.trans ?_;rw[hb,bne_self_eq_false,YG];refine lK h λh=>lK h λh=>lK h λh=>lK h λh=>?_;by_cases z:(vs.all (constantsAlone 8))=Sn;·replace h:=(Sv z)▸h;cases h
  ·rw[Sq z]at h ⊢;obtain rfl:=R7 h;rfl
noncomputable def QO (se:SE):R4 Tj->Si (R4 (V->WM Unit))
 |[]=>R3 []
 |y::r=>(A6 se y).bind λf=>(QO se r).bind λfs=>R3 (f::fs)
theorem QP (hs:cD se env c){l:R4 Tj}: ∀{ws:R4 (V->WM Unit)},QO se l=R3 ws->Stores U k c (l.map λn=>bindName env n) ws:=by
 induction l with
 |nil=>intro ws h;obtain rfl:=R7 h;exact .nil
 |cons e r ih=>intro ws h;obtain⟨f,h1,h⟩:=TY.mp h;obtain⟨fs,h2,h⟩:=TY.mp h;obtain rfl:=R7 h;exact .cons (FJ (jo hs h1)) (ih h2)
def bP:Unit->WM Fl:=λO=>ae .next
def Bb (d:Dn)(se:SE)(elts:R4 SX)(value:SX):WM Fl:=(swN se.names elts value).elim aJ λo=>
 o.elim ((QN d se elts).elim aJ λws=>Z (d.e se value) λv=>Z (oX ws v) bP) λnames=>(QO se names.reverse).elim aJ λws=>Z (d.e se value) λv=>Z (pO ws v) bP
theorem CM (hd:fG U k G d)(hs:cD se env c)(elts:R4 SX)(n:SH)(p:UM)(value:SX)(pos:UM):aU U k c FR (Vu (.Assign [.Tuple elts n p] value pos) env) (Bb d se elts value):=by
 have A0:swapsWithSole [.Tuple elts n p] value pos.line env=pure Sf:=gH (e:=value) (t:=.Tuple elts n p) (l:=pos.line) (env:=env) rfl;refine .opt λo h=>?_;cases o with
 |some names=>exact .opt λws hw=>kK (hd.e hs _) (QP hs hw) A0 (Go hs h)
 |none=>exact .opt λws hw=>mK (hd.e hs _) (Gn hd hs hw).1 (Gn hd hs hw).2 A0 (Go hs h)
def QQ (p:T8):Si (Tj×UM×SX):=Ui (p.ifs.isEmpty && p.is_async==0) ((asName p.target).map λq=>(q.1,q.2,p.iter)) Sg
theorem Bc {p:T8}{q:Tj×UM×SX}(h:QQ p=R3 q):p=⟨.Name q.1 q.2.1,q.2.2,[],0⟩:=by
 obtain⟨ha,h⟩:=fZ h;obtain⟨q',h1,rfl⟩:=SR.mp h;rw[Tt]at ha;obtain⟨tg,it,ifs,n⟩:=p;cases ifs with
 |nil=>cases eT h1;cases eq_of_beq ha.2;rfl
 |cons=>exact dq ha.1
def abE (l:R4 T8):Si ((Tj×UM×SX)×(Tj×UM×SX)):=match l with
 |[]=>Sg
 |p::r=>(match r with |[]=>Sg |p2::r=>Ui r.isEmpty ((QQ p).bind λq1=>(QQ p2).map λq2=>(q1,q2)) Sg)
theorem Be {l:R4 T8}{q:(Tj×UM×SX)×(Tj×UM×SX)}(h:abE l=R3 q):l=[⟨.Name q.1.1 q.1.2.1,q.1.2.2,[],0⟩,⟨.Name q.2.1 q.2.2.1,q.2.2.2,[],0⟩]:=by
 cases l with
 |nil=>exact c6 h
 |cons p r=>cases r with
  |nil=>exact c6 h
  |cons p2 r=>
   obtain⟨ha,h⟩:=fZ h;obtain⟨q1,h1,h⟩:=TY.mp h;obtain⟨q2,h2,rfl⟩:=SR.mp h;cases r with
   |nil=>rw[Bc h1,Bc h2]
   |cons=>exact dq ha
noncomputable def swB (se:SE)(scope:Wq)(y:Tj)(py pos:UM):Tn:=se.names.lookup y==R3 .local && py.line==pos.line && !(scope.names.any λp=>p.1==y && (p.2== .local || p.2== .cell))
def abF (G:Cfg)(d:Dn)(se:SE)(y:Tj)(py:UM)(f:V->WM Unit)(elt:SX)(gens:R4 T8)(scope:Wq)(pos:UM):WM Fl:=(abE gens).elim aJ λq=>
 Ui (kO se scope [q.1.1,q.2.1] && (cls q.1.2.2 !=3) && (cls q.2.2.2 !=3) && swB se scope y py pos)
  (Z (Z (d.e se q.1.2.2) λx=>Z (Qw (cA se scope [q.1.1,q.2.1]) (d.e (cse se scope (cA se scope [q.1.1,q.2.1])) q.2.2.2) (d.e (cse se scope (cA se scope [q.1.1,q.2.1])) elt) x) (kN G pos)) λv=>Z (f v) bP) aJ
noncomputable def QR (e:SX):Si (SX×R4 T8×Wq×UM):=if h:e.ctorIdx=8 then Yk (motive_1:=λO=>Si (SX×R4 T8×Wq×UM)) e h λelt gens scope pos=>R3 (elt,gens,scope,pos)else Sg
theorem K0 {e:SX}{q:SX×R4 T8×Wq×UM}(h:QR e=R3 q):e=.ListComp q.1 q.2.1 q.2.2.1 q.2.2.2:=by
 by_cases z:e.ctorIdx=8;·exact Yk (motive_1:=λe=>QR e=R3 q->e=.ListComp q.1 q.2.1 q.2.2.1 q.2.2.2) e z (λelt gens scope pos h=>by obtain rfl:=R7 h;rfl) h
 ·exact c6 ((W2 z).symm.trans h)
def vR (G:Cfg)(d:Dn)(se:SE)(y:Tj)(py:UM)(f:V->WM Unit)(value:SX):WM Fl:=(QR value).elim (Ui (cls value==2) aJ (Z (d.e se value) λv=>Z (f v) bP))
 λq=>Ui (q.2.1.length==1) (Z (pX G d se q.1 q.2.1 q.2.2.1 q.2.2.2) λv=>Z (f v) bP) (abF G d se y py f q.1 q.2.1 q.2.2.1 q.2.2.2)
theorem yS {elt:SX}(hs:cD se env c)(y:Tj)(py:UM)(l:SH):
  swapsWith (.ListComp elt gens scope pos) (R3 (.Name y py)) l env=pure (swB se scope y py pos):=by
 have hb:env.blockKind=.function:=by unfold Env.blockKind;rw[hs.e.kind];rfl
 have e:swapsWith (.ListComp elt gens scope pos) (R3 (.Name y py)) l env=pure (env.blockKind== .function && env.kindOf y==R3 .local && py.line==pos.line && !(scope.names.any λ(n,k)=>n==y && (k== .local || k== .cell))):=rfl;rw[e,hb,hs.kind];rfl
theorem yT (hd:fG U k G d)(hs:cD se env c){f:V->WM Unit}(hf:A6 se y=R3 f)(py:UM)(value:SX)(pos:UM):aU U k c FR (Vu (.Assign [.Name y py] value pos) env) (vR G d se y py f value):=by
 refine .mN (λq hq=>?_) λO=>.Gb λh=>kI (hd.e hs _) (jo hs hf) (vN (yM h));refine(K0 hq)▸?_;obtain⟨elt,gens,scope,Gp⟩:=q;have A0:=yS (elt:=elt) (gens:=gens) (scope:=scope) (pos:=Gp) hs y py pos.line;refine .bif (λO=>?_) λO=>.opt λq hg=>.xQ λh=>?_
 ·cases hb:swB se scope y py Gp with
  |false=>rw[hb]at A0;exact kI (vO hd hs _ _ _ _) (jo hs hf) A0
  |true=>
   rw[hb]at A0;show aU U k c FR _ (Z (pX G d se elt gens scope Gp) λv=>Z (f v) bP);unfold pX;cases hg:Ge gens with
   |none=>exact λO O O O O O O O h=>h.elim
   |some q=>
    show aU U k c FR _ (Z (Ui _ _ aJ) λv=>Z (f v) bP);cases h:(kO se scope [q.1] && (cls q.2.2.1 !=3) && ((cA se scope [q.1]).drop 1).all (λp=>p.2 !=Sg))with
    |false=>exact λO O O O O O O O h=>h.elim
    |true=>obtain⟨e,cl,K,hC⟩:=tZ hs hg h;rw[e]at A0 ⊢;exact rq hs.e K (cS G Gp) (hd.e hs _) (λC=>pW (λe=>hd.t (hC C) e) _) (λC=>hd.e (hC C) _) (jo hs hf) A0
 ·rw[Tt,Tt,Tt]at h;obtain⟨⟨⟨h1,h2⟩,h3⟩,h4⟩:=h;rw[h4,show gens=_ from Be hg]at A0;obtain⟨cl,K,hC⟩:=A8 hs h1;refine(show gens=_ from Be hg)▸?_;exact KD hs.e K.Fv K.cell K.kind K.names K.sC K.d1 K.d2 (λv=>jO (yL h2)) (λC v=>jO (yL h3)) (cS G Gp) (hd.e hs _) (λC=>hd.e (hC C) _) (λC=>hd.e (hC C) _) (jo hs hf) A0
def Bf (d:Dn)(se:SE)(o i value:SX):WM Fl:=(sL i).elim (Z (d.e se value) λv=>Z (d.e se o) λx=>Z (d.e se i) λy=>Z (J7 x y v) bP)
 λq=>(qb q.1).elim aJ λj=>Z (d.e se value) λv=>Z (d.e se o) λx=>Z (F5 j x v) bP
def Gq (G:Cfg)(d:Dn)(se:SE)(o:SX)(name:Tj)(value:SX):WM Fl:=abt G name λC i=>Z (d.e se value) λv=>Z (d.e se o) λx=>Z (lu C i x v) bP
def Ow (G:Cfg)(d:Dn)(se:SE)(t value:SX):WM Fl:=(asName t).elim ((ub t).elim ((sM t).elim ((sN t).elim aJ λq=>Bb d se q.1 value) λq=>Bf d se q.1 q.2.1 value) λq=>Gq G d se q.1 q.2.1 value)
 λq=>(A6 se q.1).elim aJ λf=>vR G d se q.1 q.2 f value
theorem CN (hd:fG U k G d)(hs:cD se env c)(o i:SX)(p:UM)(value:SX)(pos:UM):aU U k c FR (Vu (.Assign [.Subscript o i p] value pos) env) (Bf d se o i value):=by
 refine .mN (λq hq=>.opt λj hj=>?_) λO=>pJ (hd.e hs _) (hd.e hs _) (hd.e hs _) nE (gH rfl);refine(lJ hq)▸?_;exact tV (dy hj).1 (dy hj).2 (hd.e hs _) (hd.e hs _) (gH rfl)
theorem K4 (hG:dm U k G)(hd:fG U k G d)(hs:cD se env c)(t value:SX)(pos:UM):aU U k c FR (Vu (.Assign [t] value pos) env) (Ow G d se t value):=
 .mN (λq e=>eT e▸.opt λf h=>yT hd hs h _ _ _) λO=>.mN (λq e=>sJ e▸.opt λi hi=>.opt λC hC=>oq (Gj hG hC) (dy hi).1 (hd.e hs _) (hd.e hs _) (gH rfl)) λO=>
  .mN (λq e=>qc e▸CN hd hs q.1 q.2.1 q.2.2 value pos) λO=>.opt λq e=>vQ e▸CM hd hs q.1 q.2.1 q.2.2 value pos
def abG (G:Cfg)(d:Dn)(se:SE)(ts:R4 SX)(value:SX):WM Fl:=match ts with
 |[]=>aJ
 |t::r=>Ui r.isEmpty (Ow G d se t value) aJ
theorem QS (hG:dm U k G)(hd:fG U k G d)(hs:cD se env c)(ts:R4 SX)(value:SX)(pos:UM):aU U k c FR (Vu (.Assign ts value pos) env) (abG G d se ts value):=by
 cases ts with
 |nil=>exact .fail
 |cons t r=>
  refine .xQ λhr=>?_;cases r with
  |cons=>exact dq hr
  |nil=>exact K4 hG hd hs t value pos
noncomputable def QT (S:Vo->WM Fl):R4 Vo->WM Fl
 |[]=>ae .next
 |[s]=>S s
 |s::t::r=>aq (S s) (QT S (t::r))
theorem QU {S:Vo->WM Fl}(h: ∀st,aU U k c FR (Vu st env) (S st))(l:R4 Vo):aU U k c FR (UX l env) (QT S l):=by
 induction l with
 |nil=>exact Kg
 |cons s r ih=>
  cases r with
  |nil=>exact vA (h s)
  |cons t r=>exact gF (h s) ih
def abH (G:Cfg)(d:Dn)(B:R4 Vo->WM Fl)(se:SE)(target iter:SX)(body:R4 Vo):WM Fl:=(asName target).elim aJ λq=>(A6 se q.1).elim aJ λf=>Ui (cls iter==3) aJ (Z (d.e se iter) (P8 f (B body)))
def abI (d:Dn)(se:SE)(ts:R4 SX):WM Fl:=match ts with |[]=>aJ |t::r=>Ui r.isEmpty ((sM t).elim aJ λq=>Z (d.e se q.1) λx=>Z (d.e se q.2.1) λy=>Z (PQ x y) bP) aJ
def QV (G:Cfg)(d:Dn)(B:R4 Vo->WM Fl)(se:SE)(st:Vo):WM Fl:=by
 cases st with
 |Assign ts value=>exact abG G d se ts value
 |Expr e=>exact Ui (cls e==2) aJ (Z (d.e se e) λO=>ae .next)
 |If t b o=>exact bK (d.t se t) (B b) (B o)
 |For target iter body orelse=>exact Ui orelse.isEmpty (abH G d B se target iter body) aJ
 |While t body orelse=>exact Ui orelse.isEmpty (yw (d.t se t) (B body)) aJ
 |Return v=>exact v.elim (ae (.ret .none)) λe=>Z (d.e se e) λv=>ae (.ret v)
 |Continue=>exact ae .cont
 |Delete ts=>exact abI d se ts
 |_=>exact aJ
theorem Gs (hG:dm U k G)(hd:fG U k G d)(hs:cD se env c){B:R4 Vo->WM Fl}(hB: ∀l,aU U k c FR (UX l env) (B l))(st:Vo):aU U k c FR (Vu st env) (QV G d B se st):=by
 cases st with
 |Assign ts v p=>exact QS hG hd hs ts v p
 |Expr e p=>exact .Gb λh=>Fk (hd.e hs _) (jb hs.e.kind) (vN (yM h))
 |If t b o p=>exact P7 (hd.t hs _) (hB _) (hB _)
 |For target iter body orelse p=>
  refine .xQ λhr=>?_;cases orelse with
  |cons=>exact nomatch hr
  |nil=>refine .opt λq hq=>.opt λf hf=>.Gb λh=>?_;refine(eT hq)▸?_;exact Ki (hd.e hs _) (fT (jo hs hf)) (hB _) (λO O=>rfl) (λv=>jO (yM h))
 |While t body orelse p=>
  refine .xQ λhr=>?_;cases orelse with
  |cons=>exact nomatch hr
  |nil=>exact Cm (hd.t hs _) (hB _)
 |Return v p=>cases v with
  |some e=>exact Kh (hd.e hs _)
  |none=>exact Fj
 |Continue p=>exact tQ
 |Delete ts p=>cases ts with
  |nil=>exact .fail
  |cons t r=>
   refine .xQ λhr=>?_;cases r with
   |cons=>exact nomatch hr
   |nil=>refine .opt λq hq=>?_;refine(qc hq)▸?_;exact yu (hd.e hs _) (hd.e hs _) J8
 |_=>exact .fail
noncomputable def Bn (G:Cfg)(d:Dn)(se:SE):SH->R4 Vo->WM Fl
 |0=>λO=>aJ
 |n+1=>QT (QV G d (Bn G d se n) se)
theorem Bg (hG:dm U k G)(hd:fG U k G d)(hs:cD se env c)(n:SH): ∀l,aU U k c FR (UX l env) (Bn G d se n l):=by
 induction n with
 |zero=>exact λO=>.fail
 |succ n ih=>exact λl=>QU (λst=>Gs hG hd hs ih st) l
noncomputable def iE (names:R4 (Tj×Vj))(sh:Shape):SE:=⟨names,sh.map λp=>(p.1,match p.2 with |none=>0 |some _=>1)⟩
theorem abJ {a:SM}{fd:TP}(F:FnAt U.K a fd body ps sh)(hG:dm U k G)(n m:SH):
  bZ U (k+1) a (lx ps.length (Bn G (D G n) (iE fd.scope.names sh) m body)):=
 Fc F λL fr=>Bg hG (CH hG n) ⟨E8 F.kind F.gl F.bi F.Ek L fr,rfl,by show VZ _ (VZ _ _)=VZ _ _;rw[Tg];refine TI λp O=>?_;obtain⟨y,o⟩:=p;cases o<;>rfl⟩ m body
end
end
section
section
variable{c:Cx}
structure ClF (U:Un)(f:SM)(fd:TP)(D cda cc:SM)(sn:Tj):Prop where
 lk:(U.K.lookup f).map (·.data)=R3 (.func fd)
 Ej:fd.closure=[(("__class__" :Tj),cc)]
 code:fd.code=.ref cda
 file: ∃o vs x t,U.K.lookup cda=R3 o/\o.data=.fields vs/\vs[2]? =R3 (.str x t)/\((U.prog.main.file:Tj)==x)=Sn
 top:(U.prog.main.scope.names.lookup ("super" :Tj)).isSome=Sf
 cell:(U.K.lookup cc).map (·.data)=R3 (.cell (R3 (.ref D)))
 cls: ∃cd,clsIn U.K D=R3 cd
 ks:fd.scope.names.lookup ("super" :Tj)=R3 .globalImplicit
 kc:fd.scope.names.lookup ("__class__" :Tj)=R3 .free
 arg: ∃ar,(fd.params.posonlyargs++fd.params.args).head? =R3 ar/\ar.arg=sn
 mw:fd.scope.names.lookup sn=R3 .local
 sup:nsIn U.K mainGlobals "super" =R3 Sg
 kind:fd.scope.kind=.function
 gl:fd.globals=mainGlobals
 bi:fd.builtins=builtinsNs
theorem yU:bootBuiltins "super" =R3 (.type "super"):=by first |rfl |kernel_rfl |boot_by_name
theorem sO {K:Vc}{cd:ClassData}(e:clsIn K C=R3 cd): ∃o,K.lookup C=R3 o/\o.data=.cls cd:=by
 delta clsIn at e
 cases q:K.lookup C with
 |none=>replace e:=q▸e;exact c6 e
 |some o=>replace e:=q▸e;refine⟨o,rfl,?_⟩;obtain⟨a,b,d,l⟩:=o;cases d<;>first |exact c6 e |exact SU _ (R7 e)
def Kp (U:Un)(h:We):Prop:=∀b o,U.base.get? b=R3 o->h.get? b=R3 o
set_option tactic.hygienic true in
theorem qe {attr:Tj}{f D cc L x:SM}{fd:TP}{sn:Tj}{m:Tj->Si Sz}{Q:Sz->TD->Prop}
  (F:ClF U f fd D cda cc sn) (kp:Kp U s.heap) (hn:s.heap.Ns L m) (hs:m sn=R3 (.ref x)) (hx:s.heap.get? x=R3 ox) (hc:ox.cls=.ref C) (Es: ∀c,ox.data≠.cls c) (hm:mroIn U.K C (.ref D)=R3 Sn) (K6:(attr==("__class__" :Tj))=Sf)
  (h: ∀h',h'.get? s.heap.objs.size=R3 {cls:=.type "super",dict:=Sg,data:=.fields #[.ref D,.ref x,.ref C],slots:=#[]}->(∀y o,s.heap.get? y=R3 o->h'.get? y=R3 o)->Q (.ref s.heap.objs.size) {s with heap:=h'}):
  _root_.PySem.wpAt (Tc U.prog U.w) A (.func body (callEnv fd L f)) (attributeBase (.Call (.Name "super" p0) [] [] p1) attr (callEnv fd L f) whole) Q E s:=by
 have X:U.K.In s.heap:=U.rk.keeps kp;obtain⟨hh,gg,d,t,os⟩:=s;obtain⟨of,hof,hfd⟩:=SR.mp F.lk;obtain⟨oc,hoc,hcd⟩:=SR.mp F.cell;obtain⟨oa,vs,x2,tf,ha,pD,Ke,abK⟩:=F.file;obtain⟨cdD,hD⟩:=F.cls;obtain⟨ar,har,Ox⟩:=F.arg;obtain⟨oD,hD1,hD2⟩: ∃oD,hh.get? D=R3 oD/\oD.data=.cls cdD:=by obtain⟨o,h1,h2⟩:=sO hD;exact⟨o,X _ _ h1,h2⟩
 refine ks_wpAt_super_base (env:=callEnv fd L f) F.ks F.kc K6 rfl (X _ _ hof) hfd har F.code (X _ _ ha) pD Ke abK F.top ?_;refine ks_loadName_global F.kind F.ks (XT (env:=callEnv fd L f) (mg:=U.mg) (by show ZE _ fd.globals U.mg;rw[F.gl];exact U.g.keeps kp) (mg_none_of U.rk U.g F.sup) (by show ZE _ fd.builtins U.mb;rw[F.bi];exact U.b.keeps kp) ((U.bi _ (by decide)).trans yU) ⟨rfl,?_⟩);refine wpAny_loadName_free F.kind F.kc (by show fd.closure.lookup _=R3 cc;rw[F.Ej];rfl) ⟨_,X _ _ hoc,hcd⟩ ?_;refine TX F.kind (by rw[Ox];exact F.mw) hn (by rw[Ox];exact hs) ?_;refine ks_wpAny_isType_cls hD1 hD2 ⟨rfl,?_⟩;exact ks_wpAny_call_super hD1 hD2 hx hc Es (ZW X hm) h
end
end
section
section
variable{c:Cx}
noncomputable abbrev adM (D x C:SM):WW:={cls:=.type "super",dict:=Sg,data:=.fields #[.ref D,.ref x,.ref C],slots:=#[]}
set_option tactic.hygienic true in
theorem Bh {so D x f2:SM}{pl:Xf Tn}{Q:Sz×R4 Sz->TD->Prop}(kp:Kp U s.heap)(Oy:s.heap.get? so=R3 (adM D x C))(hx:s.heap.get? x=R3 ox)(Es: ∀c,ox.data≠.cls c)
  (ho:nsIn U.K cStatics "thirdparty.any" =R3 Sg) (hm:W1 U.K C D name=R3 (R3 (.ref f2))) (ht:typeIn U.K (.ref f2)=R3 (.type "function")) (hn:(name==("__class__" :Tj))=Sf)
  (h:Q (.ref s.heap.objs.size,[]) {s with heap:=s.heap.push {cls:=.type "method",data:=.fields #[.ref f2,.ref x]},toks:=s.toks+1}):Tx (Tc U.prog U.w) A (getMethod (.ref so) name pl) Q E s:=by
 have X:U.K.In s.heap:=U.rk.keeps kp;obtain⟨hh,gg,d,t,os⟩:=s;cases hc:clsIn U.K C with
 |none=>unfold W1 at hm;replace hm:=hc▸hm;cases hm
 |some cd=>
  unfold W1 at hm;replace hm:=hc▸hm;obtain⟨of,hof,adN⟩: ∃of,hh.get? f2=R3 of/\of.cls=.type "function":=by have ht':(U.K.lookup f2).map (·.cls)=R3 (.type "function"):=ht;obtain⟨of,z,e⟩:=SR.mp ht';exact⟨of,X _ _ z,e⟩
  have QW:x≠C:=by rintro rfl;obtain⟨o,h1,h2⟩:=sO hc;have e:=X _ _ h1;replace e:=(show hh.get? x=R3 ox from hx)▸e;obtain rfl:=R7 e;exact Es _ h2
  exact ks_wpAny_getMethod_super Oy (looks_opaque X ho) (l₀:=cd.mro) (λA Q E s k q=>Sb ((V5 X hc) A _ E s k (SD q))) rfl X hm hof adN QW hn h
structure sP (U:Un)(f:SM)(fd:TP)(D cda cc:SM)(sn:Tj)(C f2:SM):Prop where
 F:ClF U f fd D cda cc sn
 m:mroIn U.K C (.ref D)=R3 Sn
 o:nsIn U.K cStatics "thirdparty.any" =R3 Sg
 i:W1 U.K C D "__init__" =R3 (R3 (.ref f2))
 t:typeIn U.K (.ref f2)=R3 (.type "function")
 n:fnIn U.K f2=Sn
def Gr (s s':TD):Prop:=(∀b o,s.heap.get? b=R3 o->s'.heap.get? b=R3 o)/\s'.gens=s.gens/\s'.os=s.os
theorem Gr.refl:Gr s s:=⟨λO O e=>e,rfl,rfl⟩
theorem Gr.trans {om:TD}(h:Gr s s')(h':Gr s' om):Gr s om:=⟨λb o e=>h'.1 b o (h.1 b o e),h'.2.1.trans h.2.1,h'.2.2.trans h.2.2⟩
theorem CO {f D cc L x f2:SM}{fd:TP}{sn:Tj}{m:Tj->Si Sz}{Q:ZF->TD->Prop}
  (zAC:sP U f fd D cda cc sn C f2) (kp:Kp U s.heap) (hn:s.heap.Ns L m) (hs:m sn=R3 (.ref x)) (hx:s.heap.get? x=R3 ox) (hc:ox.cls=.ref C) (Es: ∀c,ox.data≠.cls c) (hl:p2.endLine=p3.line)
  (h: ∀s',Gr s s'->T3 (Tc U.prog U.w) A (.call (.ref f2) ⟨[.ref x],[]⟩) (λr om=>match r with |.ok (.ret v)=>Q .next om |.error e=>E e om |_=>False) s'):
  _root_.PySem.wpAt (Tc U.prog U.w) A (.func body (callEnv fd L f)) (Vu (.Expr (.Call (.Attribute (.Call (.Name "super" p0) [] [] p1) "__init__" p2) [] [] p3) p4) (callEnv fd L f)) Q E s:=by
 have he:=lI (o:=.Call (.Name "super" p0) [] [] p1) (m:="__init__") (ap:=p2) (pos:=p3) (args:=[]) (env:=callEnv fd L f) rfl (by decide) hl;refine Ys (XU (qe zAC.F kp hn hs hx hc Es zAC.m (by decide) λh' e1 k1=>?_) he) (jb (env:=callEnv fd L f) zAC.F.kind) rfl;refine Bh (λb o e=>k1 b o (kp b o e)) e1 (k1 _ _ hx) Es zAC.o zAC.i zAC.t (by decide) ?_;have k2: ∀b o,s.heap.get? b=R3 o->(h'.push {cls:=.type "method",data:=.fields #[.ref f2,.ref x]}).get? b=R3 o:=λb o e=>Sp _ (k1 b o e);have hb:(h'.push {cls:=.type "method",data:=.fields #[.ref f2,.ref x]}).get? h'.objs.size=R3 (methodObj (.ref f2) (.ref x)):=To _ rfl;refine callWith_M0 ⟨hb,U.rk.keeps λb o e=>k2 b o (kp b o e)⟩ zAC.n (Vx (W9 hb (UA (h _ ⟨k2,rfl,rfl⟩) λr s' z=>?_)));rcases r with e |(v |_ |_ |_)<;>first |exact z |exact z.elim
end
end
section
section
variable{c:Cx}
theorem vT {l:R4 (Tj×Sz)}(hn:(l.map (·.1)).Nodup)(h:(y,v)∈l):l.reverse.lookup y=R3 v:=by
 induction l with
 |nil=>exact Sw h Sy
 |cons p r ih=>
  obtain⟨z,u⟩:=p;obtain⟨h1,h2⟩:=S6.mp hn;rw[Wk,List.lookup_append];rcases SZ.mp h with e |h
  ·cases e;have:r.reverse.lookup y=Sg:=by refine List.lookup_eq_none_iff.mpr λp hp=>?_;have:p.1∈r.map (·.1):=Tz (List.mem_reverse.mp hp);exact YS.mpr λz=>h1 (by show y∈_;rw[show y=p.1 from z];exact this)
   rw[this];show(Sg:Si Sz).or (List.lookup y [(y,v)])=_;rw[TZ,TV];rfl
  ·rw[ih h2 h];rfl
structure oy (K:Vc)(a:SM)(fd:TP)(body:R4 Vo)(ps:R4 Tj)(sh:Shape):Prop where
 look:(K.lookup a).map (·.data)=R3 (.func fd)
 code:codeIn K fd.code fd.qualname=Sn
 bd:fd.body=.stmts body
 bind: ∀as:R4 Sz,as.length=ps.length->bindArgs fd ⟨as,[]⟩=pure (ps.zip as)
 nc: ∀x∈fd.scope.names,x.2≠.cell
 kind:fd.scope.kind=.function
 gl:fd.globals=mainGlobals
 bi:fd.builtins=builtinsNs
 co:fd.scope.isCoroutine=Sf
 gen:fd.scope.isGenerator=Sf
 shn: ∀p∈sh,p.2=Sg/\fd.scope.names.lookup p.1=R3 .local
 d1:(sh.map (·.1)).Nodup
 pre:ps=(sh.map (·.1)).take ps.length
theorem QX {a fV D cc:SM}{fd:TP}{rest:R4 Vo}{sn:Tj}{w0:R4 V->WM V}
  (F:oy U.K a fd (.Expr (.Call (.Attribute (.Call (.Name "super" p0) [] [] p1) "__init__" p2) [] [] p3) p4::rest) ps sh) (zAC:sP U a fd D cda cc sn C fV) (hl:p2.endLine=p3.line) (h0:sh[0]? =R3 (sn,Sg))
  (hv:bZ U k fV w0) (hb: ∀L fr,aU U k (ctx L sh fr) FR (UX rest (callEnv fd L a)) fb):
  bZ U (k+1) a (lx ps.length (aq (Z (ac 0) λx0=>Fe C x0 (Z (w0 [x0]) λO=>ae .next)) fb)):=by
 intro c A g ρ J s Q xs as rm ok r q;obtain⟨hlx,q⟩:=q;obtain⟨o,ho,hd⟩:=SR.mp F.look;have Fb:as.length=ps.length:=by rw[r.len,hlx]
 have AU:(ps.zip as).map (·.1)=ps:=by rw[XO];exact yN [_,_] [] 64444567636 rfl Fb
 have psn:ps.Nodup:=by rw[F.pre];exact F.d1.sublist (Wi _ _)
 have par: ∀{i:SH} {y:Tj} {o:Si SH} {x:V},sh[i]? =R3 (y,o)->xs[i]? =R3 x->ps[i]? =R3 y:=λ{i y o x} e1 e2=>by have hi:i<xs.length:=(R6.mp e2).1;rw[F.pre,Tu (by exact yN [_,_,_] [] 0xf20a50125210a54 rfl hlx hi),Sx,e1];rfl
 refine ZK (binds:=ps.zip as) rm.room (ok.K _ _ ho) hd (U.sj.keeps ok.keep) (XV ok.K F.code) F.bd (.of_eq (F.bind as Fb)) F.nc ?_ ?_ F.co F.gen F.kind
 ·intro x hx;have Oj:x.1∈ps:=by exact AU▸(Tz hx)
  rw[F.pre]at Oj;obtain⟨p,hp,e⟩:=SL.mp (TU Oj);exact e▸((F.shn p hp).2)
 intro h₀ jL hk;have al:OK U (fF g c s) (ctx s.heap.objs.size sh (callEnv fd s.heap.objs.size a::c.o9)) ρ {loc:=λi=>xs[i]?,hp:=J.hp} {s with heap:=h₀,toks:=s.toks+(ps.zip as).length}:=by
  refine ok.enter (ev:=callEnv fd s.heap.objs.size a) (by show fd.scope.kind≠_;rw[F.kind];decide) rfl (S8 _) hk jL (λi y e x hx=>?_) (λi j y e=>?_) F.d1 ?_ rfl rfl
  ·obtain⟨v,hv,rv⟩:=r.get hx;exact⟨v,vT (by rw[AU];exact psn) (oS (par e hx) hv),rv⟩
  ·exact Sw (F.shn _ (R9 e)).1 (by simp)
  ·have:sh.filterMap (·.2)=[]:=List.filterMap_eq_nil_iff.mpr λp hp=>(F.shn p hp).1;exact this▸(Tm)
 have nG:du k (ctx s.heap.objs.size sh (callEnv fd s.heap.objs.size a::c.o9)) (A.deeper (callEnv fd s.heap.objs.size a)):=⟨by have:=rm.depth;exact yN [_,_] [] 0xf3843c1a21e0b503843c121e0ab54 rfl this,by have:=rm.units;exact yN [_,_] [] 0xf23284c1a282e0b5023284c1282e31c0bb54 rfl this,rm.hd,WT rm.fr⟩;obtain⟨x0,e0,q⟩:=pd q;obtain⟨ad,d,kvs,ex,ea,ed,q⟩:=q;subst ex;obtain⟨v0,hv0,rv0⟩:=r.get e0;obtain⟨x,dx,es,n,aF,qa,qd,hx,hdx,hD,hr,I,hl2⟩:=al.vn rv0 ea ed;refine VL (CO (m:=λy=>(ps.zip as).reverse.lookup y) zAC al.keep jL (vT (by rw[AU];exact psn) (oS (par h0 e0) hv0)) hx rfl (λc z=>by cases z) hl λs' gr=>?_);have aI:=al.grow gr.1 gr.2.1 gr.2.2;refine UA (hv _ _ _ ρ _ s' _ [.ref ad] [.ref x] nG aI ⟨rv0,TK⟩ q) λP9 aX z=>?_;rcases P9 with e |(v |_ |_ |_)<;>try exact z.elim
 obtain⟨aM,aL,v',bu,bI,-,tT⟩:=z;refine WH (T9 (hb _ _ _ _ aM aL aX _ nG bI tT) (λfl bR z=>?_) λO O z=>z.elim);obtain⟨b9,cg,r',c7,dK,c9,vC⟩:=z;have KC:=ok.leave (c':=ctx s.heap.objs.size sh (callEnv fd s.heap.objs.size a::c.o9)) (λb hb=>by
   rcases SZ.mp (show b∈s.heap.objs.size::c.sl from hb)with z |z;·exact .inl z
   ·exact .inr z) (bu.trans c7) dK
 cases r' with
 |ret v=>obtain⟨x,rfl,rv⟩:=c9;exact⟨b9,_,v,bu.trans c7,KC,rv,vC⟩
 |next=>subst c9;exact⟨b9,_,.none,bu.trans c7,KC,rfl,vC⟩
 |brk=>exact vC.elim
 |cont=>exact vC.elim
end
end
section
open Sem (wp)
section
variable{g:Vt GenState}{d:Drawn}{t:SH}{K:Vc}
variable{nm q:Tj}{N:SM}{k1:Si Sz}{B mO:Vn}{f:SM}
noncomputable abbrev vU (C t:SM):WW:={cls:=.ref C,data:=.fields #[.ref t,.none,.none,.none,.bool Sf,.none]}
theorem CP (F:ExcBaseFacts B newId mO bmN)(hB:bm.contains (.type B)=Sn){Q:Unit->TD->Prop}(hC:h.get? C=R3 (excClassObj nm q C N bs bm lL sn sub ab col dd k0 k1 k2 k3 k5 newId))(hq:Q () ⟨h,g,d,t,os⟩):
  Tx M A (checkBuiltinCall newId ⟨.ref C::rest,[]⟩) Q E ⟨h,g,d,t,os⟩:=by
 have abL:(Vm C::bm).contains (.type B)=Sn:=by rw[UP,hB,WG]
 have aeM:=F.noStar;simp only[checkBuiltinCall,F.newKind,F.newSplit,F.newRow];repeat (first |refine Ub hC ?_ |(refine U6 hC ?_;rw[abL]) |refine wpAny_staticBase_exc hC ?_ |refine wpAny_madeBy_exc hC ?_ |simp only[bne_self_eq_false,Xk,Xn] |wp_step)
 exact hq
theorem K7 (F:ExcBaseFacts B newId mO bmN)(hB:bm.contains (.type B)=Sn)(hA:bm.contains (.type "AttributeError")=Sf)(hN:bm.contains (.type "NameError")=Sf)
  (hC:h.get? C=R3 (excClassObj nm q C N bs bm lL sn sub ab col dd k0 k1 k2 k3 k5 newId)) (hq:R (.ok (.ret (.ref (h.objs.size+1)))) ⟨(h.push {cls:=.type "tuple",data:=.seq rest.toArray}).push (vU C h.objs.size),g,d,t,os⟩) (Bi:rest.length<=sizeLine):
  T3 (Tc prog w) A (.builtin newId ⟨.ref C::rest,[]⟩) R ⟨h,g,d,t,os⟩:=by
 have aeN:=F.ends;have hcB:(Vm C::bm).contains (.type B)=Sn:=by rw[UP,hB,WG]
 have hcA:(Vm C::bm).contains (.type "AttributeError")=Sf:=by rw[UP,hA];rfl
 have hcN:(Vm C::bm).contains (.type "NameError")=Sf:=by rw[UP,hN];rfl
 refine codeAny_builtinAt F.entry ?_;unfold Builtin.«BaseException.__new__»;refine ZM ?_;refine ZM (PySem.wpAt_stack λp below=>YZ ?_)
 wp_walk
 refine YZ ?_;refine F.owner▸?_;repeat (first |with_reducible refine wpAny_madeHere_exc F.canon hC ?_ |with_reducible refine Ub hC ?_ |(with_reducible refine U6 hC ?_;first |rw[hcB] |rw[hcA] |rw[hcN]) |wp_step)
 show R _ _;rw[U4];exact hq
end
end
section
section
variable{g:Vt GenState}{d:Drawn}{t:SH}{K:Vc}
variable{nm q:Tj}{N:SM}{k1:Si Sz}{B mO:Vn}{f:SM}
theorem rA (F:ExcBaseFacts B newId mO bmN)(hB:bm.contains (.type B)=Sn)(hA:bm.contains (.type "AttributeError")=Sf)(hN:bm.contains (.type "NameError")=Sf){Q:YC->TD->Prop}
  (hC:h.get? C=R3 (excClassObj nm q C N bs bm lL sn sub ab col dd k0 k1 k2 k3 k5 newId)) (X:K.In h) (hi:findIn K (.ref C) "__init__" =R3 (R3 (.ref f))) (ht:typeIn K (.ref f)=R3 (.type "function")) (Bi:rest.length<=sizeLine)
  (hq:T3 (Tc prog w) A (.call (.ref f) ⟨.ref (h.objs.size+1)::rest,[]⟩) (λr s'=>match r with |.ok (.ret v)=>v=.none/\Q (.done (.ret (.ref (h.objs.size+1)))) s' |.error e=>E e s' |_=>False) ⟨(h.push {cls:=.type "tuple",data:=.seq rest.toArray}).push (vU C h.objs.size),g,d,t,os⟩):
  Tx (Tc prog w) A (Builtin.«type.__call__» ⟨.ref C::rest,[]⟩) Q E ⟨h,g,d,t,os⟩:=by
 repeat (first |with_reducible refine Ub hC ?_ |with_reducible refine wpAny_madeBy_exc hC ?_ |wp_step)
 refine codeAny_call_builtin_code (Xh _ F.quiet) (CP F hB hC ?_);refine K7 F hB hA hN hC ?_ Bi;have k: ∀b o,h.get? b=R3 o->((h.push {cls:=.type "tuple",data:=.seq rest.toArray}).push (vU C h.objs.size)).get? b=R3 o:=λb o e=>Sp _ (Sp _ e);have abM:=k _ _ hC;have abN:K.In ((h.push {cls:=.type "tuple",data:=.seq rest.toArray}).push (vU C h.objs.size)):=X.keeps k;have adO:((h.push {cls:=.type "tuple",data:=.seq rest.toArray}).push (vU C h.objs.size)).get? (h.objs.size+1)=R3 (vU C h.objs.size):=by heap_get
 have hcC:(Vm C::bm).contains (.ref C)=Sn:=by simp
 unfold isInstance;repeat (first |with_reducible refine Ub adO ?_ |(with_reducible refine U6 abM ?_;rw[hcC]) |wp_step)
 refine(Wh abN hi).at ?_;refine T7 (Sb ((bind_fn abN (.ref (h.objs.size+1)) ht).at ?_));refine Sb (Vx (UA hq λr s' z=>?_));rcases r with e |(v |_ |_ |_)<;>first |exact z |exact z.elim |skip
 obtain⟨rfl,z⟩:=z
 wp_walk
 exact z
theorem Gu (F:ExcBaseFacts B newId mO bmN)(hB:bm.contains (.type B)=Sn)(hA:bm.contains (.type "AttributeError")=Sf)(hN:bm.contains (.type "NameError")=Sf){Q:Sz->TD->Prop}
  (hC:h.get? C=R3 (excClassObj nm q C N bs bm lL sn sub ab col dd k0 k1 k2 k3 k5 newId)) (X:K.In h) (hi:findIn K (.ref C) "__init__" =R3 (R3 (.ref f))) (ht:typeIn K (.ref f)=R3 (.type "function")) (Bi:rest.length<=sizeLine)
  (hq:T3 (Tc prog w) (A.under (.builtin "type.__call__" ⟨.ref C::rest,[]⟩)) (.call (.ref f) ⟨.ref (h.objs.size+1)::rest,[]⟩) (λr s'=>match r with |.ok (.ret v)=>v=.none/\Q (.ref (h.objs.size+1)) s' |.error e=>E e s' |_=>False) ⟨(h.push {cls:=.type "tuple",data:=.seq rest.toArray}).push (vU C h.objs.size),g,d,t,os⟩):
  Tx (Tc prog w) A (call (.ref C) rest) Q E ⟨h,g,d,t,os⟩:=by
 have f1:=tc_lookup;have f2:=tc_bind (.ref C);have hT:(⟨h,g,d,t,os⟩:TD).TypeIs (.ref C) "type":=⟨_,hC,rfl⟩;refine Vx (YH ?_);show Tx _ _ (callAny (.ref C) _) _ _ _;repeat (any_goals (first |assumption |with_reducible refine Ub hC ?_ |wp_step))
 refine⟨rfl,?_⟩;exact codeAny_call_builtin_at (Xh _ (by decide+kernel)) entry_typeCall (wpAny_check_type_call_sub hC (rA F hB hA hN hC X hi ht Bi (UA hq λr s' z=>z)))
end
end
section
open Sem (wp)
theorem nM:Slot "wrapper_descriptor" "__get__" "wrapper_descriptor.__get__":=.of (owner:="wrapper_descriptor") (n:="__get__") (by rw[typeLookup_type,builtinLookup_eq_fast];kernel_rfl) (by decide+kernel) (by decide+kernel) (by decide+kernel)
 (by first |exact .inl (by decide+kernel) |exact .inr (by decide+kernel)) (by rw[isSubtype_type];kernel_rfl)
theorem ud:entryFor table "wrapper_descriptor.__get__" =R3 Builtin.«wrapper_descriptor.__get__»:=entryFor_of_tree (by kernel_rfl)
theorem vV (a b c:Sz):argsOk "wrapper_descriptor.__get__" ⟨[a,b,c],[]⟩:=by unfold argsOk;kernel_rfl
theorem Bj:typeOf (.builtin "Exception.__init__")=pure (.type "wrapper_descriptor"):=by kernel_rfl
theorem K8:isInstance (.builtin "Exception.__init__") (.type "wrapper_descriptor")=pure Sn:=by unfold isInstance;rw[Bj,pure_bind,isSubtype_type];kernel_rfl
theorem K9:builtinKind "wrapper_descriptor.__get__" =R3 .slot:=by decide+kernel
theorem Gv:splitId "wrapper_descriptor.__get__" =R3 ("wrapper_descriptor","__get__"):=by decide+kernel
section
variable{g:Vt GenState}{d:Drawn}{t:SH}{K:Vc}
noncomputable abbrev lM (x:SM):WW:={cls:=.type "method-wrapper",data:=.fields #[.builtin "Exception.__init__",.ref x]}
theorem QY:".".intercalate ("Exception.__init__".cutAt '.').dropLast="Exception":=by decide+kernel
theorem QZ {x:SM}{Q:YC->TD->Prop}(hx:h.get? x=R3 ox)(hc:ox.cls=.ref C)(hi:Looks (Tc prog w) h (isSubtype (.ref C) (.type "Exception")) Sn)(hq:Q (.done (.ret (.ref h.objs.size))) ⟨h.push (lM x),g,d,t,os⟩):
  Tx (Tc prog w) A (Builtin.«wrapper_descriptor.__get__» ⟨[.builtin "Exception.__init__",.ref x,.ref C],[]⟩) Q E ⟨h,g,d,t,os⟩:=by
 unfold Builtin.«wrapper_descriptor.__get__»;repeat (first |(with_reducible refine Looks.at hi ?_) |(with_reducible refine Ub hx ?_;rw[hc]) |wp_step |simp only[QY])
 all_goals exact hq
theorem Gw {so D x:SM}{l₀ l:R4 Sz}{Q:YC->TD->Prop}
  (Oy:h.get? so=R3 {cls:=.type "super",dict:=Sg,data:=.fields #[.ref D,.ref x,.ref C],slots:=#[]}) (hno:Looks (Tc prog w) h (opaqueClassAbove (.ref C)) Sg)
  (hC:Looks (Tc prog w) h (mroOf (.ref C)) l₀) (hl:(l₀.dropWhile (· != .ref D)).drop 1=l) (X:K.In h)
  (hf:alongIn K "__init__" l=R3 (R3 (.builtin "Exception.__init__"))) (hx:h.get? x=R3 ox) (hc:ox.cls=.ref C) (hi:Looks (Tc prog w) h (isSubtype (.ref C) (.type "Exception")) Sn) (QW:x≠C)
  (hq:Q (.done (.ret (.ref h.objs.size))) ⟨h.push (lM x),g,d,t,os⟩):
  Tx (Tc prog w) A (Builtin.«super.__getattribute__» ⟨[.ref so,.str "__init__" tk],[]⟩) Q E ⟨h,g,d,t,os⟩:=by
 have hlk:=nM.lookup;have hte:=Bj;have cF:(Vm x==Vm C)=Sf:=by simp[QW]
 have hdt:({cls:=.type "super",dict:=Sg,data:=.fields #[.ref D,.ref x,.ref C],slots:=#[]}:WW).data=.fields #[.ref D,.ref x,.ref C]:=rfl;have f0:(#[.ref D,.ref x,.ref C]:Vt Sz)[0]? =R3 (.ref D):=rfl;have f1:(#[.ref D,.ref x,.ref C]:Vt Sz)[1]? =R3 (.ref x):=rfl;have f2:(#[.ref D,.ref x,.ref C]:Vt Sz)[2]? =R3 (.ref C):=rfl;unfold Builtin.«super.__getattribute__»;repeat (first
  |(with_reducible refine UB Oy hdt f0 ?_) |(with_reducible refine UB Oy hdt f1 ?_) |(with_reducible refine UB Oy hdt f2 ?_)
  |(with_reducible refine ks_wpAny_notOpaque hno ?_)
  |(with_reducible refine Looks.at hC ?_;rw[hl])
  |(refine ks_forIn_along X (λO O=>rfl) rfl ?_ hf)
  |(with_reducible refine Vw hte ?_)
  |(with_reducible refine Vw hlk ?_)
  |(simp only[cF,YG,Xk,Xn])
  |wp_step
  |dsimp only)
 refine Xp nM.plain ud (@check_slot (Tc prog w) _ _ _ "wrapper_descriptor.__get__" "wrapper_descriptor" "__get__" _ _ [] _ K9 Gv (Looks.of_pure K8) (vV _ _ _) (QZ hx hc hi ?_))
 wp_walk
 exact hq
end
end
section
open Sem (wp)
section
variable{nm q:Tj}{N:SM}{k1:Si Sz}{B mO:Vn}{f:SM}
variable{g:Vt GenState}{d:Drawn}{t:SH}{K:Vc}
theorem La {so D x:SM}{l₀ l:R4 Sz}{pl:Xf Tn}{Q:Sz×R4 Sz->TD->Prop}
  (Oy:h.get? so=R3 {cls:=.type "super",dict:=Sg,data:=.fields #[.ref D,.ref x,.ref C],slots:=#[]}) (hno:Looks (Tc prog w) h (opaqueClassAbove (.ref C)) Sg)
  (hC:Looks (Tc prog w) h (mroOf (.ref C)) l₀) (hl:(l₀.dropWhile (· != .ref D)).drop 1=l) (X:K.In h)
  (hf:alongIn K "__init__" l=R3 (R3 (.builtin "Exception.__init__"))) (hx:h.get? x=R3 ox) (hc:ox.cls=.ref C) (hi:Looks (Tc prog w) h (isSubtype (.ref C) (.type "Exception")) Sn) (QW:x≠C)
  (hq:Q (.ref h.objs.size,[]) ⟨h.push (lM x),g,d,t+1,os⟩):
  Tx (Tc prog w) A (getMethod (.ref so) "__init__" pl) Q E ⟨h,g,d,t,os⟩:=by
 have hlk:=XM.lookup;have adP:=F.ks_canon_super_ga;have hT: ∀t',(⟨h,g,d,t',os⟩:TD).TypeIs (.ref so) "super":=λO=>⟨_,Oy,rfl⟩;unfold getMethod;refine Sb (wpAny_specialOf (hT _) hlk ?_);show Tx _ _ (if(Manifest.canonical "super.__getattribute__" !="object.__getattribute__")=Sn then _ else _) _ _ _;refine(Sv adP)▸?_;unfold getAttr getAttrBy;refine Sb (Sb (Zo (T7 (Sb (Zn (hT _) (Sb (Vw hlk ?_)))))));show Tx _ _ (getAttrByItsOwn (.ref so) (.str "__init__" t) (.type "super") (.builtin "super.__getattribute__") Sn Sf) _ _ _;unfold getAttrByItsOwn hookBefore callGetattribute boundAndCalled;refine Sb (Vw (show(if onTheHeap (.type "super")then typeLookup (.type "super") "__getattr__" else pure Sg)=pure Sg from rfl) ?_);refine Sb (wpAny_attempt (T7 ?_));refine Sb (Vw (XM.bind _) ?_);refine T9 (Q:=λv s'=>v=.ref h.objs.size/\s'=⟨h.push (lM x),g,d,t+1,os⟩) (E:=λO O=>False)
  (Yq XM (hT _) F.ks_entry_super_ga (Gw Oy hno hC hl X hf hx hc hi QW ⟨_,rfl,rfl,rfl⟩) (F.ks_gaArgs_super _ _)) (λv s' hv=>?_) λO O z=>z.elim
 obtain⟨rfl,rfl⟩:=hv;exact SD (SD hq)
theorem cbc {sig:Manifest.Signature}{kind:Manifest.AttrKind}{self:Sz}{args:Args}(h1:Manifest.signature? id=R3 sig)(h2:builtinKind id=R3 kind)(h3:args.pos=self::rest)(h4:(kind != .method && kind != .classMethod)=Sn):checkBoundCall id args=(do let r <-Bind.checkArgs id sig args;return r):=by
 unfold checkBoundCall;refine h1▸h2▸h3▸?_;exact Sv h4
theorem Gx {b x:SM}{vs:Vt Sz}(hb:h.get? b=R3 (lM x))(hx:h.get? x=R3 ox)(hc:ox.cls=.ref C)(hd:ox.data=.fields vs)(hv:vs.size=6)(hn: ∃t0,vs[0]? =R3 (.ref t0))
  (hC:h.get? C=R3 (excClassObj nm q C N bs bm lL sn sub ab col dd k0 k1 k2 k3 k5 newId)) (hB:bm.contains (.type "Exception")=Sn)
  (hq: ∀tp h',tp=h.objs.size->h'.get? tp=R3 {cls:=.type "tuple",data:=.seq #[cw]}->h'.get? x=R3 (Ws (·.setIfInBounds 0 (.ref tp)) ox)->(∀c o,c≠x->h.get? c=R3 o->h'.get? c=R3 o)->R (.ok (.ret .none)) ⟨h',g,d,t,os⟩):
  T3 (Tc prog w) A (.call (.ref b) ⟨[cw],[]⟩) R ⟨h,g,d,t,os⟩:=by
 have EF:=Yb;refine YH ?_;show Tx _ A.in1 (callAny (.ref b) _) _ _ _;unfold callAny;refine Sb (wpAny_load hb ?_);show Tx _ _ (checkBoundCall "Exception.__init__" ⟨[.ref x,cw],[]⟩>>=_) _ _ _;refine Sb ?_;have adQ:=EF.noStar;rw[cbc (args:=⟨[.ref x,cw],[]⟩) EF.initRow EF.initKind rfl rfl];have hcB:(Vm C::bm).contains (.type "Exception")=Sn:=by rw[UP,hB,WG]
 repeat (first |(with_reducible refine Ub hx ?_;rw[hc]) |with_reducible refine Ub hC ?_ |(with_reducible refine U6 hC ?_;rw[hcB]) |wp_step)
 refine⟨Xh _ (by decide+kernel),codeAny_builtin EF.initEntry ?_⟩;obtain⟨oc,od,dt,sl⟩:=ox;subst hd;subst hc;obtain⟨t0,ht0⟩:=hn;have mD:=Sp {cls:=.type "tuple",data:=.seq #[cw]} hx;show Tx _ _ (newTuple [cw]>>=λtp=>(field (.ref x) 0>>=λold=>setField (.ref x) 0 tp>>=λO=>match old with |.ref _=>letGo [old] [] |_=>pure ())>>=λO=>ret .none) _ _ _;refine Sb (wpAny_newTuple ?_);refine Sb (Sb (UB mD rfl ht0 (Sb (Wp mD rfl (yN [_] [] 0xf61c032001ca54 rfl hv) (wpAny_letGo ?_)))));refine SD (hq _ _ rfl ?_ ?_ λc o hcx z=>?_);·exact(U7 _ _ λz=>Sw (TA hx) (by rw[z];exact Uq _)).trans (To _ rfl)
 ·exact Up _ mD rfl
 ·exact(U7 _ _ (TH hcx)).trans (Sp _ z)
end
end
section
section
variable{nm q:Tj}{N:SM}{k1:Si Sz}
theorem CQ {f D cc L x f2:SM}{fd:TP}{sn wn:Tj}{m:Tj->Si Sz}{Q:ZF->TD->Prop}
  (zAC:sP U f fd D cda cc sn C f2) (kp:Kp U s.heap) (hn:s.heap.Ns L m) (hs:m sn=R3 (.ref x)) (hw:m wn=R3 cw) (hwl:fd.scope.names.lookup wn=R3 .local) (hwd:(wn==("__debug__" :Tj))=Sf) (hx:s.heap.get? x=R3 ox) (hc:ox.cls=.ref C) (Es: ∀c,ox.data≠.cls c) (hl:p2.endLine=p3.line)
  (h: ∀s',Gr s s'->T3 (Tc U.prog U.w) A (.call (.ref f2) ⟨[.ref x,cw],[]⟩) (λr om=>match r with |.ok (.ret v)=>Q .next om |.error e=>E e om |_=>False) s'):
  _root_.PySem.wpAt (Tc U.prog U.w) A (.func body (callEnv fd L f)) (Vu (.Expr (.Call (.Attribute (.Call (.Name "super" p0) [] [] p1) "__init__" p2) [.Name wn p5] [] p3) p4) (callEnv fd L f)) Q E s:=by
 have he:=lI (o:=.Call (.Name "super" p0) [] [] p1) (m:="__init__") (ap:=p2) (pos:=p3) (args:=[.Name wn p5]) (env:=callEnv fd L f) rfl (by show 1<30;decide) hl;refine Ys (XU (qe zAC.F kp hn hs hx hc Es zAC.m (by decide) λh' e1 k1=>?_) he) (jb (env:=callEnv fd L f) zAC.F.kind) rfl;refine Bh (λb o e=>k1 b o (kp b o e)) e1 (k1 _ _ hx) Es zAC.o zAC.i zAC.t (by decide) ?_;have k2: ∀b o,s.heap.get? b=R3 o->(h'.push {cls:=.type "method",data:=.fields #[.ref f2,.ref x]}).get? b=R3 o:=λb o e=>Sp _ (k1 b o e);have hb:(h'.push {cls:=.type "method",data:=.fields #[.ref f2,.ref x]}).get? h'.objs.size=R3 (methodObj (.ref f2) (.ref x)):=To _ rfl;refine VO rfl (keeps_M zAC.n) (Xo (Wg (Ve (TX zAC.F.kind hwl (let⟨o,a,b,c,d⟩:=hn;⟨o,a,b,k2 _ _ c,d⟩) hw (WB ⟨⟨hb,U.rk.keeps λb o e=>k2 b o (kp b o e)⟩,?_⟩)) hwd)));refine Vx (W9 hb (UA (h _ ⟨k2,rfl,rfl⟩) λr s' z=>?_));rcases r with e |(v |_ |_ |_)<;>first |exact z |exact z.elim
structure Lb (U:Un)(f:SM)(fd:TP)(D cda cc:SM)(sn:Tj)(C:SM):Prop where
 F:ClF U f fd D cda cc sn
 m:mroIn U.K C (.ref D)=R3 Sn
 o:nsIn U.K cStatics "thirdparty.any" =R3 Sg
 i:W1 U.K C D "__init__" =R3 (R3 (.builtin "Exception.__init__"))
theorem Lc {b x:SM}: ∀h:We,h.get? b=R3 (lM x)->∃k,(k=Keeper.frame\/k=Keeper.machine\/k=Keeper.boundFrame)/\Looks M h (keeperOf (.ref b)) k:=λh hb=>
 ⟨.machine,.inr (.inl rfl),λA Q E s k q=>Sb (wpAny_load (k _ _ hb) (SD q))⟩
theorem CT {f D cc L x:SM}{fd:TP}{sn wn:Tj}{m:Tj->Si Sz}{vs:Vt Sz}{Q:ZF->TD->Prop}
  (zAC:Lb U f fd D cda cc sn C) (kp:Kp U s.heap) (hn:s.heap.Ns L m) (hs:m sn=R3 (.ref x)) (hw:m wn=R3 cw) (hwl:fd.scope.names.lookup wn=R3 .local) (hwd:(wn==("__debug__" :Tj))=Sf) (hx:s.heap.get? x=R3 ox) (hc:ox.cls=.ref C) (hd:ox.data=.fields vs) (hv:vs.size=6) (h0: ∃t0,vs[0]? =R3 (.ref t0)) (hl:p2.endLine=p3.line)
  (hC:s.heap.get? C=R3 (excClassObj nm q C N bs bm lL sln sub ab col dd k0 k1 k2 k3 k5 newId)) (hB:bm.contains (.type "Exception")=Sn)
  (h: ∀tp s',s'.heap.get? tp=R3 {cls:=.type "tuple",data:=.seq #[cw]}->s'.heap.get? x=R3 (Ws (·.setIfInBounds 0 (.ref tp)) ox)->(∀c o,c≠x->s.heap.get? c=R3 o->s'.heap.get? c=R3 o)->s'.gens=s.gens->s'.os=s.os->Q .next s'):
  _root_.PySem.wpAt (Tc U.prog U.w) A (.func body (callEnv fd L f)) (Vu (.Expr (.Call (.Attribute (.Call (.Name "super" p0) [] [] p1) "__init__" p2) [.Name wn p5] [] p3) p4) (callEnv fd L f)) Q E s:=by
 have Es: ∀c,ox.data≠.cls c:=λc z=>by replace z:=hd▸z;cases z
 have X:U.K.In s.heap:=U.rk.keeps kp;have he:=lI (o:=.Call (.Name "super" p0) [] [] p1) (m:="__init__") (ap:=p2) (pos:=p3) (args:=[.Name wn p5]) (env:=callEnv fd L f) rfl (by show 1<30;decide) hl;refine Ys (XU (qe zAC.F kp hn hs hx hc Es zAC.m (by decide) λh' e1 k1=>?_) he) (jb (env:=callEnv fd L f) zAC.F.kind) rfl;have X1:U.K.In h':=X.keeps k1;have hi:=zAC.i;unfold W1 at hi;cases tO:clsIn U.K C with
 |none=>rw[tO]at hi;cases hi
 |some cd=>
  rw[tO]at hi;have QW:x≠C:=by rintro rfl;replace hx:=hC▸hx;obtain rfl:=R7 hx;exact Es _ rfl
  have hop:Looks (Tc U.prog U.w) h' (opaqueClassAbove (.ref C)) Sg:=looks_opaque X1 zAC.o;have yh:Looks (Tc U.prog U.w) h' (isSubtype (.ref C) (.type "Exception")) Sn:=λA Q E s k q=>by obtain⟨a,b,c,d,e⟩:=s;exact U6 (k _ _ (k1 _ _ hC)) (by rw[UP,hB,WG];exact q)
  refine La e1 hop (l₀:=cd.mro) (λA Q E s k q=>Sb ((V5 X1 tO) A _ E s k (SD q))) rfl X1 hi (k1 _ _ hx) hc yh QW ?_;have k2: ∀b o,s.heap.get? b=R3 o->(h'.push (lM x)).get? b=R3 o:=λb o e=>Sp _ (k1 b o e);have hb:(h'.push (lM x)).get? h'.objs.size=R3 (lM x):=To _ rfl;refine VO rfl Lc (Xo (Wg (Ve (TX zAC.F.kind hwl (let⟨o,a,b,c,d⟩:=hn;⟨o,a,b,k2 _ _ c,d⟩) hw (WB ⟨hb,?_⟩)) hwd)));refine Vx (Gx hb (k2 _ _ hx) hc hd hv h0 (k2 _ _ hC) hB λtp h'' O a b c=>?_);exact h tp _ a b (λy o ne e=>c y o ne (k2 y o e)) rfl rfl
end
end
section
open Builtin.ObjectAttr
section
variable{K:Vc}{x:SM}
structure nN (K:Vc)(C:SM)(name:Tj):Prop where
 sa:findIn K (.ref C) "__setattr__" =R3 (R3 (.builtin "object.__setattr__"))
 cls: ∃cd,clsIn K C=R3 cd/\cd.hasDict=Sn/\cd.mro.isEmpty=Sf/\cd.mro.contains (.type "object")=Sn/\∀self,refuseLoop self "__setattr__" cd.mro=pure ()
 tk:takerIn K C name=R3 Sg
theorem yV (C1:SM)(self:Sz):refuseLoop self "__setattr__" [.ref C1,.type "Exception",.type "BaseException",.type "object"]=pure ():=by rw[refuseLoop_ref];exact PySem.F.store_Exception.passes self
theorem nO (C1 C2:SM)(self:Sz):refuseLoop self "__setattr__" [.ref C1,.ref C2,.type "Exception",.type "BaseException",.type "object"]=pure ():=by rw[refuseLoop_ref];exact yV _ self
theorem vW (X:K.In s.heap)(I:InstAt s.heap x ox C od)(S:nN K C name)
  (h: ∀b,Tx (Tc prog w) A.in1 (storeInOwnDict (.ref x) (.ref C) (.str name tk) name v b) (λfin s'=>match fin with |.done f=>R (.ok f) s' |.again c'=>c'.quiet=Sn/\T3 (Tc prog w) A c' R s') (λe s'=>R (.error e) s') s):
  T3 (Tc prog w) A (.call (.builtin "object.__setattr__") ⟨[.ref x,.str name tk,v],[]⟩) R s:=by
 have SF:=PySem.F.store_object;obtain⟨cd,hc,-,ne,ho,hp⟩:=S.cls;have sub:Looks (Tc prog w) s.heap (isInstance (.ref x) (.type "object")) Sn:=I.type.andThen (ZW X (by unfold mroIn;rw[hc,Option.bind_some,Sq (by rw[ne];decide),ho]));refine Xp SF.slot.plain SF.entry (@check_slot (Tc prog w) _ _ s "object.__setattr__" "object" "__setattr__" (.ref x) [.str name tk,v] [] _ SF.kind SF.split sub (SF.args (.ref x) (.str name tk) v) ?_);obtain⟨attr,ha,hr⟩:=TY.mp S.tk;have L3:Looks (Tc prog w) s.heap (storeTaker? attr) Sg:=by
  cases attr with
  |none=>exact .now
  |some a=>
   obtain⟨b,hb,e⟩:=SR.mp hr;refine(looks_takesIn X hb).andThen ?_;cases b with
   |true=>cases e
   |false=>exact .now
 rw[osa_eq,refuse_eq];have hm:Looks (Tc prog w) s.heap (mroOf (.ref C)) cd.mro:=(V5 X hc).andThen .now;refine Sb (Sb (I.type.here (Sb (hm.here ?_))));rw[hp];exact SD (Sb (I.type.here (Sb ((Wh X ha).here (Sb (L3.here (h _)))))))
inductive yW (b₀ h:We)(x C:SM)(mA:Tj->Si Sz):Prop where
 |mk (tp dx:SM) (nx:b₀.get? x=Sg) (nd:b₀.get? dx=Sg) (hx:h.get? x=R3 {cls:=.ref C,dict:=R3 dx,data:=.fields #[.ref tp,.none,.none,.none,.bool Sf,.none]}) (ne:dx≠x) (ns:h.Ns1 dx mA)
noncomputable abbrev CU (C t:SM):WW:={cls:=.ref C,data:=.fields #[.ref t,.none,.none,.none,.bool Sf,.none]}
def But (x:SM)(s s':TD):Prop:=(∀b o,b≠x->s.heap.get? b=R3 o->s'.heap.get? b=R3 o)/\s'.gens=s.gens/\s'.os=s.os
theorem Gy {tp:SM}{Q:Unit->TD->Prop}(nx:b₀.get? x=Sg)(hb: ∀b o,b₀.get? b=R3 o->s.heap.get? b=R3 o)(X:K.In s.heap)(S:nN K C name)(hx:s.heap.get? x=R3 (CU C tp))
  (h: ∀s',But x s s'->yW b₀ s'.heap x C (λy=>if y=name then R3 v else Sg)->Q () s'):Tx (Tc prog w) A (setAttr (.ref x) name v) Q E s:=by
 have I:InstAt s.heap x (CU C tp) C Sg:=⟨hx,rfl,rfl,TK⟩;refine set_plain X I S.sa (vW (od:=Sg) X I S λb=>?_);obtain⟨cd,hc,hd,-⟩:=S.cls;obtain⟨hh,g,d,t,os⟩:=s;have lO:(hh.push {cls:=.type "dict",data:=.dict #[]}).get? x=R3 (CU C tp):=Sp _ hx;have hxs:x≠hh.objs.size:=Ur (TA hx);refine Sb (SD (Sb (Sb (Xl hx (Sb ((V5 X hc) _ _ _ _ (λO O e=>e) ?_))))));rw[hd];refine Sb (wpAny_alloc (Sb (wpAny_update lO (SD ?_))));have hgd:((hh.push {cls:=.type "dict",data:=.dict #[]}).update x λo=>{o with dict:=R3 hh.objs.size}).get? hh.objs.size=R3 {cls:=.type "dict",data:=.dict #[]}:=
  (Zc _ _ _ _ hxs.symm).trans (Heap.get?_push_at rfl rfl)
 have hnd:((hh.push {cls:=.type "dict",data:=.dict #[]}).update x λo=>{o with dict:=R3 hh.objs.size}).Ns hh.objs.size (λO=>Sg):=⟨_,#[],_,hgd,rfl,λe he=>Sw he (by simp),λO=>rfl⟩;have Bk:((hh.push {cls:=.type "dict",data:=.dict #[]}).update x λo=>{o with dict:=R3 hh.objs.size}).get? x=R3 {CU C tp with dict:=R3 hh.objs.size}:=Up _ lO rfl;refine Sb (SD (Sb (wpAny_nsSet1 (Heap.Ns1.of_empty hnd) λh' sx hs=>?_)));obtain⟨oD,esD,epD,hoD,hdD,hcD⟩:=sx.count (Within.cons name v Within.nil);refine Sb (Yo hoD (by rw[hdD];exact Yr (SJ hcD (by rw[TB,WO,UQ];exact yN [] [] 0xf10000007ca01ca54 rfl))) (SD ?_));exact h _ ⟨λb o ne e=>(hs.2 b (Ur (TA e))).trans ((Zc _ _ _ _ ne).trans (Sp _ e)),rfl,rfl⟩ ⟨tp,hh.objs.size,nx,(by cases z:b₀.get? hh.objs.size with |none=>rfl |some o=>exact Sw (TA (hb _ _ z)) (Uq _)),(hs.2 x hxs).trans Bk,hxs.symm,sx⟩
theorem Ld {ns:R4 Tj}{Q:Unit->TD->Prop}(X:K.In s.heap)(S:nN K C name)(hx:yW b₀ s.heap x C mA)(hw:Within mA ns)(hl:ns.length<=10)
  (h: ∀s',(∀b o,b₀.get? b≠Sg->s.heap.get? b=R3 o->s'.heap.get? b=R3 o)->s'.gens=s.gens->s'.os=s.os->yW b₀ s'.heap x C (λy=>if y=name then R3 v else mA y)->Q () s'):Tx (Tc prog w) A (setAttr (.ref x) name v) Q E s:=by
 obtain⟨tp,dx,nx,nd,hx,ne,jL⟩:=hx;obtain⟨o,es,ep,ho,hr⟩:=id jL;have I:InstAt s.heap x _ C (R3 o):=⟨hx,rfl,rfl,ho⟩;refine set_plain X I S.sa (vW (od:=R3 o) X I S λb=>?_);obtain⟨cd,hc,hd,-⟩:=S.cls;refine Sb (SD (Sb (Sb (Xl hx (Sb ((V5 X hc) _ _ _ _ (λO O e=>e) ?_))))));rw[hd];refine SD (a:=R3 dx) (Sb (SD (Sb (wpAny_nsSet1 jL λh' sx hs=>?_))));obtain⟨oD,esD,epD,hoD,hdD,hcD⟩:=sx.count (Within.cons name v hw);refine Sb (Yo hoD (by rw[hdD];exact Yr (SJ hcD (by rw[TB,UQ];exact yN [_] [] 0xfa1c05010000007ca0a54 rfl hl))) (SD ?_));exact h _ (λb o nb e=>(hs.2 b λz=>nb (by rw[z];exact nd)).trans e) rfl rfl ⟨tp,dx,nx,nd,(hs.2 x (TH ne)).trans hx,ne,sx⟩
end
end
section
section
variable{nm q:Tj}{N:SM}{k1:Si Sz}
theorem But.trans {x:SM}{om:TD}(h:But x s s')(h':But x s' om):But x s om:=⟨λb o n e=>h'.1 b o n (h.1 b o n e),h'.2.1.trans h.2.1,h'.2.2.trans h.2.2⟩
theorem oy.loc {K:Vc}{a:SM}{fd:TP}(F:oy K a fd body ps sh)(h:y∈ps):fd.scope.names.lookup y=R3 .local:=by
 replace h:=F.pre▸h;obtain⟨p,hp,rfl⟩:=SL.mp (TU h);exact(F.shn p hp).2
theorem oy.enter {a:SM}{fd:TP}{as:R4 Sz}(F:oy U.K a fd body ps sh)(hr:A.depth<recursionLimit)(kp:Kp U s.heap)(hl:as.length=ps.length)
  (h: ∀h₀,h₀.Ns s.heap.objs.size (λx=>(ps.zip as).reverse.lookup x)->(∀b o,s.heap.get? b=R3 o->h₀.get? b=R3 o)->
   _root_.PySem.wpAt (Tc U.prog U.w) (A.deeper (callEnv fd s.heap.objs.size a)) (.func body (callEnv fd s.heap.objs.size a)) (UX body (callEnv fd s.heap.objs.size a)) (λf s'=>R (.ok (.ret (match f with |.ret v=>v |_=>.none))) s')
    (λe s'=>Tx (Tc U.prog U.w) (A.deeper (callEnv fd s.heap.objs.size a)) (leaving (callEnv fd s.heap.objs.size a) e) (λO om=>R (.error e) om) (λe' om=>R (.error e') om) s') {s with heap:=h₀,toks:=s.toks+(ps.zip as).length}):
  T3 (Tc U.prog U.w) A (.call (.ref a) ⟨as,[]⟩) R s:=by
 have X:U.K.In s.heap:=U.rk.keeps kp;obtain⟨o,ho,hd⟩:=SR.mp F.look;refine ZK (binds:=ps.zip as) hr (X _ _ ho) hd (U.sj.keeps kp) (XV X F.code) F.bd (.of_eq (F.bind as hl)) F.nc ?_ (λh₀ a b=>h h₀ a b) F.co F.gen F.kind;intro x hx;exact F.loc (by rw[<-show(ps.zip as).map (·.1)=ps by rw[XO];exact yN [_,_] [] 64444567636 rfl hl];exact Tz hx)
theorem Le {x t0 a D cc:SM}{fd:TP}{p8 p9:UM}
  (F:oy U.K a fd [.Expr (.Call (.Attribute (.Call (.Name "super" p0) [] [] p1) "__init__" p2) [.Name "what" p5] [] p3) p4,.Assign [.Attribute (.Name "self" p6) "what" p7] (.Name "what" p8) p9] ["self","what"] sh)
  (zAC:Lb U a fd D cda cc "self" C) (S:nN U.K C "what") (hr:A.depth<recursionLimit) (kp:Kp U s.heap) (hx:s.heap.get? x=R3 (CU C t0))
  (hC:s.heap.get? C=R3 (excClassObj nm q C N bs bm lL sln sub ab col dd k0 k1 k2 k3 k5 newId)) (hB:bm.contains (.type "Exception")=Sn) (hl:p2.endLine=p3.line) (hU:U.base.get? x=Sg) (nx:b₀.get? x=Sg) (hb: ∀b o,b₀.get? b=R3 o->s.heap.get? b=R3 o)
  (h: ∀s',But x s s'->yW b₀ s'.heap x C (λy=>if y="what" then R3 cw else Sg)->R (.ok (.ret .none)) s'):T3 (Tc U.prog U.w) A (.call (.ref a) ⟨[.ref x,cw],[]⟩) R s:=by
 refine F.enter hr kp rfl λh₀ jL hk=>?_;have Bl:Kp U h₀:=λb o e=>hk b o (kp b o e);have w1:fd.scope.names.lookup ("what" :Tj)=R3 .local:=F.loc (by simp);have w0:fd.scope.names.lookup ("self" :Tj)=R3 .local:=zAC.F.mw;refine VL (CT zAC Bl jL rfl rfl w1 (by decide) (hk _ _ hx) rfl rfl rfl ⟨_,rfl⟩ hl (hk _ _ hC) hB λtp aB htp lO k₁ adR adS=>?_);have xL:s.heap.objs.size≠x:=λz=>Sw (TA hx) (by rw[z];exact Uq _);have abO:Kp U aB.heap:=λb o e=>k₁ b o (λz=>by replace e:=hU▸z▸e;cases e) (Bl b o e);have iD:aB.heap.Ns s.heap.objs.size (λy=>(List.zip [("self" :Tj),("what" :Tj)] [.ref x,cw]).reverse.lookup y):=by obtain⟨o,a,b,c,d⟩:=jL;exact⟨o,a,b,k₁ _ _ xL c,d⟩
 refine VL (ks_wpAt_Assign_Attr (WH (Ve (TX F.kind w1 iD rfl ?_) (by decide))) ?_)
 ·refine Ve (TX F.kind w0 iD rfl ?_) (by decide);refine Gy (b₀:=b₀) nx (λb o e=>k₁ b o (λz=>by replace e:=nx▸z▸e;cases e) (hk b o (hb b o e))) (U.rk.keeps abO) S (tp:=tp) lO λaX EQ bu=>?_;refine WH (UJ ?_);exact h _ ⟨λb o n e=>EQ.1 b o n (k₁ b o n (hk b o e)),EQ.2.1.trans adR,EQ.2.2.trans adS⟩ bu
 ·rfl
theorem Lg {x t0 a D cc a1 D1 cda1 cc1:SM}{fd fd1:TP}{Jx:Sz}{Ek:Shape}{p8 p9 q0 q3 q4 q5 q6 q7 q8 q9:UM}
  (F:oy U.K a fd [.Expr (.Call (.Attribute (.Call (.Name "super" p0) [] [] p1) "__init__" p2) [.Name "what" p5] [] p3) p4,.Assign [.Attribute (.Name "self" p6) "step" p7] (.Name "step" p8) p9] ["self","what","step"] sh)
  (F1:oy U.K a1 fd1 [.Expr (.Call (.Attribute (.Call (.Name "super" q0) [] [] q1) "__init__" q2) [.Name "what" q5] [] q3) q4,.Assign [.Attribute (.Name "self" q6) "what" q7] (.Name "what" q8) q9] ["self","what"] Ek)
  (zAC:sP U a fd D cda cc "self" C a1) (O1:Lb U a1 fd1 D1 cda1 cc1 "self" C) (S:nN U.K C "step") (S1:nN U.K C "what") (hr:A.depth+1<recursionLimit) (kp:Kp U s.heap) (hx:s.heap.get? x=R3 (CU C t0))
  (hC:s.heap.get? C=R3 (excClassObj nm q C N bs bm lL sln sub ab col dd k0 k1 k2 k3 k5 newId)) (hB:bm.contains (.type "Exception")=Sn) (hl:p2.endLine=p3.line) (hl1:q2.endLine=q3.line) (hU:U.base.get? x=Sg) (nx:b₀.get? x=Sg) (hb: ∀b o,b₀.get? b=R3 o->s.heap.get? b=R3 o)
  (h: ∀s',(∀b o,b₀.get? b=R3 o->s'.heap.get? b=R3 o)->s'.gens=s.gens->s'.os=s.os->yW b₀ s'.heap x C (λy=>if y="step" then R3 Jx else if y="what" then R3 cw else Sg)->R (.ok (.ret .none)) s'):
  T3 (Tc U.prog U.w) A (.call (.ref a) ⟨[.ref x,cw,Jx],[]⟩) R s:=by
 refine F.enter (yN [_,_] [] 0xf10aa5010a54 rfl hr) kp rfl λh₀ jL hk=>?_;have Bl:Kp U h₀:=λb o e=>hk b o (kp b o e);refine VL (CQ (m:=λy=>(List.zip [("self" :Tj),("what" :Tj),("step" :Tj)] [.ref x,cw,Jx]).reverse.lookup y) zAC Bl jL rfl rfl (F.loc (by simp)) (by decide) (hk _ _ hx) rfl (λc z=>by cases z) hl λaB gr=>?_);have k₁: ∀b o,s.heap.get? b=R3 o->aB.heap.get? b=R3 o:=λb o e=>gr.1 b o (hk b o e);refine Le (b₀:=b₀) F1 O1 S1 (by show A.depth+1<_;exact hr) (λb o e=>k₁ b o (kp b o e)) (k₁ _ _ hx) (k₁ _ _ hC) hB hl1 hU nx (λb o e=>k₁ b o (hb b o e)) λaX bt ex=>?_;have xL:s.heap.objs.size≠x:=λz=>Sw (TA hx) (by rw[z];exact Uq _);have Gz:aX.heap.Ns s.heap.objs.size (λy=>(List.zip [("self" :Tj),("what" :Tj),("step" :Tj)] [.ref x,cw,Jx]).reverse.lookup y):=by obtain⟨o,a,b,c,d⟩:=jL;exact⟨o,a,b,bt.1 _ _ xL (gr.1 _ _ c),d⟩
 refine VL (ks_wpAt_Assign_Attr (WH (Ve (TX F.kind (F.loc (by simp)) Gz rfl ?_) (by decide))) ?_)
 ·refine Ve (TX F.kind (F.loc (by simp)) Gz rfl ?_) (by decide);refine Ld (ns:=["what"]) (U.rk.keeps λb o e=>bt.1 b o (λz=>by replace e:=hU▸z▸e;cases e) (k₁ b o (kp b o e))) S ex (λy hy=>?_) (by decide) λbR GB adT adU c7=>WH (UJ ?_)
  ·by_cases z:y="what";·rw[z];simp
   ·exact Sw (Sq z) hy
  ·exact h _ (λb o e=>GB b o (by rw[e];exact λz=>by cases z) (bt.1 b o (λz=>by replace e:=nx▸z▸e;cases e) (k₁ b o (hb b o e)))) (adT.trans (bt.2.1.trans gr.2.1)) (adU.trans (bt.2.2.trans gr.2.2)) c7
 ·rfl
end
end
inductive yX (U:Un)(C:SM):Prop where
 |mk {nm q:Tj} {N a D cda cc a1 D1 cda1 cc1:SM} {bs bm:R4 Sz} {lL:Tn} {sln:R4 Tj} {sub:R4 Sz} {ab:Tn} {col:Si Tn} {dd:Si SM} {k0 k1 k2 k3 k5:Si Sz} {fd fd1:TP} {sh Ek:Shape} {p0 p1 p2 p3 p4 p5 p6 p7 p8 p9 q0 q1 q2 q3 q4 q5 q6 q7 q8 q9:UM}
  (F:oy U.K a fd [.Expr (.Call (.Attribute (.Call (.Name "super" p0) [] [] p1) "__init__" p2) [.Name "what" p5] [] p3) p4,.Assign [.Attribute (.Name "self" p6) "step" p7] (.Name "step" p8) p9] ["self","what","step"] sh)
  (F1:oy U.K a1 fd1 [.Expr (.Call (.Attribute (.Call (.Name "super" q0) [] [] q1) "__init__" q2) [.Name "what" q5] [] q3) q4,.Assign [.Attribute (.Name "self" q6) "what" q7] (.Name "what" q8) q9] ["self","what"] Ek)
  (zAC:sP U a fd D cda cc "self" C a1) (O1:Lb U a1 fd1 D1 cda1 cc1 "self" C) (S:nN U.K C "step") (S1:nN U.K C "what")
  (hC:U.K.lookup C=R3 (excClassObj nm q C N bs bm lL sln sub ab col dd k0 k1 k2 k3 k5 "Exception.__new__")) (hB:bm.contains (.type "Exception")=Sn) (hA:bm.contains (.type "AttributeError")=Sf) (hN:bm.contains (.type "NameError")=Sf)
  (hE:bm.contains (.type "BaseException")=Sn) (hi:findIn U.K (.ref C) "__init__" =R3 (R3 (.ref a))) (ht:typeIn U.K (.ref a)=R3 (.type "function")) (hl:p2.endLine=p3.line) (hl1:q2.endLine=q3.line)
noncomputable abbrev pfA (cw Jx:Sz):Tj->Si Sz:=λy=>if y="step" then R3 Jx else if y="what" then R3 cw else Sg
theorem Lh {Jx:Sz}{Q:Sz->TD->Prop}(P:yX U C)(hr:A.depth+2<recursionLimit)(kp:Kp U s.heap)
  (h: ∀x s',Gr s s'->s.heap.get? x=Sg->yW s.heap s'.heap x C (pfA cw Jx)->Q (.ref x) s'):Tx (Tc U.prog U.w) A (call (.ref C) [cw,Jx]) Q E s:=by
 obtain⟨F,F1,zAC,O1,S,S1,hC,hB,hA,hN,hE,hi,ht,hl,hl1⟩:=P;obtain⟨hh,g,d,t,os⟩:=s;have X:U.K.In hh:=U.rk.keeps kp;have nx:hh.get? (hh.objs.size+1)=Sg:=WY (UW _);have k: ∀b o,hh.get? b=R3 o->((hh.push {cls:=.type "tuple",data:=.seq #[cw,Jx]}).push (vU C hh.objs.size)).get? b=R3 o:=λb o e=>Sp _ (Sp _ e);refine Gu Yb hB hA hN (X _ _ hC) X hi ht (by size_fits) ?_;refine Lg (b₀:=hh) F F1 zAC O1 S S1 (by show A.depth+1+1<_;exact hr) (λb o e=>k b o (kp b o e)) (by heap_get) (k _ _ (X _ _ hC)) hB hl hl1 ?_ nx k λs' k' g' o' e'=>⟨rfl,h _ _ ⟨k',g',o'⟩ nx e'⟩;cases z:U.base.get? (hh.objs.size+1)with
 |none=>rfl
 |some o=>replace nx:=(kp _ _ z)▸nx;cases nx
theorem GC {m:Xf Sz}{Q:ZF->TD->Prop}(P:yX U C)(hh:A.handled=Sg)
  (h:Tx (Tc U.prog U.w) A m (λv aB=>∃x,v=.ref x/\Kp U aB.heap/\(∃b₀ mA,yW b₀ aB.heap x C mA)/\E (.ref x) aB) E s):Tx (Tc U.prog U.w) A (raiseStmt env (R3 m) Sg) Q E s:=by
 obtain⟨F,F1,zAC,O1,S,S1,hC,hB,hA,hN,hE,hi,ht,hl,hl1⟩:=P;unfold raiseStmt;refine Sb (T9 h (λv aB aD=>?_) λO O x=>x);obtain⟨x,rfl,kp,⟨b₀,mA,tp,dx,nx,nd,hx,ne,ns⟩,he⟩:=aD;obtain⟨hp,g,d,tk,os⟩:=aB;have hC:=U.rk.keeps kp _ _ hC;have hcB: ∀{C:SM} {bm:R4 Sz},bm.contains (.type "BaseException")=Sn->(Vm C::bm).contains (.type "BaseException")=Sn:=λh=>by rw[UP,h,WG]
 repeat (first |with_reducible refine Ub hx ?_ |with_reducible refine Ub hC ?_ |(with_reducible refine U6 hC ?_;rw[hcB hE]) |wp_step)
 exact wpAny_raiseNew_none hh he
section
section
variable{c:Cx}
theorem OK.iF (h:OK U g c ρ J s){b:SM}(hb:b∈c.sl):U.base.get? b=Sg/\(∀a,ρ.dG a≠R3 b)/\ρ.bF b=Sg:=by
 obtain⟨e,he,hf⟩:=UD.mp hb;obtain⟨⟨_,h1⟩,x,hx,h3⟩:=h.k7 e he;replace hx:=hf▸hx;obtain rfl:=R7 hx;refine⟨h1 _ hf,λa z=>?_,?_⟩
 ·rcases h3 with rfl |⟨o,h3,-⟩;·exact h.db a _ z rfl
  ·replace h3:=(h.dr a _ z)▸h3;cases h3
 ·rcases h3 with rfl |⟨o,h3,-⟩;·exact h.kB
  ·exact h.kA _ _ h3
theorem OK.slots (h:OK U g c ρ J s)(k1: ∀b o,b∉c.sl->s.heap.get? b=R3 o->s'.heap.get? b=R3 o)(k2: ∀b o,b∈c.sl->s.heap.get? b=R3 o->∃x,s'.heap.get? b=R3 {o with slots:=x})
  (hg:autoParam (s'.gens=s.gens) br) (ho:autoParam (s'.os=s.os) br):OK U g c ρ J s':=by
 have up: ∀b o,s.heap.get? b=R3 o->∃x,s'.heap.get? b=R3 {o with slots:=x}:=λb o e=>by
  by_cases z:b∈c.sl;·exact k2 b o z e
  ·exact⟨o.slots,k1 b o z e⟩
 exact{h with
  keep:=λb o e=>k1 b o (λz=>by replace e:=((h.iF z).1)▸e;cases e) (h.keep b o e)
  cI:=λb o e=>by have f:=h.cI b o e;obtain⟨x,z⟩:=f.up;obtain⟨y,z'⟩:=up _ _ z;exact⟨λn=>k1 b o n (f.ex n),y,z'⟩
  hp:=λa so e=>by obtain⟨x,o,p,q,r⟩:=h.hp a so e;exact⟨x,o,p,k1 _ _ (λz=>(h.iF z).2.1 _ p) q,r⟩
  ns:=by obtain⟨m,⟨o,es,ep,hL,r⟩,v⟩:=h.ns;obtain⟨x,z⟩:=up _ _ hL;exact⟨m,⟨_,es,ep,z,r⟩,v⟩
  cells:=λi y ob d e=>by obtain⟨cv,⟨o,hd,r⟩,v⟩:=h.cells i y ob d e;obtain⟨x,z⟩:=up _ _ hd;exact⟨cv,⟨_,z,r⟩,v⟩
  im:=λx b vs e=>by obtain⟨xs,n,q,r⟩:=h.im x b vs e;exact⟨xs,n,k1 _ _ (λz=>by replace e:=((h.iF z).2.2)▸e;cases e) q,r⟩
  gens:=hg.trans h.gens
  os:=ho.trans h.os}
end
end
section
structure Oz (S:R4 SM)(b₀ h:We):Prop where
 out: ∀b o,b∉S->b₀.get? b=R3 o->h.get? b=R3 o
 ins: ∀b o,b₀.get? b=R3 o->∃x,h.get? b=R3 {o with slots:=x}
inductive GD (S:R4 SM)(b₀ h:We)(x C:SM)(mA:Tj->Si Sz)(vs:Vt Sz):Prop where
 |mk (dx:SM) (af:Oz S b₀ h) (nx:b₀.get? x=Sg) (nd:b₀.get? dx=Sg) (xS:x∉S) (dS:dx∉S) (hx:h.get? x=R3 {cls:=.ref C,dict:=R3 dx,data:=.fields vs}) (ne:dx≠x) (ns:h.Ns1 dx mA)
inductive Tb (b₀ h:We)(x:SM):Sz->Sz->Prop where
 |none:Tb b₀ h x .none .none
 |at{T:SM} {oT:WW} {ts:Vt Sz} {fl:Sz} (nT:b₀.get? T=Sg) (ne:T≠x) (hT:h.get? T=R3 oT) (hd:oT.data=.fields ts) (h3:ts[3]? =R3 fl):Tb b₀ h x (.ref T) fl
inductive Bm (S:R4 SM)(b₀ h:We)(x C:SM)(mA:Tj->Si Sz)(fl:Sz):Prop where
 |mk (vs:Vt Sz) (tb:Sz) (p:GD S b₀ h x C mA vs) (h1:vs[1]? =R3 tb) (t:Tb b₀ h x tb fl)
section
variable{S:R4 SM}{x L:SM}{vs:Vt Sz}{Q:Unit->TD->Prop}
theorem Ns1.up {a:SM}{m:Tj->Si Sz}(n:h.Ns1 a m)(k: ∀o,h.get? a=R3 o->h'.get? a=R3 o):h'.Ns1 a m:=n.at k
theorem Oz.frames (a:Oz S b₀ h){B:We}{l:R4 Y4}(hl:b₀.FunFrames B l):h.FunFrames B l:=hl.of_keeps λb o e O=>by obtain⟨_,z⟩:=a.ins b o e;exact⟨_,z,rfl⟩
theorem Oz.step (a:Oz S b₀ h)(k1: ∀b o,b∉S->b₀.get? b≠Sg->h.get? b=R3 o->h'.get? b=R3 o)(k2: ∀b o,b₀.get? b≠Sg->h.get? b=R3 o->∃x,h'.get? b=R3 {o with slots:=x}):Oz S b₀ h' where
 out:=λb o n e=>k1 b o n (by rw[e];exact λz=>by cases z) (a.out b o n e)
 ins:=λb o e=>by obtain⟨y,z⟩:=a.ins b o e;obtain⟨y',z'⟩:=k2 _ _ (by rw[e];exact λz=>by cases z) z;exact⟨y',z'⟩
theorem sQ {B:We}{head:Sz}{Li:Tn}(oU:A.frames=R3 (env::outer))(hl:b₀.FunFrames B (env::outer))(hS: ∀b∈(env::outer).filterMap (·.frame),b∈S)(hf:env.frame=R3 L)
  (F:GD S b₀ s.heap x C mA vs) (hz:1<vs.size) (h: ∀h',Bm S b₀ h' x C mA (rawInt L)->Q () {s with heap:=h'}):
  Tx M A (do let a <-frameOf env;let pl <-entryPlaceOf L Li;let b <-Yz head a .none (rawInt L) .none pl;setField (.ref x) 1 b) Q E s:=by
 obtain⟨dx,af,nx,nd,xS,dS,hx,ne,ns⟩:=F;refine Sb (wpAny_frameOf_fun oU (af.frames hl) hf λaD vX=>?_);refine Sb (wpAny_entryPlaceOf λpl u0=>?_);unfold Yz newFields;refine Sb (UZ ?_ (u0.sizeOk5 _ _ _ _ _));have lO:aD.get? x=_:=(vX.2.1 x λz=>xS (hS _ z)).trans hx;generalize ht:({cls:=.type "traceback",dict:=Sg,data:=.fields ([head,.ref L,.none,rawInt L,.none]++(if pl.isEmpty then Yn 6 Value.none else pl)).toArray}:WW)=oT;have hTx:aD.objs.size≠x:=Nat.ne_of_gt (TA lO);have abP: ∀b,b₀.get? b≠Sg->b≠aD.objs.size:=λb n z=>by
  cases q:b₀.get? b with
  |none=>exact n q
  |some o=>obtain⟨y,e⟩:=af.ins b o q;obtain⟨y',e'⟩:=vX.2.2 _ _ e;exact Sw (TA e') (by rw[z];exact Uq _)
 have fr:oT.isFreed=Sf:=SU _ ht.symm;have Bk:=Sp (h:=aD) oT lO;have key: ∀b o,b≠x->aD.get? b=R3 o->((aD.push oT).update x (Ws (·.setIfInBounds 1 (Vm aD.objs.size)))).get? b=R3 o:=λb o n e=>(U7 _ _ (TH n)).trans (Sp _ e);refine Wp Bk rfl hz (h _ ⟨vs.setIfInBounds 1 (.ref aD.objs.size),.ref aD.objs.size,⟨dx,af.step (λb o n nb e=>key b o (λz=>nb (by rw[z];exact nx)) ((vX.2.1 b λz=>n (hS _ z)).trans e)) (λb o nb e=>?_),nx,nd,xS,dS,Up _ Bk rfl,ne,ns.at λo e=>key _ _ ne ((vX.2.1 _ λz=>dS (hS _ z)).trans e)⟩,by simp[hz],?_⟩)
 ·obtain⟨y,z⟩:=vX.2.2 _ _ e;exact⟨y,key _ _ (λz=>nb (by rw[z];exact nx)) z⟩
 ·refine .at (oT:=oT) ?_ hTx ((U7 _ _ (TH hTx)).trans (To _ fr)) (SU _ ht.symm) rfl;cases q:b₀.get? aD.objs.size with
  |none=>rfl
  |some o=>exact Sw rfl (abP _ (by rw[q];exact λz=>by exact Eh z))
theorem GD.Q0 {T:SM}{oT:WW}{ts:Vt Sz}{f:Vt Sz->Vt Sz}(F:GD S b₀ h x C mA vs)(nT:b₀.get? T=Sg)(ne:T≠x)(hT:h.get? T=R3 oT)(hd:oT.data=.fields ts):GD S b₀ (h.update T (Ws f)) x C mA vs:=by
 obtain⟨dx,af,nx,nd,xS,dS,hx,ne',ns⟩:=F;have other: ∀b,b≠T->(h.update T (Ws f)).get? b=h.get? b:=λb hb=>U7 _ _ (TH hb);have ndT:dx≠T:=λz=>by obtain⟨o,es,ep,e,d,r⟩:=ns;replace e:=hT▸z▸e;obtain rfl:=R7 e;replace d:=hd▸d;cases d
 exact⟨dx,af.step (λb o n nb e=>(other b λz=>nb (by rw[z];exact nT)).trans e) (λb o nb e=>⟨o.slots,(other b λz=>nb (by rw[z];exact nT)).trans e⟩),nx,nd,xS,dS,(other x (TH ne)).trans hx,ne',ns.at λo e=>(other _ ndT).trans e⟩
theorem qf {B:We}(oU:A.frames=R3 (env::outer))(hl:b₀.FunFrames B (env::outer))(hS: ∀b∈(env::outer).filterMap (·.frame),b∈S)(hf:env.frame=R3 L)
  (F:Bm S b₀ s.heap x C mA .none) (h: ∀h',Bm S b₀ h' x C mA (rawInt L)->Q () {s with heap:=h'}):Tx M A (noteFrame (.ref x) env) Q E s:=by
 obtain⟨vs,tb,p,h1,t⟩:=F;have hz:1<vs.size:=(Uu.mp h1).1;obtain⟨dx,af,nx,nd,xS,dS,hx,ne,ns⟩:=id p;unfold noteFrame;simp only[hf];refine Sb (UB hx rfl h1 ?_);cases t with
 |none=>rw[Sq (by decide)];exact sQ oU hl hS hf p hz h
 |«at» nT neT hT hd h3=>rw[Sv (by simp)];refine Sb (UB hT hd h3 ?_);rw[Sq (show ¬((Value.none==rawInt L)=Sn) from by simp[rawInt])];refine Sb (Wp hT hd (Uu.mp h3).1 ?_);exact sQ oU hl hS hf (p.Q0 nT neT hT hd) hz h
theorem jQ {fl:Sz}(F:Bm S b₀ s.heap x C mA fl)(h: ∀h',Bm S b₀ h' x C mA .none->Q () {s with heap:=h'}):Tx M A (setFlight (.ref x) Sg) Q E s:=by
 obtain⟨vs,tb,p,h1,t⟩:=F;obtain⟨dx,af,nx,nd,xS,dS,hx,ne,ns⟩:=id p;unfold setFlight;refine Sb (UB hx rfl h1 ?_);cases t with
 |none=>rw[Sq (by decide)];exact SD (h _ ⟨vs,_,p,h1,.none⟩)
 |«at» nT neT hT hd h3=>rw[Sv (by simp)];refine Wp hT hd (Uu.mp h3).1 (h _ ⟨vs,_,p.Q0 nT neT hT hd,h1,.at nT neT (Up _ hT (Y1 (Wc hd _))) (Wc hd _) ?_⟩);simp[(Uu.mp h3).1]
theorem Q5 {B:We}(oU:A.frames=R3 (env::outer))(hl:b₀.FunFrames B (env::outer))(hS: ∀b∈(env::outer).filterMap (·.frame),b∈S)(hf:env.frame=R3 L)
  (F:Bm S b₀ s.heap x C mA .none) (h: ∀h',Bm S b₀ h' x C mA .none->Q () {s with heap:=h'}):Tx M A (leaving env (.ref x)) Q E s:=by
 unfold leaving;exact Sb (qf oU hl hS hf F λh' F'=>jQ F' h)
theorem GF (hf:env.frame=R3 L)(F:Bm S b₀ s.heap x C mA (rawInt L))(h: ∀h',Bm S b₀ h' x C mA .none->Q () {s with heap:=h'}):Tx M A (leaving env (.ref x)) Q E s:=by
 obtain⟨vs,tb,p,h1,t⟩:=id F;obtain⟨dx,af,nx,nd,xS,dS,hx,ne,ns⟩:=id p;unfold leaving;refine Sb ?_;unfold noteFrame;simp only[hf];refine Sb (UB hx rfl h1 ?_);cases t with
 |«at» nT neT hT hd h3=>rw[Sv (by simp)];refine Sb (UB hT hd h3 ?_);rw[Sv (by simp)];exact SD (jQ F h)
theorem Lj {B:We}(oU:A.frames=R3 (env::outer))(hl:b₀.FunFrames B (env::outer))(hS: ∀b∈(env::outer).filterMap (·.frame),b∈S)(hf:env.frame=R3 L)
  (F:Bm S b₀ s.heap x C mA .none) (h: ∀h',Bm S b₀ h' x C mA (rawInt L)->E' (.ref x) {s with heap:=h'}):notedBy M A env (cameBackBy M A env E') (.ref x) s:=by
 refine qf oU hl hS hf F λaD Q6=>?_;obtain⟨vs,tb,p,h1,t⟩:=Q6;obtain⟨dx,af,nx,nd,xS,dS,hx,ne,ns⟩:=id p;unfold cameBackBy setFlight;refine Sb (UB hx rfl h1 ?_);cases t with
 |«at» nT neT hT hd h3=>rw[Sq (by simp)];refine Sb (UB hx rfl h1 ?_);rw[Sv (by simp),hf];refine Wp hT hd (Uu.mp h3).1 (h _ ⟨vs,_,p.Q0 nT neT hT hd,h1,.at nT neT (Up _ hT (Y1 (Wc hd _))) (Wc hd _) ?_⟩);simp[(Uu.mp h3).1]
end
end
noncomputable def sR (x:V)(vs:R4 V)(body:WM Fl):SH->R4 V->WM Fl
 |_,[]=>λJ Q=>gP J x=R3 (Sf,vs)/\Q .next J
 |i,v::r=>λJ Q=>gP J x=R3 (Sf,vs)/\Z (cC 4 (.int (i:Sj))) (λO=>cC 5 v) J λO ak=>body ak (AW Q λaL=>sR x vs body (i+1) r aL Q)
def abQ (body:WM Fl)(x:V):WM Fl:=λJ Q=>∃vs,C3 (gP J x=R3 (Sf,vs)) (vs.length<=big) (sR x vs body 0 vs J Q)
@[irreducible] def nP (body:WM Fl)(x:V):WM Fl:=abQ body x
noncomputable def GH:V->WM Fl
 |.int i=>ae (.ret (.int i))
 |_=>aJ
def qg (C:SM)(mk:R4 V->WM V)(self x:V):WM V:=λJ Q=>AO C J self λO kvs=>X5 λ(ns:R4 Sj) (key:Sj->Sj) a hk ep=>C6 (cM J x=R3 (.seq Sf (ns.map V.int))) (ns.length<64) (bC kvs 10=R3 (.ref a)) (J.hp a=R3 (.dict hk ep)) (∀n∈ns,bC hk (n.natAbs:Sj)=R3 (.int (key n))) (∀out:R4 Sj,out.Perm ns->out.Pairwise (λp q=>key q<=key p)->mk (out.map V.int) J Q)
@[irreducible] def yY (C:SM)(mk:R4 V->WM V)(self x:V):WM V:=qg C mk self x
section
inductive XP (U:Un)(g:SM->Si WW)(c:Cx)(ρ:bW)(C:SM)(fl:Sz)(Q:Fl->St->Prop)(e:Sz)(s':TD):Prop where
 |mk (ef:TD) (bG:bW) (bD:St) (x:SM) (n:V) (nv cw:Sz) (he:e=.ref x) (ex:Ext ρ bG) (ok:OK U g c bG bD ef) (CV:Bm c.sl ef.heap s'.heap x C (pfA cw nv) fl) (hg:s'.gens=ef.gens) (ho:s'.os=ef.os) (r:VR bG n nv/\handedOut nv=pure nv) (q:Q (.ret n) bD)
def NxR (_:bW)(a:Fl)(b:ZF):Prop:=a=.next/\b=.next
def mP (U:Un)(k:SH)(c:Cx)(C:SM)(t:Xf ZF)(f:WM Fl):Prop:=
 ∀A g ρ J s Q,du k c A->OK U g c ρ J s->f J Q->Tx (Tc U.prog U.w) A t (cu U g c ρ NxR Q) (XP U g c ρ C .none Q) s
noncomputable def qh:R4 V->WM Fl
 |[_,n]=>GH n
 |_=>aJ
section
variable{c:Cx}{fl:Sz}{Q:Fl->St->Prop}{e:Sz}
theorem CW {ys:R4 V}{ps:R4 Sz}{Q:Fl->St->Prop}(h:qh ys J Q)(r:ja ρ ys ps): ∃y i cw nv,ys=[y,.int i]/\ps=[cw,nv]/\VR ρ (.int i) nv/\Q (.ret (.int i)) J:=by
 cases ys with
 |nil=>exact h.elim
 |cons y r1=>cases r1 with
  |nil=>exact h.elim
  |cons n r2=>cases r2 with
   |cons=>exact h.elim
   |nil=>cases ps with
    |nil=>exact r.elim
    |cons cw p1=>cases p1 with
     |nil=>exact r.2.elim
     |cons nv p2=>cases p2 with
      |cons=>exact r.2.2.elim
      |nil=>change GH n J Q at h;cases n<;>first |exact⟨y,_,cw,nv,rfl,rfl,r.2.1,h⟩ |exact h.elim
theorem XP.ext (h:XP U g c bG C fl Q e s')(x:Ext ρ bG):XP U g c ρ C fl Q e s':=by
 obtain⟨ef,au,bD,a,n,nv,cw,he,ex,ok,CV,hg,ho,r,q⟩:=h;exact⟨ef,au,bD,a,n,nv,cw,he,x.trans ex,ok,CV,hg,ho,r,q⟩
theorem x_raise {y4:UM}{fa:WM (R4 V)}(P:yX U C)(hk:keepIn U.K (.ref C)=Sn)(hf:aU U k c VR (S3 func env) (ae (.glob (.ref C))))(ha:cy U k c env [e1,e2] fa)
  (hc:S3 (.Call func [e1,e2] [] y4) env=(do callWith y4 (<-S3 func env) [] (backTo y4 (starEach [e1,e2] env)) (backToKw y4 (keywordEach [] env)))):
  mP U k c C (Vu (.Raise (R3 (.Call func [e1,e2] [] y4)) Sg pos) env) (Z fa qh):=by
 intro A g ρ J s Q rm ok q;rw[arm_exec_Raise];refine Sb (Ug ?_);refine GC P rm.hd (Sb ?_);refine Call_ (aA (hf A g ρ J s (λf' bD=>f'=.glob (.ref C)/\Z fa qh bD Q) rm ok ⟨rfl,q⟩) λf' aB au ak x aQ al aV ⟨hx,aD⟩=>?_) hc;subst hx;cases(show f'=_ from aV);refine VO (P:=U.K.In) (by rw[ha.plain y4];rfl) (keeps_K hk) (aA (ha.ev y4 _ A g au ak aB _ rm al aD) λa aX aM aL y bu aI ⟨bN,c9⟩ aW=>⟨aI.K,?_⟩);refine bN▸?_;obtain⟨ps,kw⟩:=a;dsimp only at bN c9 ⊢;obtain⟨y1,i,cw,nv,rfl,rfl,r2,aW⟩:=CW aW c9;obtain⟨tt,rfl⟩:=id r2;refine Lh P (by have:=rm.depth;exact yN [_,_] [] 0xf3843c121e0b503e83c21c0ba54 rfl this) aI.keep λx bR gr nx ex=>Sb (Ug (SD ?_));have kp:Kp U bR.heap:=λb o e=>gr.1 b o (aI.keep b o e);refine⟨x,rfl,kp,⟨_,_,ex⟩,⟨aX,aM,aL,x,.int i,_,cw,rfl,aQ.trans bu,aI,?_,gr.2.1,gr.2.2,⟨r2,rfl⟩,aW⟩⟩;obtain⟨tp,dx,nx',nd,hx,ne,ns⟩:=ex;have sl: ∀b,aX.heap.get? b=Sg->b∉c.sl:=λb z m=>by obtain⟨o,e,_⟩:=aI.yq m;replace e:=z▸e;cases e
 exact⟨_,.none,⟨dx,⟨λb o O e=>gr.1 b o e,λb o e=>⟨o.slots,gr.1 b o e⟩⟩,nx',nd,sl _ nx',sl _ nd,hx,ne,ns⟩,rfl,.none⟩
end
end
section
section
variable{c:Cx}{fl:Sz}{Q:Fl->St->Prop}{e:Sz}
theorem vY {t:Xf β}{Q:β->TD->Prop}(h:Tx M A t Q E s)(q: ∀b s,Q b s->Q' b s)(e: ∀b s,E b s->E' b s):Tx M A t Q' E' s:=T9 h q e
theorem GI {t:Xf β}{R:bW->α->β->Prop}{q:α->St->Prop}(h:Tx M A t (cu U g c ρ R q) E s)
  (h1: ∀b s' bG bD a,Ext ρ bG->OK U g c bG bD s'->R bG a b->q a bD->Q' b s') (h2: ∀v s',E v s'->E' v s'):Tx M A t Q' E' s:=T9 h (λb s' p=>by
 obtain⟨bG,bD,a,e,ok,r,h⟩:=p;exact h1 b s' bG bD a e ok r h) h2
theorem adV (h:n+i=k+1)(hi:i<k): ∃m,m<n/\m+(i+1)=k+1:=by
 cases n with
 |zero=>exact yF [_,_] [] 0xf1a001cb3210a50 rfl hi h
 |succ m=>exact⟨m,UF m,(YJ m i).symm.trans h⟩
theorem OA:mP U k c C (UX [] env) (ae .next):=λA g ρ J s Q rm ok h=>UJ (post .next ok ⟨rfl,rfl⟩ h)
theorem OB {rest:R4 Vo}{f r:WM Fl}(h:mP U k c C (Vu st env) f)(hr:mP U k c C (UX rest env) r):mP U k c C (UX (st::rest) env) (aq f r):=by
 intro A g ρ J s Q rm ok q;refine Uk (GI (h A g ρ J s _ rm ok q) (λa aB au ak x aQ al aV aD=>?_) λb aB z=>?_)
 ·obtain⟨rfl,rfl⟩:=aV;exact vY (hr A g au ak aB _ rm al aD) (λv bR p=>p.ext aQ) λv bR p=>p.ext aQ
 ·obtain⟨ef,au,bD,a,n,nv,cw,he,ex,ok,CV,hg,ho,r,q⟩:=z;exact⟨ef,au,bD,a,n,nv,cw,he,ex,ok,CV,hg,ho,r,q⟩
theorem y5 {f:WM Fl}(h:mP U k c C (Vu st env) f):mP U k c C (UX [st] env) f:=by
 intro A g ρ J s Q rm ok q;refine Uk (GI (h A g ρ J s _ rm ok q) (λa aB au ak x aQ al aV aD=>?_) λb aB z=>z);obtain⟨rfl,rfl⟩:=aV;exact UJ ⟨au,ak,.next,aQ,al,⟨rfl,rfl⟩,aD⟩
theorem abR {test:SX}{orelse:R4 Vo}{ft:WM Tn}{fo:WM Fl}(ht:aU U k c BR (UE test env (S3 test env)) ft)(hb:mP U k c C (UX body env) fb)(ho:mP U k c C (UX orelse env) fo):
  mP U k c C (Vu (.If test body orelse pos) env) (bK ft fb fo):=by
 intro A g ρ J s Q rm ok q;refine wpAny_If (aA (ht A g ρ J s _ rm ok q) λa aB au ak pj aQ al aV aD=>?_);cases(show pj=a from aV);cases a;·exact vY (ho A g au ak aB _ rm al (aD.2 rfl)) (λv bR p=>p.ext aQ) λv bR p=>p.ext aQ
 ·exact vY (hb A g au ak aB _ rm al (aD.1 rfl)) (λv bR p=>p.ext aQ) λv bR p=>p.ext aQ
theorem Q7 {e:SX}{f:WM V}(h:aU U k c VR (S3 e env) f)(hi:interactive env=Sf)(hs:swapsWith e Sg pos.line env=pure Sf):mP U k c C (Vu (.Expr e pos) env) (Z f λO=>ae .next):=by
 intro A g ρ J s Q rm ok q;exact wpAny_Expr_any (aA (h A g ρ J s _ rm ok q) λa aB au ak x aQ al aV aD=>⟨au,ak,.next,aQ,al,⟨rfl,rfl⟩,aD⟩) hi hs
theorem OK.sS (h:OK U g c ρ J s):s.heap.FunFrames {} c.o9:=by
 have: ∀l:R4 Y4,(∀e∈l,e∈c.o9)->s.heap.FunFrames {} l:=by
  intro l;induction l with
  |nil=>exact λO=>trivial
  |cons e r ih=>intro hl;obtain⟨⟨h1,_⟩,x,hx,_⟩:=h.k7 e (hl e (.head _));obtain⟨o,ho,hd,_⟩:=h.yq (UD.mpr ⟨e,hl e (.head _),hx⟩);exact⟨h1,⟨x,o,hx,rfl,ho,hd⟩,ih λe' m=>hl e' (.tail _ m)⟩
 exact this _ λO m=>m
theorem OK.abS (h:OK U g c ρ J s){zAB:SM}(P:bO U g c ρ I)(P':bO U g c ρ zAB)(k: ∀b o,b≠I->b≠zAB->s.heap.get? b=R3 o->s'.heap.get? b=R3 o)(hg:autoParam (s'.gens=s.gens) br)(ho:autoParam (s'.os=s.os) br):OK U g c ρ J s':=
 {h with
  keep:=λb o q=>k b o (λz=>by replace q:=P.base▸z▸q;cases q) (λz=>by replace q:=P'.base▸z▸q;cases q) (h.keep b o q)
  cI:=λb o q=>(h.cI b o q).keep λo'=>k b o' (λz=>by replace q:=P.g▸z▸q;cases q) (λz=>by replace q:=P'.g▸z▸q;cases q)
  hp:=λa so q=>by obtain⟨x,o,p,q',r⟩:=h.hp a so q;exact⟨x,o,p,k x o (λz=>P.dG a (z▸p)) (λz=>P'.dG a (z▸p)) q',r⟩
  ns:=by obtain⟨m,⟨o,es,ep,hL,r⟩,v⟩:=h.ns;exact⟨m,⟨o,es,ep,k _ _ (TH P.L) (TH P'.L) hL,r⟩,v⟩
  cells:=λi y ob d e=>by obtain⟨cv,⟨o,hd,r⟩,v⟩:=h.cells i y ob d e;exact⟨cv,⟨o,k _ _ (P.C i y ob d e) (P'.C i y ob d e) hd,r⟩,v⟩
  im:=λx b vs e=>by obtain⟨xs,n,q,r⟩:=h.im x b vs e;exact⟨xs,n,k _ _ (λz=>by replace e:=P.bF▸z▸e;cases e) (λz=>by replace e:=P'.bF▸z▸e;cases e) q,r⟩
  gens:=hg.trans h.gens
  os:=ho.trans h.os}
abbrev abT (l:SM)(i:SH)(o:WW):Prop:=o.cls=.type "list_iterator"/\o.data=.fields #[.ref l,.int i 0]
noncomputable abbrev GJ (it:SM)(i:Sj)(old:Sz):WW:={cls:=.type "enumerate",dict:=Sg,data:=.fields #[.none,.bool Sf,.ref it,rawInt i,.none,old],slots:=#[]}
theorem CX {xi xv:Tj}{pi pv pt:UM}{x1}{x:V}{a l:SM}{e it:SM}(rm:du k c A)(Q8:c.o9=env::outer)(Q9:env.frame=R3 c.L)
  (hxi:dv U k c UR (λv=>assign (.Name xi pi) env v) (cC 4)) (hxv:dv U k c UR (λv=>assign (.Name xv pv) env v) (cC 5)) (hb:mP U k c C (UX body env) fb)
  (P:bO U g c ρ e) (P':bO U g c ρ it) (cF:e≠it) (hx:VR ρ x (.ref l))  (ok:OK U (gI (gI g e (GJ it 0 .none)) it o) c ρ J s) (ho:abT l 0 o) (h:sR x vs fb 0 vs J Q):
  T3 (Tc U.prog U.w) A (.forLoop (.Tuple [.Name xi pi,.Name xv pv] x1 pt) (.ref e) body [] env) (λr s'=>match r with |.ok f=>cu U g c ρ NxR Q f s' |.error x=>cameBackBy (Tc U.prog U.w) A env (XP U g c ρ C (rawInt c.L) Q) x s') s:=by
 have pe: ∀{ρ:bW} {b:WW},bO U g c ρ it->bO U (gI g e b) c ρ it:=λp=>p.lB (by rw[fP (TH cF)];exact p.g);refine codeAny_forLoop_any (λn s=>X5 λi bG J o old=>C5 (n+i=vs.length+1) (Ext ρ bG) (OK U (gI (gI g e (GJ it ((i:SH):Sj) old)) it o) c bG J s) (abT l i o) (sR x vs fb i (vs.drop i) J Q)) ?_ (vs.length+1)
  ⟨0,ρ,J,o,.none,rfl,Ext.refl _,ok,ho,h⟩
 rintro n s ⟨i,bG,J,o,old,hn,ex,ok,ho,h⟩;obtain⟨pE,P1,hit⟩:=ok.gQ (pe P');obtain⟨El,P0,he⟩:=pE.gQ P;have P1:bO U g c bG it:=P1.lB P'.g;have IT:s.heap.IsListIter it l i:=⟨o,hit,ho⟩;cases hv:vs[i]? with
 |some v=>
  rw[jK hv]at h;obtain⟨hS,h⟩:=h;obtain⟨_,xs,nn,hl,rr⟩:=El.dO (hx.mono ex) hS;obtain⟨u,hu,ru⟩:=rr.get hv;rw[T4]at hu;obtain⟨m,hm,sx⟩:=adV hn (R6.mp hv).1;refine wpAny_pyNext_enum_item he IT (mE hl) hu cF λaD heo Ra abU aeO abV=>?_;refine wpAny_letOwnedTupleGo_enum heo λaW abW iX=>?_;replace iX:Vs e aD aW:=iX;have abX:aW.IsTuple s.heap.objs.size #[.int i s.toks,u]:=⟨_,(iX.2 _ (Nat.ne_of_gt (TA he))).trans abU,rfl,_,rfl⟩;refine wpAny_assign_Tuple rm.hd abX rfl rfl λcX GK=>?_;replace GK:Y3 aW.objs.size aW cX:=GK;have GB: ∀b o,aW.get? b=R3 o->cX.get? b=R3 o:=λb o q=>GK b o (Ur (TA q)) q;obtain⟨o',adW,kC⟩:=Ra;have tR:=(OK.freeze (El.abS (s':={s with heap:=cX,toks:=s.toks+1}) P0 P1 λb o n1 n2 q=>GB _ _ ((iX.2 b n1).trans (abV b o n1 n2 q))) P0 (GB _ _ abW)).freeze (pe P1) (GB _ _ ((iX.2 it (TH cF)).trans adW));show Tx _ A (do holding [u] (assign (.Name xi pi) env (.int i s.toks));do holding [] (assign (.Name xv pv) env u);pure ()) _ _ _;refine Sb (T7 (aA (hxi A _ bG J _ _ (.int i) (.int i s.toks) rm tR ⟨_,rfl⟩ h) λO gA gq gG O pK dK O gR=>?_));unfold bk at gR;refine Sb (T7 (aA (hxv A _ gq gG _ _ _ u rm dK (ru.mono pK) gR) λO hP pP sE O Ct nK O rx=>SD ?_));have ex5:=(ex.trans pK).trans Ct;refine GI (hb A _ pP sE hP _ rm nK rx) (λf Qk vH vI fl Ql vJ adX Qm=>?_) λb Qk z=>?_
  ·obtain⟨rfl,rfl⟩:=adX;exact⟨m,hm,i+1,vH,vI,o',_,sx,ex5.trans Ql,by push_cast;exact vJ,kC,Qm⟩
  ·obtain⟨ef,au,bD,ax,n,nv,cw,rfl,ex',CY,CV,hg,ho,r,q⟩:=z;refine Lj (rm.fr.trans (Q8▸rfl)) (Q8▸CY.sS) (λb m=>by rw[Cx.sl,Q8];exact m) Q9 CV λh' F=>?_;exact⟨ef,au,bD,ax,n,nv,cw,rfl,ex5.trans ex',(CY.gQ (pe P1)).1.gQ P0 |>.1,F,hg,ho,r,q⟩
 |none=>
  replace h:=(gX hv)▸h;obtain⟨hS,h⟩:=h;obtain⟨_,xs,nn,hl,rr⟩:=El.dO (hx.mono ex) hS;have hz:xs[i]? =Sg:=by rw[<-T4];exact T2.mpr (by rw[rr.len];exact T2.mp hv)
  refine wpAny_pyNext_enum_end rm.hd he IT (mE hl) hz λh' nF=>?_;exact UJ ⟨bG,J,.next,ex,El.away P1 λb o n q=>nF b o n q,⟨rfl,rfl⟩,h⟩
end
end
section
def y6 (U:Un)(k:SH)(c:Cx)(C:SM)(R:bW->Fl->ZF->Prop)(t:Xf ZF)(f:WM Fl):Prop:=
 ∀A g ρ J s Q,du k c A->OK U g c ρ J s->f J Q->Tx (Tc U.prog U.w) A t (cu U g c ρ R Q) (XP U g c ρ C (rawInt c.L) Q) s
section
variable{c:Cx}{fl:Sz}{Q:Fl->St->Prop}{e:Sz}
theorem Rb {xi xv:Tj}{pi pv pt pc:UM}{x1}(Q8:c.o9=env::outer)(Q9:env.frame=R3 c.L)
  (hf:aU U k c VR (S3 func env) (ae (.glob (.type "enumerate")))) (hx:cy U k c env [iter] (Z fx λx=>Z (ae []) λxs=>ae (x::xs)))
  (hxi:dv U k c UR (λv=>assign (.Name xi pi) env v) (cC 4)) (hxv:dv U k c UR (λv=>assign (.Name xv pv) env v) (cC 5)) (hb:mP U k c C (UX body env) fb)
  (hc:S3 (.Call func [iter] [] pc) env=(do callWith pc (<-S3 func env) [] (backTo pc (starEach [iter] env)) (backToKw pc (keywordEach [] env)))) (hs: ∀x,foldedSetIterable (.Call func [iter] [] pc) env x=pure x):
  y6 U k c C NxR (Vu (.For (.Tuple [.Name xi pi,.Name xv pv] x1 pt) (.Call func [iter] [] pc) body [] pos) env) (Z fx (nP fb)):=by
 intro A g ρ J s Q rm ok q;refine wpAny_For ?_ hs;refine Call_ (aA (hf A g ρ J s (λf' bD=>f'=.glob (.type "enumerate")/\Z fx (nP fb) bD Q) rm ok ⟨rfl,q⟩) λf' aB au ak x aQ al aV ⟨mD,aD⟩=>?_) hc;subst mD;cases(show f'=_ from aV);refine VO (P:=λO=>True) (by rw[hx.plain pc];rfl) (λh O=>⟨.machine,.inr (.inl rfl),.now⟩) (aA (hx.ev pc _ A g au ak aB (λxs bD=>match xs with |[x]=>nP fb x bD Q |_=>False) rm al aD) λa aX aM aL y bu aI ⟨bN,c9⟩ aW=>⟨TK,?_⟩);refine bN▸?_;obtain⟨ps,kw⟩:=a;cases y with
 |nil=>exact aW.elim
 |cons y ys=>cases ys with
  |cons=>exact aW.elim
  |nil=>cases ps with
   |nil=>exact c9.elim
   |cons a ps=>
    cases ps with
    |cons=>exact c9.2.elim
    |nil=>
     have r1:=c9.1;unfold nP at aW;obtain⟨vs,hS,-,aW⟩:=aW;obtain⟨l,xs,nn,hl,rr⟩:=aI.dO r1 hS;refine call_enumerate_list (mE hl) λh' he ⟨o,hit,ho⟩ Qo hk=>?_;refine wpAny_pyIter_enum he ?_;have P:bO U g c aM (aX.heap.objs.size+1):=.fresh aI (WY (UW _));have P':bO U g c aM aX.heap.objs.size:=.fresh aI (cp _);have ne:aX.heap.objs.size+1≠aX.heap.objs.size:=Nat.succ_ne_self _;have ot:OK U (gI (gI g (aX.heap.objs.size+1) (GJ aX.heap.objs.size 0 .none)) aX.heap.objs.size o) c aM aL {aX with heap:=h'}:=
      ((aI.grow (s':={aX with heap:=h'}) hk).freeze P he).freeze ⟨P'.base,by unfold gI;rw[Sq (TH ne)];exact P'.g,P'.L,P'.C,P'.dG,P'.bF,P'.sl⟩ hit
     refine UA (CX (a:=l) rm Q8 Q9 hxi hxv hb P P' ne r1 ot ho aW) λr s' z=>?_;cases r with
     |ok f=>exact(cu.ext bu z).ext aQ
     |error x=>exact T9 z (λO O z=>(z.ext bu).ext aQ) λO O z=>(z.ext bu).ext aQ
end
end
section
section
variable{c:Cx}{fl:Sz}{e:Sz}
theorem OK.Rc (h:OK U g c ρ J s)(X:SM->Prop)(P: ∀b,X b->bO U g c ρ b)(k1: ∀b o,b∉c.sl->¬X b->s.heap.get? b=R3 o->s'.heap.get? b=R3 o)(k2: ∀b o,b∈c.sl->s.heap.get? b=R3 o->∃x,s'.heap.get? b=R3 {o with slots:=x})
  (hg:autoParam (s'.gens=s.gens) br) (ho:autoParam (s'.os=s.os) br):OK U g c ρ J s':=by
 have up: ∀b o,¬X b->s.heap.get? b=R3 o->∃x,s'.heap.get? b=R3 {o with slots:=x}:=λb o n e=>by
  by_cases z:b∈c.sl;·exact k2 b o z e
  ·exact⟨o.slots,k1 b o z n e⟩
 exact{h with
  keep:=λb o e=>k1 b o (λz=>by replace e:=((h.iF z).1)▸e;cases e) (λz=>by replace e:=((P b z).base)▸e;cases e) (h.keep b o e)
  cI:=λb o e=>by
   have f:=h.cI b o e;have nX: ¬X b:=λz=>by replace e:=((P b z).g)▸e;cases e
   obtain⟨x,z⟩:=f.up;obtain⟨y,z'⟩:=up _ _ nX z;exact⟨λn=>k1 b o n nX (f.ex n),y,z'⟩
  hp:=λa so e=>by obtain⟨x,o,p,q,r⟩:=h.hp a so e;exact⟨x,o,p,k1 _ _ (λz=>(h.iF z).2.1 _ p) (λz=>(P x z).dG a p) q,r⟩
  ns:=by obtain⟨m,⟨o,es,ep,hL,r⟩,v⟩:=h.ns;obtain⟨x,z⟩:=up _ _ (λz=>(P _ z).L rfl) hL;exact⟨m,⟨_,es,ep,z,r⟩,v⟩
  cells:=λi y ob d e=>by obtain⟨cv,⟨o,hd,r⟩,v⟩:=h.cells i y ob d e;obtain⟨x,z⟩:=up _ _ (λz=>(P d z).C i y ob d e rfl) hd;exact⟨cv,⟨_,z,r⟩,v⟩
  im:=λx b vs e=>by obtain⟨xs,n,q,r⟩:=h.im x b vs e;exact⟨xs,n,k1 _ _ (λz=>by replace e:=((h.iF z).2.2)▸e;cases e) (λz=>by replace e:=((P x z).bF)▸e;cases e) q,r⟩
  gens:=hg.trans h.gens
  os:=ho.trans h.os}
def vZ (_:bW)(a:Fl)(b:ZF):Prop:=a=.ret (.int (-1))/\b=.ret (.bool Sn)
inductive XQ (U:Un)(g:SM->Si WW)(c:Cx)(ρ:bW)(C:SM)(Q:V->St->Prop)(e:Sz)(s':TD):Prop where
 |mk (ef:TD) (bG:bW) (bD:St) (L x:SM) (n:V) (nv cw:Sz) (he:e=.ref x) (ex:Ext ρ bG) (ok:OK U g c bG bD ef) (P:bO U g c bG L) (CV:Bm (L::c.sl) ef.heap s'.heap x C (pfA cw nv) .none) (hg:s'.gens=ef.gens) (ho:s'.os=ef.os) (r:VR bG n nv/\handedOut nv=pure nv) (q:Q n bD)
theorem Lk {a:SM}{fd:TP}{xs:R4 V}{as:R4 Sz}{f:WM Fl}(F:FnAt U.K a fd body ps sh)
  (hb: ∀L o,y6 U k (ctx L sh (callEnvC fd L a::o)) C vZ (UX body (callEnvC fd L a)) f) (rm:du (k+1) c A) (ok:OK U g c ρ J s) (r:ja ρ xs as) (q:lx ps.length f xs J Q):
  T3 (Tc U.prog U.w) A (.call (.ref a) ⟨as,[]⟩) (λr s'=>match r with |.ok (.ret v)=>v=.bool Sn/\cu U g c ρ UR (λO=>Q (.int (-1))) () s' |.error e=>XQ U g c ρ C Q e s' |_=>False) s:=by
 obtain⟨hl,q⟩:=q;have hL:=bO.fresh ok (cp s.heap);refine pC F rm ok r hl λaB nG al=>?_;refine vY (hb s.heap.objs.size _ _ _ ρ _ aB _ nG al q) (λfl s' z=>?_) λe s' z=>?_
 ·obtain⟨bG,bD,r',e',ok',v',q'⟩:=z;obtain⟨rfl,rfl⟩:=v';exact⟨rfl,bG,_,(),e',ok.Kf rfl e' ok',TK,q'⟩
 ·obtain⟨ef,bG,bD,x,n,nv,cw,rfl,e',CY,CV,hg,ho,r,q⟩:=z;refine GF rfl CV λh' F'=>?_;exact⟨ef,bG,_,s.heap.objs.size,x,n,nv,cw,rfl,e',ok.Kf rfl e' CY,⟨hL.base,hL.g,hL.L,hL.C,λa z=>CY.db a _ z rfl,CY.kB,hL.sl⟩,F',hg,ho,r,q⟩
end
end
section
open Builtin.ObjectAttr
structure wa (K:Vc)(C:SM)(name:Tj):Prop where
 ga:findIn K (.ref C) "__getattribute__" =R3 (R3 (.builtin "BaseException.__getattribute__"))
 gh:findIn K (.ref C) "__getattr__" =R3 Sg
 no:findIn K (.ref C) name=R3 Sg
 sub:mroIn K C (.type "BaseException")=R3 Sn
 cls: ∃cd,clsIn K C=R3 cd/\cd.hasDict=Sn
section
variable{K:Vc}{x dx:SM}{vs:Vt Sz}
variable{g:Vt GenState}{d:Drawn}{t:SH}
theorem Ln {Q:YC->TD->Prop}(X:K.In h)(G:wa K C name)(hx:h.get? x=R3 {cls:=.ref C,dict:=R3 dx,data:=.fields vs})(hn:h.Ns1 dx mA)(hv:mA name=R3 v)(hq:Q (.done (.ret v)) ⟨h,g,d,t,os⟩):
  Tx (Tc prog w) A (Builtin.«object.__getattribute__» ⟨[.ref x,.str name tk],[]⟩) Q E ⟨h,g,d,t,os⟩:=by
 obtain⟨cd,hc,hd⟩:=G.cls;have L1:=Wh (M:=Tc prog w) X G.no;have L2:=V5 (M:=Tc prog w) X hc;unfold Builtin.«object.__getattribute__»;repeat (first |(with_reducible refine Ub hx ?_) |(with_reducible refine Looks.at L1 ?_) |(with_reducible refine Looks.at L2 ?_;rw[hd]) |(with_reducible refine wpAny_nsGet hn.ns ?_;rw[hv]) |wp_step)
 all_goals exact hq
theorem GL:builtinKind "BaseException.__getattribute__" =R3 .slot:=by decide+kernel
theorem CZ:splitId "BaseException.__getattribute__" =R3 ("BaseException","__getattribute__"):=by decide+kernel
theorem Rd {Q:Sz->TD->Prop}(X:K.In h)(G:wa K C name)(hx:h.get? x=R3 {cls:=.ref C,dict:=R3 dx,data:=.fields vs})(hn:h.Ns1 dx mA)(hv:mA name=R3 v)(hh:handedOut v=pure v)(hq:Q v ⟨h,g,d,t+1,os⟩):
  Tx (Tc prog w) A (getAttr (.ref x) name expr) Q E ⟨h,g,d,t,os⟩:=by
 have GA:=PySem.F.attr_Exception.ga;have T:Looks (Tc prog w) h (typeOf (.ref x)) (.ref C):=(Looks.ld (part:=R3 headPart) hx).andThen .now;have L1:=Wh (M:=Tc prog w) X G.ga;have L2:=Wh (M:=Tc prog w) X G.gh;have L3:Looks (Tc prog w) h (isInstance (.ref x) (.type "BaseException")) Sn:=T.andThen (ZW X G.sub);unfold getAttr getAttrBy;refine Sb (Zo (T7 (Sb (T _ _ _ _ (λO O e=>e) (Sb (L1 _ _ _ _ (λO O e=>e) ?_))))));show Tx _ _ (getAttrByItsOwn (.ref x) (.str name t) (.ref C) (.builtin "BaseException.__getattribute__") Sn expr) _ _ _;unfold getAttrByItsOwn hookBefore callGetattribute boundAndCalled;refine Sb (L2 _ _ _ _ (λO O e=>e) ?_);refine Sb (wpAny_attempt (T7 ?_));refine(show(expr && onTheHeap (.builtin "BaseException.__getattribute__"))=Sf by cases expr<;>rfl)▸?_;refine Sb (Vw (GA.bind _) ?_);refine Vx (Xp GA.plain PySem.F.entry_bexc_ga (@check_slot (Tc prog w) _ _ _ "BaseException.__getattribute__" "BaseException" "__getattribute__" (.ref x) [.str name t] [] _ GL CZ L3 (PySem.F.args_bexc_ga _ _) ?_));refine Ln X G hx hn hv ?_;show Tx _ _ (handedOut v) _ _ _;refine hh▸?_;exact SD hq
end
end
section
structure Re (U:Un)(env:Y4)(C:SM):Prop where
 P:yX U C
 G:wa U.K C "step"
 kind:env.scope.kind=.function
 gl:env.globals=mainGlobals
 kp:env.kindOf "ProofFault" =R3 .globalImplicit
 pf:nsIn U.K mainGlobals "ProofFault" =R3 (R3 (.ref C))
 ke:env.kindOf "e" =R3 .local
section
variable{S:R4 SM}{x:SM}{nv:Sz}{m:Tj->Si Sz}{Q:ZF->TD->Prop}
theorem y7 (H:Re U env C)(hkp: ∀h,Oz S b₀ h->Kp U h)(hLB:U.base.get? env.locals=Sg)(jL:b₀.Ns env.locals m)(F:Bm S b₀ s.heap x C (pfA cw nv) .none)(hh:handedOut nv=pure nv)
  (h: ∀s' aD,Oz S b₀ aD->(∀b o,b≠env.locals->aD.get? b=R3 o->s'.heap.get? b=R3 o)->s'.gens=s.gens->s'.os=s.os->Q (.ret nv) s'):
  Tx (Tc U.prog U.w) A (handleBy (.ref x) env [.ExceptHandler (R3 (.Name "ProofFault" p1)) (R3 "e") [.Return (R3 (.Attribute (.Name "e" p2) "step" p3)) p4] p5]) Q E s:=by
 have hp:(env.scope.kind== .class || (env.scope.kind== .module && env.locals !=env.globals))=Sf:=by rw[H.kind];rfl
 obtain⟨vs,tb,⟨dx,af,nx,nd,xS,dS,hx,ne,ns⟩,h1,t⟩:=id F;have kp:=hkp _ af;refine wpAny_handleBy_cons (codeAny_handlers_test ?_) (by intro z;cases z);refine Vy H.kind H.kp (Yh (H.gl▸U.g.keeps kp) (mg_of U.rk U.g H.pf) ?_) (by decide);obtain⟨F',F1,zAC,O1,S',S1,hC,hB,hA,hN,hE,hi,ht,hl,hl1⟩:=H.P;have hL:b₀.get? env.locals≠Sg:=by obtain⟨o,es,ep,e,r⟩:=jL;exact e▸(λz=>by cases z)
 obtain⟨hp0,g,d,tk,os⟩:=s;refine wpAny_excMatches_sub_self (U.rk.keeps kp _ _ hC) hx rfl hE ?_;refine codeAny_handlers_suite_as (jQ F λaD Q6=>?_);obtain⟨aeP,aeQ,⟨abY,GM,aeR,abZ,aeS,aeT,lO,aeU,ab0⟩,-,-⟩:=Q6;have iD:aD.Ns env.locals m:=by obtain⟨o,es,ep,e,r⟩:=jL;obtain⟨y,z⟩:=GM.ins _ _ e;exact⟨_,es,ep,z,r⟩
 have xL:x≠env.locals:=λz=>hL (by rw[<-z];exact nx);have dL:abY≠env.locals:=λz=>hL (by rw[<-z];exact abZ);refine ZI H.ke iD (λaW OC iX=>?_) hp;replace iX:Vs env.locals aD aW:=iX;have ab1:Kp U aW:=λb o e=>(iX.2 b λz=>by replace e:=hLB▸z▸e;cases e).trans (hkp _ GM b o e);refine Uk (VU (Xr (Ve (TX H.kind H.ke OC (Sv rfl) ?_) (by decide)) rfl));refine Rd (U.rk.keeps ab1) H.G ((iX.2 x xL).trans lO) (ab0.at λo e=>(iX.2 _ dL).trans e) (Sv rfl) hh ?_;exact wpAny_nameGoes H.ke OC hp λh' m' sx same=>h _ aD GM (λb o nb e=>(same.2 b nb).trans ((iX.2 b nb).trans e)) rfl rfl
end
end
noncomputable abbrev OD:Shape:=[("clauses",Sg),("log",Sg),("goal",Sg)]
theorem adY {xs:R4 α}(h:xs.length=3): ∃x y z,xs=[x,y,z]:=by
 cases xs with
 |nil=>exact nomatch h
 |cons x r=>cases r with
  |nil=>exact nomatch h
  |cons y r=>cases r with
   |nil=>exact nomatch h
   |cons z r=>cases r with
    |nil=>exact⟨x,y,z,rfl⟩
    |cons=>exact nomatch h
theorem Lp {f:WM Fl}{fn:SX}{c1 q3 q4:UM}{fa:WM (R4 V)}
   {o:R4 Y4} {cx:Cx}    {L3:SH->Si V} {xs:R4 V} {hp:Ad->Si SO}  {Q:V->(Ad->Si SO)->Prop} {R:Sz->TD->Prop} 
  (FC:FnAt U.K aC xR wc OG GN) (u0:OG.length=3) (hb: ∀L o,y6 U k (ctx L GN (callEnvC xR L aC::o)) C vZ (UX wc (callEnvC xR L aC)) f)
  (H:Re U ev C) (hk:keepIn U.K (.ref aC)=Sn) (hf:aU U (k+1) cx VR (S3 fn ev) (ae (.glob (.ref aC)))) (ha:cy U (k+1) cx ev xM fa) (hfa: ∀K,K xs ⟨L3,hp⟩->fa ⟨L3,hp⟩ K)
  (hc:S3 (.Call fn xM [] c1) ev=(do callWith c1 (<-S3 fn ev) [] (backTo c1 (starEach xM ev)) (backToKw c1 (keywordEach [] ev)))) (he1:aU U (k+1) cx VR (S3 e1 ev) (ae (.int (-1))))
  (rm:du (k+1) cx A) (ok:OK U g cx ρ ⟨L3,hp⟩ s) (hL:ev.locals=cx.L) (oU:cx.o9=ev::o) (Q9:ev.frame=R3 cx.L) (hx:xs.length=3) (q:f {loc:=λi=>xs[i]?,hp:=hp} (Ju L3 λv J=>Q v J.hp))
  (h: ∀ef s' bG bD n v,Ext ρ bG->OK U g cx bG bD ef->(∀b o,b≠cx.L->ef.heap.get? b=R3 o->s'.heap.get? b=R3 o)->s'.gens=ef.gens->s'.os=ef.os->VR bG n v->Q n bD.hp->R v s'):
  Tx (Tc U.prog U.w) A (UX [.Try [.Return (R3 (.IfExp (.Compare (.Call fn xM [] c1) [.Is] [.Constant (.bool Sn) k1 q1] q2) e1 e2 q3)) q4] [.ExceptHandler (R3 (.Name "ProofFault" p1)) (R3 "e") [.Return (R3 (.Attribute (.Name "e" p2) "step" p3)) p4] p5] [] [] p6] ev)
   (λf s'=>R (match f with |.ret v=>v |_=>.none) s') E s:=by
 refine Uk (wpAny_Try_except (Uk (VU (wpAny_IfExp (ZJ ?_)))));refine Call_ (aA (hf _ _ ρ _ s (λf' bD=>f'=.glob (.ref aC)/\bD=⟨L3,hp⟩) rm ok ⟨rfl,rfl⟩) λf' aX aM aL O bu aI bN hh=>?_) hc;obtain⟨rfl,rfl⟩:=hh;obtain rfl:=(show f'=_ from bN);refine VO (P:=U.K.In) (by rw[ha.plain c1];rfl) (keeps_K hk) (aA (ha.ev c1 _ _ _ aM _ aX (λys bD=>ys=xs/\bD=⟨L3,hp⟩) rm aI (hfa _ ⟨rfl,rfl⟩)) λa bR b9 cg ys c7 bI gB hh=>⟨bI.K,?_⟩);obtain⟨rfl,rfl⟩:=hh;obtain⟨c9,gB⟩:=gB;refine c9▸?_;obtain⟨ps,kw⟩:=a;dsimp only at c9 gB ⊢;refine Vx (UA (Lk (Q:=λv bD=>Q v bD.hp) FC hb rm bI gB (by rw[u0];exact⟨hx,q⟩)) λrr gA zz=>?_);rcases rr with e |(v |_ |_ |_)<;>try exact zz.elim
 ·obtain⟨ef,bG,bD,L,ex,n,nv,cw,rfl,e',CY,P,CV,hg,ho,⟨rn,hh⟩,q⟩:=zz;refine qf (rm.fr.trans (SU R3 oU)) (oU▸CY.sS) (λb m=>.tail _ (by rw[Cx.sl,oU];exact m)) Q9 CV λh' F=>jQ F λh'' F'=>?_;obtain⟨m,jL,-⟩:=CY.ns;rw[<-hL]at jL;refine y7 H (λh af b o e=>af.out b o (λz=>?_) (CY.keep b o e)) (hL▸CY.eO) jL F' hh λs' aD af k' g' o'=>?_
  ·rcases SZ.mp z with z |z;·exact c6 (P.base.symm.trans (z▸e))
   ·exact c6 ((CY.iF z).1.symm.trans e)
  ·exact h {ef with heap:=aD} s' bG bD n _ ((bu.trans c7).trans e') (CY.Rc (s':={ef with heap:=aD}) (· =L) (λb e=>e▸P) (λb o n1 n2 e=>af.out b o (λz=>(SZ.mp z).elim n2 n1) e) (λb o O e=>af.ins b o e)) (hL▸k') (g'.trans hg) (o'.trans ho) rn q
 ·obtain⟨rfl,gq,gG,_,pK,dK,-,adZ⟩:=zz;refine Wf (is_bool (SD ?_));refine aA (he1 _ _ _ _ _ (λv bD=>v=.int (-1)/\Q (.int (-1)) bD.hp) rm dK ⟨rfl,adZ⟩) λv hP pP sE O Ct nK Qj hh=>?_;obtain⟨rfl,ad0⟩:=hh;exact h hP hP pP _ _ _ (((bu.trans c7).trans pK).trans Ct) nK (λO O O e=>e) rfl rfl Qj ad0
theorem GO {aT:SM}{xT:TP}{f:WM Fl}{fn:SX}{c1 q3 q4:UM}{fa:WM (R4 V)}
  (FT:FnAt U.K aT xT [.Try [.Return (R3 (.IfExp (.Compare (.Call fn xM [] c1) [.Is] [.Constant (.bool Sn) k1 q1] q2) e1 e2 q3)) q4] [.ExceptHandler (R3 (.Name "ProofFault" p1)) (R3 "e") [.Return (R3 (.Attribute (.Name "e" p2) "step" p3)) p4] p5] [] [] p6] ["clauses","log","goal"] OD)
  (FC:FnAt U.K aC xR wc OG GN) (u0:OG.length=3) (hb: ∀L o,y6 U k (ctx L GN (callEnvC xR L aC::o)) C vZ (UX wc (callEnvC xR L aC)) f)
  (H: ∀L,Re U (callEnvC xT L aT) C) (hk:keepIn U.K (.ref aC)=Sn) (hf: ∀L fr,aU U (k+1) (ctx L OD fr) VR (S3 fn (callEnvC xT L aT)) (ae (.glob (.ref aC))))
  (ha: ∀L fr,cy U (k+1) (ctx L OD fr) (callEnvC xT L aT) xM fa) (hfa: ∀x y z hp K,K [x,y,z] {loc:=λi=>[x,y,z][i]?,hp:=hp}->fa {loc:=λi=>[x,y,z][i]?,hp:=hp} K)
  (hc: ∀L,S3 (.Call fn xM [] c1) (callEnvC xT L aT)=(do callWith c1 (<-S3 fn (callEnvC xT L aT)) [] (backTo c1 (starEach xM (callEnvC xT L aT))) (backToKw c1 (keywordEach [] (callEnvC xT L aT)))))
  (he1: ∀L fr,aU U (k+1) (ctx L OD fr) VR (S3 e1 (callEnvC xT L aT)) (ae (.int (-1)))):bZ U (k+2) aT (lx 3 f):=by
 intro c A g ρ J s Q xs as rm ok r q;obtain⟨hl,q⟩:=q;have P:=bO.fresh ok (cp s.heap);refine pC (R:=λr s'=>match r with |.ok (.ret v)=>cu U g c ρ VR Q v s' |_=>False) FT rm ok r hl λaB nG al=>?_;obtain⟨x,y,z,rfl⟩:=adY hl;refine Lp (Q:=λv hp=>Q v ⟨J.loc,hp⟩) (R:=cu U g c ρ VR Q) FC u0 hb (H _) hk (hf _ _) (ha _ _) (hfa x y z _) (hc _) (he1 _ _) nG al rfl rfl rfl rfl q λef s' bG bD n v ex KC k' g' o' rn q=>?_;exact⟨bG,_,n,ex,(ok.Kf rfl ex KC).away ⟨P.base,P.g,P.L,P.C,λa z=>KC.db a _ z rfl,KC.kB,P.sl⟩ k' g' o',rn,q⟩
section
section
variable{c:Cx}
theorem GP {st:V->WM Unit}(hv:aU U k c VR (S3 value env) fv)(Ck:dv U k c UR (λv=>storeName env y v) st)
  (hs:swapsWith value (R3 (.Name y p)) pos.line env=pure Sf):aU U k c NxR (Vu (.Assign [.Name y p] value pos) env) (Z fv λv=>Z (st v) λO=>ae .next):=by
 intro A g ρ J s Q rm ok q;exact wpAny_Assign_Name (aA (hv A g ρ J s _ rm ok q) λa aB au ak x aQ al aV aD=>aA (Ck A g au ak aB _ x a rm al aV aD) λO aX aM aL O bu aI O aW=>
  ⟨aM,aL,.next,aQ.trans bu,aI,⟨rfl,rfl⟩,aW⟩) hs
theorem Lq {s1 s2:Vo}{f1 f2:WM Fl}(h1:aU U k c NxR (Vu s1 env) f1)(h2:y6 U k c C NxR (Vu s2 env) f2):
  y6 U k c C vZ (UX [s1,s2,.Return (R3 (.Constant (.bool Sn) k1 q1)) q2] env) (aq f1 (aq f2 (ae (.ret (.int (-1)))))):=by
 intro A g ρ J s Q rm ok q;refine Uk (aA (h1 A g ρ J s _ rm ok q) λa aB au ak x aQ al aV aD=>?_);obtain⟨rfl,rfl⟩:=aV;refine Uk (vY (h2 A g au ak aB _ rm al aD) (λa aX ⟨aM,aL,x,bu,aI,bN,aW⟩=>?_) λb aX z=>?_)
 ·obtain⟨rfl,rfl⟩:=bN;exact Uk (VU (Wf ⟨aM,aL,.ret (.int (-1)),aQ.trans bu,aI,⟨rfl,rfl⟩,aW⟩))
 ·obtain⟨ef,aM,bD,a,n,nv,cw,he,ex,ok,CV,hg,ho,r,q⟩:=z;exact⟨ef,aM,bD,a,n,nv,cw,he,aQ.trans ex,ok,CV,hg,ho,r,q⟩
end
end
section
section
variable{c:Cx}{G:Cfg}
theorem qi {x:Tj}:aU U k c VR (S3 (.Constant (.str x) n pos) env) (ae (.str x)):=λA g ρ J s Q rm ok h=>VK (post (.str x) (ok.tok _) ⟨_,rfl⟩ h)
def ab2 (f g:WM V):WM (R4 V):=Z f λx=>Z (Z g λy=>Z (ae []) λys=>ae (y::ys)) λxs=>ae (x::xs)
def clW (d:Dn)(se:SE)(v1 it t1 t2 t3 e3 nb nb':SX)(w1 w2 w3:Tj):WM Fl:=
 aq (Z (d.e se v1) λv=>Z (cC 3 v) λO=>ae .next) (aq (Z (d.e se it) (nP
  (aq (bK (d.t se t1) (Z (ab2 (ae (.str w1)) (d.e se nb)) qh) (ae .next))
  (aq (bK (d.t se t2) (Z (ab2 (bK (d.t se t3) (ae (.str w2)) (ae (.str w3))) (d.e se nb')) qh) (ae .next))
   (Z (d.e se e3) λO=>ae .next))))) (ae (.ret (.int (-1)))))
theorem Rf {o:R4 Y4}{f1 f3 it t1 t2 t3:SX}{as1 Lr:R4 SX}{w1 w2 w3:Tj}{n1 n3 n4 n5:SH}{p8 p9 q3 q4 q5 q6 q7 q8 q9 r1 r2 r3 r4 r5 r6 r7 r8 r9:UM}
  (hd:fG U k G d) (hs:cD se env c) (Q8:c.o9=env::o) (Q9:env.frame=R3 c.L) (P:yX U C) (hk:keepIn U.K (.ref C)=Sn)
  (hpf:env.kindOf "ProofFault" =R3 .globalImplicit) (hpn:nsIn U.K mainGlobals "ProofFault" =R3 (R3 (.ref C))) (ad1:env.kindOf "enumerate" =R3 .globalImplicit) (hen:nsIn U.K mainGlobals "enumerate" =R3 Sg) (heb:bootBuiltins "enumerate" =R3 (.type "enumerate"))
  (h3:A6 se "steps" =R3 (cC 3)) (h4:A6 se "number" =R3 (cC 4)) (h5:A6 se "clause" =R3 (cC 5)) (hi:interactive env=Sf) (hit:starEach [it] env=(Sf,S3 it env)::starEach [] env):
  y6 U k c C vZ (UX [.Assign [.Name "steps" p1] (.Call f1 as1 [] p2) p3,
   .For (.Tuple [.Name "number" p4,.Name "clause" p5] n1 p6) (.Call (.Name "enumerate" p7) [it] [] p8)
    [.If t1 [.Raise (R3 (.Call (.Name "ProofFault" p9) [.Constant (.str w1) n2 q1,.Name "number" q2] [] q3)) Sg q4] [] q5,
     .If t2 [.Raise (R3 (.Call (.Name "ProofFault" q6) [.IfExp t3 (.Constant (.str w2) n3 q7) (.Constant (.str w3) n4 q8) q9,.Name "number" r1] [] r2)) Sg r3] [] r4,
     .Expr (.Call f3 Lr [] r5) r6] [] r7,.Return (R3 (.Constant (.bool Sn) n5 r8)) r9] env)
   (clW d se (.Call f1 as1 [] p2) it t1 t2 t3 (.Call f3 Lr [] r5) (.Name "number" q2) (.Name "number" r1) w1 w2 w3):=by
 refine Lq (GP (hd.e hs _) (jo hs h3) rfl) ?_;refine Rb Q8 Q9 (tE hs.e ad1 hen heb (by decide) (by decide)) (sw hit (hd.e hs it) AH) (fT (jo hs h4)) (fT (jo hs h5)) ?_ rfl (λO=>rfl);refine OB (abR (hd.t hs t1) (y5 (x_raise P hk (lj hs.e hpf hpn (by decide)) (sw rfl qi (sw rfl (hd.e hs _) AH)) rfl)) OA) ?_;refine OB (abR (hd.t hs t2) (y5 (x_raise P hk (lj hs.e hpf hpn (by decide)) (sw rfl (sv (hd.t hs t3) qi qi) (sw rfl (hd.e hs _) AH)) rfl)) OA) ?_;exact y5 (Q7 (hd.e hs _) hi rfl)
end
end
theorem boot_abs:bootBuiltins "abs" =R3 (.builtin "abs"):=by first |rfl |kernel_rfl |boot_by_name
section
section
variable{c:Cx}
theorem Ls {K:Vc}{x f:SM}{Q:Sz->TD->Prop}(X:K.In s.heap)(I:InstAt s.heap x ox C od)(hga:findIn K (.ref C) "__getattribute__" =R3 (R3 (.builtin "object.__getattribute__")))(hgh:findIn K (.ref C) "__getattr__" =R3 Sg)
  (hf:findObj K C od name=R3 (.bind (.builtin "function.__get__") (.ref f))) (ht:typeIn K (.ref f)=R3 (.type "function"))
  (h:Q (.ref s.heap.objs.size) {s with heap:=s.heap.push (methodObj (.ref f) (.ref x)),toks:=s.toks+1}):Tx (Tc prog w) A (getAttr (.ref x) name expr) Q E s:=
 get_bind X I hga hf hgh (Vx (fn_get (s:={s with toks:=s.toks+1}) X ht (by show Tx _ _ (handedOut (.ref _)) _ _ _;rw[handedOut_of rfl];exact SD h)))
end
end
section
section
variable{c:Cx}
structure wd (K:Vc)(C f:SM)(fd:TP)(p1 p2 p3 p4 p5 p6 p7:UM):Prop where
 m:kG K C "height_of" f
 hd:hasDictIn K C=Sn
 gf:specialIn K (.ref f) "__get__" =R3 (R3 (.builtin "function.__get__"))
 tk:takesIn K (.ref f)=R3 Sf
 at_:iC K C 10
 F:FnAt K f fd [.Return (R3 (.Subscript (.Attribute (.Name "self" p1) "heights" p2) (.Call (.Name "abs" p3) [.Name "literal" p4] [] p5) p6)) p7] ["self","literal"] [("self",Sg),("literal",Sg)]
 abs:fd.scope.names.lookup ("abs" :Tj)=R3 .globalImplicit
 ab:nsIn K mainGlobals "abs" =R3 Sg
theorem GQ {x l f:SM}{fd:TP}{n v:Sj}{tv:Tok}{kvs:R4 (Sj×Sz)}(H:wd U.K C f fd p1 p2 p3 p4 p5 p6 p7)
  (hr:A.depth<recursionLimit) (kp:Kp U s.heap) (I:InstAt s.heap x ox C od) (hf:findObj U.K C od "heights" =R3 (.value (.ref l)))
  (hl:s.heap.DictOf (intKind U.prog U.w) l kvs) (hv:valueAt kvs (n.natAbs:Sj)=R3 (.int v tv)):
  T3 (Tc U.prog U.w) A (.call (.ref f) ⟨[.ref x,.int n t],[]⟩) (λr aX=>match r with |.ok (.ret u)=>u=.int v tv/\∃h' FY,aX={s with heap:=h',toks:=FY}/\∀b o,s.heap.get? b=R3 o->h'.get? b=R3 o |_=>False) s:=by
 have X:U.K.In s.heap:=U.rk.keeps kp;have F:=H.F;obtain⟨o,ho,hd⟩:=SR.mp F.look;have l0:fd.scope.names.lookup ("self" :Tj)=R3 .local:=je (i:=0) F.Ek rfl;have l1:fd.scope.names.lookup ("literal" :Tj)=R3 .local:=je (i:=1) F.Ek rfl;refine XW hr (X _ _ ho) hd (U.sj.keeps kp) (XV X F.code) F.bd (F.bind _ rfl) F.Ej (λy hy=>?_) (λaB ic=>?_) F.co F.gen F.kind
 ·rcases SZ.mp hy with rfl |hy;·exact .inl l0
  ·obtain rfl:=R8.mp hy;exact .inl l1
 ·obtain⟨h',tk,rfl⟩:=ic.toInCall.same;have k:=ic.toInCall.keep;have hL:=ic.toInCall.ns;have e0:bindL (callEnvC fd s.heap.objs.size f).kindOf ([("self" :Tj),"literal"].zip [.ref x,.int n t]) (λO=>Sg) "self" =R3 (.ref x):=jJ l0 (by show[("self" :Tj),"literal"].Nodup;decide) (by simp);have e1:bindL (callEnvC fd s.heap.objs.size f).kindOf ([("self" :Tj),"literal"].zip [.ref x,.int n t]) (λO=>Sg) "literal" =R3 (.int n t):=jJ l1 (by show[("self" :Tj),"literal"].Nodup;decide) (by simp);have I':InstAt h' x ox C od:=⟨k _ _ I.at_,I.cls,I.no,by have:=I.dict;cases h1:ox.dict<;>cases h2:od<;>rw[h1,h2]at this<;>first |exact this |exact k _ _ this⟩;have kp':Kp U h':=λb o e=>k _ _ (kp b o e);refine Uk (VU (V2 (Xr (Ve (TX F.kind l0 hL e0 ?_) (by decide)) rfl)));refine get_value (X.keeps k) I' (WD H.at_.get).1 hf rfl ?_;refine Call_ (Vy F.kind H.abs (XT (by show ZE _ fd.globals U.mg;rw[F.gl];exact U.g.keeps kp') (mg_none_of U.rk U.g H.ab) (by show ZE _ fd.builtins U.mb;rw[F.bi];exact U.b.keeps kp') ((U.bi "abs" (by decide)).trans boot_abs) ?_) (by decide));refine VO (P:=λO=>True) rfl (λh O=>⟨.machine,.inr (.inl rfl),.now⟩) (Xo (Wg (Ve (TX F.kind l1 hL e1 (WB ⟨TK,?_⟩)) (by decide))));refine Zu λu FY=>?_;rw[yA];obtain⟨od',hod,Qv⟩:=TS.mp hl;have hD:h'.DictOf (intKind U.prog U.w) l kvs:=TS.mpr ⟨od',k _ _ hod,Qv⟩;exact V4 (id:="dict.__getitem__") hD.typeIs Yf.lookup (Yp (isInt U.w U.prog _ u) hD.mapOf hv ⟨rfl,h',_,rfl,k⟩) rfl
theorem ue {e o:SX}{kp Rg:UM}{fH:SM}{fd:TP}(hm:ji mk)(H:wd U.K C fH fd p1 p2 p3 p4 p5 p6 p7)
  (hf:aU U k c VR (S3 func env) (ae (.glob (.builtin "sorted")))) (hx:aU U k c VR (S3 e env) fx) (ho:aU U k c VR (S3 o env) fo)
  (he:starEach [e] env=(Sf,S3 e env)::starEach [] env)
  (ad2:S3 (.Attribute o "height_of" apos) env=(do
   let v <-S3 o env
   standAt apos.atName
   let r <-holding [v] (getAttr v "height_of" Sn)
   letTemporaryGo o v r
   pure r))
  (hc:S3 (.Call func [e] [⟨R3 "key",.Attribute o "height_of" apos,kp⟩,⟨R3 "reverse",.Constant (.bool Sn) n2 q2,Rg⟩] pos) env=(do callWith pos (<-S3 func env) [] (backTo pos (starEach [e] env)) (backToKw pos (keywordEach [⟨R3 "key",.Attribute o "height_of" apos,kp⟩,⟨R3 "reverse",.Constant (.bool Sn) n2 q2,Rg⟩] env)))):
  aU U k c VR (S3 (.Call func [e] [⟨R3 "key",.Attribute o "height_of" apos,kp⟩,⟨R3 "reverse",.Constant (.bool Sn) n2 q2,Rg⟩] pos) env) (Z fx λx=>Z fo λy=>qg C mk y x):=by
 intro A g ρ J s Q rm ok q;refine hc▸?_;refine Sb (aA (hf A g ρ J s (λf bD=>f=.glob (.builtin "sorted")/\Z fx (λx=>Z fo λy=>qg C mk y x) bD Q) rm ok ⟨rfl,q⟩) λf' aB au ak x aQ al aV ⟨mD,aD⟩=>?_);subst mD;cases(show f'=_ from aV);refine callWith_kw ?_ (SU _ he) (he▸rfl);refine he▸?_;refine Wg (aA (hx A g au ak aB _ rm al aD) λa aX aM aL xv bu aI bN aW=>WB (kws_cons (Xr (aA (ho A g aM aL aX _ rm aI aW) λb bR b9 cg yv c7 bI c9 cX=>?_) ad2)));obtain⟨ad,d,kvs,rfl,e,e',ns,key,ha,hk,ep,hS,Qs,K6,pD,PS,Qu⟩:=cX;obtain⟨x,dx,es,n,aF,q,qd,hx,hdx,hD,hr,I,hl⟩:=bI.vn c9 e e';obtain⟨vh,hvq,rv⟩:=(yk hr 10 (by decide)).get K6;obtain⟨l,kvl,ql,hDl,rl,hrl⟩:=bI.gm rv pD;have hl0:getL "height_of" es=R3 Sg:=by
  obtain⟨es',n',e1,hp,hn,hk⟩:=PX hD;obtain⟨rfl,rfl⟩:es=es'/\n=n':=by unfold dictOf at e1;cases e1;exact⟨rfl,rfl⟩
  rw[kE hp (mG hp),AV hr H.m.no]
 refine Ls bI.K I (WD H.m.get).1 (WD H.m.get).2 (findObj_fn H.hd H.m.hf H.gf H.tk (by decide) (by rw[YB,hl0])) (U5.mp H.m.ht) ?_;refine kws_cons (Wf (kws_nil ?_));have tR:OK U g c b9 cg {bR with heap:=bR.heap.push (methodObj (.ref fH) (.ref x)),toks:=bR.toks+1}:=bI.grow λb o e=>Sp _ e;have hm4:(bR.heap.push (methodObj (.ref fH) (.ref x))).get? bR.heap.objs.size=R3 (methodObj (.ref fH) (.ref x)):=To _ rfl;have hLm:bR.heap.objs.size≠c.L:=λz=>by obtain⟨m,⟨o',es,ep,kC,_⟩,_⟩:=bI.ns;exact Sw (TA kC) (by rw[z];exact Uq _)
 have hKH:findObj U.K C (R3 (dictOf es n)) "heights" =R3 (.value (.ref l)):=findObj_own H.hd H.at_.no rfl (by rw[YB];exact(hl 10 (by decide)).trans (SU R3 hvq));have hq2: ∀m∈ns,∃t,valueAt kvl (m.natAbs:Sj)=R3 (.int (key m) t):=λm hmm=>by obtain⟨v',jZ,t,rfl⟩:=(jc rl (m.natAbs:Sj)).get (PS m hmm);exact⟨t,jZ⟩
 refine cH (sG (b:=Sn) key hm rm.hd tR (bN.mono c7) hS (by show(ns.map V.int).length<=big;rw[Sa];exact Uf (TN Qs (by decide))) TK rfl Qs (ksk_s2 _ _ _) (λx=>ksk_l2 _ _ _) (λx=>ksk_t2 _ _ _) (λm t hn h tk F0=>?_) (λout hp sH=>Qu out hp (by simpa using sH))) λv gA p=>((p.ext c7).ext bu).ext aQ;obtain⟨t',ht'⟩:=hq2 m hn;have kx: ∀b o,b≠c.L->bR.heap.get? b=R3 o->h.get? b=R3 o:=λb o hb e=>F0 b o hb (Sp _ e);obtain⟨ol,hol,hdl⟩:=TS.mp hDl;refine Vx (UA (W9 (F0 _ _ hLm hm4) (GQ (t:=t) (s:={bR with heap:=h,toks:=tk}) H rm.room (λb o e=>kx b o (λz=>by have:=bI.eO;rw[<-z]at this;rw[this]at e;exact c6 e) (bI.keep b o e))
  ⟨kx _ _ (bI.db _ _ q) hx,I.cls,I.no,kx _ _ (bI.db _ _ qd) hdx⟩ hKH (TS.mpr ⟨ol,kx _ _ (bI.db _ _ ql) hol,hdl⟩) ht')) λr hP z=>?_)
 rcases r with er |(v |_ |_ |_)<;>first |exact z.elim |skip
 obtain⟨rfl,h'',abd,rfl,Fi⟩:=z;exact⟨h'',abd,t',rfl,rfl,Fi⟩
end
end
structure Tp where
 U:SM
 S:SM
@[irreducible] def OH (C:SM)(i:SH)(x:V):WM V:=pA C i x
@[irreducible] def ce (C:SM)(i:SH)(x v:V):WM Unit:=lu C i x v
@[irreducible] def cZ (x:V):WM V:=Qg x
@[irreducible] def bT (x y:V):WM V:=PO x y
@[irreducible] def dg (x y z:V):WM Unit:=J7 x y z
@[irreducible] def dc (x y:V):WM V:=tH x y
@[irreducible] def C0 (x:V):WM V:=EW x
@[irreducible] def y9 (x y:V):WM V:=tI x y
@[irreducible] def Rh (x y:V):WM V:=tJ x y
@[irreducible] def GR (x y:V):WM V:=AI x y
@[irreducible] def iG (x y z:V):WM V:=tK x y z
@[irreducible] def Lv (x y:V):WM Unit:=PQ x y
@[irreducible] def Bo (x y:V):WM V:=E2 x y
@[irreducible] def za (x y z:V):WM V:=yi x y z
@[irreducible] def iH (x y z:V):WM V:=yj x y z
@[irreducible] def GU (x y:V):WM V:=E5 x y
@[irreducible] def xU (x y:V):WM V:=inW x y
@[irreducible] def lP (x y:V):WM V:=EZ x y
@[irreducible] def iA (x y:V):WM V:=eqW x y
@[irreducible] def ug (x y:V):WM V:=neW x y
@[irreducible] def bY (mk:R4 V->WM V)(x y:V):WM V:=addW mk x y
@[irreducible] def qj (x y:V):WM V:=Pt x y
@[irreducible] def ltI (x y:V):WM V:=ltW x y
@[irreducible] def leI (x y:V):WM V:=leW x y
@[irreducible] def geI (x y:V):WM V:=geW x y
@[irreducible] def Da (x y:V):WM V:=gtW x y
@[irreducible] def GV (x y:V):WM V:=Pu x y
@[irreducible] def Db (x y:V):WM V:=Pv x y
@[irreducible] def Ri (x y:V):WM V:=Pw x y
@[irreducible] def Rj (x y:V):WM V:=Qh x y
@[irreducible] def aR (mk:R4 V->WM V)(vs:R4 V):WM V:=vD mk vs
@[irreducible] def eg (kvs:R4 (Sj×V)):WM V:=lF kvs
@[irreducible] def GW (kvs:R4 (SH×V)):WM V:=A5 kvs
@[irreducible] def zc (x y:V):WM V:=yI x y
@[irreducible] def sortI (mk:R4 V->WM V)(x:V):WM V:=jm mk x
@[irreducible] def listI (mk:R4 V->WM V)(x:V):WM V:=FD mk x
@[irreducible] def tupI (x:V):WM V:=Qi x
@[irreducible] def sU (x:V):WM V:=FG x
@[irreducible] def sV (x y:V):WM V:=FH x y
@[irreducible] def eJ (mk:R4 V->WM V)(x y:V):WM V:=FO mk x y
@[irreducible] def sW (mk:R4 V->WM V)(x y:V):WM V:=FP mk x y
@[irreducible] def Rk (mk:R4 V->WM V)(x:V):WM V:=Kw mk x
@[irreducible] def zf (x y:V):WM V:=yG x y
@[irreducible] def zg (x y:V):WM V:=yH x y
@[irreducible] def Bp (i:SH)(x:V):WM V:=F3 i x
@[irreducible] def GX (i:SH)(x v:V):WM Unit:=F5 i x v
@[irreducible] def dQ (t:V->WM Unit)(b:WM Fl)(x:V):WM Fl:=P8 t b x
@[irreducible] def gT (t:WM Tn)(b:WM Fl):WM Fl:=yw t b
@[irreducible] def oA (sh:Shape)(t:WM Tn)(e:WM V)(x:V):WM (R4 V):=lcW sh t e x
@[irreducible] def GY (sh:Shape)(f e:WM V)(x:V):WM (R4 V):=Qw sh f e x
@[irreducible] def dcI (sh:Shape)(t:WM Tn)(k v:WM V)(x:V):WM (R4 (Sj×V)):=dcW sh t k v x
@[irreducible] def we (ws:R4 (V->WM Unit))(x:V):WM Unit:=oX ws x
@[irreducible] def iY (ws:R4 (V->WM Unit))(x:V):WM Unit:=pO ws x
@[irreducible] def cG (n:SH)(f:WM Fl)(xs:R4 V):WM V:=lx n f xs
@[irreducible] def Lw (C:SM)(f:R4 V->WM V)(xs:R4 V):WM V:=sA C f xs
@[irreducible] def gJ (T:Vn)(x:V)(f:WM α):WM α:=EV T x f
@[irreducible] def gK (C:SM)(x:V)(f:WM α):WM α:=Fe C x f
@[irreducible] def stI (i:SH)(v:V):WM Unit:=cC i v
@[irreducible] def bc (C:SM)(j i:SH)(k:V->WM α):WM α:=Z (ac j) λx=>Z (pA C i x) k
def wf (T:Tp):WM Fl:=Z (stI 1 (.int 0)) bP
def rB (T:Tp):WM Fl:=bK (oh (ka (Z (ac 2) λx0=>Z (Cr x0 (.glob (.type "int"))) λx1=>aj x1)) (oh (Z (ac 2) λx0=>Z (Cr x0 (.glob (.type "bool"))) λx1=>aj x1) (oh (Z (ac 2) λx0=>Z (jl x0) λx1=>Z (ac 1) λx2=>Z (leI x1 x2) aj) (ae Sf)))) (ae (.ret (.bool Sf))) (ae .next)
def rD (T:Tp):WM Fl:=Z (ac 2) λx0=>Z (jl x0) λx1=>Z (stI 1 x1) bP
def rE (T:Tp):WM Fl:=aq (rB T) (rD T)
def wg (T:Tp):WM Fl:=Z (bK (Z (ac 0) λx0=>Z (Cr x0 (.glob (.type "tuple"))) λx1=>aj x1) (ac 0) (aR cR [(.int 0)])) λx0=>dQ (stI 2) (rE T) x0
def wh (T:Tp):WM Fl:=aq (wf T) (aq (wg T) (ae (.ret (.bool Sn))))
@[irreducible] def fg (T:Tp):R4 V->WM V:=cG 1 (wh T)
def ab3 (T:Tp):WM Fl:=bc T.U 0 0 λx0=>Z (cZ x0) λx1=>Z (stI 2 x1) bP
def Lx (T:Tp):WM Fl:=bc T.U 0 1 λx0=>gJ "dict" x0<|Z (ac 3) λx1=>Z (aR eR []) λx2=>Z (iH x0 x1 x2) λx3=>gJ "list" x3<|Z (ac 2) λx4=>Z (dc x3 x4) λx5=>ae .next
def OI (T:Tp):WM Fl:=Z (ac 1) λx0=>dQ (stI 3) (Lx T) x0
def ab4 (T:Tp):WM Fl:=bc T.U 0 0 λx0=>gJ "list" x0<|Z (ac 1) λx1=>Z (dc x0 x1) λx2=>ae .next
def ab5 (T:Tp):WM Fl:=bc T.U 0 2 λx0=>gJ "list" x0<|Z (dc x0 (.int 0)) λx1=>ae .next
def ab6 (T:Tp):WM Fl:=bc T.U 0 3 λx0=>gJ "list" x0<|Z (ac 1) λx1=>Z (cZ x1) λx2=>Z (dc x0 x2) λx3=>ae .next
def Ly (T:Tp):WM Fl:=Z (ac 2) λx0=>Z (ac 0) λx1=>Z (ce T.U 5 x1 x0) bP
def Dc (T:Tp):WM Fl:=bc T.U 0 4 λx0=>gJ "list" x0<|Z (ac 1) λx1=>Z (bT x1 (.int 0)) λx2=>Z (ac 2) λx3=>Z (aR cR [x2,x3]) λx4=>Z (dc x0 x4) λx5=>ae .next
def Lz (T:Tp):WM Fl:=bK (Z (ac 1) λx0=>Z (cZ x0) λx1=>Z (iA x1 (.int 1)) aj) (Dc T) (ae .next)
def ab7 (T:Tp):WM Fl:=bK (Z (ac 1) λx0=>Z (cZ x0) λx1=>Z (iA x1 (.int 0)) aj) (Ly T) (Lz T)
def ab8 (T:Tp):WM Fl:=aq (ab3 T) (aq (OI T) (aq (ab4 T) (aq (ab5 T) (aq (ab6 T) (ab7 T)))))
@[irreducible] def qm (T:Tp):R4 V->WM V:=cG 2 (ab8 T)
def Dd (T:Tp):WM Fl:=bc T.U 0 6 λx0=>Z (stI 2 x0) bP
def De (T:Tp):WM Fl:=bc T.U 0 0 λx0=>Z (ac 1) λx1=>Z (bT x0 x1) λx2=>Z (oA [("literal",Sg),("taken",R3 2)] (eH (Z (ac 0) λx3=>Z (ac 1) λx4=>Z (lP x3 x4) aj) (eH (Z (ac 0) λx3=>Z (fS x3) λx4=>Z (ac 1) λx5=>Z (lP x4 x5) aj) (ae Sn))) (ac 0) x2) λl3=>Z (bf l3) λx4=>Z (bT x4 (.int 0)) λx5=>ae (.ret x5)
def Df (T:Tp):WM Fl:=aq (Dd T) (De T)
@[irreducible] def hV (T:Tp):R4 V->WM V:=cG 2 (Df T)
def Rl (T:Tp):WM Fl:=Z (stI 4 (.bool Sn)) bP
def Rm (T:Tp):WM Fl:=Z (ac 2) λx0=>bc T.U 0 6 λx1=>Z (ac 1) λx2=>Z (dg x1 x2 x0) bP
def Rn (T:Tp):WM Fl:=bc T.U 0 7 λx0=>gJ "list" x0<|Z (ac 1) λx1=>Z (dc x0 x1) λx2=>ae .next
def GZ (T:Tp):WM Fl:=bc T.U 0 2 λx0=>Z (ac 5) λx1=>Z (bT x0 x1) λx2=>Z (bY bf x2 (.int 1)) λx3=>bc T.U 0 2 λx4=>Z (ac 5) λx5=>Z (dg x4 x5 x3) bP
def G0 (T:Tp):WM Fl:=bc T.U 0 1 λx0=>gJ "dict" x0<|Z (ac 1) λx1=>Z (aR cR []) λx2=>Z (iG x0 x1 x2) λx3=>dQ (stI 5) (GZ T) x3
def G1 (T:Tp):WM Fl:=bc T.U 0 3 λx0=>Z (ac 5) λx1=>Z (bT x0 x1) λx2=>Z (qj x2 (.int 1)) λx3=>bc T.U 0 3 λx4=>Z (ac 5) λx5=>Z (dg x4 x5 x3) bP
def zi (T:Tp):WM Fl:=Z (stI 4 (.bool Sf)) bP
def zj (T:Tp):WM Fl:=Z (ac 5) λx0=>Z (ac 1) λx1=>Z (aR cR [x0,x1]) λx2=>Z (ac 0) λx3=>Z (ce T.U 8 x3 x2) bP
def zk (T:Tp):WM Fl:=aq (zi T) (zj T)
def uh (T:Tp):WM Fl:=Z (ac 3) λx0=>gJ "list" x0<|Z (ac 0) λx1=>gK T.U x1<|Z (ac 5) λx2=>Z (hV T [x1,x2]) λx3=>Z (ac 5) λx4=>Z (aR cR [x3,x4]) λx5=>Z (dc x0 x5) λx6=>ae .next
def zl (T:Tp):WM Fl:=bK (eH (bc T.U 0 2 λx0=>Z (ac 5) λx1=>Z (bT x0 x1) λx2=>Z (iA x2 (.int 0)) aj) (eH (bc T.U 0 3 λx0=>Z (ac 5) λx1=>Z (bT x0 x1) λx2=>Z (iA x2 (.int 1)) aj) (ae Sn))) (uh T) (ae .next)
def G2 (T:Tp):WM Fl:=bK (eH (bc T.U 0 2 λx0=>Z (ac 5) λx1=>Z (bT x0 x1) λx2=>Z (iA x2 (.int 0)) aj) (eH (bc T.U 0 3 λx0=>Z (ac 5) λx1=>Z (bT x0 x1) λx2=>Z (iA x2 (.int 0)) aj) (ae Sn))) (zk T) (zl T)
def G3 (T:Tp):WM Fl:=aq (G1 T) (G2 T)
def Ro (T:Tp):WM Fl:=bc T.U 0 1 λx0=>gJ "dict" x0<|Z (ac 1) λx1=>Z (fS x1) λx2=>Z (aR cR []) λx3=>Z (iG x0 x2 x3) λx4=>dQ (stI 5) (G3 T) x4
def Rp (T:Tp):WM Fl:=Z (ac 4) λx0=>ae (.ret x0)
def Rq (T:Tp):WM Fl:=aq (Rl T) (aq (Rm T) (aq (Rn T) (aq (G0 T) (aq (Ro T) (Rp T)))))
@[irreducible] def qn (T:Tp):R4 V->WM V:=cG 4 (Rq T)
def LA (T:Tp):WM Fl:=bc T.U 0 5 λx0=>Z (aR cR [x0,(.int 0)]) λx1=>Z (ac 0) λx2=>Z (ce T.U 8 x2 x1) bP
def LC (T:Tp):WM Fl:=aq (LA T) (ae (.ret (.bool Sf)))
def ab9 (T:Tp):WM Fl:=bK (bc T.U 0 5 λx0=>Z (geI x0 (.int 0)) aj) (LC T) (ae .next)
def aca (T:Tp):WM Fl:=bc T.U 0 4 λx0=>Z (ac 1) λx1=>Z (oA [("literal",Sg)] (ae Sn) (Z (ac 0) λx2=>aR cR [x2,(.int (-1))]) x1) λl2=>Z (bf l2) λx3=>Z (bY eR x0 x3) λx4=>Z (aR cR [x4,(.int 0)]) λx5=>Z (iY [stI 4,stI 3] x5) bP
def LD (T:Tp):WM Fl:=Z (ac 3) λx0=>Z (ac 4) λx1=>Z (bT x0 x1) λx2=>Z (we [stI 2,stI 5] x2) bP
def LJ (T:Tp):WM Fl:=Z (ac 4) λx0=>Z (bY bf x0 (.int 1)) λx1=>Z (stI 4 x1) bP
def Dg (T:Tp):WM Fl:=Z (ac 5) λx0=>Z (ac 2) λx1=>Z (fS x1) λx2=>Z (aR cR [x0,x2]) λx3=>Z (ac 0) λx4=>Z (ce T.U 8 x4 x3) bP
def Dh (T:Tp):WM Fl:=aq (Dg T) (ae (.ret (.bool Sf)))
def LK (T:Tp):WM Fl:=bK (Z (ac 2) λx0=>Z (fS x0) λx1=>bc T.U 0 6 λx2=>Z (xU x1 x2) aj) (Dh T) (ae .next)
def LL (T:Tp):WM Fl:=bK (eH (Z (ac 2) λx0=>bc T.U 0 6 λx1=>Z (lP x0 x1) aj) (eH (ka (Z (ac 0) λx0=>gK T.U x0<|Z (ac 2) λx1=>Z (ac 5) λx2=>Z (ac 3) λx3=>Z (qn T [x0,x1,x2,x3]) λx4=>aj x4)) (ae Sn))) (ae (.ret (.bool Sf))) (ae .next)
def LN (T:Tp):WM Fl:=aq (LD T) (aq (LJ T) (aq (LK T) (LL T)))
def acb (T:Tp):WM Fl:=gT (Z (ac 4) λx0=>Z (ac 3) λx1=>Z (cZ x1) λx2=>Z (ltI x0 x2) aj) (LN T)
def acd (T:Tp):WM Fl:=aq (ab9 T) (aq (aca T) (aq (acb T) (ae (.ret (.bool Sn)))))
@[irreducible] def wi (T:Tp):R4 V->WM V:=cG 2 (acd T)
def G4 (T:Tp):WM Fl:=bc T.U 0 7 λx0=>gJ "list" x0<|Z (C0 x0) λx1=>Z (stI 1 x1) bP
def G5 (T:Tp):WM Fl:=bc T.U 0 6 λx0=>Z (ac 1) λx1=>Z (Lv x0 x1) bP
def zm (T:Tp):WM Fl:=bc T.U 0 2 λx0=>Z (ac 2) λx1=>Z (bT x0 x1) λx2=>Z (qj x2 (.int 1)) λx3=>bc T.U 0 2 λx4=>Z (ac 2) λx5=>Z (dg x4 x5 x3) bP
def wj (T:Tp):WM Fl:=bc T.U 0 1 λx0=>gJ "dict" x0<|Z (ac 1) λx1=>Z (aR cR []) λx2=>Z (iG x0 x1 x2) λx3=>dQ (stI 2) (zm T) x3
def zn (T:Tp):WM Fl:=bc T.U 0 3 λx0=>Z (ac 2) λx1=>Z (bT x0 x1) λx2=>Z (bY bf x2 (.int 1)) λx3=>bc T.U 0 3 λx4=>Z (ac 2) λx5=>Z (dg x4 x5 x3) bP
def wk (T:Tp):WM Fl:=bc T.U 0 1 λx0=>gJ "dict" x0<|Z (ac 1) λx1=>Z (fS x1) λx2=>Z (aR cR []) λx3=>Z (iG x0 x2 x3) λx4=>dQ (stI 2) (zn T) x4
def G6 (T:Tp):WM Fl:=aq (G4 T) (aq (G5 T) (aq (wj T) (wk T)))
def Rs (T:Tp):WM Fl:=gT (bc T.U 0 7 λx0=>Z (aR bf []) λx1=>Z (ug x0 x1) aj) (G6 T)
@[irreducible] def qo (T:Tp):R4 V->WM V:=cG 1 (Rs T)
def G7 (T:Tp):WM Fl:=Z (ac 0) λx0=>gK T.U x0<|Z (ac 1) λx1=>Z (wi T [x0,x1]) λx2=>Z (stI 2 x2) bP
def G8 (T:Tp):WM Fl:=bc T.U 0 7 λx0=>Z (sortI bf x0) λx1=>Z (stI 3 x1) bP
def G9 (T:Tp):WM Fl:=Z (ac 0) λx0=>gK T.U x0<|Z (qo T [x0]) λx1=>ae .next
def Ha (T:Tp):WM Fl:=Z (bK (Z (ac 2) λx0=>aj x0) (ac 3) (ae .none)) λx0=>ae (.ret x0)
def Hb (T:Tp):WM Fl:=aq (G7 T) (aq (G8 T) (aq (G9 T) (Ha T)))
@[irreducible] def jp (T:Tp):R4 V->WM V:=cG 2 (Hb T)
def Di (T:Tp):WM Fl:=Z (ac 0) λx0=>gK T.U x0<|Z (ac 1) λx1=>Z (oA [("literal",Sg)] (ae Sn) (Z (ac 0) λx2=>fS x2) x1) λl2=>Z (bf l2) λx3=>Z (jp T [x0,x3]) λx4=>Z (dB x4 .none) λx5=>ae (.ret x5)
@[irreducible] def hX (T:Tp):R4 V->WM V:=cG 2 (Di T)
def LO (T:Tp):WM Fl:=Z (aR eR []) λx0=>Z (ac 0) λx1=>Z (ce T.U 0 x1 x0) bP
def LQ (T:Tp):WM Fl:=Z (eg []) λx0=>Z (ac 0) λx1=>Z (ce T.U 1 x1 x0) bP
def LU (T:Tp):WM Fl:=Z (aR eR []) λx0=>Z (ac 0) λx1=>Z (ce T.U 2 x1 x0) bP
def LV (T:Tp):WM Fl:=Z (aR eR []) λx0=>Z (ac 0) λx1=>Z (ce T.U 3 x1 x0) bP
def LW (T:Tp):WM Fl:=Z (aR eR []) λx0=>Z (ac 0) λx1=>Z (ce T.U 4 x1 x0) bP
def LX (T:Tp):WM Fl:=Z (ac 0) λx0=>Z (ce T.U 5 x0 (.int (-1))) bP
def LY (T:Tp):WM Fl:=Z (eg []) λx0=>Z (ac 0) λx1=>Z (ce T.U 6 x1 x0) bP
def LZ (T:Tp):WM Fl:=Z (aR eR []) λx0=>Z (ac 0) λx1=>Z (ce T.U 7 x1 x0) bP
def L0 (T:Tp):WM Fl:=Z (aR cR [(.int (-1)),(.int 0)]) λx0=>Z (ac 0) λx1=>Z (ce T.U 8 x1 x0) bP
def zo (T:Tp):WM Fl:=Z (ac 0) λx0=>gK T.U x0<|Z (ac 2) λx1=>Z (qm T [x0,x1]) λx2=>ae .next
def wm (T:Tp):WM Fl:=Z (ac 1) λx0=>dQ (stI 2) (zo T) x0
def L4 (T:Tp):WM Fl:=aq (LO T) (aq (LQ T) (aq (LU T) (aq (LV T) (aq (LW T) (aq (LX T) (aq (LY T) (aq (LZ T) (aq (L0 T) (wm T)))))))))
@[irreducible] def lQ (T:Tp):R4 V->WM V:=cG 2 (L4 T)
@[irreducible] def jR (T:Tp):R4 V->WM V:=Lw T.U (lQ T)
def Dj (T:Tp):WM Fl:=Z (eg []) λx0=>Z (stI 1 x0) bP
def wo (T:Tp):WM Fl:=bK (Z (ac 2) λx0=>Z (fS x0) λx1=>Z (ac 1) λx2=>Z (xU x1 x2) aj) (ae (.ret .none)) (ae .next)
def wq (T:Tp):WM Fl:=Z (ac 1) λx0=>Z (ac 2) λx1=>Z (dg x0 x1 (.bool Sn)) bP
def wr (T:Tp):WM Fl:=aq (wo T) (wq T)
def Dk (T:Tp):WM Fl:=Z (ac 0) λx0=>dQ (stI 2) (wr T) x0
def Dl (T:Tp):WM Fl:=Z (ac 1) λx0=>Z (sortI bf x0) λx1=>Z (tupI x1) λx2=>ae (.ret x2)
def Dm (T:Tp):WM Fl:=aq (Dj T) (aq (Dk T) (Dl T))
@[irreducible] def di (T:Tp):R4 V->WM V:=cG 1 (Dm T)
def L6 (T:Tp):WM Fl:=Z (eg []) λx0=>Z (ac 0) λx1=>Z (ce T.S 9 x1 x0) bP
def L8 (T:Tp):WM Fl:=Z (eg []) λx0=>Z (ac 0) λx1=>Z (ce T.S 10 x1 x0) bP
def L9 (T:Tp):WM Fl:=Z (eg []) λx0=>Z (ac 0) λx1=>Z (ce T.S 11 x1 x0) bP
def Ma (T:Tp):WM Fl:=Z (aR eR []) λx0=>Z (ac 0) λx1=>Z (ce T.S 12 x1 x0) bP
def Mb (T:Tp):WM Fl:=Z (aR eR []) λx0=>Z (ac 0) λx1=>Z (ce T.S 13 x1 x0) bP
def Md (T:Tp):WM Fl:=Z (ac 0) λx0=>Z (ce T.S 14 x0 (.int 0)) bP
def Mf (T:Tp):WM Fl:=Z (eg []) λx0=>Z (ac 0) λx1=>Z (ce T.S 15 x1 x0) bP
def Mg (T:Tp):WM Fl:=aq (L6 T) (aq (L8 T) (aq (L9 T) (aq (Ma T) (aq (Mb T) (aq (Md T) (Mf T))))))
@[irreducible] def oZ (T:Tp):R4 V->WM V:=cG 1 (Mg T)
def Rt (T:Tp):WM Fl:=bc T.S 0 9 λx0=>gJ "dict" x0<|Z (ac 1) λx1=>Z (jl x1) λx2=>Z (GR x0 x2) λx3=>Z (stI 2 x3) bP
def Ru (T:Tp):WM Fl:=Z (bK (Z (ac 2) λx0=>Z (dB x0 .none) aj) (ae .none) (Z (ac 2) λx0=>Z (ac 1) λx1=>Z (Da x1 (.int 0)) λx2=>iA x0 x2)) λx0=>ae (.ret x0)
def Rv (T:Tp):WM Fl:=aq (Rt T) (Ru T)
@[irreducible] def dF (T:Tp):R4 V->WM V:=cG 2 (Rv T)
def let_1 (T:Tp):WM Fl:=Z (ac 1) λx0=>Z (jl x0) λx1=>Z (stI 3 x1) bP
def ace (T:Tp):WM Fl:=Z (ac 1) λx0=>Z (Da x0 (.int 0)) λx1=>bc T.S 0 9 λx2=>Z (ac 3) λx3=>Z (dg x2 x3 x1) bP
def acf (T:Tp):WM Fl:=bc T.S 0 13 λx0=>Z (cZ x0) λx1=>bc T.S 0 10 λx2=>Z (ac 3) λx3=>Z (dg x2 x3 x1) bP
def acg (T:Tp):WM Fl:=Z (ac 2) λx0=>bc T.S 0 11 λx1=>Z (ac 3) λx2=>Z (dg x1 x2 x0) bP
def ach (T:Tp):WM Fl:=bc T.S 0 12 λx0=>gJ "list" x0<|Z (ac 1) λx1=>Z (dc x0 x1) λx2=>ae .next
def aci (T:Tp):WM Fl:=aq (let_1 T) (aq (ace T) (aq (acf T) (aq (acg T) (ach T))))
@[irreducible] def jq (T:Tp):R4 V->WM V:=cG 3 (aci T)
def rF (T:Tp):WM Fl:=bc T.S 0 12 λx0=>gJ "list" x0<|Z (C0 x0) λx1=>Z (jl x1) λx2=>Z (stI 2 x2) bP
def rG (T:Tp):WM Fl:=bc T.S 0 9 λx0=>gJ "dict" x0<|Z (ac 2) λx1=>Z (Bo x0 x1) λx2=>bc T.S 0 15 λx3=>Z (ac 2) λx4=>Z (dg x3 x4 x2) bP
def rH (T:Tp):WM Fl:=aq (rF T) (rG T)
def wt (T:Tp):WM Fl:=gT (bc T.S 0 12 λx0=>Z (cZ x0) λx1=>bc T.S 0 13 λx2=>Z (ac 1) λx3=>Z (bT x2 x3) λx4=>Z (Da x1 x4) aj) (rH T)
def wu (T:Tp):WM Fl:=bc T.S 0 13 λx0=>Z (ac 1) λx1=>Z (eJ eR x0 x1) λx2=>Z (ac 0) λx3=>Z (ce T.S 13 x3 x2) bP
def wv (T:Tp):WM Fl:=bc T.S 0 12 λx0=>Z (cZ x0) λx1=>Z (ac 0) λx2=>Z (ce T.S 14 x2 x1) bP
def ww (T:Tp):WM Fl:=aq (wt T) (aq (wu T) (wv T))
def Do (T:Tp):WM Fl:=bK (Z (ac 1) λx0=>bc T.S 0 13 λx1=>Z (cZ x1) λx2=>Z (ltI x0 x2) aj) (ww T) (ae .next)
@[irreducible] def cK (T:Tp):R4 V->WM V:=cG 2 (Do T)
def Hc (T:Tp):WM Fl:=Z (ac 0) λx0=>Z (ce T.S 21 x0 (.bool Sn)) bP
def Hd (T:Tp):WM Fl:=bc T.S 0 20 λx0=>gJ "list" x0<|Z (aR cR []) λx1=>Z (dc x0 x1) λx2=>ae .next
def He (T:Tp):WM Fl:=aq (Hc T) (Hd T)
@[irreducible] def gu (T:Tp):R4 V->WM V:=cG 1 (He T)
def Rw (T:Tp):WM Fl:=bc T.S 0 16 λx0=>gJ "list" x0<|Z (ac 1) λx1=>Z (listI eR x1) λx2=>Z (dc x0 x2) λx3=>ae .next
def Hf (T:Tp):WM Fl:=bc T.S 0 17 λx0=>gJ "dict" x0<|Z (ac 2) λx1=>Z (aR eR []) λx2=>Z (iH x0 x1 x2) λx3=>gJ "list" x3<|bc T.S 0 16 λx4=>Z (cZ x4) λx5=>Z (qj x5 (.int 1)) λx6=>Z (dc x3 x6) λx7=>ae .next
def Rx (T:Tp):WM Fl:=Z (ac 1) λx0=>Z (eJ bf x0 (.int 2)) λx1=>dQ (stI 2) (Hf T) x1
def Ry (T:Tp):WM Fl:=bc T.S 0 16 λx0=>Z (cZ x0) λx1=>Z (qj x1 (.int 1)) λx2=>ae (.ret x2)
def Rz (T:Tp):WM Fl:=aq (Rw T) (aq (Rx T) (Ry T))
@[irreducible] def kP (T:Tp):R4 V->WM V:=cG 2 (Rz T)
def ui (T:Tp):WM Fl:=Z (ac 0) λx0=>gK T.S x0<|Z (cK T [x0,(.int 0)]) λx1=>ae .next
def uj (T:Tp):WM Fl:=Z (ac 1) λx0=>Z (di T [x0]) λx1=>Z (stI 2 x1) bP
def qp (T:Tp):WM Fl:=bc T.S 0 18 λx0=>gJ "dict" x0<|Z (ac 3) λx1=>Z (jl x1) λx2=>Z (iH x0 x2 (.int 0)) λx3=>ae .next
def uk (T:Tp):WM Fl:=Z (ac 1) λx0=>dQ (stI 3) (qp T) x0
def qq (T:Tp):WM Fl:=bc T.S 0 21 λx0=>Z (aj x0) λb1=>ae (.ret (.bool (!b1)))
def ul (T:Tp):WM Fl:=bK (oh (Z (ac 2) λx0=>Z (dB x0 .none) aj) (oh (bc T.S 0 21 λx0=>aj x0) (oh (Z (ac 2) λx0=>Z (oA [("one",Sg),("self",R3 0)] (ae Sn) (Z (ac 1) λx1=>gK T.S x1<|Z (ac 0) λx2=>dF T [x1,x2]) x0) λl1=>Z (bf l1) λx2=>Z (xU (.bool Sn) x2) aj) (ae Sf)))) (qq T) (ae .next)
def um (T:Tp):WM Fl:=Z (ac 2) λx0=>Z (oA [("one",Sg),("self",R3 0)] (Z (ac 1) λx1=>gK T.S x1<|Z (ac 0) λx2=>Z (dF T [x1,x2]) λx3=>Z (dB x3 .none) aj) (ac 0) x0) λl1=>Z (bf l1) λx2=>Z (stI 4 x2) bP
def qs (T:Tp):WM Fl:=Z (ac 0) λx0=>gK T.S x0<|Z (gu T [x0]) λx1=>ae .next
def mQ (T:Tp):WM Fl:=Z (ac 0) λx0=>gK T.S x0<|Z (ac 4) λx1=>Z (bT x1 (.int 0)) λx2=>Z (jq T [x0,x2,.none]) λx3=>ae .next
def mR (T:Tp):WM Fl:=Z (ac 0) λx0=>gK T.S x0<|Z (ac 4) λx1=>Z (kP T [x0,x1]) λx2=>ae .next
def qw (T:Tp):WM Fl:=bK (Z (ac 4) λx0=>Z (cZ x0) λx1=>Z (iA x1 (.int 1)) aj) (mQ T) (mR T)
def uo (T:Tp):WM Fl:=bK (Z (ac 4) λx0=>Z (cZ x0) λx1=>Z (iA x1 (.int 0)) aj) (qs T) (qw T)
def uq (T:Tp):WM Fl:=bc T.S 0 21 λx0=>Z (aj x0) λb1=>ae (.ret (.bool (!b1)))
def ur (T:Tp):WM Fl:=aq (ui T) (aq (uj T) (aq (uk T) (aq (ul T) (aq (um T) (aq (uo T) (uq T))))))
@[irreducible] def cQ (T:Tp):R4 V->WM V:=cG 2 (ur T)
variable{T:Tp}
section
noncomputable abbrev Hp:=Ad->Si SO
noncomputable def lo (L:R4 (Si V)):SH->Si V:=λi=>(L[i]?).join
open Classical in
noncomputable def aK (H:Hp)(a:Ad)(so:SO):Hp:=λb=>if b=a then R3 so else H b
theorem aw {H:Hp}{a:Ad}:aK H a so a=R3 so:=Sv rfl
theorem aO {H:Hp}{a b:Ad}(h:b≠a):aK H a so b=H b:=Sq h
theorem jr {H:Hp}{a b:Ad}(h:b.k≠a.k):aK H a so b=H b:=aO λe=>h (by rw[e])
theorem RA {L:R4 (Si V)}{v:V}(h:i<L.length):(λj=>if j=i then R3 v else lo L j)=lo (L.set i (R3 v)):=by
 funext j;unfold lo;by_cases q:j=i;·subst q;rw[Sv rfl,Tv h];rfl
 ·rw[Sq q,Uc (TH q)]
theorem Mh (xs:R4 V)(m:SH):(λi=>xs[i]?)=lo (xs.map R3++Yn m Sg):=by
 funext i;unfold lo;by_cases q:i<xs.length
 ·rw[SW (by rw[Sa];exact q),Sx];cases xs[i]?<;>rfl
 ·rw[Ud (by rw[Sa];exact yN [_,_] [] 0xf01a541054 rfl q),List.getElem?_replicate,Vd (by exact yN [_,_] [] 0xf01a541054 rfl q)];split<;>rfl
variable{H:Hp}{L:R4 (Si V)}{a d:Ad}{v x y:V}{kvs:R4 (SH×V)}{us:R4 V}
theorem nQ (h:J.loc i=R3 v)(q:Q v J):ac i J Q:=by
 unfold ac;rw[h];exact q
theorem lR (h:L[i]? =R3 (R3 v))(q:Q v ⟨lo L,H⟩):ac i ⟨lo L,H⟩ Q:=nQ (by show lo L i=_;unfold lo;rw[h];rfl) q
theorem bj {Q:Unit->St->Prop}(h:ZP (i+1) L.length=Sn)(e:L.set i (R3 v)=L')(q:Q () ⟨lo L',H⟩):stI i v ⟨lo L,H⟩ Q:=by
 unfold stI;show Q () ⟨λj=>if j=i then R3 v else lo L j,H⟩;rw[RA (R5 h),e];exact q
theorem bJ {f:WM Fl}{xs:R4 V}(m:SH)(hn:xs.length=n)(h:f ⟨lo (xs.map R3++Yn m Sg),H⟩ (Ju l Q)):cG n f xs ⟨l,H⟩ Q:=by
 unfold cG;exact⟨hn,by rw[Mh xs m];exact h⟩
theorem aeV (q:Q v ⟨l,H⟩):Ju l Q (.ret v) ⟨l',H⟩:=q
theorem aeW (q:Q .none ⟨l,H⟩):Ju l Q .next ⟨l',H⟩:=q
theorem ae9 (h1:H a=R3 (.inst C d))(h2:H d=R3 (.bB kvs))(h3:bC kvs i=R3 v)(h4:jI v)(q:Q v ⟨l,H⟩):OH C i (.ref a) ⟨l,H⟩ Q:=by
 unfold OH;exact⟨a,d,kvs,rfl,h1,h2,v,h3,h4,q⟩
theorem hY {Q:Unit->St->Prop}(h1:H a=R3 (.inst C d))(h2:H d=R3 (.bB kvs))(q:Q () ⟨l,aK H d (.bB (cY kvs i v))⟩):ce C i (.ref a) v ⟨l,H⟩ Q:=by
 unfold ce;exact⟨a,d,kvs,rfl,h1,h2,q⟩
theorem cE {f:WM α}{Q:α->St->Prop}(h1:H a=R3 (.inst C d))(h2:H d=R3 (.bB kvs))(q:f ⟨l,H⟩ Q):gK C (.ref a) f ⟨l,H⟩ Q:=by
 unfold gK;exact⟨a,d,kvs,rfl,h1,h2,q⟩
theorem acj {f:WM α}{Q:α->St->Prop}(h1:H a=R3 so)(q:f ⟨l,H⟩ Q):gJ so.ty (.ref a) f ⟨l,H⟩ Q:=by
 unfold gJ;exact⟨by show WR (H a) "" SO.ty=_;rw[h1];rfl,q⟩
theorem fh {f:WM α}{Q:α->St->Prop}(h1:H a=R3 (.list vs))(q:f ⟨l,H⟩ Q):gJ "list" (.ref a) f ⟨l,H⟩ Q:=acj h1 q
theorem lS {f:WM α}{Q:α->St->Prop}(h1:H a=R3 (.dict ds ep))(q:f ⟨l,H⟩ Q):gJ "dict" (.ref a) f ⟨l,H⟩ Q:=acj h1 q
theorem aG {k:V->WM α}{Q:α->St->Prop}(hl:L[j]? =R3 (R3 (.ref a)))(h1:H a=R3 (.inst C d))(h2:H d=R3 (.bB kvs))(h3:bC kvs i=R3 v)(h4:jI v)(q:k v ⟨lo L,H⟩ Q):bc C j i k ⟨lo L,H⟩ Q:=by
 unfold bc;exact lR (Q:=bk (λx=>Z (pA C i x) k) Q) hl ⟨a,d,kvs,rfl,h1,h2,v,h3,h4,q⟩
def sq (H:Hp)(x:V)(b:Tn)(vs:R4 V):Prop:=∀l,gP ⟨l,H⟩ x=R3 (b,vs)
theorem ay :sq H (.bF b vs) b vs:=λO=>rfl
theorem bq (h:H a=R3 (.list vs)):sq H (.ref a) Sf vs:=λl=>by show Y0 _ (tF (H a))=_;rw[h];rfl
theorem ci (h:sq H x b vs)(hz:vs.length<=big)(q:Q (.int vs.length) ⟨l,H⟩):cZ x ⟨l,H⟩ Q:=by unfold cZ;exact⟨b,vs,h l,hz,q⟩
theorem bS {n:Sj}(h:sq H x b vs)(hz:vs.length<=big)(hv:gE vs n=R3 v)(q:Q v ⟨l,H⟩):bT x (.int n) ⟨l,H⟩ Q:=by unfold bT;exact⟨n,v,rfl,.s x n b vs v (h l) hz hv,q⟩
theorem fJ {n:Sj}(h:H a=R3 (.dict ds ep))(hv:bC ds n=R3 v)(q:Q v ⟨l,H⟩):bT (.ref a) (.int n) ⟨l,H⟩ Q:=by unfold bT;exact⟨n,v,rfl,.d a n ds ep v h hv,q⟩
theorem eK (h:H a=R3 (.list vs))(hz:vs.length<=big)(q:Q .none ⟨l,aK H a (.list (vs++[y]))⟩):dc (.ref a) y ⟨l,H⟩ Q:=by unfold dc;exact⟨a,vs,rfl,h,hz,q⟩
theorem Hg {Q:Unit->St->Prop}(h:H a=R3 (.list vs))(hz:vs.length<=big)(hn:n<vs.length)(q:Q () ⟨l,aK H a (.list (vs.set n z))⟩):dg (.ref a) (.int n) z ⟨l,H⟩ Q:=by unfold dg;exact .l a n vs h hz hn q
theorem OJ (h:H a=R3 (.list (vs++[v])))(hz:vs.length<big)(q:Q v ⟨l,aK H a (.list vs)⟩):C0 (.ref a) ⟨l,H⟩ Q:=by unfold C0;exact⟨a,vs,v,rfl,h,hz,q⟩
section
variable{m n:Sj}
theorem i7 (q:Q (.bool (m==n)) J):iA (.int m) (.int n) J Q:=by unfold iA;exact⟨_,.ii m n,q⟩
theorem Hh (q:Q (.bool (!(m==n))) J):ug (.int m) (.int n) J Q:=by unfold ug;exact⟨_,.ii m n,q⟩
theorem Hi (q:Q (.bool (Ul (m<n))) J):ltI (.int m) (.int n) J Q:=by unfold ltI;exact⟨m,n,rfl,rfl,TK,q⟩
theorem ad3 (q:Q (.bool (Ul (m<=n))) J):leI (.int m) (.int n) J Q:=by unfold leI;exact⟨m,n,rfl,rfl,TK,q⟩
theorem Mi (q:Q (.bool (Ul (m>=n))) J):geI (.int m) (.int n) J Q:=by unfold geI;exact⟨m,n,rfl,rfl,TK,q⟩
theorem rI (q:Q (.bool (Ul (m>n))) J):Da (.int m) (.int n) J Q:=by unfold Da;exact⟨_,.i m n,q⟩
theorem cO (q:Q (.int (m+n)) J):bY mk (.int m) (.int n) J Q:=by unfold bY;exact .i m n q
theorem nR (q:Q (.int (m - n)) J):qj (.int m) (.int n) J Q:=by unfold qj;exact⟨m,n,rfl,rfl,TK,q⟩
theorem ack (q:Q (.int (if n>m then n else m)) J):Rj (.int m) (.int n) J Q:=by unfold Rj;exact⟨m,n,rfl,rfl,TK,q⟩
theorem Bq (h:n≠0)(q:Q (.int (m.fmod n)) J):GV (.int m) (.int n) J Q:=by unfold GV;exact⟨m,n,rfl,rfl,h,q⟩
theorem Br (h:n≠0)(h':n.natAbs<1073741824)(q:Q (.int (m.fdiv n)) J):Db (.int m) (.int n) J Q:=by unfold Db;exact⟨m,n,rfl,rfl,⟨h,h'⟩,q⟩
theorem OL (h:m.natAbs<2 ^ 60)(h':n.natAbs<2 ^ 60)(q:Q (.int (m*n)) J):Ri (.int m) (.int n) J Q:=by unfold Ri;exact⟨m,n,rfl,rfl,⟨h,h'⟩,q⟩
end
theorem gU {n:Sj}{Q:Unit->St->Prop}(h:H a=R3 (.dict ds ep))(h1: -1000<=n)(h2:n<=1000)(q: ∀ep,Q () ⟨l,aK H a (.dict (cY ds n z) ep)⟩):dg (.ref a) (.int n) z ⟨l,H⟩ Q:=by unfold dg;exact .d a n ds ep h h1 h2 q
theorem acl {n:Sj}{Q:Unit->St->Prop}(h:H a=R3 (.dict ds ep))(hv:(bC ds n).isSome=Sn)(q: ∀ep,Q () ⟨l,aK H a (.dict (oi ds n) ep)⟩):Lv (.ref a) (.int n) ⟨l,H⟩ Q:=by unfold Lv;exact⟨a,n,ds,ep,rfl,rfl,h,hv,q⟩
theorem RB {n:Sj}(h:H a=R3 (.dict ds ep))(q:Q ((bC ds n).getD .none) ⟨l,H⟩):GR (.ref a) (.int n) ⟨l,H⟩ Q:=by unfold GR;exact⟨a,n,ds,ep,rfl,rfl,h,q⟩
theorem Bs {n:Sj}(h:H a=R3 (.dict ds ep))(q:Q ((bC ds n).getD z) ⟨l,H⟩):iG (.ref a) (.int n) z ⟨l,H⟩ Q:=by unfold iG;exact⟨a,n,ds,ep,rfl,rfl,h,q⟩
theorem RC {n:Sj}{K:Tn->Prop}(h:H a=R3 (.dict ds ep))(q:K (bC ds n).isSome):inV ⟨l,H⟩ (.int n) (.ref a) K:=⟨_,.d n a ds ep h,q⟩
theorem eh (k:SH)(q: ∀n,H ⟨k,n⟩=Sg->Q (.ref ⟨k,n⟩) ⟨l,aK H ⟨k,n⟩ so⟩):pB so ⟨l,H⟩ Q:=by
 rintro⟨N,hN⟩;exact⟨⟨k,N⟩,hN _ (S8 _),q N (hN _ (S8 _))⟩
theorem kQ (k:SH)(q: ∀n ep,H ⟨k,n⟩=Sg->Q (.ref ⟨k,n⟩) ⟨l,aK H ⟨k,n⟩ (.dict ds ep)⟩):eg ds ⟨l,H⟩ Q:=by
 unfold eg lF;rintro⟨N,hN⟩;exact⟨⟨k,N⟩,hN _ (S8 _),λep=>q N ep (hN _ (S8 _))⟩
theorem aP (hz:vs.length<=big)(q:mk vs ⟨l,H⟩ Q):aR mk vs ⟨l,H⟩ Q:=by unfold aR;exact⟨hz,q⟩
def sr (H:Hp)(x:V)(S:Src):Prop:=∀l,cM ⟨l,H⟩ x=R3 S
theorem fK :sr H (.bF b vs) (.seq b vs):=λO=>rfl
theorem fM (h:H a=R3 (.list vs)):sr H (.ref a) (.seq Sf vs):=λl=>by show vw (H a)=_;rw[h];rfl
theorem o0 (h:H a=R3 (.dict ds ep)):sr H (.ref a) (.dict ds ep):=λl=>by show vw (H a)=_;rw[h];rfl
theorem kR {p q:Sj}(h:H a=R3 (.range p q)):sr H (.ref a) (.kH p q):=λl=>by show vw (H a)=_;rw[h];rfl
theorem sX {body:WM Fl}{S:Src}{Q:Fl->St->Prop}(I:SH->St->Prop)(hf:S.fits)(hS: ∀i J,I i J->cM J x=R3 S)(h0:I 0 J)
  (step: ∀i v J,S.items[i]? =R3 v->I i J->∀K:St->Prop,(∀bD,I (i+1) bD->K bD)->lA v J λO ak=>body ak (AW Q K)) (fin: ∀J,I S.items.length J->Q .next J):dQ lA body x J Q:=by
 have key: ∀(n i:SH) (J:St),i+n=S.items.length->I i J->forL x S lA body (S.items.drop i) J Q:=by
  intro n;induction n with
  |zero=>intro i J e h;have e:i=S.items.length:=e;subst e;rw[ZR];exact⟨hS _ _ h,fin _ h⟩
  |succ n ih=>intro i J e h;have hi:i<S.items.length:=yN [_,_,_] [] 0xf12a0b5210a54 rfl e;rw[Uh hi];refine⟨hS _ _ h,?_⟩;exact step i _ J (SG hi) h (λbD=>forL x S lA body (S.items.drop (i+1)) bD Q) (λbD h'=>ih (i+1) bD (SK (yN [_,_,_] [] 0xf21a0b52210ab54 rfl e) (yN [_,_,_] [] 0xf02a1b3221ab054 rfl e)) h')
 unfold dQ;exact⟨S,hS 0 J h0,hf,key S.items.length 0 J (Xz _) h0⟩
theorem gL {body:WM Fl}{Q:Fl->St->Prop}(zAB:SH->St->Prop)(n:SH)(h0:zAB n J)
  (step: ∀n J,zAB n J->∀K:St->Prop,(∀m bD,m<n->zAB m bD->K bD)->test J λb ak=>(b=Sn->body ak (AW Q K))/\(b=Sf->Q .next ak)):gT test body J Q:=by
 unfold gT;exact⟨zAB,⟨n,h0⟩,λn J h=>step n J h (λbD=>∃m,m<n/\zAB m bD) λm bD hm hj=>⟨m,hm,hj⟩⟩
def Ev (w:WM α)(J:St)(r:α):Prop:=∀Q:α->St->Prop,Q r J->w J Q
theorem ad4 {S:Src}{Q:R4 V->St->Prop}(f:V->Si V)(hS:sr H x S)(hf:S.fits)
  (h: ∀u,u∈S.items->∃b,C3 (Ev test ⟨aY ⟨l,H⟩ sh (R3 u),H⟩ b) (b=Sn->∃y,f u=R3 y/\Ev elt ⟨aY ⟨l,H⟩ sh (R3 u),H⟩ y) (b=Sf->f u=Sg))
  (q:Q (S.items.filterMap f) ⟨l,H⟩):oA sh test elt x ⟨l,H⟩ Q:=by
 have key: ∀(vs acc:R4 V) (K:R4 V->Hp->Prop),(∀u∈vs,u∈S.items)->K (acc++vs.filterMap f) H->Kj x S (aY ⟨l,H⟩ sh) test elt vs acc H K:=by
  intro vs;induction vs with
  |nil=>intro acc K _ hk;rw[List.filterMap_nil,Tw]at hk;exact⟨hS _,hk⟩
  |cons u r ih=>
   intro acc K hm hk;obtain⟨b,h1,h2,h3⟩:=h u (hm u Se);have vk: ∀u∈r,u∈S.items:=λu hu=>hm u (SQ _ hu);refine⟨hS _,h1 _ ⟨λe=>?_,λe=>?_⟩⟩
   ·obtain⟨y,h4,h5⟩:=h2 e;refine h5 _ (ih _ _ vk ?_);rw[U1,h4]at hk;rwa [TG]
   ·refine ih _ _ vk ?_;rwa [U1,h3 e]at hk
 unfold oA;exact⟨S,hS _,hf,key _ [] _ (λO h=>h) q⟩
end
variable{H H' mU:Hp}
noncomputable def hZ (c:R4 Sj):R4 Sj:=c.map λx=>-x
inductive js (D:R4 (R4 Sj))(A:R4 Sj):Sj->Prop
 |bU {l:Sj}:l∈A->js D A l
 |unit {c:R4 Sj} {l:Sj}:c∈D->l∈c->(∀x∈c,x≠l->js D A (-x))->js D A l
def b7 (D:R4 (R4 Sj))(A:R4 Sj):Prop:=[]∈D\/∃l,js D A l/\js D A (-l)
theorem js.mono {D:R4 (R4 Sj)}{A A':R4 Sj}(hD: ∀c∈D,c∈D')(hA: ∀a∈A,js D' A' a){l:Sj}(h:js D A l):js D' A' l:=by
 induction h with
 |bU h=>exact hA _ h
 |unit hc hl _ ih=>exact .unit (hD _ hc) hl ih
theorem b7.mono {D:R4 (R4 Sj)}{A A':R4 Sj}(hD: ∀c∈D,c∈D')(hA: ∀a∈A,js D' A' a)(h:b7 D A):b7 D' A':=by
 rcases h with h |⟨l,h1,h2⟩;·exact .inl (hD _ h)
 ·exact .inr ⟨l,h1.mono hD hA,h2.mono hD hA⟩
theorem b7.of {D:R4 (R4 Sj)}{A:R4 Sj}(hc:c∈D)(h: ∀x∈c,js D A (-x)):b7 D A:=by
 cases c with
 |nil=>exact .inl hc
 |cons x r=>exact .inr ⟨x,.unit hc Se (λy hy O=>h y hy),h x Se⟩
structure Full (N:SH)(M:R4 Sj):Prop where
 cons: ∀x∈M,-x∉M
 all: ∀v:Sj,1<=v.natAbs->v.natAbs<=N->v∈M\/-v∈M
def holds (M c:R4 Sj):Prop:=∃x∈c,x∈M
theorem js.sound {D:R4 (R4 Sj)}{A M:R4 Sj}(hM: ∀x∈M,-x∉M)(hD: ∀c∈D,holds M c)(hA: ∀a∈A,a∈M){l:Sj}(h:js D A l):l∈M:=by
 induction h with
 |bU h=>exact hA _ h
 |@unit c l hc hl _ ih=>
  obtain⟨y,hy,hm⟩:=hD c hc;by_cases q:y=l;·rwa [<-q]
  ·exact Sw (ih y hy q) (hM y hm)
theorem b7.sound {D:R4 (R4 Sj)}{A M:R4 Sj}(hM: ∀x∈M,-x∉M)(hD: ∀c∈D,holds M c)(hA: ∀a∈A,a∈M): ¬b7 D A:=by
 rintro(h |⟨l,h1,h2⟩);·obtain⟨y,hy,_⟩:=hD _ h;cases hy
 ·exact hM l (h1.sound hM hD hA) (h2.sound hM hD hA)
structure Cl (N:SH)(c:R4 Sj):Prop where
 up:c.Pairwise λx y=>x.natAbs<y.natAbs
 var: ∀x∈c,1<=x.natAbs/\x.natAbs<=N
theorem b7.rup {D:R4 (R4 Sj)}{M:R4 Sj}(hM:Full N M)(hc:Cl N c)(hD: ∀c∈D,holds M c)(h:b7 D (hZ c)):holds M c:=by
 apply Tk;intro q;refine b7.sound hM.cons hD (λa ha=>?_) h;obtain⟨x,hx,rfl⟩:=SL.mp ha;obtain⟨h1,h2⟩:=hc.var x hx;rcases hM.all x h1 h2 with z |z;·exact Sw ⟨x,hx,z⟩ q
 ·exact z
open Classical in
noncomputable def fault (D:R4 (R4 Sj)):R4 (R4 Sj)->SH->Sj
 |[],_=>-1
 |c::r,k=>if b7 D (hZ c)then fault (D++[c]) r (k+1)else k
noncomputable def fj (D:R4 (R4 Sj)):R4 (R4 Sj)->Prop
 |[]=>True
 |c::r=>b7 D (hZ c)/\fj (D++[c]) r
theorem fj.fault : ∀{D:R4 (R4 Sj)} {k:SH},fj D L->fault D L k= -1:=by
 induction L with
 |nil=>intro D k h;rfl
 |cons c r ih=>intro D k h;exact(Sv h.1).trans (ih h.2)
theorem fj.mono : ∀{D D':R4 (R4 Sj)},(∀c∈D,c∈D')->fj D L->fj D' L:=by
 induction L with
 |nil=>intro D D' h q;trivial
 |cons c r ih=>intro D D' h q;exact⟨q.1.mono h (λa ha=>.bU ha),ih (λx hx=>(Sl.mp hx).elim (λq=>Su _ (h x q)) (SA _)) q.2⟩
theorem fj.snoc : ∀{D:R4 (R4 Sj)} {c:R4 Sj},fj D L->b7 (D++L) (hZ c)->fj D (L++[c]):=by
 induction L with
 |nil=>intro D c q h;exact⟨by rwa [Tw]at h,TK⟩
 |cons a r ih=>intro D c q h;exact⟨q.1,ih q.2 (by rwa [TG])⟩
theorem fj.holds {M:R4 Sj}(hM:Full N M): ∀{D:R4 (R4 Sj)},(∀c∈L,Cl N c)->(∀c∈D,holds M c)->fj D L->∀c∈L,CK.holds M c:=by
 induction L with
 |nil=>exact λO O O c hc=>Sw hc Sy
 |cons a r ih=>
  intro D hL hD h c hc;obtain⟨h1,h2⟩:=h;have ha:=h1.rup hM (hL a Se) hD;rcases SZ.mp hc with rfl |hc;·exact ha
  ·exact ih (λc hc=>hL c (SQ _ hc)) (λx hx=>by
    rcases Sl.mp hx with q |q;·exact hD x q
    ·rw[R8.mp q];exact ha) h2 c hc
section
theorem ai {k' n':SH}(h:(k'==k)=Sf):aK H ⟨k,n⟩ so ⟨k',n'⟩=H ⟨k',n'⟩:=aO λe=>by
 have:k'=k:=SU Ad.k e;rw[this,TV]at h;exact gV h
def bM (lo hi:SH)(H H':Hp):Prop:=∀b o,H b=R3 o->(b.k<lo\/hi<=b.k)->H' b=R3 o
theorem bM.refl {lo:SH}:bM lo hi H H:=λO O e O=>e
theorem bM.trans {lo:SH}(h:bM lo hi H H')(h':bM lo hi H' mU):bM lo hi H mU:=λb o e q=>h' b o (h b o e q) q
theorem bM.set {lo:SH}(h:(Ul (lo<=k) && decide (k<hi))=Sn):bM lo hi H (aK H ⟨k,n⟩ so):=λb o e q=>by
 rw[Tt,Uz,Uz]at h;rw[jr];exact e;intro z;have z:b.k=k:=z;exact q.elim (λbE=>yF [_,_,_] [] 0xf02a5012321050 rfl h.1 z bE) (λbE=>yF [_,_,_] [] 0xf2150025210a50 rfl h.2 z bE)
theorem bM.new {lo:SH}(h:H ⟨k,n⟩=Sg):bM lo hi H (aK H ⟨k,n⟩ so):=λb o e q=>by
 rw[aO];exact e;intro z;replace e:=h▸z▸e;cases e
noncomputable def bH (c:R4 Sj):R4 V:=c.map V.int
noncomputable def kq (c:R4 SH):R4 V:=c.map λ(n:SH)=>V.int (n:Sj)
def tup (c:R4 Sj):V:=.bF Sn (bH c)
noncomputable def pair (p:Sj×Sj):V:=.bF Sn [.int p.1,.int p.2]
theorem cV {p:Sj×β}{r:R4 (Sj×β)}{j:Sj}:bC (p::r) j=if p.1=j then R3 p.2 else bC r j:=by
 unfold bC;rw[UU];by_cases q:p.1=j;·rw[Sv q,Th q];rfl
 ·rw[Sq q,Ti q]
theorem Hj {k j:Sj}{v:β}{l:R4 (Sj×β)}:bC (l++[(k,v)]) j=(bC l j).or (if j=k then R3 v else Sg):=by
 induction l with
 |nil=>
  rw[ZZ,cV];by_cases q:j=k;·rw[Sv q.symm,Sv q];rfl
  ·rw[Sq (TH q),Sq q];rfl
 |cons p r ih=>
  rw[List.cons_append,cV,cV,ih];by_cases q:p.1=j;·rw[Sv q,Sv q];rfl
  ·rw[Sq q,Sq q]
theorem Dp {k:Sj}{l:R4 (Sj×β)}(h: ∀p∈l,p.1≠k):bC l k=Sg:=by
 induction l with
 |nil=>rfl
 |cons p r ih=>rw[cV,Sq (h p Se)];exact ih λq hq=>h q (SQ _ hq)
theorem Hk {k j:Sj}{v:β}{l:R4 (Sj×β)}:bC (l.map λp=>if p.1=k then(p.1,v)else p) j=if j=k then(bC l k).map (λO=>v)else bC l j:=by
 induction l with
 |nil=>
  by_cases q:j=k;·rw[Sv q];rfl
  ·rw[Sq q];rfl
 |cons p r ih=>
  have hf:(if p.1=k then(p.1,v)else p).1=p.1:=by
   by_cases q:p.1=k;·rw[Sv q]
   ·rw[Sq q]
  rw[Tq,cV,hf,ih,cV,cV];by_cases q:p.1=k
  ·rw[Sv q,Sv q];by_cases w:j=k;·rw[Sv (q.trans w.symm),Sv w];rfl
   ·rw[Sq λz=>w (z.symm.trans q),Sq w,Sq w,Sq λz=>w (z.symm.trans q)]
  ·rw[Sq q,Sq q];by_cases w:j=k;·rw[Sv w,Sv w,Sq λz=>q (z.trans w)]
   ·rw[Sq w,Sq w]
theorem gb {kvs:R4 (Sj×β)}{k j:Sj}{v:β}:bC (cY kvs k v) j=if j=k then R3 v else bC kvs j:=by
 unfold cY;split
 ·rename_i q;rw[Hk];by_cases w:j=k
  ·rw[Sv w,Sv w];obtain⟨p,hp,e⟩:=Ut.mp q;have e:p.1=k:=by simpa using e
   cases z:bC kvs k with
   |some _=>rfl
   |none=>unfold bC at z;rw[Ww,Xg]at z;exact Sw e (by simpa using z p hp)
  ·rw[Sq w,Sq w]
 ·rename_i q;rw[Hj];by_cases w:j=k;·rw[Sv w,Sv w,Dp λp hp z=>q (Ut.mpr ⟨p,hp,by simpa using z.trans w⟩)];rfl
  ·rw[Sq w,Sq w,Option.or_none]
theorem mV {k j:Sj}{kvs:R4 (Sj×β)}:bC (oi kvs k) j=if j=k then Sg else bC kvs j:=by
 induction kvs with
 |nil=>
  by_cases q:j=k;·rw[Sv q];rfl
  ·rw[Sq q];rfl
 |cons p r ih=>
  unfold oi at ih ⊢;refine TJ▸?_;by_cases q:p.1=k
  ·rw[Sq (by simpa using q),ih,cV];by_cases w:j=k;·rw[Sv w,Sv w]
   ·rw[Sq w,Sq w,Sq λz=>w (z.symm.trans q)]
  ·rw[Sv (by simpa using q),cV,cV,ih];by_cases w:p.1=j;·rw[Sv w,Sv w,Sq λz=>q (w.trans z)]
   ·rw[Sq w,Sq w]
structure DL (kd kl nd:SH)(pn:Sj->Si SH)(pl:Sj->R4 SH)(H:Hp):Prop where
 d: ∃kvs ep,H ⟨kd,nd⟩=R3 (.dict kvs ep)/\∀l,bC kvs l=(pn l).map λn=>V.ref ⟨kl,n⟩
 ls: ∀l n,pn l=R3 n->H ⟨kl,n⟩=R3 (.list (kq (pl l)))
 inj: ∀l l' n,pn l=R3 n->pn l'=R3 n->l=l'
 no: ∀l,pn l=Sg->pl l=[]
section
variable{kd kl nd:SH}
theorem DL.frm (h:DL kd kl nd pn pl H)(e: ∀b o,H b=R3 o->(b.k=kd\/b.k=kl)->H' b=R3 o):DL kd kl nd pn pl H' where
 d:=h.d.imp λk=>Ta λe'=>SY λq=>e _ _ q (.inl rfl)
 ls:=λl n q=>e _ _ (h.ls l n q) (.inr rfl)
 inj:=h.inj
 no:=h.no
theorem DL.off (h:DL kd kl nd pn pl H)(h1:(kd==k)=Sf)(h2:(kl==k)=Sf):DL kd kl nd pn pl (aK H ⟨k,n⟩ so) where
 d:=h.d.imp λk=>Ta λe'=>SY (ai h1).trans
 ls:=λl n q=>(ai h2).trans (h.ls l n q)
 inj:=h.inj
 no:=h.no
theorem DL.put (h:DL kd kl nd pn pl H)(hk:(kd==kl)=Sf){m:SH}(hl:pn x=R3 m)(vs:R4 SH):DL kd kl nd pn (λl=>if l=x then vs else pl l) (aK H ⟨kl,m⟩ (.list (kq vs))) where
 d:=h.d.imp λk=>Ta λe'=>SY (ai hk).trans
 ls:=λl n e=>by
  by_cases q:n=m
  ·subst q;exact(Sv (h.inj l x n e hl))▸(aw)
  ·rw[Sq λz=>q (by rw[z,hl]at e;exact(R7 e).symm),aO λz=>q (SU Ad.n z)];exact h.ls l n e
 inj:=h.inj
 no:=λl e=>by rw[Sq λz=>by replace e:=hl▸z▸e;cases e];exact h.no l e
theorem DL.new (h:DL kd kl nd pn pl H)(hk:(kd==kl)=Sf)(Fi:(kl==kd)=Sf){m:SH}(hl:pn x=Sg)(hm:H ⟨kl,m⟩=Sg){vs:R4 SH}(hd:H ⟨kd,nd⟩=R3 (.dict kvs ep)):
  DL kd kl nd (λl=>if l=x then R3 m else pn l) (λl=>if l=x then vs else pl l) (aK (aK H ⟨kl,m⟩ (.list (kq vs))) ⟨kd,nd⟩ (.dict (cY kvs x (.ref ⟨kl,m⟩)) ep')) where
 d:=⟨_,ep',aw,λl=>by
  rw[gb];by_cases q:l=x;·rw[Sv q,Sv q];rfl
  ·rw[Sq q,Sq q];obtain⟨k,e,h1,h2⟩:=h.d;replace h1:=hd▸h1;cases h1;exact h2 l⟩
 ls:=λl n e=>by
  rw[ai Fi];by_cases q:l=x;·rw[Sv q]at e ⊢;obtain rfl:=R7 e;exact aw
  ·rw[Sq q]at e ⊢;rw[aO];exact h.ls l n e;intro z;have:=h.ls l n e;replace this:=hm▸z▸this;cases this
 inj:=λl l' n e e'=>by
  have old: ∀l,pn l=R3 m->False:=λl e=>by have:=h.ls l m e;replace this:=hm▸this;cases this
  by_cases q:l=x<;>by_cases q':l'=x;·rw[q,q']
  ·rw[Sv q]at e;obtain rfl:=R7 e;rw[Sq q']at e';exact(old _ e').elim
  ·replace e':=(Sv q')▸e';obtain rfl:=R7 e';rw[Sq q]at e;exact(old _ e).elim
  ·rw[Sq q]at e;rw[Sq q']at e';exact h.inj l l' n e e'
 no:=λl e=>by
  by_cases q:l=x;·replace e:=(Sv q)▸e;cases e
  ·rw[Sq q]at e ⊢;exact h.no l e
end
structure Us where
 n:SH->SH
 cs:R4 (R4 Sj)
 pn:Sj->Si SH
 pl:Sj->R4 SH
 hd:R4 Sj
 op:R4 Sj
 bg:R4 (Sj×Sj)
 emp:Sj
 tk:Sj->Tn
 tr:R4 Sj
 cl:V
noncomputable def Us.sD (u:Us)(e:Sj)(c:V):Us:={u with emp:=e,cl:=c}
noncomputable def Us.sCs (u:Us)(x:R4 (R4 Sj)):Us:={u with cs:=x}
noncomputable def Us.Jy (u:Us)(x:R4 Sj):Us:={u with hd:=x}
noncomputable def Us.Jz (u:Us)(x:R4 Sj):Us:={u with op:=x}
noncomputable def Us.sBg (u:Us)(x:R4 (Sj×Sj)):Us:={u with bg:=x}
noncomputable def Us.sTk (u:Us)(x:Sj->Tn):Us:={u with tk:=x}
noncomputable def Us.sTr (u:Us)(x:R4 Sj):Us:={u with tr:=x}
noncomputable def Us.sPl (u:Us)(x:Sj->Si SH)(y:Sj->R4 SH):Us:={u with pn:=x,pl:=y}
noncomputable def OM (u:Us):R4 (SH×V):=[(0,.ref ⟨42,u.n 42⟩),(1,.ref ⟨43,u.n 43⟩),(2,.ref ⟨45,u.n 45⟩),(3,.ref ⟨46,u.n 46⟩),(4,.ref ⟨47,u.n 47⟩),(5,.int u.emp),(6,.ref ⟨48,u.n 48⟩),(7,.ref ⟨49,u.n 49⟩),(8,u.cl)]
structure bo (T:Tp)(u:Us)(H:Hp):Prop where
 self:H ⟨40,u.n 40⟩=R3 (.inst T.U ⟨41,u.n 41⟩)
 dict:H ⟨41,u.n 41⟩=R3 (.bB (OM u))
 cls:H ⟨42,u.n 42⟩=R3 (.list (u.cs.map tup))
 dl:DL 43 44 (u.n 43) u.pn u.pl H
 hd:H ⟨45,u.n 45⟩=R3 (.list (bH u.hd))
 op:H ⟨46,u.n 46⟩=R3 (.list (bH u.op))
 bg:H ⟨47,u.n 47⟩=R3 (.list (u.bg.map pair))
 tk: ∃kvs ep,H ⟨48,u.n 48⟩=R3 (.dict kvs ep)/\∀l,(bC kvs l).isSome=u.tk l
 tr:H ⟨49,u.n 49⟩=R3 (.list (bH u.tr))
variable{u:Us}
theorem bo.frm (h:bo T u H)(e: ∀b o,H b=R3 o->40<=b.k->b.k<60->H' b=R3 o):bo T u H' where
 self:=e _ _ h.self (R5 rfl) (R5 rfl)
 dict:=e _ _ h.dict (R5 rfl) (R5 rfl)
 cls:=e _ _ h.cls (R5 rfl) (R5 rfl)
 dl:=h.dl.frm λb o q k=>e b o q (by exact k.elim (λbE=>yN [_] [] 0xf2b2c0320282c54 rfl bE) (λbE=>yN [_] [] 0xf2c2c0320282c54 rfl bE)) (by exact k.elim (λbE=>yN [_] [] 0xf2b2c0523c2c0a54 rfl bE) (λbE=>yN [_] [] 0xf2c2c0523c2c0a54 rfl bE))
 hd:=e _ _ h.hd (R5 rfl) (R5 rfl)
 op:=e _ _ h.op (R5 rfl) (R5 rfl)
 bg:=e _ _ h.bg (R5 rfl) (R5 rfl)
 tk:=h.tk.imp λk=>Ta λe'=>SY λq=>e _ _ q (R5 rfl) (R5 rfl)
 tr:=e _ _ h.tr (R5 rfl) (R5 rfl)
theorem bo.wx (h:bo T u H)(e:Sj)(c:V):bo T (u.sD e c) (aK H ⟨41,u.n 41⟩ (.bB (OM (u.sD e c)))) where
 self:=(ai rfl).trans h.self
 dict:=aw
 cls:=(ai rfl).trans h.cls
 dl:=h.dl.off rfl rfl
 hd:=(ai rfl).trans h.hd
 op:=(ai rfl).trans h.op
 bg:=(ai rfl).trans h.bg
 tk:=h.tk.imp λk=>Ta λe=>SY (ai rfl).trans
 tr:=(ai rfl).trans h.tr
theorem bo.Mj (h:bo T u H)(x:R4 (R4 Sj)):bo T (u.sCs x) (aK H ⟨42,u.n 42⟩ (.list (x.map tup))) where
 self:=(ai rfl).trans h.self
 dict:=(ai rfl).trans h.dict
 cls:=aw
 dl:=h.dl.off rfl rfl
 hd:=(ai rfl).trans h.hd
 op:=(ai rfl).trans h.op
 bg:=(ai rfl).trans h.bg
 tk:=h.tk.imp λk=>Ta λe=>SY (ai rfl).trans
 tr:=(ai rfl).trans h.tr
theorem bo.Hl (h:bo T u H)(x:R4 Sj):bo T (u.Jy x) (aK H ⟨45,u.n 45⟩ (.list (bH x))) where
 self:=(ai rfl).trans h.self
 dict:=(ai rfl).trans h.dict
 cls:=(ai rfl).trans h.cls
 dl:=h.dl.off rfl rfl
 hd:=aw
 op:=(ai rfl).trans h.op
 bg:=(ai rfl).trans h.bg
 tk:=h.tk.imp λk=>Ta λe=>SY (ai rfl).trans
 tr:=(ai rfl).trans h.tr
theorem bo.Hm (h:bo T u H)(x:R4 Sj):bo T (u.Jz x) (aK H ⟨46,u.n 46⟩ (.list (bH x))) where
 self:=(ai rfl).trans h.self
 dict:=(ai rfl).trans h.dict
 cls:=(ai rfl).trans h.cls
 dl:=h.dl.off rfl rfl
 hd:=(ai rfl).trans h.hd
 op:=aw
 bg:=(ai rfl).trans h.bg
 tk:=h.tk.imp λk=>Ta λe=>SY (ai rfl).trans
 tr:=(ai rfl).trans h.tr
theorem bo.RD (h:bo T u H)(x:R4 (Sj×Sj)):bo T (u.sBg x) (aK H ⟨47,u.n 47⟩ (.list (x.map pair))) where
 self:=(ai rfl).trans h.self
 dict:=(ai rfl).trans h.dict
 cls:=(ai rfl).trans h.cls
 dl:=h.dl.off rfl rfl
 hd:=(ai rfl).trans h.hd
 op:=(ai rfl).trans h.op
 bg:=aw
 tk:=h.tk.imp λk=>Ta λe=>SY (ai rfl).trans
 tr:=(ai rfl).trans h.tr
theorem bo.Hn (h:bo T u H){f:Sj->Tn}(hf: ∀l,(bC kvs l).isSome=f l):bo T (u.sTk f) (aK H ⟨48,u.n 48⟩ (.dict kvs ep)) where
 self:=(ai rfl).trans h.self
 dict:=(ai rfl).trans h.dict
 cls:=(ai rfl).trans h.cls
 dl:=h.dl.off rfl rfl
 hd:=(ai rfl).trans h.hd
 op:=(ai rfl).trans h.op
 bg:=(ai rfl).trans h.bg
 tk:=⟨kvs,ep,aw,hf⟩
 tr:=(ai rfl).trans h.tr
theorem bo.Ho (h:bo T u H)(x:R4 Sj):bo T (u.sTr x) (aK H ⟨49,u.n 49⟩ (.list (bH x))) where
 self:=(ai rfl).trans h.self
 dict:=(ai rfl).trans h.dict
 cls:=(ai rfl).trans h.cls
 dl:=h.dl.off rfl rfl
 hd:=(ai rfl).trans h.hd
 op:=(ai rfl).trans h.op
 bg:=(ai rfl).trans h.bg
 tk:=h.tk.imp λk=>Ta λe=>SY (ai rfl).trans
 tr:=aw
theorem bo.RE (h:bo T u H)(hd:DL 43 44 (u.n 43) pn pl H')(e: ∀b o,H b=R3 o->b.k≠43->b.k≠44->H' b=R3 o):bo T (u.sPl pn pl) H' where
 self:=e _ _ h.self (Ss rfl) (Ss rfl)
 dict:=e _ _ h.dict (Ss rfl) (Ss rfl)
 cls:=e _ _ h.cls (Ss rfl) (Ss rfl)
 dl:=hd
 hd:=e _ _ h.hd (Ss rfl) (Ss rfl)
 op:=e _ _ h.op (Ss rfl) (Ss rfl)
 bg:=e _ _ h.bg (Ss rfl) (Ss rfl)
 tk:=h.tk.imp λk=>Ta λe'=>SY λq=>e _ _ q (Ss rfl) (Ss rfl)
 tr:=e _ _ h.tr (Ss rfl) (Ss rfl)
end
variable{u:Us}
section
theorem qA {f:WM α}{h:α->WM β}{Q:β->St->Prop}(q:f J λa bD=>h a bD Q):Z f h J Q:=q
theorem acm {f r:WM Fl}{Q:Fl->St->Prop}(q:f J (sqK r Q)):aq f r J Q:=q
theorem acn {r:WM Fl}{Q:Fl->St->Prop}(q:r J Q):sqK r Q .next J:=q
theorem aeX {r:WM Fl}{v:V}{Q:Fl->St->Prop}(q:Q (.ret v) J):sqK r Q (.ret v) J:=q
theorem aeY {r:WM Fl}{Q:Fl->St->Prop}(q:Q .cont J):sqK r Q .cont J:=q
theorem aeZ {Q:Fl->St->Prop}{N:St->Prop}(q:N J):AW Q N .next J:=q
theorem ae0 {Q:Fl->St->Prop}{N:St->Prop}(q:N J):AW Q N .cont J:=q
theorem ae1 {Q:Fl->St->Prop}{N:St->Prop}{v:V}(q:Q (.ret v) J):AW Q N (.ret v) J:=q
theorem aco {u:Unit}{Q:Fl->St->Prop}(q:Q .next J):bP u J Q:=q
theorem Hq {a:α}{Q:α->St->Prop}(q:Q a J):ae a J Q:=q
theorem Hr {f g:WM α}{t:WM Tn}{Q:α->St->Prop}(ht:Ev t J b)(h1:b=Sn->f J Q)(h2:b=Sf->g J Q):bK t f g J Q:=ht _ ⟨h1,h2⟩
section
variable{L:R4 (Si V)}{a:Ad}{x:V}
theorem ut {n:Sj}(h:H a=R3 (.dict ds ep))(q1: ∀v,bC ds n=R3 v->Q v ⟨l,H⟩)(q2:bC ds n=Sg->-1000<=n/\n<=1000/\∀ep,Q z ⟨l,aK H a (.dict (cY ds n z) ep)⟩):iH (.ref a) (.int n) z ⟨l,H⟩ Q:=by
 unfold iH;exact⟨a,n,ds,ep,rfl,rfl,h,q1,λe=>by obtain⟨h1,h2,q⟩:=q2 e;exact⟨h1,h2,q⟩⟩
section
variable{kd kl nd:SH}
theorem DL.sd (h:DL kd kl nd pn pl H)(hk:(kd==kl)=Sf)(Fi:(kl==kd)=Sf){x:Sj}(h1: -1000<=x)(h2:x<=1000)
  (q: ∀n Dq H',DL kd kl nd Dq pl H'->Dq x=R3 n->(∀b o,H b=R3 o->b.k≠kd->H' b=R3 o)->(∀y m,(Dq y=R3 m->pn y=R3 m\/H ⟨kl,m⟩=Sg)/\(pn y=R3 m->Dq y=R3 m))->Q (.ref ⟨kl,n⟩) ⟨l,H'⟩):
  aR eR [] ⟨l,H⟩ λx3 bD=>iH (.ref ⟨kd,nd⟩) (.int x) x3 bD Q:=by
 refine aP (S7 _) (eh kl λm hm=>?_);obtain⟨kvs,ep,hd,hv⟩:=h.d;refine ut ((ai hk).trans hd) (λw hw=>?_) λhw=>⟨h1,h2,λep'=>?_⟩
 ·rw[hv]at hw;obtain⟨n,e1,rfl⟩:=SR.mp hw;have h':DL kd kl nd pn pl (aK H ⟨kl,m⟩ (.list [])):=h.frm λb o e O=>by rw[aO];exact e;intro z;replace e:=hm▸z▸e;cases e
  exact q n pn _ h' e1 (λb o e w1=>(aO λz=>by replace e:=hm▸z▸e;cases e).trans e) λy m=>⟨.inl,id⟩
 ·have e1:pn x=Sg:=by
   rw[hv]at hw;cases z:pn x with
   |none=>rfl
   |some n=>replace hw:=z▸hw;cases hw
  have h':=h.new hk Fi (vs:=[]) (ep':=ep') e1 hm hd;have e3:(λy=>if y=x then[]else pl y)=pl:=by
   funext y;by_cases w:y=x;·rw[Sv w,w,h.no x e1]
   ·exact Sq w
  rw[e3]at h';exact q m _ _ h' (Sv rfl) (λb o e w1=>(jr w1).trans ((aO λz=>by replace e:=hm▸z▸e;cases e).trans e)) λy n=>⟨λe=>by
   by_cases w:y=x;·replace e:=(Sv w)▸e;obtain rfl:=R7 e;exact .inr hm
   ·rw[Sq w]at e;exact .inl e,λe=>by rw[Sq λw=>by replace e:=e1▸w▸e;cases e];exact e⟩
theorem DL.app (h:DL kd kl nd pn pl H)(hk:(kd==kl)=Sf){x:Sj}(e:pn x=R3 n)(hz:(pl x).length<=big)
  (q: ∀H',DL kd kl nd pn (λy=>if y=x then pl y++[num]else pl y) H'->(∀b o,H b=R3 o->b≠⟨kl,n⟩->H' b=R3 o)->Q .none ⟨l,H'⟩):dc (.ref ⟨kl,n⟩) (.int (num:Sj)) ⟨l,H⟩ Q:=by
 have u0:(λy=>if y=x then pl x++[num]else pl y)=λy=>if y=x then pl y++[num]else pl y:=by
  funext y;by_cases w:y=x;·rw[Sv w,Sv w,w]
  ·rw[Sq w,Sq w]
 refine eK (h.ls x n e) (by unfold kq;rwa [Sa]) ?_;have:=h.put hk e (pl x++[num]);rw[u0]at this;rw[show kq (pl x++[num])=kq (pl x)++[V.int (num:Sj)] from SN]at this;exact q _ this λb o e w=>(aO w).trans e
end
end
theorem fm {f:α->V}{c:R4 α}{x:V}{body:WM Fl}{S:Src}{Q:Fl->St->Prop}(I:R4 α->St->Prop)(e:S.items=c.map f)(hf:S.fits)(hS: ∀pre J,I pre J->cM J x=R3 S)(h0:I [] J)
  (step: ∀pre y gD J,c=pre++y::gD->I pre J->∀K:St->Prop,(∀bD,I (pre++[y]) bD->K bD)->lA (f y) J λO ak=>body ak (AW Q K)) (fin: ∀J,I c J->Q .next J):dQ lA body x J Q:=by
 refine sX (S:=S) (λi J=>I (c.take i) J) hf (λi J h=>hS _ J h) h0 (λi v J hv h K hK=>?_) λJ h=>fin J ?_
 ·rw[e,Sx]at hv;obtain⟨y,hy,rfl⟩:=SR.mp hv;have hi:=(R6.mp hy).1;refine step (c.take i) y (c.drop (i+1)) J ?_ h K λbD h'=>hK bD ?_;·rw[<-(R6.mp hy).2,<-Uh hi,VP]
  ·rw[Wj,hy];exact h'
 ·rwa [e,Sa,VS]at h
theorem uv {c pre gD:R4 α}{y:α}(hn:c.Nodup)(e:c=pre++y::gD):y∉pre:=λz=>by
 rw[e,Tf]at hn;exact hn.2.2 y z y Se rfl
theorem mem_mid {c pre gD:R4 α}{y:α}(e:c=pre++y::gD):y∈c:=by rw[e];exact SA _ Se
end
noncomputable def lT (T c:R4 Sj):Sj:=(c.countP λx=>decide (x∈T):SH)
noncomputable def kS (T c:R4 Sj):Sj:=(c.countP λx=>!decide (-x∈T):SH)
theorem Cl.nd (h:Cl N c):c.Nodup:=h.up.imp λ{a b} q z=>by subst z;exact Uq _ q
theorem Cl.inj (h:Cl N c): ∀x∈c,-x∉c:=by
 have key: ∀c:R4 Sj,(c.Pairwise λx y=>x.natAbs<y.natAbs)->(∀x∈c,1<=x.natAbs)->∀x∈c,∀y∈c,x.natAbs=y.natAbs->x=y:=by
  intro c;induction c with
  |nil=>intro _ _ x hx;cases hx
  |cons a r ih=>
   intro h hv x hx y hy e;obtain⟨h1,h2⟩:=V8.mp h;rcases SZ.mp hx with rfl |Oj<;>rcases SZ.mp hy with rfl |RF;·rfl
   ·have:=h1 y RF;exact yF [_,_] [] 0xf10a501032 rfl e this
   ·have:=h1 x Oj;exact yF [_,_] [] 0xf01a501052 rfl e this
   ·exact ih h2 (λx hx=>hv x (SQ _ hx)) x Oj y RF e
 intro x hx z;have h1:=(h.var x hx).1;have:=key c h.up (λx hx=>(h.var x hx).1) x hx (-x) z (by exact(XK 0 _).elim (λbE=>SK (yN [_,_] [_] 0xf0151301f1f511054 rfl (sb _) (jX (yZ [] [_] 0xf001c51001c55 rfl bE))) (yN [_,_] [_] 0xf01f1f15130511054 rfl Ts (my (yZ [] [_] 0xf001c5101c01f55 rfl bE)))) (λbE=>SK (yN [_,_] [_] 0xf01f151301f511054 rfl Ts (my (yZ [] [_] 0xf01c05101c055 rfl bE))) (yN [_,_] [_] 0xf01f151301f511054 rfl (sb _) (jX (yZ [] [_] 0xf01c05101f01c55 rfl bE)))));exact yF [_] [_] 0xf01f1510151011c60 rfl h1 (jX (yZ [] [_] 0xf01f033001c65 rfl this)) (my (yZ [] [_] 0xf01f05301c065 rfl this))
theorem sY {p q:Sj->Tn}{l:Sj}(hn:c.Nodup)(hp:p l=Sf)(hq: ∀x,q x=(p x || decide (x=l))):c.countP q=c.countP p+(if l∈c then 1 else 0):=by
 induction c with
 |nil=>rfl
 |cons a r ih=>
  obtain⟨h1,h2⟩:=S6.mp hn;have ih:=ih h2;rw[ZS,ZS,ih,hq];by_cases w:a=l
  ·subst w;rw[hp,Sq h1,Sv Se];simp
  ·have:(l∈a::r)=(l∈r):=by rw[SZ];simp[TH w]
   simp only[this,Ti w,YG];exact SK (yN [_,_,_] [] 0xf120bb210bb54 rfl) (yN [_,_,_] [] 0xf120bb210bb54 rfl)
theorem qB {T:R4 Sj}{l:Sj}(hn:c.Nodup)(hl:l∉T):lT (T++[l]) c=lT T c+(if l∈c then 1 else 0):=by
 unfold lT;rw[sY (p:=λx=>decide (x∈T)) (l:=l) hn (by simpa using hl) (λx=>by simp[Sl])];split<;>simp
theorem lU {T:R4 Sj}{l:Sj}(hn:c.Nodup)(hl:l∉T):kS (T++[l]) c=kS T c - (if -l∈c then 1 else 0):=by
 unfold kS;have:=sY (c:=c) (p:=λx=>!decide (-x∈T++[l])) (q:=λx=>!decide (-x∈T)) (l:=-l) hn (by simp) (λx=>by
  simp only[Sl,R8];by_cases w:x= -l
  ·have: -x=l:=Td (yZ [] [_,_] 0xf21f033201f55 rfl w) (yZ [] [_,_] 0xf01f25321f055 rfl w);subst w;simp[hl]
  ·have: ¬-x=l:=λhh=>yF [] [_,_] 0xf21f0a51201f53 rfl hh (JO (yZ [] [_,_] 0xf201f3321f055 rfl hh) w);simp[w,this])
 rw[this];split<;>simp
noncomputable def bump (d:Sj)(ks:R4 SH)(h:R4 Sj):R4 Sj:=ks.foldl (λh k=>h.set k ((h[k]?).getD 0+d)) h
theorem ej {d:Sj}{ks:R4 SH}: ∀{h:R4 Sj},(bump d ks h).length=h.length:=by
 induction ks with
 |nil=>intro h;rfl
 |cons k r ih=>intro h;exact ih.trans VB
theorem qC {d:Sj}{ks:R4 SH}: ∀{h:R4 Sj},ks.Nodup->(bump d ks h)[i]? =(h[i]?).map λv=>v+(if i∈ks then d else 0):=by
 induction ks with
 |nil=>intro h _;exact((SU (λf=>Y0 f (h[i]?)) (funext Vv)).trans Option.map_id').symm
 |cons k r ih=>
  intro h hn;obtain⟨h1,h2⟩:=S6.mp hn;show(bump d r (h.set k ((h[k]?).getD 0+d)))[i]? =_;rw[ih h2];by_cases w:i=k
  ·subst w;by_cases q:i<h.length
   ·rw[Tv q,SG q];simp[h1]
   ·rw[Vd (by rw[VB];exact yN [_,_] [] 0xf01a541054 rfl q),Vd (by exact yN [_,_] [] 0xf01a541054 rfl q)];rfl
  ·rw[Uc (TH w)];simp[w]
theorem jS {d:Sj}{ks:R4 SH}{h:R4 Sj}:bump d (ks++[k]) h=(bump d ks h).set k (((bump d ks h)[k]?).getD 0+d):=by
 unfold bump;rw[List.foldl_append];rfl
section
theorem ag :(bH c).length=c.length:=Sa _
theorem dA :bH (c++[x])=bH c++[.int x]:=SN
theorem uw :bH (c.set i x)=(bH c).set i (.int x):=List.map_set ..
theorem cb {c:R4 SH}:(kq c).length=c.length:=Sa _
theorem bo.ad5 (h:bo T u H)(hz:u.cs.length<=big)(q: ∀H',bo T (u.sCs (u.cs++[c])) H'->bM 40 60 H H'->Q .none ⟨l,H'⟩):dc (.ref ⟨42,u.n 42⟩) (tup c) ⟨l,H⟩ Q:=
 eK h.cls (by rwa [Sa]) (by have:=h.Mj (u.cs++[c]);rw[SN]at this;exact q _ this (.set rfl))
theorem bo.ad6 (h:bo T u H)(hz:u.hd.length<=big)(q: ∀H',bo T (u.Jy (u.hd++[x])) H'->bM 40 60 H H'->Q .none ⟨l,H'⟩):dc (.ref ⟨45,u.n 45⟩) (.int x) ⟨l,H⟩ Q:=
 eK h.hd (by rwa [ag]) (by have:=h.Hl (u.hd++[x]);rw[dA]at this;exact q _ this (.set rfl))
theorem bo.ad7 (h:bo T u H)(hz:u.op.length<=big)(q: ∀H',bo T (u.Jz (u.op++[x])) H'->bM 40 60 H H'->Q .none ⟨l,H'⟩):dc (.ref ⟨46,u.n 46⟩) (.int x) ⟨l,H⟩ Q:=
 eK h.op (by rwa [ag]) (by have:=h.Hm (u.op++[x]);rw[dA]at this;exact q _ this (.set rfl))
theorem bo.ad8 (h:bo T u H){x:Sj×Sj}(hz:u.bg.length<=big)(q: ∀H',bo T (u.sBg (u.bg++[x])) H'->bM 40 60 H H'->Q .none ⟨l,H'⟩):dc (.ref ⟨47,u.n 47⟩) (.bF Sn [.int x.1,.int x.2]) ⟨l,H⟩ Q:=
 eK h.bg (by rwa [Sa]) (by have:=h.RD (u.bg++[x]);rw[SN]at this;exact q _ this (.set rfl))
theorem bo.ad9 (h:bo T u H)(hz:u.tr.length<=big)(q: ∀H',bo T (u.sTr (u.tr++[x])) H'->bM 40 60 H H'->Q .none ⟨l,H'⟩):dc (.ref ⟨49,u.n 49⟩) (.int x) ⟨l,H⟩ Q:=
 eK h.tr (by rwa [ag]) (by have:=h.Ho (u.tr++[x]);rw[dA]at this;exact q _ this (.set rfl))
theorem bo.aea (h:bo T u H)(e:u.tr=r++[x])(hz:r.length<big)(q: ∀H',bo T (u.sTr r) H'->bM 40 60 H H'->Q (.int x) ⟨l,H'⟩):C0 (.ref ⟨49,u.n 49⟩) ⟨l,H⟩ Q:=
 OJ (by rw[<-dA,<-e];exact h.tr) (by rwa [ag]) (q _ (h.Ho r) (.set rfl))
section
variable{Q:Unit->St->Prop}
theorem bo.acp (h:bo T u H)(hz:u.hd.length<=big)(hi:i<u.hd.length)(q: ∀H',bo T (u.Jy (u.hd.set i x)) H'->bM 40 60 H H'->Q () ⟨l,H'⟩):dg (.ref ⟨45,u.n 45⟩) (.int (i:Sj)) (.int x) ⟨l,H⟩ Q:=
 Hg h.hd (by rwa [ag]) (by rwa [ag]) (by have:=h.Hl (u.hd.set i x);rw[uw]at this;exact q _ this (.set rfl))
theorem bo.acq (h:bo T u H)(hz:u.op.length<=big)(hi:i<u.op.length)(q: ∀H',bo T (u.Jz (u.op.set i x)) H'->bM 40 60 H H'->Q () ⟨l,H'⟩):dg (.ref ⟨46,u.n 46⟩) (.int (i:Sj)) (.int x) ⟨l,H⟩ Q:=
 Hg h.op (by rwa [ag]) (by rwa [ag]) (by have:=h.Hm (u.op.set i x);rw[uw]at this;exact q _ this (.set rfl))
theorem bo.acr (h:bo T u H)(q: ∀H',bo T (u.sD x u.cl) H'->bM 40 60 H H'->Q () ⟨l,H'⟩):ce T.U 5 (.ref ⟨40,u.n 40⟩) (.int x) ⟨l,H⟩ Q:=
 hY h.self h.dict (q _ (h.wx x u.cl) (.set rfl))
theorem bo.Hs (h:bo T u H){x:V}(q: ∀H',bo T (u.sD u.emp x) H'->bM 40 60 H H'->Q () ⟨l,H'⟩):ce T.U 8 (.ref ⟨40,u.n 40⟩) x ⟨l,H⟩ Q:=
 hY h.self h.dict (q _ (h.wx u.emp x) (.set rfl))
theorem bo.aeb (h:bo T u H){v:V}(h1: -1000<=x)(h2:x<=1000)(q: ∀H',bo T (u.sTk λy=>if y=x then Sn else u.tk y) H'->bM 40 60 H H'->Q () ⟨l,H'⟩):dg (.ref ⟨48,u.n 48⟩) (.int x) v ⟨l,H⟩ Q:=by
 obtain⟨kvs,ep,hd,hv⟩:=h.tk;refine gU hd h1 h2 λep'=>q _ (h.Hn λy=>?_) (.set rfl);rw[gb];by_cases w:y=x;·rw[Sv w,Sv w];rfl
 ·rw[Sq w,Sq w];exact hv y
theorem bo.aec (h:bo T u H)(h1:u.tk x=Sn)(q: ∀H',bo T (u.sTk λy=>if y=x then Sf else u.tk y) H'->bM 40 60 H H'->Q () ⟨l,H'⟩):Lv (.ref ⟨48,u.n 48⟩) (.int x) ⟨l,H⟩ Q:=by
 obtain⟨kvs,ep,hd,hv⟩:=h.tk;refine acl hd (by rw[hv];exact h1) λep'=>q _ (h.Hn λy=>?_) (.set rfl);rw[mV];by_cases w:y=x;·rw[Sv w,Sv w];rfl
 ·rw[Sq w,Sq w];exact hv y
end
theorem bo.afa (h:bo T u H){K:Tn->Prop}(q:K (u.tk x)):inV ⟨l,H⟩ (.int x) (.ref ⟨48,u.n 48⟩) K:=by
 obtain⟨kvs,ep,hd,hv⟩:=h.tk;refine RC hd ?_;rw[hv];exact q
theorem bo.aed (h:bo T u H)(q: ∀v,(u.pn x=Sg->v=z)->(∀n,u.pn x=R3 n->v=.ref ⟨44,n⟩)->Q v ⟨l,H⟩):iG (.ref ⟨43,u.n 43⟩) (.int x) z ⟨l,H⟩ Q:=by
 obtain⟨kvs,ep,hd,hv⟩:=h.dl.d;refine Bs hd ?_;rw[hv];refine q _ (λe=>by rw[e];rfl) (λn e=>by rw[e];rfl)
theorem eX {v:V}(h:vs[i]? =R3 v):gE vs (i:Sj)=R3 v:=by
 unfold gE;rw[Sv (U8 i)];exact h
end
section
theorem kT {ks:R4 SH}(hn:ks.Nodup)(h: ∀k∈ks,k<n):ks.length<=n:=by
 have:=iB n 0 (ks.map Wb) (hn.map Wb λa b h z=>h (Zj z)) λx hx=>by obtain⟨k,hk,rfl⟩:=SL.mp hx;have:=h k hk;exact⟨yZ [_] [] 252714069 rfl,yZ [_,_] [] 0xf10a50301cb1a55 rfl this⟩
 rwa [Sa]at this
structure ia (N:SH)(D:R4 (R4 Sj))(u:Us):Prop where
 cs:u.cs=D
 cl: ∀c∈D,Cl N c
 sz:D.length<=5000
 mem: ∀l i,i∈u.pl l↔∃c,D[i]? =R3 c/\l∈c
 nd: ∀l,(u.pl l).Nodup
 hd:u.hd=D.map (lT u.tr)
 op:u.op=D.map (kS u.tr)
 bg1: ∀x,[x]∈D->∃p∈u.bg,p.1=x
 bg2: ∀p∈u.bg,[p.1]∈D
 bgz:u.bg.length<=D.length
 emp:0<=u.emp↔[]∈D
 tk: ∀l,u.tk l=decide (l∈u.tr)
theorem ia.pz {D:R4 (R4 Sj)}(h:ia N D u)(l:Sj):(u.pl l).length<=D.length:=kT (h.nd l) λk hk=>by
 obtain⟨c,hc,_⟩:=(h.mem l k).mp hk;exact(R6.mp hc).1
variable{D:R4 (R4 Sj)}
theorem Ml :lT [] c=0:=by unfold lT;rw[W8.mpr (by simp)];rfl
theorem Bt :kS [] c=c.length:=by unfold kS;rw[List.countP_eq_length.mpr (by simp)]
theorem Ht (hk:ia N D u)(h0:u.tr=[])(hc:Cl N c)(hz:D.length<5000){u':Us}(h1:u'.cs=u.cs++[c])(h2:u'.pl=λy=>if y∈c then u.pl y++[D.length]else u.pl y)(h3:u'.hd=u.hd++[0])
  (h4:u'.op=u.op++[(c.length:Sj)]) (h5:u'.tr=u.tr) (h6:u'.tk=u.tk) (h7:(c=[]/\u'.bg=u.bg/\u'.emp=D.length)\/(∃x,C3 (c=[x]) (u'.bg=u.bg++[(x,(D.length:Sj))]) (u'.emp=u.emp))\/(2<=c.length/\u'.bg=u.bg/\u'.emp=u.emp)):ia N (D++[c]) u' where
 cs:=by rw[h1,hk.cs]
 cl:=λa ha=>by
  rcases Sl.mp ha with ha |ha;·exact hk.cl a ha
  ·exact(R8.mp ha)▸(hc)
 sz:=by rw[Sr];exact hz
 mem:=λy i=>by
  have old: ∀{i:SH},i∈u.pl y->i<D.length:=λ{i} h=>by obtain⟨a,e,_⟩:=(hk.mem y i).mp h;exact(R6.mp e).1
  rw[h2];dsimp only;constructor
  ·intro h;have cut:i∈u.pl y\/(i=D.length/\y∈c):=by
    split at h
    ·rename_i w;rcases Sl.mp h with h |h;·exact .inl h
     ·exact .inr ⟨R8.mp h,w⟩
    ·exact .inl h
   rcases cut with h |⟨rfl,w⟩
   ·obtain⟨a,e,w⟩:=(hk.mem y i).mp h;exact⟨a,by rw[SW (old h)];exact e,w⟩
   ·exact⟨c,by rw[Ud (S8 _),XB];rfl,w⟩
  ·rintro⟨a,e,w⟩;by_cases q:i<D.length
   ·replace e:=(SW q)▸e;have:=(hk.mem y i).mpr ⟨a,e,w⟩;split;·exact Su _ this
    ·exact this
   ·rw[Ud (by exact yN [_,_] [] 0xf01a541054 rfl q),Wy]at e;split at e
    ·obtain rfl:=R7 e;rw[Sv w];exact SA _ (R8.mpr (by lia))
    ·exact c6 e
 nd:=λy=>by
  rw[h2];dsimp only;split
  ·refine Tf.mpr ⟨hk.nd y,S6.mpr ⟨Sy,Tm⟩,λi hi j hj e=>?_⟩;obtain⟨a,e1,_⟩:=(hk.mem y i).mp hi;have:=(R6.mp e1).1;rw[R8.mp hj]at e;exact yF [_,_] [] 0xf10a501032 rfl e this
  ·exact hk.nd y
 hd:=by rw[h3,h5,hk.hd,SN,h0];simp[Ml]
 op:=by rw[h4,h5,hk.op,SN,h0];simp[Bt]
 bg1:=λx hx=>by
  rcases Sl.mp hx with hx |hx
  ·obtain⟨p,hp,e⟩:=hk.bg1 x hx;refine⟨p,?_,e⟩;rcases h7 with ⟨_,h,_⟩ |⟨_,_,h,_⟩ |⟨_,h,_⟩<;>rw[h];·exact hp
   ·exact Su _ hp
   ·exact hp
  ·have hx:=R8.mp hx;subst hx;rcases h7 with ⟨h,_⟩ |⟨y,h,h',_⟩ |⟨h,_⟩;·cases h
   ·cases h;exact⟨_,by rw[h'];exact SA _ (R8.mpr rfl),rfl⟩
   ·exact Sw (show 2<=1 from h) (by decide)
 bg2:=λp hp=>by
  rcases h7 with ⟨_,h,_⟩ |⟨y,h',h,_⟩ |⟨_,h,_⟩<;>rw[h]at hp;·exact Su _ (hk.bg2 p hp)
  ·rcases Sl.mp hp with hp |hp;·exact Su _ (hk.bg2 p hp)
   ·exact(R8.mp hp)▸h'▸(SA _ (R8.mpr rfl))
  ·exact Su _ (hk.bg2 p hp)
 bgz:=by
  have:=hk.bgz;refine Sr▸?_;rcases h7 with ⟨_,h,_⟩ |⟨y,h',h,_⟩ |⟨_,h,_⟩<;>rw[h];·exact YV this
  ·rw[Sr];exact Vr this 1
  ·exact YV this
 emp:=by
  have e:=hk.emp;rw[Sl,R8];rcases h7 with ⟨h,_,h'⟩ |⟨y,h,_,h'⟩ |⟨h,_,h'⟩<;>refine h'▸?_;·exact⟨λO=>.inr h.symm,λO=>U8 _⟩
  ·rw[e,h];exact⟨.inl,λz=>z.resolve_right λz=>adr z⟩
  ·rw[e];exact⟨.inl,λz=>z.resolve_right λz=>by rw[<-z]at h;exact Sw h (by decide)⟩
 tk:=λy=>by exact h6▸h5▸(hk.tk y)
theorem Cl.bd (h:Cl N c)(hN:N<=100): ∀x∈c,-1000<=x/\x<=1000:=λx hx=>by have:=h.var x hx;exact⟨yZ [_,_] [_] 0xf301f510150642c05003e83d55 rfl hN this.2 (sb _),yZ [_,_] [_] 0xf30510150642c0503e83c055 rfl hN this.2 Ts⟩
theorem Cl.len (h:Cl N c):c.length<=N+1:=by
 have:=kT (ks:=c.map Tl) (n:=N+1) ?_ ?_;·rwa [Sa]at this
 ·exact Uv.mpr (h.up.imp λ{a b} q z=>Sw z (Ur q))
 ·intro k hk;obtain⟨x,hx,rfl⟩:=SL.mp hk;exact VM (h.var x hx).2
noncomputable abbrev mw (u:Us):Si V:=R3 (.ref ⟨40,u.n 40⟩)
theorem Hu {Q:Fl->St->Prop}(h:bo T u H)(hb: ∀x∈c,-1000<=x/\x<=1000)(hn:c.Nodup)(Hv:c.length<=big)(hz: ∀l,(u.pl l).length<=big)
  (q: ∀w Dq H',bo T (u.sPl Dq λy=>if y∈c then u.pl y++[num]else u.pl y) H'->bM 40 60 H H'->Q .next ⟨lo [mw u,R3 (tup c),R3 (.int (num:Sj)),w],H'⟩):
  OI T ⟨lo [mw u,R3 (tup c),R3 (.int (num:Sj)),Sg],H⟩ Q:=by
 refine fm (S:=.seq Sn (bH c)) (f:=V.int) (c:=c) (x:=tup c) (λpre J=>X3 λw Dq H'=>C3 (J=⟨lo [mw u,R3 (tup c),R3 (.int (num:Sj)),w],H'⟩) (bo T (u.sPl Dq λy=>if y∈pre then u.pl y++[num]else u.pl y) H') (bM 40 60 H H'))
  rfl (by rw[<-ag]at Hv;exact Hv) (λi J xW=>by obtain⟨w,Dq,H',e,_,_⟩:=xW;rw[e];rfl) ⟨Sg,u.pn,H,rfl,by simp only[Sy,Xn];exact h,.refl⟩ ?_ ?_
 ·rintro pre x gD J he ⟨w,Dq,H1,rfl,h1,f1⟩ K hK;have hnt:=uv hn he;refine bj rfl rfl (aG rfl h1.self h1.dict rfl trivial ?_);obtain⟨kvs,ep,hd,_⟩:=h1.dl.d;have JA:=hb x (mem_mid he);refine lS hd (h1.dl.sd rfl rfl JA.1 JA.2 λn pn2 H2 d2 e2 f2 O=>fh (d2.ls x n e2) (d2.app rfl e2 (by show(if x∈pre then _ else _:R4 SH).length<=big;rw[Sq hnt];exact hz x) λH3 d3 f3=>?_));refine hK _ ⟨_,pn2,H3,rfl,?_,f1.trans λb o e k=>f3 b o (f2 b o e (by exact λhh=>k.elim (λzp=>yF [_] [] 0xf282c0a502b2c032 rfl hh zp) (λzp=>yF [_] [] 0xf03c2c502b2c052 rfl hh zp))) λz=>Sw (show b.k=44 from SU Ad.k z) (by exact λhh=>k.elim (λzp=>yF [_] [] 0xf282c0a502c2c032 rfl hh zp) (λzp=>yF [_] [] 0xf03c2c502c2c052 rfl hh zp))⟩;have:=h1.RE d3 λb o e w1 w2=>f3 b o (f2 b o e w1) λz=>w2 (SU Ad.k z);have e:(λy=>if y=x then(if y∈pre then u.pl y++[num]else u.pl y)++[num]else if y∈pre then u.pl y++[num]else u.pl y)=λy=>if y∈pre++[x]then u.pl y++[num]else u.pl y:=by
   funext y;by_cases w:y=x
   ·subst w;rw[Sv rfl,Sq hnt,Sv (SA _ (R8.mpr rfl))]
   ·rw[Sq w];by_cases w2:y∈pre;·rw[Sv w2,Sv (Su _ w2)]
    ·rw[Sq w2,Sq λz=>by rcases Sl.mp z with z |z;exact w2 z;exact w (R8.mp z)]
  rw[<-e];exact this
 ·rintro J ⟨w,Dq,H',rfl,h1,f1⟩;exact q w Dq H' h1 f1
theorem Hw {a:Ad}(h:bo T u H)(ha:a=⟨40,u.n 40⟩)(hk:ia N D u)(h0:u.tr=[])(hc:Cl N c)(hN:N<=100)(hz:D.length<5000)
  (q: ∀u' H',bo T u' H'->ia N (D++[c]) u'->u'.tr=[]->u'.n=u.n->bM 40 60 H H'->Q .none ⟨l,H'⟩):qm T [.ref a,tup c] ⟨l,H⟩ Q:=by
 subst ha;have tO:=hc.len;have Hv:(bH c).length<=big:=by rw[ag];unfold big;exact yN [_,_] [] 0xf1a050642c150f42405c054 rfl hN tO
 have aee:c.length<=big:=by exact ag▸(Hv)
 have zD:D.length<=big:=by unfold big;exact yN [_] [] 0xf13884c0a50f42405c054 rfl hz
 have fin: ∀u':Us,u'.cs=u.cs++[c]->u'.pl=(λy=>if y∈c then u.pl y++[u.cs.length]else u.pl y)->u'.hd=u.hd++[0]->u'.op=u.op++[((bH c).length:Sj)]->u'.tr=u.tr->u'.tk=u.tk->
   ((c=[]/\u'.bg=u.bg/\u'.emp=u.cs.length)\/(∃x,C3 (c=[x]) (u'.bg=u.bg++[(x,(u.cs.length:Sj))]) (u'.emp=u.emp))\/(2<=c.length/\u'.bg=u.bg/\u'.emp=u.emp))->ia N (D++[c]) u':=λu' e1 e2 e3 e4 e5 e6 e7=>by
  rw[hk.cs]at e2 e7;replace e4:=ag▸e4;exact Ht hk h0 hc hz e1 e2 e3 e4 e5 e6 e7
 unfold qm;refine bJ 2 rfl (aG rfl h.self h.dict rfl trivial (ci (bq h.cls) (by rw[Sa,hk.cs];exact zD) ?_));rw[Sa];refine bj rfl rfl (Hu h (hc.bd hN) hc.nd aee (λy=>SJ (hk.pz y) zD) λw Dq H1 h1 f1=>?_);refine aG rfl h1.self h1.dict rfl trivial (fh h1.cls (h1.ad5 (by show u.cs.length<=big;rw[hk.cs];exact zD) λH2 h2 f2=>?_));refine aG rfl h2.self h2.dict rfl trivial (fh h2.hd (h2.ad6 (by show u.hd.length<=big;rw[hk.hd,Sa];exact zD) λH3 h3 f3=>?_));refine aG rfl h3.self h3.dict rfl trivial (fh h3.op (ci ay Hv (h3.ad7 (by show u.op.length<=big;rw[hk.op,Sa];exact zD) λH4 h4 f4=>?_)));have ff:=((f1.trans f2).trans f3).trans f4;clear f1 f2 f3 f4 h1 h2 h3;refine ci ay Hv (i7 ⟨λe=>?_,λe=>?_⟩)
 ·rw[ag]at e;have e:c=[]:=U2.mp (T1.mp (eq_of_beq e));exact h4.acr λH5 h5 f5=>q _ H5 h5 (fin _ rfl rfl rfl rfl rfl rfl (.inl ⟨e,rfl,rfl⟩)) h0 rfl (ff.trans f5)
 ·have e0:c.length≠0:=λz=>by replace e:=z▸ag▸e;cases e
  refine ci ay Hv (i7 ⟨λe=>?_,λe=>?_⟩)
  ·replace e:=ag▸e;obtain⟨x,rfl⟩:=VI.mp (T1.mp (eq_of_beq e));exact aG rfl h4.self h4.dict rfl trivial (fh h4.bg (bS (n:=0) (v:=.int x) ay Hv rfl (aP (show 2<=1000000 by decide) (h4.ad8 (x:=(x,(u.cs.length:Sj))) (SJ hk.bgz zD) λH5 h5 f5=>
    q _ H5 h5 (fin _ rfl rfl rfl rfl rfl rfl (.inr (.inl ⟨x,rfl,rfl,rfl⟩))) h0 rfl (ff.trans f5)))))
  ·have e1:c.length≠1:=λz=>by replace e:=z▸ag▸e;cases e
   exact q _ H4 h4 (fin _ rfl rfl rfl rfl rfl rfl (.inr (.inr ⟨yN [_] [] 0xf011ca50021c54 rfl (uY (xN [_] [] n1 v0 1 (.c 0 1 (vS n0) v0 .e) rfl (uY (xN [_] [] n0 v0 1 .e rfl) (TH e0))) (TH e1)),rfl,rfl⟩))) h0 rfl ff
end
section
variable{D:R4 (R4 Sj)}{A:R4 Sj}{u':Us}{q:R4 (Sj×Sj)}
theorem lV {f g:R4 Sj->Sj}{d:Sj}{ks:R4 SH}(hn:ks.Nodup)(h: ∀i c,D[i]? =R3 c->g c=f c+(if i∈ks then d else 0)):bump d ks (D.map f)=D.map g:=by
 refine ZA λi=>?_;rw[qC hn,Sx,Sx];cases e:D[i]? with
 |none=>rfl
 |some c=>exact SU R3 (h i c e).symm
theorem ia.wy (h:ia N D u)(e:D[i]? =R3 c):i∈u.pl x↔x∈c:=by
 rw[h.mem];exact⟨λzq=>by obtain⟨c',e',m⟩:=zq;replace e':=e▸e';obtain rfl:=R7 e';exact m,λm=>⟨c,e,m⟩⟩
theorem o4 {p q:Prop}[Decidable p][Decidable q]{a b:Sj}(h:p↔q):(if p then a else b)=if q then a else b:=by
 by_cases w:p;·rw[Sv w,Sv (h.mp w)]
 ·rw[Sq w,Sq λz=>w (h.mpr z)]
theorem ia.sZ (h:ia N D u)(hx:x∉u.tr):bump 1 (u.pl x) u.hd=D.map (lT (u.tr++[x])):=by
 rw[h.hd];refine lV (h.nd x) λi c e=>?_;rw[qB (h.cl c (R9 e)).nd hx,o4 (h.wy e)]
theorem ia.op1 (h:ia N D u)(hx:x∉u.tr):bump (-1) (u.pl (-x)) u.op=D.map (kS (u.tr++[x])):=by
 rw[h.op];refine lV (h.nd (-x)) λi c e=>?_;rw[lU (h.cl c (R9 e)).nd hx,o4 (h.wy e)];split;·exact Td (yZ [] [_] 0xf11d0b11c00f55 rfl) (yZ [] [_] 0xf11c00f11d0b55 rfl)
 ·exact Td (yZ [] [_] 0xf01c0b01c00f55 rfl) (yZ [] [_] 0xf01c00f01c0b55 rfl)
theorem ia.JB (h:ia N D u)(e:u.tr=r++[x])(hx:x∉r):bump (-1) (u.pl x) u.hd=D.map (lT r):=by
 refine h.hd▸e▸?_;refine lV (h.nd x) λi c e=>?_;rw[qB (h.cl c (R9 e)).nd hx,o4 (h.wy e)];split;·exact Td (yZ [] [_] 0xf11d0ab055 rfl) (yZ [] [_] 0xf011d0ab55 rfl)
 ·exact Td (yZ [] [_] 0xf01c01c0bb055 rfl) (yZ [] [_] 0xf001c01c0bb55 rfl)
theorem ia.op0 (h:ia N D u)(e:u.tr=r++[x])(hx:x∉r):bump 1 (u.pl (-x)) u.op=D.map (kS r):=by
 refine h.op▸e▸?_;refine lV (h.nd (-x)) λi c e=>?_;rw[lU (h.cl c (R9 e)).nd hx,o4 (h.wy e)];split;·exact Td (yZ [] [_] 0xf11c00fa055 rfl) (yZ [] [_] 0xf011c00fa55 rfl)
 ·exact Td (yZ [] [_] 0xf01c01c00fb055 rfl) (yZ [] [_] 0xf001c01c00fb55 rfl)
theorem ia.turn (h:ia N D u)(e1:u'.cs=u.cs)(e2:u'.pl=u.pl)(e3:u'.bg=u.bg)(e4:u'.emp=u.emp)(e5:u'.hd=D.map (lT u'.tr))(e6:u'.op=D.map (kS u'.tr))(e7: ∀l,u'.tk l=decide (l∈u'.tr)):ia N D u':=
 ⟨e1.trans h.cs,h.cl,h.sz,by rw[e2];exact h.mem,by rw[e2];exact h.nd,e5,e6,by rw[e3];exact h.bg1,by rw[e3];exact h.bg2,by rw[e3];exact h.bgz,by rw[e4];exact h.emp,e7⟩
theorem qD {T:R4 Sj}:lT T c=0↔∀x∈c,x∉T:=by
 unfold lT;rw[ZT,W8];exact⟨λh x hx=>by simpa using h x hx,λh x hx=>by simpa using h x hx⟩
theorem Hx {T:R4 Sj}:kS T c=0↔∀x∈c,-x∈T:=by
 unfold kS;rw[ZT,W8];exact⟨λh x hx=>by simpa using h x hx,λh x hx=>by simpa using h x hx⟩
theorem ux {T:R4 Sj}(h:kS T c=1): ∃y,c.filter (λx=>!decide (-x∈T))=[y]:=by
 unfold kS at h;rw[U9]at h;exact VI.mp (T1.mp h)
theorem zr {T:R4 Sj}{y:Sj}(h:c.filter (λx=>!decide (-x∈T))=[y]):y∈c/\-y∉T/\∀x∈c,x≠y->-x∈T:=by
 have hy:y∈c.filter (λx=>!decide (-x∈T)):=by exact h▸(R8.mpr rfl)
 obtain⟨h1,h2⟩:=TQ.mp hy;refine⟨h1,by simpa using h2,λx hx cF=>Tk λz=>cF ?_⟩;have:x∈c.filter (λx=>!decide (-x∈T)):=TQ.mpr ⟨hx,by simpa using z⟩;rw[h]at this;exact R8.mp this
structure ib (N:SH)(D:R4 (R4 Sj))(A:R4 Sj)(u:Us)(q:R4 (Sj×Sj))(bA:SH):Prop where
 ok:ia N D u
 cons: ∀x∈u.tr,-x∉u.tr
 nd:u.tr.Nodup
 qv: ∀p∈q,js D A p.1/\1<=p.1.natAbs/\p.1.natAbs<=N
 tv: ∀x∈u.tr,js D A x/\1<=x.natAbs/\x.natAbs<=N
 done: ∀j p,j<bA->q[j]? =R3 p->p.1∈u.tr
 bU: ∀a∈A,∃p∈q,p.1=a
 unit: ∀c∈D,lT u.tr c=0->kS u.tr c≠0/\(kS u.tr c=1->∃p∈q,p.1∈c/\-p.1∉u.tr)
 sz:q.length<=D.length+A.length+u.tr.length*D.length
theorem ib.len (h:ib N D A u q bA):u.tr.length<=N+1:=by
 have:=kT (ks:=u.tr.map Tl) (n:=N+1) (Uv.mpr (h.nd.imp_of_mem λ{a b} ha hb cF z=>?_)) λk hk=>?_;·rwa [Sa]at this
 ·have:a= -b:=(VC.mp z).resolve_left cF;replace ha:=this▸ha;exact h.cons b hb ha
 ·obtain⟨x,hx,rfl⟩:=SL.mp hk;exact VM (h.tv x hx).2.2
theorem ib.init (h:ia N D u)(h0:u.tr=[])(cF:[]∉D)(hA: ∀a∈A,1<=a.natAbs/\a.natAbs<=N):ib N D A u (u.bg++A.map λa=>(a,-1)) 0 where
 ok:=h
 cons:=λx hx=>by rw[h0]at hx;cases hx
 nd:=by exact h0▸(Tm)
 qv:=λp hp=>by
  rcases Sl.mp hp with hp |hp
  ·have:=h.bg2 p hp;exact⟨.unit this (R8.mpr rfl) λy hy cF=>Sw (R8.mp hy) cF,(h.cl _ this).var _ (R8.mpr rfl)⟩
  ·obtain⟨a,ha,rfl⟩:=SL.mp hp;exact⟨.bU ha,hA a ha⟩
 tv:=λx hx=>by rw[h0]at hx;cases hx
 done:=λj p hj O=>Sw hj (VE _)
 bU:=λa ha=>⟨(a,-1),SA _ (SL.mpr ⟨a,ha,rfl⟩),rfl⟩
 unit:=λc hc O=>by
  refine h0▸Bt▸?_;refine⟨λz=>cF ?_,λz=>?_⟩;·rwa [U2.mp (T1.mp z)]at hc
  ·obtain⟨x,rfl⟩:=VI.mp (T1.mp z);obtain⟨p,hp,rfl⟩:=h.bg1 x hc;exact⟨p,Su _ hp,R8.mpr rfl,Sy⟩
 sz:=by have:=h.bgz;rw[Sr,Sa,h0];exact yN [_,_,_,_] [] 0xf2050312bb10b54 rfl this
set_option tactic.hygienic true in
theorem ib.fin (h:ib N D A u q bA)(cF:[]∉D)(hs:q.length<=bA): ¬b7 D A:=by
 have qt: ∀p∈q,p.1∈u.tr:=λp hp=>by obtain⟨j,hj⟩:=S5.mp hp;exact h.done j p (TN (R6.mp hj).1 hs) hj
 have key: ∀l,js D A l->l∈u.tr:=λl hl=>by
  induction hl with
  |bU ha=>obtain⟨p,hp,e⟩:=h.bU _ ha;rw[<-e];exact qt p hp
  |@unit c l hc hl _ ih=>
   by_cases w:lT u.tr c=0
   ·obtain⟨h1,h2⟩:=h.unit c hc w;have hz:=qD.mp w;have hle:kS u.tr c=1:=by
     have:(c.filter (λx=>!decide (-x∈u.tr))).length<=1:=by
      have hs: ∀x∈c.filter (λx=>!decide (-x∈u.tr)),x=l:=λx hx=>by obtain⟨a,b⟩:=TQ.mp hx;exact Tk λz=>Sw (ih x a z) (by simpa using b)
      have hn:=(h.ok.cl c hc).nd.filter (λx=>!decide (-x∈u.tr));cases e:c.filter (λx=>!decide (-x∈u.tr))with
      |nil=>exact S7 _
      |cons a r=>
       cases r with
       |nil=>exact S8 _
       |cons b r=>rw[e]at hs hn;have:=hs a Se;have:=hs b (SQ _ Se);subst this;exact Sw (by rw[hs a Se];exact Se) (S6.mp hn).1
     unfold kS at h1 ⊢;rw[U9]at h1 ⊢;exact Td (yZ [_] [] 0xf11c05011c155 rfl this) (xZ [_] [] n1 v1 1 (.c 1 1 (vS n0) v1 .e) rfl (JO (xZ [_] [] n0 v1 1 .e rfl) (TH h1)))
    obtain⟨p,hp,hpc,hpn⟩:=h2 hle;have:p.1=l:=Tk λz=>hpn (ih p.1 hpc z);exact this▸(qt p hp)
   ·obtain⟨y,hy,hyt⟩: ∃y∈c,y∈u.tr:=Tk λz=>w (qD.mpr λx hx hxt=>z ⟨x,hx,hxt⟩);by_cases e:y=l;·rwa [<-e]
    ·exact Sw (ih y hy e) (h.cons y hyt)
 rintro(z |⟨l,h1,h2⟩);·exact cF z
 ·exact h.cons l (key l h1) (key _ h2)
theorem ib.RG (h:ib N D A u q bA){p:Sj×Sj}(hp:p∈q)(hn: -p.1∈u.tr):b7 D A:=.inr ⟨p.1,(h.qv p hp).1,(h.tv _ hn).1⟩
theorem ib.skip (h:ib N D A u q bA){p:Sj×Sj}(hp:q[bA]? =R3 p)(ht:p.1∈u.tr):ib N D A u q (bA+1):=
 ⟨h.ok,h.cons,h.nd,h.qv,h.tv,λj p' hj e=>by
   by_cases w:j=bA;·subst w;replace e:=hp▸e;obtain rfl:=R7 e;exact ht
   ·exact h.done j p' (yN [_,_] [] 0xf10a5010a54 rfl (uY (yN [_,_] [] 0xf1a0a501054 rfl hj) w)) e,h.bU,h.unit,h.sz⟩
def kU (T:R4 Sj)(D:R4 (R4 Sj))(ks:R4 SH):R4 (Sj×Sj):=ks.filterMap λ(i:SH)=>match D[i]? with
 |some c=>if lT T c=0/\kS T c=1 then R3 ((c.filter λx=>!decide (-x∈T)).headD 0,(i:Sj))else Sg
 |none=>Sg
set_option tactic.hygienic true in
theorem ib.take (h:ib N D A u q bA){p:Sj×Sj}(hp:q[bA]? =R3 p)(h1:p.1∉u.tr)(h2: -p.1∉u.tr)(hu:ia N D u')(e:u'.tr=u.tr++[p.1])(epl:u'.pl=u.pl)
  (hs: ∀i∈u.pl (-p.1),∀c,D[i]? =R3 c->¬(lT u'.tr c=0/\kS u'.tr c=0)):ib N D A u' (q++kU u'.tr D (u.pl (-p.1))) (bA+1):=by
 have hpm:=R9 hp;have hpq:=h.qv p hpm;have hlen:=(R6.mp hp).1;have ext: ∀z∈kU u'.tr D (u.pl (-p.1)),∃c∈D,lT u'.tr c=0/\z.1∈c/\-z.1∉u'.tr/\∀x∈c,x≠z.1->-x∈u'.tr:=λz hz=>by
  obtain⟨i,hi,hz⟩:=UD.mp hz;split at hz
  ·rename_i c hc;split at hz
   ·rename_i w;obtain rfl:=R7 hz;obtain⟨y,hy⟩:=ux w.2;refine hy▸?_;exact⟨c,R9 hc,w.1,zr hy⟩
   ·exact c6 hz
  ·cases hz
 have tv: ∀x∈u'.tr,js D A x/\1<=x.natAbs/\x.natAbs<=N:=λx hx=>by
  rw[e]at hx;rcases Sl.mp hx with hx |hx;·exact h.tv x hx
  ·exact(R8.mp hx)▸(hpq)
 have ez:(kU u'.tr D (u.pl (-p.1))).length<=D.length:=SJ (YD _ _) (h.ok.pz _);refine⟨hu,λx hx z=>?_,?_,λz hz=>?_,tv,λj p' hj e'=>?_,λa ha=>?_,λc hc w=>?_,?_⟩
 ·rw[e]at hx z;rcases Sl.mp hx with hx |hx<;>rcases Sl.mp z with z |z;·exact h.cons x hx z
  ·have:=R8.mp z;rw[<-this,T5]at h2;exact h2 hx
  ·rw[R8.mp hx]at z;exact h2 z
  ·have a:=R8.mp hx;have b:=R8.mp z;exact yF [_] [_] 0xf01f1510151011c60 rfl hpq.2.1 (jX (yZ [] [_,_] 0xf021f530253001c65 rfl a b)) (my (yZ [] [_,_] 0xf021f33023301c065 rfl a b))
 ·rw[e];exact Tf.mpr ⟨h.nd,S6.mpr ⟨Sy,Tm⟩,λa ha b hb z=>h1 (by rw[<-R8.mp hb,<-z];exact ha)⟩
 ·rcases Sl.mp hz with hz |hz;·exact h.qv z hz
  ·obtain⟨c,hc,w,hzc,_,aef⟩:=ext z hz;exact⟨.unit hc hzc λx hx cF=>(tv _ (aef x hx cF)).1,(h.ok.cl c hc).var _ hzc⟩
 ·rw[e];rw[SW (by exact yN [_,_,_] [] 0xf2a0a5012a5010a54 rfl hlen hj)]at e';by_cases w:j=bA;·subst w;replace e':=hp▸e';obtain rfl:=R7 e';exact SA _ (R8.mpr rfl)
  ·exact Su _ (h.done j p' (yN [_,_] [] 0xf10a5010a54 rfl (uY (yN [_,_] [] 0xf1a0a501054 rfl hj) w)) e')
 ·obtain⟨z,hz,w⟩:=h.bU a ha;exact⟨z,Su _ hz,w⟩
 ·obtain⟨i,hi⟩:=S5.mp hc;have hcn:=(h.ok.cl c hc).nd;by_cases m: -p.1∈c
  ·have hmi:=(h.ok.wy hi).mpr m;refine⟨λz=>hs i hmi c hi ⟨w,z⟩,λz=>?_⟩;obtain⟨y,hy⟩:=ux z;refine⟨(y,(i:Sj)),SA _ (UD.mpr ⟨i,hmi,?_⟩),(zr hy).1,(zr hy).2.1⟩;simp only[hi,w,z,and_self,Zt,hy,Z0]
  ·rw[e]at w ⊢;rw[qB hcn h1]at w;rw[lU hcn h1,Sq m,Int.sub_zero];have w0:lT u.tr c=0:=by
    split at w
    ·have:0<=lT u.tr c:=U8 _;exact yF [] [_] 0xf001c5101c0a53 rfl w this
    ·rwa [Vv]at w
   obtain⟨q1,q2⟩:=h.unit c hc w0;refine⟨q1,λz=>?_⟩;obtain⟨z,hz,hzc,hzn⟩:=q2 z;refine⟨z,Su _ hz,hzc,λk=>?_⟩;rcases Sl.mp k with k |k;·exact hzn k
   ·have:=R8.mp k;rw[<-this,T5]at m;exact m hzc
 ·have:=h.sz;have e2:u'.tr.length*D.length=u.tr.length*D.length+D.length:=by rw[e,Sr,Nat.add_mul];exact SU _ (Nat.one_mul _)
  rw[Sr,e2];exact yN [_,_,_,_,_] [] 0xf432bb050215024b32bb10b54 rfl ez this
theorem ib.RH (h:ib N D A u q bA){p:Sj×Sj}(hp:q[bA]? =R3 p)(hi:D[i]? =R3 c)(z:kS (u.tr++[p.1]) c=0):b7 D A:=by
 refine .of (R9 hi) λx hx=>?_;rcases Sl.mp (Hx.mp z x hx)with k |k;·exact(h.tv _ k).1
 ·rw[R8.mp k];exact(h.qv p (R9 hp)).1
end
section
theorem mW {f g:WM Tn}{a:Tn}(hf:Ev f J a)(hg:a=Sn->Ev g J b):Ev (eH f g) J (a && b):=λQ q=>hf _ ⟨λe=>by
  subst e;exact hg rfl _ q,λe=>by subst e;exact q⟩
theorem iI :Ev (ae Sn) J Sn:=λQ q=>q
variable{D:R4 (R4 Sj)}{A:R4 Sj}
theorem wA {a:Ad}{n:Sj}(h:H a=R3 (.dict ds ep))(q:Q (.bool (!(bC ds n).isSome)) ⟨l,H⟩):lP (.int n) (.ref a) ⟨l,H⟩ Q:=by
 unfold lP EZ;exact RC h q
theorem Bu {a:Ad}{n:Sj}(h:H a=R3 (.dict ds ep))(q:Q (.bool (bC ds n).isSome) ⟨l,H⟩):xU (.int n) (.ref a) ⟨l,H⟩ Q:=by
 unfold xU inW;exact RC h q
theorem bo.RJ (h:bo T u H)(q:Q (.bool (!u.tk x)) ⟨l,H⟩):lP (.int x) (.ref ⟨48,u.n 48⟩) ⟨l,H⟩ Q:=by
 obtain⟨kvs,ep,hd,hv⟩:=h.tk;refine wA hd ?_;rw[hv];exact q
theorem bo.acs (h:bo T u H)(q:Q (.bool (u.tk x)) ⟨l,H⟩):xU (.int x) (.ref ⟨48,u.n 48⟩) ⟨l,H⟩ Q:=by
 obtain⟨kvs,ep,hd,hv⟩:=h.tk;refine Bu hd ?_;rw[hv];exact q
theorem dD (h:c[i]? =R3 x):gE (bH c) (i:Sj)=R3 (.int x):=eX (by unfold bH;rw[Sx,h];rfl)
theorem act {x:V}{Q:R4 V->St->Prop}(p:Sj->Tn)(f:Sj->V)(hS:sr H x (.seq b (bH c)))(hz:c.length<=big)
  (h: ∀x,x∈c->Ev test ⟨aY ⟨l,H⟩ sh (R3 (.int x)),H⟩ (p x)/\(p x=Sn->Ev elt ⟨aY ⟨l,H⟩ sh (R3 (.int x)),H⟩ (f x)))
  (q:Q ((c.filter p).map f) ⟨l,H⟩):oA sh test elt x ⟨l,H⟩ Q:=by
 refine ad4 (S:=.seq b (bH c)) (λv=>match v with |.int x=>if p x then R3 (f x)else Sg |_=>Sg) hS (by show(bH c).length<=big;rwa [ag]) (λu hu=>?_) ?_
 ·obtain⟨x,hx,rfl⟩:=SL.mp hu;obtain⟨h1,h2⟩:=h x hx;refine⟨p x,h1,λe=>⟨f x,Sv e,h2 e⟩,λe=>Sq (by rw[e];decide)⟩
 ·have e:((Src.seq b (bH c)).items.filterMap λv=>match v with |.int x=>if p x then R3 (f x)else Sg |_=>Sg)=(c.filter p).map f:=by
   show(c.map V.int).filterMap _=_;rw[Zi];clear q h hz hS;induction c with
   |nil=>rfl
   |cons x r ih=>
    rw[U1,TJ];by_cases w:p x=Sn
    ·have:((λv=>match v with |V.int x=>if p x then R3 (f x)else Sg |_=>Sg) ∘ V.int) x=R3 (f x):=Sv w;rw[this,Sv w,Tq,ih]
    ·have:((λv=>match v with |V.int x=>if p x then R3 (f x)else Sg |_=>Sg) ∘ V.int) x=Sg:=Sq w;rw[this,Sq w,ih]
  rwa [e]
theorem mX {Q:R4 V->St->Prop}(p:Sj->Tn)(f:Sj->V)(hz:c.length<=big)
  (h: ∀x,x∈c->Ev test ⟨aY ⟨l,H⟩ sh (R3 (.int x)),H⟩ (p x)/\(p x=Sn->Ev elt ⟨aY ⟨l,H⟩ sh (R3 (.int x)),H⟩ (f x)))
  (q:Q ((c.filter p).map f) ⟨l,H⟩):oA sh test elt (.bF b (bH c)) ⟨l,H⟩ Q:=act p f fK hz h q
theorem Mm {a:Ad}(h:bo T u H)(ha:a=⟨40,u.n 40⟩)(hz:u.cs.length<=big)(hc:u.cs[i]? =R3 c)(Hv:c.length<=big)(hx:c.filter (λx=>!u.tk x && (!u.tk (-x) && Sn))=x::r)(q:Q (.int x) ⟨l,H⟩):
  hV T [.ref a,.int (i:Sj)] ⟨l,H⟩ Q:=by
 subst ha;unfold hV;refine bJ 1 rfl (aG rfl h.self h.dict rfl trivial (bj rfl rfl (aG rfl h.self h.dict rfl trivial (bS (v:=tup c) (bq h.cls) (by rwa [Sa]) (eX (by rw[Sx,hc];rfl)) ?_))));refine mX (λx=>!u.tk x && (!u.tk (-x) && Sn)) V.int Hv (λy hy=>⟨mW (λQ q=>h.RJ q) λO=>mW (λQ q=>h.RJ q) λO=>iI,λO Q q=>q⟩) ?_;refine hx▸?_;exact bS (n:=0) (v:=.int x) ay (by have:=Uo (λx=>!u.tk x && (!u.tk (-x) && Sn)) c;rw[hx]at this;rw[Sa];exact SJ this Hv) rfl q
end
section
variable{D:R4 (R4 Sj)}{A:R4 Sj}
theorem iJ (h:bo T u H){body:WM Fl}{Q:Fl->St->Prop}(hz:(u.pl x).length<=big)(I:R4 SH->St->Prop)(hI: ∀pre J,I pre J->∃m,DL 43 44 m u.pn u.pl J.hp)(h0:I [] ⟨l,H⟩)
  (step: ∀pre (y:SH) gD J,u.pl x=pre++y::gD->I pre J->∀K:St->Prop,(∀bD,I (pre++[y]) bD->K bD)->lA (.int (y:Sj)) J λO ak=>body ak (AW Q K)) (fin: ∀J,I (u.pl x) J->Q .next J):
  aR cR [] ⟨l,H⟩ λe bD=>iG (.ref ⟨43,u.n 43⟩) (.int x) e bD λv gS=>dQ lA body v gS Q:=by
 refine aP (S7 _) (h.aed λv h1 h2=>?_);cases e:u.pn x with
 |none=>rw[h1 e];rw[h.dl.no x e]at step fin;exact fm (S:=.seq Sn []) (f:=λn:SH=>V.int (n:Sj)) (c:=[]) I rfl (S7 _) (λO O O=>rfl) h0 step fin
 |some n=>rw[h2 n e];refine fm (S:=.seq Sf (kq (u.pl x))) (f:=λn:SH=>V.int (n:Sj)) (c:=u.pl x) I rfl (by show(kq _).length<=big;rwa [cb]) (λpre J hi=>?_) h0 step fin;obtain⟨m,d⟩:=hI pre J hi;exact fM (d.ls x n e) _
def Et (m:SH)(H H':Hp):Prop:=∀b o,H b=R3 o->(b.k<40\/60<=b.k)->b≠⟨5,m⟩->H' b=R3 o
theorem Et.step {m:SH}(f:Et m H H')(g:bM 40 60 H' mU):Et m H mU:=λb o e k n=>g b o (f b o e k n) k
theorem Et.set {m:SH}(f:Et m H H'):Et m H (aK H' ⟨5,m⟩ so):=λb o e k n=>(aO n).trans (f b o e k n)
theorem bo.OO (h:bo T u H){m:SH}:bo T u (aK H ⟨5,m⟩ so):=h.frm λb o e k O=>by
 rw[jr];exact e;intro z;have z:b.k=5:=z;exact yF [_] [] 0xf51c0520282c50 rfl k z
theorem qk {m:SH}{o:SO}(e:H ⟨5,m⟩=R3 o)(f:bM 40 60 H H'):H' ⟨5,m⟩=R3 o:=f _ _ e (.inl (R5 rfl))
theorem Dr {c0 c1 c2 c3:Si V}{Q:Fl->St->Prop}(h:bo T u H)(h0:c0=mw u)(hz:u.hd.length<=big)(hp: ∀i∈u.pl x,i<u.hd.length)(hpz:(u.pl x).length<=big)
  (q: ∀w H',bo T (u.Jy (bump 1 (u.pl x) u.hd)) H'->bM 40 60 H H'->Q .next ⟨lo [c0,R3 (.int x),c1,c2,c3,w],H'⟩):G0 T ⟨lo [c0,R3 (.int x),c1,c2,c3,Sg],H⟩ Q:=by
 subst h0;obtain⟨kvs,ep,hd,_⟩:=h.dl.d;refine aG rfl h.self h.dict rfl trivial (lS hd (iJ h hpz (λpre J=>X2 λw H'=>C3 (J=⟨lo [mw u,R3 (.int x),c1,c2,c3,w],H'⟩) (bo T (u.Jy (bump 1 pre u.hd)) H') (bM 40 60 H H')) ?_ ⟨Sg,H,rfl,h,.refl⟩ ?_ ?_));·rintro pre J ⟨w,H',rfl,h1,_⟩;exact⟨_,h1.dl⟩
 ·rintro pre y gD J he ⟨w,H1,rfl,h1,f1⟩ K hK;have hy:=hp y (mem_mid he);have OQ:y<(bump 1 pre u.hd).length:=by rwa [ej]
  have Ei:(bump 1 pre u.hd).length<=big:=by rwa [ej]
  obtain⟨v,hv⟩: ∃v,(bump 1 pre u.hd)[y]? =R3 v:=⟨_,SG OQ⟩;refine bj rfl rfl (aG rfl h1.self h1.dict rfl trivial (bS (bq h1.hd) (by rw[ag];exact Ei) (dD hv) (cO (aG rfl h1.self h1.dict rfl trivial (h1.acp Ei OQ λH2 h2 f2=>hK _ ⟨_,H2,rfl,?_,f1.trans f2⟩)))));rw[jS,hv];exact h2
 ·rintro J ⟨w,H',rfl,h1,f1⟩;exact q w H' h1 f1
theorem Mo {a:Ad}{cz:V}{m:SH}{qu:R4 (Sj×Sj)}(h:bo T u H)(ha:a=⟨40,u.n 40⟩)(hk:ia N D u)(hx:x∉u.tr)(h1: -1000<=x)(h2:x<=1000)(hN:N<=100)(hq:H ⟨5,m⟩=R3 (.list (qu.map pair)))(hqz:qu.length+D.length<=big)(htz:u.tr.length<=big)
  (fin: ∀u' H' b,bo T u' H'->ia N D u'->u'.tr=u.tr++[x]->u'.pl=u.pl->u'.n=u.n->H' ⟨5,m⟩=R3 (.list ((qu++kU u'.tr D (u.pl (-x))).map pair))->Et m H H'->
   (b=Sn->∀i∈u.pl (-x),∀c,D[i]? =R3 c->¬(lT u'.tr c=0/\kS u'.tr c=0))->(b=Sf->X2 λ(i:SH) (c:R4 Sj)=>D[i]? =R3 c/\kS u'.tr c=0)->Q (.bool b) ⟨l,H'⟩):qn T [.ref a,.int x,cz,.ref ⟨5,m⟩] ⟨l,H⟩ Q:=by
 subst ha;have zD:D.length<=big:=SJ hk.sz (R5 rfl);have lh:u.hd.length=D.length:=by rw[hk.hd,Sa]
 have lop:u.op.length=D.length:=by rw[hk.op,Sa]
 have pin: ∀y i,i∈u.pl y->i<D.length:=λy i hi=>by obtain⟨c,e,_⟩:=(hk.mem y i).mp hi;exact(R6.mp e).1
 unfold qn;refine bJ 2 rfl (bj rfl rfl (aG rfl h.self h.dict rfl trivial (h.aeb h1 h2 λH1 g1 f1=>aG rfl g1.self g1.dict rfl trivial (fh g1.tr (g1.ad9 htz λH2 g2 f2=>?_)))));refine Dr g2 rfl (by show u.hd.length<=big;rw[lh];exact zD) (λi hi=>by show i<u.hd.length;rw[lh];exact pin x i hi) (SJ (hk.pz x) zD) λw H3 g3 f3=>?_;have hq3:=qk (qk (qk hq f1) f2) f3;have ff:Et m H H3:=λb o e k O=>f3 b o (f2 b o (f1 b o e k) k) k;clear f1 f2 f3 g1 g2;have e1:bump 1 (u.pl x) u.hd=D.map (lT (u.tr++[x])):=hk.sZ hx;have g3:bo T (((u.sTk λy=>if y=x then Sn else u.tk y).sTr (u.tr++[x])).Jy (D.map (lT (u.tr++[x])))) H3:=e1▸g3;have e2:=hk.op1 hx;obtain⟨u2,JC⟩: ∃u2,u2=((u.sTk λy=>if y=x then Sn else u.tk y).sTr (u.tr++[x])).Jy (D.map (lT (u.tr++[x]))):=⟨_,rfl⟩;replace g3:=JC▸g3;have un:u2.n=u.n:=by rw[JC];rfl
 have OS:u2.pl=u.pl:=by rw[JC];rfl
 have uop:u2.op=u.op:=by rw[JC];rfl
 have uhd:u2.hd=D.map (lT (u.tr++[x])):=SU _ JC;have ucs:u2.cs=D:=by exact JC▸(hk.cs)
 have utr:u2.tr=u.tr++[x]:=SU _ JC;have utk: ∀y,u2.tk y=decide (y∈u2.tr):=λy=>by
  rw[utr,JC];show(if y=x then Sn else u.tk y)=_;rw[hk.tk];by_cases w:y=x;·rw[Sv w,w];simp
  ·rw[Sq w];simp[w]
 have uok: ∀cl,ia N D ((u2.Jz (bump (-1) (u2.pl (-x)) u2.op)).sD u.emp cl):=λcl=>by refine hk.turn (by show u2.cs=_;rw[ucs,hk.cs]) OS (by rw[JC];rfl) rfl (by show u2.hd=D.map (lT u2.tr);rw[uhd,utr]) ?_ utk;show bump _ _ _=D.map (kS u2.tr);exact OS▸uop▸utr▸(e2)
 have opv: ∀pre (y:SH) gD,u2.pl (-x)=pre++y::gD->∃c,C4 (D[y]? =R3 c) ((bump (-1) pre u2.op)[y]? =R3 (kS u.tr c)) ((bump (-1) (pre++[y]) u2.op)[y]? =R3 (kS u2.tr c)) (u2.hd[y]? =R3 (lT u2.tr c)):=λpre y gD he=>by
  have hn:(pre++[y]).Nodup:=by have:=hk.nd (-x);rw[<-OS,he,<-List.singleton_append,<-TG]at this;exact(Tf.mp this).1
  have hyp:y∉pre:=λz=>by rw[Tf]at hn;exact hn.2.2 y z y (R8.mpr rfl) rfl
  have hym:y∈u.pl (-x):=by exact OS▸(mem_mid he)
  obtain⟨c,hc,hxc⟩:=(hk.mem (-x) y).mp hym;have o1:u2.op[y]? =R3 (kS u.tr c):=by rw[uop,hk.op,Sx,hc];rfl
  refine⟨c,hc,?_,?_,by rw[uhd,Sx,hc,utr];rfl⟩;·rw[qC (Tf.mp hn).1,o1,Sq hyp];simp
  ·rw[qC hn,o1,Sv (SA _ (R8.mpr rfl)),utr,lU (hk.cl c (R9 hc)).nd hx,Sv hxc];rfl
 rw[<-un];obtain⟨kvs,ep,hd,_⟩:=g3.dl.d;refine aG rfl g3.self g3.dict rfl trivial (lS hd (iJ (u:=u2) (x:=-x) g3 (by rw[OS];exact SJ (hk.pz (-x)) zD) (λpre J=>X4 λw H' b cl=>C6 (J=⟨lo [mw u2,R3 (.int x),R3 cz,R3 (.ref ⟨5,m⟩),R3 (.bool b),w],H'⟩) (bo T ((u2.Jz (bump (-1) pre u2.op)).sD u.emp cl) H') (H' ⟨5,m⟩=R3 (.list ((qu++kU u2.tr D pre).map pair))) (Et m H H') (b=Sn->∀i∈pre,∀c,D[i]? =R3 c->¬(lT u2.tr c=0/\kS u2.tr c=0)) (b=Sf->X2 λ(i:SH) (c:R4 Sj)=>D[i]? =R3 c/\kS u2.tr c=0)) ?_ ?_ ?_ ?_));·rintro pre J ⟨w,H',b,cl,rfl,g,_⟩;exact⟨_,g.dl⟩
 ·refine⟨w,H3,Sn,u.cl,rfl,?_,by simpa [kU]using hq3,ff,λO i hi=>Sw hi Sy,λz=>gV z⟩;have:(u2.Jz (bump (-1) [] u2.op)).sD u.emp u.cl=u2:=by rw[JC];rfl
  rw[this];exact g3
 ·rintro pre y gD J he ⟨w,H4,b,cl,rfl,g4,q4,f4,b1,b2⟩ K hK;obtain⟨c,hc,o1,o2,o3⟩:=opv pre y gD he;have hyD:=(R6.mp hc).1;have hz4:(bump (-1) pre u2.op).length<=big:=by rw[ej,uop,lop];exact zD
  have hy4:y<(bump (-1) pre u2.op).length:=by rw[ej,uop,lop];exact hyD
  have zh:(bH u2.hd).length<=big:=by rw[ag,uhd,Sa];exact zD
  have ex: ∀RK,kU u2.tr D (RK++[y])=kU u2.tr D RK++kU u2.tr D [y]:=λRK=>by unfold kU;exact List.filterMap_append
  have ey:kU u2.tr D [y]=if lT u2.tr c=0/\kS u2.tr c=1 then[((c.filter λx=>!decide (-x∈u2.tr)).headD 0,(y:Sj))]else[]:=by unfold kU;rw[U1];simp only[hc];split<;>simp_all
  refine bj rfl rfl (aG rfl g4.self g4.dict rfl trivial (bS (bq g4.op) (by rw[ag];exact hz4) (dD o1) (nR (aG rfl g4.self g4.dict rfl trivial (g4.acq hz4 hy4 λH5 g5 f5=>?_)))));have g5:bo T ((u2.Jz (bump (-1) (pre++[y]) u2.op)).sD u.emp cl) H5:=by rw[jS,o1];exact g5
  have q5:=qk q4 f5;have f5:=f4.step f5;have z5:(bH (bump (-1) (pre++[y]) u2.op)).length<=big:=by rw[ag,ej,uop,lop];exact zD
  have t1: ∀σl k,Ev (bc T.U 0 2 λx0=>Z (ac 5) λx1=>Z (bT x0 x1) λx2=>Z (iA x2 (.int k)) aj) ⟨lo [mw u2,R3 (.int x),R3 cz,R3 (.ref ⟨5,m⟩),σl,R3 (.int (y:Sj))],H5⟩ (lT u2.tr c==k):=λσl k Q q=>
   aG rfl g5.self g5.dict rfl trivial (bS (bq g5.hd) zh (dD o3) (i7 q))
  have t2: ∀σl k,Ev (bc T.U 0 3 λx0=>Z (ac 5) λx1=>Z (bT x0 x1) λx2=>Z (iA x2 (.int k)) aj) ⟨lo [mw u2,R3 (.int x),R3 cz,R3 (.ref ⟨5,m⟩),σl,R3 (.int (y:Sj))],H5⟩ (kS u2.tr c==k):=λσl k Q q=>
   aG rfl g5.self g5.dict rfl trivial (bS (bq g5.op) z5 (dD o2) (i7 q))
  refine Hr (mW (t1 _ _) λO=>mW (t2 _ _) λO=>iI) (λhb=>?_) λhb=>?_
  ·simp only[Wo,Tt,U5]at hb;refine bj rfl rfl (aP (show 2<=1000000 by decide) (g5.Hs λH6 g6 f6=>hK _ ⟨_,H6,Sf,_,rfl,g6,?_,f5.step f6,λz=>(dq z),λO=>⟨y,c,hc,hb.2⟩⟩));rw[ex,ey,Sq λz=>by rw[hb.2]at z;exact Sw z.2 (by decide),Tw];exact qk q5 f6
  ·simp only[Wo,Bool.and_eq_false_imp,U5,VF]at hb;have b1':b=Sn->∀i∈pre++[y],∀c,D[i]? =R3 c->¬(lT u2.tr c=0/\kS u2.tr c=0):=λz i hi c' JD k=>by
    rcases Sl.mp hi with hi |hi;·exact b1 z i hi c' JD k
    ·replace JD:=hc▸(R8.mp hi)▸JD;obtain rfl:=R7 JD;exact hb k.1 k.2
   refine Hr (mW (t1 _ _) λO=>mW (t2 _ _) λO=>iI) (λuy=>?_) λuy=>?_
   ·simp only[Wo,Tt,U5]at uy;obtain⟨z,hz⟩:=ux uy.2;have hfl:c.filter (λx=>!u2.tk x && (!u2.tk (-x) && Sn))=[z]:=by rw[<-hz];refine List.filter_congr λa ha=>?_;rw[utk,utk,Ti (qD.mp uy.1 a ha)];simp
    refine fh q5 (cE g5.self g5.dict (Mm (i:=y) (c:=c) g5 rfl (by show u2.cs.length<=big;rw[ucs];exact zD) (by show u2.cs[y]? =_;rw[ucs];exact hc) (SJ (hk.cl c (R9 hc)).len (by unfold big;exact yN [_] [] 0xf642c050f42405c0a54 rfl hN)) hfl ?_));refine aP (show 2<=1000000 by decide) (eK q5 ?_ (hK _ ⟨_,_,b,cl,rfl,g5.OO,?_,f5.set,b1',b2⟩))
    ·have:(kU u2.tr D pre).length<=pre.length:=YD _ _;have u0:pre.length<=D.length:=by have:=hk.pz (-x);rw[<-OS,he,Sr]at this;exact yN [_,_,_] [] 0xf120b501054 rfl this
     rw[Sa,Sr];exact yN [_,_,_,_,_] [] 0xf34504150230b50210b54 rfl hqz this u0
    ·have e:(qu++kU u2.tr D pre).map pair++[V.bF Sn [.int z,.int (y:Sj)]]=(qu++(kU u2.tr D pre++[(z,(y:Sj))])).map pair:=by rw[<-TG,SN (l₂:=[_])];rfl
     rw[ex,ey,Sv uy,hz,Z0,<-e];exact aw
   ·refine hK _ ⟨_,H5,b,cl,rfl,g5,?_,f5,b1',b2⟩;rw[ex,ey,Sq (λk=>by replace uy:=k.2▸k.1▸uy;cases uy),Tw];exact q5
 ·rintro J ⟨w,H',b,cl,rfl,g,q4,f4,b1,b2⟩;rw[OS]at b1 q4;have:=uok cl;refine fin _ H' b g this utr OS un ?_ f4 b1 b2;exact q4
end
section
theorem s8 {Q:Unit->St->Prop}(h:vs.length=ws.length)(q:jM ws vs J Q):we ws (.bF Sn vs) J Q:=by unfold we;exact⟨vs,rfl,h,q⟩
theorem mY {Q:Unit->St->Prop}(h:vs.length=ws.length)(q:jM ws vs.reverse J Q):iY ws (.bF Sn vs) J Q:=by unfold iY;exact⟨vs,rfl,h,q⟩
theorem eV {x y:V}{us:R4 V}(h1:sq H x Sf vs)(h2:sq H y Sf us)(z1:vs.length<=big)(z2:us.length<=big)(q:mk (vs++us) ⟨l,H⟩ Q):bY mk x y ⟨l,H⟩ Q:=by
 unfold bY;exact .l x y vs us (h1 l) (h2 l) z1 z2 q
variable{D:R4 (R4 Sj)}{A:R4 Sj}
theorem ib.qz {q:R4 (Sj×Sj)}(h:ib N D A u q bA)(hN:N<=100)(hA:A.length<=1000):q.length<=600000:=by
 have h1:=h.sz;have h2:=h.ok.sz;have h3:=h.len;have h4:u.tr.length*D.length<=101*5000:=Nat.mul_le_mul (yN [_,_] [] 0xf1a050642c150652c054 rfl hN h3) h2;exact yN [_,_,_,_] [] 0xf13884c652e35013884c250312bb0503e83c150927c05c054 rfl hA h1 h2 h4
theorem RL {a:Ad}(h:bo T u H)(ha:a=⟨40,u.n 40⟩)(hk:ia N D u)(h0:u.tr=[])(hN:N<=100)(hA: ∀a∈A,1<=a.natAbs/\a.natAbs<=N)(hAz:A.length<=1000)
  (fin: ∀u' H' b,bo T u' H'->ia N D u'->u'.n=u.n->u'.tr.Nodup->(∀x∈u'.tr,-1000<=x/\x<=1000)->u'.tr.length<=N+1->bM 40 60 H H'->(b=Sn↔¬b7 D A)->Q (.bool b) ⟨l,H'⟩):wi T [.ref a,.bF Sf (bH A)] ⟨l,H⟩ Q:=by
 subst ha;have bd: ∀{x:Sj},x.natAbs<=N->-1000<=x/\x<=1000:=λ{x} hx=>by exact⟨yZ [_,_] [_] 0xf301f510150642c05003e83d55 rfl hN hx (sb _),yZ [_,_] [_] 0xf30510150642c0503e83c055 rfl hN hx Ts⟩
 have zD:D.length<=5000:=hk.sz;unfold wi;refine bJ 4 rfl (aG rfl h.self h.dict rfl trivial (Mi ⟨λe=>?_,λe=>?_⟩))
 ·have hc:b7 D A:=.inl (hk.emp.mp (SB e));exact aG rfl h.self h.dict rfl trivial (aP (show 2<=1000000 by decide) (h.Hs λH1 h1 f1=>fin _ H1 Sf h1 (hk.turn rfl rfl rfl rfl hk.hd hk.op hk.tk) rfl (by show u.tr.Nodup;rw[h0];exact Tm)
   (λx hx=>by have hx:x∈u.tr:=hx;replace hx:=h0▸hx;cases hx) (by show u.tr.length<=_;rw[h0];exact S7 _) f1 ⟨(λz=>dq z),λz=>Sw hc z⟩))
 have cF:[]∉D:=λz=>TF e (hk.emp.mpr z);have zA:A.length<=big:=SJ hAz (R5 rfl);have zb:u.bg.length<=big:=SJ hk.bgz (SJ zD (R5 rfl));refine aG rfl h.self h.dict rfl trivial (mX (λO=>Sn) (λx=>.bF Sn [.int x,.int (-1)]) zA (λx hx=>⟨iI,λO Q q=>aP (show 2<=1000000 by decide) q⟩) ?_);have hf:A.filter (λO=>Sn)=A:=Uj.mpr λO O=>rfl;rw[hf];refine eV (bq h.bg) ay (by rwa [Sa]) (by rwa [Sa]) (eh 5 λm hm=>aP (show 2<=1000000 by decide) (mY rfl (bj rfl rfl (bj rfl rfl ?_))));have q0:u.bg.map pair++A.map (λx=>V.bF Sn [.int x,.int (-1)])=(u.bg++A.map λa=>(a,-1)).map pair:=by rw[SN,Tg];rfl
 have frm: ∀{H'},Et m H H'->bM 40 60 H H':=λf b o e k=>f b o e k λz=>by replace e:=hm▸z▸e;cases e
 refine gL (λn J=>X6 λ(q:R4 (Sj×Sj)) (bA:SH) (u':Us) (H':Hp) (w2:Si V) (w5:Si V)=>C8 (J=⟨lo [mw u',R3 (.bF Sf (bH A)),w2,R3 (.ref ⟨5,m⟩),R3 (.int (bA:Sj)),w5],H'⟩) (bo T u' H') (u'.n=u.n) (ib N D A u' q bA) (bA<=q.length) (H' ⟨5,m⟩=R3 (.list (q.map pair))) (Et m H H') (n=(N+2 - u'.tr.length)*1000000+(q.length - bA))) _ ⟨_,0,u,_,Sg,Sg,rfl,h.OO,rfl,ib.init hk h0 cF hA,S7 _,by rw[<-q0];exact aw,λb o e k n=>(aO n).trans e,rfl⟩ ?_;rintro n J ⟨q,bA,u1,H1,w2,w5,rfl,g,un,R,hs,hq,f,rfl⟩ K hK;have qz:=R.qz hN hAz;have qz':(q.map pair).length<=big:=by rw[Sa];exact SJ qz (R5 rfl)
 refine ci (bq hq) qz' (Hi ⟨λe=>?_,λe=>?_⟩)
 ·have e:bA<q.length:=by have:=SB e;rw[Sa]at this;exact yN [_,_] [] 0xf31a5110a54 rfl this
  obtain⟨p,hp⟩: ∃p,q[bA]? =R3 p:=⟨_,SG e⟩;have hpm:=R9 hp;have hpq:=R.qv p hpm;refine bS (v:=pair p) (bq hq) qz' (eX (by rw[Sx,hp];rfl)) (s8 rfl (bj rfl rfl (bj rfl rfl (cO (bj rfl rfl ?_)))));have e1:(bA:Sj)+1=((bA+1:SH):Sj):=rfl;refine e1▸?_;refine aG rfl g.self g.dict rfl trivial (g.acs ⟨λt=>?_,λt=>?_⟩)
  ·rw[R.ok.tk]at t;refine aP (show 2<=1000000 by decide) (g.Hs λH2 g2 f2=>fin _ H2 Sf g2 (R.ok.turn rfl rfl rfl rfl R.ok.hd R.ok.op R.ok.tk) un R.nd (λx hx=>bd (R.tv x hx).2.2) R.len (frm (f.step f2)) ⟨(λz=>dq z),λz=>Sw (R.RG hpm (SB t)) z⟩)
  ·have hn: -p.1∉u1.tr:=by rw[R.ok.tk]at t;exact TF t
   refine aG rfl g.self g.dict rfl trivial (g.RJ ⟨λt1=>?_,λt1=>?_⟩)
   ·have hx:p.1∉u1.tr:=by rw[R.ok.tk]at t1;simpa using t1
    have hb:=bd hpq.2.2;refine cE g.self g.dict (Mo g rfl R.ok hx hb.1 hb.2 hN hq (by unfold big;exact yN [_,_] [] 0xf927c05c05013884c150f42405c10b54 rfl zD qz) (by have:=R.len;unfold big;exact yN [_,_] [] 0xf1a050642c150f42405c054 rfl hN this) λu2 H2 b g2 k2 u6 pl2 n2 q2 f2 b1 b2=>?_);have ff:Et m H H2:=λc o e k n=>f2 c o (f c o e k n) k n;have un2:u2.n=u.n:=n2.trans un;cases b with
    |true=>
     have R2:=R.take hp hx hn k2 u6 pl2 (b1 rfl);refine⟨(λz=>dq z),λO=>⟨(λz=>dq z),λO=>hK _ _ ?_ ⟨_,bA+1,u2,H2,_,_,by rw[show mw u2=mw u1 by unfold mw;rw[n2]];rfl,g2,un2,R2,by rw[Sr];exact yN [_,_,_] [] 0xf10a5021b0a54 rfl e,q2,ff,rfl⟩⟩⟩;have z1:=R2.qz hN hAz;have z2:=R2.len;have z3:u2.tr.length=u1.tr.length+1:=by rw[u6,Sr];rfl
     rw[z3]at z2 ⊢;exact xN [_,_,_,_,_,_,_,_,_] [] (vS (.add (.mulR v0 1000000) v1)) (.add (.mulR v2 1000000) v3) 1 (.c 0 1 (vS v4) v5 (.c 0 1 v6 (.num 600000) (.c 0 1 v1 v6 (.c 0 1000000 (.add v7 (.num 2)) (.add v2 v8) (.c 0 1 v5 (.add v3 v4) (.c 0 1000000 (.add v0 (vS v8)) (.add v7 (.num 2)) .e)))))) rfl e z1 (UH _ _) (li _ _) (li _ _) (i6 (yN [_,_] [] 0xf1a0a5021c1b0a54 rfl z2))
    |false=>
     obtain⟨i,c,hc,hz⟩:=b2 rfl;have tO:=R.RH hp hc (by rw[<-u6];exact hz);have tv: ∀x∈u2.tr,1<=x.natAbs/\x.natAbs<=N:=λx hx=>by
      rw[u6]at hx;rcases Sl.mp hx with k |k;·exact(R.tv x k).2
      ·exact(R8.mp k)▸(hpq.2)
     have hnd:u2.tr.Nodup:=by rw[u6];exact Tf.mpr ⟨R.nd,S6.mpr ⟨Sy,Tm⟩,λa ha b hb z=>hx (by rw[<-R8.mp hb,<-z];exact ha)⟩
     have hlen:u2.tr.length<=N+1:=by
      have:=kT (ks:=u2.tr.map Tl) (n:=N+1) (Uv.mpr (hnd.imp_of_mem λ{a b} ha hb cF z=>?_)) λk hk=>?_;·rwa [Sa]at this
      ·have:a= -b:=(VC.mp z).resolve_left cF;rw[u6]at ha hb;rw[this]at ha;rcases Sl.mp ha with ha |ha<;>rcases Sl.mp hb with hb |hb;·exact R.cons b hb ha
       ·rw[R8.mp hb]at ha;exact hn ha
       ·rw[<-R8.mp ha,T5]at hn;exact hn hb
       ·have i1:=R8.mp ha;have i2:=R8.mp hb;have i3:=hpq.2.1;exact yF [_] [_] 0xf01f1510151011c60 rfl i3 (jX (yZ [] [_,_] 0xf0253021f53001c65 rfl i1 i2)) (my (yZ [] [_,_] 0xf0233021f3301c065 rfl i1 i2))
      ·obtain⟨x,hx,rfl⟩:=SL.mp hk;exact VM (tv x hx).2
     exact⟨λO=>⟨λO=>fin u2 H2 Sf g2 k2 un2 hnd (λx hx=>bd (tv x hx).2) hlen (frm ff) ⟨(λz=>dq z),λz=>Sw tO z⟩,(λz=>gV z)⟩,(λz=>gV z)⟩
   ·have hx:p.1∈u1.tr:=by rw[R.ok.tk]at t1;simpa using t1
    refine⟨(λz=>dq z),λO=>hK _ _ ?_ ⟨q,bA+1,u1,H1,_,_,rfl,g,un,R.skip hp hx,e,hq,f,rfl⟩⟩;exact yN [_,_,_,_,_] [] 0xf34a1b5042b35020b10ba54 rfl (li _ _) (i6 (yN [_,_] [] 0xf10a5010a54 rfl e))
 ·have e:q.length<=bA:=by have:=TF e;rw[Sa]at this;exact yN [_,_] [] 0xf13a551054 rfl this
  exact fin u1 H1 Sn g R.ok un R.nd (λx hx=>bd (R.tv x hx).2.2) R.len (frm f) ⟨λO=>R.fin cF e,λO=>rfl⟩
end
section
variable{D:R4 (R4 Sj)}{A:R4 Sj}
theorem ie {x y:V}(h1:sq H x Sf vs)(h2:sq H y Sf [])(q:Q (.bool (!vs.isEmpty)) ⟨l,H⟩):ug x y ⟨l,H⟩ Q:=by
 have e:vs.isEmpty=(vs.isEmpty && ([]:R4 V).isEmpty):=(Wo _).symm;rw[e]at q;unfold ug;exact⟨_,.ss x y vs [] (h1 l) (h2 l) (.inr rfl),q⟩
theorem uA {x:V}{S:Src}{ns:R4 Sj}(hS:sr H x S)(h1:jN S)(h2:S.fits)(e:S.items=bH ns)(hz:ns.length<64)(q: ∀out:R4 Sj,out.Perm ns->out.Pairwise (λp q=>(p.natAbs:Sj)<=(q.natAbs:Sj))->mk (bH out) ⟨l,H⟩ Q):sortI mk x ⟨l,H⟩ Q:=by
 unfold sortI;exact⟨S,ns,hS _,h1,h2,e,hz,q⟩
theorem zt {c0 w1 w2:Si V}{Q:Fl->St->Prop}(h:bo T u H)(h0:c0=mw u)(hw:w1=R3 (.int x))(hz:u.hd.length<=big)(hp: ∀i∈u.pl x,i<u.hd.length)(hpz:(u.pl x).length<=big)
  (q: ∀w H',bo T (u.Jy (bump (-1) (u.pl x) u.hd)) H'->bM 40 60 H H'->Q .next ⟨lo [c0,w1,w],H'⟩):wj T ⟨lo [c0,w1,w2],H⟩ Q:=by
 subst h0 hw;obtain⟨kvs,ep,hd,_⟩:=h.dl.d;refine aG rfl h.self h.dict rfl trivial (lS hd (iJ h hpz (λpre J=>X2 λw H'=>C3 (J=⟨lo [mw u,R3 (.int x),w],H'⟩) (bo T (u.Jy (bump (-1) pre u.hd)) H') (bM 40 60 H H')) ?_ ⟨w2,H,rfl,h,.refl⟩ ?_ ?_));·rintro pre J ⟨w,H',rfl,h1,_⟩;exact⟨_,h1.dl⟩
 ·rintro pre y gD J he ⟨w,H1,rfl,h1,f1⟩ K hK;have hy:=hp y (mem_mid he);have OQ:y<(bump (-1) pre u.hd).length:=by rwa [ej]
  have Ei:(bump (-1) pre u.hd).length<=big:=by rwa [ej]
  obtain⟨v,hv⟩: ∃v,(bump (-1) pre u.hd)[y]? =R3 v:=⟨_,SG OQ⟩;refine bj rfl rfl (aG rfl h1.self h1.dict rfl trivial (bS (bq h1.hd) (by rw[ag];exact Ei) (dD hv) (nR (aG rfl h1.self h1.dict rfl trivial (h1.acp Ei OQ λH2 h2 f2=>hK _ ⟨_,H2,rfl,?_,f1.trans f2⟩)))));rw[jS,hv];exact h2
 ·rintro J ⟨w,H',rfl,h1,f1⟩;exact q w H' h1 f1
theorem zu {c0 w1 w2:Si V}{Q:Fl->St->Prop}(h:bo T u H)(h0:c0=mw u)(hw:w1=R3 (.int x))(hz:u.op.length<=big)(hp: ∀i∈u.pl (-x),i<u.op.length)(hpz:(u.pl (-x)).length<=big)
  (q: ∀w H',bo T (u.Jz (bump 1 (u.pl (-x)) u.op)) H'->bM 40 60 H H'->Q .next ⟨lo [c0,w1,w],H'⟩):wk T ⟨lo [c0,w1,w2],H⟩ Q:=by
 subst h0 hw;obtain⟨kvs,ep,hd,_⟩:=h.dl.d;refine aG rfl h.self h.dict rfl trivial (lS hd (iJ h hpz (λpre J=>X2 λw H'=>C3 (J=⟨lo [mw u,R3 (.int x),w],H'⟩) (bo T (u.Jz (bump 1 pre u.op)) H') (bM 40 60 H H')) ?_ ⟨w2,H,rfl,h,.refl⟩ ?_ ?_));·rintro pre J ⟨w,H',rfl,h1,_⟩;exact⟨_,h1.dl⟩
 ·rintro pre y gD J he ⟨w,H1,rfl,h1,f1⟩ K hK;have hy:=hp y (mem_mid he);have OQ:y<(bump 1 pre u.op).length:=by rwa [ej]
  have Ei:(bump 1 pre u.op).length<=big:=by rwa [ej]
  obtain⟨v,hv⟩: ∃v,(bump 1 pre u.op)[y]? =R3 v:=⟨_,SG OQ⟩;refine bj rfl rfl (aG rfl h1.self h1.dict rfl trivial (bS (bq h1.op) (by rw[ag];exact Ei) (dD hv) (cO (aG rfl h1.self h1.dict rfl trivial (h1.acq Ei OQ λH2 h2 f2=>hK _ ⟨_,H2,rfl,?_,f1.trans f2⟩)))));rw[jS,hv];exact h2
 ·rintro J ⟨w,H',rfl,h1,f1⟩;exact q w H' h1 f1
theorem Mp {a:Ad}(h:bo T u H)(ha:a=⟨40,u.n 40⟩)(hk:ia N D u)(hn:u.tr.Nodup)(hz:u.tr.length<big)
  (fin: ∀u' H',bo T u' H'->ia N D u'->u'.tr=[]->u'.n=u.n->bM 40 60 H H'->Q .none ⟨l,H'⟩):qo T [.ref a] ⟨l,H⟩ Q:=by
 subst ha;have zD:D.length<=big:=SJ hk.sz (R5 rfl);unfold qo;refine bJ 2 rfl (gL (λn J=>X4 λu' H' w1 w2=>C8 (J=⟨lo [mw u',w1,w2],H'⟩) (bo T u' H') (ia N D u') (u'.n=u.n) u'.tr.Nodup (u'.tr.length<big) (bM 40 60 H H') (n=u'.tr.length)) _ ⟨u,H,Sg,Sg,rfl,h,hk,rfl,hn,hz,.refl,rfl⟩ ?_);rintro n J ⟨u1,H1,w1,w2,rfl,g,k,un,nd,tz,f,rfl⟩ K hK;refine aG rfl g.self g.dict rfl trivial (aP (S7 _) (ie (bq g.tr) ay ⟨λe=>?_,λe=>?_⟩))
 ·obtain⟨r,x,e⟩:X2 λr x=>u1.tr=r++[x]:=by
   cases z:u1.tr with
   |nil=>replace e:=z▸e;cases e
   |cons a b=>exact⟨_,_,(Yc (List.cons_ne_nil a b)).symm⟩
  have hr:x∉r:=λz=>by rw[e,Tf]at nd;exact nd.2.2 x z x (R8.mpr rfl) rfl
  have hl:u1.tr.length=r.length+1:=by rw[e,Sr];rfl
  have lh:u1.hd.length=D.length:=by rw[k.hd,Sa]
  have lop:u1.op.length=D.length:=by rw[k.op,Sa]
  have pin: ∀y i,i∈u1.pl y->i<D.length:=λy i hi=>by obtain⟨c,e,_⟩:=(k.mem y i).mp hi;exact(R6.mp e).1
  refine aG rfl g.self g.dict rfl trivial (fh g.tr (g.aea e (yN [_,_,_] [] 0xf0a23212a5010a54 rfl tz hl) λH2 g2 f2=>bj rfl rfl (aG rfl g2.self g2.dict rfl trivial (g2.aec (x:=x) (by show u1.tk x=Sn;rw[k.tk,e];simp) λH3 g3 f3=>?_))));refine zt g3 rfl rfl (by show u1.hd.length<=big;rw[lh];exact zD) (λi hi=>by show i<u1.hd.length;rw[lh];exact pin x i hi) (SJ (k.pz x) zD) λw H4 g4 f4=>?_;refine zu g4 rfl rfl (by show u1.op.length<=big;rw[lop];exact zD) (λi hi=>by show i<u1.op.length;rw[lop];exact pin (-x) i hi) (SJ (k.pz (-x)) zD) λw H5 g5 f5=>?_;obtain⟨u5,hu5,g5⟩: ∃u5,u5=(((((u1.sTr r).sTk λy=>if y=x then Sf else u1.tk y).Jy (bump (-1) (u1.pl x) u1.hd))).Jz (bump 1 (u1.pl (-x)) u1.op))/\bo T u5 H5:=⟨_,rfl,g5⟩;have es:mw u1=mw u5:=hu5▸rfl;refine es▸?_;subst hu5;refine hK r.length _ (by rw[hl];exact UF _) ⟨_,H5,_,_,rfl,g5,k.turn rfl rfl rfl rfl ?_ ?_ (λy=>?_),un,?_,?_,(((f.trans f2).trans f3).trans f4).trans f5,rfl⟩;·exact k.JB e hr
  ·exact k.op0 e hr
  ·show(if y=x then Sf else u1.tk y)=decide (y∈r);rw[k.tk,e];by_cases w:y=x;·rw[Sv w,w,Ti hr]
   ·rw[Sq w];simp[w]
  ·rw[e]at nd;exact(Tf.mp nd).1
  ·exact yN [_,_,_] [] 0xf0a23212a5010a54 rfl tz hl
 ·have e:u1.tr=[]:=by
   cases z:u1.tr with
   |nil=>rfl
   |cons a b=>replace e:=z▸e;cases e
  exact fin u1 H1 g k e un f
theorem Dt {a:Ad}(h:bo T u H)(ha:a=⟨40,u.n 40⟩)(hk:ia N D u)(h0:u.tr=[])(hN:N<=50)(hA: ∀a∈A,1<=a.natAbs/\a.natAbs<=N)(hAz:A.length<=1000)
  (fin: ∀u' H' b out,bo T u' H'->ia N D u'->u'.tr=[]->u'.n=u.n->bM 40 60 H H'->(b=Sn↔¬b7 D A)->Q (if b=Sn then .bF Sf (bH out)else .none) ⟨l,H'⟩):jp T [.ref a,.bF Sf (bH A)] ⟨l,H⟩ Q:=by
 subst ha;unfold jp;refine bJ 2 rfl (cE h.self h.dict (RL h rfl hk h0 (yN [_] [] 0xf322c050642c054 rfl hN) hA hAz λu1 H1 b g1 k1 n1 nd1 bd1 z1 f1 hb=>bj rfl rfl ?_));rw[show[V.ref ⟨40,u.n 40⟩,V.bF Sf (bH A)]=[V.ref ⟨40,u1.n 40⟩,V.bF Sf (bH A)] by rw[n1]];refine aG rfl g1.self g1.dict rfl trivial (uA (ns:=u1.tr) (fM g1.tr) TK (by show(bH _).length<=big;rw[ag];unfold big;exact yN [_,_] [] 0xf1a050322c150f42405c054 rfl hN z1) rfl (yN [_,_] [] 0xf1a050322c150402c0a54 rfl hN z1) λout hp hs=>bj rfl rfl (cE g1.self g1.dict (Mp g1 rfl k1 nd1 (by unfold big;exact yN [_,_] [] 0xf1a050322c150f42405c0a54 rfl hN z1) λu2 H2 g2 k2 t2 n2 f2=>?_)));have:=fin u2 H2 b out g2 k2 t2 (n2.trans n1) (f1.trans f2) hb;cases b;·exact⟨λz=>(dq z),λO=>this⟩
 ·exact⟨λO=>this,λz=>(gV z)⟩
theorem zv {a:Ad}(h:bo T u H)(ha:a=⟨40,u.n 40⟩)(hk:ia N D u)(h0:u.tr=[])(hN:N<=50)(hc:Cl N c)
  (fin: ∀u' H' b,bo T u' H'->ia N D u'->u'.tr=[]->u'.n=u.n->bM 40 60 H H'->(b=Sn↔b7 D (hZ c))->Q (.bool b) ⟨l,H'⟩):hX T [.ref a,tup c] ⟨l,H⟩ Q:=by
 subst ha;have hl:=hc.len;unfold hX;refine bJ 0 rfl (cE h.self h.dict (mX (λO=>Sn) (λx=>.int (-x)) (by unfold big;exact yN [_,_] [] 0xf1a050322c150f42405c054 rfl hN hl) (λx hx=>⟨iI,λO Q q=>q⟩) ?_));have hf:c.filter (λO=>Sn)=c:=Uj.mpr λO O=>rfl;rw[hf,show c.map (λx=>V.int (-x))=bH (hZ c) by unfold bH hZ;rw[Tg];rfl];refine Dt h rfl hk h0 hN (λy hy=>?_) (by unfold hZ;rw[Sa];exact yN [_,_] [] 0xf1a050322c1503e83c054 rfl hN hl) λu' H' b out g k t n f hb=>?_
 ·obtain⟨x,hx,rfl⟩:=SL.mp hy;rw[S4];exact hc.var x hx
 ·cases b;·exact fin u' H' Sn g k t n f ⟨λO=>Tk λz=>Bool.noConfusion (hb.mpr z),λO=>rfl⟩
  ·exact fin u' H' Sf g k t n f ⟨λz=>(dq z),λz=>Sw z (hb.mp rfl)⟩
end
section
structure S where
 nb:SH
 nh:SH
 kn:Sj->Si V
 ht:Sj->Si V
 ca:Sj->Si V
 row:R4 Sj
 aH:R4 SH
 seen:SH
 rl:R4 SH
 rows:R4 (R4 Sj)
 pn:Sj->Si SH
 bL:Sj->R4 SH
 j7:Sj
 log:R4 (R4 Sj)
 ref:Tn
 bQ:R4 Sj
 clashes:SH
noncomputable def S.sKn (s:S)(f:Sj->Si V):S:={s with kn:=f}
noncomputable def S.sHt (s:S)(f:Sj->Si V):S:={s with ht:=f}
noncomputable def S.sCa (s:S)(f:Sj->Si V):S:={s with ca:=f}
noncomputable def S.RM (s:S)(r:R4 Sj):S:={s with row:=r}
noncomputable def S.oB (s:S)(n:SH)(b:R4 SH):S:={s with nb:=n,aH:=b}
noncomputable def S.Du (s:S)(n:SH):S:={s with nh:=n}
noncomputable def S.c4 (s:S)(l:R4 SH)(r:R4 (R4 Sj)):S:={s with rl:=l,rows:=r}
noncomputable def S.fN (s:S)(p:Sj->Si SH)(w:Sj->R4 SH):S:={s with pn:=p,bL:=w}
noncomputable def S.wB (s:S)(x:R4 (R4 Sj)):S:={s with log:=x}
noncomputable def S.kr (s:S)(n:SH):S:={s with seen:=n}
noncomputable def S.ig (s:S)(n:Sj):S:={s with j7:=n}
noncomputable def S.Hy (s:S):S:={s with ref:=Sn}
noncomputable def S.RN (s:S)(b:R4 Sj):S:={s with bQ:=b}
noncomputable def S.sCl (s:S)(n:SH):S:={s with clashes:=n}
def nS (s:S):R4 (SH×V):=[(9,.ref ⟨22,0⟩),(10,.ref ⟨23,0⟩),(11,.ref ⟨24,0⟩),(12,.ref ⟨25,0⟩),(13,.ref ⟨26,s.nb⟩),(14,.int s.seen),(15,.ref ⟨27,0⟩),(16,.ref ⟨28,0⟩),(17,.ref ⟨29,0⟩),(18,.ref ⟨30,s.nh⟩),
 (19,.int s.j7),(20,.ref ⟨31,0⟩),(21,.bool s.ref),(22,tup s.bQ),(23,.int s.clashes),(24,.int 0)]
noncomputable def vars (N:SH):R4 Sj:=(TL N).map λ(i:SH)=>(i:Sj)+1
def iK (H:Hp)(a:Ad)(f:Sj->Si V):Prop:=∃kvs ep,H a=R3 (.dict kvs ep)/\∀v,bC kvs v=f v
def acu (s:S)(H:Hp):Prop:=∀(i n:SH) (r:R4 Sj),s.rl[i]? =R3 n->s.rows[i]? =R3 r->H ⟨32,n⟩=R3 (.list (bH r))
structure ao (T:Tp)(N:SH)(s:S)(H:Hp):Prop where
 self:H ⟨20,0⟩=R3 (.inst T.S ⟨21,0⟩)
 dict:H ⟨21,0⟩=R3 (.bB (nS s))
 kn:iK H ⟨22,0⟩ s.kn
 ht:iK H ⟨23,0⟩ s.ht
 ca:iK H ⟨24,0⟩ s.ca
 row:H ⟨25,0⟩=R3 (.list (bH s.row))
 aH:H ⟨26,s.nb⟩=R3 (.list (kq s.aH))
 lk: ∃kvs ep,H ⟨27,0⟩=R3 (.dict kvs ep)/\∀v x,bC kvs v=R3 x->∃b,x=V.bool b
 rows:H ⟨28,0⟩=R3 (.list (s.rl.map λn=>V.ref ⟨32,n⟩))
 ix:acu s H
 iL:s.rl.Nodup
 bV:s.rl.length=s.rows.length
 dl:DL 29 19 0 s.pn s.bL H
 fO: ∃kvs ep,H ⟨30,s.nh⟩=R3 (.dict kvs ep)/\kvs.map (·.1)=vars N/\∀p∈kvs,∃i,p.2=V.int i
 log:H ⟨31,0⟩=R3 (.list (s.log.map tup))
variable{s:S}
theorem iK.off {k' n':SH}(h:iK H ⟨k,n⟩ f)(e:(k==k')=Sf):iK (aK H ⟨k',n'⟩ so) ⟨k,n⟩ f:=h.imp λO=>Ta λO=>SY (ai e).trans
theorem iK.frm {a:Ad}(h:iK H a f)(e: ∀o,H a=R3 o->H' a=R3 o):iK H' a f:=h.imp λO=>Ta λO=>SY (e _)
theorem ao.frm (h:ao T N s H)(e: ∀b o,H b=R3 o->19<=b.k->b.k<40->H' b=R3 o):ao T N s H' where
 self:=e _ _ h.self (R5 rfl) (R5 rfl)
 dict:=e _ _ h.dict (R5 rfl) (R5 rfl)
 kn:=h.kn.frm λo q=>e _ _ q (R5 rfl) (R5 rfl)
 ht:=h.ht.frm λo q=>e _ _ q (R5 rfl) (R5 rfl)
 ca:=h.ca.frm λo q=>e _ _ q (R5 rfl) (R5 rfl)
 row:=e _ _ h.row (R5 rfl) (R5 rfl)
 aH:=e _ _ h.aH (R5 rfl) (R5 rfl)
 lk:=h.lk.imp λO=>Ta λO=>SY λq=>e _ _ q (R5 rfl) (R5 rfl)
 rows:=e _ _ h.rows (R5 rfl) (R5 rfl)
 ix:=λi n r q q2=>e _ _ (h.ix i n r q q2) (R5 rfl) (R5 rfl)
 iL:=h.iL
 bV:=h.bV
 dl:=h.dl.frm λb o q k=>e b o q (by exact k.elim (λbE=>yN [_] [] 0xf1d2c0320132c54 rfl bE) (λbE=>yN [_] [] 0xf132c0320132c54 rfl bE)) (by exact k.elim (λbE=>yN [_] [] 0xf1d2c052282c0a54 rfl bE) (λbE=>yN [_] [] 0xf132c052282c0a54 rfl bE))
 fO:=h.fO.imp λO=>Ta λO=>SY λq=>e _ _ q (R5 rfl) (R5 rfl)
 log:=e _ _ h.log (R5 rfl) (R5 rfl)
theorem ao.RO (h:ao T N s H)(n:SH):ao T N (s.kr n) (aK H ⟨21,0⟩ (.bB (nS (s.kr n)))) where
 self:=(ai rfl).trans h.self
 dict:=aw
 kn:=h.kn.off rfl
 ht:=h.ht.off rfl
 ca:=h.ca.off rfl
 row:=(ai rfl).trans h.row
 aH:=(ai rfl).trans h.aH
 lk:=h.lk.imp λO=>Ta λO=>SY (ai rfl).trans
 rows:=(ai rfl).trans h.rows
 ix:=λi n r e e2=>(ai rfl).trans (h.ix i n r e e2)
 iL:=h.iL
 bV:=h.bV
 dl:=h.dl.off rfl rfl
 fO:=h.fO.imp λO=>Ta λO=>SY (ai rfl).trans
 log:=(ai rfl).trans h.log
theorem ao.RQ (h:ao T N s H)(n:Sj):ao T N (s.ig n) (aK H ⟨21,0⟩ (.bB (nS (s.ig n)))) where
 self:=(ai rfl).trans h.self
 dict:=aw
 kn:=h.kn.off rfl
 ht:=h.ht.off rfl
 ca:=h.ca.off rfl
 row:=(ai rfl).trans h.row
 aH:=(ai rfl).trans h.aH
 lk:=h.lk.imp λO=>Ta λO=>SY (ai rfl).trans
 rows:=(ai rfl).trans h.rows
 ix:=λi n r e e2=>(ai rfl).trans (h.ix i n r e e2)
 iL:=h.iL
 bV:=h.bV
 dl:=h.dl.off rfl rfl
 fO:=h.fO.imp λO=>Ta λO=>SY (ai rfl).trans
 log:=(ai rfl).trans h.log
theorem ao.acv (h:ao T N s H) :ao T N (s.Hy) (aK H ⟨21,0⟩ (.bB (nS (s.Hy)))) where
 self:=(ai rfl).trans h.self
 dict:=aw
 kn:=h.kn.off rfl
 ht:=h.ht.off rfl
 ca:=h.ca.off rfl
 row:=(ai rfl).trans h.row
 aH:=(ai rfl).trans h.aH
 lk:=h.lk.imp λO=>Ta λO=>SY (ai rfl).trans
 rows:=(ai rfl).trans h.rows
 ix:=λi n r e e2=>(ai rfl).trans (h.ix i n r e e2)
 iL:=h.iL
 bV:=h.bV
 dl:=h.dl.off rfl rfl
 fO:=h.fO.imp λO=>Ta λO=>SY (ai rfl).trans
 log:=(ai rfl).trans h.log
theorem ao.aeg (h:ao T N s H)(b:R4 Sj):ao T N (s.RN b) (aK H ⟨21,0⟩ (.bB (nS (s.RN b)))) where
 self:=(ai rfl).trans h.self
 dict:=aw
 kn:=h.kn.off rfl
 ht:=h.ht.off rfl
 ca:=h.ca.off rfl
 row:=(ai rfl).trans h.row
 aH:=(ai rfl).trans h.aH
 lk:=h.lk.imp λO=>Ta λO=>SY (ai rfl).trans
 rows:=(ai rfl).trans h.rows
 ix:=λi n r e e2=>(ai rfl).trans (h.ix i n r e e2)
 iL:=h.iL
 bV:=h.bV
 dl:=h.dl.off rfl rfl
 fO:=h.fO.imp λO=>Ta λO=>SY (ai rfl).trans
 log:=(ai rfl).trans h.log
theorem ao.aeh (h:ao T N s H)(n:SH):ao T N (s.sCl n) (aK H ⟨21,0⟩ (.bB (nS (s.sCl n)))) where
 self:=(ai rfl).trans h.self
 dict:=aw
 kn:=h.kn.off rfl
 ht:=h.ht.off rfl
 ca:=h.ca.off rfl
 row:=(ai rfl).trans h.row
 aH:=(ai rfl).trans h.aH
 lk:=h.lk.imp λO=>Ta λO=>SY (ai rfl).trans
 rows:=(ai rfl).trans h.rows
 ix:=λi n r e e2=>(ai rfl).trans (h.ix i n r e e2)
 iL:=h.iL
 bV:=h.bV
 dl:=h.dl.off rfl rfl
 fO:=h.fO.imp λO=>Ta λO=>SY (ai rfl).trans
 log:=(ai rfl).trans h.log
theorem ao.acw (h:ao T N s H)(hf: ∀v,bC kvs v=f v):ao T N (s.sKn f) (aK H ⟨22,0⟩ (.dict kvs ep)) where
 self:=(ai rfl).trans h.self
 dict:=(ai rfl).trans h.dict
 kn:=⟨kvs,ep,aw,hf⟩
 ht:=h.ht.off rfl
 ca:=h.ca.off rfl
 row:=(ai rfl).trans h.row
 aH:=(ai rfl).trans h.aH
 lk:=h.lk.imp λO=>Ta λO=>SY (ai rfl).trans
 rows:=(ai rfl).trans h.rows
 ix:=λi n r e e2=>(ai rfl).trans (h.ix i n r e e2)
 iL:=h.iL
 bV:=h.bV
 dl:=h.dl.off rfl rfl
 fO:=h.fO.imp λO=>Ta λO=>SY (ai rfl).trans
 log:=(ai rfl).trans h.log
theorem ao.aei (h:ao T N s H)(hf: ∀v,bC kvs v=f v):ao T N (s.sHt f) (aK H ⟨23,0⟩ (.dict kvs ep)) where
 self:=(ai rfl).trans h.self
 dict:=(ai rfl).trans h.dict
 kn:=h.kn.off rfl
 ht:=⟨kvs,ep,aw,hf⟩
 ca:=h.ca.off rfl
 row:=(ai rfl).trans h.row
 aH:=(ai rfl).trans h.aH
 lk:=h.lk.imp λO=>Ta λO=>SY (ai rfl).trans
 rows:=(ai rfl).trans h.rows
 ix:=λi n r e e2=>(ai rfl).trans (h.ix i n r e e2)
 iL:=h.iL
 bV:=h.bV
 dl:=h.dl.off rfl rfl
 fO:=h.fO.imp λO=>Ta λO=>SY (ai rfl).trans
 log:=(ai rfl).trans h.log
theorem ao.aej (h:ao T N s H)(hf: ∀v,bC kvs v=f v):ao T N (s.sCa f) (aK H ⟨24,0⟩ (.dict kvs ep)) where
 self:=(ai rfl).trans h.self
 dict:=(ai rfl).trans h.dict
 kn:=h.kn.off rfl
 ht:=h.ht.off rfl
 ca:=⟨kvs,ep,aw,hf⟩
 row:=(ai rfl).trans h.row
 aH:=(ai rfl).trans h.aH
 lk:=h.lk.imp λO=>Ta λO=>SY (ai rfl).trans
 rows:=(ai rfl).trans h.rows
 ix:=λi n r e e2=>(ai rfl).trans (h.ix i n r e e2)
 iL:=h.iL
 bV:=h.bV
 dl:=h.dl.off rfl rfl
 fO:=h.fO.imp λO=>Ta λO=>SY (ai rfl).trans
 log:=(ai rfl).trans h.log
theorem ao.OT (h:ao T N s H)(r:R4 Sj):ao T N (s.RM r) (aK H ⟨25,0⟩ (.list (bH r))) where
 self:=(ai rfl).trans h.self
 dict:=(ai rfl).trans h.dict
 kn:=h.kn.off rfl
 ht:=h.ht.off rfl
 ca:=h.ca.off rfl
 row:=aw
 aH:=(ai rfl).trans h.aH
 lk:=h.lk.imp λO=>Ta λO=>SY (ai rfl).trans
 rows:=(ai rfl).trans h.rows
 ix:=λi n r e e2=>(ai rfl).trans (h.ix i n r e e2)
 iL:=h.iL
 bV:=h.bV
 dl:=h.dl.off rfl rfl
 fO:=h.fO.imp λO=>Ta λO=>SY (ai rfl).trans
 log:=(ai rfl).trans h.log
theorem ao.acx (h:ao T N s H)(b:R4 SH):ao T N (s.oB s.nb b) (aK H ⟨26,s.nb⟩ (.list (kq b))) where
 self:=(ai rfl).trans h.self
 dict:=(ai rfl).trans h.dict
 kn:=h.kn.off rfl
 ht:=h.ht.off rfl
 ca:=h.ca.off rfl
 row:=(ai rfl).trans h.row
 aH:=aw
 lk:=h.lk.imp λO=>Ta λO=>SY (ai rfl).trans
 rows:=(ai rfl).trans h.rows
 ix:=λi n r e e2=>(ai rfl).trans (h.ix i n r e e2)
 iL:=h.iL
 bV:=h.bV
 dl:=h.dl.off rfl rfl
 fO:=h.fO.imp λO=>Ta λO=>SY (ai rfl).trans
 log:=(ai rfl).trans h.log
theorem ao.aek (h:ao T N s H)(hf: ∀v x,bC kvs v=R3 x->∃b,x=V.bool b):ao T N s (aK H ⟨27,0⟩ (.dict kvs ep)) where
 self:=(ai rfl).trans h.self
 dict:=(ai rfl).trans h.dict
 kn:=h.kn.off rfl
 ht:=h.ht.off rfl
 ca:=h.ca.off rfl
 row:=(ai rfl).trans h.row
 aH:=(ai rfl).trans h.aH
 lk:=⟨kvs,ep,aw,hf⟩
 rows:=(ai rfl).trans h.rows
 ix:=λi n r e e2=>(ai rfl).trans (h.ix i n r e e2)
 iL:=h.iL
 bV:=h.bV
 dl:=h.dl.off rfl rfl
 fO:=h.fO.imp λO=>Ta λO=>SY (ai rfl).trans
 log:=(ai rfl).trans h.log
theorem ao.acy (h:ao T N s H)(x:R4 (R4 Sj)):ao T N (s.wB x) (aK H ⟨31,0⟩ (.list (x.map tup))) where
 self:=(ai rfl).trans h.self
 dict:=(ai rfl).trans h.dict
 kn:=h.kn.off rfl
 ht:=h.ht.off rfl
 ca:=h.ca.off rfl
 row:=(ai rfl).trans h.row
 aH:=(ai rfl).trans h.aH
 lk:=h.lk.imp λO=>Ta λO=>SY (ai rfl).trans
 rows:=(ai rfl).trans h.rows
 ix:=λi n r e e2=>(ai rfl).trans (h.ix i n r e e2)
 iL:=h.iL
 bV:=h.bV
 dl:=h.dl.off rfl rfl
 fO:=h.fO.imp λO=>Ta λO=>SY (ai rfl).trans
 log:=aw
theorem ao.acz (h:ao T N s H)(h1:kvs.map (·.1)=vars N)(h2: ∀p∈kvs,∃i,p.2=V.int i):ao T N s (aK H ⟨30,s.nh⟩ (.dict kvs ep)) where
 self:=(ai rfl).trans h.self
 dict:=(ai rfl).trans h.dict
 kn:=h.kn.off rfl
 ht:=h.ht.off rfl
 ca:=h.ca.off rfl
 row:=(ai rfl).trans h.row
 aH:=(ai rfl).trans h.aH
 lk:=h.lk.imp λO=>Ta λO=>SY (ai rfl).trans
 rows:=(ai rfl).trans h.rows
 ix:=λi n r e e2=>(ai rfl).trans (h.ix i n r e e2)
 iL:=h.iL
 bV:=h.bV
 dl:=h.dl.off rfl rfl
 fO:=⟨kvs,ep,aw,h1,h2⟩
 log:=(ai rfl).trans h.log
theorem ao.ael (h:ao T N s H)(hn:s.rl[i]? =R3 n):ao T N (s.c4 s.rl (s.rows.set i r)) (aK H ⟨32,n⟩ (.list (bH r))) where
 self:=(ai rfl).trans h.self
 dict:=(ai rfl).trans h.dict
 kn:=h.kn.off rfl
 ht:=h.ht.off rfl
 ca:=h.ca.off rfl
 row:=(ai rfl).trans h.row
 aH:=(ai rfl).trans h.aH
 lk:=h.lk.imp λO=>Ta λO=>SY (ai rfl).trans
 rows:=(ai rfl).trans h.rows
 ix:=λj m r' e e2=>by
  have e2:(s.rows.set i r)[j]? =R3 r':=e2;replace e:s.rl[j]? =R3 m:=e;by_cases w:j=i
  ·subst w;replace e:=hn▸e;obtain rfl:=R7 e;have hj:=(R6.mp e2).1;replace hj:=VB▸hj;replace e2:=(Tv hj)▸e2;obtain rfl:=R7 e2;exact aw
  ·rw[Uc (TH w)]at e2;refine(aO λz=>w ?_).trans (h.ix j m r' e e2);have z:m=n:=SU Ad.n z;subst z;exact(UG (R6.mp e).1 h.iL).mp (e.trans hn.symm)
 iL:=h.iL
 bV:=h.bV.trans VB.symm
 dl:=h.dl.off rfl rfl
 fO:=h.fO.imp λO=>Ta λO=>SY (ai rfl).trans
 log:=(ai rfl).trans h.log
theorem ao.Hz (h:ao T N s H)(hd:DL 29 19 0 pn bL H')(e: ∀b o,H b=R3 o->b.k≠29->b.k≠19->H' b=R3 o):ao T N (s.fN pn bL) H' where
 self:=e _ _ h.self (Ss rfl) (Ss rfl)
 dict:=e _ _ h.dict (Ss rfl) (Ss rfl)
 kn:=h.kn.frm λo q=>e _ _ q (Ss rfl) (Ss rfl)
 ht:=h.ht.frm λo q=>e _ _ q (Ss rfl) (Ss rfl)
 ca:=h.ca.frm λo q=>e _ _ q (Ss rfl) (Ss rfl)
 row:=e _ _ h.row (Ss rfl) (Ss rfl)
 aH:=e _ _ h.aH (Ss rfl) (Ss rfl)
 lk:=h.lk.imp λO=>Ta λO=>SY λq=>e _ _ q (Ss rfl) (Ss rfl)
 rows:=e _ _ h.rows (Ss rfl) (Ss rfl)
 ix:=λi n r q q2=>e _ _ (h.ix i n r q q2) (Ss rfl) (Ss rfl)
 iL:=h.iL
 bV:=h.bV
 dl:=hd
 fO:=h.fO.imp λO=>Ta λO=>SY λq=>e _ _ q (Ss rfl) (Ss rfl)
 log:=e _ _ h.log (Ss rfl) (Ss rfl)
theorem ao.acA (h:ao T N s H)(hn:H ⟨32,n⟩=Sg)(hin:n∉s.rl):ao T N (s.c4 (s.rl++[n]) (s.rows++[r])) (aK (aK H ⟨32,n⟩ (.list (bH r))) ⟨28,0⟩ (.list ((s.rl++[n]).map λn=>V.ref ⟨32,n⟩))) where
 self:=(ai rfl).trans ((ai rfl).trans h.self)
 dict:=(ai rfl).trans ((ai rfl).trans h.dict)
 kn:=(h.kn.off rfl).off rfl
 ht:=(h.ht.off rfl).off rfl
 ca:=(h.ca.off rfl).off rfl
 row:=(ai rfl).trans ((ai rfl).trans h.row)
 aH:=(ai rfl).trans ((ai rfl).trans h.aH)
 lk:=h.lk.imp λO=>Ta λO=>SY λq=>(ai rfl).trans ((ai rfl).trans q)
 rows:=aw
 ix:=λj m r' e e2=>by
  have e:(s.rl++[n])[j]? =R3 m:=e;have e2:(s.rows++[r])[j]? =R3 r':=e2;rw[ai rfl];by_cases w:j<s.rl.length
  ·replace e:=(SW w)▸e;rw[SW (by rw[<-h.bV];exact w)]at e2;refine(aO λz=>hin ?_).trans (h.ix j m r' e e2);refine(show m=n from SU Ad.n z)▸?_;exact R9 e
  ·have hj:=(R6.mp e).1;replace hj:=Sr▸hj;have w:j=s.rl.length:=SK (Um hj) (T0.mp w);subst w;replace e:=(TC)▸e;obtain rfl:=R7 e;replace e2:=(TC)▸h.bV▸e2;obtain rfl:=R7 e2;exact aw
 iL:=Tf.mpr ⟨h.iL,S6.mpr ⟨Sy,Tm⟩,λa ha b hb z=>hin (by rw[<-R8.mp hb,<-z];exact ha)⟩
 bV:=by show(s.rl++[n]).length=(s.rows++[r]).length;rw[Sr,Sr,h.bV];rfl
 dl:=(h.dl.off rfl rfl).off rfl rfl
 fO:=h.fO.imp λO=>Ta λO=>SY λq=>(ai rfl).trans ((ai rfl).trans q)
 log:=(ai rfl).trans ((ai rfl).trans h.log)
theorem ao.RT (h:ao T N s H){b:R4 SH}:ao T N (s.oB n b) (aK (aK H ⟨26,n⟩ (.list (kq b))) ⟨21,0⟩ (.bB (nS (s.oB n b)))) where
 self:=(ai rfl).trans ((ai rfl).trans h.self)
 dict:=aw
 kn:=(h.kn.off rfl).off rfl
 ht:=(h.ht.off rfl).off rfl
 ca:=(h.ca.off rfl).off rfl
 row:=(ai rfl).trans ((ai rfl).trans h.row)
 aH:=(ai rfl).trans aw
 lk:=h.lk.imp λO=>Ta λO=>SY λq=>(ai rfl).trans ((ai rfl).trans q)
 rows:=(ai rfl).trans ((ai rfl).trans h.rows)
 ix:=λi n r e e2=>(ai rfl).trans ((ai rfl).trans (h.ix i n r e e2))
 iL:=h.iL
 bV:=h.bV
 dl:=(h.dl.off rfl rfl).off rfl rfl
 fO:=h.fO.imp λO=>Ta λO=>SY λq=>(ai rfl).trans ((ai rfl).trans q)
 log:=(ai rfl).trans ((ai rfl).trans h.log)
theorem ao.RU (h:ao T N s H)(h1:kvs.map (·.1)=vars N)(h2: ∀p∈kvs,∃i,p.2=V.int i):ao T N (s.Du n) (aK (aK H ⟨30,n⟩ (.dict kvs ep)) ⟨21,0⟩ (.bB (nS (s.Du n)))) where
 self:=(ai rfl).trans ((ai rfl).trans h.self)
 dict:=aw
 kn:=(h.kn.off rfl).off rfl
 ht:=(h.ht.off rfl).off rfl
 ca:=(h.ca.off rfl).off rfl
 row:=(ai rfl).trans ((ai rfl).trans h.row)
 aH:=(ai rfl).trans ((ai rfl).trans h.aH)
 lk:=h.lk.imp λO=>Ta λO=>SY λq=>(ai rfl).trans ((ai rfl).trans q)
 rows:=(ai rfl).trans ((ai rfl).trans h.rows)
 ix:=λi n r e e2=>(ai rfl).trans ((ai rfl).trans (h.ix i n r e e2))
 iL:=h.iL
 bV:=h.bV
 dl:=(h.dl.off rfl rfl).off rfl rfl
 fO:=⟨kvs,ep,(ai rfl).trans aw,h1,h2⟩
 log:=(ai rfl).trans ((ai rfl).trans h.log)
end
section
noncomputable def tv (row:R4 Sj)(x:Sj):Si Tn:=if x∈row then R3 Sn else if -x∈row then R3 Sf else Sg
noncomputable def ov:Si Tn->V |none=>.none |some b=>.bool b
structure En where
 l:Sj
 h:SH
 c:Si SH
noncomputable def cv:Si SH->V |none=>.none |some n=>.int (n:Sj)
noncomputable def lits (tr:R4 En):R4 Sj:=tr.map En.l
noncomputable def S.sT (s:S)(kn ht ca:Sj->Si V)(row:R4 Sj):S:={s with kn:=kn,ht:=ht,ca:=ca,row:=row}
structure dj (N:SH)(s:S)(tr:R4 En):Prop where
 row:s.row=lits tr
 kn: ∀v:Sj,0<v->s.kn v=(tv s.row v).map V.bool
 ht: ∀e∈tr,s.ht (e.l.natAbs:Sj)=R3 (.int (e.h:Sj))
 ca: ∀e∈tr,s.ca (e.l.natAbs:Sj)=R3 (cv e.c)
 var: ∀e∈tr,1<=e.l.natAbs/\e.l.natAbs<=N
 nd:(tr.map λe=>e.l.natAbs).Nodup
 zx: ∀(i:SH) (e:En) (j b:SH),tr[i]? =R3 e->s.aH[j]? =R3 b->(i<b↔e.h<=j)
 bb: ∀b∈s.aH,b<=tr.length
 hb: ∀e∈tr,e.h<=s.aH.length
 seen:s.seen<=tr.length
 zy: ∀(i:SH) (e:En),tr[i]? =R3 e->s.seen<=i->e.h=s.aH.length
section
variable{s s':S}{tr:R4 En}{c:Si SH}
theorem bX:x∈lits tr↔∃e∈tr,e.l=x:=SL
theorem dj.len (h:dj N s tr):tr.length<=N:=by
 have:=kT (ks:=tr.map λe=>e.l.natAbs - 1) (n:=N) ?_ ?_;·rwa [Sa]at this
 ·have:=h.nd;rw[show(tr.map λe=>e.l.natAbs - 1)=(tr.map λe=>e.l.natAbs).map (· - 1) by rw[Tg];rfl];refine Uv.mpr (this.imp_of_mem λ{a b} ha hb cF z=>cF ?_);obtain⟨e,he,rfl⟩:=SL.mp ha;obtain⟨e',u9,rfl⟩:=SL.mp hb;have i1:=h.var e he;have i2:=h.var e' u9;exact SK (yN [_,_,_,_] [] 0xf13a502a05032521054 rfl z (li _ _) (i6 (yN [_] [] 0xf011c50011c54 rfl i2.1))) (yN [_,_,_,_] [] 0xf12a503a05032321054 rfl z (li _ _) (i6 (yN [_] [] 0xf011c50011c54 rfl i1.1)))
 ·intro k hk;obtain⟨e,he,rfl⟩:=SL.mp hk;have:=h.var e he;exact yN [_,_,_] [] 0xf20a50125010a54 rfl this.2 (i6 (yN [_] [] 0xf011c50011c54 rfl this.1))
theorem gv {e e':En}{tr:R4 En}(hn:(tr.map λe=>e.l.natAbs).Nodup)(h1:e∈tr)(h2:e'∈tr)(he:e.l.natAbs=e'.l.natAbs):e=e':=by
 induction tr with
 |nil=>exact Sw h1 Sy
 |cons a r ih=>
  rw[Tq,S6]at hn;rcases SZ.mp h1 with rfl |k1<;>rcases SZ.mp h2 with rfl |k2;·rfl
  ·exact Sw (SL.mpr ⟨e',k2,he.symm⟩) hn.1
  ·exact Sw (SL.mpr ⟨e,k1,he⟩) hn.1
  ·exact ih hn.2 k1 k2
theorem dj.cons (h:dj N s tr)(hx:x∈s.row): -x∉s.row:=λz=>by
 rw[h.row]at hx z;obtain⟨e,he,rfl⟩:=bX.mp hx;obtain⟨e',u9,q⟩:=bX.mp z;have:=gv h.nd he u9 (by exact(XK 0 _).elim (λbE=>SK (yN [_,_] [_,_] 0xf2151301f5121f0531054 rfl q (sb _) (jX (yZ [] [_] 0xf001c51001c55 rfl bE))) (yN [_,_] [_,_] 0xf01f151325121f0331054 rfl q Ts (my (yZ [] [_,_] 0xf201c5121f05301c055 rfl q bE)))) (λbE=>SK (yN [_,_] [_,_] 0xf21f151305121f0331054 rfl q Ts (my (yZ [] [_] 0xf01c05101c055 rfl bE))) (yN [_,_] [_,_] 0xf0151321f5121f0531054 rfl q (sb _) (jX (yZ [] [_,_] 0xf01c25121f033001c55 rfl q bE)))));subst this;have:=h.var e he;exact yF [_] [_] 0xf01f1510151011c60 rfl this.1 (jX (yZ [] [_] 0xf01f033001c65 rfl q)) (my (yZ [] [_] 0xf01f05301c065 rfl q))
theorem dj.nz (h:dj N s tr)(hx:x∈s.row):1<=x.natAbs/\x.natAbs<=N:=by
 replace hx:=h.row▸hx;obtain⟨e,he,rfl⟩:=bX.mp hx;exact h.var e he
theorem uB {row:R4 Sj}{y:Sj}(h1:x∉row)(h2: -x∉row)(hx:x≠0):tv (row++[x]) y=if y=x then R3 Sn else if y= -x then R3 Sf else tv row y:=by
 unfold tv;simp only[Sl,R8];by_cases w:y=x;·rw[Sv w,Sv (.inr w)]
 ·rw[Sq w];by_cases w2:y= -x
  ·subst w2;rw[Sv rfl,Sq λz=>z.elim h2 w,Sv (.inr (T5 x))]
  ·have w3: ¬-y=x:=λhh=>yF [] [_,_] 0xf21f0a51201f53 rfl hh (JO (yZ [] [_,_] 0xf201f3321f055 rfl hh) w2);simp only[w,w2,w3,or_false,Xn]
theorem dj.add (h:dj N s tr)(hv:1<=x.natAbs/\x.natAbs<=N)(h1:x∉s.row)(h2: -x∉s.row):
  dj N (s.sT (λy=>if y=(x.natAbs:Sj)then R3 (.bool (Ul (x>0)))else s.kn y) (λy=>if y=(x.natAbs:Sj)then R3 (.int (s.aH.length:Sj))else s.ht y) (λy=>if y=(x.natAbs:Sj)then R3 (cv c)else s.ca y) (s.row++[x])) (tr++[⟨x,s.aH.length,c⟩]):=by
 have new: ∀e∈tr,e.l.natAbs≠x.natAbs:=λe he z=>by
  have hm:e.l∈s.row:=by rw[h.row];exact bX.mpr ⟨e,he,rfl⟩
  rcases VC.mp z with q |q;·exact h1 (q▸hm)
  ·exact h2 (q▸hm)
 refine⟨by show s.row++[x]=_;rw[h.row];unfold lits;rw[SN];rfl,λv jZ=>?_,λe he=>?_,λe he=>?_,λe he=>?_,?_,λi e j b hi hb=>?_,λb hb=>?_,λe he=>?_,?_,λi e hi hs=>?_⟩
 ·show(if v=(x.natAbs:Sj)then _ else _)=(tv (s.row++[x]) v).map V.bool;rw[uB h1 h2 (λhh=>yF [_] [_] 0xf01f1510151011c60 rfl hv.1 (jX (yZ [] [_] 0xf01c033001c55 rfl hh)) (my (yZ [] [_] 0xf01c05301c055 rfl hh)))];by_cases w:v=(x.natAbs:Sj)
  ·rw[Sv w];by_cases w2:v=x;·rw[Sv w2,Th (by exact yZ [] [_,_] 0xf0253201ca51001ca55 rfl jZ w2)];rfl
   ·rw[Sq w2,Sv (by lia),Ti (by lia)];rfl
  ·rw[Sq w,Sq (by exact λhh=>yF [_] [_,_] 0xf10a5121512033 rfl hh (jX (yZ [] [_,_] 0xf0253201ca51001c55 rfl jZ hh)) (JO (yZ [_] [_,_] 0xf205312511055 rfl Ts hh) w)),Sq (by exact λhh=>yF [_] [_,_] 0xf10a5121f15121f033 rfl hh (my (yZ [] [_,_] 0xf01f253201ca5101c055 rfl jZ hh)) (JO (yZ [_] [_,_] 0xf21f053121f511055 rfl (sb _) hh) w))];exact h.kn v jZ
 ·show(if(e.l.natAbs:Sj)=(x.natAbs:Sj)then _ else _)=_;rcases Sl.mp he with he |he;·rw[Sq λz=>new e he (T1.mp z)];exact h.ht e he
  ·rw[R8.mp he,Sv rfl]
 ·show(if(e.l.natAbs:Sj)=(x.natAbs:Sj)then _ else _)=_;rcases Sl.mp he with he |he;·exact(Sq λz=>new e he (T1.mp z))▸(h.ca e he)
  ·rw[R8.mp he,Sv rfl]
 ·rcases Sl.mp he with he |he;·exact h.var e he
  ·rw[R8.mp he];exact hv
 ·rw[SN];refine Tf.mpr ⟨h.nd,S6.mpr ⟨Sy,Tm⟩,λa ha b hb z=>?_⟩;obtain⟨e,he,rfl⟩:=SL.mp ha;rw[R8.mp hb]at z;exact new e he z
 ·by_cases w:i<tr.length;·rw[SW w]at hi;exact h.zx i e j b hi hb
  ·have:=h.bb b (R9 hb);have hj:=(R6.mp hb).1;replace hi:=(Wy)▸(Ud (T0.mp w))▸hi;split at hi
   ·obtain rfl:=R7 hi;exact⟨λz=>Sw z (λhh=>yF [_,_,_] [] 0xf20a50125010a54 rfl w this z),λz=>Sw z (VW.mpr hj)⟩
   ·exact c6 hi
 ·exact SJ (h.bb b hb) (by rw[Sr];exact UN _ _)
 ·rcases Sl.mp he with he |he;·exact h.hb e he
  ·rw[R8.mp he];exact S8 _
 ·exact SJ h.seen (by rw[Sr];exact UN _ _)
 ·by_cases w:i<tr.length;·rw[SW w]at hi;exact h.zy i e hi hs
  ·replace hi:=(Wy)▸(Ud (T0.mp w))▸hi;split at hi;·obtain rfl:=R7 hi;rfl
   ·exact c6 hi
theorem dj.cut (h:dj N s tr){m:SH}(hm: ∀(i:SH) (e:En),tr[i]? =R3 e->i<m->e.h<=k)(hbk: ∀(j b:SH),s.aH[j]? =R3 b->j<k->b<=m)(e1:s'.row=s.row.take m)(e2: ∀v:Sj,0<v->s'.kn v=(tv s'.row v).map V.bool)(e3:s'.ht=s.ht)(e4:s'.ca=s.ca)(e5:s'.aH=s.aH.take k)(hk:k<=s.aH.length)(e6:s'.seen=m)(hml:m<=tr.length):dj N s' (tr.take m):=by
 have mem: ∀{e},e∈tr.take m->e∈tr:=λ{e}=>TU;have get: ∀{i:SH} {e:En},(tr.take m)[i]? =R3 e->tr[i]? =R3 e/\i<m:=λ{i e} q=>by have hi:=(R6.mp q).1;rw[S9]at hi;rw[Tu (by exact yN [_,_,_] [] 0xf125020a5010a54 rfl hi (Tr _ _))]at q;exact⟨q,yN [_,_,_] [] 0xf125020a5010a54 rfl hi (Tr _ _)⟩
 refine⟨by rw[e1,h.row];unfold lits;rw[Vb],e2,λe he=>by rw[e3];exact h.ht e (mem he),λe he=>by rw[e4];exact h.ca e (mem he),λe he=>h.var e (mem he),by rw[Vb];exact h.nd.sublist (Wi _ _),
  λi e j b hi hb=>?_,λb hb=>?_,λe he=>?_,?_,λi e hi hs=>?_⟩
 ·rw[e5]at hb;have hj:=(R6.mp hb).1;rw[S9]at hj;rw[Tu (by exact yN [_,_,_] [] 0xf125020a5010a54 rfl hj (Tr _ _))]at hb;exact h.zx i e j b (get hi).1 hb
 ·rw[e5]at hb;obtain⟨j,hj⟩:=S5.mp hb;have hj':=(R6.mp hj).1;rw[S9]at hj';rw[Tu (by exact yN [_,_,_] [] 0xf125020a5010a54 rfl hj' (Tr _ _))]at hj;rw[S9];have:=hbk j b hj (yN [_,_,_] [] 0xf125020a5010a54 rfl hj' (Tr _ _));exact yN [_,_,_] [] 0xf213220501054 rfl this (Ue (yN [_,_] [] 64698191956 rfl hml))
 ·obtain⟨i,hi⟩:=S5.mp he;obtain⟨q1,q2⟩:=get hi;rw[e5,S9];have:=hm i e q1 q2;exact yN [_,_,_] [] 0xf213220501054 rfl this (Ue (yN [_,_] [] 64698191956 rfl hk))
 ·rw[e6,S9];exact yN [_,_] [] 64444567636 rfl (Ue (yN [_,_] [] 64698191956 rfl hml))
 ·rw[e6]at hs;have:=(get hi).2;exact yF [_,_] [] 0xf01a501050 rfl hs this
end
end
variable{tr cq:R4 En}{ok':SH->En->SH->Prop}{e':En}
section
variable{s:S}
noncomputable abbrev sf:Si V:=R3 (.ref ⟨20,0⟩)
theorem HA (h: ∀v,bC kvs v=f v)(x:Sj)(w:V): ∀v,bC (cY kvs x w) v=if v=x then R3 w else f v:=λv=>by
 rw[gb];by_cases q:v=x;·rw[Sv q,Sv q]
 ·rw[Sq q,Sq q];exact h v
theorem acB (h: ∀v,bC kvs v=f v)(x:Sj): ∀v,bC (oi kvs x) v=if v=x then Sg else f v:=λv=>by
 rw[mV];by_cases q:v=x;·rw[Sv q,Sv q]
 ·rw[Sq q,Sq q];exact h v
section
variable{Q:Unit->St->Prop}{w:V}
theorem ao.aem (h:ao T N s H)(h1: -1000<=x)(h2:x<=1000)(q: ∀H',ao T N (s.sKn λv=>if v=x then R3 w else s.kn v) H'->bM 20 40 H H'->Q () ⟨l,H'⟩):dg (.ref ⟨22,0⟩) (.int x) w ⟨l,H⟩ Q:=by
 obtain⟨kvs,ep,hd,hv⟩:=h.kn;exact gU hd h1 h2 λep'=>q _ (h.acw (HA hv x w)) (.set rfl)
theorem ao.aen (h:ao T N s H)(h1: -1000<=x)(h2:x<=1000)(q: ∀H',ao T N (s.sHt λv=>if v=x then R3 w else s.ht v) H'->bM 20 40 H H'->Q () ⟨l,H'⟩):dg (.ref ⟨23,0⟩) (.int x) w ⟨l,H⟩ Q:=by
 obtain⟨kvs,ep,hd,hv⟩:=h.ht;exact gU hd h1 h2 λep'=>q _ (h.aei (HA hv x w)) (.set rfl)
theorem ao.aeo (h:ao T N s H)(h1: -1000<=x)(h2:x<=1000)(q: ∀H',ao T N (s.sCa λv=>if v=x then R3 w else s.ca v) H'->bM 20 40 H H'->Q () ⟨l,H'⟩):dg (.ref ⟨24,0⟩) (.int x) w ⟨l,H⟩ Q:=by
 obtain⟨kvs,ep,hd,hv⟩:=h.ca;exact gU hd h1 h2 λep'=>q _ (h.aej (HA hv x w)) (.set rfl)
theorem ao.aep (h:ao T N s H)(h1: -1000<=x)(h2:x<=1000)(q: ∀H',ao T N s H'->bM 20 40 H H'->Q () ⟨l,H'⟩):dg (.ref ⟨27,0⟩) (.int x) (.bool b) ⟨l,H⟩ Q:=by
 obtain⟨kvs,ep,hd,hv⟩:=h.lk;refine gU hd h1 h2 λep'=>q _ (h.aek λv w e=>?_) (.set rfl);replace e:=gb▸e;split at e;·obtain rfl:=R7 e;exact⟨b,rfl⟩
 ·exact hv v w e
theorem ao.HB (h:ao T N s H)(q: ∀H',ao T N (s.kr n) H'->bM 20 40 H H'->Q () ⟨l,H'⟩):ce T.S 14 (.ref ⟨20,0⟩) (.int (n:Sj)) ⟨l,H⟩ Q:=hY h.self h.dict (q _ (h.RO n) (.set rfl))
theorem ao.acC (h:ao T N s H)(q: ∀H',ao T N s.Hy H'->bM 20 40 H H'->Q () ⟨l,H'⟩):ce T.S 21 (.ref ⟨20,0⟩) (.bool Sn) ⟨l,H⟩ Q:=hY h.self h.dict (q _ h.acv (.set rfl))
theorem ao.HC (h:ao T N s H)(q: ∀H',ao T N (s.ig x) H'->bM 20 40 H H'->Q () ⟨l,H'⟩):ce T.S 19 (.ref ⟨20,0⟩) (.int x) ⟨l,H⟩ Q:=hY h.self h.dict (q _ (h.RQ x) (.set rfl))
theorem ao.acD (h:ao T N s H){b:R4 Sj}(q: ∀H',ao T N (s.RN b) H'->bM 20 40 H H'->Q () ⟨l,H'⟩):ce T.S 22 (.ref ⟨20,0⟩) (tup b) ⟨l,H⟩ Q:=hY h.self h.dict (q _ (h.aeg b) (.set rfl))
theorem ao.Hs (h:ao T N s H)(q: ∀H',ao T N (s.sCl n) H'->bM 20 40 H H'->Q () ⟨l,H'⟩):ce T.S 23 (.ref ⟨20,0⟩) (.int (n:Sj)) ⟨l,H⟩ Q:=hY h.self h.dict (q _ (h.aeh n) (.set rfl))
end
theorem ao.acE (h:ao T N s H)(hz:s.row.length<=big)(q: ∀H',ao T N (s.RM (s.row++[x])) H'->bM 20 40 H H'->Q .none ⟨l,H'⟩):dc (.ref ⟨25,0⟩) (.int x) ⟨l,H⟩ Q:=
 eK h.row (by rwa [ag]) (by have:=h.OT (s.row++[x]);rw[dA]at this;exact q _ this (.set rfl))
theorem ao.Mq (h:ao T N s H)(e:s.row=r++[x])(hz:r.length<big)(q: ∀H',ao T N (s.RM r) H'->bM 20 40 H H'->Q (.int x) ⟨l,H'⟩):C0 (.ref ⟨25,0⟩) ⟨l,H⟩ Q:=
 OJ (by rw[<-dA,<-e];exact h.row) (by rwa [ag]) (q _ (h.OT r) (.set rfl))
theorem ao.acF (h:ao T N s H)(hz:s.aH.length<=big)(q: ∀H',ao T N (s.oB s.nb (s.aH++[n])) H'->bM 20 40 H H'->Q .none ⟨l,H'⟩):dc (.ref ⟨26,s.nb⟩) (.int (n:Sj)) ⟨l,H⟩ Q:=
 eK h.aH (by rwa [cb]) (by have:=h.acx (s.aH++[n]);rw[show kq (s.aH++[n])=kq s.aH++[V.int (n:Sj)] from SN]at this;exact q _ this (.set rfl))
theorem ao.HE (h:ao T N s H)(hz:s.log.length<=big)(q: ∀H',ao T N (s.wB (s.log++[c])) H'->bM 20 40 H H'->Q .none ⟨l,H'⟩):dc (.ref ⟨31,0⟩) (tup c) ⟨l,H⟩ Q:=
 eK h.log (by rwa [Sa]) (by have:=h.acy (s.log++[c]);rw[SN]at this;exact q _ this (.set rfl))
theorem RV {a:Ad}{n:Sj}{v:V}(h:H a=R3 (.dict ds ep))(hv:bC ds n=R3 v)(q: ∀ep,Q v ⟨l,aK H a (.dict (oi ds n) ep)⟩):Bo (.ref a) (.int n) ⟨l,H⟩ Q:=by
 unfold Bo;exact⟨a,n,ds,ep,rfl,rfl,h,v,hv,q⟩
theorem ao.RW (h:ao T N s H){v:V}(e:s.kn x=R3 v)(q: ∀H',ao T N (s.sKn λy=>if y=x then Sg else s.kn y) H'->bM 20 40 H H'->Q v ⟨l,H'⟩):Bo (.ref ⟨22,0⟩) (.int x) ⟨l,H⟩ Q:=by
 obtain⟨kvs,ep,hd,hv⟩:=h.kn;exact RV hd (by rw[hv];exact e) λep'=>q _ (h.acw (acB hv x)) (.set rfl)
def ae2 (s:S):Prop:=∀v:Sj,0<v->s.kn v=(tv s.row v).map V.bool
theorem gM {a:Ad}(h:ao T N s H)(ha:a=⟨20,0⟩)(hk:dj N s tr)(hx:x≠0)(q:Q (ov (tv s.row x)) ⟨l,H⟩):dF T [.ref a,.int x] ⟨l,H⟩ Q:=by
 subst ha;obtain⟨kvs,ep,hd,hv⟩:=h.kn;unfold dF;refine bJ 1 rfl (aG rfl h.self h.dict rfl trivial (lS hd (RB hd (bj rfl rfl ?_))));rw[hv,hk.kn _ (by exact(Int.lt_or_gt_of_ne hx).elim (λbE=>yZ [_] [_] 0xf01c0a51101f51101ca55 rfl (sb _) bE) (λbE=>yZ [_] [_] 0xf001ca511051101ca55 rfl Ts bE))];have fl:tv s.row x=(tv s.row (x.natAbs:Sj)).map λb=>b==decide (x>0):=by
  by_cases w:0<x
  ·rw[show(x.natAbs:Sj)=x by exact Td (yZ [_] [_] 64446595413 rfl (jX (yZ [] [_] 0xf001ca51001c55 rfl w))) (yZ [_] [_] 64698257493 rfl Ts),Th w];cases tv s.row x with
   |none=>rfl
   |some b=>simp
  ·rw[show(x.natAbs:Sj)= -x by exact Td (yZ [_] [_] 0xf01f15101f155 rfl (my (yZ [] [_] 0xf001ca5501c055 rfl w))) (yZ [_] [_] 0xf101f51101f55 rfl (sb _)),Ti w];unfold tv;rw[T5];by_cases w1:x∈s.row;·rw[Sv w1,Sq (hk.cons w1),Sv w1];rfl
   ·rw[Sq w1];by_cases w2: -x∈s.row;·rw[Sv w2,Sv w2];rfl
    ·rw[Sq w2,Sq w2,Sq w1];rfl
 replace q:=fl▸q;cases e:tv s.row (x.natAbs:Sj)with
 |none=>rw[e]at q;exact⟨λO=>q,λz=>gV z⟩
 |some b=>rw[e]at q;refine⟨λz=>(dq z),λO=>rI ?_⟩;unfold iA;exact⟨_,.bb _ _,q⟩
theorem qE {a:Ad}{c:Si SH}(h:ao T N s H)(ha:a=⟨20,0⟩)(hk:dj N s tr)(hN:N<=100)(Bv:s.aH.length<=big)(hv:1<=x.natAbs/\x.natAbs<=N)(h1:x∉s.row)(h2: -x∉s.row)
  (q: ∀kn ht ca H',ao T N (s.sT kn ht ca (s.row++[x])) H'->dj N (s.sT kn ht ca (s.row++[x])) (tr++[⟨x,s.aH.length,c⟩])->bM 20 40 H H'->Q .none ⟨l,H'⟩):jq T [.ref a,.int x,cv c] ⟨l,H⟩ Q:=by
 subst ha;have b1: -1000<=(x.natAbs:Sj):=yZ [_] [] 64758496597 rfl;have b2:(x.natAbs:Sj)<=1000:=yZ [_,_] [] 0xf1050642c1503e83c155 rfl hN hv.2;have hrz:s.row.length<=big:=by have:=hk.len;rw[hk.row];unfold lits big;rw[Sa];exact yN [_,_] [] 0xf1050642c150f42405c054 rfl hN this
 unfold jq;refine bJ 1 rfl (bj rfl rfl (rI (aG rfl h.self h.dict rfl trivial (h.aem b1 b2 λH1 g1 f1=>aG rfl g1.self g1.dict rfl trivial (ci (bq g1.aH) (by rw[cb];exact Bv) (aG rfl g1.self g1.dict rfl trivial (g1.aen b1 b2 λH2 g2 f2=>
  aG rfl g2.self g2.dict rfl trivial (g2.aeo b1 b2 λH3 g3 f3=>aG rfl g3.self g3.dict rfl trivial (fh g3.row (g3.acE (x:=x) hrz λH4 g4 f4=>?_))))))))))
 rw[cb]at g4;exact q _ _ _ H4 g4 (hk.add hv h1 h2) (((f1.trans f2).trans f3).trans f4)
end
def Mr (T:Tp):WM Fl:=Z (aR eR []) λx0=>Z (ac 0) λx1=>Z (ce T.S 16 x1 x0) bP
def Ms (T:Tp):WM Fl:=Z (eg []) λx0=>Z (ac 0) λx1=>Z (ce T.S 17 x1 x0) bP
def Mt (T:Tp):WM Fl:=Z (ac 2) λx0=>Z (bY bf x0 (.int 1)) λx1=>Z (sV (.int 1) x1) λx2=>Z (dcI [("v",Sg)] (ae Sn) (ac 0) (ae (.int 0)) x2) λl3=>Z (eg l3) λx4=>Z (ac 0) λx5=>Z (ce T.S 18 x5 x4) bP
def Mu (T:Tp):WM Fl:=Z (ac 0) λx0=>Z (ce T.S 19 x0 (.int 1)) bP
def Mv (T:Tp):WM Fl:=Z (aR eR []) λx0=>Z (ac 0) λx1=>Z (ce T.S 20 x1 x0) bP
def Mw (T:Tp):WM Fl:=Z (ac 0) λx0=>Z (ce T.S 21 x0 (.bool Sf)) bP
def Mx (T:Tp):WM Fl:=Z (aR cR []) λx0=>Z (ac 0) λx1=>Z (ce T.S 22 x1 x0) bP
def My (T:Tp):WM Fl:=Z (ac 0) λx0=>Z (ce T.S 23 x0 (.int 0)) bP
def Mz (T:Tp):WM Fl:=Z (ac 0) λx0=>Z (ce T.S 24 x0 (.int 0)) bP
def zB (T:Tp):WM Fl:=Z (ac 0) λx0=>gK T.S x0<|Z (ac 3) λx1=>Z (cQ T [x0,x1]) λx2=>ae .next
def wC (T:Tp):WM Fl:=Z (ac 1) λx0=>dQ (stI 3) (zB T) x0
def MA (T:Tp):WM Fl:=aq (Mr T) (aq (Ms T) (aq (Mt T) (aq (Mu T) (aq (Mv T) (aq (Mw T) (aq (Mx T) (aq (My T) (aq (Mz T) (wC T)))))))))
def MB (T:Tp):WM Fl:=Z (ac 0) λx0=>gK T.S x0<|Z (oZ T [x0]) λx1=>ae .next
@[irreducible] def jT (T:Tp):R4 V->WM V:=cG 3 (aq (MB T) (MA T))
def wD (T:Tp):WM Fl:=bc T.S 0 16 λx0=>Z (ac 1) λx1=>Z (bT x0 x1) λx2=>Z (stI 3 x2) bP
def rJ (T:Tp):WM Fl:=Z (ac 3) λx0=>Z (bT x0 (.int 1)) λx1=>Z (ac 2) λx2=>Z (aR cR [x1,x2]) λx3=>Z (we [λv=>Z (ac 3) λx0=>dg x0 (.int 0) v,λv=>Z (ac 3) λx0=>dg x0 (.int 1) v] x3) bP
def wE (T:Tp):WM Fl:=bK (Z (ac 3) λx0=>Z (bT x0 (.int 0)) λx1=>Z (ac 2) λx2=>Z (iA x1 x2) aj) (rJ T) (ae .next)
def nU (T:Tp):WM Fl:=bK (Z (ac 0) λx0=>gK T.S x0<|Z (ac 3) λx1=>Z (bT x1 (.int 0)) λx2=>Z (dF T [x0,x2]) λx3=>Z (iA x3 (.bool Sn)) aj) (ae (.ret (.bool Sf))) (ae .next)
def oE (T:Tp):WM Fl:=Z (ac 3) λx0=>Z (ac 4) λx1=>Z (bT x0 x1) λx2=>Z (ac 2) λx3=>Z (aR cR [x2,x3]) λx4=>Z (we [λv=>Z (ac 3) λx0=>dg x0 (.int 1) v,λv=>Z (ac 3) λx0=>Z (ac 4) λx1=>dg x0 x1 v] x4) bP
def oF (T:Tp):WM Fl:=bc T.S 0 17 λx0=>gJ "dict" x0<|Z (ac 3) λx1=>Z (bT x1 (.int 1)) λx2=>Z (aR eR []) λx3=>Z (iH x0 x2 x3) λx4=>gJ "list" x4<|Z (ac 1) λx5=>Z (dc x4 x5) λx6=>ae .next
def oG (T:Tp):WM Fl:=aq (oE T) (aq (oF T) (ae (.ret (.bool Sn))))
def rK (T:Tp):WM Fl:=bK (Z (ac 0) λx0=>gK T.S x0<|Z (ac 3) λx1=>Z (ac 4) λx2=>Z (bT x1 x2) λx3=>Z (dF T [x0,x3]) λx4=>Z (ug x4 (.bool Sf)) aj) (oG T) (ae .next)
def nV (T:Tp):WM Fl:=Z (ac 3) λx0=>Z (cZ x0) λx1=>Z (sV (.int 2) x1) λx2=>dQ (stI 4) (rK T) x2
def wF (T:Tp):WM Fl:=aq (wD T) (aq (wE T) (aq (nU T) (aq (nV T) (ae (.ret (.bool Sf))))))
@[irreducible] def fq (T:Tp):R4 V->WM V:=cG 3 (wF T)
def zC (T:Tp):WM Fl:=bc T.S 0 12 λx0=>bc T.S 0 14 λx1=>Z (bT x0 x1) λx2=>Z (fS x2) λx3=>Z (stI 1 x3) bP
def zE (T:Tp):WM Fl:=bc T.S 0 14 λx0=>Z (bY bf x0 (.int 1)) λx1=>Z (ac 0) λx2=>Z (ce T.S 14 x2 x1) bP
def zF (T:Tp):WM Fl:=bc T.S 0 17 λx0=>gJ "dict" x0<|Z (ac 1) λx1=>Z (aR bf []) λx2=>Z (za x0 x1 x2) λx3=>Z (aR eR []) λx4=>Z (aR cR [x3,x4]) λx5=>Z (iY [stI 3,stI 2] x5) bP
def zG (T:Tp):WM Fl:=Z (ac 3) λx0=>bc T.S 0 17 λx1=>Z (ac 1) λx2=>Z (dg x1 x2 x0) bP
def qF (T:Tp):WM Fl:=Z (ac 3) λx0=>gJ "list" x0<|Z (ac 2) λx1=>Z (ac 4) λx2=>Z (bT x1 x2) λx3=>Z (dc x0 x3) λx4=>ae .next
def qG (T:Tp):WM Fl:=bc T.S 0 16 λx0=>Z (ac 2) λx1=>Z (ac 4) λx2=>Z (bT x1 x2) λx3=>Z (bT x0 x3) λx4=>Z (bT x4 (.int 0)) λx5=>Z (stI 5 x5) bP
def mZ (T:Tp):WM Fl:=Z (ac 3) λx0=>gJ "list" x0<|Z (ac 2) λx1=>Z (ac 4) λx2=>Z (bY bf x2 (.int 1)) λx3=>Z (sW bf x1 x3) λx4=>Z (Rh x0 x4) λx5=>ae .next
def m6 (T:Tp):WM Fl:=Z (ac 2) λx0=>Z (ac 4) λx1=>Z (bT x0 x1) λx2=>ae (.ret x2)
def m7 (T:Tp):WM Fl:=aq (mZ T) (m6 T)
def qH (T:Tp):WM Fl:=bK (Z (ac 0) λx0=>gK T.S x0<|Z (ac 5) λx1=>Z (dF T [x0,x1]) λx2=>Z (iA x2 (.bool Sf)) aj) (m7 T) (ae .next)
def m8 (T:Tp):WM Fl:=Z (ac 0) λx0=>gK T.S x0<|Z (ac 5) λx1=>Z (ac 2) λx2=>Z (ac 4) λx3=>Z (bT x2 x3) λx4=>Z (jq T [x0,x1,x4]) λx5=>ae .next
def qI (T:Tp):WM Fl:=bK (Z (ac 0) λx0=>gK T.S x0<|Z (ac 5) λx1=>Z (dF T [x0,x1]) λx2=>Z (dB x2 .none) aj) (m8 T) (ae .next)
def qJ (T:Tp):WM Fl:=aq (qF T) (aq (qG T) (aq (qH T) (qI T)))
def uC (T:Tp):WM Fl:=bK (ka (Z (ac 0) λx0=>gK T.S x0<|Z (ac 2) λx1=>Z (ac 4) λx2=>Z (bT x1 x2) λx3=>Z (ac 1) λx4=>Z (fq T [x0,x3,x4]) λx5=>aj x5)) (qJ T) (ae .next)
def qK (T:Tp):WM Fl:=Z (ac 2) λx0=>Z (cZ x0) λx1=>Z (sU x1) λx2=>dQ (stI 4) (uC T) x2
def zH (T:Tp):WM Fl:=aq (zC T) (aq (zE T) (aq (zF T) (aq (zG T) (qK T))))
def HF (T:Tp):WM Fl:=gT (bc T.S 0 14 λx0=>bc T.S 0 12 λx1=>Z (cZ x1) λx2=>Z (ltI x0 x2) aj) (zH T)
def HG (T:Tp):WM Fl:=aq (HF T) (ae (.ret (.int (-1))))
@[irreducible] def jt (T:Tp):R4 V->WM V:=cG 1 (HG T)
def RX (T:Tp):WM Fl:=bc T.S 0 18 λx0=>Z (ac 1) λx1=>Z (bT x0 x1) λx2=>bc T.S 0 19 λx3=>Z (bY bf x2 x3) λx4=>bc T.S 0 18 λx5=>Z (ac 1) λx6=>Z (dg x5 x6 x4) bP
def HH (T:Tp):WM Fl:=bc T.S 0 18 λx0=>Z (dcI [("u",Sg),("self",R3 0)] (ae Sn) (ac 0) (bc T.S 1 18 λx1=>Z (ac 0) λx2=>Z (bT x1 x2) λx3=>Db x3 (.int 1000000000)) x0) λl1=>Z (eg l1) λx2=>Z (ac 0) λx3=>Z (ce T.S 18 x3 x2) bP
def HI (T:Tp):WM Fl:=Z (ac 0) λx0=>Z (ce T.S 19 x0 (.int 1)) bP
def HJ (T:Tp):WM Fl:=aq (HH T) (HI T)
def RY (T:Tp):WM Fl:=bK (bc T.S 0 18 λx0=>Z (ac 1) λx1=>Z (bT x0 x1) λx2=>Z (Da x2 (.int 1000000000)) aj) (HJ T) (ae .next)
def RZ (T:Tp):WM Fl:=aq (RX T) (RY T)
@[irreducible] def qL (T:Tp):R4 V->WM V:=cG 2 (RZ T)
def HK (T:Tp):WM Fl:=Z (eg []) λx0=>Z (aR eR []) λx1=>bc T.S 0 12 λx2=>Z (cZ x2) λx3=>Z (aR cR [x0,x1,(.int 0),x3,(.int 0)]) λx4=>Z (we [stI 2,stI 3,stI 4,stI 5,stI 6] x4) bP
def uD (T:Tp):WM Fl:=Z (ac 7) λx0=>Z (jl x0) λx1=>Z (stI 8 x1) bP
def qM (T:Tp):WM Fl:=Z (ac 2) λx0=>Z (ac 8) λx1=>Z (dg x0 x1 (.bool Sn)) bP
def qN (T:Tp):WM Fl:=Z (ac 0) λx0=>gK T.S x0<|Z (ac 8) λx1=>Z (qL T [x0,x1]) λx2=>ae .next
def m9 (T:Tp):WM Fl:=Z (ac 4) λx0=>Z (bY bf x0 (.int 1)) λx1=>Z (stI 4 x1) bP
def na (T:Tp):WM Fl:=Z (ac 3) λx0=>gJ "list" x0<|Z (ac 7) λx1=>Z (dc x0 x1) λx2=>ae .next
def qO (T:Tp):WM Fl:=bK (bc T.S 0 10 λx0=>Z (ac 8) λx1=>Z (bT x0 x1) λx2=>bc T.S 0 13 λx3=>Z (cZ x3) λx4=>Z (iA x2 x4) aj) (m9 T) (na T)
def qP (T:Tp):WM Fl:=aq (qM T) (aq (qN T) (qO T))
def uE (T:Tp):WM Fl:=bK (eH (Z (ac 7) λx0=>Z (ac 6) λx1=>Z (ug x0 x1) aj) (eH (Z (ac 8) λx0=>Z (ac 2) λx1=>Z (lP x0 x1) aj) (eH (bc T.S 0 10 λx0=>Z (ac 8) λx1=>Z (bT x0 x1) λx2=>Z (Da x2 (.int 0)) aj) (ae Sn)))) (qP T) (ae .next)
def uF (T:Tp):WM Fl:=aq (uD T) (uE T)
def qQ (T:Tp):WM Fl:=bc T.S 0 16 λx0=>Z (ac 1) λx1=>Z (bT x0 x1) λx2=>dQ (stI 7) (uF T) x2
def zI (T:Tp):WM Fl:=Z (ac 5) λx0=>Z (qj x0 (.int 1)) λx1=>Z (stI 5 x1) bP
def uG (T:Tp):WM Fl:=Z (ac 5) λx0=>Z (qj x0 (.int 1)) λx1=>Z (stI 5 x1) bP
def zJ (T:Tp):WM Fl:=gT (bc T.S 0 12 λx0=>Z (ac 5) λx1=>Z (bT x0 x1) λx2=>Z (jl x2) λx3=>Z (ac 2) λx4=>Z (lP x3 x4) aj) (uG T)
def zK (T:Tp):WM Fl:=bc T.S 0 12 λx0=>Z (ac 5) λx1=>Z (bT x0 x1) λx2=>Z (ac 4) λx3=>Z (qj x3 (.int 1)) λx4=>Z (aR cR [x2,x4]) λx5=>Z (iY [stI 4,stI 6] x5) bP
def uH (T:Tp):WM Fl:=Z (ac 6) λx0=>Z (fS x0) λx1=>Z (aR bf [x1]) λx2=>Z (ac 3) λx3=>Z (bY bf x2 x3) λx4=>ae (.ret x4)
def zL (T:Tp):WM Fl:=bK (Z (ac 4) λx0=>Z (iA x0 (.int 0)) aj) (uH T) (ae .next)
def zM (T:Tp):WM Fl:=bc T.S 0 11 λx0=>Z (ac 6) λx1=>Z (jl x1) λx2=>Z (bT x0 x2) λx3=>Z (stI 1 x3) bP
def zN (T:Tp):WM Fl:=aq (qQ T) (aq (zI T) (aq (zJ T) (aq (zK T) (aq (zL T) (zM T)))))
def HL (T:Tp):WM Fl:=gT (aj (.bool Sn)) (zN T)
def HM (T:Tp):WM Fl:=aq (HK T) (HL T)
@[irreducible] def ju (T:Tp):R4 V->WM V:=cG 2 (HM T)
def wG (T:Tp):WM Fl:=bc T.S 0 10 λx0=>Z (ac 1) λx1=>Z (jl x1) λx2=>Z (bT x0 x2) λx3=>ae (.ret x3)
@[irreducible] def fu (T:Tp):R4 V->WM V:=cG 2 (wG T)
def MC (T:Tp):WM Fl:=bc T.S 0 23 λx0=>Z (bY bf x0 (.int 1)) λx1=>Z (ac 0) λx2=>Z (ce T.S 23 x2 x1) bP
def Dv (T:Tp):WM Fl:=Z (ac 0) λx0=>gK T.S x0<|Z (gu T [x0]) λx1=>ae .next
def Dw (T:Tp):WM Fl:=aq (Dv T) (ae (.ret .none))
def MD (T:Tp):WM Fl:=bK (bc T.S 0 13 λx0=>Z (cZ x0) λx1=>Z (iA x1 (.int 0)) aj) (Dw T) (ae .next)
def ME (T:Tp):WM Fl:=Z (ac 0) λx0=>gK T.S x0<|Z (ac 1) λx1=>Z (ju T [x0,x1]) λx2=>Z (stI 2 x2) bP
def MF (T:Tp):WM Fl:=bc T.S 0 20 λx0=>gJ "list" x0<|Z (ac 2) λx1=>Z (di T [x1]) λx2=>Z (dc x0 x2) λx3=>ae .next
def MG (T:Tp):WM Fl:=Z (ac 2) λx0=>Z (eJ bf x0 (.int 1)) λx1=>Z (ac 2) λx2=>Z (sW bf x2 (.int 1)) λx3=>Z (ac 0) λx4=>Z (yY T.S bf x4 x3) λx5=>Z (bY bf x1 x5) λx6=>Z (stI 2 x6) bP
def MH (T:Tp):WM Fl:=Z (ac 0) λx0=>gK T.S x0<|Z (bK (Z (ac 2) λx1=>Z (cZ x1) λx2=>Z (Da x2 (.int 1)) aj) (Z (ac 0) λx1=>gK T.S x1<|Z (ac 2) λx2=>Z (bT x2 (.int 1)) λx3=>fu T [x1,x3]) (ae (.int 0))) λx1=>Z (cK T [x0,x1]) λx2=>ae .next
def MI (T:Tp):WM Fl:=Z (ac 0) λx0=>gK T.S x0<|Z (ac 2) λx1=>Z (bT x1 (.int 0)) λx2=>Z (bK (Z (ac 2) λx3=>Z (cZ x3) λx4=>Z (Da x4 (.int 1)) aj) (Z (ac 0) λx3=>gK T.S x3<|Z (ac 2) λx4=>kP T [x3,x4]) (ae .none)) λx3=>Z (jq T [x0,x2,x3]) λx4=>ae .next
def Bw (T:Tp):WM Fl:=bc T.S 0 19 λx0=>bc T.S 0 19 λx1=>Z (Db x1 (.int 8)) λx2=>Z (bY bf x0 x2) λx3=>Z (bY bf x3 (.int 1)) λx4=>Z (ac 0) λx5=>Z (ce T.S 19 x5 x4) bP
def MJ (T:Tp):WM Fl:=aq (MC T) (aq (MD T) (aq (ME T) (aq (MF T) (aq (MG T) (aq (MH T) (aq (MI T) (Bw T)))))))
@[irreducible] def lW (T:Tp):R4 V->WM V:=cG 2 (MJ T)
def MK (T:Tp):WM Fl:=Z (ac 1) λx0=>Z (aR eR [x0]) λx1=>Z (ac 1) λx2=>Z (jl x2) λx3=>Z (zc x3 (.bool Sn)) λx4=>Z (aR cR [x1,x4]) λx5=>Z (iY [stI 3,stI 2] x5) bP
def Dx (T:Tp):WM Fl:=Z (ac 4) λx0=>Z (jl x0) λx1=>Z (stI 5 x1) bP
def rL (T:Tp):WM Fl:=Z (ac 2) λx0=>gJ "list" x0<|Z (ac 4) λx1=>Z (dc x0 x1) λx2=>ae .next
def rM (T:Tp):WM Fl:=Z (ac 3) λx0=>gJ "dict" x0<|bc T.S 0 16 λx1=>bc T.S 0 11 λx2=>Z (ac 5) λx3=>Z (bT x2 x3) λx4=>Z (bT x1 x4) λx5=>Z (dcI [("late",Sg)] (ae Sn) (Z (ac 0) λx6=>jl x6) (ae (.bool Sn)) x5) λl6=>Z (eg l6) λx7=>Z (GU x0 x7) λx8=>ae .next
def wH (T:Tp):WM Fl:=bK (bc T.S 0 11 λx0=>Z (ac 5) λx1=>Z (bT x0 x1) λx2=>Z (dB x2 .none) aj) (rL T) (rM T)
def Dy (T:Tp):WM Fl:=bK (eH (Z (ac 5) λx0=>Z (ac 3) λx1=>Z (xU x0 x1) aj) (eH (bc T.S 0 10 λx0=>Z (ac 5) λx1=>Z (bT x0 x1) λx2=>Z (Da x2 (.int 0)) aj) (ae Sn))) (wH T) (ae .next)
def Dz (T:Tp):WM Fl:=aq (Dx T) (Dy T)
def ML (T:Tp):WM Fl:=bc T.S 0 12 λx0=>Z (Rk bf x0) λx1=>dQ (stI 4) (Dz T) x1
def MM (T:Tp):WM Fl:=Z (ac 2) λx0=>Z (tupI x0) λx1=>Z (ac 0) λx2=>Z (ce T.S 22 x2 x1) bP
def MN (T:Tp):WM Fl:=Z (ac 2) λx0=>Z (oA [("one",Sg)] (ae Sn) (Z (ac 0) λx1=>fS x1) x0) λl1=>Z (bf l1) λx2=>Z (di T [x2]) λx3=>Z (stI 6 x3) bP
def DA (T:Tp):WM Fl:=bc T.S 0 20 λx0=>gJ "list" x0<|Z (ac 6) λx1=>Z (dc x0 x1) λx2=>ae .next
def MO (T:Tp):WM Fl:=bK (Z (ac 6) λx0=>Z (KG x0 .none) aj) (DA T) (ae .next)
def MP (T:Tp):WM Fl:=aq (MK T) (aq (ML T) (aq (MM T) (aq (MN T) (MO T))))
@[irreducible] def lX (T:Tp):R4 V->WM V:=cG 2 (MP T)
def DB (T:Tp):WM Fl:=Z (stI 1 (.int 0)) bP
def iZ (T:Tp):WM Fl:=Z (ac 2) λx0=>Z (stI 1 x0) bP
def rN (T:Tp):WM Fl:=bK (oh (Z (ac 1) λx0=>Z (iA x0 (.int 0)) aj) (oh (bc T.S 0 18 λx0=>Z (ac 2) λx1=>Z (bT x0 x1) λx2=>Z (ac 2) λx3=>Z (fS x3) λx4=>Z (aR cR [x2,x4]) λx5=>bc T.S 0 18 λx6=>Z (ac 1) λx7=>Z (bT x6 x7) λx8=>Z (ac 1) λx9=>Z (fS x9) λHN=>Z (aR cR [x8,HN]) λHO=>Z (Da x5 HO) aj) (ae Sf))) (iZ T) (ae .next)
def wI (T:Tp):WM Fl:=bK (Z (ac 2) λx0=>bc T.S 0 9 λx1=>Z (lP x0 x1) aj) (rN T) (ae .next)
def DC (T:Tp):WM Fl:=bc T.S 0 18 λx0=>dQ (stI 2) (wI T) x0
def DE (T:Tp):WM Fl:=Z (ac 1) λx0=>ae (.ret x0)
def DF (T:Tp):WM Fl:=aq (DB T) (aq (DC T) (DE T))
@[irreducible] def il (T:Tp):R4 V->WM V:=cG 1 (DF T)
def zO (T:Tp):WM Fl:=Z (ac 1) λx0=>bc T.S 0 13 λx1=>Z (cZ x1) λx2=>Z (bT x0 x2) λx3=>Z (stI 2 x3) bP
def uI (T:Tp):WM Fl:=Z (ac 0) λx0=>gK T.S x0<|Z (ac 2) λx1=>Z (lX T [x0,x1]) λx2=>ae .next
def uJ (T:Tp):WM Fl:=aq (uI T) (ae (.ret (.bool Sf)))
def zP (T:Tp):WM Fl:=bK (Z (ac 0) λx0=>gK T.S x0<|Z (ac 2) λx1=>Z (dF T [x0,x1]) λx2=>Z (iA x2 (.bool Sf)) aj) (uJ T) (ae .next)
def zQ (T:Tp):WM Fl:=aq (zO T) (zP T)
def zR (T:Tp):WM Fl:=Z (ac 0) λx0=>gK T.S x0<|Z (il T [x0]) λx1=>Z (stI 3 x1) bP
def zS (T:Tp):WM Fl:=bK (Z (ac 3) λx0=>Z (iA x0 (.int 0)) aj) (ae (.ret (.bool Sn))) (ae .next)
def zT (T:Tp):WM Fl:=Z (bK (bc T.S 0 15 λx0=>gJ "dict" x0<|Z (ac 3) λx1=>Z (iG x0 x1 (.bool Sf)) λx2=>aj x2) (ac 3) (Z (ac 3) λx0=>fS x0)) λx0=>Z (stI 2 x0) bP
def zU (T:Tp):WM Fl:=aq (zR T) (aq (zS T) (zT T))
def HP (T:Tp):WM Fl:=bK (bc T.S 0 13 λx0=>Z (cZ x0) λx1=>Z (ac 1) λx2=>Z (cZ x2) λx3=>Z (ltI x1 x3) aj) (zQ T) (zU T)
def lY (T:Tp):WM Fl:=bc T.S 0 13 λx0=>gJ "list" x0<|bc T.S 0 12 λx1=>Z (cZ x1) λx2=>Z (dc x0 x2) λx3=>ae .next
def zV (T:Tp):WM Fl:=Z (ac 0) λx0=>gK T.S x0<|Z (ac 2) λx1=>Z (jq T [x0,x1,.none]) λx2=>ae .next
def md (T:Tp):WM Fl:=bK (Z (ac 0) λx0=>gK T.S x0<|Z (ac 2) λx1=>Z (dF T [x0,x1]) λx2=>Z (dB x2 .none) aj) (zV T) (ae .next)
def HQ (T:Tp):WM Fl:=aq (HP T) (aq (lY T) (aq (md T) (ae (.ret .none))))
@[irreducible] def jv (T:Tp):R4 V->WM V:=cG 2 (HQ T)
def MQ (T:Tp):WM Fl:=Z (ac 0) λx0=>gK T.S x0<|Z (cK T [x0,(.int 0)]) λx1=>ae .next
def MR (T:Tp):WM Fl:=Z (aR cR []) λx0=>Z (ac 0) λx1=>Z (ce T.S 22 x1 x0) bP
def DG (T:Tp):WM Fl:=bc T.S 0 18 λx0=>gJ "dict" x0<|Z (ac 2) λx1=>Z (jl x1) λx2=>Z (iH x0 x2 (.int 0)) λx3=>ae .next
def MS (T:Tp):WM Fl:=Z (ac 1) λx0=>dQ (stI 2) (DG T) x0
def MT (T:Tp):WM Fl:=bc T.S 0 23 λx0=>bc T.S 0 23 λx1=>Z (aR cR [x0,x1,(.int 16),.none]) λx2=>Z (we [stI 3,stI 4,stI 5,stI 6] x2) bP
def DH (T:Tp):WM Fl:=Z (ac 0) λx0=>gK T.S x0<|Z (jt T [x0]) λx1=>Z (stI 7 x1) bP
def wJ (T:Tp):WM Fl:=Z (ac 0) λx0=>gK T.S x0<|Z (ac 7) λx1=>Z (lW T [x0,x1]) λx2=>ae .next
def oH (T:Tp):WM Fl:=bc T.S 0 23 λx0=>Z (ac 5) λx1=>Z (ac 5) λx2=>Z (Db x2 (.int 2)) λx3=>Z (bY bf x1 x3) λx4=>Z (aR cR [x0,x4]) λx5=>Z (iY [stI 5,stI 4] x5) bP
def oJ (T:Tp):WM Fl:=Z (ac 0) λx0=>gK T.S x0<|Z (cK T [x0,(.int 0)]) λx1=>ae .next
def i5 (T:Tp):WM Fl:=aq (oH T) (oJ T)
def oK (T:Tp):WM Fl:=Z (ac 0) λx0=>gK T.S x0<|Z (ac 1) λx1=>Z (jv T [x0,x1]) λx2=>Z (stI 6 x2) bP
def rO (T:Tp):WM Fl:=bK (bc T.S 0 23 λx0=>Z (ac 4) λx1=>Z (qj x0 x1) λx2=>Z (ac 5) λx3=>Z (geI x2 x3) aj) (i5 T) (oK T)
def wK (T:Tp):WM Fl:=bK (bc T.S 0 24 λx0=>bK (Z (ltI (.int 0) x0) aj) (bc T.S 0 23 λx1=>Z (ac 3) λx2=>Z (qj x1 x2) λx3=>Z (leI x0 x3) aj) (ae Sf)) (aJ) (rO T)
def DI (T:Tp):WM Fl:=bK (Z (ac 7) λx0=>Z (geI x0 (.int 0)) aj) (wJ T) (wK T)
def DJ (T:Tp):WM Fl:=aq (DH T) (DI T)
def MU (T:Tp):WM Fl:=gT (eH (Z (ac 6) λx0=>Z (dB x0 .none) aj) (eH (ka (bc T.S 0 21 λx0=>aj x0)) (ae Sn))) (DJ T)
def MV (T:Tp):WM Fl:=Z (ac 6) λx0=>Z (iA x0 (.bool Sn)) λx1=>ae (.ret x1)
def MX (T:Tp):WM Fl:=aq (MQ T) (aq (MR T) (aq (MS T) (aq (MT T) (aq (MU T) (MV T)))))
@[irreducible] def me (T:Tp):R4 V->WM V:=cG 2 (MX T)
@[irreducible] def jw (T:Tp):R4 V->WM V:=cG 1 (bc T.S 0 22 λx0=>ae (.ret x0))
@[irreducible] def ip (T:Tp):R4 V->WM V:=Lw T.S (jT T)
section
variable{s:S}
section
variable{x:V}
theorem kW (h:sq H x Sf vs)(hz:vs.length<=big)(q:mk (vs.take i) ⟨l,H⟩ Q):eJ mk x (.int (i:Sj)) ⟨l,H⟩ Q:=by
 unfold eJ;exact⟨vs,i,rfl,h l,hz,.p i q⟩
theorem jx (h:sq H x Sf vs)(hz:vs.length<=big)(q:mk vs.dropLast ⟨l,H⟩ Q):eJ mk x (.int (-1)) ⟨l,H⟩ Q:=by
 unfold eJ;exact⟨vs,-1,rfl,h l,hz,.n q⟩
theorem uK (h:sq H x Sf vs)(hz:vs.length<=big)(q:mk (vs.drop i) ⟨l,H⟩ Q):sW mk x (.int (i:Sj)) ⟨l,H⟩ Q:=by
 unfold sW;exact⟨vs,i,rfl,h l,hz,q⟩
theorem Bx (h:sq H x Sf vs)(hz:vs.length<=big)(q:Q (.bF Sn vs) ⟨l,H⟩):tupI x ⟨l,H⟩ Q:=by
 unfold tupI;exact⟨vs,h l,hz,q⟩
theorem iM (h:sr H x (.seq b vs))(hz:vs.length<=big)(q:mk vs ⟨l,H⟩ Q):listI mk x ⟨l,H⟩ Q:=by
 unfold listI;exact .s x b vs (jf (h l)) hz q
end
theorem dj.OU (h:dj N s tr):(s.row.map Tl).Nodup:=by
 have:=h.nd;rw[h.row];unfold lits;rw[Tg];exact this
theorem dj.bV (h:dj N s tr):s.row.length=tr.length:=by rw[h.row];exact Sa _
theorem dj.rz (h:dj N s tr)(hN:N<=100):s.row.length<=big:=by have h1:=h.len;have h2:=h.bV;unfold big;exact yN [_,_,_] [] 0xf20521250642c150f42405c054 rfl hN h1 h2
theorem MY (h:((r++[x]).map Tl).Nodup): ∀y∈r,y.natAbs≠x.natAbs:=λy hy e=>by
 rw[SN,Tf]at h;exact h.2.2 _ (Tz hy) _ (R8.mpr rfl) e
theorem ao.R0 {Q:Unit->St->Prop}(h:ao T N s H){b:R4 SH}(hn:H ⟨26,n⟩=Sg)(hv:vs=kq b)(q: ∀H',ao T N (s.oB n b) H'->bM 20 40 H H'->Q () ⟨l,H'⟩):ce T.S 13 (.ref ⟨20,0⟩) (.ref ⟨26,n⟩) ⟨l,aK H ⟨26,n⟩ (.list vs)⟩ Q:=by
 subst hv;exact hY ((ai rfl).trans h.self) ((ai rfl).trans h.dict) (q _ h.RT ((bM.new hn).trans (bM.set rfl)))
theorem zW {a:Ad}{h:SH}(g:ao T N s H)(ha:a=⟨20,0⟩)(hk:dj N s tr)(hN:N<=100)(Bv:s.aH.length<=big)
  (fin: ∀kn nb seen m H',ao T N (((s.sT kn s.ht s.ca (s.row.take m)).oB nb (s.aH.take h)).kr seen) H'->dj N (((s.sT kn s.ht s.ca (s.row.take m)).oB nb (s.aH.take h)).kr seen) (tr.take m)->(∀e∈tr.take m,e.h<=h)->(∀e∈tr,e.h<=h->e∈tr.take m)->
   (s.aH.length<=h/\seen=s.seen/\m=tr.length\/h<s.aH.length/\seen=m/\m<=tr.length)->bM 20 40 H H'->Q .none ⟨l,H'⟩):cK T [.ref a,.int (h:Sj)] ⟨l,H⟩ Q:=by
 subst ha;have rz:=hk.rz hN;unfold cK;refine bJ 1 rfl (aG rfl g.self g.dict rfl trivial (ci (bq g.aH) (by rwa [cb]) (Hi ⟨λe=>?_,λe=>?_⟩)))
 ·have e:h<s.aH.length:=by have:=SB e;rw[cb]at this;exact yN [_,_] [] 0xf31a5110a54 rfl this
  obtain⟨n,hn⟩: ∃n,s.aH[h]? =R3 n:=⟨_,SG e⟩;have hnl:=hk.bb n (R9 hn);have bi:gE (kq s.aH) (h:Sj)=R3 (.int (n:Sj)):=eX (by unfold kq;rw[Sx,hn];rfl);have low: ∀(i:SH) (e:En),tr[i]? =R3 e->(i<n↔e.h<=h):=λi e he=>hk.zx i e h n he hn;have bk: ∀(j b:SH),s.aH[j]? =R3 b->j<h->b<=n:=λj b hb hj=>T0.mp λz=>by have hbl:=hk.bb b (R9 hb);have hx:n<tr.length:=yN [_,_,_] [] 0xf125020a5010a54 rfl z hbl;have h1:=(hk.zx n _ j b (SG hx) hb).mp z;have h2:=(low n _ (SG hx)).mpr (yN [_,_,_] [] 0xf205012a501054 rfl hj h1);exact yF [_] [] 15731280 rfl h2
  refine gL (λk J=>X3 λkn H' w=>C6 (J=⟨lo [sf,R3 (.int (h:Sj)),w],H'⟩) (ao T N (s.sT kn s.ht s.ca (s.row.take k)) H') (∀v:Sj,0<v->kn v=(tv (s.row.take k) v).map V.bool) (n<=k) (k<=s.row.length) (bM 20 40 H H')) s.row.length
   ⟨s.kn,H,Sg,rfl,by rw[VS];exact g,λv hv=>by rw[VS];exact hk.kn v hv,by rw[hk.bV];exact hnl,S8 _,.refl⟩ ?_
  rintro k J ⟨kn,H1,w,rfl,g1,kv,h1,h2,f1⟩ K hK;have tl:(s.row.take k).length=k:=by rw[S9];exact SK (yN [_,_] [] 64698191956 rfl (Tr _ _)) (yN [_,_] [] 64444567636 rfl (Ue (yN [_,_] [] 64698191956 rfl h2)))
  refine aG rfl g1.self g1.dict rfl trivial (ci (bq g1.row) (by rw[ag];exact yN [_,_,_,_] [] 0xf3052235012501054 rfl rz h2 tl) (aG rfl g1.self g1.dict rfl trivial (bS (bq g1.aH) (by rw[cb];exact Bv) bi (rI ?_))));rw[ag];refine⟨λe=>?_,λe=>?_⟩
  ·have e:n<(s.row.take k).length:=by have:=SB e;exact VN.mp this
   replace e:=tl▸e;obtain⟨k,rfl⟩: ∃k',k=k'+1:=⟨k - 1,SK (yN [_,_] [] 0xf1a0501a054 rfl (li _ _)) (yN [_,_] [] 0xf10a5010a54 rfl (i6 (yN [_,_] [] 0xf01a50011c54 rfl e)))⟩;obtain⟨x,hx⟩: ∃x,s.row[k]? =R3 x:=⟨_,SG (yN [_,_] [] 0xf10a5010a54 rfl h2)⟩;have er:s.row.take (k+1)=s.row.take k++[x]:=by rw[Wj,hx];rfl
   have OU:((s.row.take k++[x]).map Tl).Nodup:=by exact er▸(hk.OU.sublist ((Wi _ _).map _))
   have nx:=MY OU;have xr:x∉s.row.take k:=λz=>nx x z rfl;have xr': -x∉s.row.take k:=λz=>nx _ z (S4 x);have x1:=hk.nz (R9 hx);replace kv:=er▸kv;have kx:kn (x.natAbs:Sj)=R3 (.bool (Ul (x>0))):=by
    rw[kv _ (by exact yZ [_] [] 0xf011c50101ca55 rfl x1.1),uB xr xr' (by exact λhh=>yF [_] [_] 0xf01f1510151011c60 rfl x1.1 (jX (yZ [] [_] 0xf01c033001c55 rfl hh)) (my (yZ [] [_] 0xf01c05301c055 rfl hh)))];by_cases q:(x.natAbs:Sj)=x;·rw[Sv q,Th (by exact yZ [_] [_] 0xf0153011c50001ca55 rfl x1.1 q)];rfl
    ·rw[Sq q,Sv (by lia),Ti (by exact λhh=>yF [_] [_] 0xf10a510151 rfl (jX (yZ [] [_] 0xf001ca51001c55 rfl hh)) (JO (yZ [_] [_] 64698257493 rfl Ts) (TH q)))];rfl
   refine aG rfl g1.self g1.dict rfl trivial (fh g1.row (g1.Mq (r:=s.row.take k) (x:=x) er (by rw[S9];unfold big at rz ⊢;have:=hk.len;have:=hk.bV;exact yN [_,_,_] [] 0xf205012a50f42405c150f42405c0a54 rfl rz h2 (Tr _ _)) λH2 g2 f2=>bj rfl rfl (aG rfl g2.self g2.dict rfl trivial ?_)));obtain⟨kvs,ep,hd,_⟩:=g2.kn;refine lS hd<|g2.RW kx λH3 g3 f3=>aG rfl g3.self g3.dict rfl trivial (g3.aep (yZ [_] [] 64758496597 rfl) (yZ [_,_] [] 0xf1050642c1503e83c155 rfl hN x1.2) λH4 g4 f4=>hK k _ (UF k) ⟨_,H4,_,rfl,g4,λv hv=>?_,yN [_,_] [] 0xf1a0a501054 rfl e,yN [_,_] [] 0xf10a501054 rfl h2,((f1.trans f2).trans f3).trans f4⟩);by_cases q:v=(x.natAbs:Sj)
   ·have e1:tv (s.row.take k) v=Sg:=by
     unfold tv;rw[Sq λz=>nx _ z (by exact SK (yN [_,_] [_] 0xf015130531054 rfl q (jX (yZ [] [_] 0xf001ca51001c55 rfl hv))) (yN [_,_] [_] 0xf305110331054 rfl q Ts)),Sq λz=>nx _ z (by exact SK (yN [_,_] [_] 0xf01f1f15130531054 rfl q (my (yZ [] [_] 0xf001ca5101c01f55 rfl hv))) (yN [_,_] [_] 0xf301f1f5110331054 rfl q (sb _)))]
    exact e1▸(Sv q)
   ·have e1:=kv v hv;rw[uB xr xr' (by exact λhh=>yF [_] [_] 0xf01f1510151011c60 rfl x1.1 (jX (yZ [] [_] 0xf01c033001c55 rfl hh)) (my (yZ [] [_] 0xf01c05301c055 rfl hh))),Sq (by exact λhh=>yF [_] [_,_] 0xf10a5121512033 rfl hh (jX (yZ [] [_,_] 0xf0253201ca51001c55 rfl hv hh)) (JO (yZ [_] [_,_] 0xf205312511055 rfl Ts hh) q)),Sq (by exact λhh=>yF [_] [_,_] 0xf10a5121f15121f033 rfl hh (my (yZ [] [_,_] 0xf01f253201ca5101c055 rfl hv hh)) (JO (yZ [_] [_,_] 0xf21f053121f511055 rfl (sb _) hh) q))]at e1;exact(Sq q).trans e1
  ·have e: ¬n<(s.row.take k).length:=λz=>TF e (VN.mpr z);have e:k=n:=SK (yN [_,_,_] [] 0xf21a5402321054 rfl tl e) (yN [_,_] [] 64698191956 rfl h1);subst e;refine aG rfl g1.self g1.dict rfl trivial (kW (bq g1.aH) (by rw[cb];exact Bv) (eh 26 λm hm=>g1.R0 (b:=s.aH.take h) hm Vb.symm λH2 g2 f2=>aG rfl g2.self g2.dict rfl trivial (ci (bq g2.row) (by rw[ag];show(s.row.take k).length<=big;exact yN [_,_,_,_] [] 0xf3052235012501054 rfl rz h2 tl) ?_)));rw[ag,show(Vl (S.row (S.oB (S.sT s kn s.ht s.ca (s.row.take k)) m (s.aH.take h))))=k from tl];refine g2.HB λH3 g3 f3=>fin kn m k k H3 g3 (hk.cut (λi e he hi=>(low i e he).mp hi) bk rfl kv rfl rfl rfl (Uf (by assumption)) rfl hnl) (λe he=>?_) (λe he hh=>?_) (.inr ⟨by assumption,rfl,hnl⟩) ((f1.trans f2).trans f3)
   ·obtain⟨i,hi⟩:=S5.mp he;have:=(R6.mp hi).1;rw[S9]at this;rw[Tu (by exact yN [_,_,_] [] 0xf125020a5010a54 rfl this (Tr _ _))]at hi;exact(low i e hi).mp (yN [_,_,_] [] 0xf125020a5010a54 rfl this (Tr _ _))
   ·obtain⟨i,hi⟩:=S5.mp he;have:=(low i e hi).mpr hh;exact R9 ((Tu this).trans hi)
 ·have e:s.aH.length<=h:=by have:=TF e;rw[cb]at this;exact yN [_,_] [] 0xf13a551054 rfl this
  have e1:s.row.take tr.length=s.row:=by exact hk.bV▸(VS)
  have e2:s.aH.take h=s.aH:=WF e;have es:((s.sT s.kn s.ht s.ca (s.row.take tr.length)).oB s.nb (s.aH.take h)).kr s.seen=s:=by rw[e1,e2];rfl
  have et:tr.take tr.length=tr:=VS;exact fin s.kn s.nb s.seen tr.length H (by rw[es];exact g) (by rw[es,et];exact hk) (λe' he=>SJ (hk.hb e' (by rwa [et]at he)) e) (λe' he O=>by rwa [et]) (.inl ⟨e,rfl,rfl⟩) .refl
theorem ta {a:Ad}(g:ao T N s H)(ha:a=⟨20,0⟩)(hz:s.log.length<=big)(fin: ∀H',ao T N (s.Hy.wB (s.log++[[]])) H'->bM 20 40 H H'->Q .none ⟨l,H'⟩):gu T [.ref a] ⟨l,H⟩ Q:=by
 subst ha;unfold gu;exact bJ 0 rfl (g.acC λH1 g1 f1=>aG rfl g1.self g1.dict rfl trivial (fh g1.log (aP (S7 _) (g1.HE (c:=[]) hz λH2 g2 f2=>fin H2 g2 (f1.trans f2)))))
theorem DK {a:Ad}{e:En}(g:ao T N s H)(ha:a=⟨20,0⟩)(hk:dj N s tr)(he:e∈tr)(hx:e.l.natAbs=x.natAbs)(q:Q (.int (e.h:Sj)) ⟨l,H⟩):fu T [.ref a,.int x] ⟨l,H⟩ Q:=by
 subst ha;obtain⟨kvs,ep,hd,hv⟩:=g.ht;unfold fu;exact bJ 0 rfl (aG rfl g.self g.dict rfl trivial (fJ hd (by rw[hv,<-hx];exact hk.ht e he) q))
end
section
def DM (r:R4 Sj)(w:Sj):Prop:=r[0]? =R3 w\/r[1]? =R3 w
def Pair (r:R4 Sj)(w w':Sj):Prop:=r[0]? =R3 w/\r[1]? =R3 w'\/r[0]? =R3 w'/\r[1]? =R3 w
structure Row (N:SH)(r:R4 Sj):Prop where
 two:2<=r.length
 nd:(r.map Tl).Nodup
 var: ∀x∈r,1<=x.natAbs/\x.natAbs<=N
structure rP (N:SH)(E rows:R4 (R4 Sj)):Prop where
 r1: ∀r∈rows,Row N r
 r2: ∀r∈rows,∃c∈E,(∀x∈r,x∈c)/\∀x∈c,x∈r\/js E [] (-x)
def i9 (rows:R4 (R4 Sj))(tr:R4 En):Prop:=∀(i:SH) (e:En) (n:SH),tr[i]? =R3 e->e.c=R3 n->∃r,rows[n]? =R3 r/\e.l∈r/\∀x∈r,x≠e.l->∃(j:SH) (e':En),j<i/\tr[j]? =R3 e'/\e'.l= -x
def nf (aH:R4 SH)(tr:R4 En):Prop:=∀(i:SH) (e:En),tr[i]? =R3 e->e.c=Sg->e.h≠0->aH[e.h - 1]? =R3 i
def Zero (E:R4 (R4 Sj))(tr:R4 En):Prop:=∀e∈tr,e.h=0->js E [] e.l
def td (D rows:R4 (R4 Sj))(tr:R4 En):Prop:=∀c∈D,(∃e∈tr,e.h=0/\e.l∈c)\/∃r∈rows,∀x∈r,x∈c
structure ng (rows:R4 (R4 Sj))(W:Sj->R4 SH):Prop where
 w1: ∀w n,n∈W w↔∃r,rows[n]? =R3 r/\DM r w
 wn: ∀w,(W w).Nodup
def W3 (rows:R4 (R4 Sj))(tr:R4 En)(ok:SH->En->SH->Prop):Prop:=∀(i:SH) (e:En) (n:SH) (r:R4 Sj),tr[i]? =R3 e->ok i e n->rows[n]? =R3 r->∀w w',Pair r w w'->e.l= -w->∃e'∈tr,e'.l=w'/\e'.h<=e.h
structure JE (N:SH)(D log:R4 (R4 Sj)):Prop where
 rQ:fj D log
 cl: ∀c∈log,Cl N c
def RP (rows cT:R4 (R4 Sj)):Prop:=∀n:SH,(rows[n]? =Sg/\cT[n]? =Sg)\/∃r r',rows[n]? =R3 r/\cT[n]? =R3 r'/\r'.Perm r
section
variable{D E E':R4 (R4 Sj)}{W':Sj->R4 SH}{ok:SH->En->SH->Prop}
theorem RP.refl:RP rows rows:=λn=>by
 cases e:rows[n]? with
 |none=>exact .inl ⟨rfl,rfl⟩
 |some r=>exact .inr ⟨r,r,rfl,rfl,.refl r⟩
theorem RP.trans {HR:R4 (R4 Sj)}(h:RP rows cT)(h':RP cT HR):RP rows HR:=λn=>by
 rcases h n with ⟨a,b⟩ |⟨r,r',a,b,p⟩<;>rcases h' n with ⟨c,d⟩ |⟨q,q',c,d,p'⟩;·exact .inl ⟨a,d⟩
 ·replace c:=b▸c;cases c
 ·replace c:=b▸c;cases c
 ·rw[b]at c;obtain rfl:=R7 c;exact .inr ⟨r,q',a,d,p'.trans p⟩
theorem RP.set (h:rows[n]? =R3 r)(p:r'.Perm r):RP rows (rows.set n r'):=λm=>by
 by_cases w:m=n
 ·subst w;exact .inr ⟨r,r',h,Tv (R6.mp h).1,p⟩
 ·exact(Uc (TH w))▸(RP.refl m)
theorem RP.get (h:RP rows cT)(e:rows[n]? =R3 r): ∃r',cT[n]? =R3 r'/\r'.Perm r:=by
 rcases h n with ⟨a,b⟩ |⟨q,q',a,b,p⟩;·replace e:=a▸e;exact c6 e
 ·rw[a]at e;obtain rfl:=R7 e;exact⟨q',b,p⟩
theorem RP.get' (h:RP rows cT)(e:cT[n]? =R3 r'): ∃r,rows[n]? =R3 r/\r'.Perm r:=by
 rcases h n with ⟨a,b⟩ |⟨q,q',a,b,p⟩;·replace e:=b▸e;exact c6 e
 ·replace e:=b▸e;obtain rfl:=R7 e;exact⟨q,a,p⟩
theorem RP.mem (h:RP rows cT)(e:r∈rows): ∃r'∈cT,r'.Perm r:=by
 obtain⟨n,hn⟩:=S5.mp e;obtain⟨r',a,p⟩:=h.get hn;exact⟨r',R9 a,p⟩
theorem RP.wy (h:RP rows cT)(e:r'∈cT): ∃r∈rows,r'.Perm r:=by
 obtain⟨n,hn⟩:=S5.mp e;obtain⟨r,a,p⟩:=h.get' hn;exact⟨r,R9 a,p⟩
theorem Row.perm (h:Row N r)(p:r'.Perm r):Row N r':=⟨by rw[p.length_eq];exact h.two,(p.map _).nodup_iff.mpr h.nd,λx hx=>h.var x (p.mem_iff.mp hx)⟩
theorem rP.perm (h:rP N E rows)(p:RP rows cT):rP N E cT where
 r1:=λr' hr=>by obtain⟨r,hr,q⟩:=p.wy hr;exact(h.r1 r hr).perm q
 r2:=λr' hr=>by obtain⟨r,hr,q⟩:=p.wy hr;obtain⟨c,h1,h2,h3⟩:=h.r2 r hr;exact⟨c,h1,λx hx=>h2 x (q.mem_iff.mp hx),λx hx=>(h3 x hx).imp_left q.mem_iff.mpr⟩
theorem rP.mono (h:rP N E rows)(hE: ∀c∈E,c∈E'):rP N E' rows where
 r1:=h.r1
 r2:=λr hr=>by obtain⟨c,h1,h2,h3⟩:=h.r2 r hr;exact⟨c,hE c h1,h2,λx hx=>(h3 x hx).imp_right λd=>d.mono hE λa ha=>.bU ha⟩
theorem rP.add (h:rP N E rows)(hr:Row N r)(h2: ∃c∈E,(∀x∈r,x∈c)/\∀x∈c,x∈r\/js E [] (-x)):rP N E (rows++[r]) where
 r1:=λq hq=>by
  rcases Sl.mp hq with hq |hq;·exact h.r1 q hq
  ·exact(R8.mp hq)▸(hr)
 r2:=λq hq=>by
  rcases Sl.mp hq with hq |hq;·exact h.r2 q hq
  ·exact(R8.mp hq)▸(h2)
theorem rP.unit (h:rP N E rows){A:R4 Sj}(hr:r∈rows)(hx:x∈r)(hA: ∀y∈r,y≠x->js E A (-y)):js E A x:=by
 obtain⟨c,h1,h2,h3⟩:=h.r2 r hr;refine .unit h1 (h2 x hx) λy hy cF=>?_;rcases h3 y hy with q |q;·exact hA y q cF
 ·exact q.mono (λO h=>h) λa ha=>Sw ha Sy
theorem rP.OW (h:rP N E rows){A:R4 Sj}(hr:r∈rows)(hA: ∀y∈r,js E A (-y)):b7 E A:=by
 obtain⟨c,h1,h2,h3⟩:=h.r2 r hr;refine .of h1 λy hy=>?_;rcases h3 y hy with q |q;·exact hA y q
 ·exact q.mono (λO h=>h) λa ha=>Sw ha Sy
theorem i9.perm (h:i9 rows tr)(p:RP rows cT):i9 cT tr:=λi e n hi hc=>by
 obtain⟨r,h1,h2,h3⟩:=h i e n hi hc;obtain⟨r',h4,q⟩:=p.get h1;exact⟨r',h4,q.mem_iff.mpr h2,λx hx=>h3 x (q.mem_iff.mp hx)⟩
theorem i9.row (h:i9 rows tr):i9 (rows++[r]) tr:=λi e n hi hc=>by
 obtain⟨q,h1,h2⟩:=h i e n hi hc;exact⟨q,(SW (R6.mp h1).1).trans h1,h2⟩
theorem wL {e:En}(h:(tr++[e'])[i]? =R3 e):tr[i]? =R3 e\/i=tr.length/\e=e':=by
 by_cases w:i<tr.length;·rw[SW w]at h;exact .inl h
 ·have hi:=(R6.mp h).1;replace hi:=Sr▸hi;have w:i=tr.length:=SK (Um hi) (T0.mp w);subst w;replace h:=(TC)▸h;obtain rfl:=R7 h;exact .inr ⟨rfl,rfl⟩
theorem By {e:En}(h:tr[i]? =R3 e):(tr++[e'])[i]? =R3 e:=(SW (R6.mp h).1).trans h
theorem iq {e:En}{m:SH}(h:(tr.take m)[i]? =R3 e):tr[i]? =R3 e/\i<m:=by
 have hi:=(R6.mp h).1;rw[S9]at hi;rw[Tu (by exact yN [_,_,_] [] 0xf125020a5010a54 rfl hi (Tr _ _))]at h;exact⟨h,yN [_,_,_] [] 0xf125020a5010a54 rfl hi (Tr _ _)⟩
theorem i9.add (h:i9 rows tr){e:En}(he: ∀n,e.c=R3 n->∃r,rows[n]? =R3 r/\e.l∈r/\∀x∈r,x≠e.l->∃e'∈tr,e'.l= -x):i9 rows (tr++[e]):=λi e' n hi hc=>by
 rcases wL hi with q |⟨rfl,rfl⟩
 ·obtain⟨r,h1,h2,h3⟩:=h i e' n q hc;refine⟨r,h1,h2,λx hx hn=>?_⟩;obtain⟨j,e2,h4,h5,h6⟩:=h3 x hx hn;exact⟨j,e2,h4,By h5,h6⟩
 ·obtain⟨r,h1,h2,h3⟩:=he n hc;refine⟨r,h1,h2,λx hx hn=>?_⟩;obtain⟨e2,h4,h5⟩:=h3 x hx hn;obtain⟨j,hj⟩:=S5.mp h4;exact⟨j,e2,(R6.mp hj).1,By hj,h5⟩
theorem i9.cut (h:i9 rows tr){m:SH}:i9 rows (tr.take m):=λi e n hi hc=>by
 obtain⟨q,hm⟩:=iq hi;obtain⟨r,h1,h2,h3⟩:=h i e n q hc;refine⟨r,h1,h2,λx hx hn=>?_⟩;obtain⟨j,e2,h4,h5,h6⟩:=h3 x hx hn;exact⟨j,e2,h4,(Tu (yN [_,_,_] [] 0xf20a5012a5010a54 rfl hm h4)).trans h5,h6⟩
theorem nf.add (h:nf aH tr){e:En}(he:e.c=Sg->e.h≠0->aH[e.h - 1]? =R3 tr.length):nf aH (tr++[e]):=λi e' hi hc hh=>by
 rcases wL hi with q |⟨rfl,rfl⟩;·exact h i e' q hc hh
 ·exact he hc hh
theorem nf.cut (h:nf aH tr){m:SH}(hm: ∀e∈tr.take m,e.h<=k):nf (aH.take k) (tr.take m):=λi e hi hc hh=>by
 have:=hm e (R9 hi);rw[Tu (by exact yN [_,_,_] [] 0xf20a50125010a54 rfl this (i6 (xN [_] [] n1 v0 1 (.c 0 1 (vS n0) v0 .e) rfl (uY (xN [_] [] n0 v0 1 .e rfl) (TH hh)))))];exact h i e (iq hi).1 hc hh
theorem nf.uL (h:nf aH tr){b:R4 SH}:nf (aH++b) tr:=λi e hi hc hh=>by
 have:=h i e hi hc hh;exact(SW (R6.mp this).1).trans this
theorem Zero.add (h:Zero E tr){e:En}(he:e.h=0->js E [] e.l):Zero E (tr++[e]):=λe' hm hh=>by
 rcases Sl.mp hm with q |q;·exact h e' q hh
 ·rw[R8.mp q]at hh ⊢;exact he hh
theorem Zero.cut (h:Zero E tr){m:SH}:Zero E (tr.take m):=λe hm=>h e (TU hm)
theorem Zero.mono (h:Zero E tr)(hE: ∀c∈E,c∈E'):Zero E' tr:=λe hm hh=>(h e hm hh).mono hE λa ha=>.bU ha
theorem td.perm (h:td D rows tr)(p:RP rows cT):td D cT tr:=λc hc=>(h c hc).imp_right λ⟨r,hr,hs⟩=>by
 obtain⟨r',PU,q⟩:=p.mem hr;exact⟨r',PU,λx hx=>hs x (q.mem_iff.mp hx)⟩
theorem td.DN (h:td D rows tr)(ht: ∀e∈tr,e.h=0->e∈cq):td D rows cq:=λc hc=>(h c hc).imp_left λzq=>by obtain⟨e,he,h0,hl⟩:=zq;exact⟨e,ht e he h0,h0,hl⟩
theorem td.row (h:td D rows tr):td D (rows++[r]) tr:=λc hc=>(h c hc).imp_right λ⟨r,hr,hs⟩=>⟨r,Su _ hr,hs⟩
theorem td.add (h:td D rows tr)(hc:(∃e∈tr,e.h=0/\e.l∈c)\/∃r∈rows,∀x∈r,x∈c):td (D++[c]) rows tr:=λq hq=>by
 rcases Sl.mp hq with z |z;·exact h q z
 ·exact(R8.mp z)▸(hc)
theorem ng.same (h:ng rows W)(hr:rows[n]? =R3 r)(hw: ∀w,DM r' w↔DM r w):ng (rows.set n r') W where
 w1:=λw m=>by
  rw[h.w1 w m];by_cases q:m=n
  ·subst q;rw[Tv (R6.mp hr).1,hr];exact⟨λ⟨_,e,x⟩=>by obtain rfl:=R7 e;exact⟨_,rfl,(hw w).mpr x⟩,λ⟨_,e,x⟩=>by obtain rfl:=R7 e;exact⟨_,rfl,(hw w).mp x⟩⟩
  ·rw[Uc (TH q)]
 wn:=h.wn
theorem ng.upd (h:ng rows W)(hr:rows[n]? =R3 r)(hW: ∀w m,m≠n->(m∈W' w↔m∈W w))(hn: ∀w,n∈W' w↔DM r' w)(nd: ∀w,(W' w).Nodup):ng (rows.set n r') W' where
 w1:=λw m=>by
  by_cases q:m=n
  ·subst q;rw[hn,Tv (R6.mp hr).1];exact⟨λx=>⟨_,rfl,x⟩,λ⟨_,e,x⟩=>by obtain rfl:=R7 e;exact x⟩
  ·rw[hW w m q,h.w1 w m,Uc (TH q)]
 wn:=nd
theorem ng.row (h:ng rows W)(hW: ∀w m,m≠rows.length->(m∈W' w↔m∈W w))(hn: ∀w,rows.length∈W' w↔DM r w)(nd: ∀w,(W' w).Nodup):ng (rows++[r]) W' where
 w1:=λw m=>by
  by_cases q:m=rows.length
  ·subst q;rw[hn,TC];exact⟨λx=>⟨_,rfl,x⟩,λ⟨_,e,x⟩=>by obtain rfl:=R7 e;exact x⟩
  ·rw[hW w m q,h.w1 w m];by_cases z:m<rows.length;·rw[SW z]
   ·rw[Vd (by exact yN [_,_] [] 0xf01a541054 rfl z),Vd (by rw[Sr];exact yN [_,_] [] 0xf10a5010a54 rfl (uY (yN [_,_] [] 0xf01a541054 rfl z) (TH q)))]
 wn:=nd
theorem W3.DN (h:W3 rows tr ok){e:En}(ho: ∀i e' n,ok' i e' n->i<tr.length/\ok i e' n):W3 rows (tr++[e]) ok':=λi e' n r hi hk hr w w' hp hl=>by
 obtain⟨h1,h2⟩:=ho i e' n hk;rw[SW h1]at hi;obtain⟨e2,h3,h4⟩:=h i e' n r hi h2 hr w w' hp hl;exact⟨e2,Su _ h3,h4⟩
theorem W3.weak (h:W3 rows tr ok)(ho: ∀i e n,tr[i]? =R3 e->ok' i e n->ok i e n):W3 rows tr ok':=λi e n r hi hk hr w w' hp hl=>h i e n r hi (ho i e n hi hk) hr w w' hp hl
theorem Pair.var (hr:(r.map Tl).Nodup){w w':Sj}(h:Pair r w w'):w.natAbs≠w'.natAbs:=by
 have key: ∀{a b:Sj},r[0]? =R3 a->r[1]? =R3 b->a.natAbs≠b.natAbs:=λ{a b} e1 e2=>by
  cases r with
  |nil=>cases e1
  |cons x t=>
   cases t with
   |nil=>cases e2
   |cons y t=>obtain rfl:=R7 e1;obtain rfl:=R7 e2;rw[Tq,S6]at hr;exact λz=>hr.1 (by rw[z];exact Se)
 rcases h with ⟨a,b⟩ |⟨a,b⟩;·exact key a b
 ·exact(key a b).symm
end
end
section
variable{s:S}
def Xt (H H':Hp):Prop:=∀b o,H b=R3 o->H' b=R3 o
theorem Xt.new {a:Ad}(h:H a=Sg):Xt H (aK H a so):=λb o e=>(aO λz=>by replace e:=h▸z▸e;cases e).trans e
theorem Xt.frm {lo:SH}(h:Xt H H'):bM lo hi H H':=λb o e O=>h b o e
theorem ao.xt (g:ao T N s H)(h:Xt H H'):ao T N s H':=g.frm λb o e O O=>h b o e
def At1 (a:Ad)(H H':Hp):Prop:=∀b,b≠a->H' b=H b
theorem At1.xt {a:Ad}(h:At1 a H H')(hn:H a=Sg):Xt H H':=λb o e=>(h b λz=>by replace e:=hn▸z▸e;cases e).trans e
theorem iN {kvs:R4 (Sj×β)}{k:Sj}{v:β}(h:bC kvs k=Sg):cY kvs k v=kvs++[(k,v)]:=by
 unfold cY;have:kvs.any (λp=>decide (p.1=k))=Sf:=by rw[ZC];intro p hp;unfold bC at h;rw[Ww,Xg]at h;exact h p hp
 rw[this];rfl
theorem cW {kvs:R4 (Sj×β)}{k:Sj}:bC kvs k=Sg↔k∉kvs.map (·.1):=by
 unfold bC;rw[Ww,Xg];refine⟨λh z=>?_,λh p hp z=>h ?_⟩
 ·obtain⟨p,hp,e⟩:=SL.mp z;exact h p hp (by simpa using e)
 ·exact SL.mpr ⟨p,hp,by simpa using z⟩
theorem fw {kvs:R4 (Sj×β)}{k:Sj}:(bC kvs k).isSome=decide (k∈kvs.map (·.1)):=by
 cases e:bC kvs k with
 |none=>rw[Ti (cW.mp e)];rfl
 |some v=>refine(Th (Tk λz=>?_)).symm;replace e:=(cW.mpr z)▸e;cases e
theorem HS (h:(c.map Tl).Nodup)(h2:c.Pairwise λp q=>(p.natAbs:Sj)<=(q.natAbs:Sj)):c.Pairwise λx y=>x.natAbs<y.natAbs:=by
 rw[UO,Uv]at h;exact(h.and h2).imp λ{a b} z=>by have:=z.1;have:=z.2;exact yN [_,_] [] 0xf10a5010a54 rfl (uY (yN [_,_] [] 65251905620 rfl this) z.1)
theorem kX {x:V}(hx: ∀H',Xt H H'->sr H' x (.seq b (bH c)))(hN:N<=60)(hr:(c.map Tl).Nodup)(hv: ∀y∈c,1<=y.natAbs/\y.natAbs<=N)(hz:c.length<=60)
  (fin: ∀out H',out.Perm c->Cl N out->Xt H H'->Q (tup out) ⟨l,H'⟩):di T [x] ⟨l,H⟩ Q:=by
 have cz:c.length<=big:=by unfold big;exact yN [_] [] 0xf3c2c050f42405c054 rfl hz
 unfold di;refine bJ 2 rfl (kQ 6 λn ep hn=>bj rfl rfl ?_);refine fm (S:=.seq b (bH c)) (f:=V.int) (c:=c) (λpre J=>X4 λw H' kvs ep=>C4 (J=⟨lo [R3 x,R3 (.ref ⟨6,n⟩),w],H'⟩) (H' ⟨6,n⟩=R3 (.dict kvs ep)) (kvs.map (·.1)=pre) (At1 ⟨6,n⟩ H H')) rfl (by show(bH c).length<=big;rwa [ag])
  ?_ ⟨Sg,_,[],ep,rfl,aw,rfl,λb hb=>aO hb⟩ ?_ ?_
 ·rintro pre J ⟨w,H',kvs,ep,rfl,_,_,h1⟩;exact hx H' (h1.xt hn) _
 ·rintro pre y gD J he ⟨w,H1,kvs,ep,rfl,hd,hk,h1⟩ K hK;have hy:=mem_mid he;have y1:=hv y hy;have yn: ∀z∈pre,z.natAbs≠y.natAbs:=λz Ei e=>by rw[he,SN,Tf]at hr;exact hr.2.2 _ (Tz Ei) _ (Tz Se) e
  have k1:bC kvs (-y)=Sg:=cW.mpr (by rw[hk];exact λz=>yn _ z (S4 y));have k2:bC kvs y=Sg:=cW.mpr (by rw[hk];exact λz=>yn _ z rfl);refine bj rfl rfl (Bu hd ⟨λe=>?_,λO=>?_⟩);·replace e:=k1▸e;cases e
  ·refine gU hd (yZ [_,_] [_] 0xf301f5101503c2c05003e83d55 rfl hN y1.2 (sb _)) (yZ [_,_] [_] 0xf305101503c2c0503e83c055 rfl hN y1.2 Ts) λep'=>hK _ ⟨_,_,_,ep',rfl,aw,?_,λb hb=>(aO hb).trans (h1 b hb)⟩;rw[iN k2,SN,hk];rfl
 ·rintro J ⟨w,H1,kvs,ep,rfl,hd,hk,h1⟩;refine uA (ns:=c) (o0 hd) TK trivial (by show kvs.map (λp=>V.int p.1)=bH c;rw[<-hk];unfold bH;rw[Tg];rfl) (yN [_] [] 0xf3c2c050402c0a54 rfl hz) λout hp hs=>Bx ay (by rw[ag,hp.length_eq];exact cz) ?_;exact fin out H1 hp ⟨HS ((hp.map _).nodup_iff.mpr hr) hs,λy hy=>hv y (hp.mem_iff.mp hy)⟩ (h1.xt hn)
theorem ao.R1 (h:ao T N s H)(hv:vs=bH r)(hn:H ⟨32,n⟩=Sg)(hz:s.rows.length<=big)(q: ∀H',ao T N (s.c4 (s.rl++[n]) (s.rows++[r])) H'->bM 20 40 H H'->Q .none ⟨l,H'⟩):dc (.ref ⟨28,0⟩) (.ref ⟨32,n⟩) ⟨l,aK H ⟨32,n⟩ (.list vs)⟩ Q:=by
 subst hv;have hin:n∉s.rl:=λz=>by obtain⟨i,hi⟩:=S5.mp z;have h1:=(R6.mp hi).1;have:=h.ix i n _ hi (SG (by rw[<-h.bV];exact h1));replace this:=hn▸this;cases this
 refine eK ((ai rfl).trans h.rows) (by rw[Sa,h.bV];exact hz) ?_;have:=h.acA (r:=r) hn hin;rw[SN]at this;exact q _ this ((bM.new hn).trans (bM.set rfl))
theorem bM.dn (h:bM 20 40 H H'):bM 19 40 H H':=λb o e k=>h b o e (by lia)
def Loose (s:S)(H:Hp)(m:SH)(vs:R4 SH):Prop:=H ⟨19,m⟩=R3 (.list (kq vs))/\∀y,s.pn y≠R3 m
theorem Loose.frm {m:SH}{vs:R4 SH}{s':S}(h:Loose s H m vs)(f:bM 20 40 H H')(e:s'.pn=s.pn):Loose s' H' m vs:=⟨f _ _ h.1 (.inl (R5 rfl)),by rw[e];exact h.2⟩
theorem ao.HU (h:ao T N s H){m:SH}(e:s.pn x=R3 m)(hz:(s.bL x).length<=big)(q: ∀H',ao T N (s.fN s.pn λy=>if y=x then s.bL y++[num]else s.bL y) H'->bM 19 40 H H'->(∀m' vs,Loose s H m' vs->Loose (s.fN s.pn λy=>if y=x then s.bL y++[num]else s.bL y) H' m' vs)->Q .none ⟨l,H'⟩):dc (.ref ⟨19,m⟩) (.int (num:Sj)) ⟨l,H⟩ Q:=
 h.dl.app rfl e hz λH' d f=>q H' (h.Hz d λb o e O k=>f b o e λz=>k (SU Ad.k z)) (λb o e k=>f b o e λz=>by rw[z]at k;exact Sw (show 19<19\/40<=19 from k) (by decide)) λm' vs ⟨h1,h2⟩=>⟨f _ _ h1 λz=>h2 x (by rw[show m'=m from SU Ad.n z];exact e),h2⟩
theorem ao.HV (h:ao T N s H)(h1: -1000<=x)(h2:x<=1000)(q: ∀m pn H',ao T N (s.fN pn s.bL) H'->pn x=R3 m->bM 19 40 H H'->(∀m' vs,Loose s H m' vs->Loose (s.fN pn s.bL) H' m' vs)->(∀y m',s.pn y=R3 m'->pn y=R3 m')->Q (.ref ⟨19,m⟩) ⟨l,H'⟩):
  aR eR [] ⟨l,H⟩ λx3 bD=>iH (.ref ⟨29,0⟩) (.int x) x3 bD Q:=
 h.dl.sd rfl rfl h1 h2 λm pn H' d e f p=>q m pn H' (h.Hz d λb o e w O=>f b o e w) e (λb o e k=>f b o e λz=>by exact k.elim (λbE=>yF [_] [] 0xf132c0a501d2c032 rfl z bE) (λbE=>yF [_] [] 0xf0282c501d2c052 rfl z bE)) (λm' vs ⟨h1,h2⟩=>⟨f _ _ h1 (Ss rfl),λy e=>((p y m').1 e).elim (h2 y) λz=>by replace h1:=z▸h1;cases h1⟩) (λy m'=>(p y m').2)
theorem Bz {a:Ad}{y:Sj}(g:ao T N s H)(ha:a=⟨20,0⟩)(hN:N<=100)(hx:x.natAbs<=N)(hy:y.natAbs<=N)(cF:x≠y)(rz:r.length<=1000)(hz:s.rows.length<=10000)(hw: ∀w,(s.bL w).length<=10000)
  (fin: ∀n pn H',ao T N ((s.c4 (s.rl++[n]) (s.rows++[x::y::r])).fN pn λw=>if w=x\/w=y then s.bL w++[s.rows.length]else s.bL w) H'->bM 19 40 H H'->Q (.int (s.rows.length:Sj)) ⟨l,H'⟩):kP T [.ref a,.bF Sf (bH (x::y::r))] ⟨l,H⟩ Q:=by
 subst ha;have rz':(bH (x::y::r)).length<=big:=by rw[ag];simp only[TB];unfold big;exact yN [_] [] 0xf3e83c050f42405c0aa54 rfl rz
 have sz:s.rows.length<=big:=by unfold big;exact yN [_] [] 0xf27104c050f42405c054 rfl hz
 have wz: ∀w,(s.bL w).length<=big:=λw=>SJ (hw w) (R5 rfl);have bd: ∀{z:Sj},z.natAbs<=N->-1000<=z/\z<=1000:=λ{z} h=>by exact⟨yZ [_,_] [_] 0xf301f510150642c05003e83d55 rfl hN h (sb _),yZ [_,_] [_] 0xf30510150642c0503e83c055 rfl hN h Ts⟩
 have ln: ∀{s':S} {n:SH},s'.rows=s.rows++[x::y::r]->s'.rl=s.rl++[n]->((s'.rl.map λn=>V.ref ⟨32,n⟩).length:Sj) - 1=(s.rows.length:Sj):=λ{s' n} e1 e2=>by rw[Sa,e2,Sr,g.bV,Te];exact Td (yZ [_] [] 0xf111c1a0f55 rfl) (yZ [_] [] 0xf11c1a0f155 rfl)
 have lz: ∀{s':S} {n:SH},s'.rl=s.rl++[n]->(s'.rl.map λn=>V.ref ⟨32,n⟩).length<=big:=λ{s' n} e2=>by rw[Sa,e2,Sr,g.bV];show s.rows.length+1<=1000000;exact yN [_] [] 0xf27104c050f42405c0a54 rfl hz
 unfold kP;refine bJ 1 rfl (aG rfl g.self g.dict rfl trivial (fh g.rows (iM (b:=Sf) fK rz' (eh 32 λn hn=>g.R1 rfl hn sz λH1 g1 f1=>kW (i:=2) ay rz' ?_))));refine fm (S:=.seq Sf (bH [x,y])) (f:=V.int) (c:=[x,y]) (λpre J=>X4 λw pn bL H'=>C4 (J=⟨lo [sf,R3 (.bF Sf (bH (x::y::r))),w],H'⟩) (ao T N ((s.c4 (s.rl++[n]) (s.rows++[x::y::r])).fN pn bL) H') (bM 19 40 H H') (∀w,bL w=if w∈pre then s.bL w++[s.rows.length]else s.bL w)) rfl (show 2<=1000000 by decide)
  (λO O O=>rfl) ⟨Sg,s.pn,s.bL,H1,rfl,g1,f1.dn,λw=>(Sq Sy).symm⟩ ?_ ?_
 ·rintro pre z gD J he ⟨w,pn,bL,H2,rfl,g2,f2,hw2⟩ K hK;have hzm:z∈[x,y]:=mem_mid he;have hzN:z.natAbs<=N:=by
   rcases SZ.mp hzm with q |q;·rwa [q]
   ·rwa [R8.mp q]
  have hzp:z∉pre:=uv (S6.mpr ⟨λq=>cF (R8.mp q),S6.mpr ⟨Sy,Tm⟩⟩) he;have e2:bL z=s.bL z:=by rw[hw2,Sq hzp]
  obtain⟨kvs,ep,hd,_⟩:=g2.dl.d;refine bj rfl rfl (aG rfl g2.self g2.dict rfl trivial (lS hd (g2.HV (bd hzN).1 (bd hzN).2 λm pn3 H3 g3 e3 f3 O O=>fh (g3.dl.ls z m e3) (aG rfl g3.self g3.dict rfl trivial (ci (bq g3.rows) (lz (n:=n) rfl) (nR ?_))))));rw[ln (n:=n) rfl rfl];refine g3.HU e3 (by show(bL z).length<=big;rw[e2];exact wz z) λH4 g4 f4 O=>hK _ ⟨_,_,_,H4,rfl,g4,(f2.trans f3).trans f4,λw=>?_⟩;show(if w=z then bL w++[s.rows.length]else bL w)=_;by_cases q:w=z;·rw[Sv q,q,e2,Sv (SA _ Se)]
  ·rw[Sq q,hw2];by_cases q2:w∈pre;·rw[Sv q2,Sv (Su _ q2)]
   ·rw[Sq q2,Sq λz=>(Sl.mp z).elim q2 λz=>q (R8.mp z)]
 ·rintro J ⟨w,pn,bL,H2,rfl,g2,f2,hw2⟩;refine aG rfl g2.self g2.dict rfl trivial (ci (bq g2.rows) (lz (n:=n) rfl) (nR ?_));rw[ln (n:=n) rfl rfl];have e:bL=λw=>if w=x\/w=y then s.bL w++[s.rows.length]else s.bL w:=by
   funext w;rw[hw2];by_cases q:w=x\/w=y;·rw[Sv q,Sv (by simpa using q)]
   ·rw[Sq q,Sq (by simpa using q)]
  rw[e]at g2;exact fin n pn H2 g2 f2
end
section
noncomputable def subs :R4 α->R4 (R4 α)
 |[]=>[[]]
 |a::r=>subs r++(subs r).map (a:: ·)
theorem wM {p:α->Tn}{l:R4 α}:l.filter p∈subs l:=by
 induction l with
 |nil=>exact R8.mpr rfl
 |cons a r ih=>
  rw[TJ];by_cases h:p a=Sn;·rw[Sv h];exact SA _ (Tz ih)
  ·rw[Sq h];exact Su _ ih
theorem HW {l:R4 α}:(subs l).length=2 ^ l.length:=by
 induction l with
 |nil=>rfl
 |cons a r ih=>show(subs r++(subs r).map (a:: ·)).length=2 ^ (r.length+1);rw[Sr,Sa,ih,Nat.pow_succ];exact SK (yN [_] [] 0xf0212f00b54 rfl) (yN [_] [] 0xf00b0212f54 rfl)
noncomputable def DP (N:SH):R4 Sj:=(TL N).map (λ(i:SH)=>(i:Sj)+1)++(TL N).map λ(i:SH)=>-((i:Sj)+1)
theorem wN (h:1<=x.natAbs/\x.natAbs<=N):x∈DP N:=by
 by_cases w:0<x;·exact Su _ (SL.mpr ⟨x.natAbs - 1,Uw.mpr (yN [_,_,_] [] 0xf20a50125010a54 rfl h.2 (i6 (yN [_] [] 0xf011c50011c54 rfl h.1))),Td (yZ [_,_] [_] 0xf10a50035101a55 rfl (jX (yZ [] [_] 0xf001ca51001c55 rfl w)) (i6 (yN [_] [] 0xf011c50011c54 rfl h.1))) (yZ [_,_] [_] 0xf0a15030511a055 rfl Ts (li _ _))⟩)
 ·exact SA _ (SL.mpr ⟨x.natAbs - 1,Uw.mpr (yN [_,_,_] [] 0xf20a50125010a54 rfl h.2 (i6 (yN [_] [] 0xf011c50011c54 rfl h.1))),Td (yZ [_,_] [_] 0xf0a150301f5101a1f55 rfl (sb _) (li _ _)) (yZ [_,_] [_] 0xf10a5001f3511a1f055 rfl (my (yZ [] [_] 0xf001ca5501c055 rfl w)) (i6 (yN [_] [] 0xf011c50011c54 rfl h.1)))⟩)
theorem wO :(DP N).length=2*N:=by
 unfold DP;rw[Sr,Sa,Sa,T6];exact SK (yN [_] [] 0xf021e00b54 rfl) (yN [_] [] 0xf00b021e54 rfl)
def canon (N:SH)(r:R4 Sj):R4 Sj:=(DP N).filter λx=>decide (x∈r)
theorem zX (p:r'.Perm r):canon N r'=canon N r:=by
 unfold canon;congr 1;funext x;exact decide_eq_decide.mpr p.mem_iff
theorem canon_sub (h:canon N r=canon N r')(hv: ∀x∈r,1<=x.natAbs/\x.natAbs<=N): ∀x∈r,x∈r':=λx hx=>by
 have:x∈canon N r:=TQ.mpr ⟨wN (hv x hx),Th hx⟩;rw[h]at this;exact SB (TQ.mp this).2
def xV (N:SH)(rows:R4 (R4 Sj)):SH:=((subs (DP N)).filter λp=>decide (p∉rows.map (canon N))).length
theorem Ty :xV N rows<=2 ^ (2*N):=by
 unfold xV;refine SJ (Uo _ _) ?_;rw[HW,wO];exact S8 _
theorem RP.canon (h:RP rows cT):cT.map (CK.canon N)=rows.map (CK.canon N):=by
 refine ZA λn=>?_;rw[Sx,Sx];rcases h n with ⟨a,b⟩ |⟨r,r',a,b,p⟩;·rw[a,b]
 ·exact a▸b▸(SU R3 (zX p))
theorem RP.xV (h:RP rows cT):CK.xV N cT=CK.xV N rows:=by
 unfold CK.xV;rw[h.canon]
theorem filter_lt {p q:α->Tn}{l:R4 α}(h: ∀x∈l,q x=Sn->p x=Sn)(hx: ∃x∈l,p x=Sn/\q x=Sf):(l.filter q).length<(l.filter p).length:=by
 induction l with
 |nil=>obtain⟨x,hx,_⟩:=hx;exact Sw hx Sy
 |cons a r ih=>
  obtain⟨x,hx,h1,h2⟩:=hx;have hr: ∀x∈r,q x=Sn->p x=Sn:=λx hx=>h x (SQ _ hx);rw[TJ,TJ];rcases SZ.mp hx with e |hx
  ·subst e;rw[Sv h1,Sq (by rw[h2];decide)];exact VM (U9▸U9▸List.countP_mono_left hr)
  ·replace ih:=ih hr ⟨x,hx,h1,h2⟩;by_cases w:q a=Sn;·rw[Sv w,Sv (h a Se w)];exact VV ih
   ·rw[Sq w];by_cases w':p a=Sn;·rw[Sv w'];exact ZN ih
    ·rw[Sq w'];exact ih
theorem MZ :xV N (rows++[r])<=xV N rows:=by
 unfold xV;refine List.Sublist.length_le ?_;rw[SN];have:(λp:R4 Sj=>decide (p∉rows.map (canon N)++[r].map (canon N)))=λp=>decide (p∉rows.map (canon N)) && decide (p≠canon N r):=by funext p;simp[Sl,not_or]
 rw[this];rw[show(λp=>decide (p∉rows.map (canon N)) && decide (p≠canon N r))=λp=>(λp=>decide (p∉rows.map (canon N))) p && (λp=>decide (p≠canon N r)) p from rfl];rw[<-List.filter_filter];exact(Y7).filter _ |>.trans (by exact Yw _)
theorem M0 (h:canon N r∉rows.map (canon N)):xV N (rows++[r])<xV N rows:=by
 unfold xV;refine filter_lt (λp O hp=>?_) ⟨canon N r,wM,Th h,Ti λz=>z ?_⟩
 ·refine Th λz=>SB hp ?_;rw[SN];exact Su _ z
 ·rw[SN];exact SA _ (R8.mpr rfl)
noncomputable def mh (tr:R4 En):SH:=(tr.filter λe=>decide (e.h=0)).length
theorem XL :mh tr<=tr.length:=Uo _ _
theorem ir {e:En}:mh (tr++[e])=mh tr+if e.h=0 then 1 else 0:=by
 unfold mh;rw[Wa,Sr];by_cases w:e.h=0;·rw[Sv w,TJ,Sv (Th w)];rfl
 ·rw[Sq w,TJ,Sq (by simpa using w)];rfl
theorem M1 {m:SH}(h: ∀e∈tr,e.h<=k->e∈tr.take m)(hl: ∀e∈tr.drop m,e.h≠0):mh (tr.take m)=mh tr:=by
 have:tr.filter (λe=>decide (e.h=0))=(tr.take m).filter (λe=>decide (e.h=0))++(tr.drop m).filter (λe=>decide (e.h=0)):=by rw[<-Wa,VP]
 have e0:(tr.drop m).filter (λe=>decide (e.h=0))=[]:=YL.mpr λe he=>by simpa using hl e he
 unfold mh;rw[this,e0,Tw]
def mu (N:SH)(rows:R4 (R4 Sj))(tr:R4 En):SH:=xV N rows+(N - mh tr)
structure Bd (N:SH)(s:S)(tr:R4 En)(B:SH):Prop where
 rows:s.rows.length+mu N s.rows tr<=B
 log:s.log.length+mu N s.rows tr<=B
structure gj (N:SH)(D:R4 (R4 Sj))(s:S)(tr:R4 En):Prop where
 t:dj N s tr
 r:rP N (D++s.log) s.rows
 c:i9 s.rows tr
 d:nf s.aH tr
 z:Zero (D++s.log) tr
 w:ng s.rows s.bL
 l:JE N D s.log
 rf:s.ref=Sn->[]∈s.log
 o:s.ref=Sf->td D s.rows tr/\W3 s.rows tr λi O O=>i<s.seen
 bz:s.aH.length<=200
variable{D:R4 (R4 Sj)}{s:S}
theorem ng.len (h:ng rows W)(w:Sj):(W w).length<=rows.length:=kT (h.wn w) λn hn=>by
 obtain⟨r,e,_⟩:=(h.w1 w n).mp hn;exact(R6.mp e).1
theorem BA (h:dj N s tr):tr.Nodup:=by
 have:=h.nd;rw[UO,Uv]at this;exact UO.mpr (this.imp λ{a b} z e=>z (by rw[e]))
theorem rR (h:tr.Nodup){m:SH}{e:En}(he:e∈tr.drop m):e∉tr.take m:=λz=>by
 have h:(tr.take m++tr.drop m).Nodup:=by rw[VP];exact h
 rw[Tf]at h;exact h.2.2 e z e he rfl
theorem dj.mh (h:dj N s tr){m:SH}(hk: ∀e∈tr,e.h<=k->e∈tr.take m):CK.mh (tr.take m)=CK.mh tr:=M1 (k:=k) hk λe he z=>rR (BA h) he (hk e (WX he) (yN [_,_] [] 0xf01c0521054 rfl z))
theorem W3.cut {ok:SH->En->SH->Prop}{m:SH}(h:W3 rows tr ok)(h1: ∀e∈tr.take m,e.h<=k)(h2: ∀e∈tr,e.h<=k->e∈tr.take m)(ho: ∀i e n,i<m->tr[i]? =R3 e->e.h<=k->ok' i e n->ok i e n):W3 rows (tr.take m) ok':=λi e n r hi hk hr w w' hp hl=>by
 obtain⟨q,hm⟩:=iq hi;have hh:=h1 e (R9 hi);obtain⟨e',h3,h4,h5⟩:=h i e n r q (ho i e n hm q hh hk) hr w w' hp hl;exact⟨e',h2 e' h3 (yN [_,_,_] [] 0xf205012501054 rfl hh h5),h4,h5⟩
end
section
variable{s:S}{D:R4 (R4 Sj)}
structure Cut (N:SH)(s:S)(tr:R4 En)(h:SH)(s':S)(cq:R4 En):Prop where
 t:dj N s' cq
 rl:s'.rl=s.rl
 rows:s'.rows=s.rows
 bL:s'.bL=s.bL
 log:s'.log=s.log
 ref:s'.ref=s.ref
 cl:s'.clashes=s.clashes
 j7:s'.j7=s.j7
 bl:s'.bQ=s.bQ
 aH:s'.aH=s.aH.take h
 m: ∃m,cq=tr.take m
 low: ∀e∈cq,e.h<=h
 all: ∀e∈tr,e.h<=h->e∈cq
 done: ∀i e,cq[i]? =R3 e->i<s'.seen->i<s.seen
 seen:h<s.aH.length->s'.seen=cq.length
theorem jy {a:Ad}{h:SH}(g:ao T N s H)(ha:a=⟨20,0⟩)(hk:dj N s tr)(hN:N<=100)(Bv:s.aH.length<=big)
  (fin: ∀s' cq H',ao T N s' H'->Cut N s tr h s' cq->bM 20 40 H H'->Q .none ⟨l,H'⟩):cK T [.ref a,.int (h:Sj)] ⟨l,H⟩ Q:=
 zW g ha hk hN Bv λkn nb seen m H' g' t' h1 h2 h3 f=>fin _ _ H' g' ⟨t',rfl,rfl,rfl,rfl,rfl,rfl,rfl,rfl,rfl,⟨m,rfl⟩,h1,h2,λi e hi hs=>by
  have hs:i<seen:=hs;rcases h3 with ⟨_,e1,_⟩ |⟨e1,e2,_⟩;·rwa [e1]at hs
  ·refine VW.mp λz=>?_;have q1:=hk.zy i e (iq hi).1 z;have q2:=h1 e (R9 hi);exact yF [_,_,_] [] 0xf0250123210a50 rfl e1 q1 q2,λhh=>by
  rcases h3 with ⟨e1,_⟩ |⟨_,e2,e3⟩;·exact yF [_,_] [] 0xf015010a50 rfl hh e1
  ·show seen=_;rw[e2,S9];exact SK (yN [_,_] [] 64444567636 rfl (Ue (yN [_,_] [] 64698191956 rfl e3))) (yN [_,_] [] 64698191956 rfl (Tr _ _))⟩ f
variable{s':S}{h:SH}
theorem Cut.zero (c:Cut N s tr h s' cq){E:R4 (R4 Sj)}(z:Zero E tr):Zero E cq:=by obtain⟨m,rfl⟩:=c.m;exact z.cut
theorem Cut.mh (c:Cut N s tr h s' cq)(t:dj N s tr):CK.mh cq=CK.mh tr:=by
 have ca:=c.all;obtain⟨m,rfl⟩:=c.m;exact t.mh ca
theorem Cut.w3 (c:Cut N s tr h s' cq){ok:SH->En->SH->Prop}(w:W3 rows tr ok)(ho: ∀i e n,tr[i]? =R3 e->cq[i]? =R3 e->e.h<=h->ok' i e n->ok i e n):W3 rows cq ok':=by
 have c1:=c.low;have c2:=c.all;obtain⟨m,rfl⟩:=c.m;exact w.cut c1 c2 λi e n hm hi hh hk=>ho i e n hi ((Tu hm).trans hi) hh hk
theorem Cut.big (c:Cut N s tr h s' cq)(b:gj N D s tr):gj N D s' cq where
 t:=c.t
 r:=by rw[c.log,c.rows];exact b.r
 c:=by obtain⟨m,e⟩:=c.m;rw[c.rows,e];exact b.c.cut
 d:=by have c1:=c.low;obtain⟨m,e⟩:=c.m;rw[c.aH,e];replace c1:=e▸c1;exact b.d.cut c1
 z:=by rw[c.log];exact c.zero b.z
 w:=by rw[c.rows,c.bL];exact b.w
 l:=by exact c.log▸(b.l)
 rf:=by exact c.ref▸c.log▸(b.rf)
 o:=by rw[c.ref,c.rows];intro e;obtain⟨o1,o2⟩:=b.o e;exact⟨o1.DN λe he h0=>c.all e he (yN [_,_] [] 0xf01c0521054 rfl h0),c.w3 o2 λi e n O hi O hs=>c.done i e hi hs⟩
 bz:=by rw[c.aH,S9];exact SJ (TT _ _) b.bz
theorem Cut.bd (c:Cut N s tr h s' cq)(t:dj N s tr)(b:Bd N s tr B):Bd N s' cq B:=by
 have e:=c.mh t;constructor;·have:=b.rows;unfold mu at this ⊢;exact e▸c.rows▸(this)
 ·have:=b.log;unfold mu at this ⊢;exact e▸c.rows▸c.log▸(this)
theorem qR {v:Sj}(h:1<=v/\v<=N):v∈vars N:=SL.mpr ⟨v.natAbs - 1,Uw.mpr (yN [_,_,_] [_] 0xf20a500551305110a54 rfl h.2 (jX (yZ [] [_] 0xf011c51001c55 rfl h.1)) (i6 (yN [_] [_] 0xf1051011c51011c54 rfl h.1 Ts))),Td (yZ [_,_] [_] 0xf10a50035101a55 rfl (jX (yZ [] [_] 0xf011c51001c55 rfl h.1)) (i6 (yN [_] [_] 0xf1051011c51011c54 rfl h.1 Ts))) (yZ [_,_] [_] 0xf0a15030511a055 rfl Ts (li _ _))⟩
theorem ao.zY (g:ao T N s H){v:Sj}(hv:1<=v/\v<=N)(e:H ⟨30,s.nh⟩=R3 (.dict kvs ep)): ∃i,bC kvs v=R3 (.int i):=by
 obtain⟨k',ep',e',h1,h2⟩:=g.fO;replace e':=e▸e';cases e';cases z:bC kvs v with
 |none=>exact Sw (by rw[h1];exact qR hv) (cW.mp z)
 |some x=>unfold bC at z;obtain⟨p,hp,rfl⟩:=SR.mp z;obtain⟨i,hi⟩:=h2 p (Yu hp);exact⟨i,hi▸rfl⟩
theorem th {body:WM Fl}{x:V}{Q:Fl->St->Prop}{L:Si V->R4 (Si V)}(g:ao T N s H)(hx:sr H x (.seq b (bH c)))(hz:c.length<=big)
  (hb: ∀y∈c,∀w,∀K:Unit->St->Prop,K () ⟨lo (L (R3 (.int y))),H⟩->lA (.int y) ⟨lo (L w),H⟩ K) (hs: ∀y∈c,∀K:St->Prop,K ⟨lo (L (R3 (.int y))),H⟩->body ⟨lo (L (R3 (.int y))),H⟩ (AW Q K)) (q: ∀w,Q .next ⟨lo (L w),H⟩):dQ lA body x ⟨lo (L Sg),H⟩ Q:=
 fm (S:=.seq b (bH c)) (f:=V.int) (c:=c) (λpre J=>∃w,J=⟨lo (L w),H⟩) rfl (by show(bH c).length<=big;rwa [ag]) (λpre J xW=>by obtain⟨w,e⟩:=xW;rw[e];exact hx _) ⟨Sg,rfl⟩
  (λpre y gD J he zq5 K hK=>by obtain⟨w,e⟩:=zq5;rw[e];exact hb y (mem_mid he) w _ (hs y (mem_mid he) K (hK _ ⟨_,rfl⟩))) λJ zq1=>by obtain⟨w,e⟩:=zq1;rw[e];exact q w
theorem fj.pre {D:R4 (R4 Sj)}(h:fj D L):fj (D++[c]) L:=h.mono λx hx=>Su _ hx
theorem zZ {D:R4 (R4 Sj)}{x:R4 Sj}(h:x∈D++L):x∈(D++[c])++L:=by
 rcases Sl.mp h with q |q;·exact Su _ (Su _ q)
 ·exact SA _ q
theorem o6 {row:R4 Sj}:tv row x=R3 Sn↔x∈row:=by
 unfold tv;by_cases w:x∈row;·exact(Sv w)▸(⟨λO=>w,λO=>rfl⟩)
 ·rw[Sq w];split;·exact⟨λz=>(nomatch z),λz=>Sw z w⟩
  ·exact⟨λz=>(c6 z),λz=>Sw z w⟩
theorem iO {row:R4 Sj}:tv row x=Sg↔x∉row/\-x∉row:=by
 unfold tv;by_cases w:x∈row;·rw[Sv w];exact⟨λz=>(Eh z),λz=>Sw w z.1⟩
 ·rw[Sq w];by_cases w2: -x∈row;·rw[Sv w2];exact⟨λz=>(Eh z),λz=>Sw w2 z.2⟩
  ·rw[Sq w2];exact⟨λO=>⟨w,w2⟩,λO=>rfl⟩
theorem gw {row:R4 Sj}(hc:x∈row->-x∉row):tv row x=R3 Sf↔-x∈row:=by
 unfold tv;by_cases w:x∈row;·rw[Sv w];exact⟨λz=>(nomatch z),λz=>Sw z (hc w)⟩
 ·rw[Sq w];by_cases w2: -x∈row;·rw[Sv w2];exact⟨λO=>w2,λO=>rfl⟩
  ·rw[Sq w2];exact⟨λz=>(c6 z),λz=>Sw z w2⟩
end
section
variable{s:S}{D:R4 (R4 Sj)}
theorem OX {x:V}(h: ∀y∈vs,J3 x y)(q:Q (.bool (vs.any (eqB x))) ⟨l,H⟩):xU x (.bF b vs) ⟨l,H⟩ Q:=by
 unfold xU;exact⟨_,.s x _ b vs rfl h,q⟩
theorem z0 {o:Si Tn}(q:Q (.bool o.isNone) J):dB (ov o) .none J Q:=by
 cases o with
 |none=>exact q
 |some b=>exact q
theorem gj.grow (b:gj N D s tr)(ho:s.ref=Sf->(∃e∈tr,e.h=0/\e.l∈c)\/∃r∈s.rows,∀x∈r,x∈c):gj N (D++[c]) s tr where
 t:=b.t
 r:=b.r.mono λO=>zZ
 c:=b.c
 d:=b.d
 z:=b.z.mono λO=>zZ
 w:=b.w
 l:=⟨b.l.rQ.pre,b.l.cl⟩
 rf:=b.rf
 o:=λe=>⟨(b.o e).1.add (ho e),(b.o e).2⟩
 bz:=b.bz
theorem eo {x y:R4 Sj}(h:x∈D++L):x∈D++(L++[y]):=by rw[<-TG];exact Su _ h
theorem aaa :c∈(D++[c])++L:=Su _ (SA _ Se)
theorem Zero.neg {E:R4 (R4 Sj)}(z:Zero E tr)(t:dj N s tr)(h0: ∀e∈tr,e.h<=0)(hx:x∈s.row):js E [] x:=by
 replace hx:=t.row▸hx;obtain⟨e,he,rfl⟩:=bX.mp hx;exact z e he (Y5.mp (h0 e he))
theorem jU (hD: ∀x∈D,x∈D'): ∀x∈D++L,x∈D'++L:=λx h=>by
 rcases Sl.mp h with q |q;·exact Su _ (hD x q)
 ·exact SA _ q
theorem gj.aab (b:gj N D s tr)(hD: ∀x∈D,x∈D')(h:b7 (D'++s.log) []):gj N D' (s.Hy.wB (s.log++[[]])) tr where
 t:=⟨b.t.row,b.t.kn,b.t.ht,b.t.ca,b.t.var,b.t.nd,b.t.zx,b.t.bb,b.t.hb,b.t.seen,b.t.zy⟩
 r:=b.r.mono λO z=>eo (jU hD _ z)
 c:=b.c
 d:=b.d
 z:=b.z.mono λO z=>eo (jU hD _ z)
 w:=b.w
 l:=⟨(b.l.rQ.mono hD).snoc h,λq hq=>by
  rcases Sl.mp hq with z |z;·exact b.l.cl q z
  ·rw[R8.mp z];exact⟨WP,λx hx=>Sw hx Sy⟩⟩
 rf:=λO=>SA _ Se
 o:=λe=>gV (show Sn=Sf from e)
 bz:=b.bz
theorem dj.same (t:dj N s tr){s':S}(h1:s'.row=s.row)(h2:s'.kn=s.kn)(h3:s'.ht=s.ht)(h4:s'.ca=s.ca)(h5:s'.aH=s.aH)(h6:s'.seen=s.seen):dj N s' tr:=
 ⟨h1.trans t.row,by rw[h2,h1];exact t.kn,by rw[h3];exact t.ht,by rw[h4];exact t.ca,t.var,t.nd,by rw[h5];exact t.zx,by rw[h5];exact t.bb,by rw[h5];exact t.hb,by rw[h6];exact t.seen,by rw[h6,h5];exact t.zy⟩
theorem gj.unit (b:gj N D s tr)(hb:s.aH=[])(hr:s.ref=Sf)(hv:1<=x.natAbs/\x.natAbs<=N)(t:dj N (s.sT kn ht ca (s.row++[x])) (tr++[⟨x,s.aH.length,Sg⟩]))(hD: ∀x∈D,x∈D')(ho: ∀q∈D',q∈D\/x∈q)(hd:js (D'++s.log) [] x):gj N D' (s.sT kn ht ca (s.row++[x])) (tr++[⟨x,s.aH.length,Sg⟩]) where
 t:=t
 r:=b.r.mono (jU hD)
 c:=b.c.add λn z=>c6 z
 d:=b.d.add λO z=>Sw (by show s.aH.length=0;rw[hb];rfl) z
 z:=(b.z.mono (jU hD)).add λO=>hd
 w:=b.w
 l:=⟨b.l.rQ.mono hD,b.l.cl⟩
 rf:=b.rf
 o:=λe=>⟨λq hq=>(ho q hq).elim (λz=>(b.o e).1.DN (λe he O=>Su _ he) q z) λz=>.inl ⟨_,SA _ Se,by show s.aH.length=0;rw[hb];rfl,z⟩,(b.o e).2.DN λi e n hi=>⟨TN hi b.t.seen,hi⟩⟩
 bz:=b.bz
theorem DM.acG {y w:Sj}:DM (x::y::r) w↔w=x\/w=y:=by
 unfold DM;show R3 x=R3 w\/R3 y=R3 w↔_;rw[UT,UT];exact⟨λz=>z.imp Wt Wt,λz=>z.imp Wt Wt⟩
theorem ng.keep (h:ng rows W){y:Sj}:ng (rows++[x::y::r]) λw=>if w=x\/w=y then W w++[rows.length]else W w:=by
 have hl: ∀w,rows.length∉W w:=λw z=>by obtain⟨r,e,_⟩:=(h.w1 w _).mp z;exact Sw (R6.mp e).1 (Uq _)
 refine h.row (λw m hm=>?_) (λw=>?_) λw=>?_
 ·by_cases q:w=x\/w=y;·rw[Sv q];simp[hm]
  ·rw[Sq q]
 ·rw[DM.acG];by_cases q:w=x\/w=y;·rw[Sv q];exact⟨λO=>q,λO=>SA _ Se⟩
  ·rw[Sq q];exact⟨λz=>Sw z (hl w),λz=>Sw z q⟩
 ·by_cases q:w=x\/w=y
  ·rw[Sv q];exact Tf.mpr ⟨h.wn w,S6.mpr ⟨Sy,Tm⟩,λa ha b hb z=>hl w (by rw[<-R8.mp hb,<-z];exact ha)⟩
  ·rw[Sq q];exact h.wn w
theorem gj.row (b:gj N D s tr)(hr:s.ref=Sf){y n:Sj}{m:SH}(h1:Row N (x::y::r))(hD: ∀x∈D,x∈D')(ho: ∀q∈D',q∈D\/∀z∈x::y::r,z∈q)(h2: ∃c∈D'++s.log,(∀z∈x::y::r,z∈c)/\∀z∈c,z∈x::y::r\/js (D'++s.log) [] (-z))
  (hx: -x∉s.row) (hy: -y∉s.row):gj N D' ((s.c4 (s.rl++[m]) (s.rows++[x::y::r])).fN pn λw=>if w=x\/w=y then s.bL w++[s.rows.length]else s.bL w) tr where
 t:=b.t.same rfl rfl rfl rfl rfl rfl
 r:=(b.r.mono (jU hD)).add h1 h2
 c:=b.c.row
 d:=b.d
 z:=b.z.mono (jU hD)
 w:=b.w.keep
 l:=⟨b.l.rQ.mono hD,b.l.cl⟩
 rf:=b.rf
 o:=λe=>⟨λq hq=>(ho q hq).elim (λz=>(b.o e).1.row q z) λz=>.inr ⟨_,SA _ Se,z⟩,λi e' n q hi hk hq w w' hp hl=>by
  by_cases z:n<s.rows.length;·exact(b.o e).2 i e' n q hi hk ((SW z).symm.trans hq) w w' hp hl
  ·have hn:=(R6.mp hq).1;rw[show(S.rows (S.fN (S.c4 s (s.rl++[m]) (s.rows++[x::y::r])) pn λw=>if w=x\/w=y then s.bL w++[s.rows.length]else s.bL w))=s.rows++[x::y::r] from rfl]at hn hq;replace hn:=Sr▸hn;have z:n=s.rows.length:=SK (Um hn) (T0.mp z);subst z;replace hq:=(TC)▸hq;obtain rfl:=R7 hq;have hm: -w∈s.row:=by exact b.t.row▸hl▸(bX.mpr ⟨e',R9 hi,rfl⟩)
   have:w=x\/w=y:=by
    rcases hp with ⟨a,_⟩ |⟨_,a⟩;·exact .inl (R7 a).symm
    ·exact .inr (R7 a).symm
   rcases this with z |z;·rw[z]at hm;exact Sw hm hx
   ·rw[z]at hm;exact Sw hm hy⟩
 bz:=b.bz
end
section
variable{s:S}{D:R4 (R4 Sj)}
theorem Bd.weak {B':SH}(b:Bd N s tr B)(h:B<=B'):Bd N s tr B':=⟨SJ b.rows h,SJ b.log h⟩
theorem Bd.of {s':S}{B':SH}(b:Bd N s tr B)(h1:mu N s'.rows cq<=mu N s.rows tr)(h2:s'.rows.length+B<=s.rows.length+B')(h3:s'.log.length+B<=s.log.length+B'):Bd N s' cq B':=by
 have i1:=b.rows;have:=b.log;exact⟨yN [_,_,_,_,_,_] [] 0xf435b5025b40b503150210b54 rfl h1 h2 i1,yN [_,_,_,_,_,_] [] 0xf435b5025b40b503150210b54 rfl h1 h3 this⟩
theorem bw {l:R4 α}{x:α}:(l++[x]).length=l.length+1:=Sr
theorem Cl.OU (h:Cl N c):(c.map Tl).Nodup:=by
 rw[UO,Uv];exact h.up.imp λ{a b} z e=>yF [_,_] [] 0xf103210a50 rfl z e
theorem kt {a:Ad}(g:ao T N s H)(ha:a=⟨20,0⟩)(b:gj N D s tr)(hb:Bd N s tr B)(hN:N<=8)(hB:B<=5000)(hc:Cl N c)
  (fin: ∀r s' cq H',ao T N s' H'->gj N (D++[c]) s' cq->Bd N s' cq (B+1)->s'.clashes=s.clashes->s'.aH=[]->bM 19 40 H H'->Q (.bool r) ⟨l,H'⟩):cQ T [.ref a,tup c] ⟨l,H⟩ Q:=by
 subst ha;have cl8:=hc.len;have cz:c.length<=big:=by unfold big;exact yN [_,_] [] 0xf1a05081c150f42405c054 rfl hN cl8
 unfold cQ;refine bJ 3 rfl (cE g.self g.dict (jy (h:=0) g rfl b.t (yN [_] [] 0xf81c050642c054 rfl hN) (SJ b.bz (R5 rfl)) λs1 dR H1 g1 k1 f1=>?_));have b1:=k1.big b;have d1:=k1.bd b.t hb;have z6:s1.aH=[]:=by rw[k1.aH];rfl
 have cl1:=k1.cl;have acH:=k1.low;clear k1;refine kX (b:=Sn) (c:=c) (λO O O=>rfl) (yN [_] [] 0xf81c0503c2c054 rfl hN) hc.OU hc.var (yN [_,_] [] 0xf1a05081c1503c2c054 rfl hN cl8) λout H2 hp ho x2=>bj rfl rfl ?_;have g2:=g1.xt x2;have f2:bM 19 40 H H2:=f1.dn.trans x2.frm;have hm: ∀x,x∈out↔x∈c:=λx=>hp.mem_iff;have oz:out.length<=big:=by rw[hp.length_eq];exact cz
 obtain⟨kvs,ep,hd,_⟩:=g2.fO;refine th (b:=Sn) (c:=c) (L:=λw=>[sf,R3 (tup c),R3 (tup out),w,Sg]) g2 (λO=>rfl) cz (λy hy w K hK=>bj rfl rfl hK) (λy hy K hK=>aG rfl g2.self g2.dict rfl trivial (lS hd ?_)) λw=>?_
 ·have v1:=hc.var y hy;obtain⟨i,hi⟩:=g2.zY (v:=(y.natAbs:Sj)) (by lia) hd;exact ut hd (λv O=>hK) λz=>by replace z:=hi▸z;exact Eh z
 refine⟨λz=>(dq z),λO=>aG rfl g2.self g2.dict rfl trivial ⟨λe=>?_,λe=>?_⟩⟩;·exact⟨λO=>aG rfl g2.self g2.dict rfl trivial (fin _ s1 dR H2 g2 (b1.grow λz=>by have e:s1.ref=Sn:=e;replace z:=e▸z;exact nomatch z) (d1.weak (UW B)) cl1 z6 f2),λz=>gV z⟩
 have e:s1.ref=Sf:=e;have nz: ∀x∈out,x≠0:=λx hx=>by have:=hc.var x ((hm x).mp hx);exact λhh=>yF [_] [_] 0xf01f1510151011c60 rfl this.1 (jX (yZ [] [_] 0xf01c033001c55 rfl hh)) (my (yZ [] [_] 0xf01c05301c055 rfl hh))
 refine mX (λO=>Sn) (λx=>ov (tv s1.row x)) oz (λx hx=>⟨iI,λO Q q=>cE g2.self g2.dict (gM g2 rfl b1.t (nz x hx) q)⟩) (OX (λy hy=>?_) ⟨λt=>?_,λt=>?_⟩)
 ·obtain⟨x,_,rfl⟩:=SL.mp hy;cases tv s1.row x with
  |none=>exact .n Sn
  |some b=>exact .b Sn b
 ·refine⟨λO=>aG rfl g2.self g2.dict rfl trivial (fin _ s1 dR H2 g2 (b1.grow λO=>.inl ?_) (d1.weak (UW B)) cl1 z6 f2),λz=>gV z⟩;obtain⟨v,hv,tv1⟩:=Ut.mp t;obtain⟨x,hx,rfl⟩:=SL.mp hv;have hx:=(TQ.mp hx).1;have hr:x∈s1.row:=by
   cases q:tv s1.row x with
   |none=>replace tv1:=q▸tv1;cases tv1
   |some w=>
    rw[q]at tv1;cases w;·cases tv1
    ·exact o6.mp q
  replace hr:=b1.t.row▸hr;obtain⟨e',u9,rfl⟩:=bX.mp hr;exact⟨e',u9,Y5.mp (acH e' u9),(hm _).mp hx⟩
 have nt: ∀x∈c,x∉s1.row:=λx hx z=>by have:(((out.filter λO=>Sn).map λx=>ov (tv s1.row x)).any (eqB (.bool Sn)))=Sn:=Ut.mpr ⟨_,Tz (TQ.mpr ⟨(hm x).mpr hx,rfl⟩),by rw[o6.mpr z];rfl⟩;replace t:=this▸t;exact gV t
 refine⟨λz=>(dq z),λO=>mX (λx=>(tv s1.row x).isNone) V.int oz (λx hx=>⟨λQ q=>cE g2.self g2.dict (gM g2 rfl b1.t (nz x hx) (z0 q)),λO Q q=>q⟩) (bj rfl rfl ?_)⟩;obtain⟨left,wP⟩: ∃left,left=out.filter λx=>(tv s1.row x).isNone:=⟨_,rfl⟩;rw[<-wP];have lm: ∀x,x∈left↔x∈c/\-x∉s1.row:=λx=>by rw[wP,TQ,hm];refine⟨λzq=>by obtain⟨z1,z2⟩:=zq;exact⟨z1,(iO.mp (Vp.mp z2)).2⟩,λ⟨z1,z2⟩=>⟨z1,?_⟩⟩;rw[iO.mpr ⟨nt x z1,z2⟩];rfl
 have lz:left.length<=c.length:=by exact wP▸hp.length_eq▸(Uo _ _)
 have lnd:(left.map Tl).Nodup:=by exact wP▸(ho.OU.sublist ((Y7).map _))
 have down: ∀x∈c,x∉left->js ((D++[c])++s1.log) [] (-x):=λx hx hn=>by have: -x∈s1.row:=Tk λz=>hn ((lm x).mpr ⟨hx,z⟩);exact(b1.z.neg b1.t acH this).mono (λO=>zZ) λa ha=>.bU ha
 clear wP;have bg:=λh=>b1.grow (c:=c) h;have aeq:s1.log.length<=big:=by have:=d1.log;unfold big;exact yN [_,_,_] [] 0xf120b5013884c150f42405c054 rfl hB this
 have sq:sq H2 (.bF Sf (left.map V.int)) Sf (bH left):=ay;have eq0:decide ((left.length:Sj)=0)=Sn->left=[]:=λz=>XY (T1.mp (SB z));refine ci sq (by rw[ag];exact yN [_,_,_] [] 0xf205012501054 rfl cz lz) (i7 ?_);refine ag▸?_;cases left with
 |nil=>refine⟨λO=>cE g2.self g2.dict (ta g2 rfl aeq λH3 g3 f3'=>have f3:=f3'.dn;aG rfl g3.self g3.dict rfl trivial (fin _ _ dR H3 g3 ?_ (d1.of (S8 _) (by show s1.rows.length+B<=_;exact yN [_,_] [] 0xf1a0b10b54 rfl) (by show(s1.log++[[]]).length+B<=_;rw[bw];exact yN [_,_] [] 0xf1a0b10ab54 rfl)) cl1 z6 (f2.trans f3))),λz=>(gV z)⟩;exact b1.aab (λx hx=>Su _ hx) (.of aaa λx hx=>down x hx Sy)
 |cons x r=>
  cases r with
  |nil=>
   have hx:=(lm x).mp Se;have vx:=hc.var x hx.1;refine⟨λz=>(dq z),λO=>ci sq (by rw[ag];exact yN [_,_,_] [] 0xf205012501054 rfl cz lz) (i7 ⟨λO=>cE g2.self g2.dict (bS (n:=0) (v:=.int x) sq (by rw[ag];exact yN [_,_,_] [] 0xf205012501054 rfl cz lz) rfl ?_),λz=>(gV z)⟩)⟩;refine qE (c:=Sg) g2 rfl b1.t (yN [_] [] 0xf81c050642c054 rfl hN) (by rw[z6];exact S7 _) vx (nt x hx.1) hx.2 λkn ht ca H3 g3 t3 f3'=>have f3:=f3'.dn;aG rfl g3.self g3.dict rfl trivial (fin _ _ (dR++[⟨x,s1.aH.length,Sg⟩]) H3 g3 ?_ ?_ cl1 z6 (f2.trans f3));·refine b1.unit z6 e vx t3 (λx hx=>Su _ hx) (λq hq=>(Sl.mp hq).imp_right λz=>by rw[R8.mp z];exact hx.1) (.unit aaa hx.1 λy hy cF=>down y hy λz=>cF (R8.mp z))
   ·refine d1.of ?_ (by show s1.rows.length+B<=_;exact yN [_,_] [] 0xf1a0b10b54 rfl) (by show s1.log.length+B<=_;exact yN [_,_] [] 0xf1a0b10b54 rfl);show xV N s1.rows+(N - mh _)<=xV N s1.rows+(N - mh _);rw[ir];exact(UV _ _).elim (λbE=>yN [_,_,_,_,_,_] [] 0xf354b1b5042b35020b10b54 rfl (li _ _) (i6 (yN [_,_,_] [] 0xf210b50210b54 rfl bE))) (λbE=>yN [_,_,_] [] 0xf01c15020b10b54 rfl (Of (yN [_,_,_] [] 0xf21b05021b054 rfl bE)))
  |cons y r=>
   have hx:=(lm x).mp Se;have hy:=(lm y).mp (SQ _ Se);have vx:=hc.var x hx.1;have vy:=hc.var y hy.1;have hn:x.natAbs≠y.natAbs:=λz=>by rw[Tq,S6]at lnd;exact lnd.1 (by rw[z];exact Se)
   have rz:=d1.rows;have n1: ¬((x::y::r).length:Sj)=0:=λz=>Sw (T1.mp z) (XX _);have n2: ¬((x::y::r).length:Sj)=1:=λz=>Sw (VD (T1.mp z)) (XX _);refine⟨λz=>Sw (by simpa using z) n1,λO=>ci sq (by rw[ag];exact yN [_,_,_] [] 0xf205012501054 rfl cz lz) (i7 ⟨λz=>Sw (by rw[ag]at z;simpa using z) n2,λO=>cE g2.self g2.dict ?_⟩)⟩;refine Bz (x:=x) (y:=y) (r:=r) g2 rfl (yN [_] [] 0xf81c050642c054 rfl hN) vx.2 vy.2 (λz=>hn (z▸rfl)) (by simp only[TB]at lz;exact yN [_,_,_] [] 0xf20aa501a25081c1503e83c054 rfl hN cl8 lz) (yN [_,_,_] [] 0xf120b5013884c15027104c054 rfl hB rz) (λw=>SJ (b1.w.len w) (yN [_,_,_] [] 0xf120b5013884c15027104c054 rfl hB rz)) λn pn H3 g3 f3=>aG rfl g3.self g3.dict rfl trivial (fin _ _ dR H3 g3 ?_ ?_ cl1 z6 (f2.trans f3))
   ·refine b1.row (n:=0) e ⟨Nat.le_add_left _ _,lnd,λz hz=>hc.var z ((lm z).mp hz).1⟩ (λx hx=>Su _ hx) (λq hq=>(Sl.mp hq).imp_right λz=>?_) ⟨c,aaa,λz hz=>((lm z).mp hz).1,λz hz=>?_⟩ hx.2 hy.2;·exact(R8.mp z)▸(λz hz=>((lm z).mp hz).1)
    ·by_cases q:z∈x::y::r;·exact .inl q
     ·exact .inr (down z hz q)
   ·refine d1.of ?_ (by show(s1.rows++[x::y::r]).length+B<=_;rw[bw];exact yN [_,_] [] 0xf1a0b10ab54 rfl) (by show s1.log.length+B<=_;exact yN [_,_] [] 0xf1a0b10b54 rfl);exact Vr MZ _
end
section
variable{s:S}{D:R4 (R4 Sj)}
theorem aac {o:Si Tn}(q:Q (.bool (Ul (o≠R3 Sf))) J):ug (ov o) (.bool Sf) J Q:=by
 unfold ug;cases o with
 |none=>exact⟨_,.nb Sf,q⟩
 |some b=>cases b with
  |true=>exact⟨_,.bb Sn Sf,q⟩
  |false=>exact⟨_,.bb Sf Sf,q⟩
theorem wQ {o:Si Tn}(q:Q (.bool (Ul (o=R3 b))) J):iA (ov o) (.bool b) J Q:=by
 unfold iA;cases o with
 |none=>exact⟨_,.nb b,q⟩
 |some c=>refine⟨_,.bb c b,?_⟩;cases b<;>cases c<;>exact q
theorem uM {m n:Sj}(q:pB (.range m n) J Q):sV (.int m) (.int n) J Q:=by unfold sV;exact⟨m,n,rfl,rfl,q⟩
theorem uN {n:Sj}(q:pB (.range 0 n) J Q):sU (.int n) J Q:=by unfold sU;exact⟨n,rfl,q⟩
theorem HX {y:Sj}{t:R4 Sj}: ∀{i:SH},t[i]? =R3 y->(y::t.set i x).Perm (x::t):=by
 induction t with
 |nil=>intro i h;exact c6 h
 |cons z t ih=>
  intro i h;cases i with
  |zero=>obtain rfl:=R7 h;exact V0 x z t
  |succ i=>have h:t[i]? =R3 y:=h;exact(V0 z y _).trans (((ih h).cons z).trans (V0 x z t))
theorem ao.M2 {Q:Unit->St->Prop}(h:ao T N s H){z:Sj}(hn:s.rl[num]? =R3 n)(hr:s.rows[num]? =R3 r)(hi:i<r.length)(hz:r.length<=big)(q: ∀H',ao T N (s.c4 s.rl (s.rows.set num (r.set i z))) H'->bM 20 40 H H'->Q () ⟨l,H'⟩):
  dg (.ref ⟨32,n⟩) (.int (i:Sj)) (.int z) ⟨l,H⟩ Q:=
 Hg (h.ix num n r hn hr) (by rwa [ag]) (by rwa [ag]) (by have:=h.ael (r:=r.set i z) hn;rw[uw]at this;exact q _ this (.set rfl))
theorem uO {a:Ad}{t:R4 Sj}{first:Sj}(g:ao T N s H)(ha:a=⟨20,0⟩)(hk:dj N s tr)(hN:N<=100)(hr:s.rows[num]? =R3 r)(hR:Row N r)(hp:r=lost::first::t\/r=first::lost::t)(tz:t.length<=1000)(rz:s.rows.length<=10000)(wz: ∀w,(s.bL w).length<=10000)
  (M3: ∀H',ao T N (s.c4 s.rl (s.rows.set num (first::lost::t))) H'->bM 19 40 H H'->(∀m vs,Loose s H m vs->Loose s H' m vs)->(first∈s.row\/∀x∈t,-x∈s.row)->Q (.bool Sf) ⟨l,H'⟩)
  (aad: ∀pn y t' H',ao T N ((s.c4 s.rl (s.rows.set num (first::y::t'))).fN pn λw=>if w=y then s.bL w++[num]else s.bL w) H'->bM 19 40 H H'->(∀m vs,Loose s H m vs->(H' ⟨19,m⟩=R3 (.list (kq vs))/\∀z,pn z≠R3 m))->(∀z m,s.pn z=R3 m->pn z=R3 m)->(y::t').Perm (lost::t)->y∈t->-y∉s.row->Q (.bool Sn) ⟨l,H'⟩):
  fq T [.ref a,.int (num:Sj),.int lost] ⟨l,H⟩ Q:=by
 subst ha;obtain⟨n,hn⟩: ∃n,s.rl[num]? =R3 n:=⟨_,SG (by rw[g.bV];exact(R6.mp hr).1)⟩;have sz:(s.rl.map λn=>V.ref ⟨32,n⟩).length<=big:=by rw[Sa,g.bV];unfold big;exact yN [_] [] 0xf27104c050f42405c054 rfl rz
 have rl2:r.length=t.length+2:=by rcases hp with e |e<;>rw[e]<;>rfl
 have JF:Row N (first::lost::t):=by
  rcases hp with e |e;·rw[e]at hR;exact hR.perm (V0 ..)
  ·rwa [<-e]
 have cF:first≠lost:=λz=>by have:=JF.nd;rw[z,Tq,S6]at this;exact this.1 Se
 have nz: ∀x∈first::lost::t,x≠0:=λx hx=>by have:=JF.var x hx;exact λhh=>yF [_] [_] 0xf01f1510151011c60 rfl this.1 (jX (yZ [] [_] 0xf01c033001c55 rfl hh)) (my (yZ [] [_] 0xf01c05301c055 rfl hh))
 have bz:r.length<=big:=by unfold big;exact yN [_,_] [] 0xf21c1b0523e83c150f42405c054 rfl tz rl2
 unfold fq;refine bJ 2 rfl (aG rfl g.self g.dict rfl trivial (bS (bq g.rows) sz (v:=.ref ⟨32,n⟩) (eX (by rw[Sx,hn];rfl)) (bj rfl rfl ?_)));have two: ∀H1,ao T N (s.c4 s.rl (s.rows.set num (first::lost::t))) H1->bM 20 40 H H1->nU T ⟨lo [sf,R3 (.int (num:Sj)),R3 (.int lost),R3 (.ref ⟨32,n⟩),Sg],H1⟩ (sqK (aq (nV T) (ae (.ret (.bool Sf)))) (Ju l Q)):=λH1 g1 f1=>by
  obtain⟨s1,sI⟩: ∃s1,s1=s.c4 s.rl (s.rows.set num (first::lost::t)):=⟨_,rfl⟩;replace g1:=sI▸g1;have k1:dj N s1 tr:=hk.same (sI▸rfl) (sI▸rfl) (sI▸rfl) (sI▸rfl) (sI▸rfl) (sI▸rfl);have e1:s1.row=s.row:=sI▸rfl;have Ka:s1.rows[num]? =R3 (first::lost::t):=by exact sI▸(Tv (R6.mp hr).1)
  have Oh:s1.rl[num]? =R3 n:=by exact sI▸(hn)
  have ix:=g1.ix num n _ Oh Ka;have z1:(bH (first::lost::t)).length<=big:=by rw[ag];simp only[TB];unfold big;exact yN [_] [] 0xf3e83c050f42405c0aa54 rfl tz
  refine cE g1.self g1.dict (bS (n:=0) (v:=.int first) (bq ix) z1 rfl (gM g1 rfl k1 (nz _ Se) (wQ ⟨λe=>?_,λe=>?_⟩)));·exact M3 H1 (by rw[<-sI];exact g1) f1.dn (λm vs k=>k.frm f1 rfl) (.inl (by rw[<-e1];exact o6.mp (SB e)))
  ·refine ci (bq ix) z1 (uM (eh 7 λm hm=>?_));have g2:=g1.xt (Xt.new (so:=.range 2 ((bH (first::lost::t)).length:Sj)) hm);have f2:bM 20 40 H _:=f1.trans (bM.new (so:=.range 2 ((bH (first::lost::t)).length:Sj)) hm);have On:aK H1 ⟨7,m⟩ (.range 2 ((bH (first::lost::t)).length:Sj)) ⟨7,m⟩=R3 (.range 2 ((bH (first::lost::t)).length:Sj)):=aw;generalize aK H1 ⟨7,m⟩ (.range 2 ((bH (first::lost::t)).length:Sj))=H2 at g2 f2 On ⊢;have ix:=g2.ix num n _ Oh Ka;refine fm (S:=.kH 2 ((bH (first::lost::t)).length:Sj)) (f:=λ(i:SH)=>V.int (2+(i:Sj))) (c:=TL t.length) (λpre J=>∃w,J=⟨lo [sf,R3 (.int (num:Sj)),R3 (.int lost),R3 (.ref ⟨32,n⟩),w],H2⟩/\∀i∈pre,∀x,t[i]? =R3 x->-x∈s.row) ?_ ?_ (λpre J xW=>by obtain⟨w,e,_⟩:=xW;rw[e];exact kR On _)
    ⟨Sg,rfl,λi hi=>Sw hi Sy⟩ ?_ ?_
   ·show(TL _).map _=_;rw[ag];have:(((first::lost::t).length:Sj) - 2).toNat=t.length:=by simp only[TB];exact SK (yN [_,_] [_,_] 0xf2a0533a25321c00f1531054 rfl (U3 (yZ [_] [_,_] 0xf2a0331a23321c00f01c55 rfl (Te _ _) (Te _ _))) (Te _ _) (Te _ _)) (yN [_,_] [_,_] 0xf2a0331a233321c00f511054 rfl (Uy _) (Te _ _) (Te _ _))
    rw[this]
   ·rw[ag];refine⟨by decide,by decide,?_,?_⟩<;>simp only[TB]<;>lia
   ·rintro pre i gD J he ⟨w,rfl,hi⟩ K hK;have hil:i<t.length:=Uw.mp (mem_mid he);obtain⟨y,hy⟩: ∃y,t[i]? =R3 y:=⟨_,SG hil⟩;have hyt:=R9 hy;have c2:(2:Sj)+(i:Sj)=((i+2:SH):Sj):=Td (yZ [_] [_] 0xf21c1b0330121cb55 rfl (Te _ _)) (yZ [_] [_] 0xf21c1b053121cb055 rfl (Te _ _));refine c2▸?_;have gy:gE (bH (first::lost::t)) ((i+2:SH):Sj)=R3 (.int y):=dD hy;refine bj rfl rfl (cE g2.self g2.dict (bS (bq ix) z1 gy (gM g2 rfl k1 (nz y (SQ _ (SQ _ hyt))) (aac ⟨λe=>?_,λe=>?_⟩))))
    ·have yn: -y∉s.row:=λz=>SB e (by rw[e1];exact(gw hk.cons).mpr z);have vy:=JF.var y (SQ _ (SQ _ hyt));refine bS (bq ix) z1 gy (aP (show 2<=1000000 by decide) (s8 rfl (g2.M2 (i:=1) Oh Ka (VV (XA _)) (by rw[ag]at z1;exact z1) λH3 g3 f3=>?_)));have hr3:(s1.rows.set num (first::y::t))[num]? =R3 (first::y::t):=Tv (R6.mp Ka).1;refine g3.M2 (i:=i+2) (z:=lost) (r:=first::y::t) Oh hr3 (VV (VV hil)) (by rw[ag]at z1;exact z1) λH4 g4 f4=>?_;have es:((s1.c4 s1.rl (s1.rows.set num ((first::lost::t).set 1 y))).c4 (s1.c4 s1.rl (s1.rows.set num ((first::lost::t).set 1 y))).rl ((s1.c4 s1.rl (s1.rows.set num ((first::lost::t).set 1 y))).rows.set num ((first::y::t).set (i+2) lost)))=s.c4 s.rl (s.rows.set num (first::y::t.set i lost)):=by rw[sI];show s.c4 s.rl (((s.rows.set num (first::lost::t)).set num (first::y::t)).set num (first::y::t.set i lost))=_;rw[YK,YK]
     replace g4:=es▸g4;have hr4:(s.rows.set num (first::y::t.set i lost))[num]? =R3 (first::y::t.set i lost):=Tv (R6.mp hr).1;have ix4:=g4.ix num n _ hn hr4;have z4:(bH (first::y::t.set i lost)).length<=big:=by rw[ag];simp only[TB,VB];unfold big;exact yN [_] [] 0xf3e83c050f42405c0aa54 rfl tz
     obtain⟨kvs,ep,hd,_⟩:=g4.dl.d;refine aG rfl g4.self g4.dict rfl trivial (lS hd (bS (n:=1) (v:=.int y) (bq ix4) z4 rfl (g4.HV (yZ [_,_] [_] 0xf301f510150642c05003e83d55 rfl hN vy.2 (sb _)) (yZ [_,_] [_] 0xf30510150642c0503e83c055 rfl hN vy.2 Ts) λm' pn5 H5 g5 e5 f5 p5 o5=>fh (g5.dl.ls y m' e5) (g5.HU e5 (SJ (wz y) (R5 rfl)) λH6 g6 f6 p6=>?_))));exact aad _ y _ H6 g6 ((((f2.trans f3).trans f4).dn.trans f5).trans f6) (λm vs k=>p6 m vs (p5 m vs (k.frm (s':=s.c4 s.rl (s.rows.set num (first::y::t.set i lost))) ((f2.trans f3).trans f4) rfl))) o5 (HX hy) hyt yn
    ·refine hK _ ⟨_,rfl,λj hj x hx=>?_⟩;rcases Sl.mp hj with q |q;·exact hi j q x hx
     ·replace hx:=hy▸(R8.mp q)▸hx;obtain rfl:=R7 hx;have:tv s.row y=R3 Sf:=by exact e1▸(Classical.not_not.mp (TF e))
      exact(gw hk.cons).mp this
   ·rintro J ⟨w,rfl,hi⟩;refine M3 H2 (by rw[<-sI];exact g2) f2.dn (λm vs k=>k.frm f2 rfl) (.inr λx hx=>?_);obtain⟨i,mD⟩:=S5.mp hx;exact hi i (Uw.mpr (R6.mp mD).1) x mD
 have ix0:=g.ix num n r hn hr;rcases hp with e |e
 ·subst e;refine bS (n:=0) (v:=.int lost) (bq ix0) (by rwa [ag]) rfl (i7 ⟨λO=>?_,λz=>Sw (TV lost) (by rw[z];decide)⟩);refine bS (n:=1) (v:=.int first) (bq ix0) (by rwa [ag]) rfl (aP (show 2<=1000000 by decide) (s8 rfl (g.M2 (i:=0) hn hr (XA _) bz λH1 g1 f1=>?_)));have Ka:(s.rows.set num (first::first::t))[num]? =R3 (first::first::t):=Tv (R6.mp hr).1;refine g1.M2 (i:=1) (z:=lost) (r:=first::first::t) hn Ka (VV (XA _)) bz λH2 g2 f2=>two H2 ?_ (f1.trans f2);have:((s.rows.set num (first::first::t)).set num (first::lost::t))=s.rows.set num (first::lost::t):=YK ..;exact this▸(g2)
 ·subst e;refine bS (n:=0) (v:=.int first) (bq ix0) (by rwa [ag]) rfl (i7 ⟨λz=>Sw (eq_of_beq z) cF,λO=>two H ?_ .refl⟩);have:s.rows.set num (first::lost::t)=s.rows:=by obtain⟨h1,h2⟩:=R6.mp hr;exact h2▸(List.set_getElem_self h1)
  rw[this];exact g
end
section
variable{E:R4 (R4 Sj)}{s:S}{t t':R4 Sj}{first y:Sj}{cur:SH}{A R:R4 SH}
theorem mi (hp:r=lost::first::t\/r=first::lost::t){w:Sj}:DM r w↔w=first\/w=lost:=by
 unfold DM;rcases hp with e |e<;>subst e
 ·show R3 lost=R3 w\/R3 first=R3 w↔_
  rw[UT,UT];exact⟨λz=>z.elim (λz=>.inr z.symm) λz=>.inl z.symm,λz=>z.elim (λz=>.inr z.symm) λz=>.inl z.symm⟩
 ·show R3 first=R3 w\/R3 lost=R3 w↔_
  rw[UT,UT];exact⟨λz=>z.imp Wt Wt,λz=>z.imp Wt Wt⟩
theorem fy (hp:r=lost::first::t\/r=first::lost::t){w w':Sj}:Pair r w w'↔w=first/\w'=lost\/w=lost/\w'=first:=by
 unfold Pair;rcases hp with e |e<;>subst e
 ·show R3 lost=R3 w/\R3 first=R3 w'\/R3 lost=R3 w'/\R3 first=R3 w↔_
  simp only[UT];exact⟨λz=>z.elim (λz=>.inr ⟨z.1.symm,z.2.symm⟩) λz=>.inl ⟨z.2.symm,z.1.symm⟩,λz=>z.elim (λz=>.inr ⟨z.2.symm,z.1.symm⟩) λz=>.inl ⟨z.1.symm,z.2.symm⟩⟩
 ·show R3 first=R3 w/\R3 lost=R3 w'\/R3 first=R3 w'/\R3 lost=R3 w↔_
  simp only[UT];exact⟨λz=>z.elim (λz=>.inl ⟨z.1.symm,z.2.symm⟩) λz=>.inr ⟨z.2.symm,z.1.symm⟩,λz=>z.elim (λz=>.inl ⟨z.1.symm,z.2.symm⟩) λz=>.inr ⟨z.2.symm,z.1.symm⟩⟩
theorem mj (hp:r=lost::first::t\/r=first::lost::t):(first::lost::t).Perm r:=by
 rcases hp with e |e<;>subst e;·exact V0 ..
 ·exact .refl _
noncomputable def Wv (bL:Sj->R4 SH)(lost:Sj)(R:R4 SH):Sj->R4 SH:=λw=>if w=lost then bL w++R else bL w
noncomputable def HY (bL:Sj->R4 SH)(y:Sj)(num:SH):Sj->R4 SH:=λw=>if w=y then bL w++[num]else bL w
theorem gx {w:Sj}(h:w=lost):Wv bL lost R w=bL w++R:=Sv h
theorem iP {w:Sj}(h:w≠lost):Wv bL lost R w=bL w:=Sq h
theorem uP {w:Sj}(h:w=y):HY bL y num w=bL w++[num]:=Sv h
theorem jz {w:Sj}(h:w≠y):HY bL y num w=bL w:=Sq h
def Eu (cur:SH)(st:R4 SH):SH->En->SH->Prop:=λi O n=>i<cur\/i=cur/\n∈st
theorem ng.aae (h:ng rows (Wv bL lost (num::R))): ∃r,rows[num]? =R3 r/\DM r lost:=(h.w1 lost num).mp (by
 unfold Wv;rw[Sv rfl];exact SA _ Se)
theorem M4 (h:Row N r)(hw:DM r lost): ∃first t,r=lost::first::t\/r=first::lost::t:=by
 have two:=h.two;cases r with
 |nil=>exact Sw two (W4 1)
 |cons a t=>cases t with
  |nil=>exact Sw two (W5 1)
  |cons b t=>
  rcases hw with e |e;·obtain rfl:=R7 e;exact⟨b,t,.inl rfl⟩
  ·obtain rfl:=R7 e;exact⟨a,t,.inr rfl⟩
theorem ng.stays (h:ng rows (Wv bL lost (num::R)))(hr:rows[num]? =R3 r)(hp:r=lost::first::t\/r=first::lost::t):ng (rows.set num (first::lost::t)) (Wv (HY bL lost num) lost R):=by
 have e:Wv (HY bL lost num) lost R=Wv bL lost (num::R):=by
  funext w;by_cases q:w=lost;·rw[gx q,gx q,uP q,TG];rfl
  ·rw[iP q,iP q,jz q]
 refine e▸?_;exact h.same hr λw=>by rw[mi hp,mi (.inr rfl)]
theorem ng.moved (h:ng rows (Wv bL lost (num::R)))(hr:rows[num]? =R3 r)(hR:Row N r)(hp:r=lost::first::t\/r=first::lost::t)(hy:y∈t):ng (rows.set num (first::y::t')) (Wv (HY bL y num) lost R):=by
 have JF:=hR.perm (mj hp);have hn:=JF.nd;rw[Tq,Tq,S6,S6]at hn;have y1:y≠lost:=λz=>hn.2.1 (by rw[<-z];exact Tz hy);have y2:y≠first:=λz=>hn.1 (by rw[<-z];exact SQ _ (Tz hy))
 have y3:first≠lost:=λz=>hn.1 (by rw[z];exact Se)
 have nl:=h.wn lost;unfold Wv at nl;replace nl:=(Sv rfl)▸nl;have hnl:num∉bL lost++R:=λz=>by
  rw[Tf]at nl;rcases Sl.mp z with q |q;·exact nl.2.2 num q num Se rfl
  ·exact(S6.mp nl.2.1).1 q
 have sub:(bL lost++R).Sublist (bL lost++num::R):=(Yw _).append (List.sublist_cons_self _ _);have old: ∀w,w≠lost->(num∈bL w↔w=first):=λw hw=>by have:=h.w1 w num;unfold Wv at this;rw[Sq hw]at this;rw[this];refine⟨λ⟨q,e,x⟩=>?_,λe=>⟨r,hr,(mi hp).mpr (.inl e)⟩⟩;replace e:=hr▸e;obtain rfl:=R7 e;exact((mi hp).mp x).elim id λz=>Sw z hw
 refine h.upd hr (λw m hm=>?_) (λw=>?_) λw=>?_
 ·by_cases q:w=lost;·rw[gx q,gx q,jz λz=>y1 (z.symm.trans q)];simp[hm]
  ·rw[iP q,iP q];by_cases z:w=y;·rw[uP z];simp[hm]
   ·rw[jz z]
 ·rw[mi (lost:=y) (.inr rfl)];by_cases q:w=lost
  ·rw[gx q,jz λz=>y1 (z.symm.trans q)];exact⟨λz=>Sw (by rw[q]at z;exact z) hnl,λz=>z.elim (λz=>Sw (z.symm.trans q) y3) λz=>Sw (z.symm.trans q) y1⟩
  ·rw[iP q];by_cases z:w=y;·rw[uP z];exact⟨λO=>.inr z,λO=>SA _ Se⟩
   ·rw[jz z,old w q];exact⟨.inl,λx=>x.elim id λx=>Sw x z⟩
 ·have hw:=h.wn w;by_cases q:w=lost;·rw[gx q,jz λz=>y1 (z.symm.trans q),q];exact nl.sublist sub
  ·rw[iP q]at hw ⊢;by_cases z:w=y
   ·rw[uP z];refine Tf.mpr ⟨hw,S6.mpr ⟨Sy,Tm⟩,λa ha b hb z'=>?_⟩;rw[R8.mp hb]at z';rw[z']at ha;exact y2 (z.symm.trans ((old w q).mp ha))
   ·rw[jz z];exact hw
theorem W3.moved (h:W3 rows tr (Eu cur A))(hr:rows[num]? =R3 r)(hp:r=lost::first::t\/r=first::lost::t)(cF:first≠lost)(hl: ∀e∈tr,e.l≠lost)(hy: ∀e∈tr,e.l≠-y)(hc: ∀e,tr[cur]? =R3 e->e.l= -lost):W3 (rows.set num (first::y::t')) tr (Eu cur A):=λi e n q hi hk hq w w' sH DQ=>by
 by_cases z:n=num
 ·subst z;replace hq:=(Tv (R6.mp hr).1)▸hq;obtain rfl:=R7 hq;have hm:=R9 hi;rcases(fy (lost:=y) (.inr rfl)).mp sH with ⟨e1,e2⟩ |⟨e1,_⟩
  ·rcases hk with hk |⟨hk,_⟩
   ·obtain⟨e',h1,h2,_⟩:=h i e n r hi (.inl hk) hr w lost ((fy hp).mpr (.inl ⟨e1,rfl⟩)) DQ;exact Sw h2 (hl e' h1)
   ·subst hk;have:=hc e hi;rw[DQ,e1]at this;exact Sw (Y9.mp this) cF
  ·replace DQ:=e1▸DQ;exact Sw DQ (hy e hm)
 ·rw[Uc (TH z)]at hq;exact h i e n q hi hk hq w w' sH DQ
theorem W3.stays (h:W3 rows tr (Eu cur A))(hr:rows[num]? =R3 r)(hp:r=lost::first::t\/r=first::lost::t)(cF:first≠lost)(hc: ∀e,tr[cur]? =R3 e->e.l= -lost/\∃e'∈tr,e'.l=first/\e'.h<=e.h):W3 (rows.set num (first::lost::t)) tr (Eu cur (A++[num])):=λi e n q hi hk hq w w' sH DQ=>by
 by_cases z:n=num
 ·subst z;replace hq:=(Tv (R6.mp hr).1)▸hq;obtain rfl:=R7 hq;have sH:Pair r w w':=(fy hp).mpr ((fy (.inr rfl)).mp sH);rcases hk with hk |⟨hk,_⟩;·exact h i e n r hi (.inl hk) hr w w' sH DQ
  ·subst hk;obtain⟨c1,e',h1,h2,h3⟩:=hc e hi;rcases(fy hp).mp sH with ⟨e1,e2⟩ |⟨e1,e2⟩
   ·rw[DQ,e1]at c1;exact Sw (Y9.mp c1) cF
   ·exact⟨e',h1,h2.trans e2.symm,h3⟩
 ·rw[Uc (TH z)]at hq;refine h i e n q hi ?_ hq w w' sH DQ;exact hk.imp_right λzq=>by obtain⟨k1,k2⟩:=zq;exact⟨k1,(Sl.mp k2).elim id λk=>Sw (R8.mp k) z⟩
theorem W3.turned {ok:SH->En->SH->Prop}(h:W3 rows tr ok)(hr:rows[num]? =R3 r)(hp:r=lost::first::t\/r=first::lost::t):W3 (rows.set num (first::lost::t)) tr ok:=λi e n q hi hk hq w w' sH DQ=>by
 by_cases z:n=num
 ·subst z;replace hq:=(Tv (R6.mp hr).1)▸hq;obtain rfl:=R7 hq;exact h i e n r hi hk hr w w' ((fy hp).mpr ((fy (.inr rfl)).mp sH)) DQ
 ·rw[Uc (TH z)]at hq;exact h i e n q hi hk hq w w' sH DQ
theorem W3.done (h:W3 rows tr (Eu cur (bL lost)))(hw:ng rows (Wv bL lost []))(hc: ∀e,tr[cur]? =R3 e->e.l= -lost):W3 rows tr λi O O=>i<cur+1:=λi e n r hi hk hr w w' hp hl=>by
 rcases VG (Um hk)with q |q;·exact h i e n r hi (.inl q) hr w w' hp hl
 ·subst q;have:=hc e hi;rw[hl]at this;have this:=Y9.mp this;refine h i e n r hi (.inr ⟨rfl,?_⟩) hr w w' hp hl;have:=(hw.w1 lost n).mpr ⟨r,hr,by refine this▸?_;exact hp.elim (λz=>.inl z.1) λz=>.inr z.2⟩;unfold Wv at this;rwa [Sv rfl,Tw]at this
structure rS (N:SH)(E:R4 (R4 Sj))(s:S)(tr:R4 En)(W:Sj->R4 SH):Prop where
 t:dj N s tr
 r:rP N E s.rows
 c:i9 s.rows tr
 d:nf s.aH tr
 z:Zero E tr
 w:ng s.rows W
structure rj (s:S)(tr:R4 En)(s':S)(cq:R4 En):Prop where
 rp:RP s.rows s'.rows
 aH:s'.aH=s.aH
 log:s'.log=s.log
 ref:s'.ref=s.ref
 cl:s'.clashes=s.clashes
 bl:s'.bQ=s.bQ
 j7:s'.j7=s.j7
 ext: ∃x,cq=tr++x
 new: ∀e∈cq,e∈tr\/e.c≠Sg/\e.h=s.aH.length
theorem rj.refl:rj s tr s tr:=⟨.refl,rfl,rfl,rfl,rfl,rfl,rfl,⟨[],(Tw _).symm⟩,λe he=>.inl he⟩
end
section
variable{s:S}{D:R4 (R4 Sj)}
section
variable{kd kl nd:SH}
theorem DL.pop (h:DL kd kl nd pn pl H)(Fi:(kl==kd)=Sf)(hd:H ⟨kd,nd⟩=R3 (.dict kvs ep)):
  DL kd kl nd (λy=>if y=x then Sg else pn y) (λy=>if y=x then[]else pl y) (aK H ⟨kd,nd⟩ (.dict (oi kvs x) ep')) where
 d:=⟨_,ep',aw,λy=>by
  rw[mV];by_cases q:y=x;·rw[Sv q,Sv q];rfl
  ·rw[Sq q,Sq q];obtain⟨k,e,h1,h2⟩:=h.d;replace h1:=hd▸h1;cases h1;exact h2 y⟩
 ls:=λy n e=>by
  rw[ai Fi];by_cases q:y=x;·replace e:=(Sv q)▸e;cases e
  ·rw[Sq q]at e ⊢;exact h.ls y n e
 inj:=λy y' n e e'=>by
  by_cases q:y=x;·replace e:=(Sv q)▸e;cases e
  ·by_cases q':y'=x;·replace e':=(Sv q')▸e';cases e'
   ·rw[Sq q]at e;rw[Sq q']at e';exact h.inj y y' n e e'
 no:=λy e=>by
  by_cases q:y=x;·exact Sv q
  ·rw[Sq q]at e ⊢;exact h.no y e
theorem DL.link (h:DL kd kl nd pn pl H)(Fi:(kl==kd)=Sf){m:SH}(hm: ∀y,pn y≠R3 m){vs:R4 SH}(hl:H ⟨kl,m⟩=R3 (.list (kq vs)))(hd:H ⟨kd,nd⟩=R3 (.dict kvs ep)):
  DL kd kl nd (λy=>if y=x then R3 m else pn y) (λy=>if y=x then vs else pl y) (aK H ⟨kd,nd⟩ (.dict (cY kvs x (.ref ⟨kl,m⟩)) ep')) where
 d:=⟨_,ep',aw,λy=>by
  rw[gb];by_cases q:y=x;·rw[Sv q,Sv q];rfl
  ·rw[Sq q,Sq q];obtain⟨k,e,h1,h2⟩:=h.d;replace h1:=hd▸h1;cases h1;exact h2 y⟩
 ls:=λy n e=>by
  rw[ai Fi];by_cases q:y=x;·rw[Sv q]at e ⊢;obtain rfl:=R7 e;exact hl
  ·rw[Sq q]at e ⊢;exact h.ls y n e
 inj:=λy y' n e e'=>by
  by_cases q:y=x<;>by_cases q':y'=x;·rw[q,q']
  ·rw[Sv q]at e;obtain rfl:=R7 e;rw[Sq q']at e';exact Sw e' (hm y')
  ·replace e':=(Sv q')▸e';obtain rfl:=R7 e';rw[Sq q]at e;exact Sw e (hm y)
  ·rw[Sq q]at e;rw[Sq q']at e';exact h.inj y y' n e e'
 no:=λy e=>by
  by_cases q:y=x;·replace e:=(Sv q)▸e;cases e
  ·rw[Sq q]at e ⊢;exact h.no y e
end
def Nums (s:S)(H:Hp)(v:V)(ns:R4 SH):Prop:=v=.bF Sf []/\ns=[]\/∃m,v=.ref ⟨19,m⟩/\Loose s H m ns
theorem Nums.sq {v:V}{ns:R4 SH}(h:Nums s H v ns):CK.sq H v Sf (kq ns):=by
 rcases h with ⟨rfl,rfl⟩ |⟨m,rfl,h,_⟩;·exact ay
 ·exact bq h
theorem Nums.step {s':S}{v:V}{ns:R4 SH}(h:Nums s H v ns)(f: ∀m vs,Loose s H m vs->Loose s' H' m vs):Nums s' H' v ns:=h.imp_right λzq=>by obtain⟨m,e,k⟩:=zq;exact⟨m,e,f m ns k⟩
theorem ao.M5 (h:ao T N s H)(q: ∀v H',ao T N (s.fN (λy=>if y=x then Sg else s.pn y) λy=>if y=x then[]else s.bL y) H'->bM 19 40 H H'->Nums (s.fN (λy=>if y=x then Sg else s.pn y) λy=>if y=x then[]else s.bL y) H' v (s.bL x)->Q v ⟨l,H'⟩):
  za (.ref ⟨29,0⟩) (.int x) (.bF Sf []) ⟨l,H⟩ Q:=by
 obtain⟨kvs,ep,hd,hv⟩:=h.dl.d;unfold za;have e:bC kvs x=(s.pn x).map λn=>V.ref ⟨19,n⟩:=hv x;cases z:s.pn x with
 |none=>
  replace e:=z▸e;refine⟨⟨29,0⟩,x,kvs,ep,rfl,rfl,hd,λv jZ=>c6 (e.symm.trans jZ),λO=>?_⟩;have e1:(λy=>if y=x then Sg else s.pn y)=s.pn:=by
   funext y;by_cases w:y=x;·rw[Sv w,w,z]
   ·exact Sq w
  have e2:(λy=>if y=x then[]else s.bL y)=s.bL:=by
   funext y;by_cases w:y=x;·rw[Sv w,w,h.dl.no x z]
   ·exact Sq w
  replace q:=e2▸e1▸q;exact q _ H h .refl (.inl ⟨rfl,h.dl.no x z⟩)
 |some n=>
  rw[z]at e;refine⟨⟨29,0⟩,x,kvs,ep,rfl,rfl,hd,λv jZ=>?_,λjZ=>c6 (jZ.symm.trans e)⟩;cases R7 (e.symm.trans jZ);refine λep'=>q _ _ (h.Hz (h.dl.pop (ep':=ep') rfl hd) λb o e k O=>(jr k).trans e) (bM.set rfl) (.inr ⟨n,rfl,(ai rfl).trans (h.dl.ls x n z),λy e=>?_⟩);have e:(if y=x then Sg else s.pn y)=R3 n:=e;by_cases w:y=x;·replace e:=(Sv w)▸e;cases e
  ·replace e:=(Sq w)▸e;exact w (h.dl.inj y x n e z)
theorem ao.HZ {Q:Unit->St->Prop}(h:ao T N s H){m:SH}{vs:R4 SH}(h1: -1000<=x)(h2:x<=1000)(hl:Loose s H m vs)
  (q: ∀H',ao T N (s.fN (λy=>if y=x then R3 m else s.pn y) λy=>if y=x then vs else s.bL y) H'->bM 20 40 H H'->Q () ⟨l,H'⟩):dg (.ref ⟨29,0⟩) (.int x) (.ref ⟨19,m⟩) ⟨l,H⟩ Q:=by
 obtain⟨kvs,ep,hd,hv⟩:=h.dl.d;exact gU hd h1 h2 λep'=>q _ (h.Hz (h.dl.link (ep':=ep') rfl hl.2 hl.1 hd) λb o e k O=>(jr k).trans e) (.set rfl)
theorem ao.acI (h:ao T N s H){m:SH}{us:R4 SH}{y:V}(e:s.pn x=R3 m)(hz:(s.bL x).length<=big)(hu:us.length<=big)(hy:sq H y Sf (kq us))(q: ∀H',ao T N (s.fN s.pn (Wv s.bL x us)) H'->bM 19 40 H H'->(∀m' vs,Loose s H m' vs->Loose (s.fN s.pn (Wv s.bL x us)) H' m' vs)->Q .none ⟨l,H'⟩):Rh (.ref ⟨19,m⟩) y ⟨l,H⟩ Q:=by
 unfold Rh;have e1:=h.dl.ls x m e;refine⟨⟨19,m⟩,_,_,rfl,e1,hy l,by rwa [cb],by rwa [cb],?_⟩;have d:=h.dl.put rfl e (s.bL x++us);have e2:(λl=>if l=x then s.bL x++us else s.bL l)=Wv s.bL x us:=by
  funext w;unfold Wv;by_cases z:w=x;·rw[Sv z,Sv z,z]
  ·rw[Sq z,Sq z]
 rw[e2]at d;refine(show kq (s.bL x)++kq us=kq (s.bL x++us) from SN.symm)▸?_;exact q _ (h.Hz d λb o e O k=>(jr k).trans e) (.set rfl) λm' vs xW=>by obtain⟨h1,h2⟩:=xW;exact⟨(aO λz=>h2 x (by rw[show m'=m from SU Ad.n z];exact e)).trans h1,h2⟩
theorem rS.same {E:R4 (R4 Sj)}(h:rS N E s tr W){s':S}(t:dj N s' tr)(h1:s'.rows=s.rows)(h2:s'.aH=s.aH):rS N E s' tr W:=⟨t,by rw[h1];exact h.r,by rw[h1];exact h.c,by rw[h2];exact h.d,h.z,by rw[h1];exact h.w⟩
end
section
variable{s:S}{E:R4 (R4 Sj)}
theorem Loose.xt {m:SH}{vs:R4 SH}(h:Loose s H m vs)(f:Xt H H'):Loose s H' m vs:=⟨f _ _ h.1,h.2⟩
theorem dj.ae3 {s':S}(t:dj N s tr)(h:s'=s.fN s'.pn s'.bL):dj N s' tr:=by rw[h];exact t.same rfl rfl rfl rfl rfl rfl
def M6 (s:S)(tr:R4 En)(n h:SH):Prop:=∃r,s.rows[n]? =R3 r/\(∀x∈r,-x∈s.row)/\∃x∈r,∃e∈tr,e.l= -x/\e.h=h
theorem mm {v:V}(h:(Src.kH 0 (n:Sj)).items[i]? =R3 v):i<n/\v=.int (i:Sj):=by
 have h:((TL ((n:Sj) - 0).toNat).map λ(i:SH)=>V.int (0+(i:Sj)))[i]? =R3 v:=h;rw[Sx,show((n:Sj) - 0).toNat=n by exact SK (yN [_,_] [] 0xf01c30f1531054 rfl (U3 (yZ [_] [] 0xf01c10f01c55 rfl))) (yN [_,_] [] 0xf301c10f511054 rfl (Uy _))]at h;obtain⟨j,hj,e⟩:=SR.mp h;obtain⟨h1,h2⟩:=R6.mp hj;rw[V9]at h2;rw[T6]at h1;subst h2;exact⟨h1,by rw[<-e,V6]⟩
theorem rj.trans {s1 s2:S}{dR u6:R4 En}(a:rj s tr s1 dR)(b:rj s1 dR s2 u6):rj s tr s2 u6:=
 ⟨a.rp.trans b.rp,b.aH.trans a.aH,b.log.trans a.log,b.ref.trans a.ref,b.cl.trans a.cl,b.bl.trans a.bl,b.j7.trans a.j7,by obtain⟨x,e⟩:=a.ext;obtain⟨y,e'⟩:=b.ext;exact⟨x++y,by rw[e',e,TG]⟩,λe he=>(b.new e he).elim (a.new e) λz=>.inr (by rw[<-a.aH];exact z)⟩
theorem de (h:(r.map Tl).Nodup)(hv: ∀x∈r,1<=x.natAbs/\x.natAbs<=N):r.length<=N:=by
 have:=kT (ks:=r.map λx=>x.natAbs - 1) (n:=N) ?_ ?_;·rwa [Sa]at this
 ·rw[UO,Uv]at h ⊢;refine h.imp_of_mem λ{a b} ha hb z e=>z ?_;have i1:=hv a ha;have i2:=hv b hb;exact SK (yN [_,_,_,_] [] 0xf13a502a05032521054 rfl e (li _ _) (i6 (yN [_] [] 0xf011c50011c54 rfl i2.1))) (yN [_,_,_,_] [] 0xf12a503a05032321054 rfl e (li _ _) (i6 (yN [_] [] 0xf011c50011c54 rfl i1.1)))
 ·intro k hk;obtain⟨x,hx,rfl⟩:=SL.mp hk;have:=hv x hx;exact yN [_,_,_] [] 0xf20a50125010a54 rfl this.2 (i6 (yN [_] [] 0xf011c50011c54 rfl this.1))
theorem rT {nv:V}{mS cur:SH}{ns:R4 SH}{w4 w5:Si V}{ec:En}{Q:Fl->St->Prop}(g:ao T N s H)(hN:N<=100)(Bv:s.aH.length<=1000)(rz:s.rows.length<=10000)(m0:rS N E s tr (Wv s.bL lost ns))(hw:s.bL lost=[])(nm:Nums s H nv ns)(hp:s.pn lost=R3 mS)(M7:tr[cur]? =R3 ec)(hl:ec.l= -lost)(hh:ec.h=s.aH.length)
  (w3:W3 s.rows tr (Eu cur []))
  (fin: ∀w4 w5 s' cq H',ao T N s' H'->rS N E s' cq s'.bL->W3 s'.rows cq (λi O O=>i<cur+1)->s'.seen=s.seen->rj s tr s' cq->bM 19 40 H H'->Q .next ⟨lo [sf,R3 (.int lost),R3 nv,R3 (.ref ⟨19,mS⟩),w4,w5],H'⟩)
  (aaf: ∀l n s' cq H',ao T N s' H'->rS N E s' cq s'.bL->W3 s'.rows cq (Eu cur [])->M6 s' cq n s.aH.length->rj s tr s' cq->bM 19 40 H H'->Q (.ret (.int (n:SH))) ⟨l,H'⟩):
  qK T ⟨lo [sf,R3 (.int lost),R3 nv,R3 (.ref ⟨19,mS⟩),w4,w5],H⟩ Q:=by
 have nz:ns.length<=10000:=by have:=m0.w.len lost;rw[gx rfl,hw,ZZ]at this;exact yN [_,_] [] 0xf105027104c15027104c054 rfl rz this
 have nsz:(kq ns).length<=big:=by rw[cb];unfold big;exact yN [_] [] 0xf27104c050f42405c054 rfl nz
 refine ci nm.sq nsz (uN (eh 8 λm hm=>?_));refine cb▸?_;have x0:Xt H (aK H ⟨8,m⟩ (.range 0 (ns.length:Sj))):=Xt.new hm;have On:aK H ⟨8,m⟩ (.range 0 (ns.length:Sj)) ⟨8,m⟩=R3 (.range 0 (ns.length:Sj)):=aw;generalize aK H ⟨8,m⟩ (.range 0 (ns.length:Sj))=H0 at x0 On ⊢;have g:=g.xt x0;have nm:=nm.step (λm vs k=>k.xt x0);refine sX (S:=.kH 0 (ns.length:Sj)) (λi J=>X5 λs1 dR H1 w4 w5=>C9 (J=⟨lo [sf,R3 (.int lost),R3 nv,R3 (.ref ⟨19,mS⟩),w4,w5],H1⟩) (ao T N s1 H1) (rS N E s1 dR (Wv s1.bL lost (ns.drop i))) (Nums s1 H1 nv ns) (s1.pn lost=R3 mS) (s1.seen=s.seen) (W3 s1.rows dR (Eu cur (s1.bL lost))) (rj s tr s1 dR) (bM 19 40 H0 H1))
  ⟨by decide,by decide,yZ [_] [] 0xf1f42405d55 rfl,yZ [_] [] 0xf27104c050f42405c155 rfl nz⟩ ?_ ⟨s,tr,H0,_,_,rfl,g,m0,nm,hp,rfl,by rw[hw];exact w3,.refl,.refl⟩ ?_ ?_
 ·rintro i J ⟨s1,dR,H1,w4,w5,rfl,_,_,_,_,_,_,_,f⟩;exact kR (f _ _ On (.inl (R5 rfl))) _
 ·rintro i v J hv ⟨s1,dR,H1,w4,w5,rfl,g1,m1,nm1,CB,sI,w31,lg,f1⟩ K hK;obtain⟨hi,rfl⟩:=mm hv;obtain⟨num,Ia⟩: ∃num,ns[i]? =R3 num:=⟨_,SG hi⟩;have hdr:ns.drop i=num::ns.drop (i+1):=by rw[Uh hi];rw[(R6.mp Ia).2]
  replace m1:=hdr▸m1;obtain⟨r,hr,hwr⟩:=m1.w.aae;have hR:=m1.r.r1 r (R9 hr);obtain⟨first,t,tU⟩:=M4 hR hwr;have JF:=hR.perm (mj tU);have rl1:s1.rows.length<=10000:=by
   have:s1.rows.length=s.rows.length:=by have:=SU Vl (lg.rp.canon (N:=0));simpa using this
   exact yN [_,_] [] 0xf105227104c15027104c054 rfl rz this
  have rp:RP s1.rows (s1.rows.set num (first::lost::t)):=.set hr (mj tU);have gi:gE (kq ns) (i:Sj)=R3 (.int (num:Sj)):=eX (by unfold kq;rw[Sx,Ia];rfl);have z7:dR[cur]? =R3 ec:=by obtain⟨x,e⟩:=lg.ext;exact e▸((SW (R6.mp M7).1).trans M7)
  have ln: -lost∈s1.row:=by rw[m1.t.row];exact bX.mpr ⟨ec,R9 z7,hl⟩
  have nl:lost∉s1.row:=λz=>m1.t.cons z ln;have cF:first≠lost:=λz=>by have:=JF.nd;rw[z,Tq,S6]at this;exact this.1 Se
  have uY: ∀e∈dR,e.l≠lost:=λe he z=>nl (by rw[m1.t.row];exact bX.mpr ⟨e,he,z⟩);have c1: ∀e,dR[cur]? =R3 e->e.l= -lost/\e.h=s.aH.length:=λe he=>by replace he:=z7▸he;obtain rfl:=R7 he;exact⟨hl,hh⟩
  have wl: ∀w,(s1.bL w).length<=10000:=λw=>by
   have h1:=m1.w.len w;by_cases q:w=lost;·rw[gx q,Sr]at h1;exact yN [_,_,_] [] 0xf120b5027104c15027104c054 rfl rl1 h1
   ·rw[iP q]at h1;exact yN [_,_] [] 0xf105027104c15027104c054 rfl rl1 h1
  have tz:t.length<=1000:=by have h1:=de (N:=N) JF.nd JF.var;simp only[TB]at h1;exact yN [_,_] [] 0xf10aa50642c1503e83c054 rfl hN h1
  refine bj rfl rfl (cE g1.self g1.dict (bS nm1.sq nsz gi (uO g1 rfl m1.t hN hr hR tU tz rl1 wl (λH2 g2 f2 k2 hc=>⟨λO=>?_,λz=>gV z⟩) λpn y t' H2 g2 f2 k2 o2 hpm hy hyn=>⟨(λz=>dq z),λO=>?_⟩)))
  ·have m2:rS N E (s1.c4 s1.rl (s1.rows.set num (first::lost::t))) dR (Wv (HY s1.bL lost num) lost (ns.drop (i+1))):=⟨m1.t.same rfl rfl rfl rfl rfl rfl,m1.r.perm rp,m1.c.perm rp,m1.d,m1.z,m1.w.stays hr tU⟩;obtain⟨s2,lb⟩: ∃s2,s2=s1.c4 s1.rl (s1.rows.set num (first::lost::t)):=⟨_,rfl⟩;have nm2:=nm1.step k2;have nm2:Nums s2 H2 nv ns:=nm2.imp_right λzq=>by obtain⟨m,e,k⟩:=zq;exact⟨m,e,by rw[lb];exact k⟩
   have BC:rj s1 dR s2 dR:=by rw[lb];exact⟨rp,rfl,rfl,rfl,rfl,rfl,rfl,⟨[],(Tw _).symm⟩,λe he=>.inl he⟩
   have Jw:s2.rows[num]? =R3 (first::lost::t):=by exact lb▸(Tv (R6.mp hr).1)
   have oL:s2.pn lost=R3 mS:=by exact lb▸(CB)
   have w2e:s2.bL=s1.bL:=lb▸rfl;have r2e:s2.row=s1.row:=by rw[lb];rfl
   have se2:s2.seen=s.seen:=by rw[lb];exact sI
   have w32:first∈s1.row\/first∉s1.row/\-first∉s1.row\/-first∈s1.row:=by
    by_cases a:first∈s1.row
    ·exact .inl a
    ·by_cases b: -first∈s1.row
     ·exact .inr (.inr b)
     ·exact .inr (.inl ⟨a,b⟩)
   have w3t:W3 s2.rows dR (Eu cur []):=by rw[lb];exact(w31.weak λi e n O hk=>hk.imp_right λz=>Sw z.2 Sy).turned hr tU
   have w3s: ∀u6,W3 s1.rows u6 (Eu cur (s1.bL lost))->(∀e,u6[cur]? =R3 e->e.l= -lost/\e.h=s.aH.length)->(∃e'∈u6,e'.l=first/\e'.h<=s.aH.length)->W3 s2.rows u6 (Eu cur (s1.bL lost++[num])):=λu6 w c1 ⟨e',h1,h2,h3⟩=>by rw[lb];exact w.stays hr tU cF λe he=>⟨(c1 e he).1,e',h1,h2,by rw[(c1 e he).2];exact h3⟩
   rw[<-lb]at g2 m2;clear lb g1 nm1 k2;have vf:=JF.var first Se
   refine fh (g2.dl.ls lost mS oL) (bS nm2.sq nsz gi (g2.HU oL (by rw[w2e];exact SJ (wl lost) (R5 rfl)) λH3 g3 f3 k3=>?_));have Ib:=nm2.step k3;have e3:(λy=>if y=lost then s2.bL y++[num]else s2.bL y)=HY s1.bL lost num:=by rw[w2e];rfl
   rw[e3]at g3 Ib;obtain⟨s3,M8⟩: ∃s3,s3=s2.fN s2.pn (HY s1.bL lost num):=⟨_,rfl⟩;have m3:rS N E s3 dR (Wv s3.bL lost (ns.drop (i+1))):=by rw[M8];exact m2.same (m2.t.same rfl rfl rfl rfl rfl rfl) rfl rfl
   have sp3:rj s1 dR s3 dR:=by rw[M8];exact⟨BC.rp,BC.aH,BC.log,BC.ref,BC.cl,BC.bl,BC.j7,BC.ext,BC.new⟩
   have r3:s3.rows=s2.rows:=M8▸rfl;have FZ:s3.pn lost=R3 mS:=by exact M8▸(oL)
   have w3e:s3.bL lost=s1.bL lost++[num]:=by exact M8▸(Sv rfl)
   have OY:s3.row=s1.row:=by exact M8▸(r2e)
   have se3:s3.seen=s.seen:=by rw[M8];exact se2
   rw[<-M8]at g3 Ib;rw[<-r3]at w3t w3s Jw;clear M8 g2 m2 BC nm2 k3 oL w2e r2e r3;obtain⟨n3,hn3⟩: ∃n,s3.rl[num]? =R3 n:=⟨_,SG (by rw[g3.bV];exact(R6.mp Jw).1)⟩;have sz3:(s3.rl.map λn=>V.ref ⟨32,n⟩).length<=big:=by
    have:s3.rows.length=s1.rows.length:=by have:=SU Vl (sp3.rp.canon (N:=0));simpa using this
    rw[Sa,g3.bV];unfold big;exact yN [_,_] [] 0xf105227104c150f42405c054 rfl rl1 this
   have ix3:=g3.ix num n3 _ hn3 Jw;have sp:=lg.trans sp3;have ff:=(f1.trans f2).trans f3;have bz3:s3.aH.length<=big:=by rw[sp.aH];unfold big;exact yN [_] [] 0xf3e83c050f42405c054 rfl Bv
   have uL:s3.aH.length=s.aH.length:=sp.aH▸rfl;refine aG rfl g3.self g3.dict rfl trivial (bS Ib.sq nsz gi (bS (bq g3.rows) sz3 (v:=.ref ⟨32,n3⟩) (eX (by rw[Sx,hn3];rfl)) (bS (n:=0) (v:=.int first) (bq ix3) (by rw[ag];simp only[TB];unfold big;exact yN [_] [] 0xf3e83c050f42405c0aa54 rfl tz) rfl (bj rfl rfl ?_))));refine cE g3.self g3.dict (gM g3 rfl m3.t (λhh=>yF [_] [_] 0xf01f1510151011c60 rfl vf.1 (jX (yZ [] [_] 0xf01c033001c55 rfl hh)) (my (yZ [] [_] 0xf01c05301c055 rfl hh))) (wQ ⟨λe=>?_,λe=>?_⟩))
   ·have fn: -first∈s1.row:=by exact OY▸((gw m3.t.cons).mp (SB e))
    have acJ:(kq ns).drop (i+1)=kq (ns.drop (i+1)):=Xa.symm;refine fh (g3.dl.ls lost mS FZ) (cO (uK (i:=i+1) Ib.sq nsz (g3.acI FZ (us:=ns.drop (i+1)) (by have i1:=m3.w.len lost;rw[gx rfl,Sr]at i1;have i2:=g3.bV;rw[Sa]at sz3;exact yN [_,_,_,_,_] [] 0xf4232430b5012501054 rfl sz3 i1 i2) (by rw[UL];unfold big;exact yN [_,_] [] 0xf105027104c150f42405c054 rfl nz (UH _ _)) (by rw[acJ];exact ay) λH4 g4 f4 k4=>bS (Ib.step k4).sq nsz gi ?_)));refine aaf _ num _ dR H4 g4 ⟨m3.t.same rfl rfl rfl rfl rfl rfl,m3.r,m3.c,m3.d,m3.z,m3.w⟩ w3t ⟨_,Jw,λx hx=>?_,lost,SQ _ Se,ec,R9 z7,hl,hh⟩ ⟨sp.rp,sp.aH,sp.log,sp.ref,sp.cl,sp.bl,sp.j7,sp.ext,sp.new⟩ (x0.frm.trans (ff.trans f4));refine OY▸?_;rcases SZ.mp hx with q |hx;·exact q▸(fn)
    rcases SZ.mp hx with q |hx;·exact q▸(ln)
    ·exact hc.elim (λz=>Sw fn (m1.t.cons z)) λz=>z x hx
   ·have fn: -first∉s1.row:=λz=>TF e ((gw m3.t.cons).mpr (by rw[OY];exact z))
    refine cE g3.self g3.dict (gM g3 rfl m3.t (λhh=>yF [_] [_] 0xf01f1510151011c60 rfl vf.1 (jX (yZ [] [_] 0xf01c033001c55 rfl hh)) (my (yZ [] [_] 0xf01c05301c055 rfl hh))) (z0 ⟨λe2=>?_,λe2=>?_⟩))
    ·have f1n:first∉s1.row:=by exact OY▸((iO.mp (Vp.mp e2)).1)
     have ht:=hc.resolve_left f1n;refine cE g3.self g3.dict (bS Ib.sq nsz gi (qE (c:=R3 num) g3 rfl m3.t hN bz3 vf (by rw[OY];exact f1n) (by rw[OY];exact fn) λkn ht5 ca H5 g5 t5 f5=>hK _ ⟨_,dR++[⟨first,s3.aH.length,R3 num⟩],H5,_,_,rfl,g5,?_,Ib.step λm vs k=>k.frm f5 rfl,FZ,se3,?_,sp.trans ⟨.refl,rfl,rfl,rfl,rfl,rfl,rfl,⟨_,rfl⟩,λe he=>?_⟩,ff.trans f5.dn⟩))
     ·have neg: ∀x∈first::lost::t,x≠first->∃e'∈dR,e'.l= -x:=λx hx hxn=>by
       rcases SZ.mp hx with q |hx;·exact Sw q hxn
       rcases SZ.mp hx with q |hx;·exact⟨ec,R9 z7,by rw[q];exact hl⟩
       ·have:=ht x hx;rw[m1.t.row]at this;exact bX.mp this
      refine⟨t5,m3.r,m3.c.add λn hn=>by obtain rfl:=R7 hn;exact⟨_,Jw,Se,neg⟩,m3.d.add (λz=>Eh z),m3.z.add λh0=>?_,m3.w⟩;have h0:s3.aH.length=0:=h0;refine m3.r.unit (R9 Jw) Se λx hx hxn=>?_;obtain⟨e',u9,PZ⟩:=neg x hx hxn;refine PZ▸?_;exact m3.z e' u9 (by have:=m3.t.hb e' u9;exact SK (yN [_,_] [] 0xf105001c15201c054 rfl h0 this) (yN [_] [] 251665492 rfl))
     ·rw[show S.bL (s3.sT kn ht5 ca (s3.row++[first]))=s3.bL from rfl,w3e];have tO:=(R6.mp z7).1;refine w3s _ (w31.DN λi e n hk=>⟨hk.elim (λz=>WN z tO) λz=>by rw[z.1];exact tO,hk⟩) (λe he=>?_) ⟨_,SA _ Se,rfl,XD uL⟩;rw[SW tO]at he;exact c1 e he
     ·rcases Sl.mp he with q |q;·exact .inl q
      ·exact(R8.mp q)▸(.inr ⟨λz=>(Eh z),rfl⟩)
    ·have ft:first∈s1.row:=by
      cases q:tv s3.row first with
      |none=>replace e2:=q▸e2;cases e2
      |some b=>
       cases b;·exact Sw (by rw[<-OY];exact(gw m3.t.cons).mp q) fn
       ·rw[<-OY];exact o6.mp q
     refine hK _ ⟨s3,dR,H3,_,_,rfl,g3,m3,Ib,FZ,se3,?_,sp,ff⟩;rw[w3e];rw[m1.t.row]at ft;obtain⟨e',u9,PZ⟩:=bX.mp ft;exact w3s dR w31 c1 ⟨e',u9,PZ,by have:=m1.t.hb e' u9;rw[lg.aH]at this;exact this⟩
  ·have BC:rj s1 dR ((s1.c4 s1.rl (s1.rows.set num (first::y::t'))).fN pn (HY s1.bL y num)) dR:=⟨.set hr ((hpm.cons first).trans (mj tU)),rfl,rfl,rfl,rfl,rfl,rfl,⟨[],(Tw _).symm⟩,λe he=>.inl he⟩;refine hK _ ⟨_,dR,H2,_,_,rfl,g2,⟨m1.t.same rfl rfl rfl rfl rfl rfl,m1.r.perm BC.rp,m1.c.perm BC.rp,m1.d,m1.z,m1.w.moved hr hR tU hy⟩,nm1.step (s':=(s1.c4 s1.rl (s1.rows.set num (first::y::t'))).fN pn (HY s1.bL y num)) k2,?_,sI,?_,lg.trans BC,f1.trans f2⟩;·exact o2 lost mS CB
   ·have aer: ∀e∈dR,e.l≠-y:=λe he z=>hyn (by rw[m1.t.row];exact bX.mpr ⟨e,he,z⟩);have hyl:lost≠y:=λz=>hyn (by rw[<-z];exact ln);show W3 _ dR (Eu cur (HY s1.bL y num lost));rw[jz hyl];exact w31.moved hr tU cF uY aer λe he=>(c1 e he).1
 ·rintro J ⟨s1,dR,H1,w4,w5,rfl,g1,m1,nm1,CB,sI,w31,lg,f1⟩;have e:ns.drop (Src.kH 0 (ns.length:Sj)).items.length=[]:=by refine VJ ?_;show ns.length<=((TL ((ns.length:Sj) - 0).toNat).map λ(i:SH)=>V.int (0+(i:Sj))).length;rw[Sa,T6];exact yN [_,_] [] 0xf301c10f511054 rfl (Uy _)
  rw[e]at m1;have ew:Wv s1.bL lost []=s1.bL:=by
   funext w;by_cases q:w=lost;·rw[gx q,Tw]
   ·exact iP q
  have z7:dR[cur]? =R3 ec:=by obtain⟨x,e⟩:=lg.ext;exact e▸((SW (R6.mp M7).1).trans M7)
  exact fin _ _ s1 dR H1 g1 (by rw[<-ew];rw[ew];rw[ew]at m1;exact m1) (w31.done m1.w λe he=>by replace he:=z7▸he;obtain rfl:=R7 he;exact hl) sI lg (x0.frm.trans f1)
end
section
variable{s:S}{E:R4 (R4 Sj)}
theorem dj.acK (t:dj N s tr)(h1:s.seen<=k)(h2:k<=tr.length):dj N (s.kr k) tr:=
 ⟨t.row,t.kn,t.ht,t.ca,t.var,t.nd,t.zx,t.bb,t.hb,h2,λi e he hs=>t.zy i e he (SJ h1 hs)⟩
theorem ae4 (hz:vs.length<=big)(q:mk vs J Q):aR mk vs J Q:=by unfold aR;exact⟨hz,q⟩
theorem DS {a:Ad}(g:ao T N s H)(ha:a=⟨20,0⟩)(hN:N<=100)(Bv:s.aH.length<=1000)(rz:s.rows.length<=10000)(m0:rS N E s tr s.bL)(w3:W3 s.rows tr λi O O=>i<s.seen)
  (fin: ∀s' cq H',ao T N s' H'->rS N E s' cq s'.bL->W3 s'.rows cq (λi O O=>i<s'.seen)->s'.seen=cq.length->rj s tr s' cq->bM 19 40 H H'->Q (.int (-1)) ⟨l,H'⟩)
  (aaf: ∀n s' cq H',ao T N s' H'->rS N E s' cq s'.bL->W3 s'.rows cq (λO e O=>e.h<s.aH.length)->M6 s' cq n s.aH.length->rj s tr s' cq->bM 19 40 H H'->Q (.int (n:SH)) ⟨l,H'⟩):
  jt T [.ref a] ⟨l,H⟩ Q:=by
 subst ha;unfold jt;refine bJ 5 rfl (gL (λn J=>X8 λs1 dR H1 w1 w2 w3 w4 w5=>C7 (J=⟨lo [sf,w1,w2,w3,w4,w5],H1⟩) (ao T N s1 H1) (rS N E s1 dR s1.bL) (W3 s1.rows dR (λi O O=>i<s1.seen)) (rj s tr s1 dR) (bM 19 40 H H1) (n=N+1 - s1.seen)) _
  ⟨s,tr,H,Sg,Sg,Sg,Sg,Sg,rfl,g,m0,w3,.refl,.refl,rfl⟩ ?_)
 rintro n J ⟨s1,dR,H1,w1,w2,w3',w4,w5,rfl,g1,m1,w31,lg,f1,rfl⟩ K hK;have tl:=m1.t.len;have rl:=m1.t.bV;have OZ:=m1.t.rz hN;refine aG rfl g1.self g1.dict rfl trivial (aG rfl g1.self g1.dict rfl trivial (ci (bq g1.row) (by rwa [ag]) (Hi ⟨λe=>?_,λe=>?_⟩)))
 ·have e:s1.seen<dR.length:=by have:=SB e;rw[ag,rl]at this;exact VN.mp this
  obtain⟨ec,hec⟩: ∃ec,dR[s1.seen]? =R3 ec:=⟨_,SG e⟩;have aes:s1.row[s1.seen]? =R3 ec.l:=by rw[m1.t.row];unfold lits;rw[Sx,hec];rfl
  have vec:=m1.t.var ec (R9 hec);have hh:=m1.t.zy _ _ hec (S8 _);refine aG rfl g1.self g1.dict rfl trivial (aG rfl g1.self g1.dict rfl trivial (bS (bq g1.row) (by rwa [ag]) (dD aes) (bj rfl rfl (aG rfl g1.self g1.dict rfl trivial (cO ?_)))));have es:(s1.seen:Sj)+1=((s1.seen+1:SH):Sj):=rfl;refine es▸?_;refine g1.HB λH2 g2 f2=>?_;obtain⟨kvs,ep,hd,_⟩:=g2.dl.d;refine aG rfl g2.self g2.dict rfl trivial (lS hd (aP (S7 _) (g2.M5 (x:=-ec.l) λnv H3 g3 f3 Ib=>aP (S7 _) (eh 19 λmS hm=>aP (show 2<=1000000 by decide) (mY rfl (bj rfl rfl (bj rfl rfl ?_)))))));have x4:Xt H3 (aK H3 ⟨19,mS⟩ (.list [])):=Xt.new hm;have h4:aK H3 ⟨19,mS⟩ (.list []) ⟨19,mS⟩=R3 (.list (kq [])):=aw;generalize aK H3 ⟨19,mS⟩ (.list [])=H4 at x4 h4 ⊢;have g4:=g3.xt x4;have lo4:Loose ((s1.kr (s1.seen+1)).fN (λy=>if y= -ec.l then Sg else s1.pn y) λy=>if y= -ec.l then[]else s1.bL y) H4 mS []:=⟨h4,λy e=>by have e1:=g3.dl.ls y mS e;replace e1:=hm▸e1;cases e1⟩;refine aG rfl g4.self g4.dict rfl trivial (g4.HZ (yZ [_,_] [_] 0xf30510150642c05001f3e83d55 rfl hN vec.2 Ts) (yZ [_,_] [_] 0xf301f510150642c0503e83c01f55 rfl hN vec.2 (sb _)) lo4 λH5 g5 f5=>?_);have nm5:Nums (((s1.kr (s1.seen+1)).fN (λy=>if y= -ec.l then Sg else s1.pn y) λy=>if y= -ec.l then[]else s1.bL y).fN (λy=>if y= -ec.l then R3 mS else if y= -ec.l then Sg else s1.pn y) λy=>if y= -ec.l then[]else if y= -ec.l then[]else s1.bL y) H5 nv (s1.bL (-ec.l)):=
   Ib.imp_right λ⟨m,e,k1,k2⟩=>⟨m,e,f5 _ _ (x4 _ _ k1) (.inl (R5 rfl)),λy e=>by
    have e:(if y= -ec.l then R3 mS else if y= -ec.l then Sg else s1.pn y)=R3 m:=e;by_cases w:y= -ec.l
    ·replace e:=(Sv w)▸e;obtain rfl:=R7 e;replace k1:=hm▸k1;cases k1
    ·replace e:=(Sq w)▸e;exact k2 y e⟩
  obtain⟨s5,DT⟩: ∃s5,s5=(((s1.kr (s1.seen+1)).fN (λy=>if y= -ec.l then Sg else s1.pn y) λy=>if y= -ec.l then[]else s1.bL y).fN (λy=>if y= -ec.l then R3 mS else if y= -ec.l then Sg else s1.pn y) λy=>if y= -ec.l then[]else if y= -ec.l then[]else s1.bL y):=⟨_,rfl⟩;have ew:Wv s5.bL (-ec.l) (s1.bL (-ec.l))=s1.bL:=by
   funext w;by_cases q:w= -ec.l
   ·rw[gx q,DT,q];show(if -ec.l= -ec.l then([]:R4 SH)else _)++_=_;rw[Sv rfl];rfl
   ·rw[iP q,DT];show(if w= -ec.l then([]:R4 SH)else if w= -ec.l then[]else s1.bL w)=_;rw[Sq q,Sq q]
  have t5:dj N s5 dR:=by exact DT▸((m1.t.acK (k:=s1.seen+1) (UW _) e).same rfl rfl rfl rfl rfl rfl)
  have m5:rS N E s5 dR (Wv s5.bL (-ec.l) (s1.bL (-ec.l))):=by rw[ew];exact m1.same t5 (DT▸rfl) (DT▸rfl)
  have sp5:rj s tr s5 dR:=by rw[DT];exact⟨lg.rp,lg.aH,lg.log,lg.ref,lg.cl,lg.bl,lg.j7,lg.ext,lg.new⟩
  have b5:s5.aH=s.aH:=sp5.aH;have r5:s5.rows=s1.rows:=DT▸rfl;have p5:s5.pn (-ec.l)=R3 mS:=by exact DT▸(Sv rfl)
  have w5e:s5.bL (-ec.l)=[]:=by exact DT▸(Sv rfl)
  have se5:s5.seen=s1.seen+1:=DT▸rfl;replace g5:ao T N s5 H5:=by exact DT▸(g5)
  replace nm5:=DT▸nm5;clear DT lo4 Ib g4 g3 g2;have acL:s5.rows.length<=10000:=by have:=SU Vl (sp5.rp.canon (N:=0));simp only[Sa]at this;exact yN [_,_] [] 0xf105227104c15027104c054 rfl rz this
  have f5':bM 19 40 H H5:=(((f1.trans f2.dn).trans f3).trans x4.frm).trans f5.dn;refine rT g5 hN (by rw[b5];exact Bv) acL m5 w5e nm5 p5 hec (T5 _).symm (by rw[b5,<-lg.aH];exact hh) ?_ (λw4 w5 s' cq H' g' m' w' e' sp' f'=>?_) λl' n s' cq H' g' m' w' lst sp' f'=>?_
  ·refine r5▸?_;exact w31.weak λi e n O hk=>hk.elim id λz=>Sw z.2 Sy
  ·have e2:s'.seen=s1.seen+1:=e'.trans se5;exact hK _ _ (yN [_,_,_,_,_] [] 0xf4a20b5031b4a503a23210a54 rfl e2 (li _ _) (i6 (yN [_,_,_,_] [] 0xf3a05223a5012501a054 rfl tl e e2))) ⟨s',cq,H',_,_,_,_,_,rfl,g',m',by rw[e2];exact w',sp5.trans sp',f5'.trans f',rfl⟩
  ·replace lst:=b5▸lst;refine aaf n s' cq H' g' m' (w'.weak λi e n hi hk=>.inl (VW.mp λz=>?_)) lst (sp5.trans sp') (f5'.trans f');have hb:s'.aH=s.aH:=sp'.aH.trans b5;obtain⟨b,uy⟩: ∃b,s'.aH[s.aH.length - 1]? =R3 b:=⟨_,SG (by rw[hb];exact yN [_,_] [] 0xf10a5010a54 rfl (i6 (yN [_,_] [] 0xf01a50011c54 rfl hk)))⟩;have c1:cq[s1.seen]? =R3 ec:=by obtain⟨x,e⟩:=sp'.ext;exact e▸((SW (R6.mp hec).1).trans hec)
   have q1:=m'.t.zx _ _ _ b hi uy;have q2:=m'.t.zx _ _ _ b c1 uy;rw[hh,lg.aH]at q2;exact Sw (q2.mp (VH z (q1.mpr (Y6 hk)))) (VW.mpr (Zx (VH (S7 _) hk) Wl))
 ·have e:s1.seen=dR.length:=by
   have q:=TF e;rw[ag,rl]at q;exact SK m1.t.seen (T0.mp λz=>q (VN.mpr z))
  exact fin s1 dR H1 g1 m1 w31 e lg f1
end
section
variable{s:S}{E:R4 (R4 Sj)}
theorem aag {a d:Ad}{kvs:R4 (SH×V)}{v:V}{k:V->WM α}{Q:α->St->Prop}(hl:l j=R3 (.ref a))(h1:H a=R3 (.inst C d))(h2:H d=R3 (.bB kvs))(h3:bC kvs i=R3 v)(h4:jI v)(q:k v ⟨l,H⟩ Q):bc C j i k ⟨l,H⟩ Q:=by
 unfold bc;exact nQ (Q:=bk (λx=>Z (pA C i x) k) Q) hl ⟨a,d,kvs,rfl,h1,h2,v,h3,h4,q⟩
theorem ti {kvs:R4 (Sj×β)}{k:Sj}{v:β}(h:k∈kvs.map (·.1)):(cY kvs k v).map (·.1)=kvs.map (·.1):=by
 unfold cY;have:kvs.any (λp=>decide (p.1=k))=Sn:=by obtain⟨p,hp,e⟩:=SL.mp h;exact Ut.mpr ⟨p,hp,by simpa using e⟩
 rw[this,Sv rfl,Tg];refine TI λp O=>?_;show(if p.1=k then(p.1,v)else p).1=p.1;split<;>rfl
theorem DU {kvs:R4 (Sj×β)}{k:Sj}{v:β}{p:Sj×β}(h:p∈cY kvs k v):p∈kvs\/p.2=v:=by
 unfold cY at h;split at h
 ·obtain⟨q,hq,e⟩:=SL.mp h;split at e;·rw[<-e];exact .inr rfl
  ·rw[<-e];exact .inl hq
 ·rcases Sl.mp h with z |z;·exact .inl z
  ·exact(R8.mp z)▸(.inr rfl)
theorem aah {x:V}{S:Src}{Q:R4 (Sj×V)->St->Prop}(kf:Sj->Sj)(vf:Sj->V)(hS:sr H x S)(hf:S.fits)(hi:S.items=bH ks)(hn:(ks.map kf).Nodup)
  (h: ∀u∈ks,(-1000<=kf u/\kf u<=1000)/\Ev fk ⟨aY ⟨l,H⟩ sh (R3 (.int u)),H⟩ (.int (kf u))/\Ev fv ⟨aY ⟨l,H⟩ sh (R3 (.int u)),H⟩ (vf u))
  (q:Q (ks.map λu=>(kf u,vf u)) ⟨l,H⟩):dcI sh (ae Sn) fk fv x ⟨l,H⟩ Q:=by
 have key: ∀(gD pre:R4 Sj) (K:R4 (Sj×V)->Hp->Prop),pre++gD=ks->K (ks.map λu=>(kf u,vf u)) H->Qq x S (aY ⟨l,H⟩ sh) (ae Sn) fk fv (bH gD) (pre.map λu=>(kf u,vf u)) H K:=by
  intro gD;induction gD with
  |nil=>intro pre K he hk;rw[Tw]at he;exact he▸(⟨hS _,hk⟩)
  |cons u r ih=>
   intro pre K he hk;obtain⟨h1,h2,h3⟩:=h u (by rw[<-he];exact SA _ Se);refine⟨hS _,(λO=>h2 _ ⟨kf u,rfl,h1.1,h1.2,h3 _ ?_⟩),λz=>gV z⟩;have nk:bC (pre.map λu=>(kf u,vf u)) (kf u)=Sg:=cW.mpr λz=>by rw[Tg]at z;rw[<-he,SN,Tf]at hn;exact hn.2.2 _ z _ Se rfl
   rw[iN nk,show(pre.map λu=>(kf u,vf u))++[(kf u,vf u)]=(pre++[u]).map λu=>(kf u,vf u) from by rw[SN];rfl];exact ih (pre++[u]) K (by rw[TG];exact he) hk
 unfold dcI;exact⟨S,hS _,hf,hi.symm▸key ks [] _ rfl q⟩
noncomputable def vi:V->Sj
 |.int i=>i
 |_=>0
theorem ao.aai {Q:Unit->St->Prop}(h:ao T N s H){i:Sj}(hx:1<=x/\x<=N)(hN:N<=100)(q: ∀H',ao T N s H'->bM 20 40 H H'->Q () ⟨l,H'⟩):dg (.ref ⟨30,s.nh⟩) (.int x) (.int i) ⟨l,H⟩ Q:=by
 obtain⟨kvs,ep,hd,h1,h2⟩:=h.fO;refine gU hd (yZ [] [_] 0xf011c5103e83d55 rfl hx.1) (yZ [_] [_] 0xf642c05010513e83c055 rfl hx.2 hN) λep'=>q _ (h.acz ?_ λp hp=>?_) (.set rfl);·rw[ti (by rw[h1];exact qR hx)];exact h1
 ·rcases DU hp with z |z;·exact h2 p z
  ·exact⟨i,z⟩
theorem ao.aaj {Q:Unit->St->Prop}(h:ao T N s H)(hn:H ⟨30,n⟩=Sg)(h1:kvs.map (·.1)=vars N)(h2: ∀p∈kvs,∃i,p.2=V.int i)(q: ∀H',ao T N (s.Du n) H'->bM 20 40 H H'->Q () ⟨l,H'⟩):ce T.S 18 (.ref ⟨20,0⟩) (.ref ⟨30,n⟩) ⟨l,aK H ⟨30,n⟩ (.dict kvs ep)⟩ Q:=
 hY ((ai rfl).trans h.self) ((ai rfl).trans h.dict) (q _ (h.RU h1 h2) ((bM.new hn).trans (bM.set rfl)))
theorem BD:(vars N).Nodup:=by
 unfold vars;exact ZQ.map _ λa b h z=>h (by have:=SU Int.toNat z;simpa using this)
theorem iQ {v:Sj}(h:v∈vars N):1<=v/\v<=N:=by
 obtain⟨i,hi,rfl⟩:=SL.mp h;have:=Uw.mp hi;exact⟨yZ [_] [] 4053867605 rfl,yZ [_,_] [] 0xf10a5031a55 rfl this⟩
theorem M9 {a:Ad}{v:Sj}(g:ao T N s H)(ha:a=⟨20,0⟩)(hN:N<=100)(hv:1<=v/\v<=N)(fin: ∀n i H',ao T N ((s.Du n).ig i) H'->bM 20 40 H H'->Q .none ⟨l,H'⟩):qL T [.ref a,.int v] ⟨l,H⟩ Q:=by
 subst ha;obtain⟨kvs,ep,hd,_⟩:=g.fO;obtain⟨i,hi⟩:=g.zY hv hd;unfold qL;refine bJ 0 rfl (aG rfl g.self g.dict rfl trivial (fJ hd hi (aG rfl g.self g.dict rfl trivial (cO (aG rfl g.self g.dict rfl trivial (g.aai hv hN λH1 g1 f1=>?_))))));obtain⟨kvs,ep,hd,k1,k2⟩:=g1.fO;obtain⟨j,hj⟩:=g1.zY hv hd;refine aG rfl g1.self g1.dict rfl trivial (fJ hd hj (rI ⟨λO=>?_,λO=>fin s.nh s.j7 H1 g1 f1⟩));have kn: ∀u∈vars N,∃i,bC kvs u=R3 (.int i):=λu hu=>g1.zY (iQ hu) hd;have key: ∀u∈vars N,bC kvs u=R3 (.int (((bC kvs u).map vi).getD 0)):=λu hu=>by obtain⟨i,hi⟩:=kn u hu;rw[hi];rfl
 refine aG rfl g1.self g1.dict rfl trivial (aah (ks:=vars N) (λu=>u) (λu=>.int ((((bC kvs u).map vi).getD 0).fdiv 1000000000)) (o0 hd) TK (by show kvs.map (λp=>V.int p.1)=_;rw[<-k1];unfold bH;rw[Tg];rfl) (by rw[Xw];exact BD) (λu hu=>?_) (kQ 30 λn ep2 hn=>?_))
 ·have:=iQ hu;exact⟨⟨yZ [] [_] 0xf011c5103e83d55 rfl this.1,yZ [_] [_] 0xf1051642c0503e83c055 rfl hN this.2⟩,(λQ q=>q),λQ q=>aag rfl g1.self g1.dict rfl trivial (fJ hd (key u hu) (Br (by decide) (by decide) q))⟩
 ·exact g1.aaj hn (by rw[Tg];exact Xw _) (λp hp=>by obtain⟨u,_,rfl⟩:=SL.mp hp;exact⟨_,rfl⟩) λH2 g2 f2=>g2.HC λH3 g3 f3=>fin n 1 H3 g3 ((f1.trans f2).trans f3)
theorem acM {i1 i2 j1 j2:Sj}(q: ∀b:Tn,Q (.bool b) J):Da (.bF Sn [.int i1,.int i2]) (.bF Sn [.int j1,.int j2]) J Q:=by unfold Da;exact⟨_,.p i1 i2 j1 j2,q _⟩
theorem z8 {a:Ad}(g:ao T N s H)(ha:a=⟨20,0⟩)(hN:N<=100)(hk:dj N s tr)(fin: ∀b:Sj,(b=0/\(∀v:Sj,1<=v->v<=N->v∈s.row\/-v∈s.row)\/(1<=b/\b<=N)/\b∉s.row/\-b∉s.row)->Q (.int b) ⟨l,H⟩):il T [.ref a] ⟨l,H⟩ Q:=by
 subst ha;obtain⟨kvs,ep,hd,k1,k2⟩:=g.fO;obtain⟨kns,ep2,hd2,hkn⟩:=g.kn;unfold il;refine bJ 2 rfl (bj rfl rfl (aG rfl g.self g.dict rfl trivial (fm (S:=.dict kvs ep) (f:=V.int) (c:=vars N) (λpre J=>X2 λ(b:Sj) (w:Si V)=>J=⟨lo [sf,R3 (.int b),w],H⟩/\(b=0/\(∀v∈pre,v∈s.row\/-v∈s.row)\/b∈vars N/\b∉s.row/\-b∉s.row)) ?_ trivial (λO J xW=>by obtain⟨_,_,e,_⟩:=xW;rw[e];exact o0 hd _) ⟨0,Sg,rfl,.inl ⟨rfl,λv hv=>Sw hv Sy⟩⟩ ?_ ?_)));·rw[<-k1,Tg];rfl
 ·rintro pre v gD J he ⟨b,w,rfl,hb⟩ K hK;have hv:=mem_mid he;have v1:=iQ hv;obtain⟨i,hi⟩:=g.zY v1 hd;have hkv:bC kns v=(tv s.row v).map V.bool:=by rw[hkn];exact hk.kn v (yZ [] [_] 0xf011c51001ca55 rfl v1.1)
  refine bj rfl rfl (aG rfl g.self g.dict rfl trivial (wA hd2 ⟨λe=>?_,λe=>?_⟩))
  ·have tn:v∉s.row/\-v∉s.row:=by
    rw[hkv]at e;cases z:tv s.row v with
    |none=>exact iO.mp z
    |some b=>replace e:=z▸e;cases e
   have yes: ∀K':Fl->St->Prop,K' .next ⟨lo [sf,R3 (.int v),R3 (.int v)],H⟩->iZ T ⟨lo [sf,R3 (.int b),R3 (.int v)],H⟩ K':=λK' k=>bj rfl rfl k;refine i7 ⟨λO=>⟨λO=>yes _ (hK _ ⟨v,_,rfl,.inr ⟨hv,tn⟩⟩),(λz=>gV z)⟩,λeb=>?_⟩;have uy:b∈vars N/\b∉s.row/\-b∉s.row:=hb.elim (λz=>by replace eb:=z.1▸eb;exact gV eb) id;obtain⟨j,hj⟩:=g.zY (iQ uy.1) hd;refine aG rfl g.self g.dict rfl trivial (fJ hd hi (aP (show 2<=1000000 by decide) (aG rfl g.self g.dict rfl trivial (fJ hd hj (aP (show 2<=1000000 by decide) (acM λc=>?_))))));cases c;·exact⟨(λz=>dq z),λO=>⟨(λz=>dq z),λO=>hK _ ⟨b,_,rfl,.inr uy⟩⟩⟩
   ·exact⟨λO=>⟨λO=>yes _ (hK _ ⟨v,_,rfl,.inr ⟨hv,tn⟩⟩),(λz=>gV z)⟩,(λz=>gV z)⟩
  ·have tn:v∈s.row\/-v∈s.row:=by
    refine Tk λz=>?_;replace e:=(iO.mpr ⟨λq=>z (.inl q),λq=>z (.inr q)⟩)▸hkv▸e;cases e
   refine hK _ ⟨b,_,rfl,hb.imp_left λ⟨h1,h2⟩=>⟨h1,λu hu=>?_⟩⟩;rcases Sl.mp hu with q |q;·exact h2 u q
   ·exact(R8.mp q)▸(tn)
 ·rintro J ⟨b,w,rfl,hb⟩;exact fin b (hb.imp (λzq=>by obtain⟨h1,h2⟩:=zq;exact⟨h1,λv v1 v2=>h2 v (qR ⟨v1,v2⟩)⟩) λzq=>by obtain⟨h1,h2⟩:=zq;exact⟨iQ h1,h2⟩)
end
section
variable{d:SH}{E:R4 (R4 Sj)}{s:S}{M M':R4 Sj}{C:R4 SH}
def Mk (M:R4 Sj)(x:Sj):Prop:=(x.natAbs:Sj)∈M
structure vc (tr:R4 En)(d:SH)(M bh:R4 Sj)(bA:SH)(C:R4 SH):Prop where
 k1: ∀v∈M,∃e∈tr,(e.l.natAbs:Sj)=v/\e.h≠0
 k2: ∀x∈bh,(∃e∈tr,e.l= -x/\e.h≠0/\e.h≠d)/\Mk M x
 k3: ∀e∈tr,Mk M e.l->e.h≠d->-e.l∈bh
 k4:(bh.map Tl).Nodup
 cn:C.Nodup
 cm: ∀i,i∈C↔∃e,tr[i]? =R3 e/\i<bA/\Mk M e.l/\e.h=d
def Sd (tr:R4 En)(M:R4 Sj)(i:SH)(x:Sj):Prop:=∃(j:SH) (e:En),j<i/\tr[j]? =R3 e/\e.l= -x/\(e.h=0\/Mk M x)
def Kd (rows:R4 (R4 Sj))(tr:R4 En)(d:SH)(M:R4 Sj)(k:SH):Prop:=∀(i:SH) (e:En),tr[i]? =R3 e->Mk M e.l->e.h=d->k<=i->∃r∈rows,e.l∈r/\∀x∈r,x≠e.l->Sd tr M i x
def Kc (rows:R4 (R4 Sj))(tr:R4 En)(M:R4 Sj):Prop:=∃r∈rows,∀x∈r,Sd tr M tr.length x
theorem Mk.neg:Mk M (-x)↔Mk M x:=by unfold Mk;rw[S4]
theorem Sd.mono (h:Sd tr M i x)(hM: ∀v∈M,v∈M'):Sd tr M' i x:=by
 obtain⟨j,e,h1,h2,h3,h4⟩:=h;exact⟨j,e,h1,h2,h3,h4.imp_right (hM _)⟩
theorem qS (t:dj N s tr){e:En}(h1:tr[i]? =R3 e)(h2:tr[j]? =R3 e')(h:e.l.natAbs=e'.l.natAbs):i=j/\e=e':=by
 have:=gv t.nd (R9 h1) (R9 h2) h;subst this;exact⟨(UG (R6.mp h1).1 (BA t)).mp (h1.trans h2.symm),rfl⟩
theorem vc.init:vc tr d [] [] bA []:=⟨λv h=>Sw h Sy,λv h=>Sw h Sy,λe O h=>Sw h Sy,Tm,Tm,λi=>⟨λh=>Sw h Sy,λzq=>by obtain⟨e,_,_,h,_⟩:=zq;exact Sw h Sy⟩⟩
theorem Mk.snoc {y:Sj}:Mk (M++[(x.natAbs:Sj)]) y↔Mk M y\/y.natAbs=x.natAbs:=by
 unfold Mk;rw[Sl,R8,T1]
theorem vc.acN (h:vc tr d M bh bA C)(t:dj N s tr){e:En}(hj:j<bA)(he:tr[j]? =R3 e)(hl:e.l= -x)(h0:e.h≠0)(hd:e.h=d)(hn: ¬Mk M x):vc tr d (M++[(x.natAbs:Sj)]) bh bA (j::C) where
 k1:=λv hv=>by
  rcases Sl.mp hv with q |q;·exact h.k1 v q
  ·rw[R8.mp q];exact⟨e,R9 he,by rw[hl,S4],h0⟩
 k2:=λy hy=>⟨(h.k2 y hy).1,Mk.snoc.mpr (.inl (h.k2 y hy).2)⟩
 k3:=λe' u9 hm xO=>by
  rcases Mk.snoc.mp hm with q |q;·exact h.k3 e' u9 q xO
  ·have:=gv t.nd u9 (R9 he) (by rw[q,hl,S4]);rw[this]at xO;exact Sw hd xO
 k4:=h.k4
 cn:=S6.mpr ⟨λz=>by obtain⟨e',h1,_,h3,_⟩:=(h.cm j).mp z;replace h1:=he▸h1;obtain rfl:=R7 h1;rw[hl,Mk.neg]at h3;exact hn h3,h.cn⟩
 cm:=λi=>by
  rw[SZ,h.cm i];constructor
  ·rintro(rfl |⟨e',h1,h2,h3,h4⟩);·exact⟨e,he,hj,Mk.snoc.mpr (.inr (by rw[hl,S4])),hd⟩
   ·exact⟨e',h1,h2,Mk.snoc.mpr (.inl h3),h4⟩
  ·rintro⟨e',h1,h2,h3,h4⟩;rcases Mk.snoc.mp h3 with q |q;·exact .inr ⟨e',h1,h2,q,h4⟩
   ·exact .inl (qS t h1 he (by rw[q,hl,S4])).1
theorem vc.markB (h:vc tr d M bh bA C)(t:dj N s tr){e:En}(he:e∈tr)(hl:e.l= -x)(h0:e.h≠0)(hd:e.h≠d)(hn: ¬Mk M x):vc tr d (M++[(x.natAbs:Sj)]) (bh++[x]) bA C where
 k1:=λv hv=>by
  rcases Sl.mp hv with q |q;·exact h.k1 v q
  ·rw[R8.mp q];exact⟨e,he,by rw[hl,S4],h0⟩
 k2:=λy hy=>by
  rcases Sl.mp hy with q |q;·exact⟨(h.k2 y q).1,Mk.snoc.mpr (.inl (h.k2 y q).2)⟩
  ·rw[R8.mp q];exact⟨⟨e,he,hl,h0,hd⟩,Mk.snoc.mpr (.inr rfl)⟩
 k3:=λe' u9 hm xO=>by
  rcases Mk.snoc.mp hm with q |q;·exact Su _ (h.k3 e' u9 q xO)
  ·have:=gv t.nd u9 he (by rw[q,hl,S4]);rw[this,hl,T5];exact SA _ Se
 k4:=by rw[SN];refine Tf.mpr ⟨h.k4,S6.mpr ⟨Sy,Tm⟩,λa ha b hb z=>?_⟩;obtain⟨y,hy,rfl⟩:=SL.mp ha;rw[R8.mp hb]at z;refine hn ?_;have:=(h.k2 y hy).2;unfold Mk at this ⊢;rwa [z]at this
 cn:=h.cn
 cm:=λi=>by rw[h.cm i];refine⟨λzq=>by obtain⟨e',h1,h2,h3,h4⟩:=zq;exact⟨e',h1,h2,Mk.snoc.mpr (.inl h3),h4⟩,λ⟨e',h1,h2,h3,h4⟩=>⟨e',h1,h2,(Mk.snoc.mp h3).elim id λq=>?_,h4⟩⟩;have:=gv t.nd (R9 h1) he (by rw[q,hl,S4]);rw[this]at h4;exact Sw h4 hd
theorem Kd.mono (h:Kd rows tr d M k)(hM: ∀v∈M,v∈M')(hn: ∀i e,tr[i]? =R3 e->Mk M' e.l->k<=i->Mk M e.l):Kd rows tr d M' k:=λi e he hm hd hk=>by
 obtain⟨r,h1,h2,h3⟩:=h i e he (hn i e he hm hk) hd hk;exact⟨r,h1,h2,λx hx cF=>(h3 x hx cF).mono hM⟩
theorem Kc.mono (h:Kc rows tr M)(hM: ∀v∈M,v∈M'):Kc rows tr M':=by
 obtain⟨r,h1,h2⟩:=h;exact⟨r,h1,λx hx=>(h2 x hx).mono hM⟩
theorem vc.Ic (h:vc tr d M bh bA C)(hk:k<bA)(hu: ∀i e,k<i->i<bA->tr[i]? =R3 e->¬Mk M e.l):vc tr d M bh k (C.erase k) where
 k1:=h.k1
 k2:=h.k2
 k3:=h.k3
 k4:=h.k4
 cn:=h.cn.erase _
 cm:=λi=>by
  rw[h.cn.mem_erase_iff,h.cm i];constructor
  ·rintro⟨cF,e,h1,h2,h3,h4⟩;refine⟨e,h1,?_,h3,h4⟩;rcases XC i k with q |q |q;·exact q
   ·exact Sw q cF
   ·exact Sw h3 (hu i e q h2 h1)
  ·rintro⟨e,h1,h2,h3,h4⟩;exact⟨Ur h2,e,h1,WN h2 hk,h3,h4⟩
theorem Kd.Ic (h:Kd rows tr d M bA)(hu: ∀i e,k<i->i<bA->tr[i]? =R3 e->¬Mk M e.l):Kd rows tr d M (k+1):=λi e he hm hd hk=>by
 refine h i e he hm hd (T0.mp λz=>hu i e hk z he hm)
theorem vc.rup (h:vc tr d M bh k [])(hk:Kd rows tr d M (k+1))(hc:Kc rows tr M){p:Sj}{ep:En}(hp:tr[k]? =R3 ep)(hl:ep.l=p)(R:rP N E rows)(zAA:Zero E tr):b7 E (hZ (-p::bh)):=by
 have key: ∀(n i:SH) (e:En),i<n->tr[i]? =R3 e->(e.h=0\/Mk M e.l)->js E (hZ (-p::bh)) e.l:=by
  intro n;induction n with
  |zero=>intro i e hi;exact Sw hi (VE _)
  |succ n ih=>
   intro i e hi he hs;by_cases h0:e.h=0;·exact(zAA e (R9 he) h0).mono (λO h=>h) λa ha=>Sw ha Sy
   have hm:=hs.resolve_left h0;by_cases hd:e.h=d
   ·rcases XC i k with q |q |q;·exact Sw ((h.cm i).mpr ⟨e,he,q,hm,hd⟩) Sy
    ·subst q;replace he:=hp▸he;obtain rfl:=R7 he;refine .bU (SL.mpr ⟨-p,Se,by rw[T5,hl]⟩)
    ·obtain⟨r,h1,h2,h3⟩:=hk i e he hm hd q;refine R.unit h1 h2 λy hy cF=>?_;obtain⟨j,e',h4,h5,h6,h7⟩:=h3 y hy cF;refine h6▸?_;exact ih j e' (yN [_,_,_] [] 0xf20a501a2a5010a54 rfl hi h4) h5 (h7.imp_right λz=>by rw[h6,Mk.neg];exact z)
   ·refine .bU (SL.mpr ⟨-e.l,SQ _ (h.k3 e (R9 he) hm hd),T5 _⟩)
 obtain⟨r,h1,h2⟩:=hc;refine R.OW h1 λy hy=>?_;obtain⟨j,e',h4,h5,h6,h7⟩:=h2 y hy;refine h6▸?_;exact key (j+1) j e' (UF j) h5 (h7.imp_right λz=>by rw[h6,Mk.neg];exact z)
end
section
variable{s:S}{E:R4 (R4 Sj)}
theorem ao.tmp (g:ao T N s H)(hk:(Ul (k<19))=Sn):ao T N s (aK H ⟨k,n⟩ so):=g.frm λb o e h1 O=>(jr λz=>by
 have z:b.k=k:=z;have:=SB hk;exact yF [_,_] [] 0xf132c1a5010520132c50 rfl h1 z this).trans e
def oM (m m':SH)(H H':Hp):Prop:=∀b o,H b=R3 o->(b.k<20\/40<=b.k)->b≠⟨9,m⟩->b≠⟨10,m'⟩->H' b=R3 o
theorem oM.step {m:SH}(f:oM m m' H H')(h:bM 20 40 H' mU):oM m m' H mU:=λb o e k n1 n2=>h b o (f b o e k n1 n2) k
theorem oM.aak {m:SH}(f:oM m m' H H'):oM m m' H (aK H' ⟨9,m⟩ so):=λb o e k n1 n2=>(aO n1).trans (f b o e k n1 n2)
theorem oM.BE {m:SH}(f:oM m m' H H'):oM m m' H (aK H' ⟨10,m'⟩ so):=λb o e k n1 n2=>(aO n2).trans (f b o e k n1 n2)
theorem oM.refl {m:SH}:oM m m' H H:=λO O e O O O=>e
theorem oM.trans {m:SH}(f:oM m m' H H')(h:oM m m' H' mU):oM m m' H mU:=λb o e k n1 n2=>h b o (f b o e k n1 n2) k n1 n2
theorem rU {m:SH}{p:Sj}{C:R4 SH}{Q:Fl->St->Prop}(g:ao T N s H)(hk:dj N s tr)(hN:N<=50)(Bv:s.aH.length<=1000)(rz:s.rows.length<=10000)(hr:s.rows[num]? =R3 r)(R:Row N r)
  (hd:H ⟨9,m⟩=R3 (.dict kvs ep)) (hb:H ⟨10,m'⟩=R3 (.list (bH bh))) (L:vc tr s.aH.length (kvs.map (·.1)) bh bA C) (K:Kd s.rows tr s.aH.length (kvs.map (·.1)) (bA+1))
  (pend: ∀x∈r,x≠p->X2 λ(j:SH) (e:En)=>C3 (j<bA) (tr[j]? =R3 e) (e.l= -x))
  (fin: ∀aF ep bh C n i w7 w8 H',ao T N ((s.Du n).ig i) H'->H' ⟨9,m⟩=R3 (.dict aF ep)->H' ⟨10,m'⟩=R3 (.list (bH bh))->vc tr s.aH.length (aF.map (·.1)) bh bA C->Kd s.rows tr s.aH.length (aF.map (·.1)) (bA+1)->(∀v∈kvs.map (·.1),v∈aF.map (·.1))->
   (∀x∈r,x≠p->Sd tr (aF.map (·.1)) bA x)->oM m m' H H'->Q .next ⟨lo [sf,R3 (.int (num:Sj)),R3 (.ref ⟨9,m⟩),R3 (.ref ⟨10,m'⟩),R3 (.int (C.length:Sj)),R3 (.int (bA:Sj)),R3 (.int p),w7,w8],H'⟩):
  qQ T ⟨lo [sf,R3 (.int (num:Sj)),R3 (.ref ⟨9,m⟩),R3 (.ref ⟨10,m'⟩),R3 (.int (C.length:Sj)),R3 (.int (bA:Sj)),R3 (.int p),w7,w8],H⟩ Q:=by
 obtain⟨n,hn⟩: ∃n,s.rl[num]? =R3 n:=⟨_,SG (by rw[g.bV];exact(R6.mp hr).1)⟩;have sz:(s.rl.map λn=>V.ref ⟨32,n⟩).length<=big:=by rw[Sa,g.bV];unfold big;exact yN [_] [] 0xf27104c050f42405c054 rfl rz
 have bV:=de R.nd R.var;refine aG rfl g.self g.dict rfl trivial (bS (bq g.rows) sz (v:=.ref ⟨32,n⟩) (eX (by rw[Sx,hn];rfl)) ?_);refine fm (S:=.seq Sf (bH r)) (f:=V.int) (c:=r) (λpre J=>X9 λaF ep bh C nn i w7 w8 H'=>C9 (J=⟨lo [sf,R3 (.int (num:Sj)),R3 (.ref ⟨9,m⟩),R3 (.ref ⟨10,m'⟩),R3 (.int (C.length:Sj)),R3 (.int (bA:Sj)),R3 (.int p),w7,w8],H'⟩) (ao T N ((s.Du nn).ig i) H') (H' ⟨9,m⟩=R3 (.dict aF ep)) (H' ⟨10,m'⟩=R3 (.list (bH bh))) (vc tr s.aH.length (aF.map (·.1)) bh bA C) (Kd s.rows tr s.aH.length (aF.map (·.1)) (bA+1)) (∀v∈kvs.map (·.1),v∈aF.map (·.1)) (∀x∈pre,x≠p->Sd tr (aF.map (·.1)) bA x) (oM m m' H H')) rfl (by show(bH r).length<=big;rw[ag];unfold big;exact yN [_,_] [] 0xf1050322c150f42405c054 rfl hN bV) ?_
  ⟨kvs,ep,bh,C,s.nh,s.j7,w7,w8,H,rfl,g,hd,hb,L,K,λO h=>h,λx hx=>Sw hx Sy,.refl⟩ ?_ ?_
 ·rintro pre J ⟨aF,ep,bh,C,nn,i,w7,w8,H',rfl,g',_⟩;exact fM (g'.ix num n r hn hr) _
 ·rintro pre x gD J he ⟨aF,ep,bh,C,nn,i,w7,w8,H1,rfl,g1,sZ,vd,L1,K1,z9,BF,f1⟩ Kq hK;have hx:=mem_mid he;have vx:=R.var x hx;have skip:(x≠p->Sd tr (aF.map (·.1)) bA x)->∀y∈pre++[x],y≠p->Sd tr (aF.map (·.1)) bA y:=λh y hy cF=>by
   rcases Sl.mp hy with q |q;·exact BF y q cF
   ·rw[R8.mp q]at cF ⊢;exact h cF
  refine bj rfl rfl (bj rfl rfl (Hh ⟨λe1=>wA sZ ⟨λe2=>?_,λe2=>?_⟩,λe1=>?_⟩))
  ·have hxp:x≠p:=λz=>by rw[z,TV]at e1;exact dq e1
   obtain⟨j,e,hj,hje,kh⟩:=pend x hx hxp;have DV:=R9 hje;have hmk: ¬Mk (aF.map (·.1)) x:=λz=>by have z:(x.natAbs:Sj)∈aF.map (·.1):=z;replace e2:=(Th z)▸fw▸e2;exact dq e2
   obtain⟨fO,ep2,hd2,Ke⟩:=g1.ht;have K6:bC fO (x.natAbs:Sj)=R3 (.int (e.h:Sj)):=by rw[Ke];have:=hk.ht e DV;rw[kh,S4]at this;exact this
   refine aG rfl g1.self g1.dict rfl trivial (fJ hd2 K6 (rI ⟨λe3=>⟨λO=>?_,(λz=>gV z)⟩,λe3=>⟨(λz=>dq z),λO=>?_⟩⟩))
   ·have h0:e.h≠0:=λz=>by replace e3:=z▸e3;cases e3
    have nk:bC aF (x.natAbs:Sj)=Sg:=cW.mpr hmk;refine gU sZ (yZ [_] [] 64758496597 rfl) (yZ [_,_] [] 0xf1050322c1503e83c155 rfl hN vx.2) λep'=>?_;refine(iN nk)▸?_;have hd3:aK H1 ⟨9,m⟩ (.dict (aF++[((x.natAbs:Sj),V.bool Sn)]) ep') ⟨9,m⟩=R3 (.dict (aF++[((x.natAbs:Sj),V.bool Sn)]) ep'):=aw;have hb3:aK H1 ⟨9,m⟩ (.dict (aF++[((x.natAbs:Sj),V.bool Sn)]) ep') ⟨10,m'⟩=R3 (.list (bH bh)):=(ai rfl).trans vd;have g3:=g1.tmp (k:=9) (n:=m) (so:=.dict (aF++[((x.natAbs:Sj),V.bool Sn)]) ep') rfl;have f3:=f1.aak (so:=.dict (aF++[((x.natAbs:Sj),V.bool Sn)]) ep');generalize aK H1 ⟨9,m⟩ (.dict (aF++[((x.natAbs:Sj),V.bool Sn)]) ep')=H3 at hd3 hb3 g3 f3 ⊢;refine cE g3.self g3.dict (M9 g3 rfl (yN [_] [] 0xf322c050642c054 rfl hN) (by exact⟨yZ [_] [] 0xf011c50111c55 rfl vx.1,yZ [_,_] [] 64698200405 rfl vx.2⟩) λn4 i4 H4 g4 f4=>?_);have g4:ao T N ((s.Du n4).ig i4) H4:=g4;have hd4:=f4 _ _ hd3 (.inl (R5 rfl));have hb4:=f4 _ _ hb3 (.inl (R5 rfl));have f5:=f3.step f4;have ek:(aF++[((x.natAbs:Sj),V.bool Sn)]).map (·.1)=aF.map (·.1)++[(x.natAbs:Sj)]:=SN;have Nb: ∀v∈aF.map (·.1),v∈(aF++[((x.natAbs:Sj),V.bool Sn)]).map (·.1):=λv hv=>by rw[ek];exact Su _ hv
    have O0: ∀y∈pre++[x],y≠p->Sd tr ((aF++[((x.natAbs:Sj),V.bool Sn)]).map (·.1)) bA y:=λy hy cF=>by
     rcases Sl.mp hy with q |q;·exact(BF y q cF).mono Nb
     ·rw[R8.mp q];exact⟨j,e,hj,hje,kh,.inr (by rw[ek];exact Mk.snoc.mpr (.inr rfl))⟩
    have K5:Kd s.rows tr s.aH.length ((aF++[((x.natAbs:Sj),V.bool Sn)]).map (·.1)) (bA+1):=K1.mono Nb λi' e' h1 h2 h3=>by rw[ek]at h2;refine(Mk.snoc.mp h2).elim id λq=>?_;have:=(qS hk h1 hje (by rw[q,kh,S4])).1;exact yF [_,_,_] [] 0xf025221a5010a50 rfl hj h3 this
    obtain⟨aet,ep4,hd6,hv6⟩:=g4.ht;have aeu:bC aet (x.natAbs:Sj)=R3 (.int (e.h:Sj)):=by rw[hv6];have:=hk.ht e DV;rw[kh,S4]at this;exact this
    refine aG rfl g4.self g4.dict rfl trivial (fJ hd6 aeu (aG rfl g4.self g4.dict rfl trivial (ci (bq g4.aH) (by rw[cb];unfold big;exact yN [_] [] 0xf3e83c050f42405c054 rfl Bv) (i7 ⟨λe4=>?_,λe4=>?_⟩))))
    ·have Qv:e.h=s.aH.length:=by have:=eq_of_beq e4;rw[cb]at this;exact T1.mp this
     refine cO (bj rfl rfl (hK _ ⟨_,ep',bh,j::C,n4,i4,_,_,H4,rfl,g4,hd4,hb4,?_,K5,λv hv=>Nb v (z9 v hv),O0,f5⟩));rw[ek];exact L1.acN hk hj hje kh h0 Qv hmk
    ·have Qv:e.h≠s.aH.length:=λz=>by rw[cb,show(Vl (S.aH ((s.Du n4).ig i4)))=e.h from z.symm,TV]at e4;exact gV e4
     have L5:=L1.markB hk DV kh h0 Qv hmk;have bz:bh.length<=1000:=by
      have:=de (N:=N) L1.k4 λy hy=>by obtain⟨e',h1,h2,_⟩:=(L1.k2 y hy).1;have:=hk.var e' h1;rw[h2,S4]at this;exact this
      exact yN [_,_] [] 0xf1050322c1503e83c054 rfl hN this
     refine fh hb4 (eK hb4 (by rw[ag];unfold big;exact yN [_] [] 0xf3e83c050f42405c054 rfl bz) (hK _ ⟨_,ep',bh++[x],C,n4,i4,_,_,_,rfl,g4.tmp rfl,(ai rfl).trans hd4,?_,?_,K5,λv hv=>Nb v (z9 v hv),O0,f5.BE⟩));·exact dA▸(aw)
     ·rw[ek];exact L5
   ·refine hK _ ⟨aF,ep,bh,C,nn,i,_,_,H1,rfl,g1,sZ,vd,L1,K1,z9,skip λO=>⟨j,e,hj,hje,kh,.inl ?_⟩,f1⟩;have:=TF e3;exact SK (yN [_] [] 0xf101ca5501c054 rfl this) (yN [_] [] 251665492 rfl)
  ·refine⟨(λz=>dq z),λO=>hK _ ⟨aF,ep,bh,C,nn,i,_,_,H1,rfl,g1,sZ,vd,L1,K1,z9,skip λcF=>?_,f1⟩⟩;obtain⟨j,e,hj,hje,kh⟩:=pend x hx cF;refine⟨j,e,hj,hje,kh,.inr ?_⟩;replace e2:=fw▸e2;refine Tk λz=>?_;unfold Mk at z;replace e2:=(Ti z)▸e2;cases e2
  ·refine⟨(λz=>dq z),λO=>hK _ ⟨aF,ep,bh,C,nn,i,_,_,H1,rfl,g1,sZ,vd,L1,K1,z9,skip λcF=>Sw ?_ cF,f1⟩⟩;rw[Zm]at e1;exact eq_of_beq e1
 ·rintro J ⟨aF,ep,bh,C,nn,i,w7,w8,H1,rfl,g1,sZ,vd,L1,K1,z9,BF,f1⟩;exact fin aF ep bh C nn i w7 w8 H1 g1 sZ vd L1 K1 z9 BF f1
end
section
variable{s:S}{E:R4 (R4 Sj)}
theorem Aa :(bC kvs (x.natAbs:Sj)).isSome=Sn↔Mk (kvs.map (·.1)) x:=by
 refine fw▸?_;exact⟨λz=>show(x.natAbs:Sj)∈kvs.map (·.1) from SB z,λz=>Th (show(x.natAbs:Sj)∈kvs.map (·.1) from z)⟩
inductive acO (T:Tp)(N:SH)(s:S)(H:Hp)(tr:R4 En)(m m':SH):SH->St->Prop
 |mk (num:SH) (kvs:R4 (Sj×V)) (ep:SH) (bh:R4 Sj) (C:R4 SH) (nn:SH) (i:Sj) (w7 w8:Si V) (H1:Hp) (p:Sj) (bA:SH) (r:R4 Sj):ao T N ((s.Du nn).ig i) H1->H1 ⟨9,m⟩=R3 (.dict kvs ep)->H1 ⟨10,m'⟩=R3 (.list (bH bh))->
  vc tr s.aH.length (kvs.map (·.1)) bh bA C->Kd s.rows tr s.aH.length (kvs.map (·.1)) (bA+1)->s.rows[num]? =R3 r->(∀x∈r,x≠p->X2 λ(j:SH) (e:En)=>C3 (j<bA) (tr[j]? =R3 e) (e.l= -x))->
  ((p=0/\bA=tr.length/\∃x∈r,∃e∈tr,e.l= -x/\e.h=s.aH.length)\/(Kc s.rows tr (kvs.map (·.1))/\C≠[]/\∃ep,C3 (tr[bA]? =R3 ep) (ep.l=p) (p∈r)))->oM m m' H H1->
  acO T N s H tr m m' bA ⟨lo [sf,R3 (.int (num:Sj)),R3 (.ref ⟨9,m⟩),R3 (.ref ⟨10,m'⟩),R3 (.int ((Vl C:SH):Sj)),R3 (.int ((bA:SH):Sj)),R3 (.int p),w7,w8],H1⟩
theorem DW {a:Ad}(g:ao T N s H)(ha:a=⟨20,0⟩)(hk:dj N s tr)(hN:N<=50)(Bv:s.aH.length<=1000)(rz:s.rows.length<=10000)(R:rP N E s.rows)(Cs:i9 s.rows tr)(Ds:nf s.aH tr)(zAA:Zero E tr)(hl:M6 s tr num s.aH.length)(JB:s.aH.length≠0)
  (fin: ∀p bh n i H',ao T N ((s.Du n).ig i) H'->bM 20 40 H H'->(∃e∈tr,e.l=p/\e.h=s.aH.length)->(∀x∈bh,∃e∈tr,e.l= -x/\e.h≠0/\e.h≠s.aH.length)->(bh.map Tl).Nodup->b7 E (hZ (-p::bh))->Q (.bF Sf (bH (-p::bh))) ⟨l,H'⟩):
  ju T [.ref a,.int (num:Sj)] ⟨l,H⟩ Q:=by
 subst ha;have rl:=hk.bV;have tl:=hk.len;have OZ:=hk.rz (yN [_] [] 0xf322c050642c054 rfl hN);have gl: ∀{k:SH} {e:En},tr[k]? =R3 e->s.row[k]? =R3 e.l:=λ{k e} h=>by rw[hk.row];unfold lits;rw[Sx,h];rfl
 unfold ju;refine bJ 7 rfl (kQ 9 λm uZ hm=>aP (S7 _) (eh 10 λm' vk=>?_));have vk:H ⟨10,m'⟩=Sg:=(ai rfl).symm.trans vk;have g0:=(g.tmp (k:=9) (n:=m) (so:=.dict [] uZ) rfl).tmp (k:=10) (n:=m') (so:=.list []) rfl;have f0:oM m m' H (aK (aK H ⟨9,m⟩ (.dict [] uZ)) ⟨10,m'⟩ (.list [])):=(oM.refl.aak).BE;have aal:aK (aK H ⟨9,m⟩ (.dict [] uZ)) ⟨10,m'⟩ (.list []) ⟨9,m⟩=R3 (.dict [] uZ):=(ai rfl).trans aw;have hb0:aK (aK H ⟨9,m⟩ (.dict [] uZ)) ⟨10,m'⟩ (.list []) ⟨10,m'⟩=R3 (.list (bH [])):=aw;generalize aK (aK H ⟨9,m⟩ (.dict [] uZ)) ⟨10,m'⟩ (.list [])=H0 at g0 f0 aal hb0 ⊢;have frm: ∀{H'},oM m m' H H'->bM 20 40 H H':=λf b o e k=>f b o e k (λz=>by replace e:=hm▸z▸e;cases e) λz=>by replace e:=vk▸z▸e;cases e
 refine aG rfl g0.self g0.dict rfl trivial (ci (bq g0.row) (by rwa [ag]) (aP (show 5<=1000000 by decide) (s8 rfl (bj rfl rfl (bj rfl rfl (bj rfl rfl (bj rfl rfl (bj rfl rfl ?_))))))));rw[ag,rl];obtain⟨r0,hr0,acP,y0,hy0,e0,he0,hl0,hh0⟩:=hl;refine gL (acO T N s H tr m m') tr.length (.mk num [] uZ [] [] s.nh s.j7 Sg Sg H0 0 tr.length r0 g0 aal hb0 .init (λi e he hm=>Sw hm Sy) hr0 (λx hx O=>?_) (.inl ⟨rfl,rfl,y0,hy0,e0,he0,hl0,hh0⟩) f0) ?_
 ·have:=acP x hx;rw[hk.row]at this;obtain⟨e,he,kh⟩:=bX.mp this;obtain⟨j,hj⟩:=S5.mp he;exact⟨j,e,(R6.mp hj).1,hj,kh⟩
 intro bA _ inv K hK;clear g0 aal hb0 f0 hr0 acP hy0 he0 hl0 hh0;cases inv with |mk num kvs ep bh C nn i w7 w8 H1 p bA r g1 sZ vd L1 K1 hr pend Nc f1=>
 have Rr:=R.r1 r (R9 hr);refine⟨λO=>?_,(λz=>gV z)⟩;refine rU (s:=(s.Du nn).ig i) (p:=p) (C:=C) g1 (hk.same rfl rfl rfl rfl rfl rfl) hN Bv rz hr Rr sZ vd L1 K1 pend λaF ep bh C' n2 i2 w7 w8 H2 g2 hd2 uy L2 K2 acQ Id f2=>?_;have g2:ao T N ((s.Du n2).ig i2) H2:=g2;have L2:vc tr s.aH.length (aF.map (·.1)) bh bA C':=L2;have K2:Kd s.rows tr s.aH.length (aF.map (·.1)) (bA+1):=K2;have f2:=f1.trans f2;clear g1 sZ vd f1;obtain⟨hc2,hC2,Kp⟩:Kc s.rows tr (aF.map (·.1))/\(∃i,i∈C')/\Kd s.rows tr s.aH.length (aF.map (·.1)) bA:=by
  rcases Nc with ⟨q1,q2,x,hx,e,he,kh,heh⟩ |⟨q1,q2,ep,hep,u0,hpr⟩
  ·refine⟨⟨r,R9 hr,λy hy=>?_⟩,?_,λi e he O O hi=>?_⟩;·rw[<-q2];exact Id y hy λz=>by have:=Rr.var y hy;exact yF [_] [_] 0xf01f1510151011c60 rfl this.1 (jX (yZ [] [_,_] 0xf203301c233001c55 rfl q1 z)) (my (yZ [] [_,_] 0xf205301c25301c055 rfl q1 z))
   ·obtain⟨j,e',h1,h2,h3,h4⟩:=Id x hx λz=>by have:=Rr.var x hx;exact yF [_] [_] 0xf01f1510151011c60 rfl this.1 (jX (yZ [] [_,_] 0xf203301c233001c55 rfl q1 z)) (my (yZ [] [_,_] 0xf205301c25301c055 rfl q1 z))
    have:=gv hk.nd (R9 h2) he (by rw[h3,kh]);subst this;refine⟨j,(L2.cm j).mpr ⟨e',h2,h1,?_,heh⟩⟩;rw[h3,Mk.neg];exact h4.resolve_left λz=>JB (heh.symm.trans z)
   ·have:=(R6.mp he).1;exact yF [_,_,_] [] 0xf12a5020501032 rfl q2 hi this
  ·refine⟨q1.mono acQ,?_,λi e he hm hd hi=>?_⟩
   ·obtain⟨i,hi⟩:=Yv C q2;obtain⟨e,h1,h2,h3,h4⟩:=(L1.cm i).mp hi;exact⟨i,(L2.cm i).mpr ⟨e,h1,h2,acQ _ h3,h4⟩⟩
   ·rcases VG hi with z |z;·exact K2 i e he hm hd z
    ·subst z;replace he:=hep▸he;obtain rfl:=R7 he;exact⟨r,R9 hr,by rw[u0];exact hpr,λx hx cF=>Id x hx λz=>cF (z.trans u0.symm)⟩
 obtain⟨i0,hi0⟩:=hC2;obtain⟨ei,hi1,hi2,hi3,hi4⟩:=(L2.cm i0).mp hi0;have aev:bA<=tr.length:=by
  rcases Nc with ⟨_,q2,_⟩ |⟨_,_,ep,hep,_⟩;·exact XD q2
  ·exact Uf (R6.mp hep).1
 refine nR (bj rfl rfl ?_);have es:(bA:Sj) - 1=((bA - 1:SH):Sj):=Td (yZ [_,_] [] 0xf1a050311c10f55 rfl (li _ _)) (yZ [_,_] [] 0xf10a5011c30f155 rfl (i6 (yN [_,_] [] 0xf01a50011c54 rfl hi2)));refine es▸?_;refine gL (λk J=>J=⟨lo [sf,R3 (.int (num:Sj)),R3 (.ref ⟨9,m⟩),R3 (.ref ⟨10,m'⟩),R3 (.int (C'.length:Sj)),R3 (.int (k:Sj)),R3 (.int p),w7,w8],H2⟩/\k<bA/\∀i e,k<i->i<bA->tr[i]? =R3 e->¬Mk (aF.map (·.1)) e.l) _ ⟨rfl,yN [_,_] [] 0xf111c30f3310a54 rfl es,λi e h1 h2=>yF [_,_,_] [] 0xf02a5021a50311c10f53 rfl es h1 h2⟩ ?_;rintro k J ⟨rfl,hks,hun⟩ K2' hK2;have hkl:k<tr.length:=yN [_,_,_] [] 0xf20a50125010a54 rfl aev hks;obtain⟨ek,oY⟩: ∃e,tr[k]? =R3 e:=⟨_,SG hkl⟩;have ik:i0<=k:=T0.mp λz=>hun i0 ei z hi2 hi1 hi3;refine aG rfl g2.self g2.dict rfl trivial (bS (bq g2.row) (by rw[ag];exact OZ) (dD (gl oY)) (wA hd2 ⟨λe2=>?_,λe2=>?_⟩))
 ·have hnk: ¬Mk (aF.map (·.1)) ek.l:=λz=>by replace e2:=(Aa.mpr z)▸e2;cases e2
  have:i0≠k:=λz=>by replace hi1:=oY▸z▸hi1;obtain rfl:=R7 hi1;exact hnk hi3
  refine nR (bj rfl rfl ?_);have es:(k:Sj) - 1=((k - 1:SH):Sj):=Td (yZ [_,_] [] 0xf1a050311c10f55 rfl (li _ _)) (yZ [_,_] [] 0xf10a5011c30f155 rfl (i6 (yN [_,_] [] 0xf01a50011c54 rfl (uY (yN [_,_] [] 64698191956 rfl ik) this))));refine es▸?_;refine hK2 (k - 1) _ (yN [_,_] [] 0xf111c30f3310a54 rfl es) ⟨rfl,yN [_,_,_] [] 0xf111c50f3312a5010a54 rfl hks es,λi e h1 h2 h3=>?_⟩;by_cases z:i=k;·replace h3:=oY▸z▸h3;obtain rfl:=R7 h3;exact hnk
  ·exact hun i e (yN [_,_] [] 0xf10a5010a54 rfl (uY (yN [_,_,_] [] 0xf12a50511c10f531054 rfl es h1) (TH z))) h2 h3
 ·have hmk:Mk (aF.map (·.1)) ek.l:=Aa.mp (by rw[Zm]at e2;exact e2);have hkh:ek.h=s.aH.length:=by obtain⟨b,hb⟩: ∃b,s.aH[s.aH.length - 1]? =R3 b:=⟨_,SG (yN [_,_] [] 0xf10a5010a54 rfl (i6 (xN [_] [] n1 v0 1 (.c 0 1 (vS n0) v0 .e) rfl (uY (xN [_] [] n0 v0 1 .e rfl) (TH JB)))))⟩;have q1:=hk.zx _ _ _ b hi1 hb;have q2:=hk.zx _ _ _ b oY hb;have q3:=hk.hb ek (R9 oY);exact SK q3 (T0.mp λz=>Sw (hi4▸q1.mp (VH ik (q2.mpr (Y6 z)))) (VW.mpr (Zx (Zy JB) Wl)))
  have hkC:k∈C':=(L2.cm k).mpr ⟨ek,oY,hks,hmk,hkh⟩;have L3:=L2.Ic hks hun;have K3:=Kp.Ic hun;refine aG rfl g2.self g2.dict rfl trivial (bS (bq g2.row) (by rw[ag];exact OZ) (dD (gl oY)) (nR (aP (show 2<=1000000 by decide) (mY rfl (bj rfl rfl (bj rfl rfl ?_))))));have ec:(C'.length:Sj) - 1=((C'.erase k).length:Sj):=by rw[List.length_erase_of_mem hkC];have:=List.length_pos_of_mem hkC;exact Td (yZ [_,_] [] 0xf1a050311c10f55 rfl (li _ _)) (yZ [_,_] [] 0xf10a5011c30f155 rfl (i6 (yN [_] [] 0xf001ca50011c54 rfl this)))
  refine ec▸?_;have bz:bh.length<=big:=by
   have:=de (N:=N) L2.k4 λy hy=>by obtain⟨e',h1,h2,_⟩:=(L2.k2 y hy).1;have:=hk.var e' h1;rw[h2,S4]at this;exact this
   unfold big;exact yN [_,_] [] 0xf1050322c150f42405c054 rfl hN this
  refine i7 ⟨λe3=>?_,λe3=>?_⟩
  ·have hCe:C'.erase k=[]:=XY (T1.mp (eq_of_beq e3));replace L3:=hCe▸L3;refine aP (show 1<=1000000 by decide) (eV (us:=bH bh) ay (bq uy) (show 1<=1000000 by decide) (by rwa [ag]) ?_);exact fin ek.l bh n2 i2 H2 g2 (frm f2) ⟨ek,R9 oY,rfl,hkh⟩ (λx hx=>(L3.k2 x hx).1) L3.k4 (L3.rup K3 hc2 oY rfl R zAA)
  ·have hCe:C'.erase k≠[]:=λz=>by replace e3:=z▸e3;cases e3
   obtain⟨i1,aew⟩:=Yv _ hCe;obtain⟨e1,j1,j2,j3,j4⟩:=(L3.cm i1).mp aew;obtain⟨aam,Ia⟩: ∃n,ek.c=R3 n:=by
    cases z:ek.c with
    |some n=>exact⟨n,rfl⟩
    |none=>have q:=Ds k ek oY z (by rw[hkh];exact JB);have q1:=hk.zx _ _ _ k j1 q;rw[hkh]at q1;exact Sw (j4▸q1.mp j2) (VW.mpr (Zx (Zy JB) Wl))
   obtain⟨r',h1,h2,h3⟩:=Cs k ek aam oY Ia;obtain⟨cas,ep3,hd3,hv3⟩:=g2.ca;have K6:bC cas (ek.l.natAbs:Sj)=R3 (.int (aam:Sj)):=by rw[hv3];have:=hk.ca ek (R9 oY);rw[Ia]at this;exact this
   refine aG rfl g2.self g2.dict rfl trivial (fJ hd3 K6 (bj rfl rfl (hK k _ (yN [_,_] [] 0xf10a5010a54 rfl hks) (.mk aam aF ep bh (C'.erase k) n2 i2 _ _ H2 ek.l k r' g2 hd2 uy L3 K3 h1 (λx hx cF=>?_) (.inr ⟨hc2,hCe,ek,oY,rfl,h2⟩) f2))));obtain⟨j,e',q1,q2,q3⟩:=h3 x hx cF;exact⟨j,e',q1,q2,q3⟩
end
section
variable{s s':S}{E D:R4 (R4 Sj)}{h:SH}
theorem Nf {a0 d a1:Ad}{kvs:R4 (SH×V)}{hk:R4 (Sj×V)}{x:V}{ns:R4 Sj}(h1:H a0=R3 (.inst C d))(h2:H d=R3 (.bB kvs))(h3:bC kvs 10=R3 (.ref a1))(h4:H a1=R3 (.dict hk ep))(hS:sr H x (.seq Sf (bH ns)))(hz:ns.length<64)(key:Sj->Sj)(hk: ∀n∈ns,bC hk (n.natAbs:Sj)=R3 (.int (key n)))
  (q: ∀out:R4 Sj,out.Perm ns->out.Pairwise (λp q=>key q<=key p)->mk (bH out) ⟨l,H⟩ Q):yY C mk (.ref a0) x ⟨l,H⟩ Q:=by
 unfold yY;exact⟨a0,d,kvs,rfl,h1,h2,ns,key,a1,_,ep,hS _,hz,h3,h4,hk,q⟩
structure mn (bU:R4 Sj)(aH:R4 SH)(tr:R4 En):Prop where
 a1: ∀e∈tr,e.c=Sg->e.h≠0->e.h<=bU.length->bU[e.h - 1]? =R3 e.l
 a2: ∀(j:SH) (x:Sj),bU[j]? =R3 x->j<aH.length->∃e∈tr,e.l=x/\e.h<=j+1
 a3:aH.length<=bU.length+tr.length
 a4: ∀(j b:SH),aH[j]? =R3 b->j<=bU.length+b
theorem mn.ext (a:mn bU s.aH tr)(h1:s'.aH=s.aH)(h2: ∃x,cq=tr++x)(h3: ∀e∈cq,e∈tr\/e.c≠Sg/\e.h=s.aH.length):mn bU s'.aH cq where
 a1:=λe he hc hh hl=>(h3 e he).elim (λz=>a.a1 e z hc hh hl) λz=>Sw hc z.1
 a2:=λj x hx hj=>by rw[h1]at hj;obtain⟨e,q1,q2⟩:=a.a2 j x hx hj;obtain⟨y,rfl⟩:=h2;exact⟨e,Su _ q1,q2⟩
 a3:=by obtain⟨y,rfl⟩:=h2;rw[h1,Sr];have:=a.a3;exact yN [_,_,_,_] [] 0xf21b05032b1b054 rfl this
 a4:=by exact h1▸(a.a4)
theorem Cut.as (c:Cut N s tr h s' cq)(t:dj N s tr)(a:mn bU s.aH tr):mn bU s'.aH cq:=by
 have cs:=c.seen;have cl:=c.all;have ct:=c.t;have cm:=c.low;obtain⟨m,rfl⟩:=c.m;refine c.aH▸?_;refine⟨λe he=>a.a1 e (TU he),λj x hx hj=>?_,?_,λj b hb=>?_⟩
 ·rw[S9]at hj;obtain⟨e,q1,q2,q3⟩:=a.a2 j x hx (yN [_,_,_] [] 0xf125020a5010a54 rfl hj (TT _ _));exact⟨e,cl e q1 (yN [_,_,_,_] [] 0xf13502a05032a501054 rfl hj q3 (Tr _ _)),q2,q3⟩
 ·rw[S9];by_cases z:h<s.aH.length
  ·obtain⟨b,hb⟩: ∃b,s.aH[h]? =R3 b:=⟨_,SG z⟩;have q1:=a.a4 h b hb;have q2:=t.bb b (R9 hb);have q3:b<=(tr.take m).length:=T0.mp λz=>by replace z:=S9▸z;obtain⟨e,he⟩: ∃e,tr[m]? =R3 e:=⟨_,SG (by exact(UV _ _).elim (λbE=>yN [_,_,_,_] [] 0xf033223a50125010a54 rfl q2 z (Ue (yN [_,_] [] 64698191956 rfl bE))) (λbE=>yF [_,_,_] [] 0xf123202a501050 rfl q2 z (VX (yN [_,_] [] 64698191956 rfl bE))))⟩;have h1:=(t.zx m e h b he hb).mp (by exact(UV _ _).elim (λbE=>yN [_,_,_] [] 0xf023212a5010a54 rfl z (Ue (yN [_,_] [] 64698191956 rfl bE))) (λbE=>yF [_,_,_] [] 0xf123202a501050 rfl q2 z (VX (yN [_,_] [] 64698191956 rfl bE))));have h2:=cl e (R9 he) h1;obtain⟨i,hi⟩:=S5.mp h2;obtain⟨h3,h4⟩:=iq hi;have:=(UG (R6.mp he).1 (BA t)).mp (he.trans h3.symm);exact yF [_,_] [] 0xf015210a50 rfl h4 this
   exact yN [_,_,_,_,_] [] 0xf3050245041b35021b054 rfl q1 q3 (Tr _ _)
  ·have q1:=a.a3;have:(tr.take m).length=tr.length:=by rw[S9];refine VX (T0.mp λz2=>?_);obtain⟨e,he⟩: ∃e,tr[m]? =R3 e:=⟨_,SG z2⟩;have h2:=cl e (R9 he) (SJ (t.hb e (R9 he)) (T0.mp z));obtain⟨i,hi⟩:=S5.mp h2;obtain⟨h3,h4⟩:=iq hi;have:=(UG (R6.mp he).1 (BA t)).mp (he.trans h3.symm);exact yF [_,_] [] 0xf015210a50 rfl h4 this
   exact yN [_,_,_,_,_] [] 0xf3050423241b35021b054 rfl q1 this (TT _ _)
 ·have hj:=(R6.mp hb).1;rw[S9]at hj;rw[Tu (by exact yN [_,_,_] [] 0xf125020a5010a54 rfl hj (Tr _ _))]at hb;exact a.a4 j b hb
theorem Cut.mid (c:Cut N s tr h s' cq)(m:rS N E s tr W):rS N E s' cq W where
 t:=c.t
 r:=by rw[c.rows];exact m.r
 c:=by obtain⟨k,e⟩:=c.m;rw[c.rows,e];exact m.c.cut
 d:=by have c1:=c.low;obtain⟨k,e⟩:=c.m;rw[c.aH,e];rw[e]at c1;exact m.d.cut c1
 z:=c.zero m.z
 w:=by rw[c.rows];exact m.w
theorem aan {d:SH}{p:Sj}(t:dj N s tr)(w3:W3 rows tr λO e O=>e.h<d)(hd:d=s.aH.length)(hp: ∃e∈tr,e.l=p/\e.h=d)(hb: ∀x∈bh,∃e∈tr,e.l= -x/\e.h≠0/\e.h≠d)(hr:r∈rows)(R:Row N r)(hs: ∀x∈r,x∈-p::bh):False:=by
 have inr: ∀{e},e∈tr->e.l∈s.row:=λ{e} he=>by rw[t.row];exact bX.mpr ⟨e,he,rfl⟩
 obtain⟨n,hn⟩:=S5.mp hr;have key: ∀w w',Pair r w w'->w∈r->w'∈r->w≠-p->False:=λw w' sH hw hw' cF=>by
  have wb:w∈bh:=(SZ.mp (hs w hw)).resolve_left cF;obtain⟨e,h1,h2,_,h4⟩:=hb w wb;have:=t.hb e h1;obtain⟨i,hi⟩:=S5.mp h1;obtain⟨e',h5,h6,_⟩:=w3 i e n r hi (by show e.h<d;exact yN [_,_] [] 0xf10a5010a54 rfl (uY (yN [_,_,_] [] 0xf205021321054 rfl hd this) h4)) hn w w' sH h2;rcases SZ.mp (hs w' hw')with q |q
  ·obtain⟨ep,h7,h8,_⟩:=hp;have z1:=inr h5;have z2:=inr h7;rw[h6,q]at z1;rw[h8]at z2;exact t.cons z2 z1
  ·obtain⟨e2,h7,h8,_⟩:=hb w' q;have z1:=inr h5;have z2:=inr h7;rw[h6]at z1;rw[h8]at z2;exact t.cons z1 z2
 cases r with
 |nil=>exact Sw R.two (W4 1)
 |cons a t'=>
  cases t' with
  |nil=>exact Sw R.two (W5 1)
  |cons b t'=>
   have hv:a.natAbs≠b.natAbs:=λz=>by have:=R.nd;rw[Tq,S6]at this;exact this.1 (by rw[z];exact Se)
   by_cases q:a= -p;·exact key b a (.inr ⟨rfl,rfl⟩) (SQ _ Se) Se λz=>hv (by rw[q,z])
   ·exact key a b (.inl ⟨rfl,rfl⟩) Se (SQ _ Se) q
end
section
variable{s s':S}{E D:R4 (R4 Sj)}{h:SH}
theorem Ie {c':R4 Sj}(h: ∀x∈c,x∈c'){E:R4 (R4 Sj)}(hc:b7 E (hZ c)):b7 E (hZ c'):=hc.mono (λO h=>h) λa ha=>by
 obtain⟨x,hx,rfl⟩:=SL.mp ha;exact .bU (Tz (h x hx))
theorem gj.one {s1:S}{p:Sj}{out:R4 Sj}(m:rS N (D++s.log) s tr s.bL)(lk:JE N D s.log)(oo:td D s.rows tr)(c:Cut N s tr 0 s1 cq)(rf:s.ref=Sf)(w3:W3 s.rows tr λO e O=>e.h<s.aH.length)(hd:s.aH.length≠0)
  (t:dj N (s1.sT kn ht ca (s1.row++[p])) (cq++[⟨p,s1.aH.length,Sg⟩])) (hp:js (D++s.log) [] p):gj N D (s1.sT kn ht ca (s1.row++[p])) (cq++[⟨p,s1.aH.length,Sg⟩]):=by
 have hb:s1.aH=[]:=c.aH;have m1:=c.mid m;refine⟨t,?_,m1.c.add (λn z=>c6 z),m1.d.add λO z=>Sw (by show s1.aH.length=0;rw[hb];rfl) z,?_,?_,?_,?_,λO=>⟨?_,?_⟩,?_⟩;·show rP N (D++s1.log) s1.rows;rw[c.log];exact m1.r
 ·show Zero (D++s1.log) _;rw[c.log];exact m1.z.add λO=>hp
 ·show ng s1.rows s1.bL;rw[c.bL];exact m1.w
 ·show JE N D s1.log;rw[c.log];exact lk
 ·intro z;have z:s1.ref=Sn:=z;replace z:=rf▸c.ref▸z;exact dq z
 ·show td D s1.rows _;rw[c.rows];exact oo.DN λe he h0=>Su _ (c.all e he (yN [_] [] 0xf01c05201c054 rfl h0))
 ·show W3 s1.rows _ λi O O=>i<s1.seen;rw[c.rows];refine(c.w3 (ok':=λi O O=>i<s1.seen) w3 λi e n O O hh O=>?_).DN λi e n hk=>⟨TN hk c.t.seen,hk⟩;show e.h<s.aH.length;exact yN [_,_] [] 0xf101ca5001c05010a54 rfl hh (uY (yN [_] [] 251665492 rfl) (TH hd))
 ·show s1.aH.length<=200;exact hb▸(S7 _)
theorem gj.more {s1:S}{p y:Sj}{out:R4 Sj}{b:SH}{pw:Sj->Si SH}{s2:S}(m:rS N (D++s.log) s tr s.bL)(lk:JE N D s.log)(oo:td D s.rows tr)(c:Cut N s tr b s1 cq)(rf:s.ref=Sf)(w3:W3 s.rows tr λO e O=>e.h<s.aH.length)(hb:b<s.aH.length)(bz:s.aH.length<=200)
  (lb:s2=(s1.c4 (s1.rl++[n]) (s1.rows++[-p::y::r])).fN pw λw=>if w= -p\/w=y then s1.bL w++[s1.rows.length]else s1.bL w)
  (t:dj N (s2.sT kn ht ca (s1.row++[-p])) (cq++[⟨-p,s1.aH.length,R3 s1.rows.length⟩])) (hp: ∃e∈tr,e.l=p/\e.h=s.aH.length) (JG: ∀x∈y::r,∃e∈tr,e.l= -x/\e.h<=b) (hy: ∃e∈tr,e.l= -y/\e.h=b) (ho: ∀x,x∈out↔x∈-p::y::r) (hi:out∈D++s.log) (R:Row N (-p::y::r)):
  gj N D (s2.sT kn ht ca (s1.row++[-p])) (cq++[⟨-p,s1.aH.length,R3 s1.rows.length⟩]):=by
 have m1:=c.mid m;have hbl:s1.aH.length=b:=by rw[c.aH,S9];exact SK (yN [_,_] [] 64698191956 rfl (Tr _ _)) (yN [_,_] [] 64444567636 rfl (Ue (yN [_,_] [] 0xf10a501054 rfl hb)))
 have gn:(s1.rows++[-p::y::r])[s1.rows.length]? =R3 (-p::y::r):=TC;have e1:s2.rows=s1.rows++[-p::y::r]:=SU _ lb;have e2:s2.log=s.log:=by rw[lb];exact c.log
 have e3:s2.aH=s1.aH:=by rw[lb];rfl
 have e4:s2.ref=s.ref:=by rw[lb];exact c.ref
 have e5:s2.seen=s1.seen:=by rw[lb];rfl
 have e6:s2.bL=λw=>if w= -p\/w=y then s1.bL w++[s1.rows.length]else s1.bL w:=SU _ lb
 clear lb;refine⟨t,?_,?_,?_,?_,?_,?_,?_,λO=>⟨?_,?_⟩,?_⟩
 ·show rP N (D++s2.log) s2.rows;refine e2▸e1▸?_;exact m1.r.add R ⟨out,hi,λx hx=>(ho x).mpr hx,λx hx=>.inl ((ho x).mp hx)⟩
 ·refine e1▸?_;refine m1.c.row.add λk hk=>?_;obtain rfl:=R7 hk;refine⟨_,gn,Se,λx hx cF=>?_⟩;obtain⟨e,h1,h2,h3⟩:=JG x ((SZ.mp hx).resolve_left cF);exact⟨e,c.all e h1 h3,h2⟩
 ·show nf s2.aH _;rw[e3];exact m1.d.add λz=>Eh z
 ·refine e2▸?_;refine m1.z.add λh0=>?_;have h0:s1.aH.length=0:=h0;refine .unit hi ((ho _).mpr Se) λx hx cF=>?_;obtain⟨e,h1,h2,h3⟩:=JG x ((SZ.mp ((ho x).mp hx)).resolve_left cF);refine h2▸?_;exact m.z e h1 (SK (yN [_,_,_] [] 0xf205001c152213201c054 rfl hbl h0 h3) (yN [_] [] 251665492 rfl))
 ·show ng s2.rows s2.bL;rw[e1,e6,c.bL];exact m1.w.keep
 ·show JE N D s2.log;exact e2▸(lk)
 ·intro z;have z:s2.ref=Sn:=z;replace z:=rf▸e4▸z;exact dq z
 ·show td D s2.rows _;rw[e1,c.rows];exact(oo.DN λe he h0=>Su _ (c.all e he (yN [_,_] [] 0xf01c0521054 rfl h0))).row
 ·show W3 s2.rows _ λi O O=>i<s2.seen;rw[e1,e5];have old:=(c.w3 (ok':=λi O O=>i<s1.seen) w3 λi e n O O hh O=>(by show e.h<s.aH.length;exact yN [_,_,_] [] 0xf205012a5010a54 rfl hb hh)).DN (e:=⟨-p,s1.aH.length,R3 s1.rows.length⟩) (ok':=λi O O=>i<s1.seen) λi e n hk=>⟨TN hk c.t.seen,hk⟩;rw[<-c.rows]at old;intro i e k q hi' hk hq w w' sH hl;by_cases z:k<s1.rows.length;·exact old i e k q hi' hk ((SW z).symm.trans hq) w w' sH hl
  ·have hn:=(R6.mp hq).1;replace hn:=Sr▸hn;have z:k=s1.rows.length:=SK (Um hn) (T0.mp z);subst z;replace hq:=gn▸hq;obtain rfl:=R7 hq;have hit:cq[i]? =R3 e:=by have hk:i<s1.seen:=hk;rw[SW (TN hk c.t.seen)]at hi';exact hi'
   have het:e∈tr:=by obtain⟨k,ek⟩:=c.m;rw[ek]at hit;exact TU (R9 hit)
   rcases(fy (.inr rfl)).mp sH with ⟨q1,q2⟩ |⟨q1,q2⟩
   ·rw[q1,T5]at hl;obtain⟨ep,h1,h2,h3⟩:=hp;have:=gv m.t.nd het h1 (by rw[hl,h2]);subst this;have:=c.low e (R9 hit);exact yF [_,_,_] [] 0xf0250123210a50 rfl hb h3 this
   ·obtain⟨ey,h1,h2,h3⟩:=hy;have:=gv m.t.nd het h1 (by rw[hl,q1,h2]);subst this;exact⟨_,SA _ Se,q2.symm,by show s1.aH.length<=e.h;exact yN [_,_,_] [] 0xf213220521054 rfl hbl h3⟩
 ·show s2.aH.length<=200;exact e3▸(yN [_,_,_] [] 0xf1052c82c25021a50c82c054 rfl hb bz hbl)
end
section
variable{s s':S}{E D:R4 (R4 Sj)}{h:SH}
theorem b7.perm {c':R4 Sj}{E:R4 (R4 Sj)}(p:c'.Perm c)(h:b7 E (hZ c)):b7 E (hZ c'):=Ie (λx hx=>p.mem_iff.mpr hx) h
theorem Ig :c∈D++(L++[c]):=SA _ (SA _ Se)
theorem mn.add {e:En}(a:mn bU aH tr)(h:e.c=Sg->e.h≠0->False):mn bU aH (tr++[e]) where
 a1:=λe' he hc hh hl=>(Sl.mp he).elim (λz=>a.a1 e' z hc hh hl) λz=>by rw[R8.mp z]at hc hh;exact(h hc hh).elim
 a2:=λj x hx hj=>(a.a2 j x hx hj).imp λe' q=>⟨Su _ q.1,q.2⟩
 a3:=by rw[Sr];exact SJ a.a3 (Zh (UN _ _) _)
 a4:=a.a4
theorem Ih {a:Ad}(g:ao T N s H)(ha:a=⟨20,0⟩)(hN:N<=8)(m:rS N (D++s.log) s tr s.bL)(lk:JE N D s.log)(oo:td D s.rows tr)(rf:s.ref=Sf)(hl:M6 s tr num s.aH.length)(w3:W3 s.rows tr λO e O=>e.h<s.aH.length)(bd:Bd N s tr B)(hB:B<=5000)(bz:s.aH.length<=200)
  (aex: ∀s' H',ao T N s' H'->gj N D s' tr->Bd N s' tr (B+1)->s'.ref=Sn->s'.clashes=s.clashes+1->s'.bQ=s.bQ->bM 19 40 H H'->Q .none ⟨l,H'⟩)
  (fin: ∀s' cq H',ao T N s' H'->gj N D s' cq->Bd N s' cq B->s'.ref=Sf->s'.clashes=s.clashes+1->s'.bQ=s.bQ->mu N s'.rows cq<mu N s.rows tr->(∀bU,mn bU s.aH tr->mn bU s'.aH cq)->bM 19 40 H H'->Q .none ⟨l,H'⟩):
  lW T [.ref a,.int (num:Sj)] ⟨l,H⟩ Q:=by
 subst ha;have b1:=bd.rows;have b2:=bd.log;have rz:s.rows.length<=10000:=yN [_,_,_] [] 0xf120b5013884c15027104c054 rfl hB b1;have lz:s.log.length<=big:=by unfold big;exact yN [_,_,_] [] 0xf120b5013884c150f42405c054 rfl hB b2
 unfold lW;refine bJ 1 rfl (aG rfl g.self g.dict rfl trivial (cO ?_));have es:(s.clashes:Sj)+1=((s.clashes+1:SH):Sj):=rfl;refine es▸?_;refine g.Hs λH1 g1 f1=>aG rfl g1.self g1.dict rfl trivial (ci (bq g1.aH) (by rw[cb];unfold big;exact yN [_] [] 0xfc82c050f42405c054 rfl bz) (i7 ⟨λe=>?_,λe=>?_⟩))
 ·have d0:s.aH.length=0:=by have:=eq_of_beq e;rw[cb]at this;exact T1.mp this
  refine cE g1.self g1.dict (ta g1 rfl lz λH2 g2 f2=>aex _ H2 g2 ⟨m.t.same rfl rfl rfl rfl rfl rfl,m.r.mono λO=>eo,m.c,m.d,m.z.mono λO=>eo,m.w,⟨lk.rQ.snoc ?_,λq hq=>?_⟩,λO=>SA _ Se,(λz=>gV (show Sn=Sf from z)),bz⟩ (bd.of (S8 _) (by show s.rows.length+B<=_;exact yN [_,_] [] 0xf1a0b10b54 rfl) (by show(s.log++[[]]).length+B<=_;rw[bw];exact yN [_,_] [] 0xf1a0b10ab54 rfl)) rfl rfl rfl (f1.trans f2).dn)
  ·obtain⟨r,hr,hn,_⟩:=hl;exact m.r.OW (R9 hr) λx hx=>m.z.neg m.t (λe he=>by have:=m.t.hb e he;exact yN [_,_] [] 0xf105001c15201c054 rfl d0 this) (hn x hx)
  ·rcases Sl.mp hq with z |z;·exact lk.cl q z
   ·rw[R8.mp z];exact⟨WP,λx hx=>Sw hx Sy⟩
 have d0:s.aH.length≠0:=λz=>by replace e:=(show(Vl (S.aH (s.sCl (s.clashes+1))))=0 from z)▸cb▸e;cases e
 refine cE g1.self g1.dict (DW (E:=D++s.log) (tr:=tr) g1 rfl (m.t.same rfl rfl rfl rfl rfl rfl) (yN [_] [] 0xf81c050322c054 rfl hN) (by show s.aH.length<=1000;exact yN [_] [] 0xfc82c0503e83c054 rfl bz) rz m.r m.c m.d m.z hl d0 λp bh n2 i2 H2 g2 f2 hp JG hnd tO=>bj rfl rfl ?_);have hp: ∃e∈tr,e.l=p/\e.h=s.aH.length:=hp;have JG: ∀x∈bh,∃e∈tr,e.l= -x/\e.h≠0/\e.h≠s.aH.length:=JG;obtain⟨epp,CB,tU,FZ⟩:=hp;have vp:=m.t.var epp CB;replace vp:=tU▸vp;have vbh: ∀x∈bh,1<=x.natAbs/\x.natAbs<=N:=λx hx=>by obtain⟨e,h1,h2,_⟩:=JG x hx;have:=m.t.var e h1;rw[h2,S4]at this;exact this
 have tnd:((-p::bh).map Tl).Nodup:=by rw[Tq,S6];refine⟨λz=>?_,hnd⟩;obtain⟨x,hx,e⟩:=SL.mp z;obtain⟨e',h1,h2,_,h4⟩:=JG x hx;have:=gv m.t.nd h1 CB (by rw[h2,tU,S4,e,S4]);replace h4:=this▸h4;exact h4 FZ
 have tv: ∀x∈-p::bh,1<=x.natAbs/\x.natAbs<=N:=λx hx=>by
  rcases SZ.mp hx with q |q;·rw[q,S4];exact vp
  ·exact vbh x q
 have Ng:=de tnd tv;have Nh:bh.length<=N:=by simp only[TB]at Ng;exact yN [_,_] [] 0xf10a501054 rfl Ng
 have tz:(bH (-p::bh)).length<=big:=by rw[ag];unfold big;exact yN [_,_] [] 0xf105081c150f42405c054 rfl hN Ng
 refine aG rfl g2.self g2.dict rfl trivial (fh g2.log (kX (b:=Sf) (c:=-p::bh) (λO O O=>rfl) (yN [_] [] 0xf81c0503c2c054 rfl hN) tnd tv (yN [_,_] [] 0xf105081c1503c2c054 rfl hN Ng) λout H3 BG ho x3=>?_));have g3:=g2.xt x3;refine g3.HE lz λH4 g4 f4=>?_;obtain⟨s4,Ab⟩: ∃s4,s4=(((s.sCl (s.clashes+1)).Du n2).ig i2).wB (s.log++[out]):=⟨_,rfl⟩;replace g4:ao T N s4 H4:=by rw[Ab];exact g4
 have iR:s4.rows=s.rows:=by rw[Ab];rfl
 have qT:s4.log=s.log++[out]:=SU _ Ab;have ku:s4.aH=s.aH:=by rw[Ab];rfl
 have acR:s4.bL=s.bL:=by rw[Ab];rfl
 have BH:s4.ref=Sf:=by rw[Ab];exact rf
 have acS:s4.clashes=s.clashes+1:=SU _ Ab;have acT:s4.bQ=s.bQ:=by rw[Ab];rfl
 have t4:dj N s4 tr:=m.t.same (by rw[Ab];rfl) (by rw[Ab];rfl) (by rw[Ab];rfl) (by rw[Ab];rfl) (by rw[Ab];rfl) (by rw[Ab];rfl);have m4:rS N (D++s4.log) s4 tr s4.bL:=⟨t4,by rw[qT,iR];exact m.r.mono λO=>eo,by rw[iR];exact m.c,by rw[ku];exact m.d,by rw[qT];exact m.z.mono λO=>eo,by rw[iR,acR];exact m.w⟩;have lk4:JE N D s4.log:=by
  rw[qT];refine⟨lk.rQ.snoc (tO.perm BG),λq hq=>?_⟩;rcases Sl.mp hq with z |z;·exact lk.cl q z
  ·rw[R8.mp z];exact ho
 have oo4:td D s4.rows tr:=by exact iR▸(oo)
 have w34:W3 s4.rows tr λO e O=>e.h<s4.aH.length:=by exact iR▸ku▸(w3)
 have f4':bM 20 40 H H4:=((f1.trans f2).trans x3.frm).trans f4;clear Ab g1 g2 g3 f1 f2 f4 x3 tO;have fO: ∀x∈bh,∃e∈tr,e.l= -x/\s4.ht (x.natAbs:Sj)=R3 (.int (e.h:Sj)):=λx hx=>by obtain⟨e,h1,h2,_⟩:=JG x hx;have:=t4.ht e h1;rw[h2,S4]at this;exact⟨e,h1,h2,this⟩
 obtain⟨hkv,hep,hkd,aey⟩:=g4.ht;refine kW (i:=1) ay tz (uK (i:=1) ay tz (Nf g4.self g4.dict rfl hkd (ns:=bh) (λO=>rfl) (yN [_,_] [] 0xf105081c150402c0a54 rfl hN Nh) (λx=>vi ((s4.ht (x.natAbs:Sj)).getD .none)) (λx hx=>?_) λbh2 oL lb=>eV (vs:=bH [-p]) (us:=bH bh2) ay ay (show 1<=1000000 by decide) (by rw[ag,oL.length_eq];unfold big;exact yN [_,_] [] 0xf105081c150f42405c054 rfl hN Nh) (bj rfl rfl ?_)))
 ·obtain⟨e,h1,h2,h3⟩:=fO x hx;rw[aey,h3];rfl
 rw[show bH [-p]++bH bh2=bH (-p::bh2) from rfl];have Ew: ∀x,x∈bh2↔x∈bh:=λx=>oL.mem_iff;have tz2:(bH (-p::bh2)).length<=big:=by rw[ag,TB,oL.length_eq];unfold big;exact yN [_,_] [] 0xf105081c150f42405c0a54 rfl hN Nh
 have fz:s4.aH.length<=big:=by rw[ku];unfold big;exact yN [_] [] 0xfc82c050f42405c054 rfl bz
 have emu:mu N s4.rows tr=mu N s.rows tr:=iR▸rfl;have last: ∀s5 j8 H5 w0 w1 w2,ao T N s5 H5->gj N D s5 j8->Bd N s5 j8 B->s5.ref=Sf->s5.clashes=s.clashes+1->s5.bQ=s.bQ->mu N s5.rows j8<mu N s.rows tr->(∀bU,mn bU s.aH tr->mn bU s5.aH j8)->bM 19 40 H H5->w0=sf->
   Bw T ⟨lo [w0,w1,w2],H5⟩ (Ju l Q):=λs5 j8 H5 w0 w1 w2 g5 JH bd5 r5 c5 bl5 mu5 as5 f5 hw=>by
  subst hw;refine aG rfl g5.self g5.dict rfl trivial (aG rfl g5.self g5.dict rfl trivial (Br (by decide) (by decide) (cO (cO (g5.HC λH6 g6 f6=>fin _ j8 H6 g6 ?_ ⟨bd5.rows,bd5.log⟩ r5 c5 bl5 mu5 as5 (f5.trans f6.dn))))));exact⟨JH.t.same rfl rfl rfl rfl rfl rfl,JH.r,JH.c,JH.d,JH.z,JH.w,JH.l,JH.rf,JH.o,JH.bz⟩
 have nin: ∀{s5 j8 b},Cut N s4 tr b s5 j8->b<s.aH.length->-p∉s5.row/\p∉s5.row:=λ{s5 j8 b} c hb=>by
  have sub: ∀{x},x∈s5.row->∃e∈j8,e.l=x/\e∈tr:=λ{x} hx=>by rw[c.t.row]at hx;obtain⟨e,he,q⟩:=bX.mp hx;obtain⟨k,ek⟩:=c.m;exact⟨e,he,q,by rw[ek]at he;exact TU he⟩
  have no: ∀e∈j8,e∈tr->e.l.natAbs=p.natAbs->False:=λe he het q=>by have:=gv t4.nd het CB (by rw[q,tU]);have:=c.low e he;subst e;exact yF [_,_,_] [] 0xf205012a501032 rfl FZ hb this
  refine⟨λz=>?_,λz=>?_⟩
  ·obtain⟨e,h1,h2,h3⟩:=sub z;exact no e h1 h3 (by rw[h2,S4])
  ·obtain⟨e,h1,h2,h3⟩:=sub z;exact no e h1 h3 (SU _ h2)
 have vnp:1<=(-p).natAbs/\(-p).natAbs<=N:=by rw[S4];exact vp
 cases bh2 with
 |nil=>
  refine cE g4.self g4.dict (ci ay tz2 (rI ⟨(λz=>dq z),λO=>jy (h:=0) g4 rfl t4 (yN [_] [] 0xf81c050642c054 rfl hN) fz λs5 j8 H5 g5 c5 f5=>?_⟩));obtain⟨n1,n2⟩:=nin c5 (by exact xN [_] [] (vS n0) v0 1 (.c 0 1 (vS n0) v0 .e) rfl (uY (xN [_] [] n0 v0 1 .e rfl) (TH d0)));have b5:s5.aH=[]:=c5.aH;refine cE g5.self g5.dict (bS (n:=0) (v:=.int (-p)) ay tz2 rfl (ci ay tz2 (rI ⟨(λz=>dq z),λO=>qE (c:=Sg) g5 rfl c5.t (yN [_] [] 0xf81c050642c054 rfl hN) (by rw[b5];exact S7 _) vnp n1 (by rw[T5];exact n2) λkn ht ca H6 g6 t6 f6=>?_⟩)));have bhe:bh=[]:=by
   cases bh with
   |nil=>rfl
   |cons x t=>exact Sw ((Ew x).mpr Se) Sy
  have aez:=gj.one (out:=out) m4 lk4 oo4 c5 BH w34 (by rw[ku];exact d0) t6 (by refine .unit (c:=out) (by rw[qT];exact Ig) (BG.mem_iff.mpr Se) λx hx cF=>?_;have:=BG.mem_iff.mp hx;rw[bhe]at this;exact Sw (R8.mp this) cF);have mu6:mu N s5.rows (j8++[⟨-p,s5.aH.length,Sg⟩])<mu N s.rows tr:=by
   rw[c5.rows,iR];have q1:mh (j8++[⟨-p,s5.aH.length,Sg⟩])=mh tr+1:=by rw[ir,Sv (by show s5.aH.length=0;rw[b5];rfl),c5.mh t4]
   have q2:=SJ (XL (tr:=j8++[⟨-p,s5.aH.length,Sg⟩])) t6.len;unfold mu;exact yN [_,_,_,_,_,_] [] 0xf531b5042b5504a33220b10ba54 rfl q1 (li _ _) (i6 (yN [_,_] [] 64698191956 rfl q2))
  have e1:s5.rows=s.rows:=c5.rows.trans iR;refine last _ (j8++[(⟨-p,s5.aH.length,Sg⟩:En)]) H6 _ _ _ g6 aez ⟨?_,?_⟩ (c5.ref.trans BH) (c5.cl.trans acS) (c5.bl.trans acT) mu6 (λbU as=>(c5.as t4 (by rw[ku];exact as)).add λO z=>z (by show s5.aH.length=0;rw[b5];rfl)) ((f4'.trans f5).trans f6).dn rfl
  ·show s5.rows.length+mu N s5.rows _<=B;have:s5.rows.length=s.rows.length:=e1▸rfl;exact yN [_,_,_,_,_] [] 0xf305241a50243b50210b54 rfl b1 mu6 this
  ·show s5.log.length+mu N s5.rows _<=B;rw[c5.log,qT,bw];exact yN [_,_,_,_] [] 0xf31a50230b50210ab54 rfl b2 mu6
 |cons y r=>
  obtain⟨ey,RF,hy2,hy3⟩:=fO y ((Ew y).mp Se);have hyd:ey.h<s.aH.length:=by obtain⟨e,h1,h2,_,h4⟩:=JG y ((Ew y).mp Se);have:=gv t4.nd h1 RF (by rw[h2,hy2]);subst this;have:=m.t.hb e h1;exact yN [_,_] [] 0xf10a5010a54 rfl (uY (yN [_,_] [] 64698191956 rfl this) h4)
  have aeA: ∀x∈y::r,∃e∈tr,e.l= -x/\e.h<=ey.h:=λx hx=>by
   rcases SZ.mp hx with q |q;·rw[q];exact⟨ey,RF,hy2,S8 _⟩
   ·obtain⟨e,h1,h2,h3⟩:=fO x ((Ew x).mp hx);refine⟨e,h1,h2,?_⟩;have:=(V8.mp lb).1 x q;rw[h3,hy3]at this;exact XI.mp this
  have n1:decide (((bH (-p::y::r)).length:Sj)>1)=Sn:=by rw[ag];simp only[TB];exact Th (yZ [_] [_,_] 0xf2a0331a233011ca55 rfl (Te _ _) (Te _ _))
  have vy:=vbh y ((Ew y).mp Se);have cF: -p≠y:=λz=>by rw[Tq,S6]at tnd;exact tnd.1 (by rw[z];exact Tz ((Ew y).mp Se))
  refine cE g4.self g4.dict (ci ay tz2 (rI ⟨λO=>cE g4.self g4.dict (bS (n:=1) (v:=.int y) ay tz2 rfl (DK g4 rfl t4 RF (by rw[hy2,S4]) (jy (h:=ey.h) g4 rfl t4 (yN [_] [] 0xf81c050642c054 rfl hN) fz λs5 j8 H5 g5 c5 f5=>?_))),λz=>Sw (n1.symm.trans z) (by decide)⟩));obtain⟨k1,k2⟩:=nin c5 hyd;have b5:s5.aH.length=ey.h:=by rw[c5.aH,S9,ku];exact SK (yN [_,_] [] 64698191956 rfl (Tr _ _)) (yN [_,_] [] 64444567636 rfl (Ue (yN [_,_] [] 0xf10a501054 rfl hyd)))
  have e1:s5.rows=s.rows:=c5.rows.trans iR;have rz5:s5.rows.length<=10000:=by exact e1▸(rz)
  have wz5: ∀w,(s5.bL w).length<=10000:=λw=>by rw[c5.bL];have:=(c5.mid m4).w.len w;exact yN [_,_] [] 0xf105027104c15027104c054 rfl rz5 this
  have aeB:Row N (-p::y::r):=⟨Nat.le_add_left _ _,((oL.cons (-p)).map _).nodup_iff.mpr tnd,λx hx=>tv x ((oL.cons (-p)).mem_iff.mp hx)⟩;refine cE g5.self g5.dict (bS (n:=0) (v:=.int (-p)) ay tz2 rfl (ci ay tz2 (rI ⟨λO=>cE g5.self g5.dict (Bz (x:=-p) (y:=y) (r:=r) g5 rfl (yN [_] [] 0xf81c050642c054 rfl hN) vnp.2 vy.2 cF (by have:=oL.length_eq;simp only[TB]at this;exact yN [_,_,_] [] 0xf20a52125081c1503e83c054 rfl hN Nh this) rz5 wz5 λn pn H6 g6 f6=>?_),λz=>Sw (n1.symm.trans z) (by decide)⟩)));refine qE (c:=R3 s5.rows.length) (tr:=j8) g6 rfl (c5.t.same rfl rfl rfl rfl rfl rfl) (yN [_] [] 0xf81c050642c054 rfl hN) (by show s5.aH.length<=big;rw[b5];unfold big;exact yN [_,_] [] 0xf10a50c82c150f42405c054 rfl bz hyd) vnp k1 (by rw[T5];exact k2) λkn ht ca H7 g7 t7 f7=>?_;have aeC:=gj.more (out:=out) (n:=n) (pw:=pn) m4 lk4 oo4 c5 BH w34 (by rw[ku];exact hyd) (by rw[ku];exact bz) rfl t7 ⟨epp,CB,tU,by rw[ku];exact FZ⟩ aeA ⟨ey,RF,hy2,rfl⟩ (λx=>BG.mem_iff.trans (oL.cons (-p)).mem_iff.symm) (by rw[qT];exact Ig) aeB;have nc:canon N (-p::y::r)∉s.rows.map (canon N):=λz=>by obtain⟨r',PU,hc⟩:=SL.mp z;have R':=m.r.r1 r' PU;refine aan (bh:=y::r) m.t w3 rfl ⟨epp,CB,tU,FZ⟩ (λx hx=>JG x ((Ew x).mp hx)) PU R' (canon_sub hc R'.var)
  have mu7:mu N (s5.rows++[-p::y::r]) (j8++[⟨-p,s5.aH.length,R3 s5.rows.length⟩])<mu N s.rows tr:=by
   have q1:=M0 nc;have q2:mh tr<=mh (j8++[⟨-p,s5.aH.length,R3 s5.rows.length⟩]):=by rw[ir,c5.mh t4];exact UN _ _
   unfold mu;rw[e1]at q2 ⊢;exact(UV _ _).elim (λbE=>yN [_,_,_,_,_,_,_] [] 0xf651b5043b650545020a5032b10ba54 rfl q1 q2 (li _ _) (i6 (yN [_,_] [] 64698191956 rfl bE))) (λbE=>yN [_,_,_,_] [] 0xf01c15020a5032b10ba54 rfl q1 (Of (yN [_,_] [] 64698191956 rfl bE)))
  refine last _ (j8++[(⟨-p,s5.aH.length,R3 s5.rows.length⟩:En)]) H7 _ _ _ g7 aeC ⟨?_,?_⟩ (c5.ref.trans BH) (c5.cl.trans acS) (c5.bl.trans acT) mu7 (λbU as=>(c5.as t4 (by rw[ku];exact as)).add λz=>Eh z) (((f4'.trans f5).dn.trans f6).trans f7.dn) rfl
  ·show(s5.rows++[-p::y::r]).length+mu N (s5.rows++[-p::y::r]) _<=B;have:s5.rows.length=s.rows.length:=e1▸rfl;refine bw▸?_;exact yN [_,_,_,_,_] [] 0xf305241a50243b50210ab54 rfl b1 mu7 this
  ·show s5.log.length+mu N (s5.rows++[-p::y::r]) _<=B;rw[c5.log,qT,bw];exact yN [_,_,_,_] [] 0xf31a50230b50210ab54 rfl b2 mu7
end
section
variable{s s':S}{E D:R4 (R4 Sj)}{h:SH}
theorem Ni {n:Sj}{v:V}(k:SH)(h1: -1000<=n)(h2:n<=1000)(q: ∀m ep,H ⟨k,m⟩=Sg->Q (.ref ⟨k,m⟩) ⟨l,aK H ⟨k,m⟩ (.dict [(n,v)] ep)⟩):zc (.int n) v ⟨l,H⟩ Q:=by
 unfold zc;have:=kQ (l:=l) (ds:=[(n,v)]) k q;unfold eg at this;exact⟨n,rfl,h1,h2,this⟩
theorem acU {x:V}(h:sq H x Sf vs)(hz:vs.length<=big)(q:mk vs.reverse ⟨l,H⟩ Q):Rk mk x ⟨l,H⟩ Q:=by
 unfold Rk;exact⟨vs,h l,hz,q⟩
theorem Ac {v:Sj}{more:R4 (Sj×V)}: ∀{kvs:R4 (Sj×V)},(v∈(kD kvs more).map (·.1)↔v∈kvs.map (·.1)\/v∈more.map (·.1)):=by
 induction more with
 |nil=>intro kvs;exact(or_iff_left Sy).symm
 |cons p r ih=>
  intro kvs;obtain⟨a,x⟩:=p;show v∈(kD (cY kvs a x) r).map (·.1)↔_;rw[ih];have:v∈(cY kvs a x).map (·.1)↔v∈kvs.map (·.1)\/v=a:=by
   have e:=gb (kvs:=kvs) (k:=a) (j:=v) (v:=x);have k1:=cW (kvs:=cY kvs a x) (k:=v);have k2:=cW (kvs:=kvs) (k:=v);by_cases q:v=a
   ·replace e:=(Sv q)▸e;exact⟨λO=>.inr q,λO=>Tk λz=>by replace e:=(k1.mpr z)▸e;cases e⟩
   ·replace e:=(Sq q)▸e;rw[e]at k1;exact⟨λz=>.inl (Tk λw=>k1.mp (k2.mpr w) z),λz=>z.elim (λz=>Tk λw=>k2.mp (k1.mpr w) z) λz=>Sw z q⟩
  rw[this,Tq,SZ,or_assoc]
theorem aao {a b:Ad}{more:R4 (Sj×V)}(h1:H a=R3 (.dict kvs ep))(h2:H b=R3 (.dict more ep'))(cF:a≠b)(q: ∀ep,Q .none ⟨l,aK H a (.dict (kD kvs more) ep)⟩):GU (.ref a) (.ref b) ⟨l,H⟩ Q:=by
 unfold GU;exact⟨a,kvs,ep,b,more,ep',rfl,rfl,h1,h2,cF,q⟩
theorem aap {c:Si SH}(q:Q (.bool c.isNone) J):dB (cv c) .none J Q:=by
 cases c with
 |none=>exact q
 |some n=>exact q
structure Ex (rows:R4 (R4 Sj))(tr:R4 En)(lit:Sj)(M found:R4 Sj)(k:SH):Prop where
 b1:Mk M lit
 b2: ∀i e,tr[i]? =R3 e->k<=i->Mk M e.l->e.h≠0->(e.c=Sg/\e.l∈found)\/∃n r,e.c=R3 n/\rows[n]? =R3 r/\∀x∈r,Mk M x
 b3: ∀y∈found,y=lit\/∃i e,tr[i]? =R3 e/\k<=i/\e.l=y/\e.c=Sg/\e.h≠0
 b4:(found.map Tl).Nodup
 b5:lit∈found
theorem Ex.rup {M:R4 Sj}(b:Ex rows tr lit M found 0)(t:dj N s tr)(R:rP N E rows)(C:i9 rows tr)(zAA:Zero E tr)(hl: -lit∈s.row):b7 E found:=by
 have key: ∀(n i:SH) (e:En),i<n->tr[i]? =R3 e->Mk M e.l->js E found e.l:=by
  intro n;induction n with
  |zero=>intro i e hi;exact Sw hi (VE _)
  |succ n ih=>
   intro i e hi he hm;by_cases h0:e.h=0;·exact(zAA e (R9 he) h0).mono (λO h=>h) λa ha=>Sw ha Sy
   rcases b.b2 i e he (S7 _) hm h0 with ⟨_,q⟩ |⟨k,r,h1,h2,h3⟩;·exact .bU q
   ·obtain⟨r',h4,h5,h6⟩:=C i e k he h1;replace h4:=h2▸h4;obtain rfl:=R7 h4;refine R.unit (R9 h2) h5 λx hx cF=>?_;obtain⟨j,e',h7,h8,h9⟩:=h6 x hx cF;refine h9▸?_;exact ih j e' (yN [_,_,_] [] 0xf20a501a2a5010a54 rfl hi h7) h8 (by rw[h9,Mk.neg];exact h3 x hx)
 rw[t.row]at hl;obtain⟨e,he,kh⟩:=bX.mp hl;obtain⟨i,hi⟩:=S5.mp he;have d:=key (i+1) i e (UF i) hi (by rw[kh,Mk.neg];exact b.b1);rw[kh]at d;exact .inr ⟨lit,.bU b.b5,d⟩
theorem Ex.skip {M:R4 Sj}{e:En}(b:Ex rows tr lit M found (k+1))(he:tr[k]? =R3 e)(h: ¬Mk M e.l\/e.h=0):Ex rows tr lit M found k where
 b1:=b.b1
 b2:=λi e' hi hk hm h0=>by
  rcases VG hk with z |z;·exact b.b2 i e' hi z hm h0
  ·subst z;replace hi:=he▸hi;obtain rfl:=R7 hi;exact h.elim (λz=>Sw hm z) λz=>Sw z h0
 b3:=λy hy=>(b.b3 y hy).imp_right λ⟨i,e,h1,h2,h3⟩=>⟨i,e,h1,yN [_,_] [] 0xf10a501054 rfl h2,h3⟩
 b4:=b.b4
 b5:=b.b5
theorem Ex.dec {M:R4 Sj}{e:En}(b:Ex rows tr lit M found (k+1))(t:dj N s tr)(he:tr[k]? =R3 e)(hc:e.c=Sg)(h0:e.h≠0)(hv:e.l.natAbs≠lit.natAbs):Ex rows tr lit M (found++[e.l]) k where
 b1:=b.b1
 b2:=λi e' hi hk hm h0=>by
  rcases VG hk with z |z;·exact(b.b2 i e' hi z hm h0).imp_left λq=>⟨q.1,Su _ q.2⟩
  ·subst z;replace hi:=he▸hi;obtain rfl:=R7 hi;exact .inl ⟨hc,SA _ Se⟩
 b3:=λy hy=>by
  rcases Sl.mp hy with q |q;·exact(b.b3 y q).imp_right λ⟨i,e,h1,h2,h3⟩=>⟨i,e,h1,yN [_,_] [] 0xf10a501054 rfl h2,h3⟩
  ·exact .inr ⟨k,e,he,S8 _,(R8.mp q).symm,hc,h0⟩
 b4:=by
  rw[SN];refine Tf.mpr ⟨b.b4,S6.mpr ⟨Sy,Tm⟩,λa ha c JD z=>?_⟩;obtain⟨y,hy,rfl⟩:=SL.mp ha;replace z:=(R8.mp JD)▸z;rcases b.b3 y hy with q |⟨i,e',h1,h2,h3,_⟩;·rw[q]at z;exact hv z.symm
  ·have:=(qS t h1 he (by rw[h3];exact z)).1;exact yF [_,_] [] 0xf015210a50 rfl h2 this
 b5:=Su _ b.b5
theorem Ex.cau {M M':R4 Sj}{e:En}(b:Ex rows tr lit M found (k+1))(t:dj N s tr)(C:i9 rows tr)(he:tr[k]? =R3 e)(hc:e.c=R3 n)(hr:rows[n]? =R3 r)(hM: ∀v,v∈M'↔v∈M\/v∈r.map λx=>(x.natAbs:Sj)):Ex rows tr lit M' found k where
 b1:=(hM _).mpr (.inl b.b1)
 b2:=λi e' hi hk hm h0=>by
  have up: ∀{x},Mk M x->Mk M' x:=λz=>(hM _).mpr (.inl z);rcases VG hk with z |z
  ·have vk:Mk M e'.l:=by
    rcases(hM _).mp hm with q |q;·exact q
    ·obtain⟨x,hx,ex⟩:=SL.mp q;have ex:x.natAbs=e'.l.natAbs:=T1.mp ex;obtain⟨r',h1,h2,h3⟩:=C k e n he hc;replace h1:=hr▸h1;obtain rfl:=R7 h1;by_cases w:x=e.l
     ·have:=(qS t hi he (by rw[<-ex,w])).1;exact yF [_,_] [] 0xf015210a50 rfl z this
     ·obtain⟨j,e2,h4,h5,h6⟩:=h3 x hx w;have:=(qS t hi h5 (by rw[h6,S4,ex])).1;exact yF [_,_,_] [] 0xf215202a5010a50 rfl z h4 this
   exact(b.b2 i e' hi z vk h0).imp_right λ⟨n,r,h1,h2,h3⟩=>⟨n,r,h1,h2,λx hx=>up (h3 x hx)⟩
  ·subst z;replace hi:=he▸hi;obtain rfl:=R7 hi;exact .inr ⟨n,r,hc,hr,λx hx=>(hM _).mpr (.inr (Tz hx))⟩
 b3:=λy hy=>(b.b3 y hy).imp_right λ⟨i,e,h1,h2,h3⟩=>⟨i,e,h1,yN [_,_] [] 0xf10a501054 rfl h2,h3⟩
 b4:=b.b4
 b5:=b.b5
end
section
variable{s s':S}{E D:R4 (R4 Sj)}{h:SH}
theorem Ii {a:Ad}(g:ao T N s H)(ha:a=⟨20,0⟩)(hN:N<=8)(t:dj N s tr)(R:rP N E s.rows)(C:i9 s.rows tr)(zAA:Zero E tr)(as:mn bU s.aH tr)(rz:s.rows.length<=10000)(lz:s.log.length<=10000)
  (hd:s.aH.length<bU.length) (Ae:bU[s.aH.length]? =R3 lit) (hn: -lit∈s.row) (av: ∀x∈bU,1<=x.natAbs/\x.natAbs<=N) (an:(bU.map Tl).Nodup)
  (fin: ∀found out H',ao T N ((s.RN found).wB (s.log++[out])) H'->(∀y∈found,y∈bU)->out.Perm (hZ found)->Cl N out->b7 E (hZ out)->bM 20 40 H H'->Q .none ⟨l,H'⟩):lX T [.ref a,.int lit] ⟨l,H⟩ Q:=by
 subst ha;have acV:lit∈bU:=R9 Ae;have vl:=av lit acV;have rl:=t.bV;have tl:=t.len;have OZ:=t.rz (yN [_] [] 0xf81c050642c054 rfl hN);unfold lX;refine bJ 5 rfl (aP (show 1<=1000000 by decide) (eh 10 λm' vk=>Ni 9 (yZ [_] [] 64758496597 rfl) (yZ [_,_] [] 0xf105081c1503e83c155 rfl hN vl.2) λm uZ hm=>aP (show 2<=1000000 by decide) (mY rfl (bj rfl rfl (bj rfl rfl ?_)))));have hm:H ⟨9,m⟩=Sg:=(ai rfl).symm.trans hm;have g0:=(g.tmp (k:=10) (n:=m') (so:=.list [.int lit]) rfl).tmp (k:=9) (n:=m) (so:=.dict [((lit.natAbs:Sj),V.bool Sn)] uZ) rfl;have f0:oM m m' H (aK (aK H ⟨10,m'⟩ (.list [.int lit])) ⟨9,m⟩ (.dict [((lit.natAbs:Sj),V.bool Sn)] uZ)):=(oM.refl.BE).aak;have JB:aK (aK H ⟨10,m'⟩ (.list [.int lit])) ⟨9,m⟩ (.dict [((lit.natAbs:Sj),V.bool Sn)] uZ) ⟨9,m⟩=R3 (.dict [((lit.natAbs:Sj),V.bool Sn)] uZ):=aw;have hb0:aK (aK H ⟨10,m'⟩ (.list [.int lit])) ⟨9,m⟩ (.dict [((lit.natAbs:Sj),V.bool Sn)] uZ) ⟨10,m'⟩=R3 (.list (bH [lit])):=(ai rfl).trans aw;generalize aK (aK H ⟨10,m'⟩ (.list [.int lit])) ⟨9,m⟩ (.dict [((lit.natAbs:Sj),V.bool Sn)] uZ)=H0 at g0 f0 JB hb0 ⊢;have frm: ∀{H'},oM m m' H H'->bM 20 40 H H':=λf b o e k=>f b o e k (λz=>by replace e:=hm▸z▸e;cases e) λz=>by replace e:=vk▸z▸e;cases e
 refine aG rfl g0.self g0.dict rfl trivial (acU (bq g0.row) (by rw[ag];exact OZ) ?_);have er:(bH s.row).reverse=bH s.row.reverse:=(List.map_reverse).symm;refine er▸?_;refine fm (S:=.seq Sf (bH s.row.reverse)) (f:=V.int) (c:=s.row.reverse) (λpre J=>X6 λ(w4:Si V) (w5:Si V) (H1:Hp) (kvs:R4 (Sj×V)) (ep:SH) (found:R4 Sj)=>C6 (J=⟨lo [sf,R3 (.int lit),R3 (.ref ⟨10,m'⟩),R3 (.ref ⟨9,m⟩),w4,w5,Sg],H1⟩) (ao T N s H1) (H1 ⟨9,m⟩=R3 (.dict kvs ep)) (H1 ⟨10,m'⟩=R3 (.list (bH found))) (Ex s.rows tr lit (kvs.map (·.1)) found (tr.length - pre.length)) (oM m m' H H1)) rfl (by show(bH s.row.reverse).length<=big;rw[ag,UI];exact OZ) (λO O O=>rfl)
  ⟨Sg,Sg,H0,_,uZ,[lit],rfl,g0,JB,hb0,⟨Se,λi e he hi=>?_,λy hy=>.inl (R8.mp hy),S6.mpr ⟨Sy,Tm⟩,Se⟩,f0⟩ ?_ ?_
 ·have:=(R6.mp he).1;have hi:tr.length - 0<=i:=hi;exact yF [_,_,_] [] 0xf01c2b150025010a50 rfl this hi (li _ _)
 ·rintro pre y gD J he ⟨w4,w5,H1,kvs,ep,found,rfl,g1,sZ,vd,b1,f1⟩ K hK;have acW:s.row=gD.reverse++y::pre.reverse:=by have:=SU List.reverse he;rw[List.reverse_reverse,List.reverse_append,Wk,TG]at this;exact this
  have hlen:tr.length=gD.length+pre.length+1:=by rw[<-rl,acW,Sr,UI,TB,UI];exact SK (yN [_,_] [] 0xf10ba1a0b54 rfl) (yN [_,_] [] 0xf1a0b10ba54 rfl)
  have hy:s.row[gD.length]? =R3 y:=by rw[acW,Ud (by rw[UI];exact S8 _),UI,XB];rfl
  obtain⟨e,oY,kh⟩: ∃e,tr[gD.length]? =R3 e/\e.l=y:=by rw[t.row]at hy;unfold lits at hy;rw[Sx]at hy;exact SR.mp hy
  subst kh;have DV:=R9 oY;have ve:=t.var e DV;have k1:tr.length - pre.length=gD.length+1:=SK (yN [_,_,_,_] [] 0xf230b5031ba2521a054 rfl hlen (i6 (yN [_,_,_] [] 0xf02ba1321054 rfl hlen))) (yN [_,_,_,_] [] 0xf31b25030ba23210a54 rfl hlen (li _ _));have k2:tr.length - (pre++[e.l]).length=gD.length:=by rw[Sr];exact SK (yN [_,_,_,_] [] 0xf23a0b5031ba2521054 rfl hlen (i6 (yN [_,_,_] [] 0xf02ba13210a54 rfl hlen))) (yN [_,_,_,_] [] 0xf3a1b25030ba2321054 rfl hlen (li _ _))
  replace b1:=k1▸b1;replace hK:=k2▸hK;obtain⟨fO,ep2,hd2,Ke⟩:=g1.ht;have K6:bC fO (e.l.natAbs:Sj)=R3 (.int (e.h:Sj)):=by rw[Ke];exact t.ht e DV
  obtain⟨cas,ep3,hd3,hv3⟩:=g1.ca;have cat:bC cas (e.l.natAbs:Sj)=R3 (cv e.c):=by rw[hv3];exact t.ca e DV
  have ncv:jI (cv e.c):=by cases e.c<;>trivial
  refine bj rfl rfl (bj rfl rfl (Bu sZ ⟨λe1=>aG rfl g1.self g1.dict rfl trivial (fJ hd2 K6 (rI ⟨λe2=>⟨λO=>?_,(λz=>gV z)⟩,λe2=>⟨(λz=>dq z),λO=>?_⟩⟩)),λe1=>⟨(λz=>dq z),λO=>?_⟩⟩))
  ·have h0:e.h≠0:=λz=>by replace e2:=z▸e2;cases e2
   refine aG rfl g1.self g1.dict rfl trivial (fJ hd3 cat (aap ⟨λe3=>?_,λe3=>?_⟩))
   ·have hc:e.c=Sg:=Vp.mp e3;have hh:e.h<=bU.length:=by have:=t.hb e DV;exact yN [_,_,_] [] 0xf205012a501054 rfl hd this
    have ha:=as.a1 e DV hc h0 hh;have hnv:e.l.natAbs≠lit.natAbs:=λz=>by
     have i1:(bU.map Tl)[e.h - 1]? =R3 e.l.natAbs:=by rw[Sx,ha];rfl
     have i2:(bU.map Tl)[s.aH.length]? =R3 lit.natAbs:=by rw[Sx,Ae];rfl
     have i3:=(UG (R6.mp i1).1 an).mp (i1.trans (by rw[z];exact i2.symm));have:=t.hb e DV;exact yF [_,_,_] [] 0xf20a5012501032 rfl i3 this (i6 (yN [_] [] 0xf001ca50011c54 rfl (uY (yN [_] [] 251665492 rfl) (TH h0))))
    have b2:=b1.dec t oY hc h0 hnv;have fz:found.length<=big:=by
     have:=de (N:=N) b1.b4 λy hy=>by
      rcases b1.b3 y hy with q |⟨i,e',h1,_,h3,_⟩;·exact q▸(vl)
      ·exact h3▸(t.var e' (R9 h1))
     unfold big;exact yN [_,_] [] 0xf105081c150f42405c054 rfl hN this
    refine fh vd (eK vd (by rw[ag];exact fz) (hK _ ⟨_,_,_,kvs,ep,found++[e.l],rfl,g1.tmp rfl,(ai rfl).trans sZ,by rw[dA];exact aw,b2,f1.BE⟩))
   ·obtain⟨n,hc⟩: ∃n,e.c=R3 n:=by
     cases z:e.c with
     |none=>replace e3:=z▸e3;cases e3
     |some n=>exact⟨n,rfl⟩
    obtain⟨r,hr,_⟩:=C _ e n oY hc;rw[hc]at cat;obtain⟨rn,hrn⟩: ∃rn,s.rl[n]? =R3 rn:=⟨_,SG (by rw[g1.bV];exact(R6.mp hr).1)⟩;have sz:(s.rl.map λn=>V.ref ⟨32,n⟩).length<=big:=by rw[Sa,g1.bV];unfold big;exact yN [_] [] 0xf27104c050f42405c054 rfl rz
    have ix:=g1.ix n rn r hrn hr;have Rr:=R.r1 r (R9 hr);have bV:=de Rr.nd Rr.var;refine lS sZ (aG rfl g1.self g1.dict rfl trivial (aG rfl g1.self g1.dict rfl trivial (fJ hd3 cat (bS (v:=.ref ⟨32,rn⟩) (bq g1.rows) sz (eX (by rw[Sx,hrn];rfl)) (aah (ks:=r) (λx=>(x.natAbs:Sj)) (λO=>.bool Sn) (fM ix) (by show(bH r).length<=big;rw[ag];unfold big;exact yN [_,_] [] 0xf105081c150f42405c054 rfl hN bV) rfl ?_ (λx hx=>?_) (kQ 11 λm3 ep4 hm3=>?_))))))
    ·have:=Rr.nd;rw[show(r.map λx=>(x.natAbs:Sj))=(r.map Tl).map Wb by rw[Tg];rfl];exact this.map _ λa b h z=>h (T1.mp z)
    ·have:=Rr.var x hx;exact⟨⟨yZ [_] [] 64758496597 rfl,yZ [_,_] [] 0xf105081c1503e83c155 rfl hN this.2⟩,(λQ q=>q),λQ q=>q⟩
    ·have x3:Xt H1 (aK H1 ⟨11,m3⟩ (.dict (r.map λx=>((x.natAbs:Sj),V.bool Sn)) ep4)):=Xt.new hm3;have h3:aK H1 ⟨11,m3⟩ (.dict (r.map λx=>((x.natAbs:Sj),V.bool Sn)) ep4) ⟨11,m3⟩=R3 (.dict (r.map λx=>((x.natAbs:Sj),V.bool Sn)) ep4):=aw;generalize aK H1 ⟨11,m3⟩ (.dict (r.map λx=>((x.natAbs:Sj),V.bool Sn)) ep4)=H3 at x3 h3 ⊢;refine aao (x3 _ _ sZ) h3 (λz=>Sw (SU Ad.k z) (by decide: ¬(9:SH)=11)) λep5=>hK _ ⟨_,_,_,_,ep5,found,rfl,(g1.xt x3).tmp rfl,aw,(ai rfl).trans (x3 _ _ vd),b1.cau t C oY hc hr λv=>?_,(λb o e k n1 n2=>(aO n1).trans (x3 b o (f1 b o e k n1 n2)))⟩;rw[Ac,Tg];exact Iff.rfl
  ·refine hK _ ⟨_,_,H1,kvs,ep,found,rfl,g1,sZ,vd,b1.skip oY (.inr ?_),f1⟩;have:=TF e2;exact SK (yN [_] [] 0xf101ca5501c054 rfl this) (yN [_] [] 251665492 rfl)
  ·refine hK _ ⟨_,_,H1,kvs,ep,found,rfl,g1,sZ,vd,b1.skip oY (.inl λz=>?_),f1⟩;replace e1:=(Aa.mpr z)▸e1;exact gV e1
 ·rintro J ⟨w4,w5,H1,kvs,ep,found,rfl,g1,sZ,vd,b1,f1⟩;rw[UI,rl,XB]at b1;have vf: ∀y∈found,y∈bU:=λy hy=>by
   rcases b1.b3 y hy with q |⟨i,e,h1,_,h3,h4,h5⟩;·rw[q];exact acV
   ·have DV:=R9 h1;have hh:e.h<=bU.length:=by have:=t.hb e DV;exact yN [_,_,_] [] 0xf205012a501054 rfl hd this
    have:=as.a1 e DV h4 h5 hh;rw[h3]at this;exact R9 this
  have fl:=de b1.b4 λy hy=>av y (vf y hy);have fz:(bH found).length<=big:=by rw[ag];unfold big;exact yN [_,_] [] 0xf105081c150f42405c054 rfl hN fl
  have cl:=b1.rup t R C zAA hn;refine Bx (bq vd) fz (g1.acD (b:=found) λH2 g2 f2=>?_);have uy:=f2 _ _ vd (.inl (R5 rfl));refine act (b:=Sf) (c:=found) (λO=>Sn) (λx=>.int (-x)) (fM uy) (by unfold big;exact yN [_,_] [] 0xf105081c150f42405c054 rfl hN fl) (λx hx=>⟨iI,λO Q q=>q⟩) ?_;have hf:found.filter (λO=>Sn)=found:=Uj.mpr λO O=>rfl;rw[hf,show found.map (λx=>V.int (-x))=bH (hZ found) by unfold bH hZ;rw[Tg];rfl];have nn:((hZ found).map Tl)=found.map Tl:=by unfold hZ;rw[Tg];exact TI λx O=>S4 x
  refine kX (N:=N) (b:=Sf) (c:=hZ found) (λO O O=>rfl) (yN [_] [] 0xf81c0503c2c054 rfl hN) (by rw[nn];exact b1.b4) (λy hy=>?_) (by unfold hZ;rw[Sa];exact yN [_,_] [] 0xf105081c1503c2c054 rfl hN fl) λout H3 hp ho x3=>bj rfl rfl ⟨λO=>?_,(λz=>gV z)⟩
  ·obtain⟨x,hx,rfl⟩:=SL.mp hy;rw[S4];exact av x (vf x hx)
  ·have g3:=g2.xt x3;refine aG rfl g3.self g3.dict rfl trivial (fh g3.log (g3.HE (by show s.log.length<=big;unfold big;exact yN [_] [] 0xf27104c050f42405c054 rfl lz) λH4 g4 f4=>fin found out H4 g4 vf hp ho ?_ (((frm f1).trans f2).trans (x3.frm.trans f4))));refine cl.mono (λO h=>h) λa ha=>.bU (SL.mpr ⟨-a,hp.mem_iff.mpr (Tz ha),T5 a⟩)
end
section
variable{s s':S}{E D:R4 (R4 Sj)}{h:SH}
theorem dj.uL (t:dj N s tr)(hs:s.seen=tr.length){nb:SH}:dj N (s.oB nb (s.aH++[tr.length])) tr where
 row:=t.row
 kn:=t.kn
 ht:=t.ht
 ca:=t.ca
 var:=t.var
 nd:=t.nd
 zx:=λi e j b hi hb=>by
  have hb:(s.aH++[tr.length])[j]? =R3 b:=hb;by_cases z:j<s.aH.length;·rw[SW z]at hb;exact t.zx i e j b hi hb
  ·have hj:=(R6.mp hb).1;replace hj:=Sr▸hj;have z:j=s.aH.length:=SK (Um hj) (T0.mp z);subst z;replace hb:=(TC)▸hb;obtain rfl:=R7 hb;exact⟨λO=>t.hb e (R9 hi),λO=>(R6.mp hi).1⟩
 bb:=λb hb=>by
  rcases Sl.mp hb with z |z;·exact t.bb b z
  ·exact(R8.mp z)▸(S8 _)
 hb:=λe he=>SJ (t.hb e he) (by show s.aH.length<=(s.aH++[tr.length]).length;rw[bw];exact UW _)
 seen:=t.seen
 zy:=λi e hi J2=>by have:=(R6.mp hi).1;have J2:s.seen<=i:=J2;exact yF [_,_,_] [] 0xf205012a501032 rfl hs this J2
theorem gj.uL (b:gj N D s tr)(hs:s.seen=tr.length){nb:SH}(hz:s.aH.length<200):gj N D (s.oB nb (s.aH++[tr.length])) tr:=
 ⟨b.t.uL hs,b.r,b.c,b.d.uL,b.z,b.w,b.l,b.rf,b.o,by show(s.aH++[tr.length]).length<=200;rw[bw];exact hz⟩
theorem gj.dec (b:gj N D s tr)(hb:s.aH.length≠0)(hl:s.aH[s.aH.length - 1]? =R3 tr.length)(t:dj N (s.sT kn ht ca (s.row++[x])) (tr++[⟨x,s.aH.length,Sg⟩])):gj N D (s.sT kn ht ca (s.row++[x])) (tr++[⟨x,s.aH.length,Sg⟩]) where
 t:=t
 r:=b.r
 c:=b.c.add λn z=>c6 z
 d:=b.d.add λO O=>hl
 z:=b.z.add λz=>Sw z hb
 w:=b.w
 l:=b.l
 rf:=b.rf
 o:=λe=>⟨(b.o e).1.DN λe he O=>Su _ he,(b.o e).2.DN λi e n hi=>⟨TN hi b.t.seen,hi⟩⟩
 bz:=b.bz
theorem mn.uL (a:mn bU aH tr)(h2: ∀x,bU[aH.length]? =R3 x->∃e∈tr,e.l=x/\e.h<=aH.length+1)(h3:aH.length<bU.length):mn bU (aH++[tr.length]) tr where
 a1:=a.a1
 a2:=λj x hx hj=>by
  rw[bw]at hj;by_cases z:j<aH.length;·exact a.a2 j x hx z
  ·have z:j=aH.length:=SK (Um hj) (T0.mp z);subst z;exact h2 x hx
 a3:=by rw[bw];exact yN [_,_,_] [] 0xf10a5021b0a54 rfl h3
 a4:=λj b hb=>by
  by_cases z:j<aH.length;·replace hb:=(SW z)▸hb;exact a.a4 j b hb
  ·have hj:=(R6.mp hb).1;rw[bw]at hj;have z:j=aH.length:=SK (Um hj) (T0.mp z);subst z;exact yN [_,_,_] [] 0xf10a5021b054 rfl h3
theorem mn.dec (a:mn bU aH tr)(h:bU[aH.length]? =R3 x\/bU.length<=aH.length):mn bU (aH++[tr.length]) (tr++[⟨x,aH.length+1,Sg⟩]) where
 a1:=λe he hc hh hl=>(Sl.mp he).elim (λz=>a.a1 e z hc hh hl) λz=>by rw[R8.mp z]at hl ⊢;have hl:aH.length+1<=bU.length:=hl;exact h.resolve_right λz=>yF [_,_] [] 0xf015010a50 rfl hl z
 a2:=λj y hy hj=>by
  rw[bw]at hj;by_cases z:j<aH.length
  ·obtain⟨e,h1,h2⟩:=a.a2 j y hy z;exact⟨e,Su _ h1,h2⟩
  ·have z:j=aH.length:=SK (Um hj) (T0.mp z);subst z;rcases h with h |h
   ·replace hy:=h▸hy;obtain rfl:=R7 hy;exact⟨_,SA _ Se,rfl,S8 _⟩
   ·have:=(R6.mp hy).1;exact yF [_,_] [] 0xf01a501050 rfl h this
 a3:=by rw[bw,bw];have:=a.a3;exact yN [_,_,_] [] 0xf21b0502a1b0a54 rfl this
 a4:=λj b hb=>by
  by_cases z:j<aH.length;·replace hb:=(SW z)▸hb;exact a.a4 j b hb
  ·have hj:=(R6.mp hb).1;rw[bw]at hj;have z:j=aH.length:=SK (Um hj) (T0.mp z);subst z;replace hb:=(TC)▸hb;obtain rfl:=R7 hb;exact a.a3
noncomputable def left (bU:R4 Sj)(N:SH)(s:S)(tr:R4 En):SH:=(bU.length - s.aH.length)+(N - tr.length)
theorem DX {a:Ad}(g:ao T N s H)(ha:a=⟨20,0⟩)(hN:N<=8)(b:gj N D s tr)(bd:Bd N s tr B)(hB:B<=5000)(hs:s.seen=tr.length)(as:mn bU s.aH tr)(av: ∀x∈bU,1<=x.natAbs/\x.natAbs<=N)(an:(bU.map Tl).Nodup)
  (M3: ∀found out H',ao T N ((s.RN found).wB (s.log++[out])) H'->(∀y∈found,y∈bU)->out.Perm (hZ found)->Cl N out->b7 (D++s.log) (hZ out)->bM 20 40 H H'->Q (.bool Sf) ⟨l,H'⟩)
  (aad:(∀v:Sj,1<=v->v<=N->v∈s.row\/-v∈s.row)->bU.length<=s.aH.length->Q (.bool Sn) ⟨l,H⟩)
  (fin: ∀s' cq H',ao T N s' H'->gj N D s' cq->Bd N s' cq B->s'.ref=s.ref->s'.clashes=s.clashes->s'.bQ=s.bQ->mn bU s'.aH cq->mu N s'.rows cq<=mu N s.rows tr->left bU N s' cq<left bU N s tr->bM 20 40 H H'->Q .none ⟨l,H'⟩):
  jv T [.ref a,.bF Sf (bH bU)] ⟨l,H⟩ Q:=by
 subst ha;have rV:=de an av;have tl:=b.t.len;have rl:=b.t.bV;have OZ:=b.t.rz (yN [_] [] 0xf81c050642c054 rfl hN);have bz:=as.a3;have bz1:(kq s.aH).length<=big:=by rw[cb];unfold big;exact yN [_,_,_,_] [] 0xf32b0501350125081c160f42405c054 rfl hN rV tl bz
 have az:(bH bU).length<=big:=by rw[ag];unfold big;exact yN [_,_] [] 0xf105081c150f42405c054 rfl hN rV
 have b1:=bd.rows;have b2:=bd.log;have tail: ∀(lit:Sj) (w2 w3:Si V),w2=R3 (.int lit)->(1<=lit.natAbs/\lit.natAbs<=N)->-lit∉s.row->(bU[s.aH.length]? =R3 lit\/bU.length<=s.aH.length/\lit∉s.row)->
   aq (lY T) (aq (md T) (ae (.ret .none))) ⟨lo [sf,R3 (.bF Sf (bH bU)),w2,w3],H⟩ (Ju l Q):=λlit w2 w3 hw vl hn hc=>by
  subst hw;refine aG rfl g.self g.dict rfl trivial (fh g.aH (aG rfl g.self g.dict rfl trivial (ci (bq g.row) (by rw[ag];exact OZ) ?_)));rw[ag,rl];refine g.acF (by unfold big;exact yN [_,_,_,_] [] 0xf32b0501350125081c160f42405c054 rfl hN rV tl bz) λH1 g1 f1=>?_;have B1:=b.uL (nb:=s.nb) hs (yN [_,_,_,_] [] 0xf32b0501350125081c160c82c0a54 rfl hN rV tl bz);refine cE g1.self g1.dict (gM g1 rfl B1.t (λhh=>yF [_] [_] 0xf01f1510151011c60 rfl vl.1 (jX (yZ [] [_] 0xf01c033001c55 rfl hh)) (my (yZ [] [_] 0xf01c05301c055 rfl hh))) (z0 ⟨λe=>?_,λe=>?_⟩))
  ·have hx:lit∉s.row:=(iO.mp (Vp.mp e)).1;have bl:(s.aH++[tr.length]).length=s.aH.length+1:=bw;refine cE g1.self g1.dict (qE (c:=Sg) g1 rfl B1.t (yN [_] [] 0xf81c050642c054 rfl hN) (by show(s.aH++[tr.length]).length<=big;rw[bl];unfold big;exact yN [_,_,_,_] [] 0xf32b0501350125081c160f42405c0a54 rfl hN rV tl bz) vl hx hn λkn ht ca H2 g2 t2 f2=>fin _ (tr++[(⟨lit,(s.aH++[tr.length]).length,Sg⟩:En)]) H2 g2 (B1.dec (by show(s.aH++[tr.length]).length≠0;rw[bl];exact XX _) (by show(s.aH++[tr.length])[(s.aH++[tr.length]).length - 1]? =_;rw[bl];exact TC) t2) ⟨?_,?_⟩ rfl rfl rfl ?_ ?_ ?_ (f1.trans f2))
   ·refine SJ ?_ b1;show s.rows.length+mu N s.rows _<=_;unfold mu;rw[ir];exact(UV _ _).elim (λbE=>yN [_,_,_,_,_,_,_] [] 0xf465b2b5053b45031b0b21b0b54 rfl (li _ _) (i6 (yN [_,_,_] [] 0xf210b50210b54 rfl bE))) (λbE=>yN [_,_,_,_] [] 0xf01c25031b0b21b0b54 rfl (Of (yN [_,_,_] [] 0xf21b05021b054 rfl bE)))
   ·refine SJ ?_ b2;show s.log.length+mu N s.rows _<=_;unfold mu;rw[ir];exact(UV _ _).elim (λbE=>yN [_,_,_,_,_,_,_] [] 0xf465b2b5053b45031b0b21b0b54 rfl (li _ _) (i6 (yN [_,_,_] [] 0xf210b50210b54 rfl bE))) (λbE=>yN [_,_,_,_] [] 0xf01c25031b0b21b0b54 rfl (Of (yN [_,_,_] [] 0xf21b05021b054 rfl bE)))
   ·rw[bl];exact as.dec (hc.imp_right λz=>z.1)
   ·show mu N s.rows _<=_;unfold mu;rw[ir];exact(UV _ _).elim (λbE=>yN [_,_,_,_,_,_] [] 0xf354b1b5042b35020b10b54 rfl (li _ _) (i6 (yN [_,_,_] [] 0xf210b50210b54 rfl bE))) (λbE=>yN [_,_,_] [] 0xf01c15020b10b54 rfl (Of (yN [_,_,_] [] 0xf21b05021b054 rfl bE)))
   ·have:=t2.len;rw[bw]at this;show(bU.length - (s.aH++[tr.length]).length)+(N - (tr++[(⟨lit,(s.aH++[tr.length]).length,Sg⟩:En)]).length)<(bU.length - s.aH.length)+(N - tr.length);rw[bl,bw];exact Nat.add_lt_add_of_le_of_lt (Nat.sub_le_sub_left (UW _) _) (Nat.sub_lt_sub_left this (UF _))
  ·have hx:lit∈s.row:=Tk λz=>by
    rw[show tv (S.row (s.oB s.nb (s.aH++[tr.length]))) lit=Sg from iO.mpr ⟨z,hn⟩]at e;exact gV e
   have hc:bU[s.aH.length]? =R3 lit:=hc.resolve_right λz=>z.2 hx;have hlt:=(R6.mp hc).1;refine fin _ tr H1 g1 B1 ⟨b1,b2⟩ rfl rfl rfl (as.uL (λx mD=>?_) hlt) (S8 _) ?_ f1
   ·replace mD:=hc▸mD;obtain rfl:=R7 mD;rw[b.t.row]at hx;obtain⟨e,he,q⟩:=bX.mp hx;exact⟨e,he,q,ZO (b.t.hb e he)⟩
   ·show(bU.length - (s.aH++[tr.length]).length)+(N - tr.length)<(bU.length - s.aH.length)+(N - tr.length);exact bw▸(yN [_,_,_,_,_] [] 0xf34a0b5042b35012b10ba54 rfl (li _ _) (i6 (yN [_,_] [] 0xf10a5010a54 rfl hlt)))
 unfold jv;refine bJ 2 rfl (aG rfl g.self g.dict rfl trivial (ci (bq g.aH) bz1 (ci ay az (Hi ⟨λe=>?_,λe=>?_⟩))))
 ·have e:s.aH.length<bU.length:=by have:=SB e;replace this:=ag▸cb▸this;exact VN.mp this
  obtain⟨lit,Ae⟩: ∃x,bU[s.aH.length]? =R3 x:=⟨_,SG e⟩;have vl:=av lit (R9 Ae);refine aG rfl g.self g.dict rfl trivial (ci (bq g.aH) bz1 ?_);refine cb▸?_;refine bS ay az (dD Ae) (bj rfl rfl (cE g.self g.dict (gM g rfl b.t (λhh=>yF [_] [_] 0xf01f1510151011c60 rfl vl.1 (jX (yZ [] [_] 0xf01c033001c55 rfl hh)) (my (yZ [] [_] 0xf01c05301c055 rfl hh))) (wQ ⟨λe2=>?_,λe2=>?_⟩))))
  ·have hn: -lit∈s.row:=(gw b.t.cons).mp (SB e2);exact cE g.self g.dict (Ii g rfl hN b.t b.r b.c b.z as (yN [_,_,_] [] 0xf120b5013884c15027104c054 rfl hB b1) (yN [_,_,_] [] 0xf120b5013884c15027104c054 rfl hB b2) e Ae hn av an M3)
  ·exact tail lit _ _ rfl vl (λz=>TF e2 ((gw b.t.cons).mpr z)) (.inl Ae)
 ·have e:bU.length<=s.aH.length:=by have:=TF e;replace this:=ag▸cb▸this;exact yN [_,_] [] 0xf13a551054 rfl this
  refine cE g.self g.dict (z8 g rfl (yN [_] [] 0xf81c050642c054 rfl hN) b.t λv hv=>bj rfl rfl (i7 ⟨λe2=>?_,λe2=>?_⟩))
  ·have e2:v=0:=eq_of_beq e2;refine aad (hv.elim (λz=>z.2) λz=>?_) e;have:=z.1;exact yF [] [_] 0xf011c5101c053 rfl e2 this.1
  ·obtain⟨v1,v2,v3⟩:=hv.resolve_left λz=>by replace e2:=z.1▸e2;cases e2
   obtain⟨kvs,ep,hd,hb⟩:=g.lk;refine aG rfl g.self g.dict rfl trivial (lS hd (Bs hd ?_));obtain⟨c,hc⟩: ∃c,(bC kvs v).getD (.bool Sf)=.bool c:=by
    cases z:bC kvs v with
    |none=>exact⟨Sf,rfl⟩
    |some x=>exact hb v x z
   refine hc▸?_;cases c;·exact⟨(λz=>dq z),λO=>bj rfl rfl (show aq (lY T) (aq (md T) (ae (.ret .none))) ⟨lo [sf,R3 (.bF Sf (bH bU)),R3 (.int (-v)),R3 (.int v)],H⟩ (Ju l Q) from tail (-v) _ _ rfl (by omega) (by rw[T5];exact v2) (.inr ⟨e,v3⟩))⟩
   ·exact⟨λO=>bj rfl rfl (show aq (lY T) (aq (md T) (ae (.ret .none))) ⟨lo [sf,R3 (.bF Sf (bH bU)),R3 (.int v),R3 (.int v)],H⟩ (Ju l Q) from tail v _ _ rfl (by omega) v3 (.inr ⟨e,v2⟩)),(λz=>gV z)⟩
end
section
variable{s s':S}{E D:R4 (R4 Sj)}{h:SH}
theorem acX {v x:V}{w1 w2 w3 w4 w5:Si V}{Q:Unit->St->Prop}(q:Q () ⟨lo [sf,w1,w2,w3,R3 x,R3 v,w6,w7],H⟩):iY [stI 5,stI 4] (.bF Sn [x,v]) ⟨lo [sf,w1,w2,w3,w4,w5,w6,w7],H⟩ Q:=by
 refine mY rfl (bj rfl rfl (bj rfl rfl q))
theorem Af {w1 w2 w3 w4:Si V}{span:Sj}{Q:Fl->St->Prop}(g:ao T N s H)(t:dj N s tr)(hN:N<=8)(bz:s.aH.length<=200)
  (q: ∀s' cq H',ao T N s' H'->Cut N s tr 0 s' cq->bM 20 40 H H'->Q .next ⟨lo [sf,w1,w2,w3,R3 (.int (s.clashes:Sj)),R3 (.int (span+span.fdiv 2)),w6,w7],H'⟩):
  i5 T ⟨lo [sf,w1,w2,w3,w4,R3 (.int span),w6,w7],H⟩ Q:=by
 refine aG rfl g.self g.dict rfl trivial (Br (n:=2) (m:=span) (show(2:Sj)≠0 by decide) (show(2:Sj).natAbs<1073741824 by decide) (cO ?_));refine aP (show 2<=1000000 by decide) (acX ?_);exact cE g.self g.dict (jy (h:=0) g rfl t (yN [_] [] 0xf81c050642c054 rfl hN) (SJ bz (show 200<=1000000 by decide)) λs' cq H' g' c f=>q s' cq H' g' c f)
end
section
variable{s s':S}{E D:R4 (R4 Sj)}{h:SH}
theorem gj.spr (b:gj N D s tr)(p:rj s tr s' cq)(m:rS N (D++s.log) s' cq s'.bL)(w:W3 s'.rows cq λi O O=>i<s'.seen):gj N D s' cq where
 t:=m.t
 r:=by rw[p.log];exact m.r
 c:=m.c
 d:=m.d
 z:=by rw[p.log];exact m.z
 w:=m.w
 l:=by rw[p.log];exact b.l
 rf:=by rw[p.ref,p.log];exact b.rf
 o:=by rw[p.ref];intro e;refine⟨((b.o e).1.perm p.rp).DN λe he O=>?_,w⟩;obtain⟨x,q⟩:=p.ext;exact q▸(Su _ he)
 bz:=by exact p.aH▸(b.bz)
theorem Nj {x:R4 En}:mh tr<=mh (tr++x):=by
 unfold mh;rw[Wa,Sr];exact UN _ _
theorem rj.mu (p:rj s tr s' cq):CK.mu N s'.rows cq<=CK.mu N s.rows tr:=by
 obtain⟨x,q⟩:=p.ext;have:=Nj (tr:=tr) (x:=x);unfold CK.mu;refine p.rp.xV▸q▸?_;exact(UV _ _).elim (λbE=>yN [_,_,_,_,_,_] [] 0xf541b5032b550435020b10b54 rfl this (li _ _) (i6 (yN [_,_] [] 64698191956 rfl bE))) (λbE=>yN [_,_,_] [] 0xf01c15020b10b54 rfl (Of (yN [_,_] [] 64698191956 rfl bE)))
theorem rj.rl (p:rj s tr s' cq):s'.rows.length=s.rows.length:=by
 have:=SU Vl (p.rp.canon (N:=0));simpa using this
theorem Bd.spr (b:Bd N s tr B)(p:rj s tr s' cq):Bd N s' cq B:=b.of p.mu (by rw[p.rl];exact S8 _) (by rw[p.log];exact S8 _)
theorem mn.zero (hb:s.aH=[])(h0: ∀e∈tr,e.h<=0):mn bU s.aH tr where
 a1:=λe he O hh=>Sw (Y5.mp (h0 e he)) hh
 a2:=λj x O hj=>by replace hj:=hb▸hj;cases hj
 a3:=by exact hb▸(S7 _)
 a4:=λj b hj=>by replace hj:=hb▸hj;cases hj
structure Sat (N:SH)(D:R4 (R4 Sj))(bU:R4 Sj)(s:S):Prop where
 all: ∀v:Sj,1<=v->v<=N->v∈s.row\/-v∈s.row
 dh: ∀c∈D,holds s.row c
 ah: ∀x∈bU,x∈s.row
def Uns (D:R4 (R4 Sj))(bU:R4 Sj)(s:S):Prop:=(∀x∈s.bQ,x∈bU)/\(s.bQ.map Tl).Nodup/\b7 (D++s.log) s.bQ
theorem gj.sat (b:gj N D s tr)(hr:s.ref=Sf)(hs:s.seen=tr.length)(as:mn bU s.aH tr)(ha:bU.length<=s.aH.length)(all: ∀v:Sj,1<=v->v<=N->v∈s.row\/-v∈s.row):Sat N D bU s where
 all:=all
 dh:=λc hc=>by
  obtain⟨oo,w3⟩:=b.o hr;rcases oo c hc with ⟨e,he,_,hl⟩ |⟨r,hr,J2⟩;·exact⟨e.l,hl,by rw[b.t.row];exact bX.mpr ⟨e,he,rfl⟩⟩
  ·have R:=b.r.r1 r hr;obtain⟨n,hn⟩:=S5.mp hr;cases r with
   |nil=>exact Sw R.two (W4 1)
   |cons x t=>
    cases t with
    |nil=>exact Sw R.two (W5 1)
    |cons y t=>
     have vx:=R.var x Se;have tx:x∈s.row\/-x∈s.row:=by
      by_cases z:0<x;·exact all x (yZ [] [_] 0xf001ca51011c55 rfl z) (yZ [_,_] [_] 0xf305101501055 rfl vx.2 Ts)
      ·have:=all (-x) (yZ [_] [_] 0xf01f151011c5001f11c55 rfl vx.1 (my (yZ [] [_] 0xf001ca5501c055 rfl z))) (yZ [_,_] [_] 0xf301f510150101f55 rfl vx.2 (sb _));rw[T5]at this;exact this.symm
     rcases tx with q |q;·exact⟨x,J2 x Se,q⟩
     ·rw[b.t.row]at q;obtain⟨e,he,kh⟩:=bX.mp q;obtain⟨i,hi⟩:=S5.mp he;obtain⟨e',h1,h2,_⟩:=w3 i e n _ hi (by show i<s.seen;rw[hs];exact(R6.mp hi).1) hn x y (.inl ⟨rfl,rfl⟩) kh;exact⟨y,J2 y (SQ _ Se),by rw[b.t.row];exact bX.mpr ⟨e',h1,h2⟩⟩
 ah:=λx hx=>by obtain⟨j,hj⟩:=S5.mp hx;obtain⟨e,h1,h2,_⟩:=as.a2 j x hj (TN (R6.mp hj).1 ha);exact b.t.row▸(bX.mpr ⟨e,h1,h2⟩)
theorem Uns.ref (h1:s.bQ=[])(h2:[]∈s.log):Uns D bU s:=⟨λx hx=>(by replace hx:=h1▸hx;cases hx),by rw[h1];exact Tm,.inl (SA _ h2)⟩
def mes (bU:R4 Sj)(N:SH)(s:S)(tr:R4 En)(eu:SH):SH:=mu N s.rows tr*1000+(if eu<s.clashes then 100 else 0)+left bU N s tr
theorem Ij {a:Ad}(g:ao T N s H)(ha:a=⟨20,0⟩)(hN:N<=8)(b:gj N D s tr)(bd:Bd N s tr B)(hB:B<=4000)(hA:Cl N bU)
  (fin: ∀r s' cq H',ao T N s' H'->gj N D s' cq->Bd N s' cq (B+1)->(r=Sn->Sat N D bU s')->(r=Sf->Uns D bU s')->bM 19 40 H H'->Q (.bool r) ⟨l,H'⟩):
  me T [.ref a,.bF Sf (bH bU)] ⟨l,H⟩ Q:=by
 subst ha;obtain⟨ms,hms⟩: ∃f,f=mes:=⟨_,rfl⟩;have hme: ∀s tr r,ms bU N s tr r=mu N s.rows tr*1000+(if r<s.clashes then 100 else 0)+left bU N s tr:=λs tr r=>by rw[hms];rfl
 clear hms;have an:=hA.OU;have av:=hA.var;have rV:=de an av;have az:bU.length<=big:=by unfold big;exact yN [_,_] [] 0xf105081c150f42405c054 rfl hN rV
 unfold me;refine bJ 6 rfl (cE g.self g.dict (jy (h:=0) g rfl b.t (yN [_] [] 0xf81c050642c054 rfl hN) (SJ b.bz (R5 rfl)) λs1 dR H1 g1 c1 f1=>aP (S7 _) (g1.acD (b:=[]) λH2 g2 f2=>?_)));have B1:=c1.big b;have d1:=c1.bd b.t bd;obtain⟨s2,lb⟩: ∃s2,s2=s1.RN []:=⟨_,rfl⟩;have B2:gj N D s2 dR:=by exact lb▸(⟨B1.t.same rfl rfl rfl rfl rfl rfl,B1.r,B1.c,B1.d,B1.z,B1.w,B1.l,B1.rf,B1.o,B1.bz⟩)
 have d2:Bd N s2 dR B:=by exact lb▸(⟨d1.rows,d1.log⟩)
 have aeD:s2.aH=[]:=by exact lb▸(c1.aH)
 have as2:mn bU s2.aH dR:=mn.zero aeD c1.low;have bl2:s2.bQ=[]:=SU _ lb;replace g2:=lb▸g2;clear lb B1 d1;obtain⟨kvs,ep,hd,_⟩:=g2.fO;refine th (b:=Sf) (c:=bU) (L:=λw=>[sf,R3 (.bF Sf (bH bU)),w,Sg,Sg,Sg,Sg,Sg]) g2 (λO=>rfl) az (λy hy w K hK=>bj rfl rfl hK) (λy hy K hK=>aG rfl g2.self g2.dict rfl trivial (lS hd ?_)) λw=>?_
 ·have v1:=av y hy;obtain⟨i,hi⟩:=g2.zY (v:=(y.natAbs:Sj)) (by lia) hd;exact ut hd (λv O=>hK) λz=>by replace z:=hi▸z;exact Eh z
 refine aG rfl g2.self g2.dict rfl trivial (aG rfl g2.self g2.dict rfl trivial (aP (show 4<=1000000 by decide) (s8 rfl (bj rfl rfl (bj rfl rfl (bj rfl rfl (bj rfl rfl ?_)))))));refine gL (λn J=>X8 λ(s3:S) (JI:R4 En) (H3:Hp) (w2:Si V) (w7:Si V) (eu:SH) (span:Sj) (told:Si Tn)=>C6 (J=⟨lo [sf,R3 (.bF Sf (bH bU)),w2,R3 (.int (s2.clashes:Sj)),R3 (.int (eu:Sj)),R3 (.int span),R3 (ov told),w7],H3⟩) (ao T N s3 H3) (gj N D s3 JI) (1<=span) (bM 19 40 H H3) ((told=Sg/\s3.ref=Sf/\Bd N s3 JI B/\s3.bQ=[]/\mn bU s3.aH JI/\n=ms bU N s3 JI eu+1)\/(n=0/\Bd N s3 JI (B+1)/\(told.isSome=Sn\/s3.ref=Sn)/\(told=R3 Sn->Sat N D bU s3)/\(told≠R3 Sn->Uns D bU s3))))
  (if s2.ref=Sn then 0 else ms bU N s2 dR s2.clashes+1) ⟨s2,dR,H2,w,Sg,s2.clashes,16,Sg,rfl,g2,B2,by decide,(f1.trans f2).dn,?_⟩ ?_
 ·by_cases q:s2.ref=Sn
  ·rw[Sv q];exact .inr ⟨rfl,d2.weak (UW _),.inr q,(λz=>nomatch z),λO=>⟨λx hx=>(by replace hx:=bl2▸hx;cases hx),by rw[bl2];exact Tm,.inl (SA _ (B2.rf q))⟩⟩
  ·rw[Sq q];exact .inl ⟨rfl,by simpa using q,d2,bl2,as2,rfl⟩
 rintro n J ⟨s3,JI,H3,w2,w7,eu,span,told,rfl,g3,B3,lg,f3,Nc⟩ K hK;rcases Nc with ⟨rfl,r3,d3,bl3,Lr,rfl⟩ |⟨rfl,d3,ex,q1,q2⟩
 ·refine⟨λO=>aG rfl g3.self g3.dict rfl trivial ?_,(λz=>gV z)⟩;rw[r3];refine⟨λO=>⟨λO=>?_,(λz=>gV z)⟩,(λz=>gV z)⟩;have l3:left bU N s3 JI<=16:=by unfold left;exact yN [_,_,_,_] [] 0xf21503050235081c260102c10b54 rfl hN rV (UH _ _) (UH _ _)
  have rz3:s3.rows.length<=10000:=by have:=d3.rows;exact yN [_,_,_] [] 0xf120b50fa03c15027104c054 rfl hB this
  have b3z:=B3.bz;refine cE g3.self g3.dict (DS (E:=D++s3.log) g3 rfl (yN [_] [] 0xf81c050642c054 rfl hN) (yN [_] [] 0xfc82c0503e83c054 rfl b3z) rz3 ⟨B3.t,B3.r,B3.c,B3.d,B3.z,B3.w⟩ (B3.o r3).2 (λs4 Nk H4 g4 m4 w4 se4 p4 f4=>?_) λnum s4 Nk H4 g4 m4 w4 lst p4 f4=>?_)
  ·have B4:=B3.spr p4 m4 w4;have d4:=d3.spr p4;have as4:mn bU s4.aH Nk:=Lr.ext p4.aH p4.ext p4.new;have mu4:=p4.mu (N:=N);have l4:left bU N s4 Nk<=left bU N s3 JI:=by obtain⟨x,q⟩:=p4.ext;unfold left;exact p4.aH▸q▸Sr▸((UV _ _).elim (λbE=>yN [_,_,_,_,_,_] [] 0xf354b1b5042b35020b10b54 rfl (li _ _) (i6 (yN [_,_,_] [] 0xf210b50210b54 rfl bE))) (λbE=>yN [_,_,_] [] 0xf01c15020b10b54 rfl (Of (yN [_,_,_] [] 0xf21b05021b054 rfl bE))))
   have cl4:=p4.cl;have r4:s4.ref=Sf:=p4.ref.trans r3;have bl4:s4.bQ=[]:=p4.bl.trans bl3;have f4':=f3.trans f4;clear p4 m4 w4 f4;refine bj rfl rfl (Mi ⟨(λz=>dq z),λO=>aG rfl g4.self g4.dict rfl trivial (Hi ⟨(λz=>dq z),λO=>⟨(λz=>dq z),λO=>?_⟩⟩)⟩);refine aG rfl g4.self g4.dict rfl trivial (nR (Mi ⟨λe=>?_,λe=>?_⟩))
   ·have hgt:eu<s4.clashes:=by have:=SB e;exact yN [_,_] [_] 0xf130f051011c5110a54 rfl lg this
    have sp':1<=span+span.fdiv 2:=by have:0<=span.fdiv 2:=Int.fdiv_nonneg (yZ [] [_] 0xf011c51001c55 rfl lg) (by decide);exact yZ [] [_,_] 0xf201c51011c5120b11c55 rfl lg this
    refine Af g4 B4.t hN B4.bz λs5 j8 H5 g5 c5 f5=>?_;refine hK (ms bU N s5 j8 s4.clashes+1) _ ?_ ⟨s5,j8,H5,_,_,s4.clashes,_,Sg,rfl,g5,c5.big B4,sp',f4'.trans f5.dn,.inl ⟨rfl,c5.ref.trans r4,c5.bd B4.t d4,c5.bl.trans bl4,c5.as B4.t as4,rfl⟩⟩;have e1:mu N s5.rows j8=mu N s4.rows Nk:=by unfold mu;rw[c5.rows,c5.mh B4.t]
    have e2:left bU N s5 j8<=16:=by unfold left;exact yN [_,_,_,_] [] 0xf21503050235081c260102c10b54 rfl hN rV (UH _ _) (UH _ _)
    simp only[hme];rw[e1,c5.cl,Sq (Uq _),Sv (by rw[<-cl4];exact hgt)];exact xN [_,_,_,_] [] (vS (vS (.add (.add (.mulR v0 1000) n0) v1))) (vS (.add (.add (.mulR v2 1000) (.num 100)) v3)) 1 (.c 0 1000 v0 v2 (.c 0 1 v1 (.num 16) .e)) rfl mu4 e2
   ·refine cE g4.self g4.dict (DX g4 rfl hN B4 d4 (yN [_] [] 0xffa03c05013884c054 rfl hB) se4 as4 av an (λfound out H5 g5 vf hp ho hc f5=>?_) (λall hlen=>?_) λs5 j8 H5 g5 B5 d5 r5 cl5 bl5 as5 mu5 l5 f5=>?_)
    ·refine bj rfl rfl (hK 0 _ (XF _ Wl) ⟨(s4.RN found).wB (s4.log++[out]),Nk,H5,_,_,eu,span,R3 Sf,rfl,g5,?_,lg,f4'.trans f5.dn,.inr ⟨rfl,?_,.inl rfl,(λz=>nomatch z),λO=>⟨vf,?_,?_⟩⟩⟩);·exact⟨B4.t.same rfl rfl rfl rfl rfl rfl,B4.r.mono λO=>eo,B4.c,B4.d,B4.z.mono λO=>eo,B4.w,⟨B4.l.rQ.snoc hc,λc JD=>(Sl.mp JD).elim (B4.l.cl c) λz=>by rw[R8.mp z];exact ho⟩,λz=>Sw (r4.symm.trans z) Xj,B4.o,B4.bz⟩
     ·exact d4.of (S8 _) (by show s4.rows.length+B<=s4.rows.length+(B+1);exact yN [_,_] [] 0xf1a0b10b54 rfl) (by show(s4.log++[out]).length+B<=s4.log.length+(B+1);rw[bw];exact yN [_,_] [] 0xf1a0b10ab54 rfl)
     ·have z:=(hp.map Tl).nodup_iff.mp ho.OU;have e:(hZ found).map Tl=found.map Tl:=by unfold hZ;rw[Tg];exact TI λx O=>S4 x
      rwa [e]at z
     ·refine hc.mono (λO=>eo) λx hx=>.bU ?_;obtain⟨y,hy,rfl⟩:=SL.mp hx;obtain⟨z,hz,rfl⟩:=SL.mp (hp.mem_iff.mp hy);rw[T5];exact hz
    ·refine bj rfl rfl (hK 0 _ (XF _ Wl) ⟨s4,Nk,H4,_,_,eu,span,R3 Sn,rfl,g4,B4,lg,f4',.inr ⟨rfl,d4.weak (UW _),.inl rfl,λO=>B4.sat r4 se4 as4 hlen all,λz=>Sw rfl z⟩⟩)
    ·refine bj rfl rfl (hK (ms bU N s5 j8 eu+1) _ ?_ ⟨s5,j8,H5,_,_,eu,span,Sg,rfl,g5,B5,lg,f4'.trans f5.dn,.inl ⟨rfl,r5.trans r4,d5,bl5.trans bl4,as5,rfl⟩⟩);simp only[hme];rw[cl5,cl4];exact xN [_,_,_,_,_,_,_] [] (vS (vS (.add (.add (.mulR v0 1000) v1) v2))) (vS (.add (.add (.mulR v3 1000) v1) v4)) 1 (.c 0 1000 v5 v3 (.c 0 1 v6 v4 (.c 0 1000 v0 v5 (.c 0 1 (vS v2) v6 .e)))) rfl mu4 l4 mu5 l5
  ·have e4:s4.log=s3.log:=p4.log;refine bj rfl rfl (Mi ⟨λO=>?_,λz=>Sw (TF z) (λhh=>yF [_] [] 252714069 rfl hh)⟩);have d4:=d3.spr p4;have as4:mn bU s4.aH Nk:=Lr.ext p4.aH p4.ext p4.new;have mu4:=p4.mu (N:=N);have r4:s4.ref=Sf:=p4.ref.trans r3;replace m4:=e4▸m4;have oo4:td D s4.rows Nk:=by obtain⟨x,q⟩:=p4.ext;exact((B3.o r3).1.perm p4.rp).DN λe he O=>by exact q▸(Su _ he)
   refine cE g4.self g4.dict (Ih g4 rfl hN m4 (by rw[e4];exact B3.l) oo4 r4 (by rw[p4.aH];exact lst) (by rw[p4.aH];exact w4) d4 (yN [_] [] 0xffa03c05013884c054 rfl hB) (by rw[p4.aH];exact b3z) (λs5 H5 g5 B5 d5 r5 cl5 bl5 f5=>?_) λs5 j8 H5 g5 B5 d5 r5 cl5 bl5 mu5 as5 f5=>?_);·exact hK 0 _ (XF _ Wl) ⟨s5,Nk,H5,_,_,eu,span,Sg,rfl,g5,B5,lg,f3.trans (f4.trans f5),.inr ⟨rfl,d5,.inr r5,(λz=>c6 z),λO=>Uns.ref (bl5.trans (p4.bl.trans bl3)) (B5.rf r5)⟩⟩
   ·refine hK (ms bU N s5 j8 eu+1) _ ?_ ⟨s5,j8,H5,_,_,eu,span,Sg,rfl,g5,B5,lg,f3.trans (f4.trans f5),.inl ⟨rfl,r5,d5,bl5.trans (p4.bl.trans bl3),as5 bU as4,rfl⟩⟩;have l5:left bU N s5 j8<=16:=by unfold left;exact yN [_,_,_,_] [] 0xf21503050235081c260102c10b54 rfl hN rV (UH _ _) (UH _ _)
    have c5:(if eu<s5.clashes then 100 else 0)<=100:=by split<;>lia
    simp only[hme];exact xN [_,_,_,_,_,_,_] [] (vS (vS (.add (.add (.mulR v0 1000) v1) v2))) (vS (.add (.add (.mulR v3 1000) v4) v5)) 1 (.c 0 1000 v6 v3 (.c 0 1000 (vS v0) v6 (.c 0 1 v2 (.num 16) (.c 0 1 v1 (.num 100) .e)))) rfl mu4 mu5 l5 c5
 ·have tst:told=Sg->s3.ref=Sn:=λz=>ex.elim (λy=>by replace y:=z▸y;cases y) id;have q:Q (.bool (Ul (told=R3 Sn))) ⟨l,H3⟩:=by refine fin _ s3 JI H3 g3 B3 d3 (λz=>q1 (SB z)) (λz=>q2 (TF z)) f3
  cases told with
  |none=>refine⟨λO=>aG rfl g3.self g3.dict rfl trivial ?_,(λz=>gV z)⟩;rw[tst rfl];exact⟨(λz=>dq z),λO=>⟨(λz=>dq z),λO=>wQ (o:=Sg) q⟩⟩
  |some b=>exact⟨(λz=>dq z),λO=>⟨(λz=>dq z),λO=>wQ (o:=R3 b) q⟩⟩
end
section
section
variable{L:R4 (Si V)}{a d:Ad}{kvs:R4 (SH×V)}{Q:Unit->St->Prop}
theorem mo {v:V}(h:kvs.any (λp=>decide (p.1=i))=Sf):cY kvs i v=kvs++[(i,v)]:=by unfold cY;rw[h];rfl
theorem Ik (hn:H ⟨k,n⟩=Sg)(hl:L[0]? =R3 (R3 (.ref a)))(h1:H a=R3 (.inst C d))(h2:H d=R3 (.bB kvs))(hk:(k==d.k)=Sf)(pD:a≠d)(hi:kvs.any (λp=>decide (p.1=i))=Sf)
  (q: ∀H',H' a=R3 (.inst C d)->H' d=R3 (.bB (kvs++[(i,.ref ⟨k,n⟩)]))->H' ⟨k,n⟩=R3 so->(∀b o,H b=R3 o->b≠d->H' b=R3 o)->Q () ⟨lo L,H'⟩):
  ac 0 ⟨lo L,aK H ⟨k,n⟩ so⟩ λx gS=>ce C i x (.ref ⟨k,n⟩) gS Q:=by
 have old: ∀b o,H b=R3 o->aK H ⟨k,n⟩ so b=R3 o:=λb o e=>(aO λz=>by replace e:=hn▸z▸e;cases e).trans e;refine lR hl (hY (old _ _ h1) (old _ _ h2) (q _ ((aO pD).trans (old _ _ h1)) (aw.trans ((mo hi)▸rfl)) ((jr λz=>by rw[show k=d.k from z,TV]at hk;exact gV hk).trans aw) λb o e hb=>(aO hb).trans (old _ _ e)))
theorem qU (k:SH)(hl:L[0]? =R3 (R3 (.ref a)))(h1:H a=R3 (.inst C d))(h2:H d=R3 (.bB kvs))(hk:(k==d.k)=Sf)(pD:a≠d)(hi:kvs.any (λp=>decide (p.1=i))=Sf)
  (q: ∀n H',H' a=R3 (.inst C d)->H' d=R3 (.bB (kvs++[(i,.ref ⟨k,n⟩)]))->H' ⟨k,n⟩=R3 so->(∀b o,H b=R3 o->b≠d->H' b=R3 o)->Q () ⟨lo L,H'⟩):
  pB so ⟨lo L,H⟩ λv bD=>ac 0 bD λx gS=>ce C i x v gS Q:=eh k λn hn=>Ik hn hl h1 h2 hk pD hi (q n)
theorem BI (k:SH)(hl:L[0]? =R3 (R3 (.ref a)))(h1:H a=R3 (.inst C d))(h2:H d=R3 (.bB kvs))(hk:(k==d.k)=Sf)(pD:a≠d)(hi:kvs.any (λp=>decide (p.1=i))=Sf)
  (q: ∀n ep H',H' a=R3 (.inst C d)->H' d=R3 (.bB (kvs++[(i,.ref ⟨k,n⟩)]))->H' ⟨k,n⟩=R3 (.dict [] ep)->(∀b o,H b=R3 o->b≠d->H' b=R3 o)->Q () ⟨lo L,H'⟩):
  eg [] ⟨lo L,H⟩ λv bD=>ac 0 bD λx gS=>ce C i x v gS Q:=kQ k λn ep hn=>Ik hn hl h1 h2 hk pD hi (q n ep)
theorem Il {v:V}(h1:H a=R3 (.inst C d))(h2:H d=R3 (.bB kvs))(pD:a≠d)(hi:kvs.any (λp=>decide (p.1=i))=Sf)
  (q: ∀H',H' a=R3 (.inst C d)->H' d=R3 (.bB (kvs++[(i,v)]))->(∀b o,H b=R3 o->b≠d->H' b=R3 o)->Q () ⟨l,H'⟩):
  ce C i (.ref a) v ⟨l,H⟩ Q:=hY h1 h2 (q _ ((aO pD).trans h1) (aw.trans (by rw[mo hi])) λb o e hb=>(aO hb).trans e)
end
variable{D:R4 (R4 Sj)}{A:R4 Sj}
theorem wR {x:V}{Q:Fl->St->Prop}(h:bo T u H)(hk:ia N [] u)(h0:u.tr=[])(hN:N<=100)(hD: ∀c∈D,Cl N c)(hz:D.length<=5000)(hx: ∀H',bM 40 60 H H'->sr H' x (.seq b (D.map tup)))
  (fin: ∀w u' H',bo T u' H'->ia N D u'->u'.tr=[]->u'.n=u.n->bM 40 60 H H'->Q .next ⟨lo [mw u',R3 x,w],H'⟩):wm T ⟨lo [mw u,R3 x,Sg],H⟩ Q:=by
 refine fm (S:=.seq b (D.map tup)) (f:=tup) (c:=D) (x:=x) (λpre J=>X3 λw u' H'=>C6 (J=⟨lo [mw u',R3 x,w],H'⟩) (bo T u' H') (ia N pre u') (u'.tr=[]) (u'.n=u.n) (bM 40 60 H H')) rfl
  (by show(D.map tup).length<=big;rw[Sa];exact SJ hz (R5 rfl)) ?_ ⟨Sg,u,H,rfl,h,hk,h0,rfl,.refl⟩ ?_ ?_
 ·rintro pre J ⟨w,u',H',rfl,_,_,_,_,f⟩;exact hx H' f _
 ·rintro pre c gD J he ⟨w,u1,H1,rfl,g,k,t0,un,f⟩ K hK;have u0:pre.length<5000:=by
   have:D.length=pre.length+(gD.length+1):=by rw[he,Sr];rfl
   exact yN [_,_,_] [] 0xf2a0b13213884c15013884c0a54 rfl hz this
  refine bj rfl rfl (cE g.self g.dict (Hw g rfl k t0 (hD c (mem_mid he)) hN u0 λu2 H2 g2 k2 t2 n2 f2=>hK _ ⟨R3 (tup c),u2,H2,by rw[show mw u2=mw u1 by unfold mw;rw[n2]];rfl,g2,k2,t2,n2.trans un,f.trans f2⟩))
 ·rintro J ⟨w,u',H',rfl,g,k,t,n,f⟩;exact fin w u' H' g k t n f
theorem Im {x:V}(hN:N<=100)(hD: ∀c∈D,Cl N c)(hz:D.length<=5000)(hx: ∀H',bM 40 60 H H'->sr H' x (.seq b (D.map tup)))
  (fin: ∀u' H',bo T u' H'->ia N D u'->u'.tr=[]->bM 40 60 H H'->Q (.ref ⟨40,u'.n 40⟩) ⟨l,H'⟩):jR T [x] ⟨l,H⟩ Q:=by
 unfold jR Lw sA;rintro⟨M,hM⟩;refine⟨⟨40,M⟩,⟨41,M⟩,λz=>(by cases z),hM _ (S8 _),hM _ (S8 _),?_⟩;show lQ T [.ref ⟨40,M⟩,x] ⟨l,aK (aK H ⟨41,M⟩ (.bB [])) ⟨40,M⟩ (.inst T.U ⟨41,M⟩)⟩ _;have f0:bM 40 60 H (aK (aK H ⟨41,M⟩ (.bB [])) ⟨40,M⟩ (.inst T.U ⟨41,M⟩)):=(bM.set rfl).trans (bM.set rfl);have a0:aK (aK H ⟨41,M⟩ (.bB [])) ⟨40,M⟩ (.inst T.U ⟨41,M⟩) ⟨40,M⟩=R3 (.inst T.U ⟨41,M⟩):=aw;have d0:aK (aK H ⟨41,M⟩ (.bB [])) ⟨40,M⟩ (.inst T.U ⟨41,M⟩) ⟨41,M⟩=R3 (.bB []):=(ai rfl).trans aw;generalize aK (aK H ⟨41,M⟩ (.bB [])) ⟨40,M⟩ (.inst T.U ⟨41,M⟩)=H0 at f0 a0 d0 ⊢;have nk: ∀{k n:SH},(k==41)=Sf->(⟨k,n⟩:Ad)≠⟨41,M⟩:=λ{k n} e z=>by replace e:=(show k=41 from SU Ad.k z)▸e;cases e
 have pD:(⟨40,M⟩:Ad)≠⟨41,M⟩:=nk rfl;have fr: ∀{H1 H2:Hp},(∀b o,H1 b=R3 o->b≠⟨41,M⟩->H2 b=R3 o)->bM 40 60 H1 H2:=λf b o e k=>f b o e λz=>by
  rw[z]at k;rcases k with k |k;·exact Sw (show 41<40 from k) (by decide)
  ·exact Sw (show 60<=41 from k) (by decide)
 unfold lQ;refine bJ 1 rfl (aP (S7 _) (qU 42 rfl a0 d0 rfl pD rfl λn2 H1 a1 d1 x2 e1=>BI 43 rfl a1 d1 rfl pD rfl λn3 ep3 H2 a2 d2 x3 e2=>aP (S7 _) (qU 45 rfl a2 d2 rfl pD rfl λn5 H3 a3 d3 x5 e3=>
  aP (S7 _) (qU 46 rfl a3 d3 rfl pD rfl λn6 H4 a4 d4 x6 e4=>aP (S7 _) (qU 47 rfl a4 d4 rfl pD rfl λn7 H5 a5 d5 x7 e5=>Il a5 d5 pD rfl λH6 a6 d6 e6=>BI 48 rfl a6 d6 rfl pD rfl λn8 ep8 H7 a7 d7 x8 e7=>
  aP (S7 _) (qU 49 rfl a7 d7 rfl pD rfl λn9 H8 a8 d8 x9 e8=>aP (show 2<=1000000 by decide) (Il a8 d8 pD rfl λH9 a9 d9 e9=>?_)))))))
 have s2: ∀b o,H1 b=R3 o->b≠⟨41,M⟩->H9 b=R3 o:=λb o e n=>e9 b o (e8 b o (e7 b o (e6 b o (e5 b o (e4 b o (e3 b o (e2 b o e n) n) n) n) n) n) n) n;have s5: ∀b o,H3 b=R3 o->b≠⟨41,M⟩->H9 b=R3 o:=λb o e n=>e9 b o (e8 b o (e7 b o (e6 b o (e5 b o (e4 b o e n) n) n) n) n) n;have s7: ∀b o,H5 b=R3 o->b≠⟨41,M⟩->H9 b=R3 o:=λb o e n=>e9 b o (e8 b o (e7 b o (e6 b o e n) n) n) n;have f9:bM 40 60 H H9:=f0.trans ((fr e1).trans (fr s2));obtain⟨u,hu⟩: ∃u:Us,u=⟨λk=>([M,M,n2,n3,0,n5,n6,n7,n8,n9][k - 40]?).getD 0,[],λO=>Sg,λO=>[],[],[],[],-1,λO=>Sf,[],.bF Sn [.int (-1),.int 0]⟩:=⟨_,rfl⟩;have g:bo T u H9:=by
  rw[hu];exact⟨a9,d9,s2 _ _ x2 (nk rfl),⟨⟨[],ep3,e9 _ _ (e8 _ _ (e7 _ _ (e6 _ _ (e5 _ _ (e4 _ _ (e3 _ _ x3 (nk rfl)) (nk rfl)) (nk rfl)) (nk rfl)) (nk rfl)) (nk rfl)) (nk rfl),λO=>rfl⟩,λO O z=>(nomatch z),λO O O z=>(c6 z),λO O=>rfl⟩,
   s5 _ _ x5 (nk rfl),e9 _ _ (e8 _ _ (e7 _ _ (e6 _ _ (e5 _ _ x6 (nk rfl)) (nk rfl)) (nk rfl)) (nk rfl)) (nk rfl),s7 _ _ x7 (nk rfl),⟨[],ep8,e9 _ _ (e8 _ _ x8 (nk rfl)) (nk rfl),λO=>rfl⟩,e9 _ _ x9 (nk rfl)⟩
 have k:ia N [] u:=by
  rw[hu];exact⟨rfl,λc hc=>Sw hc Sy,S7 _,λl i=>⟨λz=>Sw z Sy,λzq=>by obtain⟨c,z,_⟩:=zq;simp at z⟩,λO=>Tm,rfl,rfl,λx z=>Sw z Sy,λp z=>Sw z Sy,S8 _,
   ⟨λz=>Sw (show(0:Sj)<=-1 from z) (by decide),λz=>Sw z Sy⟩,λl=>(by simp)⟩
 have un:(⟨40,M⟩:Ad)=⟨40,u.n 40⟩:=by rw[hu];rfl
 refine un▸?_;refine wR g k (hu▸rfl) hN hD hz (λH' f=>hx H' (f9.trans f)) λw u' H' g' k' t' n' f'=>⟨rfl,?_⟩;refine n'▸?_;exact fin u' H' g' k' t' (f9.trans f')
end
section
structure vg (T:Tp)(H:Hp)(j:SH)(kvs:R4 (SH×V)):Prop where
 a:H ⟨20,0⟩=R3 (.inst T.S ⟨21,0⟩)
 d:H ⟨21,0⟩=R3 (.bB kvs)
 e: ∀b:Ad,j<=b.k->b.k<40->H b=Sg
 w: ∀b:Ad,b.k=19->H b=Sg
variable{s s':S}{E D:R4 (R4 Sj)}{h:SH}{L:R4 (Si V)}{kvs:R4 (SH×V)}{Q:Unit->St->Prop}
def Xd (H H':Hp):Prop:=∀b o,H b=R3 o->b≠⟨21,0⟩->H' b=R3 o
theorem Xd.trans (f:Xd H H')(g:Xd H' mU):Xd H mU:=λb o e n=>g b o (f b o e n) n
theorem Xd.frm (f:Xd H H'):bM 19 40 H H':=λb o e k=>f b o e λz=>by rw[z]at k;exact Sw k (by decide)
theorem Xd.at (f:Xd H H'){o:SO}(h:H ⟨k,n⟩=R3 o)(e:(k==21)=Sf):H' ⟨k,n⟩=R3 o:=f _ _ h λz=>by replace e:=(show k=21 from SU Ad.k z)▸e;cases e
theorem vg.set (g:vg T H j kvs)(hj:(Ul (22<=j) && decide (j<40))=Sn)(hl:L[0]? =R3 sf)(hi:kvs.any (λp=>decide (p.1=i))=Sf)
  (q: ∀H',vg T H' (j+1) (kvs++[(i,.ref ⟨j,0⟩)])->H' ⟨j,0⟩=R3 so->Xd H H'->Q () ⟨lo L,H'⟩):ac 0 ⟨lo L,aK H ⟨j,0⟩ so⟩ λx gS=>ce T.S i x (.ref ⟨j,0⟩) gS Q:=by
 have hj:=SV.mp hj;have h1:=SB hj.1;have h2:=SB hj.2;have ne: ∀{k n:SH},k≠j->(⟨k,n⟩:Ad)≠⟨j,0⟩:=λe z=>e (SU Ad.k z);have hn:=g.e ⟨j,0⟩ (S8 _) h2;have n20:(20:SH)≠j:=λhh=>yF [_] [] 0xf0142c320162c50 rfl h1 hh;have n21:(21:SH)≠j:=λhh=>yF [_] [] 0xf0152c320162c50 rfl h1 hh;refine lR hl (hY ((aO (ne n20)).trans g.a) ((aO (ne n21)).trans g.d) (q _ ⟨?_,?_,?_,?_⟩ ?_ ?_));·exact(aO λz=>by cases z).trans ((aO (ne n20)).trans g.a)
 ·exact aw.trans (by rw[mo hi])
 ·intro b hb JA;have e1:b≠⟨21,0⟩:=λz=>by rw[z]at hb;have:j+1<=21:=hb;exact yF [_] [] 0xf152c0a500162c50 rfl h1 this
  have e2:b≠⟨j,0⟩:=λz=>by rw[z]at hb;have:j+1<=j:=hb;exact yF [_] [] 15731280 rfl this
  exact(aO e1).trans ((aO e2).trans (g.e b (yN [_,_] [] 0xf10a501054 rfl hb) JA))
 ·intro b hb;have e1:b≠⟨21,0⟩:=λz=>by replace hb:=z▸hb;cases hb
  have e2:b≠⟨j,0⟩:=λz=>by rw[z]at hb;have:j=19:=hb;exact yF [_] [] 0xf132c0520162c50 rfl h1 this
  exact(aO e1).trans ((aO e2).trans (g.w b hb))
 ·exact(aO λz=>n21 (SU Ad.k z).symm).trans aw
 ·intro b o e n;exact(aO n).trans ((aO λz=>by replace e:=hn▸z▸e;cases e).trans e)
theorem vg.new (g:vg T H j kvs)(hj:(Ul (22<=j) && decide (j<40))=Sn)(hl:L[0]? =R3 sf)(hi:kvs.any (λp=>decide (p.1=i))=Sf)
  (q: ∀H',vg T H' (j+1) (kvs++[(i,.ref ⟨j,0⟩)])->H' ⟨j,0⟩=R3 so->Xd H H'->Q () ⟨lo L,H'⟩):pB so ⟨lo L,H⟩ λv bD=>ac 0 bD λx gS=>ce T.S i x v gS Q:=
 λO=>⟨⟨j,0⟩,g.e _ (S8 _) (SB (SV.mp hj).2),g.set hj hl hi q⟩
theorem vg.DY (g:vg T H j kvs)(hj:(Ul (22<=j) && decide (j<40))=Sn)(hl:L[0]? =R3 sf)(hi:kvs.any (λp=>decide (p.1=i))=Sf)
  (q: ∀ep H',vg T H' (j+1) (kvs++[(i,.ref ⟨j,0⟩)])->H' ⟨j,0⟩=R3 (.dict ds ep)->Xd H H'->Q () ⟨lo L,H'⟩):eg ds ⟨lo L,H⟩ λv bD=>ac 0 bD λx gS=>ce T.S i x v gS Q:=by
 unfold eg lF;exact λO=>⟨⟨j,0⟩,g.e _ (S8 _) (SB (SV.mp hj).2),λep=>g.set hj hl hi (q ep)⟩
theorem vg.val (g:vg T H j kvs){v:V}(hj:(Ul (22<=j))=Sn)(hi:kvs.any (λp=>decide (p.1=i))=Sf)
  (q: ∀H',vg T H' j (kvs++[(i,v)])->Xd H H'->Q () ⟨l,H'⟩):ce T.S i (.ref ⟨20,0⟩) v ⟨l,H⟩ Q:=by
 have h1:=SB hj;refine(hY g.a g.d (q _ ⟨(aO λz=>by cases z).trans g.a,aw.trans (by rw[mo hi]),?_,?_⟩ ?_))
 ·intro b hb JA;exact(aO λz=>by rw[z]at hb;have:j<=21:=hb;exact yF [_] [] 0xf152c0500162c50 rfl h1 this).trans (g.e b hb JA)
 ·intro b hb;exact(aO λz=>by replace hb:=z▸hb;cases hb).trans (g.w b hb)
 ·exact λb o e n=>(aO n).trans e
structure Vin (H:Hp):Prop where
 k: ∃ep,H ⟨22,0⟩=R3 (.dict [] ep)
 h: ∃ep,H ⟨23,0⟩=R3 (.dict [] ep)
 c: ∃ep,H ⟨24,0⟩=R3 (.dict [] ep)
 r:H ⟨25,0⟩=R3 (.list [])
 b:H ⟨26,0⟩=R3 (.list [])
 l: ∃ep,H ⟨27,0⟩=R3 (.dict [] ep)
theorem Vin.mono (v:Vin H)(f:Xd H H'):Vin H':=
 ⟨v.k.imp λO e=>f.at e rfl,v.h.imp λO e=>f.at e rfl,v.c.imp λO e=>f.at e rfl,f.at v.r rfl,f.at v.b rfl,v.l.imp λO e=>f.at e rfl⟩
noncomputable def vfl:R4 (SH×V):=[(9,.ref ⟨22,0⟩),(10,.ref ⟨23,0⟩),(11,.ref ⟨24,0⟩),(12,.ref ⟨25,0⟩),(13,.ref ⟨26,0⟩),(14,.int 0),(15,.ref ⟨27,0⟩)]
theorem Io {Q:V->St->Prop}(g:vg T H 22 [])(q: ∀H',vg T H' 28 vfl->Vin H'->Xd H H'->Q .none ⟨l,H'⟩):oZ T [.ref ⟨20,0⟩] ⟨l,H⟩ Q:=by
 unfold oZ;refine bJ 0 rfl (g.DY rfl rfl rfl λe1 H1 g1 x1 f1=>g1.DY rfl rfl rfl λe2 H2 g2 x2 f2=>g2.DY rfl rfl rfl λe3 H3 g3 x3 f3=>aP (S7 _) (g3.new rfl rfl rfl λH4 g4 x4 f4=>aP (S7 _) (g4.new rfl rfl rfl λH5 g5 x5 f5=>
  g5.val rfl rfl λH6 g6 f6=>g6.DY rfl rfl rfl λe7 H7 g7 x7 f7=>q H7 g7 ?_ ?_)))
 ·have s2:=f2.trans (f3.trans (f4.trans (f5.trans (f6.trans f7))));have s3:=f3.trans (f4.trans (f5.trans (f6.trans f7)));have s4:=f4.trans (f5.trans (f6.trans f7));have s5:=f5.trans (f6.trans f7);exact⟨⟨e1,s2.at x1 rfl⟩,⟨e2,s3.at x2 rfl⟩,⟨e3,s4.at x3 rfl⟩,s5.at x4 rfl,(f6.trans f7).at x5 rfl,⟨e7,x7⟩⟩
 ·exact f1.trans (f2.trans (f3.trans (f4.trans (f5.trans (f6.trans f7)))))
end
section
variable{s s':S}{E D:R4 (R4 Sj)}{h:SH}{L:R4 (Si V)}{kvs:R4 (SH×V)}
theorem vg.off (g:vg T H j kvs)(hk:(Ul (k<19))=Sn)(hj:(Ul (19<=j))=Sn):vg T (aK H ⟨k,n⟩ so) j kvs:=by
 have h1:=SB hk;have h2:=SB hj;have ne: ∀b:Ad,19<=b.k->b≠⟨k,n⟩:=λb hb z=>by rw[z]at hb;have:19<=k:=hb;exact yF [_] [] 0xf0132c50132c0a50 rfl h1 this
 exact⟨(aO (ne _ (R5 rfl))).trans g.a,(aO (ne _ (R5 rfl))).trans g.d,λb hb JA=>(aO (ne b (yN [_,_] [] 0xf01501132c500132c54 rfl h2 hb))).trans (g.e b hb JA),λb hb=>(aO (ne b (yN [_] [] 0xf132c0320132c54 rfl hb))).trans (g.w b hb)⟩
noncomputable def S0:S:=⟨0,0,λO=>Sg,λO=>Sg,λO=>Sg,[],[],0,[],[],λO=>Sg,λO=>[],1,[],Sf,[],0⟩
theorem S0.big:gj N [] S0 [] where
 t:=⟨rfl,λO O=>rfl,(λe h=>nomatch h),(λe h=>nomatch h),(λe h=>nomatch h),Tm,(λi e j b h O=>by simp at h),(λb h=>jY h),(λe h=>nomatch h),S8 _,(λi e h=>by simp at h)⟩
 r:=⟨(λr h=>jY h),(λr h=>jY h)⟩
 c:=λi e n h=>by simp at h
 d:=λi e h=>by simp at h
 z:=λe h=>nomatch h
 w:=⟨λw n=>⟨(λh=>jY h),λzq=>by obtain⟨r,h,_⟩:=zq;simp[S0]at h⟩,λO=>Tm⟩
 l:=⟨TK,(λc h=>jY h)⟩
 rf:=λh=>dq h
 o:=λO=>⟨(λc h=>jY h),λi e n r h=>by simp at h⟩
 bz:=S7 _
theorem S0.bd (hN:N<=4):Bd N S0 [] 260:=by
 have h:=Ty (N:=N) (rows:=[]);have h2:2 ^ (2*N)<=2 ^ 8:=Vq (by decide) (yN [_] [] 0xf41c06081c021e54 rfl hN);have h3:(2:SH) ^ 8=256:=rfl;have h4:mu N [] []<=260:=by unfold mu mh;simp only[Z1,WO];exact yN [_,_,_,_,_] [] 0xf21501003c4524350305041c2501043c10b54 rfl hN h h2 h3 (UH _ _)
 exact⟨by show 0+mu N [] []<=260;exact yN [_] [] 0xf1043c0501043c001cb54 rfl h4,by show 0+mu N [] []<=260;exact yN [_] [] 0xf1043c0501043c001cb54 rfl h4⟩
theorem wS {Q:Fl->St->Prop}{x2:Si V}(hN:N<=4)(hD: ∀c∈D,Cl N c)(hz:D.length<=1000)(g:ao T N S0 H)
  (q: ∀w s tr H',ao T N s H'->gj N D s tr->Bd N s tr (260+D.length)->bM 19 40 H H'->Q .next ⟨lo [sf,R3 (.bF Sf (D.map tup)),x2,w],H'⟩):
  wC T ⟨lo [sf,R3 (.bF Sf (D.map tup)),x2,Sg],H⟩ Q:=by
 refine fm (S:=.seq Sf (D.map tup)) (f:=tup) (c:=D) (x:=.bF Sf (D.map tup)) (λpre J=>X4 λw s tr H'=>C5 (J=⟨lo [sf,R3 (.bF Sf (D.map tup)),x2,w],H'⟩) (ao T N s H') (gj N pre s tr) (Bd N s tr (260+pre.length)) (bM 19 40 H H')) rfl
  (by show(D.map tup).length<=big;rw[Sa];exact SJ hz (R5 rfl)) (λO O O=>rfl) ⟨Sg,S0,[],H,rfl,g,S0.big,S0.bd hN,.refl⟩ ?_ ?_
 ·rintro pre c gD J he ⟨w,s1,dR,H1,rfl,g1,b1,d1,f1⟩ K hK;have u0:pre.length<1000:=by
   have:D.length=pre.length+(gD.length+1):=by rw[he,Sr];rfl
   exact yN [_,_,_] [] 0xf2a0b1323e83c1503e83c0a54 rfl hz this
  refine bj rfl rfl (cE g1.self g1.dict (kt g1 rfl b1 d1 (yN [_] [] 0xf41c05081c054 rfl hN) (yN [_] [] 0xf3e83c0a5013884c01043cb54 rfl u0) (hD c (mem_mid he)) λr s2 u6 H2 g2 b2 d2 O O f2=>hK _ ⟨R3 (tup c),s2,u6,H2,rfl,g2,b2,?_,f1.trans f2⟩));rw[bw];exact d2
 ·rintro J ⟨w,s1,dR,H1,rfl,g1,b1,d1,f1⟩;exact q w s1 dR H1 g1 b1 d1 f1
theorem mq:(Src.kH 1 ((N:Sj)+1)).items=bH (vars N):=by
 show(TL ((N:Sj)+1 - 1).toNat).map (λ(i:SH)=>V.int (1+(i:Sj)))=_;rw[show((N:Sj)+1 - 1).toNat=N by exact SK (yN [_,_] [] 0xf11c3a0f1531054 rfl (U3 (yZ [_] [] 0xf11c1a0f01c55 rfl))) (yN [_,_] [] 0xf311c1a0f511054 rfl (Uy _))];unfold bH vars;rw[Tg];exact TI λi O=>by show V.int _=V.int _;rw[Int.add_comm]
theorem DZ (hN:N<=4)(hD: ∀c∈D,Cl N c)(hz:D.length<=1000)(em: ∀b:Ad,19<=b.k->b.k<40->H b=Sg)
  (q: ∀s tr H',ao T N s H'->gj N D s tr->Bd N s tr (260+D.length)->bM 19 40 H H'->Q (.ref ⟨20,0⟩) ⟨l,H'⟩):
  ip T [.bF Sf (D.map tup),.int (N:Sj)] ⟨l,H⟩ Q:=by
 unfold ip Lw sA;intro _;refine⟨⟨20,0⟩,⟨21,0⟩,(λz=>by cases z),em _ (R5 rfl) (R5 rfl),em _ (R5 rfl) (R5 rfl),?_⟩;show jT T [.ref ⟨20,0⟩,.bF Sf (D.map tup),.int (N:Sj)] ⟨l,aK (aK H ⟨21,0⟩ (.bB [])) ⟨20,0⟩ (.inst T.S ⟨21,0⟩)⟩ _;have f0:bM 19 40 H (aK (aK H ⟨21,0⟩ (.bB [])) ⟨20,0⟩ (.inst T.S ⟨21,0⟩)):=(bM.set rfl).trans (bM.set rfl);have g0:vg T (aK (aK H ⟨21,0⟩ (.bB [])) ⟨20,0⟩ (.inst T.S ⟨21,0⟩)) 22 []:=by
  refine⟨aw,(ai rfl).trans aw,λb hb JA=>?_,λb hb=>?_⟩;·exact(aO λz=>by rw[z]at hb;exact Sw hb (by decide)).trans ((aO λz=>by rw[z]at hb;exact Sw hb (by decide)).trans (em b (yN [_] [] 0xf0162c500132c54 rfl hb) JA))
  ·exact(aO λz=>by rw[z]at hb;exact Sw hb (by decide)).trans ((aO λz=>by rw[z]at hb;exact Sw hb (by decide)).trans (em b (yN [_] [] 0xf132c0320132c54 rfl hb) (yN [_] [] 0xf132c052282c0a54 rfl hb)))
 generalize aK (aK H ⟨21,0⟩ (.bB [])) ⟨20,0⟩ (.inst T.S ⟨21,0⟩)=H0 at f0 g0 ⊢;unfold jT;refine bJ 1 rfl (cE g0.a g0.d (Io g0 λH1 g1 v1 f1=>aP (S7 _) (g1.new rfl rfl rfl λH2 g2 x2 f2=>g2.DY rfl rfl rfl λe3 H3 g3 x3 f3=>cO (uM (eh 7 λn hn=>?_)))));refine aah (ks:=vars N) (λu=>u) (λO=>.int 0) (kR aw) ⟨by decide,by decide,by lia,by lia⟩ mq (by rw[Xw];exact BD) (λu hu=>?_) ?_
 ·have:=iQ hu;exact⟨⟨yZ [] [_] 0xf011c5103e83d55 rfl this.1,by lia⟩,(λQ q=>q),λQ q=>q⟩
 have fr:bM 19 40 H3 (aK H3 ⟨7,n⟩ (.range 1 ((N:Sj)+1))):=bM.new hn;have xr: ∀{k m:SH} {o:SO},(k==7)=Sf->H3 ⟨k,m⟩=R3 o->aK H3 ⟨7,n⟩ (.range 1 ((N:Sj)+1)) ⟨k,m⟩=R3 o:=λe h=>(ai e).trans h;have g3':=g3.off (k:=7) (n:=n) (so:=.range 1 ((N:Sj)+1)) rfl rfl;have v3:Vin (aK H3 ⟨7,n⟩ (.range 1 ((N:Sj)+1))):=by have v:=(v1.mono f2).mono f3;exact⟨v.k.imp λO=>xr rfl,v.h.imp λO=>xr rfl,v.c.imp λO=>xr rfl,xr rfl v.r,xr rfl v.b,v.l.imp λO=>xr rfl⟩
 have y2:=xr rfl (f3.at x2 rfl);have y3:=xr rfl x3;have fr:=(f1.trans (f2.trans f3)).frm.trans fr;generalize aK H3 ⟨7,n⟩ (.range 1 ((N:Sj)+1))=H4 at*;refine g3'.DY rfl rfl rfl λe5 H5 g5 x5 f5=>g5.val rfl rfl λH6 g6 f6=>aP (S7 _) (g6.new rfl rfl rfl λH7 g7 x7 f7=>g7.val rfl rfl λH8 g8 f8=>aP (S7 _) (g8.val rfl rfl λH9 g9 f9=>g9.val rfl rfl λH10 g10 f10=>g10.val rfl rfl λH11 g11 f11=>?_));have s7:Xd H7 H11:=f8.trans (f9.trans (f10.trans f11));have s5:Xd H5 H11:=f6.trans (f7.trans s7);have s4:Xd H4 H11:=f5.trans s5;have v:=v3.mono s4;have G:ao T N S0 H11:=by
  refine⟨g11.a,g11.d,?_,?_,?_,v.r,v.b,?_,s4.at y2 rfl,(λi n r h O=>by simp[S0]at h),Tm,rfl,⟨⟨[],e3,s4.at y3 rfl,λO=>rfl⟩,(λO O z=>nomatch z),(λO O O z=>nomatch z),λO O=>rfl⟩,⟨_,e5,s5.at x5 rfl,?_,?_⟩,s7.at x7 rfl⟩;·exact v.k.elim λe h=>⟨[],e,h,λO=>rfl⟩
  ·exact v.h.elim λe h=>⟨[],e,h,λO=>rfl⟩
  ·exact v.c.elim λe h=>⟨[],e,h,λO=>rfl⟩
  ·exact v.l.elim λe h=>⟨[],e,h,λO O z=>c6 z⟩
  ·rw[Tg];exact Xw _
  ·intro p hp;obtain⟨u,_,rfl⟩:=SL.mp hp;exact⟨0,rfl⟩
 refine wS hN hD hz G λw s tr H' g b d f=>⟨rfl,q s tr H' g b d (f0.trans (fr.trans (s4.frm.trans f)))⟩
end
def Ip (T:Tp):WM Fl:=Z (ac 0) λx0=>Z (eJ bf x0 (.int 60)) λx1=>Z (oA [("cell",Sg)] (ae Sn) (Z (ac 0) λx2=>Z (jl x2) λx3=>GV x3 (.int 1000003)) x1) λl2=>Z (bf l2) λx3=>Z (GW [(25,x3),(26,(.int 0))]) λx4=>ae (.ret x4)
@[irreducible] def jA (T:Tp):R4 V->WM V:=cG 1 (Ip T)
def aaq (T:Tp):WM Fl:=Z (ac 0) λx0=>Z (Bp 25 x0) λx1=>Z (ac 0) λx2=>Z (Bp 26 x2) λx3=>Z (aR cR [x1,x3]) λx4=>Z (iY [stI 3,stI 2] x4) bP
def aar (T:Tp):WM Fl:=Z (ac 3) λx0=>Z (bY bf x0 (.int 1)) λx1=>Z (ac 0) λx2=>Z (GX 26 x2 x1) bP
def aas (T:Tp):WM Fl:=Z (ac 3) λx0=>Z (ac 2) λx1=>Z (cZ x1) λx2=>Z (Rj (.int 1) x2) λx3=>Z (Db x0 x3) λx4=>Z (stI 4 x4) bP
def aat (T:Tp):WM Fl:=Z (bK (Z (ac 2) λx0=>Z (aR bf []) λx1=>Z (ug x0 x1) aj) (Z (ac 2) λx0=>Z (ac 3) λx1=>Z (ac 2) λx2=>Z (cZ x2) λx3=>Z (GV x1 x3) λx4=>bT x0 x4) (ae (.int 5))) λx0=>Z (ac 4) λx1=>Z (ac 3) λx2=>Z (bY bf x2 (.int 7)) λx3=>Z (Ri x1 x3) λx4=>Z (bY bf x0 x4) λx5=>Z (ac 1) λx6=>Z (GV x5 x6) λx7=>ae (.ret x7)
def aau (T:Tp):WM Fl:=aq (aaq T) (aq (aar T) (aq (aas T) (aat T)))
@[irreducible] def eA (T:Tp):R4 V->WM V:=cG 2 (aau T)
def Iq (T:Tp):WM Fl:=Z (ac 1) λx0=>Z (bY bf x0 (.int 1)) λx1=>Z (sV (.int 1) x1) λx2=>Z (listI eR x2) λx3=>Z (aR eR []) λx4=>Z (aR cR [x3,x4]) λx5=>Z (iY [stI 4,stI 3] x5) bP
def Ag (T:Tp):WM Fl:=Z (ac 3) λx0=>gJ "list" x0<|Z (ac 0) λx1=>Z (ac 3) λx2=>Z (cZ x2) λx3=>Z (eA T [x1,x3]) λx4=>Z (y9 x0 x4) λx5=>Z (stI 6 x5) bP
def Ah (T:Tp):WM Fl:=Z (ac 4) λx0=>gJ "list" x0<|Z (bK (Z (ac 0) λx1=>Z (eA T [x1,(.int 2)]) λx2=>Z (iA x2 (.int 0)) aj) (ac 6) (Z (ac 6) λx1=>fS x1)) λx1=>Z (dc x0 x1) λx2=>ae .next
def qV (T:Tp):WM Fl:=aq (Ag T) (Ah T)
def Ir (T:Tp):WM Fl:=Z (ac 2) λx0=>Z (ac 0) λx1=>Z (eA T [x1,(.int 3)]) λx2=>Z (bY bf x0 x2) λx3=>Z (sU x3) λx4=>dQ (stI 5) (qV T) x4
def Iu (T:Tp):WM Fl:=Z (ac 4) λx0=>Z (sortI bf x0) λx1=>Z (tupI x1) λx2=>ae (.ret x2)
def Iv (T:Tp):WM Fl:=aq (Iq T) (aq (Ir T) (Iu T))
@[irreducible] def gz (T:Tp):R4 V->WM V:=cG 3 (Iv T)
def aav (T:Tp):WM Fl:=Z (aR bf []) λx0=>Z (aR bf [x0]) λx1=>Z (stI 1 x1) bP
def Iw (T:Tp):WM Fl:=Z (ac 1) λx0=>Z (GY [("row",Sg),("lit",Sg),("v",R3 2)] (Z (ac 2) λx1=>Z (ac 2) λx2=>Z (fS x2) λx3=>aR cR [x1,x3]) (Z (ac 0) λx1=>Z (ac 1) λx2=>Z (aR bf [x2]) λx3=>bY bf x1 x3) x0) λl=>Z (bf l) λv=>Z (stI 1 v) bP
def aaw (T:Tp):WM Fl:=Z (ac 0) λx0=>Z (bY bf x0 (.int 1)) λx1=>Z (sV (.int 1) x1) λx2=>dQ (stI 2) (Iw T) x2
def aax (T:Tp):WM Fl:=Z (ac 1) λx0=>ae (.ret x0)
def aay (T:Tp):WM Fl:=aq (aav T) (aq (aaw T) (aax T))
@[irreducible] def qW (T:Tp):R4 V->WM V:=cG 1 (aay T)
def Ix (T:Tp):WM Fl:=Z (aR eR []) λx0=>Z (stI 2 x0) bP
def uQ (T:Tp):WM Fl:=Z (ac 2) λx0=>gJ "list" x0<|Z (ac 3) λx1=>Z (dc x0 x1) λx2=>ae .next
def Ai (T:Tp):WM Fl:=bK (Z (ac 1) λx0=>Z (oA [("clause",Sg),("row",R3 3)] (Z (ac 0) λx1=>Z (oA [("lit",Sg),("row",R3 1)] (Z (ac 0) λx2=>Z (ac 1) λx3=>Z (xU x2 x3) aj) (ac 0) x1) λl2=>Z (bf l2) λx3=>Z (aR bf []) λx4=>Z (iA x3 x4) aj) (ac 0) x0) λl1=>Z (bf l1) λx2=>Z (aR bf []) λx3=>Z (iA x2 x3) aj) (uQ T) (ae .next)
def Iy (T:Tp):WM Fl:=Z (ac 0) λx0=>dQ (stI 3) (Ai T) x0
def Iz (T:Tp):WM Fl:=Z (ac 2) λx0=>ae (.ret x0)
def IA (T:Tp):WM Fl:=aq (Ix T) (aq (Iy T) (Iz T))
@[irreducible] def fA (T:Tp):R4 V->WM V:=cG 2 (IA T)
def D0 (T:Tp):WM Fl:=Z (eg []) λx0=>Z (aR cR [x0,(.bool Sn)]) λx1=>Z (we [stI 2,stI 3] x1) bP
def wT (T:Tp):WM Fl:=Z (ac 2) λx0=>Z (ac 4) λx1=>Z (dg x0 x1 (.bool Sn)) bP
def D2 (T:Tp):WM Fl:=Z (ac 1) λx0=>dQ (stI 4) (wT T) x0
def wU (T:Tp):WM Fl:=Z (stI 3 (.bool Sf)) bP
def rW (T:Tp):WM Fl:=bK (Z (ac 5) λx0=>Z (oA [("lit",Sg),("held",R3 2)] (Z (ac 0) λx1=>Z (ac 1) λx2=>Z (xU x1 x2) aj) (ac 0) x0) λl1=>Z (bf l1) λx2=>Z (aR bf []) λx3=>Z (ug x2 x3) aj) (ae .cont) (ae .next)
def rX (T:Tp):WM Fl:=Z (ac 5) λx0=>Z (oA [("lit",Sg),("held",R3 2)] (Z (ac 0) λx1=>Z (fS x1) λx2=>Z (ac 1) λx3=>Z (lP x2 x3) aj) (ac 0) x0) λl1=>Z (bf l1) λx2=>Z (stI 6 x2) bP
def rY (T:Tp):WM Fl:=bK (Z (ac 6) λx0=>Z (aR bf []) λx1=>Z (iA x0 x1) aj) (ae (.ret (.bool Sn))) (ae .next)
def oN (T:Tp):WM Fl:=Z (ac 2) λx0=>Z (ac 6) λx1=>Z (bT x1 (.int 0)) λx2=>Z (dg x0 x2 (.bool Sn)) bP
def oO (T:Tp):WM Fl:=Z (stI 3 (.bool Sn)) bP
def oP (T:Tp):WM Fl:=aq (oN T) (oO T)
def rZ (T:Tp):WM Fl:=bK (Z (ac 6) λx0=>Z (cZ x0) λx1=>Z (iA x1 (.int 1)) aj) (oP T) (ae .next)
def ky (T:Tp):WM Fl:=aq (rW T) (aq (rX T) (aq (rY T) (rZ T)))
def wV (T:Tp):WM Fl:=Z (ac 0) λx0=>dQ (stI 5) (ky T) x0
def wW (T:Tp):WM Fl:=aq (wU T) (wV T)
def D3 (T:Tp):WM Fl:=gT (Z (ac 3) λx0=>aj x0) (wW T)
def D4 (T:Tp):WM Fl:=Z (ac 2) λx0=>Z (oA [("lit",Sg),("held",R3 2)] (Z (ac 0) λx1=>Z (fS x1) λx2=>Z (ac 1) λx3=>Z (xU x2 x3) aj) (ac 0) x0) λl1=>Z (bf l1) λx2=>Z (aR bf []) λx3=>Z (ug x2 x3) λx4=>ae (.ret x4)
def D5 (T:Tp):WM Fl:=aq (D0 T) (aq (D2 T) (aq (D3 T) (D4 T)))
@[irreducible] def iu (T:Tp):R4 V->WM V:=cG 2 (D5 T)
def Nm (T:Tp):WM Fl:=Z (ac 1) λx0=>Z (listI bf x0) λx1=>Z (ac 2) λx2=>Z (aR bf [x2]) λx3=>Z (bY bf x1 x3) λx4=>Z (stI 3 x4) bP
def wX (T:Tp):WM Fl:=Z (ac 4) λx0=>ae (.ret x0)
def D6 (T:Tp):WM Fl:=bK (ka (Z (ac 0) λx0=>Z (listI bf x0) λx1=>Z (ac 3) λx2=>Z (ac 4) λx3=>Z (eJ bf x2 x3) λx4=>Z (bY bf x1 x4) λx5=>Z (ac 3) λx6=>Z (ac 4) λx7=>Z (bT x6 x7) λx8=>Z (oA [("lit",Sg)] (ae Sn) (Z (ac 0) λx9=>fS x9) x8) λl9=>Z (bf l9) λHN=>Z (iu T [x5,HN]) λHO=>aj HO)) (wX T) (ae .next)
def Nn (T:Tp):WM Fl:=Z (ac 3) λx0=>Z (cZ x0) λx1=>Z (sU x1) λx2=>dQ (stI 4) (D6 T) x2
def Np (T:Tp):WM Fl:=aq (Nm T) (aq (Nn T) (ae (.ret (.int (-1)))))
@[irreducible] def gO (T:Tp):R4 V->WM V:=cG 3 (Np T)
def acY (T:Tp):WM Fl:=Z (ac 0) λx0=>Z (jR T [x0]) λx1=>Z (stI 3 x1) bP
def ni (T:Tp):WM Fl:=Z (ac 4) GH
def Nq (T:Tp):WM Fl:=bK (ka (Z (ac 5) λx0=>Z (fg T [x0]) λx1=>aj x1)) (ni T) (ae .next)
def Nr (T:Tp):WM Fl:=bK (ka (Z (ac 3) λx0=>gK T.U x0<|Z (ac 5) λx1=>Z (hX T [x0,x1]) λx2=>aj x2)) (bK (Z (ac 4) λx0=>Z (ac 1) λx1=>Z (cZ x1) λx2=>Z (iA x0 x2) aj) (ni T) (ni T)) (ae .next)
def Nt (T:Tp):WM Fl:=Z (ac 3) λx0=>gK T.U x0<|Z (ac 5) λx1=>Z (qm T [x0,x1]) λx2=>ae .next
def Nu (T:Tp):WM Fl:=aq (Nq T) (aq (Nr T) (Nt T))
def acZ (T:Tp):WM Fl:=Z (ac 1) λx0=>Z (listI bf x0) λx1=>Z (ac 2) λx2=>Z (aR bf [x2]) λx3=>Z (bY bf x1 x3) λx4=>nP (Nu T) x4
def ac0 (T:Tp):WM Fl:=aq (acY T) (aq (acZ T) (ae (.ret (.int (-1)))))
@[irreducible] def jB (T:Tp):R4 V->WM V:=cG 3 (ac0 T)
def O2 (T:Tp):WM Fl:=bK (oh (Z (ac 2) λx0=>Z (ac 3) λx1=>Z (ac 4) λx2=>Z (jB T [x0,x1,x2]) λx3=>Z (ug x3 (.int (-1))) aj) (oh (Z (ac 2) λx0=>Z (ac 3) λx1=>Z (ac 4) λx2=>Z (gO T [x0,x1,x2]) λx3=>Z (ug x3 (.int (-1))) aj) (ae Sf))) (ae (.ret (.bool Sf))) (ae .next)
def ac1 (T:Tp):WM Fl:=Z (ac 1) λx0=>Z (ac 2) λx1=>Z (fA T [x0,x1]) λx2=>Z (stI 5 x2) bP
def Nv (T:Tp):WM Fl:=bK (Z (ac 5) λx0=>Z (ac 6) λx1=>Z (aR bf [x1]) λx2=>Z (fA T [x0,x2]) λx3=>Z (cZ x3) λx4=>Z (ac 5) λx5=>Z (cZ x5) λx6=>Z (ug x4 x6) aj) (ae (.ret (.bool Sf))) (ae .next)
def O3 (T:Tp):WM Fl:=Z (ac 3) λx0=>dQ (stI 6) (Nv T) x0
def ac2 (T:Tp):WM Fl:=Z (ac 3) λx0=>Z (listI bf x0) λx1=>Z (ac 4) λx2=>Z (aR bf [x2]) λx3=>Z (bY bf x1 x3) λx4=>Z (stI 7 x4) bP
def ac3 (T:Tp):WM Fl:=Z (ac 0) λx0=>Z (ac 7) λx1=>Z (cZ x1) λx2=>Z (eA T [x0,x2]) λx3=>Z (stI 8 x3) bP
def ac4 (T:Tp):WM Fl:=Z (ac 0) λx0=>Z (ac 7) λx1=>Z (ac 8) λx2=>Z (bT x1 x2) λx3=>Z (cZ x3) λx4=>Z (bY bf x4 (.int 1)) λx5=>Z (eA T [x0,x5]) λx6=>Z (stI 9 x6) bP
def O4 (T:Tp):WM Fl:=Z (ac 7) λx0=>Z (ac 8) λx1=>Z (eJ bf x0 x1) λx2=>Z (ac 7) λx3=>Z (ac 8) λx4=>Z (bT x3 x4) λx5=>Z (ac 9) λx6=>Z (zf x5 x6) λx7=>Z (ac 7) λx8=>Z (ac 8) λx9=>Z (bT x8 x9) λHN=>Z (ac 9) λHO=>Z (bY bf HO (.int 1)) λx12=>Z (zg HN x12) λx13=>Z (bY bf x7 x13) λx14=>Z (aR bf [x14]) λx15=>Z (bY bf x2 x15) λx16=>Z (ac 7) λx17=>Z (ac 8) λx18=>Z (bY bf x18 (.int 1)) λx19=>Z (sW bf x17 x19) λx20=>Z (bY bf x16 x20) λx21=>Z (stI 10 x21) bP
def IB (T:Tp):WM Fl:=bK (Z (ac 2) λx0=>Z (ac 10) λx1=>Z (eJ bf x1 (.int (-1))) λx2=>Z (ac 10) λx3=>Z (bT x3 (.int (-1))) λx4=>Z (jB T [x0,x2,x4]) λx5=>Z (ac 2) λx6=>Z (ac 10) λx7=>Z (eJ bf x7 (.int (-1))) λx8=>Z (ac 10) λx9=>Z (bT x9 (.int (-1))) λHN=>Z (gO T [x6,x8,HN]) λHO=>Z (ug x5 HO) aj) (ae (.ret (.bool Sf))) (ae .next)
def O5 (T:Tp):WM Fl:=Z (ac 7) λx0=>Z (ac 8) λx1=>Z (eJ bf x0 x1) λx2=>Z (ac 7) λx3=>Z (ac 8) λx4=>Z (bY bf x4 (.int 1)) λx5=>Z (sW bf x3 x5) λx6=>Z (bY bf x2 x6) λx7=>Z (stI 11 x7) bP
def aaz (T:Tp):WM Fl:=bK (Z (ac 11) λx0=>Z (aR bf []) λx1=>Z (iA x0 x1) aj) (ae (.ret (.bool Sn))) (ae .next)
def Aj (T:Tp):WM Fl:=Z (ac 2) λx0=>Z (ac 11) λx1=>Z (eJ bf x1 (.int (-1))) λx2=>Z (ac 11) λx3=>Z (bT x3 (.int (-1))) λx4=>Z (jB T [x0,x2,x4]) λx5=>Z (ac 2) λx6=>Z (ac 11) λx7=>Z (eJ bf x7 (.int (-1))) λx8=>Z (ac 11) λx9=>Z (bT x9 (.int (-1))) λHN=>Z (gO T [x6,x8,HN]) λHO=>Z (iA x5 HO) λx12=>ae (.ret x12)
def ac5 (T:Tp):WM Fl:=aq (O2 T) (aq (ac1 T) (aq (O3 T) (aq (ac2 T) (aq (ac3 T) (aq (ac4 T) (aq (O4 T) (aq (IB T) (aq (O5 T) (aq (aaz T) (Aj T))))))))))
@[irreducible] def tj (T:Tp):R4 V->WM V:=cG 5 (ac5 T)
def IC (T:Tp):WM Fl:=Z (ac 3) λx0=>gK T.S x0<|Z (ac 4) λx1=>Z (listI bf x1) λx2=>Z (me T [x0,x2]) λx3=>Z (stI 5 x3) bP
def wY (T:Tp):WM Fl:=Z (ac 1) λx0=>Z (ac 2) λx1=>Z (listI bf x1) λx2=>Z (ac 4) λx3=>Z (oA [("lit",Sg)] (ae Sn) (Z (ac 0) λx4=>aR cR [x4]) x3) λl4=>Z (bf l4) λx5=>Z (bY bf x2 x5) λx6=>Z (fA T [x0,x6]) λx7=>Z (stI 6 x7) bP
def IE (T:Tp):WM Fl:=bK (Z (ac 5) λx0=>Z (ac 6) λx1=>Z (aR bf []) λx2=>Z (ug x1 x2) λx3=>Z (KG x0 x3) aj) (ae (.ret (.bool Sf))) (ae .next)
def IG (T:Tp):WM Fl:=bc T.S 3 20 λx0=>Z (listI bf x0) λx1=>Z (stI 7 x1) bP
def Ak (T:Tp):WM Fl:=Z (ac 7) λx0=>Z (aR bf []) λx1=>Z (iA x0 x1) λx2=>Z (bK (aj x2) (ae x2) (Z (ac 0) λx3=>Z (ac 1) λx4=>Z (ac 2) λx5=>Z (ac 7) λx6=>Z (eJ bf x6 (.int (-1))) λx7=>Z (ac 7) λx8=>Z (bT x8 (.int (-1))) λx9=>tj T [x3,x4,x5,x7,x9])) λx3=>ae (.ret x3)
def wZ (T:Tp):WM Fl:=bK (Z (ac 5) λx0=>aj x0) (Ak T) (ae .next)
def II (T:Tp):WM Fl:=Z (ac 3) λx0=>gK T.S x0<|Z (jw T [x0]) λx1=>Z (stI 8 x1) bP
def IJ (T:Tp):WM Fl:=bK (Z (ac 8) λx0=>Z (oA [("lit",Sg),("wanted",R3 4)] (Z (ac 0) λx1=>Z (ac 1) λx2=>Z (lP x1 x2) aj) (ac 0) x0) λl1=>Z (bf l1) λx2=>Z (aR bf []) λx3=>Z (ug x2 x3) aj) (ae (.ret (.bool Sf))) (ae .next)
def IK (T:Tp):WM Fl:=Z (ac 0) λx0=>Z (ac 1) λx1=>Z (ac 2) λx2=>Z (ac 7) λx3=>Z (ac 8) λx4=>Z (oA [("lit",Sg)] (ae Sn) (Z (ac 0) λx5=>fS x5) x4) λl5=>Z (bf l5) λx6=>Z (sortI bf x6) λx7=>Z (tupI x7) λx8=>Z (tj T [x0,x1,x2,x3,x8]) λx9=>ae (.ret x9)
def IL (T:Tp):WM Fl:=aq (IC T) (aq (wY T) (aq (IE T) (aq (IG T) (aq (wZ T) (aq (II T) (aq (IJ T) (IK T)))))))
@[irreducible] def iv (T:Tp):R4 V->WM V:=cG 5 (IL T)
def ac6 (T:Tp):WM Fl:=Z (ac 0) λx0=>Z (jA T [x0]) λx1=>Z (stI 1 x1) bP
def ac7 (T:Tp):WM Fl:=Z (ac 1) λx0=>Z (eA T [x0,(.int 2)]) λx1=>Z (bY bf (.int 3) x1) λx2=>Z (stI 2 x2) bP
def ac8 (T:Tp):WM Fl:=Z (aR eR []) λx0=>Z (stI 3 x0) bP
def Nw (T:Tp):WM Fl:=Z (ac 3) λx0=>gJ "list" x0<|Z (ac 1) λx1=>Z (ac 2) λx2=>Z (gz T [x1,x2,(.int 1)]) λx3=>Z (dc x0 x3) λx4=>ae .next
def O6 (T:Tp):WM Fl:=Z (ac 1) λx0=>Z (eA T [x0,(.int 5)]) λx1=>Z (bY bf (.int 4) x1) λx2=>Z (sU x2) λx3=>dQ (stI 4) (Nw T) x3
def ac9 (T:Tp):WM Fl:=Z (ac 2) λx0=>Z (qW T [x0]) λx1=>Z (ac 3) λx2=>Z (listI bf x2) λx3=>Z (ac 2) λx4=>Z (ip T [x3,x4]) λx5=>Z (aR cR [x1,x5]) λx6=>Z (iY [stI 6,stI 5] x6) bP
def ada (T:Tp):WM Fl:=Z (ac 1) λx0=>Z (ac 2) λx1=>Z (gz T [x0,x1,(.int 0)]) λx2=>Z (stI 7 x2) bP
def adb (T:Tp):WM Fl:=bK (ka (Z (ac 1) λx0=>Z (ac 5) λx1=>Z (ac 3) λx2=>Z (ac 6) λx3=>Z (ac 7) λx4=>Z (iv T [x0,x1,x2,x3,x4]) λx5=>aj x5)) (ae (.ret (.bool Sf))) (ae .next)
def adc (T:Tp):WM Fl:=Z (ac 3) λx0=>gJ "list" x0<|Z (ac 1) λx1=>Z (ac 2) λx2=>Z (gz T [x1,x2,(.int 1)]) λx3=>Z (dc x0 x3) λx4=>ae .next
def ade (T:Tp):WM Fl:=Z (ac 6) λx0=>gK T.S x0<|Z (ac 3) λx1=>Z (bT x1 (.int (-1))) λx2=>Z (cQ T [x0,x2]) λx3=>ae .next
def aaA (T:Tp):WM Fl:=Z (ac 1) λx0=>Z (ac 5) λx1=>Z (ac 3) λx2=>Z (ac 6) λx3=>Z (aR cR []) λx4=>Z (iv T [x0,x1,x2,x3,x4]) λx5=>ae (.ret x5)
def O7 (T:Tp):WM Fl:=aq (ac6 T) (aq (ac7 T) (aq (ac8 T) (aq (O6 T) (aq (ac9 T) (aq (ada T) (aq (adb T) (aq (adc T) (aq (ade T) (aaA T)))))))))
@[irreducible] def BJ (T:Tp):R4 V->WM V:=cG 1 (O7 T)
section
section
variable{L:R4 (Si V)}{a:Ad}{kvs:R4 (SH×V)}{x v:V}
theorem Al {Q:Unit->St->Prop}(h1:(ZP (i+1) L.length && ZP (j+1) L.length)=Sn)(e:(L.set i (R3 v)).set j (R3 x)=L')(q:Q () ⟨lo L',H⟩):iY [stI i,stI j] (.bF Sn [x,v]) ⟨lo L,H⟩ Q:=by
 have h1:=SV.mp h1;exact mY rfl (bj h1.1 rfl (bj (by rw[VB];exact h1.2) e q))
theorem IM (h:H a=R3 (.bB kvs))(e:bC kvs i=R3 v)(q:Q v ⟨l,H⟩):Bp i (.ref a) ⟨l,H⟩ Q:=by
 unfold Bp;exact⟨a,kvs,v,rfl,h,e,q⟩
theorem aaB {Q:Unit->St->Prop}(aF:R4 (SH×V))(h:H a=R3 (.bB kvs))(e:cY kvs i v=aF)(q:Q () ⟨l,aK H a (.bB aF)⟩):GX i (.ref a) v ⟨l,H⟩ Q:=by
 subst e;unfold GX;exact⟨a,kvs,rfl,h,q⟩
end
inductive DR (n:SH)(H:Hp):Prop
 |mk (cells:R4 Sj) (bA:SH):H ⟨1,0⟩=R3 (.bB [(25,.bF Sf (bH cells)),(26,.int (bA:Sj))])->cells.length<=60->bA<=n->DR n H
variable{m:SH}
theorem DR.frm {lo:SH}(g:DR n H)(f:bM lo hi H H')(h:(Ul (1<lo) || decide (hi<=1))=Sn):DR n H':=by
 induction g with
 |mk cells bA h1 h2 h3=>exact⟨cells,bA,f _ _ h1 ((Ze.mp h).imp SB SB),h2,h3⟩
theorem Am {m:Sj}(h:0<m):0<=x.fmod m/\x.fmod m<m:=⟨Int.fmod_nonneg_of_pos x h,Int.fmod_lt_of_pos x h⟩
theorem aaC {m:Sj}(h:0<=x)(h1:1<=m):0<=x.fdiv m/\x.fdiv m<=x:=by
 rw[Int.fdiv_eq_ediv_of_nonneg _ (by exact yZ [] [_] 0xf011c51001c55 rfl h1)];exact⟨Int.ediv_nonneg h (yZ [] [_] 0xf011c51001c55 rfl h1),Int.ediv_le_self m h⟩
def Sm (H H':Hp):Prop:=∀b:Ad,(b.k=3\/19<=b.k)->H' b=H b
theorem Sm.trans (f:Sm H H')(g:Sm H' mU):Sm H mU:=λb h=>(g b h).trans (f b h)
theorem Sm.set (h:(Ul (k≠3) && decide (k<19))=Sn):Sm H (aK H ⟨k,n⟩ so):=λb hb=>aO λz=>by
 have h:=SV.mp h;have h1:=SB h.1;have h2:=SB h.2;rw[z]at hb;exact hb.elim h1 λz=>Sw (show 19<=k from z) (VW.mpr h2)
theorem iw {k:Sj}(g:DR n H)(hn:n<=100000)(hk:0<k)(q: ∀r H',DR (n+1) H'->0<=r->r<k->bM 1 2 H H'->Sm H H'->Q (.int r) ⟨l,H'⟩):eA T [.ref ⟨1,0⟩,.int k] ⟨l,H⟩ Q:=by
 induction g with
 |mk cells bA h1 h2 h3=>
  unfold eA;refine bJ 3 rfl (IM h1 rfl (IM h1 rfl (aP (show 2<=1000000 by decide) (Al rfl rfl (cO (aaB [(25,.bF Sf (bH cells)),(26,.int ((bA:Sj)+1))] h1 rfl ?_))))));have g':DR (n+1) (aK H ⟨1,0⟩ (.bB [(25,.bF Sf (bH cells)),(26,.int ((bA:Sj)+1))])):=⟨cells,bA+1,aw,h2,yN [_,_] [] 0xf10501a0a54 rfl h3⟩;have s':Sm H (aK H ⟨1,0⟩ (.bB [(25,.bF Sf (bH cells)),(26,.int ((bA:Sj)+1))])):=Sm.set rfl;have f':bM 1 2 H (aK H ⟨1,0⟩ (.bB [(25,.bF Sf (bH cells)),(26,.int ((bA:Sj)+1))])):=bM.set rfl;generalize aK H ⟨1,0⟩ (.bB [(25,.bF Sf (bH cells)),(26,.int ((bA:Sj)+1))])=H1 at g' f' s' ⊢;have cz:(bH cells).length<=big:=by rw[ag];unfold big;exact yN [_] [] 0xf3c2c050f42405c054 rfl h2
  have fin: ∀x:Sj,Q (.int (x.fmod k)) ⟨l,H1⟩:=λx=>q _ H1 g' (Am hk).1 (Am hk).2 f' s';clear q;obtain⟨mx,hmx⟩: ∃mx:Sj,mx=if((bH cells).length:Sj)>1 then((bH cells).length:Sj)else 1:=⟨_,rfl⟩
  have Er:1<=mx/\mx<=60:=by rw[hmx,ag];split<;>lia
  refine ci ay cz (ack ?_);refine hmx▸?_;refine Br (λhh=>yF [] [_] 0xf01c053011c51 rfl Er.1 hh) (yN [_] [_] 0xf01513c2c051400000008c0a54 rfl Er.2 (jX (yZ [] [_] 0xf011c51001c55 rfl Er.1))) (bj rfl rfl ?_);have hd:=aaC (x:=(bA:Sj)) (yZ [_] [] 252714069 rfl) Er.1;generalize (bA:Sj).fdiv mx=lap at hd;have e1:lap.natAbs<2 ^ 60:=by lia
  have e2:((bA:Sj)+7).natAbs<2 ^ 60:=by lia
  have k0:k≠0:=λhh=>yF [] [_] 0xf01c053001ca51 rfl hk hh;refine aP (S7 _) (ie ay ay ⟨λe=>?_,λO=>cO (OL e1 e2 (cO (Bq k0 (fin _))))⟩);have cF:0<cells.length:=by
   cases cells with
   |nil=>cases e
   |cons=>exact XA _
  refine ci ay cz (Bq (by rw[ag];exact λhh=>yF [_] [] 0xf01c153001ca50 rfl cF hh) ?_);have hr:=Am (x:=(bA:Sj)) (m:=((bH cells).length:Sj)) (by rw[ag];exact yZ [_] [] 0xf001ca50101ca55 rfl cF);generalize (bA:Sj).fmod ((bH cells).length:Sj)=ix at hr;replace hr:=ag▸hr;obtain⟨i,rfl⟩:=Ua hr.1;have hi:i<cells.length:=yN [_,_] [] 0xf31a5110a54 rfl hr.2;exact bS ay cz (dD (SG hi)) (cO (OL e1 e2 (cO (Bq k0 (fin _)))))
theorem BK {k:Sj}(g:DR n H)(hn:n<=100000)(hk:0<k)(q: ∀r H',DR (n+1) H'->0<=r->r<k->bM 1 2 H H'->Q (.int r) ⟨l,H'⟩):eA T [.ref ⟨1,0⟩,.int k] ⟨l,H⟩ Q:=
 iw g hn hk λr H' g h1 h2 f O=>q r H' g h1 h2 f
end
section
section
variable{a:Ad}
theorem Xt.trans (h:Xt H H')(h':Xt H' mU):Xt H mU:=λb o e=>h' b o (h b o e)
theorem Xt.emp (h:Xt H H')(e:H' a=Sg):H a=Sg:=by
 cases z:H a with
 |none=>rfl
 |some o=>replace e:=(h a o z)▸e;cases e
theorem bM.Nx {lo:SH}(f:bM lo hi H H')(h:H a=Sg):bM lo hi H (aK H' a so):=λb o e k=>(aO λz=>by replace e:=h▸z▸e;cases e).trans (f b o e k)
theorem Ny {p q:Sj}(h:H a=R3 (.range p q))(h1: -1000000<=p/\p<=1000000/\-1000000<=q/\q<=1000000)(k:mk (Src.kH p q).items ⟨l,H⟩ Q):listI mk (.ref a) ⟨l,H⟩ Q:=by
 unfold listI;exact .r a p q h h1 k
theorem Nz {v:V}(h:H a=R3 (.list vs))(hz:vs.length<=big)(e:vs[i]? =R3 v)(q:Q v ⟨l,aK H a (.list (vs.eraseIdx i))⟩):y9 (.ref a) (.int (i:Sj)) ⟨l,H⟩ Q:=by
 unfold y9;exact⟨a,vs,(i:Sj),v,rfl,rfl,h,hz,U8 i,e,q⟩
end
variable{m:SH}
inductive ClI (T:Tp)(N n m1 m2 m3:SH)(w2:Si V)(cnt:Sj)(H:Hp)(i:SH):St->Prop
 |mk (lf fd:R4 Sj) (w5 w6:Si V) (H':Hp):DR (n+2*i) H'->H' ⟨11,m1⟩=R3 (.list (bH lf))->H' ⟨12,m2⟩=R3 (.list (bH fd))->H' ⟨8,m3⟩=R3 (.range 0 cnt)->
   ((lf++fd).map Tl).Nodup->(∀x∈lf++fd,1<=x.natAbs/\x.natAbs<=N)->fd.length=i->lf.length+i=N->bM 1 2 H H'->Sm H H'->
   ClI T N n m1 m2 m3 w2 cnt H i ⟨lo [R3 (.ref ⟨1,0⟩),R3 (.int (N:Sj)),w2,R3 (.ref ⟨11,m1⟩),R3 (.ref ⟨12,m2⟩),w5,w6],H'⟩
theorem NA {v:Sj}{lf:R4 Sj}: ∀{i:SH},lf[i]? =R3 v->lf.Perm (v::lf.eraseIdx i):=by
 induction lf with
 |nil=>intro i h;exact c6 h
 |cons a r ih=>
  intro i h;cases i with
  |zero=>obtain rfl:=R7 h;exact .refl _
  |succ i=>exact((ih h).cons a).trans (.swap v a _)
theorem aaD {f:α->β}{lf:R4 α}: ∀{i:SH},(lf.map f).eraseIdx i=(lf.eraseIdx i).map f:=by
 induction lf with
 |nil=>intro i;rfl
 |cons a r ih=>
  intro i;cases i with
  |zero=>rfl
  |succ i=>exact SU (f a:: ·) ih
theorem An {lf fd:R4 Sj}{v:Sj}(h:lf[i]? =R3 v):(lf++fd).Perm (lf.eraseIdx i++fd++[v]):=((NA h).append_right fd).trans (List.perm_append_comm (l₁:=[v]))
theorem xd {m1 m2 m3:SH}{w2:Si V}{cnt:Sj}{Q:Fl->St->Prop}{K:St->Prop}{u:V}(h:ClI T N n m1 m2 m3 w2 cnt H i J)(hi:i<N)(hN:N<=8)(hn:n<=90000)(e1:H ⟨11,m1⟩=Sg)(e2:H ⟨12,m2⟩=Sg)
  (hK: ∀bD,ClI T N n m1 m2 m3 w2 cnt H (i+1) bD->K bD):stI 5 u J λO ak=>qV T ak (AW Q K):=by
 induction h with
 |mk lf fd w5 w6 H1 g h11 h12 h8 nd va fl ll f sm=>
  have lz:(bH lf).length<=big:=by rw[ag];unfold big;exact yN [_,_,_] [] 0xf120b5281c150f42405c054 rfl hN ll
  have fz:(bH fd).length<=big:=by rw[ag];unfold big;exact yN [_,_,_] [] 0xf105281c25021a50f42405c054 rfl hi hN fl
  refine bj rfl rfl (fh h11 (ci (bq h11) lz (iw g (yN [_,_,_] [] 0xf15f905c05081c26021a60186a05c121e0b54 rfl hi hN hn) (by rw[ag];exact yZ [_,_,_] [] 0xf210b3221a50101ca55 rfl hi ll) λr H2 g2 r0 r1 f2 s2=>?_)));obtain⟨j,rfl⟩:=Ua r0;have hj:j<lf.length:=by rw[ag]at r1;exact yN [_,_] [] 0xf31a5110a54 rfl r1
  have g11:=f2 _ _ h11 (.inr (R5 rfl));have g12:=f2 _ _ h12 (.inr (R5 rfl));have g8:=f2 _ _ h8 (.inr (R5 rfl));have hv:=SG hj;generalize lf[j]=v at hv;have ev:(bH lf)[j]? =R3 (.int v):=by unfold bH;rw[Sx,hv];rfl
  refine Nz g11 lz ev (bj rfl rfl ?_);have g3:DR (n+2*i+1) (aK H2 ⟨11,m1⟩ (.list ((bH lf).eraseIdx j))):=g2.frm (lo:=11) (hi:=12) (bM.set rfl) rfl;have f3:=(f.trans f2).Nx (so:=.list ((bH lf).eraseIdx j)) e1;have s3:Sm H (aK H2 ⟨11,m1⟩ (.list ((bH lf).eraseIdx j))):=(sm.trans s2).trans (Sm.set rfl);have k11:aK H2 ⟨11,m1⟩ (.list ((bH lf).eraseIdx j)) ⟨11,m1⟩=R3 (.list (bH (lf.eraseIdx j))):=aw.trans (by unfold bH;rw[aaD]);have k12:=(ai (H:=H2) (k:=11) (n:=m1) (so:=.list ((bH lf).eraseIdx j)) (show(12==11)=Sf from rfl)).trans g12;have k8:=(ai (H:=H2) (k:=11) (n:=m1) (so:=.list ((bH lf).eraseIdx j)) (show(8==11)=Sf from rfl)).trans g8;generalize aK H2 ⟨11,m1⟩ (.list ((bH lf).eraseIdx j))=H3 at g3 f3 s3 k11 k12 k8 ⊢;have pv:=An (fd:=fd) hv;have fin: ∀(y:Sj) H4,y.natAbs=v.natAbs->DR (n+2*i+2) H4->bM 1 2 H3 H4->Sm H3 H4->K ⟨lo [R3 (.ref ⟨1,0⟩),R3 (.int (N:Sj)),w2,R3 (.ref ⟨11,m1⟩),R3 (.ref ⟨12,m2⟩),R3 u,R3 (.int v)],aK H4 ⟨12,m2⟩ (.list (bH fd++[.int y]))⟩:=by
   intro y H4 hy g4 f4 s4;have e:((lf++fd).map Tl).Perm ((lf.eraseIdx j++(fd++[y])).map Tl):=by refine(pv.map _).trans ?_;rw[<-TG,SN,SN (l₂:=[y])];exact List.Perm.append_left _ (by show[v.natAbs].Perm [y.natAbs];rw[hy])
   refine hK _ ⟨lf.eraseIdx j,fd++[y],_,_,_,?_,(ai rfl).trans (f4 _ _ k11 (.inr (R5 rfl))),aw.trans (dA▸rfl),(ai rfl).trans (f4 _ _ k8 (.inr (R5 rfl))),e.nodup_iff.mp nd,λx hx=>?_,by rw[bw,fl],?_,(f3.trans f4).Nx e2,(s3.trans s4).trans (Sm.set rfl)⟩;·exact g4.frm (lo:=12) (hi:=13) (bM.set rfl) rfl
   ·obtain⟨z,hz,ez⟩:=SL.mp (e.mem_iff.mpr (Tz (f:=Tl) hx));exact ez▸(va z hz)
   ·rw[List.length_eraseIdx_of_lt hj];exact SK (yN [_,_,_,_] [] 0xf30a50213b5221a0b54 rfl ll (i6 (yN [_,_] [] 0xf01a50011c54 rfl hj))) (yN [_,_,_,_] [] 0xf1a350023b322a1b054 rfl ll (li _ _))
  refine fh k12 (iw g3 (yN [_,_,_] [] 0xf15f905c05081c26021a60186a05c121e0ba54 rfl hi hN hn) (by decide) λr H4 g4 O O f4 s4=>i7 ⟨λO=>?_,λO=>?_⟩);·exact eK (f4 _ _ k12 (.inr (R5 rfl))) fz (fin v H4 rfl g4 f4 s4)
  ·exact eK (f4 _ _ k12 (.inr (R5 rfl))) fz (fin (-v) H4 (S4 v) g4 f4 s4)
end
section
variable{m:SH}
theorem aaE {c:SH}:(Src.kH 0 (c:Sj)).items.length=c:=by
 show((TL ((c:Sj) - 0).toNat).map _).length=c;rw[Sa,T6];exact SK (yN [_,_] [] 0xf01c30f1531054 rfl (U3 (yZ [_] [] 0xf01c10f01c55 rfl))) (yN [_,_] [] 0xf301c10f511054 rfl (Uy _))
theorem xf:(vars N).length=N:=by unfold vars;rw[Sa,T6]
theorem IO:((vars N).map Tl).Nodup:=by
 have e:(vars N).map Tl=(TL N).map (· +1):=by unfold vars;rw[Tg];exact TI λi O=>by show((i:Sj)+1).natAbs=i+1;exact SK (yN [_,_] [] 0xf3a1511a054 rfl (jX (yZ [_] [] 4053802069 rfl))) (yN [_,_] [] 0xf31a5110a54 rfl Ts)
 rw[e];exact ZQ.map (· +1) λa b h e=>h (VD e)
theorem nj {le:SH}(g:DR n H)(hn:n<=80000)(hN:N<=8)(h3:le+2<=N)(q: ∀c H',DR (n+20) H'->Cl N c->le<=c.length->bM 1 2 H H'->Sm H H'->Q (tup c) ⟨l,H'⟩):gz T [.ref ⟨1,0⟩,.int (N:Sj),.int (le:Sj)] ⟨l,H⟩ Q:=by
 unfold gz;refine bJ 4 rfl (cO (uM (eh 7 λn7 hn7=>Ny aw ⟨by decide,by decide,yZ [_] [] 0xf1af42405d55 rfl,yZ [_] [] 0xf81c050f42405c1a55 rfl hN⟩ ?_)));refine mq▸?_;refine eh 11 λm1 Er=>aP (S7 _) (eh 12 λm2 Ew=>aP (show 2<=1000000 by decide) (Al rfl rfl ?_));have x1:Xt H (aK H ⟨7,n7⟩ (.range 1 ((N:Sj)+1))):=Xt.new hn7;have s1:Sm H (aK H ⟨7,n7⟩ (.range 1 ((N:Sj)+1))):=Sm.set rfl;have g1:=g.frm (lo:=1000) (hi:=1000) (λb o e O=>x1 b o e) rfl;generalize aK H ⟨7,n7⟩ (.range 1 ((N:Sj)+1))=H1 at x1 s1 g1 Er Ew ⊢;have x2:Xt H1 (aK H1 ⟨11,m1⟩ (.list (bH (vars N)))):=Xt.new Er;have s2:Sm H1 (aK H1 ⟨11,m1⟩ (.list (bH (vars N)))):=Sm.set rfl;have y1:=aw (H:=H1) (a:=⟨11,m1⟩) (so:=.list (bH (vars N)));have g2:=g1.frm (lo:=1000) (hi:=1000) (λb o e O=>x2 b o e) rfl;generalize aK H1 ⟨11,m1⟩ (.list (bH (vars N)))=H2 at x2 s2 y1 g2 Ew ⊢;have x3:Xt H2 (aK H2 ⟨12,m2⟩ (.list [])):=Xt.new Ew;have s3:Sm H2 (aK H2 ⟨12,m2⟩ (.list [])):=Sm.set rfl;have y2:=aw (H:=H2) (a:=⟨12,m2⟩) (so:=.list []);have g3:=g2.frm (lo:=1000) (hi:=1000) (λb o e O=>x3 b o e) rfl;have y1:=x3 _ _ y1;have e1:H ⟨11,m1⟩=Sg:=x1.emp Er;have e2:H ⟨12,m2⟩=Sg:=(x1.trans x2).emp Ew;have xx:bM 1 2 H (aK H2 ⟨12,m2⟩ (.list [])):=λb o e O=>(x1.trans (x2.trans x3)) b o e;generalize aK H2 ⟨12,m2⟩ (.list [])=H3 at y1 y2 g3 xx s3 ⊢;refine iw g3 (yN [_] [] 0xf138805c050186a05c054 rfl hn) (by decide) λr H4 g4 r0 r1 f4 s4=>cO (uN (eh 8 λm3 hm3=>?_));obtain⟨j,rfl⟩:=Ua r0;have hc:le+j<=N:=yN [_,_,_] [] 0xf31c3a51221c0b50210b54 rfl h3 r1;have ec:(le:Sj)+(j:Sj)=((le+j:SH):Sj):=Td (yZ [_,_] [_] 0xf31b033031b55 rfl (Te _ _)) (yZ [_,_] [_] 0xf31b05331b055 rfl (Te _ _));refine ec▸?_;have x5:Xt H4 (aK H4 ⟨8,m3⟩ (.range 0 ((le+j:SH):Sj))):=Xt.new hm3;have s5:Sm H4 (aK H4 ⟨8,m3⟩ (.range 0 ((le+j:SH):Sj))):=Sm.set rfl;have y8:=aw (H:=H4) (a:=⟨8,m3⟩) (so:=.range 0 ((le+j:SH):Sj));have g5:=g4.frm (lo:=1000) (hi:=1000) (λb o e O=>x5 b o e) rfl;generalize aK H4 ⟨8,m3⟩ (.range 0 ((le+j:SH):Sj))=H5 at x5 s5 y8 g5 ⊢;refine sX (S:=.kH 0 ((le+j:SH):Sj)) (λi=>ClI T N (n+1) m1 m2 m3 (R3 (.int (le:Sj))) ((le+j:SH):Sj) H i) ⟨by decide,by decide,yZ [_,_] [_] 0xf031b530f42405d55 rfl ec,yZ [_,_,_] [_] 0xf053b33021b5081c050f42405c055 rfl hN hc ec⟩ (λi J h=>?_) ?_ (λi v J hv h K hK=>?_) λJ h=>?_
 ·induction h with
  |mk lf fd w5 w6 H' _ _ _ h8=>exact kR h8 _
 ·refine⟨vars N,[],Sg,Sg,H5,g5,x5 _ _ (f4 _ _ y1 (.inr (R5 rfl))),x5 _ _ (f4 _ _ y2 (.inr (R5 rfl))),y8,by rw[Tw];exact IO,λx hx=>?_,rfl,?_,(xx.trans f4).trans λb o e O=>x5 b o e,s1.trans (s2.trans (s3.trans (s4.trans s5)))⟩
  ·rw[Tw]at hx;have:=iQ hx;exact⟨yN [_] [_] 0xf1051011c51011c54 rfl this.1 Ts,yN [_,_] [_] 0xf015130511054 rfl this.2 (jX (yZ [] [_] 0xf011c51001c55 rfl this.1))⟩
  ·rw[xf];rfl
 ·have hi:=(mm hv).1;exact xd h (yN [_,_,_,_] [] 0xf32b0a50132b5010a54 rfl hc hi) hN (yN [_] [] 0xf138805c05015f905c0a54 rfl hn) e1 e2 hK
 ·replace h:=aaE▸h;induction h with
  |mk lf fd w5 w6 H6 g6 _ h12 _ nd va fl _ f6 s6=>
   have va': ∀x∈fd,1<=x.natAbs/\x.natAbs<=N:=λx hx=>va x (SA _ hx);have nd':(fd.map Tl).Nodup:=by rw[SN]at nd;exact(Tf.mp nd).2.1
   refine uA (S:=.seq Sf (bH fd)) (ns:=fd) (fM h12) TK (by show(bH fd).length<=big;rw[ag];unfold big;exact yN [_,_,_,_] [] 0xf32b052132b5081c150f42405c054 rfl hN hc fl) rfl (yN [_,_,_,_] [] 0xf32b052132b5081c150402c0a54 rfl hN hc fl) λout hp hs=>?_;have oz:out.length=fd.length:=hp.length_eq;refine Bx ay (by rw[ag];unfold big;exact yN [_,_,_,_,_] [] 0xf405232b452132b5081c150f42405c054 rfl hN hc fl oz) (q out H6 ?_ ⟨HS ((hp.map _).nodup_iff.mpr nd') hs,λx hx=>va' x (hp.mem_iff.mp hx)⟩ (yN [_,_,_,_] [] 0xf213230b2321054 rfl fl oz) f6 s6);induction g6 with
   |mk cells bA a1 a2 a3=>exact⟨cells,bA,a1,a2,yN [_,_,_,_,_] [] 0xf43b21e1ab050243b6081c260142c1b054 rfl hN hc a3⟩
end
section
theorem O8 {S:Src}{c:R4 α}{x:V}{Q:R4 V->St->Prop}(enc:α->V)(p:α->Tn)(f:α->V)(hS:sr H x S)(hi:S.items=c.map enc)(hz:S.fits)
  (h: ∀x,x∈c->Ev test ⟨aY ⟨l,H⟩ sh (R3 (enc x)),H⟩ (p x)/\(p x=Sn->Ev elt ⟨aY ⟨l,H⟩ sh (R3 (enc x)),H⟩ (f x)))
  (q:Q ((c.filter p).map f) ⟨l,H⟩):oA sh test elt x ⟨l,H⟩ Q:=by
 have key: ∀(vs:R4 α) (acc:R4 V) (K:R4 V->Hp->Prop),(∀u∈vs,u∈c)->K (acc++(vs.filter p).map f) H->Kj x S (aY ⟨l,H⟩ sh) test elt (vs.map enc) acc H K:=by
  intro vs;induction vs with
  |nil=>intro acc K _ hk;rw[Z1,Xv,Tw]at hk;exact⟨hS _,hk⟩
  |cons u r ih=>
   intro acc K hm hk;have vk: ∀u∈r,u∈c:=λu hu=>hm u (SQ _ hu);have hu:=h u (hm u Se);refine⟨hS _,hu.1 _ ⟨λe=>hu.2 e _ (ih _ _ vk ?_),λe=>ih _ _ vk ?_⟩⟩
   ·rw[TJ,Sv e]at hk;rw[TG];exact hk
   ·rwa [TJ,Sq (by rw[e];decide)]at hk
 unfold oA;refine⟨S,hS _,hz,?_⟩;show Kj x S _ _ _ S.items _ _ _;rw[hi];exact key c [] _ (λO h=>h) q
theorem aeE {c:R4 α}{x:V}{Q:R4 V->St->Prop}(enc:α->V)(p:α->Tn)(f:α->V)(hS:sr H x (.seq b (c.map enc)))(hz:c.length<=big)
  (h: ∀x,x∈c->Ev test ⟨aY ⟨l,H⟩ sh (R3 (enc x)),H⟩ (p x)/\(p x=Sn->Ev elt ⟨aY ⟨l,H⟩ sh (R3 (enc x)),H⟩ (f x)))
  (q:Q ((c.filter p).map f) ⟨l,H⟩):oA sh test elt x ⟨l,H⟩ Q:=O8 enc p f hS rfl (by show(c.map enc).length<=big;rwa [Sa]) h q
noncomputable def cr:SH->R4 (R4 Sj)
 |0=>[[]]
 |n+1=>(cr n).flatMap λr=>[r++[(n:Sj)+1],r++[-((n:Sj)+1)]]
def rv (r:R4 Sj):V:=.bF Sf (bH r)
theorem IP {v:Sj}:(rs.flatMap λr=>[r++[v],r++[-v]]).length=2*rs.length:=by
 induction rs with
 |nil=>rfl
 |cons a r ih=>rw[Zz,Sr,ih];show 2+2*r.length=2*(r.length+1);exact SK (yN [_] [] 0xf0a21e021e21cb54 rfl) (yN [_] [] 0xf021e21cb0a21e54 rfl)
theorem IQ {h:α->WM β}{Q:β->St->Prop}{a:α}(q:h a J Q):bk h Q a J:=q
theorem NB {v:Sj}{x:V}{S:Src}(hS: ∀l,cM ⟨l,H⟩ x=R3 S)(rs:R4 (R4 Sj)): ∀(acc:R4 V) (l:SH->Si V) (K:R4 V->Hp->Prop),l 2=R3 (.int v)->(∀r∈rs,r.length<=100)->acc.length+2*rs.length<=1000->
  K (acc++(rs.flatMap λr=>[r++[v],r++[-v]]).map rv) H->
  CC x S (Z (ac 2) λx1=>Z (ac 2) λx2=>Z (fS x2) λx3=>aR cR [x1,x3]) (Z (ac 0) λx1=>Z (ac 1) λx2=>Z (aR bf [x2]) λx3=>bY bf x1 x3) (rs.map rv) acc ⟨l,H⟩ λvE bD=>K vE bD.hp:=by
 induction rs with
 |nil=>intro acc l K h2 hr hz hk;rw[List.flatMap_nil,Xv,Tw]at hk;exact⟨hS _,hk⟩
 |cons r rs ih=>
  intro acc l K h2 hr hz hk;have rz:=hr r Se;replace hz:=TB▸hz;refine⟨hS _,by unfold big;exact yN [_,_] [] 0xf3e83c1a21e0b50f42405c054 rfl hz,nQ (v:=.int v) h2 (nQ (v:=.int v) h2 (aP (show 2<=1000000 by decide) ⟨_,rfl,show 2<=1000000 by decide,show 2<=1000000 by decide,rfl,?_⟩))⟩;have rz':(bH r).length<=big:=by rw[ag];unfold big;exact yN [_] [] 0xf642c050f42405c054 rfl rz
  refine nQ (v:=rv r) rfl (IQ (nQ (v:=.int v) rfl (IQ (aP (show 1<=1000000 by decide) (eV ay ay rz' (show 1<=1000000 by decide) ⟨rfl,?_⟩)))));refine nQ (v:=rv r) rfl (IQ (nQ (v:=.int (-v)) rfl (IQ (aP (show 1<=1000000 by decide) (eV ay ay rz' (show 1<=1000000 by decide) ⟨rfl,?_⟩)))));refine ih _ _ K h2 (λr' h'=>hr r' (SQ _ h')) (by simp only[Sr,TB,WO];exact yN [_,_] [] 0xf3e83c1a21e0b503e83c121e01ca01ca0bbb54 rfl hz) ?_;rw[Zz,SN]at hk;rw[TG,TG];have e: ∀y:Sj,rv (r++[y])=.bF Sf (bH r++[.int y]):=λy=>by unfold rv;exact dA▸rfl
  rw[Tq,Tq,Xv,e,e]at hk;exact hk
theorem IR {v:Sj}{Q:R4 V->St->Prop}(h2:l 2=R3 (.int v))(hr: ∀r∈rs,r.length<=100)(hz:2*rs.length<=1000)(q:Q ((rs.flatMap λr=>[r++[v],r++[-v]]).map rv) ⟨l,H⟩):
  GY [("row",Sg),("lit",Sg),("v",R3 2)] (Z (ac 2) λx1=>Z (ac 2) λx2=>Z (fS x2) λx3=>aR cR [x1,x3]) (Z (ac 0) λx1=>Z (ac 1) λx2=>Z (aR bf [x2]) λx3=>bY bf x1 x3) (.bF Sf (rs.map rv)) ⟨l,H⟩ Q:=by
 unfold GY;exact⟨_,rfl,by show(rs.map rv).length<=big;rw[Sa];unfold big;exact yN [_] [] 0xf3e83c021e50f42405c064 rfl hz,NB (S:=.seq Sf (rs.map rv)) (v:=v) (λO=>rfl) rs [] (aY ⟨l,H⟩ [("row",Sg),("lit",Sg),("v",R3 2)] Sg) (λa h=>Q a ⟨l,h⟩) h2 hr (by rw[WO];exact yN [_] [] 0xf3e83c021e503e83c021e01cb54 rfl hz) q⟩
theorem mr :(cr n).length=2 ^ n:=by
 induction n with
 |zero=>rfl
 |succ n ih=>show((cr n).flatMap _).length=_;rw[IP,ih,Nat.pow_succ];exact SK (yN [_] [] 0xf0212f021e54 rfl) (yN [_] [] 0xf021e0212f54 rfl)
theorem IU : ∀{r:R4 Sj},r∈cr n->r.length=n:=by
 induction n with
 |zero=>intro r h;rw[R8.mp h];rfl
 |succ n ih=>
  intro r h;obtain⟨r',h',h2⟩:=Wx.mp h;have:=ih h';rcases SZ.mp h2 with e |h2;·rw[e,bw,this]
  ·rw[R8.mp h2,bw,this]
variable{m:SH}
theorem NC (hN:N<=4)(q: ∀H',Xt H H'->Sm H H'->Q (.bF Sf ((cr N).map rv)) ⟨l,H'⟩):qW T [.int (N:Sj)] ⟨l,H⟩ Q:=by
 unfold qW;refine bJ 2 rfl (aP (S7 _) (aP (show 1<=1000000 by decide) (bj rfl rfl (cO (uM (eh 7 λm hm=>?_))))));have x1:Xt H (aK H ⟨7,m⟩ (.range 1 ((N:Sj)+1))):=Xt.new hm;have s1:Sm H (aK H ⟨7,m⟩ (.range 1 ((N:Sj)+1))):=Sm.set rfl;have y1:=aw (H:=H) (a:=⟨7,m⟩) (so:=.range 1 ((N:Sj)+1));generalize aK H ⟨7,m⟩ (.range 1 ((N:Sj)+1))=H1 at x1 s1 y1 ⊢;refine sX (S:=.kH 1 ((N:Sj)+1)) (λi J=>∃w,J=⟨lo [R3 (.int (N:Sj)),R3 (.bF Sf ((cr i).map rv)),w],H1⟩) ⟨by decide,by decide,yZ [_] [] 0xf1af42405d55 rfl,yZ [_] [] 0xf41c050f42405c1a55 rfl hN⟩ (λi J xW=>by obtain⟨w,e⟩:=xW;rw[e];exact kR y1 _) ⟨Sg,rfl⟩ ?_ ?_
 ·rintro i v J hv ⟨w,rfl⟩ K hK;replace hv:=mq▸hv;have hv:((VZ (λ(i:SH)=>(i:Sj)+1) (TL N)).map V.int)[i]? =R3 v:=hv;replace hv:=(Sx)▸Tg▸hv;obtain⟨j,hj,ev⟩:=SR.mp hv;obtain⟨h1,h2⟩:=R6.mp hj;rw[V9]at h2;replace h1:=T6▸h1;subst h2;subst ev;refine bj rfl rfl ?_;have hz:(cr i).length<=8:=by rw[mr];exact Vq (n:=2) (j:=3) (by decide) (yN [_,_] [] 0xf10a5041c15031c054 rfl hN h1)
  exact IR (v:=(i:Sj)+1) rfl (λr hr=>by rw[IU hr];exact yN [_,_] [] 0xf10a5041c150642c054 rfl hN h1) (yN [_] [] 0xf81c0603e83c021e54 rfl hz) (bj rfl rfl (hK _ ⟨_,rfl⟩))
 ·rintro J ⟨w,rfl⟩;have e:(Src.kH 1 ((N:Sj)+1)).items.length=N:=by rw[mq,ag,xf]
  rw[e];exact q H1 x1 s1
end
section
noncomputable def sat (r c:R4 Sj):Tn:=c.any λx=>decide (x∈r)
def cB (rs cs:R4 (R4 Sj)):R4 (R4 Sj):=rs.filter λr=>cs.all (sat r)
theorem ND :(bH r).any (eqB (.int x))=decide (x∈r):=by
 induction r with
 |nil=>rfl
 |cons y r ih=>show((y==x) || (bH r).any (eqB (.int x)))=_;rw[ih,Bool.eq_iff_iff,Ze,U5,decide_eq_true_iff,decide_eq_true_iff,SZ];exact⟨λh=>h.imp Wt id,λh=>h.imp Wt id⟩
theorem iS {p:α->Tn}{l:R4 α}:(l.filter p).isEmpty=l.all λx=>!p x:=by
 induction l with
 |nil=>rfl
 |cons a l ih=>
  rw[TJ,Xb];by_cases h:p a=Sn;·rw[Sv h,h];rfl
  ·rw[Sq h,ih,ZH.mpr h];rfl
theorem jV {f:α->β}{l:R4 α}:(l.map f).isEmpty=l.isEmpty:=by
 cases l<;>rfl
variable{m:SH}
theorem jC {x y:V}(h1:sq H x Sf vs)(h2:sq H y Sf [])(q:Q (.bool vs.isEmpty) ⟨l,H⟩):iA x y ⟨l,H⟩ Q:=by
 have e:vs.isEmpty=(vs.isEmpty && ([]:R4 V).isEmpty):=(Wo _).symm;rw[e]at q;unfold iA;exact⟨_,.ss x y vs [] (h1 l) (h2 l) (.inr rfl),q⟩
theorem IV (q:Q (.bool (Ul (x∈r))) J):xU (.int x) (.bF b (bH r)) J Q:=by
 refine OX (λy hy=>?_) (by rw[ND];exact q);obtain⟨z,_,rfl⟩:=SL.mp hy;exact .i x z
theorem uR {p:Sj->Tn}:(c.all λx=>!p x)= !c.any p:=by
 induction c with
 |nil=>rfl
 |cons x c ih=>rw[Xb,UK,ih,Bool.not_or]
theorem IW {w0 w2:Si V}(hc:sr H xc (.seq b (cs.map tup)))(cz:cs.length<=10000)(wz: ∀c∈cs,c.length<=1000):
  Ev (Z (ac 1) λx0=>Z (oA [("clause",Sg),("row",R3 3)] (Z (ac 0) λx1=>Z (oA [("lit",Sg),("row",R3 1)] (Z (ac 0) λx2=>Z (ac 1) λx3=>Z (xU x2 x3) aj) (ac 0) x1) λl2=>Z (bf l2) λx3=>Z (aR bf []) λx4=>Z (iA x3 x4) aj) (ac 0) x0) λl1=>Z (bf l1) λx2=>Z (aR bf []) λx3=>Z (iA x2 x3) aj)
   ⟨lo [w0,R3 xc,w2,R3 (rv r)],H⟩ (cs.all (sat r)):=by
 intro Q q;refine aeE (enc:=tup) (p:=λc=>!sat r c) (f:=tup) hc (SJ cz (R5 rfl)) (λc hcm=>⟨λQ q=>?_,λO Q q=>q⟩) (aP (S7 _) (jC ay ay ?_))
 ·refine mX (b:=Sn) (c:=c) (λx=>decide (x∈r)) V.int (SJ (wz c hcm) (R5 rfl)) (λx O=>⟨λQ q=>IV q,λO Q q=>q⟩) (aP (S7 _) (jC ay ay ?_));rw[jV,iS,uR];exact q
 ·rw[jV,iS];have e:(cs.all λx=>!!sat r x)=cs.all (sat r):=SU cs.all (funext λx=>YN _);exact e▸(q)
theorem nW {pre:R4 (R4 Sj)}:cB (pre++[r]) cs=cB pre cs++if cs.all (sat r)=Sn then[r]else[]:=by
 unfold cB;rw[Wa,TJ];rfl
theorem qX :(cB rs cs).length<=rs.length:=Uo _ _
inductive MdI (m:SH)(xr xc:V)(cs:R4 (R4 Sj))(H:Hp)(pre:R4 (R4 Sj)):St->Prop
 |mk (w:Si V) (H':Hp):H' ⟨13,m⟩=R3 (.list ((cB pre cs).map rv))->Xt H H'->MdI m xr xc cs H pre ⟨lo [R3 xr,R3 xc,R3 (.ref ⟨13,m⟩),w],H'⟩
theorem Xt.Nx {a:Ad}(f:Xt H H')(h:H a=Sg):Xt H (aK H' a so):=λb o e=>(aO λz=>by replace e:=h▸z▸e;cases e).trans (f b o e)
theorem nq {xr:V}{b':Tn}(hr: ∀H',Xt H H'->sr H' xr (.seq b (rs.map rv)))(hc: ∀H',Xt H H'->sr H' xc (.seq b' (cs.map tup)))(rz:rs.length<=1000)(cz:cs.length<=10000)(wz: ∀c∈cs,c.length<=1000)
  (q: ∀m H',H ⟨13,m⟩=Sg->H' ⟨13,m⟩=R3 (.list ((cB rs cs).map rv))->Xt H H'->Q (.ref ⟨13,m⟩) ⟨l,H'⟩):fA T [xr,xc] ⟨l,H⟩ Q:=by
 unfold fA;refine bJ 2 rfl (aP (S7 _) (eh 13 λm hm=>bj rfl rfl (fm (S:=.seq b (rs.map rv)) (f:=rv) (c:=rs) (λpre J=>MdI m xr xc cs H pre J) rfl (by show(rs.map rv).length<=big;rw[Sa];unfold big;exact yN [_] [] 0xf3e83c050f42405c054 rfl rz) (λpre J h=>?_) ⟨Sg,_,aw,Xt.new hm⟩ (λpre r gD J he h K hK=>?_) λJ h=>?_)))
 ·induction h with
  |mk w H' h1 f=>exact hr H' f _
 ·induction h with
  |mk w H' h1 f=>
   have ml:((cB pre cs).map rv).length<=big:=by have i1:=SU Vl he;rw[Sr]at i1;have:=qX (rs:=pre) (cs:=cs);rw[Sa];unfold big;exact yN [_,_,_,_] [] 0xf205032b1323e83c150f42405c054 rfl rz i1 this
   refine bj rfl rfl (Hr (IW (hc H' f) cz wz) (λe=>fh h1 (eK h1 ml (hK _ ⟨_,_,aw.trans ?_,f.Nx hm⟩))) λe=>hK _ ⟨_,_,h1.trans ?_,f⟩);·rw[nW,Sv e,SN];rfl
   ·rw[nW,Sq (by rw[e];decide),Tw]
 ·induction h with
  |mk w H' h1 f=>exact q m H' hm h1 f
end
section
noncomputable def lf (ks c:R4 Sj):R4 Sj:=c.filter λx=>!decide (-x∈ks)
def Quiet (ks c:R4 Sj):Prop:=(∃x∈c,x∈ks)\/2<=(lf ks c).length
def HD (H:Hp)(m:SH)(ks:R4 Sj):Prop:=∃kvs ep,H ⟨14,m⟩=R3 (.dict kvs ep)/\kvs.map (·.1)=ks
def cnt (N:SH)(ks:R4 Sj):SH:=((DP N).filter λx=>decide (x∉ks)).length
noncomputable def Ao (ks:R4 Sj)(x:Sj):R4 Sj:=if x∈ks then ks else ks++[x]
theorem iy {y:Sj}:y∈Ao ks x↔y∈ks\/y=x:=by
 unfold Ao;by_cases h:x∈ks;·rw[Sv h];exact⟨.inl,λz=>z.elim id λe=>e▸h⟩
 ·rw[Sq h,Sl,R8]
theorem NE (h:x∉ks)(hv:1<=x.natAbs/\x.natAbs<=N):cnt N (Ao ks x)<cnt N ks:=by
 unfold cnt;refine filter_lt (λy hy e=>?_) ⟨x,wN hv,Th h,Ti λz=>z (iy.mpr (.inr rfl))⟩;have e:=SB e;exact Th λz=>e (iy.mpr (.inl z))
theorem D7 {l:Sj}(hn:c.Nodup)(h: ∀x∈c,x=l):c.length<=1:=by
 cases c with
 |nil=>exact S7 _
 |cons a r=>
  cases r with
  |nil=>exact S8 _
  |cons b r=>have e1:=h a Se;have e2:=h b (SQ _ Se);exact Sw (e1.trans e2.symm) ((V8.mp hn).1 b Se)
variable{D:R4 (R4 Sj)}{A:R4 Sj}
theorem tm (hD: ∀c∈D,Cl N c)(hA: ∀a∈A,a∈ks)(hq: ∀c∈D,Quiet ks c)(hc: ∀x∈ks,-x∉ks){l:Sj}(h:js D A l):l∈ks:=by
 induction h with
 |bU h=>exact hA _ h
 |@unit c l h1 h2 _ ih=>
  rcases hq c h1 with ⟨x,hx,hk⟩ |h
  ·by_cases e:x=l;·exact e▸hk
   ·exact Sw (ih x hx e) (hc x hk)
  ·refine Sw h (VW.mpr (VM (D7 (l:=l) ((hD c h1).nd.filter _) λx hx=>?_)));obtain⟨hx,hn⟩:=TQ.mp hx;exact Vi λe=>by replace hn:=(Th (ih x hx e))▸hn;cases hn
theorem xh (hD: ∀c∈D,Cl N c)(hA: ∀a∈A,a∈ks)(hk: ∀x∈ks,js D A x)(hq: ∀c∈D,Quiet ks c):(!(ks.filter λx=>decide (-x∈ks)).isEmpty)=Sn↔b7 D A:=by
 rw[iS,uR (p:=λx=>decide (-x∈ks)),YN,Ut];constructor
 ·rintro⟨x,hx,hn⟩;exact .inr ⟨x,hk x hx,hk _ (SB hn)⟩
 ·intro h;refine Vi λhn=>?_;have hc: ∀x∈ks,-x∉ks:=λx hx z=>hn ⟨x,hx,Th z⟩;rcases h with h |⟨l,h1,h2⟩
  ·rcases hq [] h with ⟨x,hx,_⟩ |h;·cases hx
   ·exact Sw (show 2<=0 from h) (by decide)
  ·exact hc l (tm hD hA hq hc h1) (tm hD hA hq hc h2)
theorem aaF (h:lf ks c=[]): ∀x∈c,-x∈ks:=λx hx=>Vi λz=>by
 have:x∈lf ks c:=TQ.mpr ⟨hx,SU _ (Ti z)⟩;replace this:=h▸this;cases this
theorem aaG {y:Sj}(h:lf ks c=[y]):y∈c/\∀x∈c,x≠y->-x∈ks:=by
 have hy:y∈lf ks c:=by rw[h];exact Se
 refine⟨(TQ.mp hy).1,λx hx e=>Vi λz=>?_⟩;have:x∈lf ks c:=TQ.mpr ⟨hx,SU _ (Ti z)⟩;rw[h]at this;exact e (R8.mp this)
variable{m:SH}
theorem HD.frm (h:HD H m ks)(f:Xt H H'):HD H' m ks:=by
 obtain⟨kvs,ep,h1,h2⟩:=h;exact⟨kvs,ep,f _ _ h1,h2⟩
theorem HD.set (h:HD H m ks){v:V}(h1: -1000<=x)(h2:x<=1000){Q:Unit->St->Prop}(q: ∀H',HD H' m (Ao ks x)->At1 ⟨14,m⟩ H H'->Q () ⟨l,H'⟩):dg (.ref ⟨14,m⟩) (.int x) v ⟨l,H⟩ Q:=by
 obtain⟨kvs,ep,e1,e2⟩:=h;refine gU e1 h1 h2 λep'=>q _ ⟨cY kvs x v,ep',aw,?_⟩ λb hb=>aO hb;unfold Ao;by_cases hx:x∈ks;·rw[Sv hx,ti (e2▸hx),e2]
 ·rw[Sq hx,iN (cW.mpr (e2▸hx)),SN,e2];rfl
theorem HD.mem (h:HD H m ks)(q:Q (.bool (Ul (x∈ks))) ⟨l,H⟩):xU (.int x) (.ref ⟨14,m⟩) ⟨l,H⟩ Q:=by
 obtain⟨kvs,ep,e1,e2⟩:=h;refine Bu e1 ?_;exact fw▸e2▸(q)
theorem HD.nin (h:HD H m ks)(q:Q (.bool (!decide (x∈ks))) ⟨l,H⟩):lP (.int x) (.ref ⟨14,m⟩) ⟨l,H⟩ Q:=by
 obtain⟨kvs,ep,e1,e2⟩:=h;refine wA e1 ?_;exact fw▸e2▸(q)
end
section
variable{D:R4 (R4 Sj)}{A:R4 Sj}{m:SH}
noncomputable abbrev cL (xc xa:V)(m:SH)(b:Tn)(w4 w5 w6:Si V):R4 (Si V):=[R3 xc,R3 xa,R3 (.ref ⟨14,m⟩),R3 (.bool b),w4,w5,w6]
theorem Xt.at1 {a:Ad}{H2:Hp}(f:Xt H H')(hn:H a=Sg)(g:At1 a H' H2):Xt H H2:=λb o e=>(g b λz=>by replace e:=hn▸z▸e;cases e).trans (f b o e)
inductive CJ (N:SH)(D:R4 (R4 Sj))(A:R4 Sj)(xc xa:V)(m:SH)(H:Hp)(n:SH):St->Prop
 |mk (ks:R4 Sj) (b:Tn) (w4 w5 w6:Si V) (H':Hp):HD H' m ks->Xt H H'->(∀x∈ks,js D A x/\1<=x.natAbs/\x.natAbs<=N)->(∀a∈A,a∈ks)->(b=Sn->n=cnt N ks+1)->(b=Sf->∀c∈D,Quiet ks c)->
   CJ N D A xc xa m H n ⟨lo (cL xc xa m b w4 w5 w6),H'⟩
inductive CI (N:SH)(D:R4 (R4 Sj))(A:R4 Sj)(xc xa:V)(m:SH)(H:Hp)(n:SH)(pre:R4 (R4 Sj)):St->Prop
 |mk (ks:R4 Sj) (b:Tn) (w4 w5 w6:Si V) (H':Hp):HD H' m ks->Xt H H'->(∀x∈ks,js D A x/\1<=x.natAbs/\x.natAbs<=N)->(∀a∈A,a∈ks)->(b=Sn->cnt N ks<n)->(b=Sf->cnt N ks=n/\∀c∈pre,Quiet ks c)->
   CI N D A xc xa m H n pre ⟨lo (cL xc xa m b w4 w5 w6),H'⟩
theorem uS {xa:V}{pre gD:R4 (R4 Sj)}{Q:Fl->St->Prop}{K:St->Prop}(h:CI N D A xc xa m H n pre J)(hN:N<=100)(hm:H ⟨14,m⟩=Sg)(he:D=pre++c::gD)(hc:Cl N c)
  (hT: ∀(l:SH->Si V) H',b7 D A->Xt H H'->Q (.ret (.bool Sn)) ⟨l,H'⟩) (hK: ∀bD,CI N D A xc xa m H n (pre++[c]) bD->K bD):stI 5 (tup c) J λO ak=>ky T ak (AW Q K):=by
 have hcD:c∈D:=mem_mid he;have cz:c.length<=big:=by have:=hc.len;unfold big;exact yN [_,_] [] 0xf1a050642c150f42405c054 rfl hN this
 induction h with
 |mk ks b w4 w5 w6 H1 hd x1 hk ha b1 b0=>
  have old: ∀{c':R4 Sj},c'∈pre++[c]->(Quiet ks c)->(∀c∈pre,Quiet ks c)->Quiet ks c':=λh hq hp=>(Sl.mp h).elim (hp _) λz=>by exact(R8.mp z)▸(hq)
  have any:((c.filter λx=>decide (x∈ks)).map V.int).isEmpty= !c.any λx=>decide (x∈ks):=by rw[jV,iS,uR (p:=λx=>decide (x∈ks))]
  refine bj rfl rfl (mX (b:=Sn) (c:=c) (λx=>decide (x∈ks)) V.int cz (λx O=>⟨λQ q=>hd.mem q,λO Q q=>q⟩) (aP (S7 _) (ie ay ay ?_)));rw[any,YN];refine⟨λe=>?_,λe=>?_⟩
  ·obtain⟨x,hx,hx2⟩:=Ut.mp e;exact hK _ ⟨ks,b,w4,_,w6,H1,hd,x1,hk,ha,b1,λe=>⟨(b0 e).1,λc' h=>old h (.inl ⟨x,hx,SB hx2⟩) (b0 e).2⟩⟩
  have Sg: ∀x∈c,x∉ks:=λx hx z=>by have:=ZC.mp e x hx;replace this:=(Th z)▸this;exact this rfl
  refine mX (b:=Sn) (c:=c) (λx=>!decide (-x∈ks)) V.int cz (λx O=>⟨λQ q=>hd.nin q,λO Q q=>q⟩) (bj rfl rfl (aP (S7 _) (jC ay ay ?_)));have eL:(c.filter λx=>!decide (-x∈ks))=lf ks c:=rfl;refine eL▸?_;have lz:((lf ks c).map V.int).length<=big:=by rw[Sa];exact SJ (Uo _ _) cz
  refine⟨λe=>?_,λe=>?_⟩
  ·refine hT _ H1 (b7.of hcD λx hx=>(hk _ (aaF (ks:=ks) ?_ x hx)).1) x1;rw[jV]at e;exact XR.mp e
  refine ci ay lz (i7 ⟨λe1=>?_,λe1=>?_⟩)
  ·have e1:((lf ks c).map V.int).length=1:=by have:=eq_of_beq e1;exact SK (yN [_] [] 0xf11c15311c054 rfl this) (yN [_] [] 0xf11c133011c54 rfl this)
   rw[Sa]at e1;obtain⟨y,hy⟩:=VI.mp e1;obtain⟨yc,yo⟩:=aaG hy;have yv:=hc.var y yc;refine hy▸?_;refine bS (v:=.int y) ay (show 1<=1000000 by decide) rfl (hd.set (yZ [_,_] [_] 0xf301f510150642c05003e83d55 rfl hN yv.2 (sb _)) (yZ [_,_] [_] 0xf30510150642c0503e83c055 rfl hN yv.2 Ts) λH2 hd2 f2=>bj rfl rfl (hK _ ⟨Ao ks y,Sn,w4,_,_,H2,hd2,x1.at1 hm f2,λx hx=>(iy.mp hx).elim (hk x) λz=>?_,λa h=>iy.mpr (.inl (ha a h)),λO=>?_,λz=>gV z⟩))
   ·refine z▸?_;exact⟨.unit hcD yc λx hx hxy=>(hk _ (yo x hx hxy)).1,yv⟩
   ·have lt:=NE (N:=N) (Sg y yc) yv;cases b with
    |true=>exact WN lt (b1 rfl)
    |false=>exact(b0 rfl).1▸lt
  ·refine hK _ ⟨ks,b,w4,_,_,H1,hd,x1,hk,ha,b1,λe2=>⟨(b0 e2).1,λc' h=>old h (.inr ?_) (b0 e2).2⟩⟩;have n0:lf ks c≠[]:=λz=>by replace e:=z▸e;cases e
   have n1:(lf ks c).length≠1:=λz=>by rw[Sa,z]at e1;exact gV e1
   have n2:0<(lf ks c).length:=List.length_pos_iff.mpr n0;lia
end
section
variable{D:R4 (R4 Sj)}{A:R4 Sj}{m:SH}
inductive CA (N:SH)(D:R4 (R4 Sj))(A:R4 Sj)(xc xa:V)(m:SH)(H:Hp)(pre:R4 Sj):St->Prop
 |mk (ks:R4 Sj) (w4:Si V) (H':Hp):HD H' m ks->Xt H H'->(∀x∈ks,x∈A)->(∀a∈pre,a∈ks)->CA N D A xc xa m H pre ⟨lo (cL xc xa m Sn w4 Sg Sg),H'⟩
theorem aeF :cnt N ks<=2*N:=by
 unfold cnt;exact SJ (Uo _ _) (by rw[wO];exact S8 _)
theorem Ap {bb:Tn}(hc: ∀H',Xt H H'->sr H' xc (.seq bb (D.map tup)))(hD: ∀c∈D,Cl N c)(hN:N<=100)(dz:D.length<=10000)(hA: ∀a∈A,1<=a.natAbs/\a.natAbs<=N)(Az:A.length<=1000)
  (q: ∀b H',(b=Sn↔b7 D A)->Xt H H'->Q (.bool b) ⟨l,H'⟩):iu T [xc,.bF Sf (bH A)] ⟨l,H⟩ Q:=by
 unfold iu;have Az':A.length<=big:=by unfold big;exact yN [_] [] 0xf3e83c050f42405c054 rfl Az
 have JK:(D.map tup).length<=big:=by rw[Sa];unfold big;exact yN [_] [] 0xf27104c050f42405c054 rfl dz
 refine bJ 5 rfl (kQ 14 λm ep hm=>aP (show 2<=1000000 by decide) (s8 rfl (bj rfl rfl (bj rfl rfl ?_))));refine fm (S:=.seq Sf (bH A)) (f:=V.int) (c:=A) (λpre J=>CA N D A xc (.bF Sf (bH A)) m H pre J) rfl (by show(bH A).length<=big;rwa [ag]) (λpre J h=>?_) ⟨[],Sg,_,⟨[],ep,aw,rfl⟩,Xt.new hm,(λx h=>nomatch h),(λx h=>nomatch h)⟩ (λpre y gD J he h K hK=>?_) λJ h=>?_;·cases h;rfl
 ·have hy:=hA y (mem_mid he);induction h with
  |mk ks w4 H1 hd x1 h1 h2=>refine bj rfl rfl (hd.set (yZ [_,_] [_] 0xf301f510150642c05003e83d55 rfl hN hy.2 (sb _)) (yZ [_,_] [_] 0xf30510150642c0503e83c055 rfl hN hy.2 Ts) λH2 hd2 f2=>hK _ ⟨Ao ks y,_,H2,hd2,x1.at1 hm f2,λx hx=>(iy.mp hx).elim (h1 x) λz=>z▸mem_mid he,λa ha=>iy.mpr ?_⟩);exact(Sl.mp ha).imp (h2 a) λz=>R8.mp z
 induction h with
 |mk ks w4 H1 hd x1 h1 h2=>
  refine gL (λn J=>CJ N D A xc (.bF Sf (bH A)) m H n J) (cnt N ks+1) ⟨ks,Sn,w4,Sg,Sg,H1,hd,x1,λx hx=>⟨.bU (h1 x hx),hA x (h1 x hx)⟩,h2,λO=>rfl,λz=>gV z⟩ λn J h K hK=>?_;induction h with
  |mk ks b w4 w5 w6 H1 hd x1 hk ha b1 b0=>
   cases b with
   |true=>
    have en:n=cnt N ks+1:=b1 rfl;refine⟨λO=>?_,(λz=>gV z)⟩;refine bj rfl rfl (fm (S:=.seq bb (D.map tup)) (f:=tup) (c:=D) (λpre J=>CI N D A xc (.bF Sf (bH A)) m H (cnt N ks) pre J) rfl JK (λpre J h=>?_) ⟨ks,Sf,w4,w5,w6,H1,hd,x1,hk,ha,(λz=>dq z),λO=>⟨rfl,λc h=>jY h⟩⟩ (λpre c gD J he h K' hK'=>?_) λJ h=>?_)
    ·induction h with
     |mk ks b w4 w5 w6 H2 _ x2=>exact hc H2 x2 _
    ·exact uS h hN hm he (hD c (mem_mid he)) (λl' H2 tO x2=>q Sn H2 ⟨λO=>tO,λO=>rfl⟩ x2) hK'
    ·induction h with
     |mk ks' b' w4 w5 w6 H2 hd2 x2 hk2 ha2 c1 c0=>
      cases b' with
      |true=>exact hK (cnt N ks'+1) _ (by have:=c1 rfl;exact yN [_,_,_] [] 0xf20a502a13210aa54 rfl en this) ⟨ks',Sn,_,_,_,H2,hd2,x2,hk2,ha2,λO=>rfl,λz=>gV z⟩
      |false=>exact hK 0 _ (yN [_,_] [] 0xf1a032001ca54 rfl en) ⟨ks',Sf,_,_,_,H2,hd2,x2,hk2,ha2,(λz=>dq z),λO=>(c0 rfl).2⟩
   |false=>refine⟨(λz=>dq z),λO=>?_⟩;obtain⟨kvs,ep,e1,e2⟩:=id hd;exact O8 (S:=.dict kvs ep) (c:=ks) (x:=.ref ⟨14,m⟩) V.int (λx=>decide (-x∈ks)) V.int (o0 e1) (by rw[<-e2,Tg];rfl) TK (λx O=>⟨λQ q=>hd.mem q,λO Q q=>q⟩) (aP (S7 _) (ie ay ay (q _ H1 (by rw[jV];exact xh hD ha (λx hx=>(hk x hx).1) (b0 rfl)) x1)))
end
section
variable{D:R4 (R4 Sj)}{A:R4 Sj}{m:SH}
theorem qY {S:R4 (R4 Sj)}(h:S[i]? =R3 c)(hn: ¬b7 (D++S.take i) (hZ c))(k:SH):fault (D++S.take i) (S.drop i) k=k:=by
 obtain⟨hi,e⟩:=R6.mp h;refine(Uh hi)▸e▸?_;exact Sq hn
theorem xj {S:R4 (R4 Sj)}(h:S[i]? =R3 c)(hn:b7 (D++S.take i) (hZ c))(k:SH):fault (D++S.take i) (S.drop i) k=fault (D++S.take (i+1)) (S.drop (i+1)) (k+1):=by
 obtain⟨hi,e⟩:=R6.mp h;rw[Uh hi,e,Wj,h,<-TG];exact Sv hn
theorem o7 {S:R4 (R4 Sj)}(h:S[i]? =R3 c):gE (S.map tup) (i:Sj)=R3 (tup c):=eX (by rw[Sx,h];rfl)
inductive FI (D S:R4 (R4 Sj))(w0 w1 w2:V)(m:SH)(H:Hp)(i:SH):St->Prop
 |mk (w4:Si V) (H':Hp):Xt H H'->H' ⟨15,m⟩=R3 (.range 0 (S.length:Sj))->fault D S 0=fault (D++S.take i) (S.drop i) i->FI D S w0 w1 w2 m H i ⟨lo [R3 w0,R3 w1,R3 w2,R3 (.bF Sf (S.map tup)),w4],H'⟩
theorem xk {g:R4 Sj}(hc: ∀H',Xt H H'->sr H' xc (.seq b (D.map tup)))(hD: ∀c∈D,Cl N c)(hL: ∀c∈L++[g],Cl N c)(hN:N<=100)(dz:D.length+L.length<=5000)
  (q: ∀H',Xt H H'->Q (.int (fault D (L++[g]) 0)) ⟨l,H'⟩):gO T [xc,.bF Sf (L.map tup),tup g] ⟨l,H⟩ Q:=by
 unfold gO;have lz:(L.map tup).length<=big:=by rw[Sa];unfold big;exact yN [_,_] [] 0xf13884c01b50f42405c054 rfl dz
 have JK:(D.map tup).length<=big:=by rw[Sa];unfold big;exact yN [_,_] [] 0xf13884c10b50f42405c054 rfl dz
 refine bJ 2 rfl (iM fK lz (aP (show 1<=1000000 by decide) (eV ay ay lz (show 1<=1000000 by decide) (bj rfl rfl ?_))));have eS:L.map tup++[tup g]=(L++[g]).map tup:=by rw[SN];rfl
 refine eS▸?_;have sl:(L++[g]).length=L.length+1:=bw;generalize L++[g]=S at hL q sl eS ⊢;have sz:(S.map tup).length<=big:=by rw[Sa];unfold big;exact yN [_,_,_] [] 0xf2a05213884c21b50f42405c054 rfl dz sl
 refine ci ay sz ?_;rw[Sa];refine uN (eh 15 λm hm=>?_);refine sX (S:=.kH 0 (S.length:Sj)) (λi J=>FI D S xc (.bF Sf (L.map tup)) (tup g) m H i J) ⟨by decide,by decide,yZ [_] [] 0xf1f42405d55 rfl,yZ [_,_,_] [] 0xf2a05213884c21b50f42405c155 rfl dz sl⟩ (λi J h=>?_) ⟨Sg,_,Xt.new hm,aw,by rw[Ym,Tw];rfl⟩ (λi v J hv h K hK=>?_) λJ h=>?_
 ·induction h with
  |mk w4 H' x1 h1 _=>exact kR h1 _
 ·obtain⟨hi,ev⟩:=mm hv;subst ev;obtain⟨c,JL⟩: ∃c,S[i]? =R3 c:=⟨S[i],SG hi⟩;have cc:=hL c (R9 JL);have cz:c.length<=1000:=by have:=cc.len;exact yN [_,_] [] 0xf1a050642c1503e83c054 rfl hN this
  induction h with
  |mk w4 H1 x1 h1 e=>
   refine bj rfl rfl (iM (hc H1 x1) JK (kW ay sz (eV ay ay JK (by rw[S9];exact yN [_,_,_] [] 0xf205012501054 rfl sz (TT _ _)) (bS ay sz (o7 JL) (mX (b:=Sn) (c:=c) (λO=>Sn) (λx=>.int (-x)) (by unfold big;exact yN [_] [] 0xf3e83c050f42405c054 rfl cz) (λx O=>⟨λQ q=>q,λO Q q=>q⟩) ?_)))));have e1:D.map tup++(S.map tup).take i=(D++S.take i).map tup:=by rw[SN,Vb]
   have e2:(c.filter λO=>Sn).map (λx=>V.int (-x))=bH (hZ c):=by rw[Uj.mpr λO O=>rfl];unfold bH hZ;rw[Tg];rfl
   refine e1▸e2▸?_;refine Ap (bb:=Sf) (D:=D++S.take i) (A:=hZ c) (λO O=>fK) (λc' h=>(Sl.mp h).elim (hD c') λh=>hL c' (TU h)) hN (by rw[Sr,S9];exact yN [_,_,_,_] [] 0xf31502a35213884c20b5027104c10b54 rfl dz sl (TT _ _)) (λa ha=>?_) (by unfold hZ;rw[Sa];exact cz) λb H2 hb x2=>?_
   ·obtain⟨x,hx,rfl⟩:=SL.mp ha;rw[S4];exact cc.var x hx
   ·cases b with
    |true=>exact⟨(λz=>dq z),λO=>hK _ ⟨_,H2,x1.trans x2,x2 _ _ h1,e.trans (xj JL (hb.mp rfl) i)⟩⟩
    |false=>refine⟨λO=>?_,(λz=>gV z)⟩;rw[qY JL (λz=>nomatch hb.mpr z) i]at e;show Q (.int (i:Sj)) _;refine e▸?_;exact q H2 (x1.trans x2)
 ·replace h:=aaE▸h;induction h with
  |mk w4 H1 x1 h1 e=>rw[VJ (S8 _)]at e;have e:fault D S 0= -1:=e;replace q:=e▸q;exact q H1 x1
end
section
variable{D:R4 (R4 Sj)}{A:R4 Sj}{m:SH}
theorem adp (q:Q (.bool Sn) J):Cr (.bF Sn vs) (.glob (.type "tuple")) J Q:=⟨_,.t vs,q⟩
inductive KI (c:R4 Sj)(H:Hp)(pre:R4 Sj):St->Prop
 |mk (a:Sj) (w:Si V):(∀x∈c,x∉pre->a<x.natAbs)->KI c H pre ⟨lo [R3 (tup c),R3 (.int a),w],H⟩
theorem uT (hc:Cl N c)(hN:N<=100)(q:Q (.bool Sn) ⟨l,H⟩):fg T [tup c] ⟨l,H⟩ Q:=by
 unfold fg;have cz:(bH c).length<=big:=by rw[ag];have:=hc.len;unfold big;exact yN [_,_] [] 0xf1a050642c150f42405c054 rfl hN this
 refine bJ 2 rfl (bj rfl rfl ⟨Sn,.t _,λO=>?_,(λz=>gV z)⟩);refine fm (S:=.seq Sn (bH c)) (f:=V.int) (c:=c) (x:=tup c) (λpre J=>KI c H pre J) rfl cz (λpre J h=>rfl) ⟨0,Sg,λx hx O=>by have:=(hc.var x hx).1;exact yZ [_] [] 0xf011c50101ca55 rfl this⟩ (λpre y gD J he h K hK=>?_) λJ h=>?_
 ·induction h with
  |mk a w ha=>
   have hy:a<y.natAbs:=ha y (mem_mid he) (uv hc.nd he);refine bj rfl rfl ⟨Sn,.i y,(λz=>dq z),λO=>⟨Sf,.b y,(λz=>dq z),λO=>ad3 ⟨λz=>Sw (SB z) (λhh=>yF [_] [_] 0xf015110a51 rfl hy hh),λO=>?_⟩⟩⟩;refine⟨(λz=>dq z),λO=>bj rfl rfl (hK _ ⟨_,_,λx hx hn=>?_⟩)⟩;have e:=hc.up;rw[he]at e hx;rcases Sl.mp hx with h |h;·exact Sw (Su _ h) hn
   ·rcases SZ.mp h with h |h;·exact Sw (SA _ (R8.mpr h)) hn
    ·have:=(V8.mp (List.pairwise_append.mp e).2.1).1 x h;exact yZ [_,_] [] 0xf10a5031a55 rfl this
 ·induction h with
  |mk a w ha=>exact q
theorem adf {L:R4 (Si V)}{v:V}{Q:Unit->St->Prop}(h:ZP (i+1) L.length=Sn)(e:L.set i (R3 v)=L')(q:Q () ⟨lo L',H⟩):cC i v ⟨lo L,H⟩ Q:=by
 have:=bj h e q;unfold stI at this;exact this
theorem aaH {body:WM Fl}{x:V}{L:R4 (Si V)}{Q:Fl->St->Prop}(I:SH->St->Prop)(hz:vs.length<=big)(hS: ∀i J,I i J->gP J x=R3 (Sf,vs))(h0:I 0 J)
  (step: ∀i v J,vs[i]? =R3 v->I i J->∀K:St->Prop,(∀bD,I (i+1) bD->K bD)->Z (cC 4 (.int (i:Sj))) (λO=>cC 5 v) J λO ak=>body ak (AW Q K)) (fin: ∀J,I vs.length J->Q .next J):nP body x J Q:=by
 have key: ∀(n i:SH) (J:St),i+n=vs.length->I i J->sR x vs body i (vs.drop i) J Q:=by
  intro n;induction n with
  |zero=>intro i J e h;have e:i=vs.length:=e;subst e;refine ZR▸?_;exact⟨hS _ _ h,fin _ h⟩
  |succ n ih=>intro i J e h;have hi:i<vs.length:=yN [_,_,_] [] 0xf12a0b5210a54 rfl e;refine(Uh hi)▸?_;refine⟨hS _ _ h,?_⟩;exact step i _ J (SG hi) h (λbD=>sR x vs body (i+1) (vs.drop (i+1)) bD Q) (λbD h'=>ih (i+1) bD (SK (yN [_,_,_] [] 0xf21a0b52210ab54 rfl e) (yN [_,_,_] [] 0xf02a1b3221ab054 rfl e)) h')
 unfold nP;exact⟨vs,hS 0 J h0,hz,key vs.length 0 J (Xz _) h0⟩
inductive EI (T:Tp)(N:SH)(D S:R4 (R4 Sj))(w0 w1 w2:V)(un:SH->SH)(H:Hp)(i:SH):St->Prop
 |mk (w4 w5:Si V) (u:Us) (H':Hp):bo T u H'->ia N (D++S.take i) u->u.tr=[]->u.n=un->bM 40 60 H H'->fault D S 0=fault (D++S.take i) (S.drop i) i->EI T N D S w0 w1 w2 un H i ⟨lo [R3 w0,R3 w1,R3 w2,R3 (.ref ⟨40,un 40⟩),w4,w5],H'⟩
theorem BL {g:R4 Sj}(hc: ∀H',bM 40 60 H H'->sr H' xc (.seq b (D.map tup)))(hD: ∀c∈D,Cl N c)(hL: ∀c∈L++[g],Cl N c)(hN:N<=50)(dz:D.length+L.length<4990)
  (q: ∀H',bM 40 60 H H'->Q (.int (fault D (L++[g]) 0)) ⟨l,H'⟩):jB T [xc,.bF Sf (L.map tup),tup g] ⟨l,H⟩ Q:=by
 unfold jB;have lz:(L.map tup).length<=big:=by rw[Sa];unfold big;exact yN [_,_] [] 0xf137e4c01ba50f42405c054 rfl dz
 refine bJ 3 rfl (Im (yN [_] [] 0xf322c050642c054 rfl hN) hD (yN [_,_] [] 0xf137e4c10ba5013884c054 rfl dz) hc λu H1 g1 k1 t1 f1=>bj rfl rfl (iM fK lz (aP (show 1<=1000000 by decide) (eV ay ay lz (show 1<=1000000 by decide) ?_))));have eS:L.map tup++[tup g]=(L++[g]).map tup:=by rw[SN];rfl
 refine eS▸?_;have sl:(L++[g]).length=L.length+1:=bw;generalize L++[g]=S at hL q sl eS ⊢;have sz:(S.map tup).length<=big:=by rw[Sa];unfold big;exact yN [_,_,_] [] 0xf2a052137e4c21ba50f42405c054 rfl dz sl
 refine aaH (L:=[]) (λi J=>EI T N D S xc (.bF Sf (L.map tup)) (tup g) u.n H i J) sz (λO O O=>rfl) ⟨Sg,Sg,u,H1,g1,by rw[Ym,Tw];exact k1,t1,rfl,f1,by rw[Ym,Tw];rfl⟩ (λi v J hv h K hK=>?_) λJ h=>?_
 ·rw[Sx]at hv;obtain⟨c,JL,ev⟩:=SR.mp hv;subst ev;have cc:=hL c (R9 JL);have hi:=(R6.mp JL).1;induction h with
  |mk w4 w5 u2 H2 g2 k2 t2 n2 f2 e=>
   have dl:(D++S.take i).length<5000:=by rw[Sr,S9];exact yN [_,_,_,_] [] 0xf31502a352137e4c20ba5013884c10ba54 rfl dz sl (TT _ _)
   have s2:H2 ⟨40,u.n 40⟩=R3 (.inst T.U ⟨41,u2.n 41⟩):=by exact n2▸(g2.self)
   refine adf rfl rfl (IQ (adf rfl rfl (uT cc (yN [_] [] 0xf322c050642c054 rfl hN) ⟨(λz=>dq z),λO=>cE s2 g2.dict (zv g2 (n2▸rfl) k2 t2 hN cc λu3 H3 b g3 k3 t3 n3 f3 hb=>?_)⟩)));cases b with
   |true=>
    have s3:H3 ⟨40,u.n 40⟩=R3 (.inst T.U ⟨41,u3.n 41⟩):=by exact n2▸n3▸(g3.self)
    refine⟨(λz=>dq z),λO=>cE s3 g3.dict (Hw g3 (by rw[n3,n2]) k3 t3 cc (yN [_] [] 0xf322c050642c054 rfl hN) dl λu4 H4 g4 k4 t4 n4 f4=>hK _ ⟨_,_,u4,H4,g4,?_,t4,n4.trans (n3.trans n2),f2.trans (f3.trans f4),e.trans (xj JL (hb.mp rfl) i)⟩)⟩;rw[Wj,JL,<-TG];exact k4
   |false=>
    rw[qY JL (λz=>nomatch hb.mpr z) i]at e;refine⟨λO=>ci ay lz (i7 ⟨λO=>?_,λO=>?_⟩),(λz=>gV z)⟩
    ·show Q (.int (i:Sj)) _;rw[<-e];exact q H3 (f2.trans f3)
    ·show Q (.int (i:Sj)) _;rw[<-e];exact q H3 (f2.trans f3)
 ·rw[Sa]at h;induction h with
  |mk w4 w5 u2 H2 g2 k2 t2 n2 f2 e=>rw[VJ (S8 _)]at e;have e:fault D S 0= -1:=e;replace q:=e▸q;exact q H2 f2
end
section
variable{D:R4 (R4 Sj)}{A:R4 Sj}{m:SH}
theorem BM (h:r∈cr (n+1)): ∃r'∈cr n,r=r'++[(n:Sj)+1]\/r=r'++[-((n:Sj)+1)]:=by
 obtain⟨r',h',h2⟩:=Wx.mp h;exact⟨r',h',(SZ.mp h2).imp id λz=>R8.mp z⟩
theorem IX : ∀{r:R4 Sj},r∈cr n->∀x∈r,1<=x.natAbs/\x.natAbs<=n:=by
 induction n with
 |zero=>intro r h x hx;rw[R8.mp h]at hx;exact Sw hx Sy
 |succ n IH=>
  intro r h x hx;obtain⟨r',h',e⟩:=BM h;have ih:=IH h';rcases e with e |e<;>rw[e]at hx<;>rcases Sl.mp hx with z |z;·have:=ih x z;exact⟨yN [_] [] 0xf011c50011c54 rfl this.1,yN [_,_] [] 0xf10501a054 rfl this.2⟩
  ·rw[R8.mp z];exact⟨yN [_,_] [] 0xf13a51011c54 rfl Ts,yN [_,_] [] 0xf3a1511a054 rfl (jX (yZ [_] [] 4053802069 rfl))⟩
  ·have:=ih x z;exact⟨yN [_] [] 0xf011c50011c54 rfl this.1,yN [_,_] [] 0xf10501a054 rfl this.2⟩
  ·rw[R8.mp z];exact⟨yN [_,_] [] 0xf13a1f1f51011c54 rfl (sb _),yN [_,_] [] 0xf3a1f1f1511a054 rfl (my (yZ [_] [] 0xf01c1a1f55 rfl))⟩
theorem nr : ∀{r:R4 Sj},r∈cr n->Full n r:=by
 induction n with
 |zero=>intro r h;refine(R8.mp h)▸?_;exact⟨(λx z=>jY z),λv h1 h2=>Sw (SJ h1 h2) (by decide)⟩
 |succ n jh=>
  intro r h;obtain⟨r',h',e⟩:=BM h;have ih:=jh h';have vr:=IX h';have key: ∀y:Sj,y.natAbs=n+1->Full (n+1) (r'++[y]):=λy hy=>by
   refine⟨λx hx z=>?_,λv h1 h2=>?_⟩
   ·rcases Sl.mp hx with a |a<;>rcases Sl.mp z with b |b;·exact ih.cons x a b
    ·have i1:=vr x a;have i2:=R8.mp b;rw[<-i2,S4]at hy;exact yF [_,_] [] 0xf10501a032 rfl hy i1.2
    ·have i1:=vr _ b;have i2:=R8.mp a;rw[<-i2]at hy;rw[S4]at i1;exact yF [_,_] [] 0xf10501a032 rfl hy i1.2
    ·have i1:=R8.mp a;have i2:=R8.mp b;exact yF [_,_] [_] 0xf01f15101511a022 rfl hy (jX (yZ [] [_,_] 0xf021f530253001c65 rfl i1 i2)) (my (yZ [] [_,_] 0xf021f33023301c065 rfl i1 i2))
   ·by_cases q:v.natAbs<=n;·exact(ih.all v h1 q).imp (Su _) (Su _)
    ·have:v=y\/-v=y:=(VC.mp ((show v.natAbs=n+1 by exact SK (yN [_,_] [] 0xf1a0501a054 rfl h2) (yN [_,_] [] 0xf015410a54 rfl q)).trans hy.symm)).imp_right λe=>(by rw[e,T5]);exact this.imp (λe=>SA _ (R8.mpr e)) λe=>SA _ (R8.mpr e)
  rcases e with e |e<;>rw[e]<;>exact key _ (by lia)
theorem NF {M:R4 Sj}(h: ∀v:Sj,1<=v->v<=n->v∈M\/-v∈M): ∃r∈cr n,∀x∈r,x∈M:=by
 induction n with
 |zero=>exact⟨[],Se,λx z=>jY z⟩
 |succ n ih=>
  obtain⟨r,hr,hm⟩:=ih λv h1 h2=>h v h1 (yZ [_] [_,_] 0xf1a23310512055 rfl h2 (Te _ _));have key: ∀y∈M,∀x∈r++[y],x∈M:=λy hy x hx=>(Sl.mp hx).elim (hm x) λz=>R8.mp z▸hy;rcases h ((n:Sj)+1) (yZ [_] [] 4053867605 rfl) (yZ [_] [_] 0xf1a03301a55 rfl (Te _ _))with z |z;·exact⟨_,Wx.mpr ⟨r,hr,Se⟩,key _ z⟩
  ·exact⟨_,Wx.mpr ⟨r,hr,SQ _ Se⟩,key _ z⟩
theorem sat_iff :sat r c=Sn↔holds r c:=by
 unfold sat holds;rw[Ut];exact⟨λzq=>by obtain⟨x,h,e⟩:=zq;exact⟨x,h,SB e⟩,λzq=>by obtain⟨x,h,e⟩:=zq;exact⟨x,h,Th e⟩⟩
theorem kY :r∈cB rs cs↔r∈rs/\∀c∈cs,holds r c:=by
 unfold cB;rw[TQ,TR];exact and_congr_right λO=>⟨λh c hc=>sat_iff.mp (h c hc),λh c hc=>sat_iff.mpr (h c hc)⟩
theorem D8 {M:R4 Sj}(hc: ∀x∈M,-x∉M)(ha: ∀v:Sj,1<=v->v<=N->v∈M\/-v∈M)(hD: ∀c∈D,holds M c)(hC: ∀c∈D,Cl N c):cB (cr N) D≠[]:=by
 obtain⟨r,hr,hm⟩:=NF ha;have:r∈cB (cr N) D:=kY.mpr ⟨hr,λc h=>by obtain⟨x,hx,hM⟩:=hD c h;have vx:=(hC c h).var x hx;refine⟨x,hx,((nr hr).all x vx.1 vx.2).elim id λz=>Sw (hm _ z) (hc x hM)⟩⟩;intro z;replace this:=z▸this;cases this
theorem xl (hD: ∀c∈L,Cl N c)(hR:fj D L)(hc:c∈L):cB (cB (cr N) D) [c]=cB (cr N) D:=by
 have: ∀r∈cB (cr N) D,[c].all (sat r)=Sn:=λr hr=>by have h:=kY.mp hr;refine TR.mpr λc' JD=>?_;rw[R8.mp JD];exact sat_iff.mpr (fj.holds (nr h.1) hD h.2 hR c hc)
 exact Uj.mpr this
theorem Cl.cut (h:Cl N c)(s:SH):Cl N (c.take s++c.drop (s+1)):=by
 have sub:(c.take s++c.drop (s+1)).Sublist c:=by have:=List.Sublist.append_left (List.drop_sublist_drop_left c (UW s)) (c.take s);rwa [VP]at this
 exact⟨h.up.sublist sub,λx hx=>h.var x (sub.subset hx)⟩
theorem NI {x y:R4 V}(h1:x.length<=big)(h2:y.length<=big)(q:Q (.bF Sn (x++y)) ⟨l,H⟩):bY mk (.bF Sn x) (.bF Sn y) ⟨l,H⟩ Q:=by
 unfold bY;exact .t x y h1 h2 q
theorem NK (h:vs.length<=big)(q:Q (.bF Sn (vs.take i)) ⟨l,H⟩):zf (.bF Sn vs) (.int (i:Sj)) ⟨l,H⟩ Q:=by
 unfold zf;exact⟨vs,i,rfl,rfl,h,q⟩
theorem NM (h:vs.length<=big)(q:Q (.bF Sn (vs.drop i)) ⟨l,H⟩):zg (.bF Sn vs) (.int (i:Sj)) ⟨l,H⟩ Q:=by
 unfold zg;exact⟨vs,i,rfl,rfl,h,q⟩
theorem BO {S:R4 (R4 Sj)}(h:S≠[]):X2 λL g=>S=L++[g]:=⟨S.dropLast,S.getLast h,(Yc h).symm⟩
theorem jD {g:R4 Sj}:gE ((L++[g]).map tup) (-1)=R3 (tup g):=by
 unfold gE;have e:((L++[g]).map tup).length=L.length+1:=by rw[Sa,bw]
 rw[Sq (by decide),Sv (by rw[e];exact yZ [_] [_] 0xf1a033011c55 rfl (Te _ _)),e,show(-1+((L.length+1:SH):Sj)).toNat=L.length by exact SK (yN [_,_] [_] 0xf3a053011db1531054 rfl (U3 (yZ [_] [_] 0xf1a033011db01c55 rfl (Te _ _))) (Te _ _)) (yN [_,_] [_] 0xf1a0333011db511054 rfl (Uy _) (Te _ _)),SN];rw[Ud (by rw[Sa];exact S8 _),Sa,XB];rfl
theorem qZ {g:R4 Sj}:((L++[g]).map tup).dropLast=L.map tup:=by
 rw[SN];exact List.dropLast_concat
end
section
variable{D:R4 (R4 Sj)}{A:R4 Sj}{m:SH}
def FL (H H':Hp):Prop:=∀b o,H b=R3 o->b.k≠1->(b.k<40\/60<=b.k)->H' b=R3 o
theorem FL.trans (f:FL H H')(g:FL H' mU):FL H mU:=λb o e h1 h2=>g b o (f b o e h1 h2) h1 h2
theorem FL.xt (f:Xt H H'):FL H H':=λb o e O O=>f b o e
theorem FL.f40 (f:bM 40 60 H H'):FL H H':=λb o e O h=>f b o e h
theorem FL.f1 (f:bM 1 2 H H'):FL H H':=λb o e h O=>f b o e (by lia)
theorem DR.xt (g:DR n H)(f:Xt H H'):DR n H':=g.frm (lo:=1000) (hi:=1000) (λb o e O=>f b o e) rfl
theorem IY {κ:V->V->WM α}{L:R4 (Si V)}{B:R4 (R4 Sj)}{Q:α->St->Prop}(h2:L[2]? =R3 (R3 xc))(hj:L[j]? =R3 (R3 (.bF Sf (B.map tup))))(hB:B≠[])(hC: ∀c∈B,Cl N c)(hN:N<=4)
  (hc: ∀H',FL H H'->sr H' xc (.seq b (D.map tup))) (hD: ∀c∈D,Cl N c) (dz:D.length+B.length<=4500) (g:DR n H) (q: ∀H',DR n H'->FL H H'->κ (.int (fault D B 0)) (.int (fault D B 0)) ⟨lo L,H'⟩ Q):
  Z (ac 2) (λx0=>Z (ac j) λx1=>Z (eJ bf x1 (.int (-1))) λx2=>Z (ac j) λx3=>Z (bT x3 (.int (-1))) λx4=>Z (jB T [x0,x2,x4]) λx5=>Z (ac 2) λx6=>Z (ac j) λx7=>Z (eJ bf x7 (.int (-1))) λx8=>Z (ac j) λx9=>Z (bT x9 (.int (-1))) λHN=>Z (gO T [x6,x8,HN]) λHO=>κ x5 HO) ⟨lo L,H⟩ Q:=by
 obtain⟨S,g',rfl⟩:=BO hB;have sz:((S++[g']).map tup).length<=big:=by rw[Sa];unfold big;exact yN [_,_] [] 0xf11944c01b50f42405c054 rfl dz
 have sl:(S++[g']).length=S.length+1:=bw;refine lR h2 (lR hj (jx ay sz (Hq (qA (lR hj (bS ay sz jD ?_))))));rw[qZ];refine BL (λH' f=>hc H' (.f40 f)) hD hC (yN [_] [] 0xf41c050322c054 rfl hN) (yN [_,_,_] [] 0xf1a23211944c20b50137e4c10ba54 rfl dz sl) λH1 f1=>qA (lR h2 (qA (lR hj (jx ay sz (Hq (qA (lR hj (bS ay sz jD ?_))))))));rw[qZ];exact xk (λH' f=>hc H' ((FL.f40 f1).trans (.xt f))) hD hC (yN [_] [] 0xf41c050642c054 rfl hN) (yN [_,_,_] [] 0xf1a23211944c20b5013884c10b54 rfl dz sl) λH2 x2=>q H2 ((g.frm f1 rfl).xt x2) ((FL.f40 f1).trans (.xt x2))
inductive LI (T:Tp)(L7:Si V->R4 (Si V))(H:Hp):St->Prop
 |mk (w:Si V) (H':Hp):Xt H H'->LI T L7 H ⟨lo (L7 w),H'⟩
theorem IZ {w1 w2:V}{Q:Fl->St->Prop}(h:H ⟨13,m⟩=R3 (.list ((cB (cr N) D).map rv)))(hN:N<=4)(hL: ∀c∈L,Cl N c)(lz:L.length<=4000)(hR:fj D L)
  (q: ∀w H',Xt H H'->Q .next ⟨lo [R3 w0,R3 w1,R3 w2,R3 (.bF Sf (L.map tup)),R3 w4,R3 (.ref ⟨13,m⟩),w,Sg,Sg,Sg,Sg,Sg],H'⟩):
  O3 T ⟨lo [R3 w0,R3 w1,R3 w2,R3 (.bF Sf (L.map tup)),R3 w4,R3 (.ref ⟨13,m⟩),Sg,Sg,Sg,Sg,Sg,Sg],H⟩ Q:=by
 have rz:(cr N).length<=16:=by rw[mr];exact Vq (n:=2) (j:=4) (by decide) hN
 have mz:(cB (cr N) D).length<=16:=SJ qX rz;refine fm (S:=.seq Sf (L.map tup)) (f:=tup) (c:=L) (λpre J=>LI T (λw=>[R3 w0,R3 w1,R3 w2,R3 (.bF Sf (L.map tup)),R3 w4,R3 (.ref ⟨13,m⟩),w,Sg,Sg,Sg,Sg,Sg]) H J) rfl (by show(L.map tup).length<=big;rw[Sa];unfold big;exact yN [_] [] 0xffa03c050f42405c054 rfl lz) (λpre J h=>?_) ⟨Sg,H,λO O e=>e⟩ (λpre c gD J he h' K hK=>?_) λJ h=>?_;·cases h;rfl
 ·have hc:c∈L:=mem_mid he;have cz:=(hL c hc).len;induction h' with
  |mk w H1 x1=>
   refine bj rfl rfl (aP (show 1<=1000000 by decide) (nq (b:=Sf) (b':=Sf) (rs:=cB (cr N) D) (cs:=[c]) (λH' f=>fM (f _ _ (x1 _ _ h))) (λO O=>fK) (yN [_] [] 0xf102c0503e83c054 rfl mz) (by show 1<=10000;decide) (λc' h=>by rw[R8.mp h];exact yN [_,_] [] 0xf1a05041c1503e83c054 rfl hN cz) λm2 H2 O h2 x2=>?_));rw[xl hL hR hc]at h2;have mz':((cB (cr N) D).map rv).length<=big:=by rw[Sa];unfold big;exact yN [_] [] 0xf102c050f42405c054 rfl mz
   refine ci (bq h2) mz' (ci (bq (x2 _ _ (x1 _ _ h))) mz' (Hh ⟨λz=>?_,λO=>hK _ ⟨_,H2,x1.trans x2⟩⟩));simp at z
 ·induction h with
  |mk w H1 x1=>exact q w H1 x1
end
section
variable{D:R4 (R4 Sj)}{A:R4 Sj}{m:SH}
theorem fj.left : ∀{D:R4 (R4 Sj)} {g:R4 Sj},fj D (L++[g])->fj D L:=by
 induction L with
 |nil=>intro D g h;trivial
 |cons a L ih=>intro D g h;exact⟨h.1,ih h.2⟩
theorem I0 {g:R4 Sj}{w1:V}{Q:Fl->St->Prop}(hc: ∀H',FL H H'->sr H' xc (.seq b (D.map tup)))(hD: ∀c∈D,Cl N c)(hL: ∀c∈L++[g],Cl N c)(hN:N<=4)(dz:D.length+L.length<=4000)(hR:fj D (L++[g]))(gd:DR n H)
  (q: ∀H',DR n H'->FL H H'->Q .next ⟨lo [R3 w0,R3 w1,R3 xc,R3 (.bF Sf (L.map tup)),R3 (tup g),Sg,Sg,Sg,Sg,Sg,Sg,Sg],H'⟩):
  O2 T ⟨lo [R3 w0,R3 w1,R3 xc,R3 (.bF Sf (L.map tup)),R3 (tup g),Sg,Sg,Sg,Sg,Sg,Sg,Sg],H⟩ Q:=by
 have e:=hR.fault (k:=0);refine BL (λH' f=>hc H' (.f40 f)) hD hL (yN [_] [] 0xf41c050322c054 rfl hN) (yN [_,_] [] 0xffa03c10b50137e4c10ba54 rfl dz) λH1 f1=>?_;rw[e];refine Hh ⟨(λz=>dq z),λO=>xk (λH' f=>hc H' ((FL.f40 f1).trans (.xt f))) hD hL (yN [_] [] 0xf41c050642c054 rfl hN) (yN [_,_] [] 0xffa03c10b5013884c10b54 rfl dz) λH2 x2=>?_⟩;rw[e];exact Hh ⟨(λz=>dq z),λO=>⟨(λz=>dq z),λO=>q H2 ((gd.frm f1 rfl).xt x2) ((FL.f40 f1).trans (.xt x2))⟩⟩
noncomputable def nY (S:R4 (R4 Sj))(k s:SH)(c:R4 Sj):R4 (R4 Sj):=S.take k++[c.take s++c.drop (s+1)]++S.drop (k+1)
noncomputable def Aq (S:R4 (R4 Sj))(k:SH):R4 (R4 Sj):=S.take k++S.drop (k+1)
theorem I1 {S:R4 (R4 Sj)}{s:SH}(h:k<S.length):(nY S k s c).length=S.length:=by
 unfold nY;rw[Sr,Sr,S9,UL];exact SK (yN [_,_,_,_] [] 0xf23a1b503050210ab54 rfl (Tr _ _) (i6 (yN [_,_] [] 0xf10a5010a54 rfl h))) (yN [_,_,_,_] [] 0xf31323a2b05021ab054 rfl (li _ _) (Ue (yN [_,_] [] 0xf10a501054 rfl h)))
theorem NN {S:R4 (R4 Sj)}{s:SH}:nY S k s c≠[]:=λz=>by
 unfold nY at z;exact adq (YM.mp (YM.mp z).1).2
theorem NP {S:R4 (R4 Sj)}{s:SH}(hS: ∀c∈S,Cl N c)(hc:c∈S): ∀c'∈nY S k s c,Cl N c':=λc' h=>by
 rcases Sl.mp h with h |h
 ·rcases Sl.mp h with h |h;·exact hS c' (TU h)
  ·rw[R8.mp h];exact(hS c hc).cut s
 ·exact hS c' (WX h)
theorem aaI {S:R4 (R4 Sj)}(hS: ∀c∈S,Cl N c): ∀c'∈Aq S k,Cl N c':=λc' h=>
 (Sl.mp h).elim (λh=>hS c' (TU h)) λh=>hS c' (WX h)
theorem NQ {S:R4 (R4 Sj)}:(Aq S k).length<=S.length:=by
 unfold Aq;rw[Sr,S9,UL];exact(UV _ _).elim (λbE=>yN [_,_,_,_] [] 0xf23a1b503050210b54 rfl (Tr _ _) (i6 (yN [_,_] [] 0xf10a5010a54 rfl bE))) (λbE=>yN [_,_,_] [] 0xf01c1502050210b54 rfl (TT _ _) (Of (yN [_,_] [] 0xf1a0501a054 rfl bE)))
theorem I3 {S:R4 (R4 Sj)}{s:SH}:(S.map tup).take k++[V.bF Sn ((bH c).take s++(bH c).drop (s+1))]++(S.map tup).drop (k+1)=(nY S k s c).map tup:=by
 have e:tup (c.take s++c.drop (s+1))=V.bF Sn ((bH c).take s++(bH c).drop (s+1)):=by unfold tup bH;rw[SN,Vb,Xa]
 unfold nY;rw[SN,SN,Vb,Xa,Tq,e];rfl
theorem NS {S:R4 (R4 Sj)}:(S.map tup).take k++(S.map tup).drop (k+1)=(Aq S k).map tup:=by
 unfold Aq;rw[SN,Vb,Xa]
abbrev NT (w0 w1 xc w3 w4 w5:V)(w6:Si V)(S:R4 (R4 Sj))(w8 w9 w10 w11:Si V):R4 (Si V):=[R3 w0,R3 w1,R3 xc,R3 w3,R3 w4,R3 w5,w6,R3 (.bF Sf (S.map tup)),w8,w9,w10,w11]
theorem I4 {S:R4 (R4 Sj)}{s:SH}{w1 w3 w5:V}{w10 w11:Si V}{Q:Fl->St->Prop}(hS:S[k]? =R3 c)(sz:S.length<=4000)(cz:c.length<=1000)
  (q:Q .next ⟨lo (NT w0 w1 xc w3 w4 w5 w6 S (R3 (.int (k:Sj))) (R3 (.int (s:Sj))) (R3 (.bF Sf ((nY S k s c).map tup))) w11),H⟩):
  O4 T ⟨lo (NT w0 w1 xc w3 w4 w5 w6 S (R3 (.int (k:Sj))) (R3 (.int (s:Sj))) w10 w11),H⟩ Q:=by
 have BP:(S.map tup).length<=big:=by rw[Sa];unfold big;exact yN [_] [] 0xffa03c050f42405c054 rfl sz
 have cz':(bH c).length<=big:=by rw[ag];unfold big;exact yN [_] [] 0xf3e83c050f42405c054 rfl cz
 refine kW ay BP (bS ay BP (o7 hS) (NK cz' (bS ay BP (o7 hS) (cO ?_))));refine NM (i:=s+1) cz' (NI (by rw[S9];exact yN [_,_,_] [] 0xf205012501054 rfl cz' (TT _ _)) (by rw[UL];exact yN [_,_,_] [] 0xf205012501054 rfl cz' (UH _ _)) (aP (show 1<=1000000 by decide) (eV ay ay (by rw[S9];exact yN [_,_,_] [] 0xf205012501054 rfl BP (TT _ _)) (show 1<=1000000 by decide) (cO ?_))));refine uK (i:=k+1) ay BP (eV ay ay ?_ (by rw[UL];exact yN [_,_,_] [] 0xf205012501054 rfl BP (UH _ _)) (bj rfl rfl ?_))
 ·rw[Sr,S9];rw[Sa];unfold big;exact yN [_,_] [] 0xf1050fa03c150f42405c0a54 rfl sz (TT _ _)
 ·exact I3▸(q)
theorem I5 {S:R4 (R4 Sj)}{w1 w3 w5:V}{w9 w10 w11:Si V}{Q:Fl->St->Prop}(sz:S.length<=4000)
  (q:Q .next ⟨lo (NT w0 w1 xc w3 w4 w5 w6 S (R3 (.int (k:Sj))) w9 w10 (R3 (.bF Sf ((Aq S k).map tup)))),H⟩):
  O5 T ⟨lo (NT w0 w1 xc w3 w4 w5 w6 S (R3 (.int (k:Sj))) w9 w10 w11),H⟩ Q:=by
 have BP:(S.map tup).length<=big:=by rw[Sa];unfold big;exact yN [_] [] 0xffa03c050f42405c054 rfl sz
 refine kW ay BP (cO (uK (i:=k+1) ay BP (eV ay ay (by rw[S9];exact yN [_,_,_] [] 0xf205012501054 rfl BP (TT _ _)) (by rw[UL];exact yN [_,_,_] [] 0xf205012501054 rfl BP (UH _ _)) (bj rfl rfl ?_))));exact NS▸(q)
theorem I6 {S B:R4 (R4 Sj)}{w1 w3 w5:V}{w9 w11:Si V}{Q:Fl->St->Prop}(hB:B≠[])(hC: ∀c∈B,Cl N c)(hN:N<=4)
  (hc: ∀H',FL H H'->sr H' xc (.seq b (D.map tup))) (hD: ∀c∈D,Cl N c) (dz:D.length+B.length<=4500) (g:DR n H) (q: ∀H',DR n H'->FL H H'->Q .next ⟨lo (NT w0 w1 xc w3 w4 w5 w6 S w8 w9 (R3 (.bF Sf (B.map tup))) w11),H'⟩):
  IB T ⟨lo (NT w0 w1 xc w3 w4 w5 w6 S w8 w9 (R3 (.bF Sf (B.map tup))) w11),H⟩ Q:=by
 unfold IB bK;refine IY (L:=NT w0 w1 xc w3 w4 w5 w6 S w8 w9 (R3 (.bF Sf (B.map tup))) w11) (j:=10) (κ:=λx y=>Z (ug x y) aj) (B:=B) (xc:=xc) rfl rfl hB hC hN hc hD dz g λH6 g6 f6=>Hh ⟨λz=>?_,λO=>q H6 g6 f6⟩;rw[TV]at z;exact dq z
theorem D9 {S B:R4 (R4 Sj)}{w1 w3 w5:V}{w9 w10:Si V}{Q:Fl->St->Prop}(hB:B≠[])(hC: ∀c∈B,Cl N c)(hN:N<=4)
  (hc: ∀H',FL H H'->sr H' xc (.seq b (D.map tup))) (hD: ∀c∈D,Cl N c) (dz:D.length+B.length<=4500) (g:DR n H) (q: ∀H' l',DR n H'->FL H H'->Q (.ret (.bool Sn)) ⟨l',H'⟩):
  Aj T ⟨lo (NT w0 w1 xc w3 w4 w5 w6 S w8 w9 w10 (R3 (.bF Sf (B.map tup)))),H⟩ Q:=by
 unfold Aj;refine IY (α:=Fl) (Q:=Q) (n:=n) (D:=D) (b:=b) (L:=NT w0 w1 xc w3 w4 w5 w6 S w8 w9 w10 (R3 (.bF Sf (B.map tup)))) (j:=11) (κ:=λx y=>Z (iA x y) λx12=>ae (.ret x12)) (B:=B) (xc:=xc) rfl rfl hB hC hN hc hD dz g λH6 g6 f6=>?_;refine qA (i7 ?_);rw[TV];exact q H6 _ g6 f6
theorem I7 {g:R4 Sj}(gd:DR n H)(hn:n<=90000)(hN:N<=4)(hc: ∀H',FL H H'->sr H' xc (.seq b (D.map tup)))(hD: ∀c∈D,Cl N c)(hL: ∀c∈L++[g],Cl N c)(hR:fj D (L++[g]))(dz:D.length+L.length<=3000)
  (q: ∀H',DR (n+2) H'->FL H H'->Q (.bool Sn) ⟨l,H'⟩):tj T [.ref ⟨1,0⟩,.bF Sf ((cr N).map rv),xc,.bF Sf (L.map tup),tup g] ⟨l,H⟩ Q:=by
 unfold tj;have lz:(L.map tup).length<=big:=by rw[Sa];unfold big;exact yN [_,_] [] 0xfbb83c01b50f42405c054 rfl dz
 have rz:(cr N).length<=16:=by exact mr▸(Vq (n:=2) (j:=4) (by decide) hN)
 have hL': ∀c∈L,Cl N c:=λc h=>hL c (Su _ h);refine bJ 7 rfl (I0 hc hD hL hN (yN [_,_] [] 0xfbb83c10b50fa03c10b54 rfl dz) hR gd λH1 g1 f1=>?_);refine nq (b:=Sf) (b':=b) (rs:=cr N) (cs:=D) (λO O=>fK) (λH' f=>hc H' (f1.trans (.xt f))) (yN [_] [] 0xf102c0503e83c054 rfl rz) (yN [_,_] [] 0xfbb83c10b5027104c054 rfl dz) (λc h=>by have:=(hD c h).len;exact yN [_,_] [] 0xf1a05041c1503e83c054 rfl hN this) λm H2 O h2 x2=>bj rfl rfl ?_;refine IZ h2 hN hL' (yN [_,_] [] 0xfbb83c01b50fa03c054 rfl dz) (fj.left hR) λw H3 x3=>iM fK lz (aP (show 1<=1000000 by decide) (eV ay ay lz (show 1<=1000000 by decide) (bj rfl rfl ?_)));have eS:L.map tup++[tup g]=(L++[g]).map tup:=by rw[SN];rfl
 refine eS▸?_;have sl:(L++[g]).length=L.length+1:=bw;generalize hw3:V.bF Sf (L.map tup)=w3;generalize hw4:tup g=w4;generalize L++[g]=S at hL hR sl eS ⊢;have g3:=(g1.xt x2).xt x3;have f3:=f1.trans ((FL.xt x2).trans (.xt x3));have BP:(S.map tup).length<=big:=by rw[Sa];unfold big;exact yN [_,_,_] [] 0xf2a052bb83c21b50f42405c054 rfl dz sl
 refine ci ay BP (BK g3 (yN [_] [] 0xf15f905c050186a05c054 rfl hn) (by rw[Sa];exact yZ [_,_] [] 0xf1a032101ca55 rfl sl) λr H4 g4 r0 r1 f4=>bj rfl rfl ?_);obtain⟨k,rfl⟩:=Ua r0;rw[Sa]at r1;have hk:k<S.length:=yN [_,_] [] 0xf31a5110a54 rfl r1;obtain⟨c,hck⟩: ∃c,S[k]? =R3 c:=⟨S[k],SG hk⟩;have hcm:=R9 hck;have cz:c.length<=1000:=by have:=(hL c hcm).len;exact yN [_,_] [] 0xf1a05041c1503e83c054 rfl hN this
 have cz':(bH c).length<=big:=by rw[ag];unfold big;exact yN [_] [] 0xf3e83c050f42405c054 rfl cz
 refine bS ay BP (o7 hck) (ci ay cz' (cO (BK g4 (yN [_] [] 0xf15f905c050186a05c0a54 rfl hn) (yZ [_] [] 64860834389 rfl) λr H5 g5 r2 O f5=>bj rfl rfl (aco ?_))));obtain⟨s,rfl⟩:=Ua r2;refine acn (acm ?_);refine I4 (w11:=Sg) hck (yN [_,_,_] [] 0xf2a052bb83c21b50fa03c054 rfl dz sl) cz ?_;have f5':=f3.trans ((FL.f1 f4).trans (.f1 f5));refine I6 NN (NP hL hcm) hN (λH' f=>hc H' (f5'.trans f)) hD (by rw[I1 hk];exact yN [_,_,_] [] 0xf2a152bb83c20b5011944c10b54 rfl dz sl) g5 λH6 g6 f6=>I5 (T:=T) (yN [_,_,_] [] 0xf2a052bb83c21b50fa03c054 rfl dz sl) ?_;have f6':=f5'.trans f6;have fl:=NQ (S:=S) (k:=k);have fc:=aaI (k:=k) hL;generalize Aq S k=F at fl fc ⊢;refine aP (S7 _) (jC ay ay ⟨λO=>q H6 g6 f6',λe=>?_⟩);have hF:F≠[]:=λz=>by replace e:=z▸e;cases e
 exact D9 hF fc hN (λH' f=>hc H' (f6'.trans f)) hD (yN [_,_,_,_] [] 0xf31502a352bb83c20b5011944c10b54 rfl dz sl fl) g6 λH7 l' g7 f7=>q H7 g7 (f6'.trans f7)
end
section
variable{D:R4 (R4 Sj)}{A:R4 Sj}{m:SH}{s:S}
noncomputable def units (w:R4 Sj):R4 (R4 Sj):=w.map λx=>[x]
theorem BQ {w:R4 Sj}(hw:Cl N w): ∀c∈units w,Cl N c:=λc h=>by
 obtain⟨x,hx,rfl⟩:=SL.mp h;exact⟨List.pairwise_singleton _ _,λy hy=>R8.mp hy▸hw.var x hx⟩
theorem Ea {w:R4 Sj}(t:dj N s tr)(hw:Cl N w)(hD: ∀c∈D,Cl N c)(h:Sat N D w s):cB (cr N) (D++units w)≠[]:=
 D8 (λO hx=>t.cons hx) h.all (λc hc=>(Sl.mp hc).elim (h.dh c) λhc=>by obtain⟨x,hx,rfl⟩:=SL.mp hc;exact⟨x,Se,h.ah x hx⟩) λc hc=>(Sl.mp hc).elim (hD c) (BQ hw c)
theorem Ar {w:R4 Sj}(k:JE N D s.log)(h:Uns D w s):cB (cr N) (D++units w)=[]:=by
 refine List.eq_nil_iff_forall_not_mem.mpr λr hr=>?_;have hr:=kY.mp hr;have f:=nr hr.1;have hD: ∀c∈D,holds r c:=λc hc=>hr.2 c (Su _ hc);refine b7.sound f.cons (λc hc=>(Sl.mp hc).elim (hD c) (fj.holds f k.cl hD k.rQ c)) (λa ha=>?_) h.2.2;obtain⟨x,hx,hm⟩:=hr.2 [a] (SA _ (SL.mpr ⟨a,h.1 a ha,rfl⟩));rw[R8.mp hx]at hm;exact hm
theorem NU (q:Q (.bool (!decide (x∈r))) J):lP (.int x) (.bF b (bH r)) J Q:=by
 have:=IV (b:=b) (Q:=λv J=>match v with |.bool b=>Q (.bool (!b)) J |_=>False) q;unfold xU inW at this;unfold lP EZ;exact this
theorem NV {b g:R4 Sj}(hn:(b.map Tl).Nodup)(hv: ∀x∈b,1<=x.natAbs/\x.natAbs<=N)(hp:g.Perm (hZ b))(hs:g.Pairwise λp q=>(p.natAbs:Sj)<=(q.natAbs:Sj))(hc:b7 (D++L) b)(k:JE N D L):(∀c∈L++[g],Cl N c)/\fj D (L++[g]):=by
 have e:(hZ b).map Tl=b.map Tl:=by unfold hZ;rw[Tg];exact TI λx O=>S4 x
 have gn:(g.map Tl).Nodup:=(hp.map _).nodup_iff.mpr (by rw[e];exact hn);have gc:Cl N g:=⟨HS gn hs,λx hx=>by obtain⟨y,hy,rfl⟩:=SL.mp (hp.mem_iff.mp hx);rw[S4];exact hv y hy⟩;refine⟨λc h=>(Sl.mp h).elim (k.cl c) λz=>R8.mp z▸gc,k.rQ.snoc (hc.mono (λO h=>h) λa ha=>.bU ?_)⟩;exact SL.mpr ⟨-a,hp.mem_iff.mpr (SL.mpr ⟨a,ha,rfl⟩),T5 a⟩
noncomputable abbrev anL (xr xc w:V)(w5 w6 w7 w8:Si V):R4 (Si V):=[R3 (.ref ⟨1,0⟩),R3 xr,R3 xc,R3 (.ref ⟨20,0⟩),R3 w,w5,w6,w7,w8]
theorem xm {w:R4 Sj}{w5:Si V}{Q:Fl->St->Prop}(h3:H ⟨3,0⟩=R3 (.list (D.map tup)))(hN:N<=4)(hw:Cl N w)(hD: ∀c∈D,Cl N c)(dz:D.length<=500)
  (q: ∀m H',H' ⟨13,m⟩=R3 (.list ((cB (cr N) (D++units w)).map rv))->Xt H H'->Q .next ⟨lo (anL (.bF Sf ((cr N).map rv)) (.ref ⟨3,0⟩) (tup w) w5 (R3 (.ref ⟨13,m⟩)) w7 w8),H'⟩):
  wY T ⟨lo (anL (.bF Sf ((cr N).map rv)) (.ref ⟨3,0⟩) (tup w) w5 Sg w7 w8),H⟩ Q:=by
 have wz:=hw.len;have rz:(cr N).length<=16:=by rw[mr];exact Vq (n:=2) (j:=4) (by decide) hN
 have JK:(D.map tup).length<=big:=by rw[Sa];unfold big;exact yN [_] [] 0xf1f43c050f42405c054 rfl dz
 refine iM (fM h3) JK (mX (b:=Sn) (c:=w) (λO=>Sn) (λx=>tup [x]) (by unfold big;exact yN [_,_] [] 0xf1a05041c150f42405c054 rfl hN wz) (λx O=>⟨λQ q=>q,λO Q q=>aP (show 1<=1000000 by decide) q⟩) (eV ay ay JK (by rw[Sa];exact SJ (Uo _ _) (by unfold big;exact yN [_,_] [] 0xf1a05041c150f42405c054 rfl hN wz)) ?_));have e:D.map tup++(w.filter λO=>Sn).map (λx=>tup [x])=(D++units w).map tup:=by rw[Uj.mpr λO O=>rfl,SN];unfold units;rw[Tg];rfl
 refine e▸?_;have uz:(units w).length=w.length:=Sa _;exact nq (b:=Sf) (b':=Sf) (rs:=cr N) (cs:=D++units w) (λO O=>fK) (λO O=>fK) (yN [_] [] 0xf102c0503e83c054 rfl rz) (by rw[Sr];exact yN [_,_,_,_] [] 0xf31522a3501f43c05041c25027104c10b54 rfl hN dz wz uz) (λc h=>by have:Cl N c:=(Sl.mp h).elim (hD c) (BQ hw c);have:=this.len;exact yN [_,_] [] 0xf1a05041c1503e83c054 rfl hN this) λm H' O h x=>bj rfl rfl (q m H' h x)
theorem Eb (g:ao T N s H)(q:Q (tup s.bQ) ⟨l,H⟩):jw T [.ref ⟨20,0⟩] ⟨l,H⟩ Q:=by
 unfold jw;exact bJ 0 rfl (aG rfl g.self g.dict rfl trivial q)
end
section
variable{D:R4 (R4 Sj)}{A:R4 Sj}{m:SH}{s:S}
theorem ao.fl (g:ao T N s H)(f:FL H H'):ao T N s H':=g.frm λb o e h1 h2=>f b o e (λhh=>yF [_] [] 0xf11c0520132c50 rfl h1 hh) (.inl h2)
theorem xn {w:V}{Q:Fl->St->Prop}(gd:DR n H)(hn:n<=90000)(hN:N<=4)(h3:H ⟨3,0⟩=R3 (.list (D.map tup)))(hD: ∀c∈D,Cl N c)(dz:D.length<=500)(k:JE N D L)(lz:L.length<=2000)
  (q: ∀l' H',DR (n+2) H'->FL H H'->Q (.ret (.bool Sn)) ⟨l',H'⟩):
  wZ T ⟨lo (anL (.bF Sf ((cr N).map rv)) (.ref ⟨3,0⟩) w (R3 (.bool Sn)) w6 (R3 (.bF Sf (L.map tup))) w8),H⟩ Q:=by
 have lz':(L.map tup).length<=big:=by rw[Sa];unfold big;exact yN [_] [] 0xf7d03c050f42405c054 rfl lz
 refine⟨λO=>aP (S7 _) (jC ay ay ⟨λe=>?_,λe=>?_⟩),(λz=>gV z)⟩
 ·rw[e];induction gd with
  |mk c p a1 a2 a3=>exact q _ H ⟨c,p,a1,a2,yN [_,_] [] 0xf105021c1b054 rfl a3⟩ λb o e O O=>e
 ·have hL:L≠[]:=λz=>by replace e:=z▸e;cases e
  obtain⟨L,g,rfl⟩:=BO hL;have sl:(L++[g]).length=L.length+1:=bw;refine jx ay lz' (bS ay lz' jD ?_);rw[qZ];exact I7 (b:=Sf) gd hn hN (λH' f=>fM (f _ _ h3 (by decide) (.inl (by decide)))) hD k.cl k.rQ (yN [_,_,_] [] 0xf1a2327d03c2501f43c050bb83c10b54 rfl dz lz sl) λH' g' f'=>q _ H' g' f'
theorem tq {w:R4 Sj}(gd:DR n H)(hn:n<=90000)(hN:N<=4)(h3:H ⟨3,0⟩=R3 (.list (D.map tup)))(hD: ∀c∈D,Cl N c)(dz:D.length<=500)(hw:Cl N w)(g:ao T N s H)(b:gj N D s tr)(bd:Bd N s tr B)(hB:B<=1500)
  (q: ∀s' cq H',DR (n+2) H'->ao T N s' H'->gj N D s' cq->Bd N s' cq (B+1)->H' ⟨3,0⟩=R3 (.list (D.map tup))->Q (.bool Sn) ⟨l,H'⟩):
  iv T [.ref ⟨1,0⟩,.bF Sf ((cr N).map rv),.ref ⟨3,0⟩,.ref ⟨20,0⟩,tup w] ⟨l,H⟩ Q:=by
 unfold iv;have wz:=hw.len;refine bJ 4 rfl (cE g.self g.dict (iM fK (by rw[ag];unfold big;exact yN [_,_] [] 0xf1a05041c150f42405c054 rfl hN wz) (Ij g rfl (yN [_] [] 0xf41c05081c054 rfl hN) b bd (yN [_] [] 0xf5dc3c050fa03c054 rfl hB) hw λr s1 dR H1 g1 b1 bd1 q1 q0 f1=>bj rfl rfl ?_)));have gd1:DR n H1:=gd.frm f1 rfl;have h31:=f1 _ _ h3 (.inl (by decide));refine xm (w7:=Sg) (w8:=Sg) h31 hN hw hD dz λm H2 h2 x2=>?_;have g2:=g1.fl (.xt x2);have gd2:=gd1.xt x2;have h32:=x2 _ _ h31;have er:r= !((cB (cr N) (D++units w)).map rv).isEmpty:=by
  rw[jV];cases r with
  |true=>rw[ZH.mpr λz=>Ea b1.t hw hD (q1 rfl) (XR.mp z)];rfl
  |false=>rw[Ar b1.l (q0 rfl)];rfl
 refine aP (S7 _) (ie (bq h2) ay ⟨λz=>?_,λO=>?_⟩)
 ·rw[<-er]at z;cases r<;>exact dq z
 have lz:=bd1.log;have lz':(s1.log.map tup).length<=big:=by rw[Sa];unfold big;exact yN [_,_,_] [] 0xf1a20b505dc3c150f42405c054 rfl hB lz
 refine aG rfl g2.self g2.dict rfl trivial (iM (fM g2.log) lz' (bj rfl rfl ?_));cases r with
 |true=>exact xn gd2 hn hN h32 hD dz b1.l (yN [_,_,_] [] 0xf1a20b505dc3c1507d03c054 rfl hB lz) λl' H3 gd3 f3=>q s1 dR H3 gd3 (g2.fl f3) b1 bd1 (f3 _ _ h32 (by decide) (.inl (by decide)))
 |false=>
  obtain⟨u1,u2,u3⟩:=q0 rfl;have bv: ∀x∈s1.bQ,1<=x.natAbs/\x.natAbs<=N:=λx hx=>hw.var x (u1 x hx);have bz:=de u2 bv;have bz':s1.bQ.length<=big:=by unfold big;exact yN [_,_] [] 0xf105041c150f42405c054 rfl hN bz
  refine⟨(λz=>dq z),λO=>cE g2.self g2.dict (Eb g2 (bj rfl rfl ?_))⟩;refine mX (b:=Sn) (c:=s1.bQ) (λx=>!decide (x∈w)) V.int bz' (λx O=>⟨λQ q=>NU q,λO Q q=>q⟩) (aP (S7 _) (ie ay ay ⟨λz=>?_,λO=>?_⟩))
  ·have:s1.bQ.filter (λx=>!decide (x∈w))=[]:=YL.mpr λx hx=>by rw[Th (u1 x hx)];decide
   replace z:=this▸z;cases z
  refine mX (b:=Sn) (c:=s1.bQ) (λO=>Sn) (λx=>.int (-x)) bz' (λx O=>⟨λQ q=>q,λO Q q=>q⟩) ?_;have e2:(s1.bQ.filter λO=>Sn).map (λx=>V.int (-x))=bH (hZ s1.bQ):=by rw[Uj.mpr λO O=>rfl];unfold bH hZ;rw[Tg];rfl
  rw[e2];have nz:(hZ s1.bQ).length=s1.bQ.length:=Sa _;refine uA (S:=.seq Sf (bH (hZ s1.bQ))) (ns:=hZ s1.bQ) fK trivial (by show(bH _).length<=big;rw[ag,nz];exact bz') rfl (yN [_,_,_] [] 0xf2052125041c150402c0a54 rfl hN bz nz) λout hp hs=>Bx ay (by rw[ag,hp.length_eq,nz];exact bz') ?_;obtain⟨k1,k2⟩:=NV u2 bv hp hs u3 b1.l;exact I7 (b:=Sf) gd2 hn hN (λH' f=>fM (f _ _ h32 (by decide) (.inl (by decide)))) hD k1 k2 (yN [_,_,_,_] [] 0xf2a31b505dc3c2501f43c050bb83c10b54 rfl dz hB lz) λH3 gd3 f3=>q s1 dR H3 gd3 (g2.fl f3) b1 bd1 (f3 _ _ h32 (by decide) (.inl (by decide)))
end
section
variable{D:R4 (R4 Sj)}{m:SH}
def Em (H:Hp):Prop:=∀b:Ad,(b.k=3\/19<=b.k)->H b=Sg
theorem Em.sm (h:Em H)(f:Sm H H'):Em H':=λb hb=>(f b hb).trans (h b hb)
theorem aaJ {a:Ad}{kvs:R4 (SH×V)}(e:H a=Sg)(q:Q (.ref a) ⟨l,aK H a (.bB kvs)⟩):GW kvs ⟨l,H⟩ Q:=by
 unfold GW A5 pB;exact λO=>⟨a,e,q⟩
theorem aaK {a:Ad}(e:H a=Sg)(q:Q (.ref a) ⟨l,aK H a (.list vs)⟩):eR vs ⟨l,H⟩ Q:=λO=>⟨a,e,q⟩
theorem Ec (hz:sc.length<=100)(e1:H ⟨1,0⟩=Sg)(q: ∀H',DR 0 H'->Sm H H'->Q (.ref ⟨1,0⟩) ⟨l,H'⟩):jA T [.bF Sf (bH sc)] ⟨l,H⟩ Q:=by
 unfold jA;have sz:(bH sc).length<=big:=by rw[ag];unfold big;exact yN [_] [] 0xf642c050f42405c054 rfl hz
 refine bJ 0 rfl (kW (i:=60) ay sz ?_);have e:(bH sc).take 60=bH (sc.take 60):=by unfold bH;rw[Vb]
 refine e▸?_;have tz:(sc.take 60).length<=60:=by rw[S9];exact yN [_] [] 0xf3c2c0503c2c054 rfl (Tr _ _)
 refine mX (b:=Sf) (c:=sc.take 60) (λO=>Sn) (λx=>.int (((x.natAbs:SH):Sj).fmod 1000003)) (by unfold big;exact yN [_] [] 0xf3c2c050f42405c054 rfl tz) (λx O=>⟨λQ q=>q,λO Q q=>Bq (by decide) q⟩) ?_;have e2:((sc.take 60).filter λO=>Sn).map (λx:Sj=>V.int (((x.natAbs:SH):Sj).fmod 1000003))=bH ((sc.take 60).map λx:Sj=>((x.natAbs:SH):Sj).fmod 1000003):=by rw[Uj.mpr λO O=>rfl];unfold bH;rw[Tg];rfl
 refine e2▸?_;exact aaJ (a:=⟨1,0⟩) e1 (q _ ⟨_,0,aw,by rw[Sa];exact tz,S8 _⟩ (Sm.set rfl))
abbrev lwL (sc:R4 Sj)(N:SH)(w3 w4 w5 w6 w7:Si V):R4 (Si V):=[R3 (.bF Sf (bH sc)),R3 (.ref ⟨1,0⟩),R3 (.int (N:Sj)),w3,w4,w5,w6,w7]
inductive LwI (sc:R4 Sj)(N n m:SH)(c:Sj)(i:SH):St->Prop
 |mk (D:R4 (R4 Sj)) (w:Si V) (H':Hp):DR (n+20*i) H'->H' ⟨3,0⟩=R3 (.list (D.map tup))->H' ⟨16,m⟩=R3 (.range 0 c)->D.length=i->(∀c∈D,Cl N c)->(∀b:Ad,19<=b.k->H' b=Sg)->
   LwI sc N n m c i ⟨lo (lwL sc N (R3 (.ref ⟨3,0⟩)) w Sg Sg Sg),H'⟩
theorem I8 {Q:Fl->St->Prop}(hN:N<=4)(h3:3<=N)(gd:DR n H)(hn:n<=1000)(e3:H ⟨3,0⟩=R3 (.list []))(em: ∀b:Ad,19<=b.k->H b=Sg)
  (q: ∀(D:R4 (R4 Sj)) w H',DR (n+200) H'->H' ⟨3,0⟩=R3 (.list (D.map tup))->D.length<=8->(∀c∈D,Cl N c)->(∀b:Ad,19<=b.k->H' b=Sg)->Q .next ⟨lo (lwL sc N (R3 (.ref ⟨3,0⟩)) w Sg Sg Sg),H'⟩):
  O6 T ⟨lo (lwL sc N (R3 (.ref ⟨3,0⟩)) Sg Sg Sg Sg),H⟩ Q:=by
 refine iw gd (yN [_] [] 0xf3e83c050186a05c054 rfl hn) (by decide) λr H1 g1 r0 r1 f1 s1=>cO (uN (eh 16 λm hm=>?_));obtain⟨j,rfl⟩:=Ua r0;have ec:(4:Sj)+(j:Sj)=((4+j:SH):Sj):=Td (yZ [_] [_] 0xf141cb0330141cb55 rfl (Te _ _)) (yZ [_] [_] 0xf141cb053141cb055 rfl (Te _ _));refine ec▸?_;refine sX (S:=.kH 0 ((4+j:SH):Sj)) (λi J=>LwI sc N (n+1) m ((4+j:SH):Sj) i J) ⟨by decide,by decide,yZ [_] [_] 0xf0141cb530f42405d55 rfl ec,yZ [_] [_] 0xf0141cb3351c1a51f42405c055 rfl r1 ec⟩ (λi J h=>?_) ⟨[],Sg,_,g1.xt (Xt.new hm),?_,aw,rfl,(λc h=>jY h),?_⟩ (λi v J hv h K hK=>?_) λJ h=>?_
 ·induction h with
  |mk D w H' _ _ h _ _ _=>exact kR h _
 ·exact(ai rfl).trans (f1 _ _ e3 (.inr (by decide)))
 ·intro b hb;exact(aO λz=>by rw[z]at hb;exact Sw (show 19<=16 from hb) (by decide)).trans ((s1 b (.inr hb)).trans (em b hb))
 ·have hi:=(mm hv).1;induction h with
  |mk D w H2 g2 h2 h16 hl hD em2=>
   refine bj rfl rfl (fh h2 (nj (le:=1) g2 (by exact xN [_,_,_] [] (.add (vS v0) (.mulL 20 v1)) (.num 80000) 1 (.c 0 1 v0 (.num 1000) (.c 1 20 (vS v5) (.num 5) (.c 0 20 (vS v1) (.add (.num 4) v2) .e))) rfl hn r1 hi) (yN [_] [] 0xf41c05081c054 rfl hN) (yN [_] [] 0xf031c50021c11cb54 rfl h3) λc H3 g3 hc O f3 s3=>?_));have dz:(D.map tup).length<=big:=by rw[Sa];unfold big;exact yN [_,_,_] [] 0xf2052141cb2a5051c3a51f42405c054 rfl r1 hi hl
   refine eK (f3 _ _ h2 (.inr (by decide))) dz (hK _ ⟨D++[c],_,_,?_,aw.trans (SN▸rfl),?_,by rw[bw,hl],?_,λb hb=>?_⟩);·exact g3.frm (lo:=3) (hi:=4) (bM.set rfl) rfl
   ·exact(ai rfl).trans (f3 _ _ h16 (.inr (show 2<=16 by decide)))
   ·exact λc' h=>(Sl.mp h).elim (hD c') λz=>R8.mp z▸hc
   ·exact(aO λz=>by rw[z]at hb;exact Sw hb (by decide)).trans ((s3 b (.inr hb)).trans (em2 b hb))
 ·replace h:=aaE▸h;induction h with
  |mk D w H2 g2 h2 h16 hl hD em2=>
   refine q D w H2 ?_ h2 (yN [_,_] [] 0xf141cb05251c3a5181c054 rfl r1 hl) hD em2;induction g2 with
   |mk c p a1 a2 a3=>exact⟨c,p,a1,a2,by exact xN [_,_,_] [] v0 (.add v1 (.num 200)) 1 (.c 1 20 (vS v5) (.num 5) (.c 0 1 v0 (.add (vS v1) (.mulL 20 (.add (.num 4) v2))) .e)) rfl r1 a3⟩
theorem aaX {D:R4 (R4 Sj)}:gE ((D++[c]).map tup) (-1)=R3 (tup c):=jD
theorem aaL (hz:sc.length<=100)(q: ∀H',Q (.bool Sn) ⟨l,H'⟩):BJ T [.bF Sf (bH sc)] ⟨l,λO=>Sg⟩ Q:=by
 unfold BJ;refine bJ 7 rfl (Ec hz rfl λH1 g1 s1=>bj rfl rfl (iw g1 (by decide) (by decide) λr H2 g2 r0 r1 f2 s2=>cO (bj rfl rfl (aP (S7 _) ?_))));obtain⟨j,rfl⟩:=Ua r0;obtain⟨N,hN⟩: ∃N,N=3+j:=⟨_,rfl⟩;have eN:(3:Sj)+(j:Sj)=((N:SH):Sj):=Td (yZ [_,_] [] 0xf031cb1323131cb55 rfl hN) (yZ [_,_] [] 0xf131cb052331cb155 rfl hN);refine eN▸?_;have N3:3<=N:=yN [_,_] [] 0xf131cb032031c54 rfl hN;have N4:N<=4:=yN [_,_] [] 0xf131cb05221c3a5141c054 rfl r1 hN;clear hN eN r0 r1;have em:Em H2:=Em.sm (Em.sm (λO O=>rfl) s1) s2;refine aaK (a:=⟨3,0⟩) (em _ (.inl rfl)) ?_;have e3:aK H2 ⟨3,0⟩ (.list []) ⟨3,0⟩=R3 (.list []):=aw;have g3:DR 1 (aK H2 ⟨3,0⟩ (.list [])):=g2.frm (lo:=3) (hi:=4) (bM.set rfl) rfl;have em3: ∀b:Ad,19<=b.k->aK H2 ⟨3,0⟩ (.list []) b=Sg:=λb hb=>(aO λz=>by rw[z]at hb;exact Sw hb (by decide)).trans (em b (.inr hb));generalize aK H2 ⟨3,0⟩ (.list [])=H3 at e3 g3 em3 ⊢;refine bj rfl rfl (I8 N4 N3 g3 (by decide) e3 em3 λD w4 H4 g4 h4 dz hD em4=>?_);have JK:(D.map tup).length<=big:=by rw[Sa];unfold big;exact yN [_] [] 0xf81c050f42405c054 rfl dz
 refine NC N4 λH5 x5 s5=>iM (fM (x5 _ _ h4)) JK (DZ N4 hD (yN [_] [] 0xf81c0503e83c054 rfl dz) (λb h1 h2=>(s5 b (.inr h1)).trans (em4 b h1)) λs tr H6 g6 b6 d6 f6=>aP (show 2<=1000000 by decide) (Al rfl rfl ?_));have gd6:DR 201 H6:=(g4.xt x5).frm f6 rfl;have h6:=f6 _ _ (x5 _ _ h4) (.inl (by decide));refine nj (le:=0) gd6 (by decide) (yN [_] [] 0xf41c05081c054 rfl N4) (yN [_] [] 0xf031c50021c01cb54 rfl N3) λw H7 gd7 hw O f7 s7=>bj rfl rfl ?_;have g7:ao T N s H7:=g6.frm λb o e h1 h2=>f7 b o e (.inr (yN [_] [] 0xf0132c50021c54 rfl h1));have h7:=f7 _ _ h6 (.inr (by decide));refine tq gd7 (by decide) N4 h7 hD (yN [_] [] 0xf81c0501f43c054 rfl dz) hw g7 b6 d6 (yN [_] [] 0xf81c0505dc3c01043cb54 rfl dz) λs2 u6 H8 gd8 g8 b8 d8 h8=>⟨(λz=>dq z),λO=>?_⟩;refine fh h8 (nj (le:=1) gd8 (by decide) (yN [_] [] 0xf41c05081c054 rfl N4) (yN [_] [] 0xf031c50021c11cb54 rfl N3) λc H9 gd9 hc O f9 s9=>eK (f9 _ _ h8 (.inr (by decide))) JK ?_);have eD:D.map tup++[tup c]=(D++[c]).map tup:=by rw[SN];rfl
 refine eD▸?_;have h10:aK H9 ⟨3,0⟩ (.list ((D++[c]).map tup)) ⟨3,0⟩=R3 (.list ((D++[c]).map tup)):=aw;have adg:DR 243 (aK H9 ⟨3,0⟩ (.list ((D++[c]).map tup))):=gd9.frm (lo:=3) (hi:=4) (bM.set rfl) rfl;have g10:ao T N s2 (aK H9 ⟨3,0⟩ (.list ((D++[c]).map tup))):=g8.frm λb o e h1 h2=>(aO λz=>by rw[z]at h1;exact Sw h1 (by decide)).trans (f9 b o e (.inr (yN [_] [] 0xf0132c50021c54 rfl h1)));generalize aK H9 ⟨3,0⟩ (.list ((D++[c]).map tup))=H10 at h10 adg g10 ⊢;have cz:((D++[c]).map tup).length<=big:=by rw[Sa,bw];unfold big;exact yN [_] [] 0xf81c050f42405c0a54 rfl dz
 have dl:(D++[c]).length=D.length+1:=bw;refine cE g10.self g10.dict (bS (bq h10) cz jD (kt g10 rfl b8 d8 (yN [_] [] 0xf41c05081c054 rfl N4) (yN [_] [] 0xf81c05013884c01043cba54 rfl dz) hc λr s3 JI H11 g11 b11 d11 O O f11=>aP (S7 _) ?_));have xP: ∀c'∈D++[c],Cl N c':=λc' h=>(Sl.mp h).elim (hD c') λz=>R8.mp z▸hc;exact tq (w:=[]) (adg.frm f11 rfl) (by decide) N4 (f11 _ _ h10 (.inl (by decide))) xP (yN [_,_] [] 0xf1a05281c1501f43c054 rfl dz dl) ⟨WP,λx h=>jY h⟩ g11 b11 d11 (yN [_] [] 0xf81c0505dc3c01043cbaa54 rfl dz) λO O H12 O O O O O=>q H12
end
section
set_option maxRecDepth 100000
noncomputable def iz (st:Vo):R4 Vo:=if h:st.ctorIdx=0 then V3 (motive_2:=λO=>R4 Vo) st h λO O b O O O O O O O=>b else if h:st.ctorIdx=2 then Stmt.ClassDef.elim (motive_2:=λO=>R4 Vo) st h λO O O b O O O O O O O=>b else[]
noncomputable def kZ (st:Vo):Wq:=if h:st.ctorIdx=0 then V3 (motive_2:=λO=>Wq) st h λO O O O O O s O O O=>s else default
noncomputable def df (st:Vo):R4 Tj:=if h:st.ctorIdx=0 then V3 (motive_2:=λO=>R4 Tj) st h λO a O O O O O O O O=>a.args.map (·.arg)else[]
def shapeOf (st:Vo):Shape:=(df st++(((kZ st).names.filter λp=>p.2== .local || p.2== .cell).map (·.1)).filter λx=>!(df st).contains x).map λx=>(x,(cellsFrom 0 (kZ st).names []).lookup x)
noncomputable def eB (i:SH):Vo:=PySem.Challenge.pw_nu0247_01.main.body.getD i default
def dk (i j:SH):Vo:=(iz (eB i)).getD j default
noncomputable def adh:R4 (SH×SH):=[(34,23),(36,20),(37,20),(38,21),(41,21),(49,44),(81,23),(134,19),(135,22),(155,26),(161,20),(165,19),(194,25),(196,42),(203,58),(225,50),(236,54),(271,25),(341,19),(341,45),(352,12),(416,14)]
noncomputable def adi:R4 (SH×SH):=[(394,24),(394,42)]
noncomputable def aaM (v:Si (Si Sz)):SM:=match v with |some (R3 (.ref a))=>a |_=>0
def fa (K:Vc)(n:Tj):SM:=aaM (nsIn K mainGlobals n)
def ma (K:Vc)(C:SM)(n:Tj):SM:=aaM (findIn K (.ref C) n)
def fdD (d:Si Data):TP:=match d with |some (.func fd)=>fd |_=>default
def fdOf (K:Vc)(a:SM):TP:=fdD ((K.lookup a).map (·.data))
def aS (K:Vc):Tp:=⟨fa K "UnitSteps",fa K "Search"⟩
def cf (K:Vc)(fns:R4 (Tj×SM×(R4 V->WM V)))(ms:R4 (Tj×SM×SM×(R4 V->WM V))):Cfg:=⟨fns,ms,[("FIRST_SPAN",16),("MOST_HEAT",1000000000)],(aS K).U,(aS K).S,adh,adi⟩
def aeG (K:Vc)(a:SM)(st:Vo):Tn:=codeIn K (fdOf K a).code (fdOf K a).qualname && ((fdOf K a).closure.isEmpty && ((fdOf K a).scope.kind== .function && ((fdOf K a).globals==mainGlobals && ((fdOf K a).builtins==builtinsNs && (!(fdOf K a).scope.isCoroutine && (!(fdOf K a).scope.isGenerator
 && (lv (fdOf K a).scope.names (shapeOf st) && (Ul ((shapeOf st).map (·.1)).Nodup && (Ul ((shapeOf st).filterMap (·.2)).Nodup && (df st==((shapeOf st).map (·.1)).take (df st).length))))))))))
structure NW (K:Vc)(a:SM)(st:Vo)(n:SH):Prop where
 look:(K.lookup a).map (·.data)=R3 (.func (fdOf K a))
 bd:(fdOf K a).body=.stmts (iz st)
 nm:(fdOf K a).scope.names=(kZ st).names
 nn:(df st).length=n
 ck:aeG K a st=Sn
 bind: ∀as:R4 Sz,as.length=n->bindArgs (fdOf K a) ⟨as,[]⟩=pure ((df st).zip as)
theorem iT {a:Tn}(h:(a && b)=Sn):a=Sn:=(SV.mp h).1
theorem bx {a:Tn}(h:(a && b)=Sn):b=Sn:=(SV.mp h).2
theorem NX {a:Tn}(h:(!a)=Sn):a=Sf:=(ZG a).mp h
theorem NW.ok {K:Vc}{a:SM}(h:NW K a st n):FnAt K a (fdOf K a) (iz st) (df st) (shapeOf st):=
 ⟨h.look,(iT h.ck),h.bd,λas e=>h.bind as (e.trans h.nn),XR.mp (iT (bx h.ck)),eq_of_beq (iT (bx (bx h.ck))),eq_of_beq (iT (bx (bx (bx h.ck)))),eq_of_beq (iT (bx (bx (bx (bx h.ck))))),NX (iT (bx (bx (bx (bx (bx h.ck)))))),NX (iT (bx (bx (bx (bx (bx (bx h.ck))))))),(iT (bx (bx (bx (bx (bx (bx (bx h.ck)))))))),SB (iT (bx (bx (bx (bx (bx (bx (bx (bx h.ck))))))))),SB (iT (bx (bx (bx (bx (bx (bx (bx (bx (bx h.ck)))))))))),eq_of_beq (bx (bx (bx (bx (bx (bx (bx (bx (bx (bx h.ck))))))))))⟩
structure NY (K:Vc)(x:Tj):Prop where
 ns:nsIn K mainGlobals x=R3 (R3 (.ref (fa K x)))
 keep:keepIn K (.ref (fa K x))=Sn
structure xo (K:Vc)(x:Tj)(st:Vo)(n:SH):Prop where
 c:NY K x
 f:NW K (fa K x) st n
theorem xo.ns {K:Vc}{x:Tj}(h:xo K x st n):nsIn K mainGlobals x=R3 (R3 (.ref (fa K x))):=h.c.ns
theorem xo.keep {K:Vc}{x:Tj}(h:xo K x st n):keepIn K (.ref (fa K x))=Sn:=h.c.keep
structure nZ (K:Vc)(C:SM)(m:Tj)(st:Vo)(n:SH):Prop where
 hf:findIn K (.ref C) m=R3 (R3 (.ref (ma K C m)))
 ck:(plainGet K C m && (isFn K (.ref (ma K C m)) && (keepIn K (.ref (ma K C m)) && (TL 27).all λi=>!(nm i==m))))=Sn
 f:NW K (ma K C m) st n
theorem nZ.ok {K:Vc}{m:Tj}(h:nZ K C m st n):kG K C m (ma K C m):=by
 obtain⟨c1,q⟩:=SV.mp h.ck;obtain⟨c2,q⟩:=SV.mp q;obtain⟨c3,q⟩:=SV.mp q;exact⟨c1,h.hf,c2,c3,λi hi e=>by have:=TR.mp q i (Uw.mpr hi);rw[e,TV]at this;exact nomatch this⟩
structure aeH (K:Vc)(C:SM)(st:Vo)(n:SH):Prop where
 hm:makesIn K C=Sn
 hi:findIn K (.ref C) "__init__" =R3 (R3 (.ref (ma K C "__init__")))
 ht:isFn K (.ref (ma K C "__init__"))=Sn
 f:NW K (ma K C "__init__") st n
def aaN (K:Vc)(C:SM)(i:SH):Tn:=plainGet K C (nm i) && (hasDictIn K C && plainOver K C)
structure Base (U:Un):Prop where
 i1: ∃t,nsIn U.K mainGlobals "FIRST_SPAN" =R3 (R3 (.int 16 t))
 i2: ∃t,nsIn U.K mainGlobals "MOST_HEAT" =R3 (R3 (.int 1000000000 t))
 Qz:km.map (λp=>nsIn U.K mainGlobals p.1)=km.map λO=>R3 Sg
 ck:((TL 9).all (aaN U.K (aS U.K).U) && (TL 25).all (aaN U.K (aS U.K).S))=Sn
 uf:(TL 9).map (λi=>findIn U.K (.ref (aS U.K).U) (nm i))=(TL 9).map λO=>R3 Sg
 sf:(TL 25).map (λi=>findIn U.K (.ref (aS U.K).S) (nm i))=(TL 25).map λO=>R3 Sg
 us:findIn U.K (.ref (aS U.K).U) "__setattr__" =R3 (R3 (.builtin "object.__setattr__"))
 ss:findIn U.K (.ref (aS U.K).S) "__setattr__" =R3 (R3 (.builtin "object.__setattr__"))
theorem uU {l:R4 α}{f:α->β}{b:β}(h:l.map f=l.map λO=>b){x:α}(hx:x∈l):f x=b:=by
 obtain⟨i,hi⟩:=S5.mp hx;have:=SU (·[i]?) h;rw[show(l.map f)[i]? =R3 (f x) by rw[Sx,hi];rfl,show(l.map λO=>b)[i]? =R3 b by rw[Sx,hi];rfl]at this;exact R7 this
theorem As {K:Vc}(h:(TL n).all (aaN K C)=Sn)(f:(TL n).map (λi=>findIn K (.ref C) (nm i))=(TL n).map λO=>R3 Sg)(hs:findIn K (.ref C) "__setattr__" =R3 (R3 (.builtin "object.__setattr__")))(hi:i<n)(h27:i<27):iC K C i:=by
 have q:=TR.mp h i (Uw.mpr hi);obtain⟨c1,q⟩:=SV.mp q;obtain⟨c2,q⟩:=SV.mp q;exact⟨h27,c1,c2,uU f (Uw.mpr hi),hs,q⟩
theorem aE {P:α->Prop}: ∀p∈([]:R4 α),P p:=λO h=>jY h
theorem jE (B:Base U)(hf: ∀p∈fns,nsIn U.K mainGlobals p.1=R3 (R3 (.ref p.2.1))/\keepIn U.K (.ref p.2.1)=Sn/\bZ U k p.2.1 p.2.2)(hm: ∀p∈ms,kG U.K p.2.1 p.1 p.2.2.1/\bZ U k p.2.2.1 p.2.2.2):dm U k (cf U.K fns ms) where
 fns:=hf
 ms:=hm
 Ga:=Sh.mpr ⟨B.i1,Sh.mpr ⟨B.i2,aE⟩⟩
 Qz:=λp hp=>uU B.Qz hp
 ua:=λi hi=>As (SV.mp B.ck).1 B.uf B.us hi (WN hi (by decide))
 sa:=λi O hi=>As (SV.mp B.ck).2 B.sf B.ss hi (WN hi (by decide))
theorem da {a:SM}{w:R4 V->WM V}(B:Base U)(F:NW U.K a st n)(hf: ∀p∈fns,nsIn U.K mainGlobals p.1=R3 (R3 (.ref p.2.1))/\keepIn U.K (.ref p.2.1)=Sn/\bZ U k p.2.1 p.2.2)(hm: ∀p∈ms,kG U.K p.2.1 p.1 p.2.2.1/\bZ U k p.2.2.1 p.2.2.2)
  (hW:lx n (Bn (cf U.K fns ms) (D (cf U.K fns ms) 12) (iE (kZ st).names (shapeOf st)) 6 (iz st))=w):bZ U (k+1) a w:=by
 have h:=abJ F.ok (jE B hf hm) 12 6;rw[F.nm,F.nn,hW]at h;exact h
theorem bind1 (h: ∀a,P [a])(as:R4 Sz)(e:as.length=1):P as:=by
 cases as with
 |nil=>exact nomatch e
 |cons a r=>cases r with
  |nil=>exact h a
  |cons=>exact nomatch e
theorem dp (h: ∀a b,P [a,b])(as:R4 Sz)(e:as.length=2):P as:=by
 cases as with
 |nil=>exact nomatch e
 |cons a r=>exact bind1 (P:=λr=>P (a::r)) (h a) r (VD e)
theorem mt (h: ∀a b c,P [a,b,c])(as:R4 Sz)(e:as.length=3):P as:=by
 cases as with
 |nil=>exact nomatch e
 |cons a r=>exact dp (P:=λr=>P (a::r)) (h a) r (VD e)
theorem O9 (h: ∀a b c d,P [a,b,c,d])(as:R4 Sz)(e:as.length=4):P as:=by
 cases as with
 |nil=>exact nomatch e
 |cons a r=>exact mt (P:=λr=>P (a::r)) (h a) r (VD e)
theorem Pa (h: ∀a b c d f,P [a,b,c,d,f])(as:R4 Sz)(e:as.length=5):P as:=by
 cases as with
 |nil=>exact nomatch e
 |cons a r=>exact O9 (P:=λr=>P (a::r)) (h a) r (VD e)
def I9 (v:Sz):SM:=aaM (R3 (R3 v))
def Ja (fd:TP):SM:=(fd.closure.map (·.2)).headD 0
noncomputable def aaO (o:WW):Si (Vt Sz):=match o.data with |.fields vs=>R3 vs |_=>Sg
def Jb (K:Vc)(a:SM)(f:Tj):Tn:=((K.lookup a).bind λo=>(aaO o).bind λvs=>vs[2]?).elim Sf (Yt f)
theorem uV {K:Vc}{a:SM}{f:Tj}(h:Jb K a f=Sn): ∃o vs x t,K.lookup a=R3 o/\o.data=.fields vs/\vs[2]? =R3 (.str x t)/\(f==x)=Sn:=by
 unfold Jb at h;cases e:(K.lookup a).bind λo=>(aaO o).bind λvs=>vs[2]? with
 |none=>rw[e]at h;exact dq h
 |some v=>rw[e]at h;obtain⟨o,e1,e⟩:=TY.mp e;obtain⟨vs,e2,e3⟩:=TY.mp e;obtain⟨t,rfl⟩:=V1 h;refine⟨o,vs,f,t,e1,?_,e3,TV _⟩;unfold aaO at e2;cases hd:o.data<;>rw[hd]at e2<;>first |(obtain rfl:=R7 e2;rfl) |exact c6 e2
def aeI (K:Vc)(a:SM)(st:Vo):Tn:=codeIn K (fdOf K a).code (fdOf K a).qualname && (((fdOf K a).scope.names.all λp=>!(p.2== .cell)) && ((fdOf K a).scope.kind== .function && ((fdOf K a).globals==mainGlobals && ((fdOf K a).builtins==builtinsNs && (!(fdOf K a).scope.isCoroutine && (!(fdOf K a).scope.isGenerator
 && (((shapeOf st).all λp=>p.2==Sg && (fdOf K a).scope.names.lookup p.1==R3 .local) && (Ul ((shapeOf st).map (·.1)).Nodup && (df st==((shapeOf st).map (·.1)).take (df st).length)))))))))
structure ClC (K:Vc)(a:SM)(st:Vo)(n:SH):Prop where
 look:(K.lookup a).map (·.data)=R3 (.func (fdOf K a))
 bd:(fdOf K a).body=.stmts (iz st)
 nm:(fdOf K a).scope.names=(kZ st).names
 nn:(df st).length=n
 ck:aeI K a st=Sn
 bind: ∀as:R4 Sz,as.length=n->bindArgs (fdOf K a) ⟨as,[]⟩=pure ((df st).zip as)
theorem ClC.ok {K:Vc}{a:SM}(h:ClC K a st n):oy K a (fdOf K a) (iz st) (df st) (shapeOf st):=
 ⟨h.look,(iT h.ck),h.bd,λas e=>h.bind as (e.trans h.nn),λx hx e=>Xj ((SU (λz=>!(z==WV)) e).symm.trans (TR.mp (iT (bx h.ck)) x hx)),eq_of_beq (iT (bx (bx h.ck))),eq_of_beq (iT (bx (bx (bx h.ck)))),eq_of_beq (iT (bx (bx (bx (bx h.ck))))),NX (iT (bx (bx (bx (bx (bx h.ck)))))),NX (iT (bx (bx (bx (bx (bx (bx h.ck))))))),λp hp=>(SV.mp (TR.mp (iT (bx (bx (bx (bx (bx (bx (bx h.ck)))))))) p hp)).imp eq_of_beq eq_of_beq,SB (iT (bx (bx (bx (bx (bx (bx (bx (bx h.ck))))))))),eq_of_beq (bx (bx (bx (bx (bx (bx (bx (bx (bx h.ck)))))))))⟩
theorem ClC.as {K:Vc}{a:SM}(h:ClC K a st n)(e:df st=ps):oy K a (fdOf K a) (iz st) ps (shapeOf st):=e▸h.ok
theorem NZ {fd:TP}{a:SM}(hk:fd.scope.kind=.function)(hg:fd.globals=mainGlobals)(hb:fd.builtins=builtinsNs)(hs: ∀p∈sh,p.2=Sg/\fd.scope.names.lookup p.1=R3 .local)(L:SH)(fr:R4 Y4):dJ (callEnv fd L a) (ctx L sh fr) where
 L:=rfl
 kind:=hk
 gl:=hg
 bi:=hb
 ns:=λi y e=>by obtain⟨o,e1,e2⟩:=dC e;exact(hs _ (R9 e1)).2
 cell:=λi y o d e=>by obtain⟨q,e1,e2⟩:=dC e;have:=(hs _ (R9 e1)).1;dsimp only at this;subst this;cases e2
theorem Jc {L:SM}{nk:R4 (Tj×Vj)}:(ctx L sh fr).vars.map (λp=>(p.1,p.2.tag))=(iE nk sh).vs:=by
 show VZ _ (VZ _ _)=VZ _ _;rw[Tg];refine TI λp O=>?_;obtain⟨y,o⟩:=p;cases o<;>rfl
theorem tu {K:Vc}{a:SM}{fd:TP}{b:R4 Vo}(F:FnAt K a fd b ps sh)(L:SM)(fr:R4 Y4):cD (iE fd.scope.names sh) (callEnvC fd L a) (ctx L sh fr):=⟨E8 F.kind F.gl F.bi F.Ek L fr,rfl,Jc⟩
structure Spec (U:Un):Prop where
 gf:specialIn U.K (.ref (ma U.K (aS U.K).S "height_of")) "__get__" =R3 (R3 (.builtin "function.__get__"))
 tk:takesIn U.K (.ref (ma U.K (aS U.K).S "height_of"))=R3 Sf
 si:ClC U.K (ma U.K (aS U.K).S "__init__") (dk 14 0) 3
 so:sP U (ma U.K (aS U.K).S "__init__") (fdOf U.K (ma U.K (aS U.K).S "__init__")) (aS U.K).S (I9 (fdOf U.K (ma U.K (aS U.K).S "__init__")).code) (Ja (fdOf U.K (ma U.K (aS U.K).S "__init__"))) "self" (aS U.K).S (ma U.K (fa U.K "Values") "__init__")
 sm:makesIn U.K (aS U.K).S=Sn
 sh:findIn U.K (.ref (aS U.K).S) "__init__" =R3 (R3 (.ref (ma U.K (aS U.K).S "__init__")))
 st:isFn U.K (.ref (ma U.K (aS U.K).S "__init__"))=Sn
 pf:yX U (fa U.K "ProofFault")
 pg:wa U.K (fa U.K "ProofFault") "step"
 pn:NY U.K "ProofFault"
 en:nsIn U.K mainGlobals "enumerate" =R3 Sg
section
variable{c:Cx}{G:Cfg}
theorem Jd {x:Tj}{l e o:SX}{fp bp kp Rg:UM}{fH:SM}{fd:TP}{f:V->WM Unit}(hd:fG U k G d)(hs:cD se env c)(H:wd U.K C fH fd p1 p2 p3 p4 p5 p6 p7)(Ck:A6 se x=R3 f)
  (hf:aU U k c VR (S3 (.Name "sorted" fp) env) (ae (.glob (.builtin "sorted")))) (he:cls e≠1) (ho:cls o≠8):aU U k c FR (Vu (.Assign [.Name x p] (.BinOp l .Add (.Call (.Name "sorted" fp) [e] [⟨R3 "key",.Attribute o "height_of" apos,kp⟩,⟨R3 "reverse",.Constant (.bool Sn) n2 q2,Rg⟩] pos) bp) ap) env)
   (Z (Z (d.e se l) λa=>Z (Z (d.e se e) λx=>Z (d.e se o) λy=>qg C (kN G pos) y x) λb=>addW (kN G bp) a b) λv=>Z (f v) bP):=
 kI (sk (hd.e hs l) (ue (cS G pos) H hf (hd.e hs e) (hd.e hs o) (jn he) (by show(do let v <-attributeBase o "height_of" env (S3 o env);standAt apos.atName;let r <-holding [v] (getAttr v "height_of" Sn);letTemporaryGo o v r;pure r)=_;rw[kM ho]) rfl) (A2 (cS G bp))) (jo hs Ck) rfl
theorem Ed {s0 s1 s2 s3 s5 s6 s7:Vo}{x:Tj}{l e o:SX}{bp kp Rg fp:UM}{a:SH}{fH:SM}{fd fdH:TP}{w:R4 V->WM V}
  (F:FnAt U.K a fd [s0,s1,s2,s3,.Assign [.Name x p] (.BinOp l .Add (.Call (.Name "sorted" fp) [e] [⟨R3 "key",.Attribute o "height_of" apos,kp⟩,⟨R3 "reverse",.Constant (.bool Sn) n2 q2,Rg⟩] pos) bp) ap,s5,s6,s7] ps sh)
  (hG:dm U k G) (H:wd U.K C fH fdH p1 p2 p3 p4 p5 p6 p7) (Ck:A6 (iE fd.scope.names sh) x=R3 (cC j)) (hg:pY (iE fd.scope.names sh) "sorted" =Sn) (he:cls e≠1) (ho:cls o≠8) {B:WM Fl}
  (hB:B=(let S:=QV G (D G 12) (Bn G (D G 12) (iE fd.scope.names sh) 6) (iE fd.scope.names sh);aq (S s0) (aq (S s1) (aq (S s2) (aq (S s3) (aq
   (Z (Z ((D G 12).e (iE fd.scope.names sh) l) λa=>Z (Z ((D G 12).e (iE fd.scope.names sh) e) λx=>Z ((D G 12).e (iE fd.scope.names sh) o) λy=>qg C (kN G pos) y x) λb=>addW (kN G bp) a b) λv=>Z (cC j v) bP)
   (aq (S s5) (aq (S s6) (S s7))))))))) (hW:lx ps.length B=w):bZ U (k+1) a w:=by
 subst hB hW;refine Fc F λL fr=>?_;have hs:=tu F L fr;have hd:=CH hG 12;have st:=λs=>Gs hG hd hs (λl=>Bg hG hd hs 6 l) s;exact gF (st s0) (gF (st s1) (gF (st s2) (gF (st s3) (gF (Jd hd hs H Ck ((pZ hG hs hg).2.2 _ _ (pV 4 rfl)) he ho) (gF (st s5) (gF (st s6) (vA (st s7))))))))
theorem Je {aT:SM}{xT:TP}{it t1 t2 t3 f1 f3:SX}{as1 Lr:R4 SX}{fp c1 Q1 Q2 Q3 Q4 P1 P2 P3 P4 P5 P6:UM}{w1 w2 w3:Tj}{n1 n3 n4 n5:SH}{p8 p9 q3 q4 q5 q6 q7 q8 q9 r1 r2 r3 r4 r5 r6 r7 r8 r9:UM}{w:R4 V->WM V}
  (hG:dm U k G) (hG1:dm U (k+1) G)
  (FT:FnAt U.K aT xT [.Try [.Return (R3 (.IfExp (.Compare (.Call (.Name "check_log" fp) xM [] c1) [.Is] [.Constant (.bool Sn) k1 Q1] Q2) e1 e2 Q3)) Q4] [.ExceptHandler (R3 (.Name "ProofFault" P1)) (R3 "e") [.Return (R3 (.Attribute (.Name "e" P2) "step" P3)) P4] P5] [] [] P6] ["clauses","log","goal"] OD)
  (FC:FnAt U.K aC xR [.Assign [.Name "steps" p1] (.Call f1 as1 [] p2) p3,
   .For (.Tuple [.Name "number" p4,.Name "clause" p5] n1 p6) (.Call (.Name "enumerate" p7) [it] [] p8)
    [.If t1 [.Raise (R3 (.Call (.Name "ProofFault" p9) [.Constant (.str w1) n2 q1,.Name "number" q2] [] q3)) Sg q4] [] q5,
     .If t2 [.Raise (R3 (.Call (.Name "ProofFault" q6) [.IfExp t3 (.Constant (.str w2) n3 q7) (.Constant (.str w3) n4 q8) q9,.Name "number" r1] [] r2)) Sg r3] [] r4,
     .Expr (.Call f3 Lr [] r5) r6] [] r7,.Return (R3 (.Constant (.bool Sn) n5 r8)) r9] OG GN) (u0:OG.length=3)
  (P:yX U C) (Gt:wa U.K C "step") (pn:nsIn U.K mainGlobals "ProofFault" =R3 (R3 (.ref C))) (pk:keepIn U.K (.ref C)=Sn) (cn:nsIn U.K mainGlobals "check_log" =R3 (R3 (.ref aC))) (ck:keepIn U.K (.ref aC)=Sn) (en:nsIn U.K mainGlobals "enumerate" =R3 Sg)
  (l1:xT.scope.names.lookup ("ProofFault" :Tj)=R3 .globalImplicit) (l2:xT.scope.names.lookup ("e" :Tj)=R3 .local) (l3:xT.scope.names.lookup ("check_log" :Tj)=R3 .globalImplicit) (l4:xR.scope.names.lookup ("ProofFault" :Tj)=R3 .globalImplicit) (l5:xR.scope.names.lookup ("enumerate" :Tj)=R3 .globalImplicit)
  (h3:A6 (iE xR.scope.names GN) "steps" =R3 (cC 3)) (h4:A6 (iE xR.scope.names GN) "number" =R3 (cC 4)) (h5:A6 (iE xR.scope.names GN) "clause" =R3 (cC 5)) (hit:cls it≠1) (ha:eU xM=Sn)
  (hA:lG ((D G 12).e (iE xT.scope.names OD)) xM=Z (ac 0) λx=>Z (Z (ac 1) λy=>Z (Z (ac 2) λz=>Z (ae []) λxs=>ae (z::xs)) λxs=>ae (y::xs)) λxs=>ae (x::xs)) (he:(D G 12).e (iE xT.scope.names OD) e1=ae (.int (-1)))
  (hW:lx 3 (clW (D G 12) (iE xR.scope.names GN) (.Call f1 as1 [] p2) it t1 t2 t3 (.Call f3 Lr [] r5) (.Name "number" q2) (.Name "number" r1) w1 w2 w3)=w):bZ U (k+2) aT w:=by
 subst hW;have d1:=CH hG1 12;exact GO FT FC u0 (λL o=>Rf (CH hG 12) (tu FC L _) rfl rfl P pk l4 pn l5 en (by first |rfl |kernel_rfl |boot_by_name) h3 h4 h5 (jb (env:=callEnvC xR L aC) FC.kind) (jn hit))
  (λL=>⟨P,Gt,FT.kind,FT.gl,l1,pn,l2⟩) ck (λL fr=>lj (tu FT L fr).e l3 cn (by decide)) (λL fr=>hA▸lH (λe=>d1.e (tu FT L fr) e) ha) (λx y z hp K h=>h) (λL=>rfl) (λL fr=>he▸d1.e (tu FT L fr) e1)
theorem aeJ {a:SM}{w:WM Fl}(B:Base U)(F:NW U.K a st n)(hf: ∀p∈fns,nsIn U.K mainGlobals p.1=R3 (R3 (.ref p.2.1))/\keepIn U.K (.ref p.2.1)=Sn/\bZ U k p.2.1 p.2.2)(hm: ∀p∈ms,kG U.K p.2.1 p.1 p.2.2.1/\bZ U k p.2.2.1 p.2.2.2)
  (hW:Bn (cf U.K fns ms) (D (cf U.K fns ms) 12) (iE (kZ st).names (shapeOf st)) 6 (iz st)=w) (L:SM) (fr:R4 Y4):aU U k (ctx L (shapeOf st) fr) FR (UX (iz st) (callEnvC (fdOf U.K a) L a)) w:=by
 have h:=Bg (jE B hf hm) (CH (jE B hf hm) 12) (tu F.ok L fr) 6 (iz st);replace h:=hW▸F.nm▸h;exact h
end
structure Facts (U:Un):Prop where
 b:Base U
 fB:xo U.K "is_clause" (eB 6) 1
 eW:xo U.K "ordered" (eB 12) 1
 rc:xo U.K "_law_source" (eB 16) 1
 k6:xo U.K "_law_draw" (eB 17) 2
 rd:xo U.K "_law_clause" (eB 18) 3
 At:xo U.K "_law_rows" (eB 19) 1
 jF:xo U.K "_law_models" (eB 20) 2
 nu:xo U.K "_law_clashes" (eB 21) 2
 uW:xo U.K "_law_first_fault" (eB 22) 3
 Jf:xo U.K "_law_is_log_right" (eB 24) 5
 rg:xo U.K "_law_is_answer_right" (eB 25) 5
 xq:NW U.K (fa U.K "law") (eB 26) 1
 iU:xo U.K "_law_told" (eB 23) 3
 eY:xo U.K "check_log" (eB 8) 3
 o8:NY U.K "UnitSteps"
 xu:NY U.K "Search"
 i_u:aeH U.K (aS U.K).U (dk 7 0) 2
 i_v:NW U.K (ma U.K (fa U.K "Values") "__init__") (dk 13 0) 1
 BT:nZ U.K (aS U.K).U "add" (dk 7 1) 2
 tA:nZ U.K (aS U.K).U "last_of" (dk 7 2) 2
 Jg:nZ U.K (aS U.K).U "take" (dk 7 3) 4
 Pb:nZ U.K (aS U.K).U "run" (dk 7 4) 2
 Jh:nZ U.K (aS U.K).U "undo" (dk 7 5) 1
 xz:nZ U.K (aS U.K).U "forced" (dk 7 6) 2
 nw:nZ U.K (aS U.K).U "follows" (dk 7 7) 2
 rh:nZ U.K (aS U.K).S "says" (dk 13 1) 2
 xA:nZ U.K (aS U.K).S "let" (dk 13 2) 3
 jW:nZ U.K (aS U.K).S "back_to" (dk 13 3) 2
 fX:nZ U.K (aS U.K).S "add_clause" (dk 14 1) 2
 ri:nZ U.K (aS U.K).S "refute" (dk 14 2) 1
 Au:nZ U.K (aS U.K).S "keep" (dk 14 3) 2
 xB:nZ U.K (aS U.K).S "spread" (dk 14 4) 1
 oe:nZ U.K (aS U.K).S "has_moved" (dk 14 5) 3
 Ji:nZ U.K (aS U.K).S "warm" (dk 14 6) 2
 xD:nZ U.K (aS U.K).S "lesson" (dk 14 7) 2
 fE:nZ U.K (aS U.K).S "height_of" (dk 14 8) 2
 BU:nZ U.K (aS U.K).S "blame" (dk 14 10) 2
 tB:nZ U.K (aS U.K).S "hottest" (dk 14 11) 1
 xE:nZ U.K (aS U.K).S "decide" (dk 14 12) 2
 BV:nZ U.K (aS U.K).S "solve" (dk 14 13) 2
 xG:nZ U.K (aS U.K).S "failed" (dk 14 15) 1
 mv:nZ U.K (aS U.K).S "learn" (dk 14 9) 2
 sp:Spec U
theorem og (F:Facts U):bZ U 1 (fa U.K "is_clause") (fg (aS U.K)):=da F.b F.fB.f (k:=0) (fns:=[]) (ms:=[]) aE aE (by kernel_rfl)
theorem Jj (F:Facts U):bZ U 1 (ma U.K (aS U.K).U "add") (qm (aS U.K)):=da F.b F.BT.f (k:=0) (fns:=[]) (ms:=[]) aE aE (by kernel_rfl)
theorem Ee (F:Facts U):bZ U 1 (ma U.K (aS U.K).U "last_of") (hV (aS U.K)):=da F.b F.tA.f (k:=0) (fns:=[]) (ms:=[]) aE aE (by kernel_rfl)
theorem aaP (F:Facts U):bZ U 2 (ma U.K (aS U.K).U "take") (qn (aS U.K)):=da F.b F.Jg.f (k:=1) (fns:=[]) (ms:=[("last_of",(aS U.K).U,ma U.K (aS U.K).U "last_of",hV (aS U.K))]) aE (Sh.mpr ⟨⟨F.tA.ok,(Ee F)⟩,aE⟩) (by kernel_rfl)
theorem adj (F:Facts U):bZ U 3 (ma U.K (aS U.K).U "run") (wi (aS U.K)):=da F.b F.Pb.f (k:=2) (fns:=[]) (ms:=[("take",(aS U.K).U,ma U.K (aS U.K).U "take",qn (aS U.K))]) aE (Sh.mpr ⟨⟨F.Jg.ok,(aaP F)⟩,aE⟩) (by kernel_rfl)
theorem aaQ (F:Facts U):bZ U 1 (ma U.K (aS U.K).U "undo") (qo (aS U.K)):=da F.b F.Jh.f (k:=0) (fns:=[]) (ms:=[]) aE aE (by kernel_rfl)
theorem Jk (F:Facts U):bZ U 4 (ma U.K (aS U.K).U "forced") (jp (aS U.K)):=da F.b F.xz.f (k:=3) (fns:=[]) (ms:=[("run",(aS U.K).U,ma U.K (aS U.K).U "run",wi (aS U.K)),("undo",(aS U.K).U,ma U.K (aS U.K).U "undo",qo (aS U.K))]) aE (Sh.mpr ⟨⟨F.Pb.ok,(adj F)⟩,(Sh.mpr ⟨⟨F.Jh.ok,(aaQ F).le (R5 rfl)⟩,aE⟩)⟩) (by kernel_rfl)
theorem tC (F:Facts U):bZ U 5 (ma U.K (aS U.K).U "follows") (hX (aS U.K)):=da F.b F.nw.f (k:=4) (fns:=[]) (ms:=[("forced",(aS U.K).U,ma U.K (aS U.K).U "forced",jp (aS U.K))]) aE (Sh.mpr ⟨⟨F.xz.ok,(Jk F)⟩,aE⟩) (by kernel_rfl)
theorem N0 (F:Facts U):bZ U 2 (ma U.K (aS U.K).U "__init__") (lQ (aS U.K)):=da F.b F.i_u.f (k:=1) (fns:=[]) (ms:=[("add",(aS U.K).U,ma U.K (aS U.K).U "add",qm (aS U.K))]) aE (Sh.mpr ⟨⟨F.BT.ok,(Jj F)⟩,aE⟩) (by kernel_rfl)
theorem BW (F:Facts U):bZ U 3 (aS U.K).U (jR (aS U.K)):=(show sA (aS U.K).U (lQ (aS U.K))=jR (aS U.K) by kernel_rfl)▸vu F.i_u.hm F.i_u.hi F.i_u.ht (N0 F)
theorem ny (F:Facts U):bZ U 1 (fa U.K "ordered") (di (aS U.K)):=da F.b F.eW.f (k:=0) (fns:=[]) (ms:=[]) aE aE (by kernel_rfl)
theorem N1 (F:Facts U):bZ U 1 (ma U.K (fa U.K "Values") "__init__") (oZ (aS U.K)):=da F.b F.i_v (k:=0) (fns:=[]) (ms:=[]) aE aE (by kernel_rfl)
theorem uX (F:Facts U):bZ U 1 (ma U.K (aS U.K).S "says") (dF (aS U.K)):=da F.b F.rh.f (k:=0) (fns:=[]) (ms:=[]) aE aE (by kernel_rfl)
theorem BX (F:Facts U):bZ U 1 (ma U.K (aS U.K).S "let") (jq (aS U.K)):=da F.b F.xA.f (k:=0) (fns:=[]) (ms:=[]) aE aE (by kernel_rfl)
theorem nA (F:Facts U):bZ U 1 (ma U.K (aS U.K).S "back_to") (cK (aS U.K)):=da F.b F.jW.f (k:=0) (fns:=[]) (ms:=[]) aE aE (by kernel_rfl)
theorem xH (F:Facts U):bZ U 1 (ma U.K (aS U.K).S "refute") (gu (aS U.K)):=da F.b F.ri.f (k:=0) (fns:=[]) (ms:=[]) aE aE (by kernel_rfl)
theorem Jl (F:Facts U):bZ U 1 (ma U.K (aS U.K).S "keep") (kP (aS U.K)):=da F.b F.Au.f (k:=0) (fns:=[]) (ms:=[]) aE aE (by kernel_rfl)
theorem iV (F:Facts U):bZ U 2 (ma U.K (aS U.K).S "add_clause") (cQ (aS U.K)):=da F.b F.fX.f (k:=1) (fns:=[("ordered",(fa U.K "ordered"),di (aS U.K))]) (ms:=[("back_to",(aS U.K).S,ma U.K (aS U.K).S "back_to",cK (aS U.K)),("says",(aS U.K).S,ma U.K (aS U.K).S "says",dF (aS U.K)),("refute",(aS U.K).S,ma U.K (aS U.K).S "refute",gu (aS U.K)),("let",(aS U.K).S,ma U.K (aS U.K).S "let",jq (aS U.K)),("keep",(aS U.K).S,ma U.K (aS U.K).S "keep",kP (aS U.K))]) (Sh.mpr ⟨⟨F.eW.ns,F.eW.keep,(ny F)⟩,aE⟩) (Sh.mpr ⟨⟨F.jW.ok,(nA F)⟩,(Sh.mpr ⟨⟨F.rh.ok,(uX F)⟩,(Sh.mpr ⟨⟨F.ri.ok,(xH F)⟩,(Sh.mpr ⟨⟨F.xA.ok,(BX F)⟩,(Sh.mpr ⟨⟨F.Au.ok,(Jl F)⟩,aE⟩)⟩)⟩)⟩)⟩) (by kernel_rfl)
theorem N2 (F:Facts U):bZ U 3 (ma U.K (aS U.K).S "__init__") (jT (aS U.K)):=by
 have zAC:=F.sp.so;have C:=F.sp.si.ok;have h:=QX (k:=2) (rest:=(iz (dk 14 0)).tail) (ps:=df (dk 14 0)) (sh:=shapeOf (dk 14 0)) C zAC (by decide+kernel) (by decide+kernel) ((N1 F).le (R5 rfl)) λL fr=>Bg (jE F.b (k:=2) (fns:=[]) (ms:=[("add_clause",(aS U.K).S,ma U.K (aS U.K).S "add_clause",cQ (aS U.K))]) aE (Sh.mpr ⟨⟨F.fX.ok,(iV F)⟩,aE⟩)) (CH (jE F.b (k:=2) aE (Sh.mpr ⟨⟨F.fX.ok,(iV F)⟩,aE⟩)) 12) (se:=iE (kZ (dk 14 0)).names (shapeOf (dk 14 0))) ⟨NZ C.kind C.gl C.bi C.shn L fr,F.sp.si.nm,Jc⟩ 6 _;rw[F.sp.si.nn]at h;exact(show _=jT (aS U.K) by kernel_rfl)▸h
theorem Jm (F:Facts U):bZ U 4 (aS U.K).S (ip (aS U.K)):=(show sA (aS U.K).S (jT (aS U.K))=ip (aS U.K) by kernel_rfl)▸vu F.sp.sm F.sp.sh F.sp.st (N2 F)
theorem xI (F:Facts U):bZ U 2 (ma U.K (aS U.K).S "has_moved") (fq (aS U.K)):=da F.b F.oe.f (k:=1) (fns:=[]) (ms:=[("says",(aS U.K).S,ma U.K (aS U.K).S "says",dF (aS U.K))]) aE (Sh.mpr ⟨⟨F.rh.ok,(uX F)⟩,aE⟩) (by kernel_rfl)
theorem Jn (F:Facts U):bZ U 3 (ma U.K (aS U.K).S "spread") (jt (aS U.K)):=da F.b F.xB.f (k:=2) (fns:=[]) (ms:=[("has_moved",(aS U.K).S,ma U.K (aS U.K).S "has_moved",fq (aS U.K)),("says",(aS U.K).S,ma U.K (aS U.K).S "says",dF (aS U.K)),("let",(aS U.K).S,ma U.K (aS U.K).S "let",jq (aS U.K))]) aE (Sh.mpr ⟨⟨F.oe.ok,(xI F)⟩,(Sh.mpr ⟨⟨F.rh.ok,(uX F).le (R5 rfl)⟩,(Sh.mpr ⟨⟨F.xA.ok,(BX F).le (R5 rfl)⟩,aE⟩)⟩)⟩) (by kernel_rfl)
theorem aaR (F:Facts U):bZ U 1 (ma U.K (aS U.K).S "warm") (qL (aS U.K)):=da F.b F.Ji.f (k:=0) (fns:=[]) (ms:=[]) aE aE (by kernel_rfl)
theorem Jo (F:Facts U):bZ U 2 (ma U.K (aS U.K).S "lesson") (ju (aS U.K)):=da F.b F.xD.f (k:=1) (fns:=[]) (ms:=[("warm",(aS U.K).S,ma U.K (aS U.K).S "warm",qL (aS U.K))]) aE (Sh.mpr ⟨⟨F.Ji.ok,(aaR F)⟩,aE⟩) (by kernel_rfl)
theorem xJ (F:Facts U):bZ U 1 (ma U.K (aS U.K).S "height_of") (fu (aS U.K)):=da F.b F.fE.f (k:=0) (fns:=[]) (ms:=[]) aE aE (by kernel_rfl)
theorem aaS (F:Facts U): ∃p1 p2 p3 p4 p5 p6 p7,wd U.K (aS U.K).S (ma U.K (aS U.K).S "height_of") (fdOf U.K (ma U.K (aS U.K).S "height_of")) p1 p2 p3 p4 p5 p6 p7:=⟨_,_,_,_,_,_,_,F.fE.ok,(SV.mp (SV.mp (TR.mp (SV.mp F.b.ck).2 10 (Uw.mpr (by decide)))).2).1,F.sp.gf,F.sp.tk,As (SV.mp F.b.ck).2 F.b.sf F.b.ss (by decide) (by decide),F.fE.f.ok,by rw[F.fE.f.nm];decide+kernel,uU F.b.Qz (pV 1 rfl)⟩
theorem N5 (F:Facts U):bZ U 3 (ma U.K (aS U.K).S "learn") (lW (aS U.K)):=by
 obtain⟨p1,p2,p3,p4,p5,p6,p7,H⟩:=aaS F;exact Ed (G:=cf U.K [("ordered",(fa U.K "ordered"),di (aS U.K))] [("refute",(aS U.K).S,ma U.K (aS U.K).S "refute",gu (aS U.K)),("lesson",(aS U.K).S,ma U.K (aS U.K).S "lesson",ju (aS U.K)),("height_of",(aS U.K).S,ma U.K (aS U.K).S "height_of",fu (aS U.K)),("back_to",(aS U.K).S,ma U.K (aS U.K).S "back_to",cK (aS U.K)),("let",(aS U.K).S,ma U.K (aS U.K).S "let",jq (aS U.K)),("keep",(aS U.K).S,ma U.K (aS U.K).S "keep",kP (aS U.K))]) F.mv.f.ok (jE F.b (k:=2) (Sh.mpr ⟨⟨F.eW.ns,F.eW.keep,(ny F).le (R5 rfl)⟩,aE⟩) (Sh.mpr ⟨⟨F.ri.ok,(xH F).le (R5 rfl)⟩,(Sh.mpr ⟨⟨F.xD.ok,(Jo F)⟩,(Sh.mpr ⟨⟨F.fE.ok,(xJ F).le (R5 rfl)⟩,(Sh.mpr ⟨⟨F.jW.ok,(nA F).le (R5 rfl)⟩,(Sh.mpr ⟨⟨F.xA.ok,(BX F).le (R5 rfl)⟩,(Sh.mpr ⟨⟨F.Au.ok,(Jl F).le (R5 rfl)⟩,aE⟩)⟩)⟩)⟩)⟩)⟩)) H (j:=2) (by rw[F.mv.f.nm];kernel_rfl) (by rw[F.mv.f.nm];decide+kernel) (by decide+kernel) (by decide+kernel) rfl (by rw[F.mv.f.nm];kernel_rfl)
theorem N6 (F:Facts U):bZ U 2 (ma U.K (aS U.K).S "blame") (lX (aS U.K)):=da F.b F.BU.f (k:=1) (fns:=[("ordered",(fa U.K "ordered"),di (aS U.K))]) (ms:=[]) (Sh.mpr ⟨⟨F.eW.ns,F.eW.keep,(ny F)⟩,aE⟩) aE (by kernel_rfl)
theorem Ef (F:Facts U):bZ U 1 (ma U.K (aS U.K).S "hottest") (il (aS U.K)):=da F.b F.tB.f (k:=0) (fns:=[]) (ms:=[]) aE aE (by kernel_rfl)
theorem Jp (F:Facts U):bZ U 3 (ma U.K (aS U.K).S "decide") (jv (aS U.K)):=da F.b F.xE.f (k:=2) (fns:=[]) (ms:=[("says",(aS U.K).S,ma U.K (aS U.K).S "says",dF (aS U.K)),("blame",(aS U.K).S,ma U.K (aS U.K).S "blame",lX (aS U.K)),("hottest",(aS U.K).S,ma U.K (aS U.K).S "hottest",il (aS U.K)),("let",(aS U.K).S,ma U.K (aS U.K).S "let",jq (aS U.K))]) aE (Sh.mpr ⟨⟨F.rh.ok,(uX F).le (R5 rfl)⟩,(Sh.mpr ⟨⟨F.BU.ok,(N6 F)⟩,(Sh.mpr ⟨⟨F.tB.ok,(Ef F).le (R5 rfl)⟩,(Sh.mpr ⟨⟨F.xA.ok,(BX F).le (R5 rfl)⟩,aE⟩)⟩)⟩)⟩) (by kernel_rfl)
theorem N7 (F:Facts U):bZ U 4 (ma U.K (aS U.K).S "solve") (me (aS U.K)):=da F.b F.BV.f (k:=3) (fns:=[]) (ms:=[("back_to",(aS U.K).S,ma U.K (aS U.K).S "back_to",cK (aS U.K)),("spread",(aS U.K).S,ma U.K (aS U.K).S "spread",jt (aS U.K)),("learn",(aS U.K).S,ma U.K (aS U.K).S "learn",lW (aS U.K)),("decide",(aS U.K).S,ma U.K (aS U.K).S "decide",jv (aS U.K))]) aE (Sh.mpr ⟨⟨F.jW.ok,(nA F).le (R5 rfl)⟩,(Sh.mpr ⟨⟨F.xB.ok,(Jn F)⟩,(Sh.mpr ⟨⟨F.mv.ok,(N5 F)⟩,(Sh.mpr ⟨⟨F.xE.ok,(Jp F)⟩,aE⟩)⟩)⟩)⟩) (by kernel_rfl)
theorem Jq (F:Facts U):bZ U 1 (ma U.K (aS U.K).S "failed") (jw (aS U.K)):=da F.b F.xG.f (k:=0) (fns:=[]) (ms:=[]) aE aE (by kernel_rfl)
theorem Jr (F:Facts U):bZ U 1 (fa U.K "_law_source") (jA (aS U.K)):=da F.b F.rc.f (k:=0) (fns:=[]) (ms:=[]) aE aE (by kernel_rfl)
theorem Av (F:Facts U):bZ U 1 (fa U.K "_law_draw") (eA (aS U.K)):=da F.b F.k6.f (k:=0) (fns:=[]) (ms:=[]) aE aE (by kernel_rfl)
theorem Js (F:Facts U):bZ U 2 (fa U.K "_law_clause") (gz (aS U.K)):=da F.b F.rd.f (k:=1) (fns:=[("_law_draw",(fa U.K "_law_draw"),eA (aS U.K))]) (ms:=[]) (Sh.mpr ⟨⟨F.k6.ns,F.k6.keep,(Av F)⟩,aE⟩) aE (by kernel_rfl)
theorem aaT (F:Facts U):bZ U 1 (fa U.K "_law_rows") (qW (aS U.K)):=da F.b F.At.f (k:=0) (fns:=[]) (ms:=[]) aE aE (by kernel_rfl)
theorem xK (F:Facts U):bZ U 1 (fa U.K "_law_models") (fA (aS U.K)):=da F.b F.jF.f (k:=0) (fns:=[]) (ms:=[]) aE aE (by kernel_rfl)
theorem Eg (F:Facts U):bZ U 1 (fa U.K "_law_clashes") (iu (aS U.K)):=da F.b F.nu.f (k:=0) (fns:=[]) (ms:=[]) aE aE (by kernel_rfl)
theorem N8 (F:Facts U):bZ U 2 (fa U.K "_law_first_fault") (gO (aS U.K)):=da F.b F.uW.f (k:=1) (fns:=[("_law_clashes",(fa U.K "_law_clashes"),iu (aS U.K))]) (ms:=[]) (Sh.mpr ⟨⟨F.nu.ns,F.nu.keep,(Eg F)⟩,aE⟩) aE (by kernel_rfl)
theorem N9 (F:Facts U):FnAt U.K (fa U.K "_law_told") (fdOf U.K (fa U.K "_law_told")) (iz (eB 23)) ["clauses","log","goal"] OD:=by
 have h:=F.iU.f.ok;rw[show df (eB 23)=[("clauses" :Tj),"log","goal"] by kernel_rfl]at h;exact⟨h.look,h.code,h.bd,h.bind,h.Ej,h.kind,h.gl,h.bi,h.co,h.gen,by rw[F.iU.f.nm];kernel_rfl,by decide+kernel,by decide+kernel,rfl⟩
theorem aaU (F:Facts U):bZ U 7 (fa U.K "_law_told") (jB (aS U.K)):=
 Je (G:=cf U.K [("UnitSteps",(aS U.K).U,jR (aS U.K)),("is_clause",(fa U.K "is_clause"),fg (aS U.K))] [("follows",(aS U.K).U,ma U.K (aS U.K).U "follows",hX (aS U.K)),("add",(aS U.K).U,ma U.K (aS U.K).U "add",qm (aS U.K))]) (jE F.b (k:=5) (Sh.mpr ⟨⟨F.o8.ns,F.o8.keep,(BW F).le (R5 rfl)⟩,(Sh.mpr ⟨⟨F.fB.ns,F.fB.keep,(og F).le (R5 rfl)⟩,aE⟩)⟩) (Sh.mpr ⟨⟨F.nw.ok,(tC F)⟩,(Sh.mpr ⟨⟨F.BT.ok,(Jj F).le (R5 rfl)⟩,aE⟩)⟩)) (jE F.b (k:=6) (Sh.mpr ⟨⟨F.o8.ns,F.o8.keep,(BW F).le (R5 rfl)⟩,(Sh.mpr ⟨⟨F.fB.ns,F.fB.keep,(og F).le (R5 rfl)⟩,aE⟩)⟩) (Sh.mpr ⟨⟨F.nw.ok,(tC F).le (R5 rfl)⟩,(Sh.mpr ⟨⟨F.BT.ok,(Jj F).le (R5 rfl)⟩,aE⟩)⟩)) (N9 F) F.eY.f.ok F.eY.f.nn F.sp.pf F.sp.pg F.sp.pn.ns F.sp.pn.keep F.eY.ns F.eY.keep F.sp.en
  (by rw[F.iU.f.nm];kernel_rfl) (by rw[F.iU.f.nm];kernel_rfl) (by rw[F.iU.f.nm];kernel_rfl) (by rw[F.eY.f.nm];kernel_rfl) (by rw[F.eY.f.nm];kernel_rfl)
  (by rw[F.eY.f.nm];kernel_rfl) (by rw[F.eY.f.nm];kernel_rfl) (by rw[F.eY.f.nm];kernel_rfl) (by decide+kernel) (by decide+kernel) (by rw[F.iU.f.nm];kernel_rfl) (by rw[F.iU.f.nm];kernel_rfl) (by rw[F.eY.f.nm];kernel_rfl)
theorem adk (F:Facts U):bZ U 8 (fa U.K "_law_is_log_right") (tj (aS U.K)):=da F.b F.Jf.f (k:=7) (fns:=[("_law_told",(fa U.K "_law_told"),jB (aS U.K)),("_law_first_fault",(fa U.K "_law_first_fault"),gO (aS U.K)),("_law_models",(fa U.K "_law_models"),fA (aS U.K)),("_law_draw",(fa U.K "_law_draw"),eA (aS U.K))]) (ms:=[]) (Sh.mpr ⟨⟨F.iU.ns,F.iU.keep,(aaU F)⟩,(Sh.mpr ⟨⟨F.uW.ns,F.uW.keep,(N8 F).le (R5 rfl)⟩,(Sh.mpr ⟨⟨F.jF.ns,F.jF.keep,(xK F).le (R5 rfl)⟩,(Sh.mpr ⟨⟨F.k6.ns,F.k6.keep,(Av F).le (R5 rfl)⟩,aE⟩)⟩)⟩)⟩) aE (by kernel_rfl)
theorem Jt (F:Facts U):bZ U 9 (fa U.K "_law_is_answer_right") (iv (aS U.K)):=da F.b F.rg.f (k:=8) (fns:=[("_law_models",(fa U.K "_law_models"),fA (aS U.K)),("_law_is_log_right",(fa U.K "_law_is_log_right"),tj (aS U.K))]) (ms:=[("solve",(aS U.K).S,ma U.K (aS U.K).S "solve",me (aS U.K)),("failed",(aS U.K).S,ma U.K (aS U.K).S "failed",jw (aS U.K))]) (Sh.mpr ⟨⟨F.jF.ns,F.jF.keep,(xK F).le (R5 rfl)⟩,(Sh.mpr ⟨⟨F.Jf.ns,F.Jf.keep,(adk F)⟩,aE⟩)⟩) (Sh.mpr ⟨⟨F.BV.ok,(N7 F).le (R5 rfl)⟩,(Sh.mpr ⟨⟨F.xG.ok,(Jq F).le (R5 rfl)⟩,aE⟩)⟩) (by kernel_rfl)
theorem adl (F:Facts U): ∀L fr,aU U 9 (ctx L (shapeOf (eB 26)) fr) FR (UX (iz (eB 26)) (callEnvC (fdOf U.K (fa U.K "law")) L (fa U.K "law"))) (O7 (aS U.K)):=aeJ F.b F.xq (k:=9) (fns:=[("_law_source",(fa U.K "_law_source"),jA (aS U.K)),("_law_draw",(fa U.K "_law_draw"),eA (aS U.K)),("_law_clause",(fa U.K "_law_clause"),gz (aS U.K)),("_law_rows",(fa U.K "_law_rows"),qW (aS U.K)),("Search",(aS U.K).S,ip (aS U.K)),("_law_is_answer_right",(fa U.K "_law_is_answer_right"),iv (aS U.K))]) (ms:=[("add_clause",(aS U.K).S,ma U.K (aS U.K).S "add_clause",cQ (aS U.K))]) (Sh.mpr ⟨⟨F.rc.ns,F.rc.keep,(Jr F).le (R5 rfl)⟩,(Sh.mpr ⟨⟨F.k6.ns,F.k6.keep,(Av F).le (R5 rfl)⟩,(Sh.mpr ⟨⟨F.rd.ns,F.rd.keep,(Js F).le (R5 rfl)⟩,(Sh.mpr ⟨⟨F.At.ns,F.At.keep,(aaT F).le (R5 rfl)⟩,(Sh.mpr ⟨⟨F.xu.ns,F.xu.keep,(Jm F).le (R5 rfl)⟩,(Sh.mpr ⟨⟨F.rg.ns,F.rg.keep,(Jt F)⟩,aE⟩)⟩)⟩)⟩)⟩)⟩) (Sh.mpr ⟨⟨F.fX.ok,(iV F).le (R5 rfl)⟩,aE⟩) (by kernel_rfl)
end
section
set_option maxRecDepth 100000
theorem ints_of (h:IntsAre vals sc):ja ρ (bH sc) vals:=by
 induction h with
 |nil=>exact TK
 |cons n t _ ih=>exact⟨⟨t,rfl⟩,ih⟩
theorem Oa {P:Params}{la:SM}{xs:R4 WData}{vs:R4 Sz}(w:Well P h (.ref la) (.list xs))(hL:h.IsList la vs.toArray):h.get? la=R3 {cls:=.type "list",data:=.seq vs.toArray}:=by
 cases w with
 |list e _=>obtain⟨o,e',_,n,hd⟩:=hL;rw[e]at e';obtain rfl:=R7 e';cases hd;exact e
theorem Ob {a:SM}(F:Facts U)(hs:s.heap=U.base)(ho:s.os=U.os)(hg:s.gens= #[])(hA:A.frames=R3 [])(hh:A.handled=Sg)(hd:A.depth<=400)(hu:A.units<=100)
  (ha:U.base.get? a=R3 {cls:=.type "list",data:=.seq vals.toArray}) (hv:IntsAre vals sc) (hz:sc.length<=63)
  (q: ∀s',(∀b o,s.heap.get? b=R3 o->s'.heap.get? b=R3 o)->s'.os=s.os->s'.gens= #[]->R (.ok (.ret (.bool Sn))) s'):T3 (Tc U.prog U.w) A (.call (.ref (fa U.K "law")) ⟨[.ref a],[]⟩) R s:=by
 have FA:=F.xq.ok;have X:U.K.In s.heap:=hs▸U.rk;obtain⟨o,hf,hfd⟩:=SR.mp FA.look;have ps:df (eB 26)=[("script" :Tj)]:=by kernel_rfl
 have aaV: ∀p∈shapeOf (eB 26),p.2=Sg:=λp hp=>by
  have:(shapeOf (eB 26)).all (λp=>p.2==Sg)=Sn:=by kernel_rfl
  exact eq_of_beq (TR.mp this p hp)
 have nc: ∀{L:SH} {fr:R4 Y4} {i:SH} {y:Tj} {ob:Tn} {d:SM},(ctx L (shapeOf (eB 26)) fr).vars[i]? =R3 (y,Loc.cell ob d)->False:=λ{L fr i y ob d} e=>by obtain⟨o,e1,e2⟩:=dC e;have:=aaV _ (R9 e1);dsimp only at this;subst this;cases e2
 have l0:(fdOf U.K (fa U.K "law")).scope.names.lookup ("script" :Tj)=R3 .local:=by rw[F.xq.nm];kernel_rfl
 refine XW (by show _<1000;exact VH hd (by decide)) (X _ _ hf) hfd (hs▸U.sj) (XV X FA.code) FA.bd (F.xq.bind [.ref a] rfl) FA.Ej (λy hy=>?_) (λaB ic=>?_) FA.co FA.gen FA.kind
 ·rw[ps]at hy;obtain rfl:=R8.mp hy;exact .inl l0
 ·obtain⟨h',tk,rfl⟩:=ic.toInCall.same;have k:=ic.toInCall.keep;have hL:=ic.toInCall.ns;have fL:U.base.get? s.heap.objs.size=Sg:=hs▸WY (S8 _);have nm: ∀(i j:SH) (y:Tj),(ctx s.heap.objs.size (shapeOf (eB 26)) [callEnvC (fdOf U.K (fa U.K "law")) s.heap.objs.size (fa U.K "law")]).vars[i]? =R3 (y,Loc.ns)->(ctx s.heap.objs.size (shapeOf (eB 26)) [callEnvC (fdOf U.K (fa U.K "law")) s.heap.objs.size (fa U.K "law")]).vars[j]? =R3 (y,Loc.ns)->i=j:=λi j y p q=>by
   obtain⟨a,e1,_⟩:=dC p;obtain⟨b,e2,_⟩:=dC q;have f1:((shapeOf (eB 26)).map (·.1))[i]? =R3 y:=by rw[Sx,e1];rfl
   have f2:((shapeOf (eB 26)).map (·.1))[j]? =R3 y:=by rw[Sx,e2];rfl
   exact(UG (R6.mp f1).1 FA.d1).mp (f1.trans f2.symm)
  have ok:OK U (λO=>Sg) (ctx s.heap.objs.size (shapeOf (eB 26)) [callEnvC (fdOf U.K (fa U.K "law")) s.heap.objs.size (fa U.K "law")]) ⟨λO=>Sg,λx=>if x=a then R3 (Sf,bH sc)else Sg⟩ {loc:=λi=>[V.bF Sf (bH sc)][i]?,hp:=λO=>Sg} {s with heap:=h',toks:=tk}:=
   {keep:=λb o e=>k b o (hs▸e)
    cI:=λO O e=>c6 e
    k7:=λe he=>by obtain rfl:=R8.mp he;exact⟨⟨by show(fdOf U.K (fa U.K "law")).scope.kind≠_;rw[FA.kind];decide,λx e=>by obtain rfl:=R7 e;exact fL⟩,_,rfl,.inl rfl⟩
    hp:=λO O e=>c6 e
    j9:=λO O e=>c6 e
    inj:=λO O O e=>c6 e
    low:=λO O e=>c6 e
    eE:=λO O e=>c6 e
    dr:=λO O e=>c6 e
    db:=λO O e=>c6 e
    eF:=λO O e=>c6 e
    eO:=fL
    eG:=rfl
    eZ:=λO O O O e=>(nc e).elim
    dT:=λO O O e=>(nc e).elim
    apart:=λO O O O O O O e=>(nc e).elim
    names:=nm
    ns:=⟨_,hL,λi y e x hx=>by
     cases i with
     |succ i=>exact c6 hx
     |zero=>
      obtain rfl:=R7 hx;obtain⟨o,e1,_⟩:=dC e;have ey:(df (eB 26))[0]? =R3 y:=by rw[FA.pre,F.xq.nn,Tu (by decide),Sx,e1];rfl
      rw[ps]at ey;obtain rfl:=R7 ey;refine⟨.ref a,?_,a,Sv rfl,rfl⟩;rw[ps];exact jJ l0 (by show[("script" :Tj)].Nodup;decide) (R8.mpr rfl)⟩
    cells:=λO O O O e=>(nc e).elim
    im:=λx b vs e=>by
     by_cases z:x=a
     ·subst z;cases(Sv rfl).symm.trans e;exact⟨_,_,k _ _ (hs▸ha),ints_of hv⟩
     ·exact c6 ((Sq z).symm.trans e)
    k9:=λO O e=>c6 e
    kA:=λO O e=>c6 e
    kB:=Sq λz=>c6 ((fL.symm.trans (SU U.base.get? z)).trans ha)
    mC:=λO O O O e=>(nc e).elim
    gens:=hg
    os:=ho}
  have W:BJ (aS U.K) [.bF Sf (bH sc)] ⟨λO=>Sg,λO=>Sg⟩ (λv O=>v=.bool Sn):=aaL (SJ hz (by decide)) λO=>rfl;unfold BJ cG at W;refine aA (adl F _ _ (A.deeper (callEnvC (fdOf U.K (fa U.K "law")) s.heap.objs.size (fa U.K "law"))) _ _ _ _ _ ⟨by show A.depth+1+_<=900;exact SJ (Vr (ZY hd) _) (by decide),by show A.units+3+_<=9000;exact SJ (Vr (Vr hu _) _) (by decide),hh,WT hA⟩ ok W.2) λf aX aM aL fl bu aI bN aW=>?_;have fin:=q aX (λb o e=>aI.keep b o (hs▸e)) (aI.os.trans ho.symm) aI.gens;cases fl with
  |ret v=>obtain⟨x,rfl,r⟩:=bN;have hv:v=.bool Sn:=aW;subst hv;cases(show x=_ from r);exact fin
  |next=>exact nomatch (show V.none=.bool Sn from aW)
  |brk=>exact aW.elim
  |cont=>exact aW.elim
end
end
set_option Elab.async true
set_option tactic.hygienic true
theorem head.tw3005195334005146403:True:=trivial
theorem head.tw12575212873697404729:True:=trivial
theorem head.tw15194442113531307459:True:=trivial
theorem head.tw16076024764323368913:True:=trivial
theorem head.tw17587613546964783401:True:=trivial
theorem head.tw8078956275686653752:True:=trivial
theorem head.tw5750271973687245633:True:=trivial
theorem head.tw5761837647071225610:True:=trivial
theorem head.tw10499781913811417599:True:=trivial
theorem head.tw14095003044547564341:True:=trivial
theorem head.tw11508180340422966866:True:=trivial
theorem head.tw5946924669215634794:True:=trivial
theorem head.tw15352715559719000421:True:=trivial
theorem head.tw11397661892910294824:True:=trivial
theorem head.tw4350118194570374645:True:=trivial
theorem head.tw5429036269764669340:True:=trivial
theorem head.tw17094259727078229768:True:=trivial
theorem head.tw18346997656300332154:True:=trivial
theorem head.tw12695630798963897161:True:=trivial
theorem head.tw6374136363671789279:True:=trivial
theorem head.tw9174659521241822571:True:=trivial
theorem head.tw16620234397014404417:True:=trivial
theorem head.tw17156215996550014377:True:=trivial
theorem head.tw11400826003583843347:True:=trivial
theorem head.tw7014389697025411046:True:=trivial
theorem head.tw13690747758485624307:True:=trivial
theorem head.tw626265057569065842:True:=trivial
theorem head.tw1173996356517286434:True:=trivial
theorem head.tw1649421879815406633:True:=trivial
theorem head.tw16707303586532996161:True:=trivial
theorem head.tw11696756508867781744:True:=trivial
theorem head.tw5949489101013523454:True:=trivial
theorem head.tw9323065401740838065:True:=trivial
theorem head.tw12492393055473759494:True:=trivial
theorem head.tw3261392014756744744:True:=trivial
theorem head.tw6361458917346530135:True:=trivial
theorem head.tw17467612704998614586:True:=trivial
theorem head.tw7049931367453429419:True:=trivial
theorem head.tw613878129352224903:True:=trivial
theorem head.tw9734777046528866081:True:=trivial
theorem head.tw5127504558070390528:True:=trivial
theorem head.tw10817890066090581321:True:=trivial
theorem head.tw3201555405686817096:True:=trivial
theorem head.tw10435814889124645094:True:=trivial
theorem head.tw11655555534163255547:True:=trivial
theorem head.tw7662661500175383271:True:=trivial
theorem head.tw7109980337720735173:True:=trivial
theorem head.tw14152879194214868443:True:=trivial
theorem head.tw12609679158269340531:True:=trivial
theorem head.tw10707721935627069506:True:=trivial
theorem head.tw4450540364159346795:True:=trivial
theorem head.tw13981879106693875756:True:=trivial
theorem head.tw15113400198541657293:True:=trivial
theorem head.tw11008245909277005279:True:=trivial
theorem head.tw7743882241696428603:True:=trivial
theorem head.tw14097566509676696471:True:=trivial
theorem head.tw4350728185758472490:True:=trivial
theorem head.tw11490660301197446722:True:=trivial
theorem head.tw14870276698333431918:True:=trivial
theorem head.tw7410391151366980795:True:=trivial
theorem head.tw4403250508359555792:True:=trivial
theorem head.tw12821283340046979905:True:=trivial
theorem head.tw4768226944276125563:True:=trivial
theorem head.tw13028383790170900028:True:=trivial
theorem head.tw7444787871321497651:True:=trivial
theorem head.tw2117718887495672028:True:=trivial
theorem head.tw16999847677891212896:True:=trivial
theorem head.tw15765782803266417700:True:=trivial
theorem head.tw6954016180038508674:True:=trivial
theorem head.tw13680195856602161129:True:=trivial
theorem head.tw301330014984883848:True:=trivial
theorem head.tw10171628364916707740:True:=trivial
theorem head.tw13215044013281453906:True:=trivial
theorem head.tw3871416328264855607:True:=trivial
theorem head.tw342531018466439434:True:=trivial
theorem head.tw2519008032021643275:True:=trivial
theorem head.tw5247835506337286454:True:=trivial
theorem head.tw1817757280422668203:True:=trivial
theorem head.tw11404417838555750734:True:=trivial
theorem head.tw11015421181358638090:True:=trivial
theorem head.tw7683208336956401612:True:=trivial
theorem head.tw10039746472909354460:True:=trivial
theorem head.tw6603250574634015470:True:=trivial
theorem head.tw10801728206664884413:True:=trivial
theorem head.tw12289728974424242015:True:=trivial
theorem head.tw868786492797114548:True:=trivial
theorem head.tw16232021536361438938:True:=trivial
theorem head.tw7108427812477862606:True:=trivial
theorem head.tw4896567892973966836:True:=trivial
theorem head.tw1368063576386691869:True:=trivial
theorem head.tw17042411124937604566:True:=trivial
theorem head.tw6752151380145959780:True:=trivial
theorem head.tw15523083837738794526:True:=trivial
theorem head.tw14142136609339486985:True:=trivial
theorem head.tw17813041027747240558:True:=trivial
theorem head.tw11188691547285441436:True:=trivial
theorem head.tw6803080413808938533:True:=trivial
theorem head.tw4679271267670017664:True:=trivial
theorem head.tw2596506601065430752:True:=trivial
theorem head.tw10429140264401833970:True:=trivial
theorem head.tw2974688906823498981:True:=trivial
theorem head.tw6480951103151263458:True:=trivial
theorem head.tw15095670789201058104:True:=trivial
theorem head.tw4968866651428937319:True:=trivial
theorem head.tw5831295250791327432:True:=trivial
theorem head.tw3685561858148043218:True:=trivial
theorem head.tw1309261352578567297:True:=trivial
theorem head.tw16373303716156606607:True:=trivial
theorem head.tw5406156066943586346:True:=trivial
theorem head.tw7447377657821988981:True:=trivial
theorem head.tw11880039504327912138:True:=trivial
theorem head.tw16708699925829456658:True:=trivial
theorem head.tw5151785537410548663:True:=trivial
theorem head.tw11520020472331495016:True:=trivial
theorem head.tw17015881830519418246:True:=trivial
theorem head.tw1192666670794603637:True:=trivial
theorem head.tw6053565659667044648:True:=trivial
theorem head.tw13612471144375293798:True:=trivial
theorem head.tw18118604822958343638:True:=trivial
theorem head.tw8952496209492007342:True:=trivial
theorem head.tw7850159350614946624:True:=trivial
theorem head.tw13849195547560605103:True:=trivial
theorem head.tw10107609748697417501:True:=trivial
theorem head.tw5636335043408835073:True:=trivial
theorem head.tw9745861613153693439:True:=trivial
theorem head.tw16678910015209690196:True:=trivial
theorem head.tw16608326900435606599:True:=trivial
theorem head.tw5123333986669410103:True:=trivial
theorem head.tw1293582988408266834:True:=trivial
theorem head.tw9771457625418185519:True:=trivial
theorem head.tw1242183867803940092:True:=trivial
theorem head.tw4551775909413958658:True:=trivial
theorem head.tw2129799442390810297:True:=trivial
theorem head.tw16231315427897458790:True:=trivial
theorem head.tw12156995741565299943:True:=trivial
theorem head.tw5863827102341491977:True:=trivial
theorem head.tw4890732012089618286:True:=trivial
theorem head.tw3472539998078265187:True:=trivial
theorem head.tw13383405203023715628:True:=trivial
theorem head.tw8788818217286237532:True:=trivial
theorem head.tw17069555620311266206:True:=trivial
theorem head.tw1017628179557486581:True:=trivial
theorem head.tw3630397257427313067:True:=trivial
theorem head.tw1425230306935725624:True:=trivial
theorem head.tw16769382024245605023:True:=trivial
theorem head.tw5472151212234314773:True:=trivial
theorem head.tw14061680215091773261:True:=trivial
theorem head.tw14052797601198865527:True:=trivial
theorem head.tw4468913752564599381:True:=trivial
theorem head.tw5007597479226374671:True:=trivial
theorem head.tw15200555015655413350:True:=trivial
theorem head.tw18037966314069339682:True:=trivial
theorem head.tw8526928735556687273:True:=trivial
theorem head.tw16090408923894129282:True:=trivial
theorem head.tw1367108896777896070:True:=trivial
theorem head.tw13190293922611137590:True:=trivial
theorem head.tw15672032504945681764:True:=trivial
theorem head.tw4801620813912187988:True:=trivial
theorem head.tw5862118719391924069:True:=trivial
theorem head.tw13673957021445117285:True:=trivial
theorem head.tw16861842299803108659:True:=trivial
theorem head.tw17493873552711108467:True:=trivial
theorem head.tw5082123421375346860:True:=trivial
theorem head.tw10865055125704107491:True:=trivial
theorem head.tw4243377344419902190:True:=trivial
theorem head.tw15710912269640774757:True:=trivial
theorem head.tw11949294120905612141:True:=trivial
theorem head.tw14903215231541037028:True:=trivial
theorem head.tw99303977056123076:True:=trivial
theorem head.tw4189379416429895359:True:=trivial
theorem head.tw13825530105431218181:True:=trivial
theorem head.tw16348823097793847124:True:=trivial
theorem head.tw866201522166085245:True:=trivial
theorem head.tw6838502729068855337:True:=trivial
theorem head.tw4631059994155913738:True:=trivial
theorem head.tw12236979798174754215:True:=trivial
theorem head.tw3269364018408676891:True:=trivial
theorem head.tw16208404940463235612:True:=trivial
theorem head.tw167347905877411252:True:=trivial
theorem head.tw8722780011726285767:True:=trivial
theorem head.tw703178858192057617:True:=trivial
theorem head.tw16597700301916328710:True:=trivial
theorem head.tw13000322758502471910:True:=trivial
theorem head.tw5389425127503168607:True:=trivial
theorem head.tw14923003349962862256:True:=trivial
theorem head.tw11170436354127695555:True:=trivial
theorem head.tw10296269551552754565:True:=trivial
theorem head.tw1887599402240785667:True:=trivial
theorem head.tw17400256893568935054:True:=trivial
theorem head.tw2045749441035669143:True:=trivial
theorem head.tw8019378170404906322:True:=trivial
theorem head.tw15741270004431905343:True:=trivial
theorem head.tw2630823251078007363:True:=trivial
theorem head.tw18011379113018921977:True:=trivial
theorem head.tw8918729083752671952:True:=trivial
theorem head.tw6580184667763325673:True:=trivial
theorem head.tw2954307510217234649:True:=trivial
theorem head.tw7995526458291427153:True:=trivial
theorem head.tw18144166153638145979:True:=trivial
theorem head.tw1140149108730391618:True:=trivial
theorem head.tw620850265896624074:True:=trivial
theorem head.tw7309763447171054786:True:=trivial
theorem head.tw3421869987802389093:True:=trivial
theorem head.tw15804446319012053083:True:=trivial
theorem head.tw14370762844044722341:True:=trivial
theorem head.tw780623797714738900:True:=trivial
theorem head.tw5241243065708349806:True:=trivial
theorem head.tw2283107862490374486:True:=trivial
theorem head.tw11126620722427253326:True:=trivial
theorem head.tw10601256574527037716:True:=trivial
theorem head.tw8219202899229451914:True:=trivial
theorem head.tw4996692670633753043:True:=trivial
theorem head.tw18072098133650398753:True:=trivial
theorem head.tw3237671364265597600:True:=trivial
theorem head.tw8952089720277740921:True:=trivial
theorem head.tw9119474488531500384:True:=trivial
theorem head.tw15463725339692843864:True:=trivial
theorem head.tw16030144174459325355:True:=trivial
theorem head.tw15351721078699057855:True:=trivial
theorem head.tw13604741377963167908:True:=trivial
theorem head.tw1297946393302133957:True:=trivial
theorem head.tw3912510667503588858:True:=trivial
theorem head.tw5343580898336845935:True:=trivial
theorem head.tw6500064753505214328:True:=trivial
theorem head.tw8397751018392178673:True:=trivial
theorem head.tw14538587463941983669:True:=trivial
theorem head.tw12048145303167559947:True:=trivial
theorem head.tw8621067951943212712:True:=trivial
theorem head.tw8918661896148854535:True:=trivial
theorem head.tw16645219771222083423:True:=trivial
theorem head.tw16472315668855775263:True:=trivial
theorem head.tw2577203597874831097:True:=trivial
theorem head.tw6035903633833383224:True:=trivial
theorem head.tw15448380938199155453:True:=trivial
theorem head.tw8181222730757427276:True:=trivial
theorem head.tw17216976716327507361:True:=trivial
theorem head.tw17406937985014896410:True:=trivial
theorem head.tw12728152178585193023:True:=trivial
theorem head.tw14277289405168234796:True:=trivial
theorem head.tw14170296436525976460:True:=trivial
theorem head.tw3090684826380388743:True:=trivial
theorem head.tw6847935486375569765:True:=trivial
theorem head.tw10029497808576497785:True:=trivial
theorem head.tw13188857942964814533:True:=trivial
theorem head.tw17188421760391716097:True:=trivial
theorem head.tw5188382266060392336:True:=trivial
theorem head.tw17020117486086249584:True:=trivial
theorem head.tw1069874555962473105:True:=trivial
theorem head.tw13775799772037818943:True:=trivial
theorem head.tw9290779184619550753:True:=trivial
theorem head.tw10013926258001426083:True:=trivial
theorem head.tw8074987074131974409:True:=trivial
theorem head.tw8461965631757601265:True:=trivial
theorem head.tw11111769923538573227:True:=trivial
theorem head.tw2174956802182511474:True:=trivial
theorem head.tw7852374896048371303:True:=trivial
theorem head.tw17374802733592835083:True:=trivial
theorem head.tw13386825451393026296:True:=trivial
theorem head.tw5346432952445957033:True:=trivial
theorem head.tw5894031465669944114:True:=trivial
theorem head.tw16414004615940282946:True:=trivial
theorem head.tw17690940711874235597:True:=trivial
theorem head.tw16087203824758063810:True:=trivial
theorem head.tw18162692664856124070:True:=trivial
theorem head.tw12306396104659179061:True:=trivial
theorem head.tw3802813906789510111:True:=trivial
theorem head.tw15090768379743733969:True:=trivial
theorem head.tw244097361561791926:True:=trivial
theorem head.tw15705807948290455042:True:=trivial
theorem head.tw13706830796426736421:True:=trivial
theorem head.tw7428914673824623917:True:=trivial
theorem head.tw2447123538020198027:True:=trivial
theorem head.tw6881690684851758323:True:=trivial
theorem head.tw1851231327399463400:True:=trivial
theorem head.tw7536235784756294080:True:=trivial
theorem head.tw15852089012901237415:True:=trivial
theorem head.tw16840017107318784121:True:=trivial
theorem head.tw5627639305200371738:True:=trivial
theorem head.tw14826806770267692338:True:=trivial
theorem head.tw14739237404617941808:True:=trivial
theorem head.tw8415357828810467058:True:=trivial
theorem head.tw15208884105472444031:True:=trivial
theorem head.tw17428476298619602589:True:=trivial
theorem head.tw13992188548119806527:True:=trivial
theorem head.tw4753054687273389473:True:=trivial
theorem head.tw12957014834909429418:True:=trivial
theorem head.tw3165818745901144713:True:=trivial
theorem head.tw9511089533359812305:True:=trivial
theorem head.tw11902985099341095992:True:=trivial
theorem head.tw1009433808086261123:True:=trivial
theorem head.tw2233247560970636598:True:=trivial
theorem head.tw8457385804021735546:True:=trivial
theorem head.tw12163192636441305541:True:=trivial
theorem head.tw17833956510870560045:True:=trivial
theorem head.tw7229118813699857731:True:=trivial
theorem head.tw16323577751767077917:True:=trivial
theorem head.tw14498496428189757235:True:=trivial
theorem head.tw3940547254420691338:True:=trivial
theorem head.tw4452047032108990789:True:=trivial
theorem head.tw1435362981215128711:True:=trivial
theorem head.tw16777801287846843762:True:=trivial
theorem head.tw14783172884114811305:True:=trivial
theorem head.tw10925337156727808708:True:=trivial
theorem head.tw10088342404858723622:True:=trivial
theorem head.tw11252731123760614869:True:=trivial
theorem head.tw1714779666383648649:True:=trivial
theorem head.tw9093831917780032899:True:=trivial
theorem head.tw16072617248525759940:True:=trivial
theorem head.tw2187130691858527113:True:=trivial
theorem head.tw15364859239924089803:True:=trivial
theorem head.tw9699265603522075231:True:=trivial
theorem head.tw3360290908809066304:True:=trivial
theorem head.tw2235963359896618477:True:=trivial
theorem head.tw16085183707335652680:True:=trivial
theorem head.tw8360819528655635594:True:=trivial
theorem head.tw13706831748573371917:True:=trivial
theorem head.tw242445596378769733:True:=trivial
theorem head.tw13281914246878880977:True:=trivial
theorem head.tw15765437912036537479:True:=trivial
theorem head.tw627096969614463118:True:=trivial
theorem head.tw17382521990600591700:True:=trivial
theorem head.tw410960699237064054:True:=trivial
theorem head.tw14171404736646789071:True:=trivial
theorem head.tw17369249565154278073:True:=trivial
theorem head.tw16735786736670750325:True:=trivial
theorem head.tw16681284933348582868:True:=trivial
theorem head.tw7208290763023370317:True:=trivial
theorem head.tw14224859091969501851:True:=trivial
theorem head.tw11723352049845244818:True:=trivial
theorem head.tw7419664240178186214:True:=trivial
theorem head.tw8246070352035340680:True:=trivial
theorem head.tw17948707542382263293:True:=trivial
theorem head.tw9609611153082423805:True:=trivial
theorem head.tw6126571280804442210:True:=trivial
theorem head.tw14945178077577006557:True:=trivial
theorem head.tw3582495467865639156:True:=trivial
theorem head.tw17877237123419036503:True:=trivial
theorem head.tw10161409844413333833:True:=trivial
theorem head.tw6149895773652308637:True:=trivial
theorem head.tw4290999119348510162:True:=trivial
theorem head.tw5635216873547077858:True:=trivial
theorem head.tw8250048178762282424:True:=trivial
theorem head.tw18024664782100769968:True:=trivial
theorem head.tw1793249232579082625:True:=trivial
theorem head.tw11276435059237285498:True:=trivial
theorem head.tw2468872611975120499:True:=trivial
theorem head.tw6187792284348521843:True:=trivial
theorem head.tw13777104029788470535:True:=trivial
theorem head.tw1184471242437950943:True:=trivial
theorem head.tw73057286227155311:True:=trivial
theorem head.tw13971606216018597174:True:=trivial
theorem head.tw1565529925556425222:True:=trivial
theorem head.tw17472216053311417455:True:=trivial
theorem head.tw11316783831677886759:True:=trivial
theorem head.tw5722133799702757963:True:=trivial
theorem head.tw4763333235474074692:True:=trivial
theorem head.tw6240922352117168154:True:=trivial
theorem head.tw13257400508152213149:True:=trivial
theorem head.tw2194721132989911165:True:=trivial
theorem head.tw8617684458547167208:True:=trivial
theorem head.tw13262681453848327682:True:=trivial
theorem head.tw6191625802881758052:True:=trivial
theorem head.tw16928989744590014116:True:=trivial
theorem head.tw14736822619892040846:True:=trivial
theorem head.tw17135572220455855311:True:=trivial
theorem head.tw16518431983979464731:True:=trivial
theorem head.tw4663034313832595551:True:=trivial
theorem head.tw15668411890141956166:True:=trivial
theorem head.tw4103808879593089780:True:=trivial
theorem head.tw7530228526786282811:True:=trivial
theorem head.tw1581013680940804941:True:=trivial
theorem head.tw9755371984658548404:True:=trivial
theorem head.tw3679520577835668702:True:=trivial
theorem head.tw2286516226108351731:True:=trivial
theorem head.tw11065797169352263581:True:=trivial
theorem head.tw9625754647198298775:True:=trivial
theorem head.tw14109743390118968582:True:=trivial
theorem head.tw2486269074498004087:True:=trivial
theorem head.tw14889109418262930946:True:=trivial
theorem head.tw14682268289322803987:True:=trivial
theorem head.tw8961009458519159530:True:=trivial
theorem head.tw16540947337545328335:True:=trivial
theorem head.tw411154381577828895:True:=trivial
theorem head.tw5920023167821357548:True:=trivial
theorem head.tw5974624834349356772:True:=trivial
theorem head.tw11087377431358479498:True:=trivial
theorem head.tw11863850670047400192:True:=trivial
theorem head.tw6232289973376919340:True:=trivial
theorem head.tw17466007287761788774:True:=trivial
theorem head.tw16112532329113399987:True:=trivial
theorem head.tw12052355449752997895:True:=trivial
theorem head.tw9235817784684288835:True:=trivial
theorem head.tw13139362531417106664:True:=trivial
theorem head.tw6957749865125199694:True:=trivial
theorem head.tw13571383970624222710:True:=trivial
theorem head.tw12413475919568031917:True:=trivial
theorem head.tw4074238121954228902:True:=trivial
theorem head.tw329168425363419687:True:=trivial
theorem head.tw8110955637721353433:True:=trivial
theorem head.tw6540841778788660323:True:=trivial
theorem head.tw16967441552963886185:True:=trivial
theorem head.tw9564278985271599299:True:=trivial
theorem head.tw18320922562335460759:True:=trivial
theorem head.tw11365520416957529542:True:=trivial
theorem head.tw2263901997195621159:True:=trivial
theorem head.tw1239754659702869022:True:=trivial
theorem head.tw17529237765604807893:True:=trivial
theorem head.tw10865461081969109707:True:=trivial
theorem head.tw8619642971843724040:True:=trivial
theorem head.tw17278817471612781118:True:=trivial
theorem head.tw10898441311953140169:True:=trivial
theorem head.tw14627474863361893573:True:=trivial
theorem head.tw16862795188871776092:True:=trivial
theorem head.tw16488224704245743675:True:=trivial
theorem head.tw3690955914484081040:True:=trivial
theorem head.tw2470403706597314612:True:=trivial
theorem head.tw2387942355272127922:True:=trivial
theorem head.tw3977483473391338496:True:=trivial
theorem head.tw7989951465377848824:True:=trivial
theorem head.tw4421784029038582221:True:=trivial
theorem head.tw5993692540099243260:True:=trivial
theorem head.tw12715318090534530686:True:=trivial
theorem head.tw13767640491437701463:True:=trivial
theorem head.tw9674953100851298091:True:=trivial
theorem head.tw17426980131820017996:True:=trivial
theorem head.tw6766567885717261747:True:=trivial
theorem head.tw4259682935543083463:True:=trivial
theorem head.tw928809455857099260:True:=trivial
theorem head.tw9793981752422182023:True:=trivial
theorem head.tw326271874763647241:True:=trivial
theorem head.tw6551367794625537479:True:=trivial
theorem head.tw93245610886193882:True:=trivial
theorem head.tw5542811011537819473:True:=trivial
theorem head.tw9215815331542030811:True:=trivial
theorem head.tw8010390347711652343:True:=trivial
theorem head.tw17363253356769725845:True:=trivial
theorem head.tw1126457246089605987:True:=trivial
theorem head.tw15968776383482606185:True:=trivial
theorem head.tw15449051101415489183:True:=trivial
set_option maxRecDepth 100000 in
set_option maxHeartbeats 0 in
theorem head:WU.Holds:=by
 (w_on;o_law;k_head;(case hw=>w_witness2);w_strict (
  k_fill
  intro w ef aB mg mb G Y fl o pm cd doc dV kV ho hd hcd hD hmg hg args vals as aeK aeL hrd hwl hlo;have KX:=kIn_of Y;refine Ground.open G ?_;intro T B D TE TW;clear ho hd hcd hD
  wrow_args aeK aeL hrd hwl hlo
  refine enter_call ?_
  w_top on
  rename_i sc hs ae5 hL1 Ka hl2 as1 as2 la vs Lr hL ra w1 r0 hI hr hc1 hc2;have F:Facts ⟨WU.row.prog,w,head.heap_1_39 w.params,aB.heap,aB.os,mg,mb,KX,T.g,T.b,T.builtins,T.nolimit⟩:=
 ⟨⟨⟨_,rfl⟩,⟨_,rfl⟩,by kernel_rfl,by kernel_rfl,by kernel_rfl,by kernel_rfl,by kernel_rfl,by kernel_rfl⟩,
   ⟨⟨by kernel_rfl,by kernel_rfl⟩,⟨by kernel_rfl,by kernel_rfl,by kernel_rfl,by kernel_rfl,by kernel_rfl,bind1 λa=>by kernel_rfl⟩⟩,
   ⟨⟨by kernel_rfl,by kernel_rfl⟩,⟨by kernel_rfl,by kernel_rfl,by kernel_rfl,by kernel_rfl,by kernel_rfl,bind1 λa=>by kernel_rfl⟩⟩,
   ⟨⟨by kernel_rfl,by kernel_rfl⟩,⟨by kernel_rfl,by kernel_rfl,by kernel_rfl,by kernel_rfl,by kernel_rfl,bind1 λa=>by kernel_rfl⟩⟩,
   ⟨⟨by kernel_rfl,by kernel_rfl⟩,⟨by kernel_rfl,by kernel_rfl,by kernel_rfl,by kernel_rfl,by kernel_rfl,dp λa b=>by kernel_rfl⟩⟩,
   ⟨⟨by kernel_rfl,by kernel_rfl⟩,⟨by kernel_rfl,by kernel_rfl,by kernel_rfl,by kernel_rfl,by kernel_rfl,mt λa b c=>by kernel_rfl⟩⟩,
   ⟨⟨by kernel_rfl,by kernel_rfl⟩,⟨by kernel_rfl,by kernel_rfl,by kernel_rfl,by kernel_rfl,by kernel_rfl,bind1 λa=>by kernel_rfl⟩⟩,
   ⟨⟨by kernel_rfl,by kernel_rfl⟩,⟨by kernel_rfl,by kernel_rfl,by kernel_rfl,by kernel_rfl,by kernel_rfl,dp λa b=>by kernel_rfl⟩⟩,
   ⟨⟨by kernel_rfl,by kernel_rfl⟩,⟨by kernel_rfl,by kernel_rfl,by kernel_rfl,by kernel_rfl,by kernel_rfl,dp λa b=>by kernel_rfl⟩⟩,
   ⟨⟨by kernel_rfl,by kernel_rfl⟩,⟨by kernel_rfl,by kernel_rfl,by kernel_rfl,by kernel_rfl,by kernel_rfl,mt λa b c=>by kernel_rfl⟩⟩,
   ⟨⟨by kernel_rfl,by kernel_rfl⟩,⟨by kernel_rfl,by kernel_rfl,by kernel_rfl,by kernel_rfl,by kernel_rfl,Pa λa b c d f=>by kernel_rfl⟩⟩,
   ⟨⟨by kernel_rfl,by kernel_rfl⟩,⟨by kernel_rfl,by kernel_rfl,by kernel_rfl,by kernel_rfl,by kernel_rfl,Pa λa b c d f=>by kernel_rfl⟩⟩,
   ⟨by kernel_rfl,by kernel_rfl,by kernel_rfl,by kernel_rfl,by kernel_rfl,bind1 λa=>by kernel_rfl⟩,
   ⟨⟨by kernel_rfl,by kernel_rfl⟩,⟨by kernel_rfl,by kernel_rfl,by kernel_rfl,by kernel_rfl,by kernel_rfl,mt λa b c=>by kernel_rfl⟩⟩,
   ⟨⟨by kernel_rfl,by kernel_rfl⟩,⟨by kernel_rfl,by kernel_rfl,by kernel_rfl,by kernel_rfl,by kernel_rfl,mt λa b c=>by kernel_rfl⟩⟩,
   ⟨by kernel_rfl,by kernel_rfl⟩,
   ⟨by kernel_rfl,by kernel_rfl⟩,
   ⟨by kernel_rfl,by kernel_rfl,by kernel_rfl,⟨by kernel_rfl,by kernel_rfl,by kernel_rfl,by kernel_rfl,by kernel_rfl,dp λa b=>by kernel_rfl⟩⟩,
   ⟨by kernel_rfl,by kernel_rfl,by kernel_rfl,by kernel_rfl,by kernel_rfl,bind1 λa=>by kernel_rfl⟩,
   ⟨by kernel_rfl,by kernel_rfl,⟨by kernel_rfl,by kernel_rfl,by kernel_rfl,by kernel_rfl,by kernel_rfl,dp λa b=>by kernel_rfl⟩⟩,
   ⟨by kernel_rfl,by kernel_rfl,⟨by kernel_rfl,by kernel_rfl,by kernel_rfl,by kernel_rfl,by kernel_rfl,dp λa b=>by kernel_rfl⟩⟩,
   ⟨by kernel_rfl,by kernel_rfl,⟨by kernel_rfl,by kernel_rfl,by kernel_rfl,by kernel_rfl,by kernel_rfl,O9 λa b c d=>by kernel_rfl⟩⟩,
   ⟨by kernel_rfl,by kernel_rfl,⟨by kernel_rfl,by kernel_rfl,by kernel_rfl,by kernel_rfl,by kernel_rfl,dp λa b=>by kernel_rfl⟩⟩,
   ⟨by kernel_rfl,by kernel_rfl,⟨by kernel_rfl,by kernel_rfl,by kernel_rfl,by kernel_rfl,by kernel_rfl,bind1 λa=>by kernel_rfl⟩⟩,
   ⟨by kernel_rfl,by kernel_rfl,⟨by kernel_rfl,by kernel_rfl,by kernel_rfl,by kernel_rfl,by kernel_rfl,dp λa b=>by kernel_rfl⟩⟩,
   ⟨by kernel_rfl,by kernel_rfl,⟨by kernel_rfl,by kernel_rfl,by kernel_rfl,by kernel_rfl,by kernel_rfl,dp λa b=>by kernel_rfl⟩⟩,
   ⟨by kernel_rfl,by kernel_rfl,⟨by kernel_rfl,by kernel_rfl,by kernel_rfl,by kernel_rfl,by kernel_rfl,dp λa b=>by kernel_rfl⟩⟩,
   ⟨by kernel_rfl,by kernel_rfl,⟨by kernel_rfl,by kernel_rfl,by kernel_rfl,by kernel_rfl,by kernel_rfl,mt λa b c=>by kernel_rfl⟩⟩,
   ⟨by kernel_rfl,by kernel_rfl,⟨by kernel_rfl,by kernel_rfl,by kernel_rfl,by kernel_rfl,by kernel_rfl,dp λa b=>by kernel_rfl⟩⟩,
   ⟨by kernel_rfl,by kernel_rfl,⟨by kernel_rfl,by kernel_rfl,by kernel_rfl,by kernel_rfl,by kernel_rfl,dp λa b=>by kernel_rfl⟩⟩,
   ⟨by kernel_rfl,by kernel_rfl,⟨by kernel_rfl,by kernel_rfl,by kernel_rfl,by kernel_rfl,by kernel_rfl,bind1 λa=>by kernel_rfl⟩⟩,
   ⟨by kernel_rfl,by kernel_rfl,⟨by kernel_rfl,by kernel_rfl,by kernel_rfl,by kernel_rfl,by kernel_rfl,dp λa b=>by kernel_rfl⟩⟩,
   ⟨by kernel_rfl,by kernel_rfl,⟨by kernel_rfl,by kernel_rfl,by kernel_rfl,by kernel_rfl,by kernel_rfl,bind1 λa=>by kernel_rfl⟩⟩,
   ⟨by kernel_rfl,by kernel_rfl,⟨by kernel_rfl,by kernel_rfl,by kernel_rfl,by kernel_rfl,by kernel_rfl,mt λa b c=>by kernel_rfl⟩⟩,
   ⟨by kernel_rfl,by kernel_rfl,⟨by kernel_rfl,by kernel_rfl,by kernel_rfl,by kernel_rfl,by kernel_rfl,dp λa b=>by kernel_rfl⟩⟩,
   ⟨by kernel_rfl,by kernel_rfl,⟨by kernel_rfl,by kernel_rfl,by kernel_rfl,by kernel_rfl,by kernel_rfl,dp λa b=>by kernel_rfl⟩⟩,
   ⟨by kernel_rfl,by kernel_rfl,⟨by kernel_rfl,by kernel_rfl,by kernel_rfl,by kernel_rfl,by kernel_rfl,dp λa b=>by kernel_rfl⟩⟩,
   ⟨by kernel_rfl,by kernel_rfl,⟨by kernel_rfl,by kernel_rfl,by kernel_rfl,by kernel_rfl,by kernel_rfl,dp λa b=>by kernel_rfl⟩⟩,
   ⟨by kernel_rfl,by kernel_rfl,⟨by kernel_rfl,by kernel_rfl,by kernel_rfl,by kernel_rfl,by kernel_rfl,bind1 λa=>by kernel_rfl⟩⟩,
   ⟨by kernel_rfl,by kernel_rfl,⟨by kernel_rfl,by kernel_rfl,by kernel_rfl,by kernel_rfl,by kernel_rfl,dp λa b=>by kernel_rfl⟩⟩,
   ⟨by kernel_rfl,by kernel_rfl,⟨by kernel_rfl,by kernel_rfl,by kernel_rfl,by kernel_rfl,by kernel_rfl,dp λa b=>by kernel_rfl⟩⟩,
   ⟨by kernel_rfl,by kernel_rfl,⟨by kernel_rfl,by kernel_rfl,by kernel_rfl,by kernel_rfl,by kernel_rfl,bind1 λa=>by kernel_rfl⟩⟩,
   ⟨by kernel_rfl,by kernel_rfl,⟨by kernel_rfl,by kernel_rfl,by kernel_rfl,by kernel_rfl,by kernel_rfl,dp λa b=>by kernel_rfl⟩⟩,
   ⟨by kernel_rfl,by kernel_rfl,⟨by kernel_rfl,by kernel_rfl,by kernel_rfl,by kernel_rfl,by kernel_rfl,mt λa b c=>by kernel_rfl⟩,⟨⟨by kernel_rfl,by kernel_rfl,by kernel_rfl,uV (by kernel_rfl),by kernel_rfl,by kernel_rfl,⟨_,rfl⟩,by kernel_rfl,by kernel_rfl,SR.mp (by kernel_rfl),by kernel_rfl,by kernel_rfl,by kernel_rfl,by kernel_rfl,by kernel_rfl⟩,by kernel_rfl,by kernel_rfl,by kernel_rfl,by kernel_rfl,by kernel_rfl⟩,by kernel_rfl,by kernel_rfl,by kernel_rfl,.mk (a:=ma (head.heap_1_39 w.params) (fa (head.heap_1_39 w.params) "ProofFault") "__init__") (a1:=ma (head.heap_1_39 w.params) (fa (head.heap_1_39 w.params) "FinderError") "__init__") (ClC.as (st:=dk 4 0) (n:=3) ⟨by kernel_rfl,by kernel_rfl,by kernel_rfl,by kernel_rfl,by kernel_rfl,mt λa b c=>by kernel_rfl⟩ (by kernel_rfl)) (ClC.as (st:=dk 2 0) (n:=2) ⟨by kernel_rfl,by kernel_rfl,by kernel_rfl,by kernel_rfl,by kernel_rfl,dp λa b=>by kernel_rfl⟩ (by kernel_rfl)) (D:=fa (head.heap_1_39 w.params) "ProofFault") (cda:=I9 (fdOf (head.heap_1_39 w.params) (ma (head.heap_1_39 w.params) (fa (head.heap_1_39 w.params) "ProofFault") "__init__")).code) (cc:=Ja (fdOf (head.heap_1_39 w.params) (ma (head.heap_1_39 w.params) (fa (head.heap_1_39 w.params) "ProofFault") "__init__"))) ⟨⟨by kernel_rfl,by kernel_rfl,by kernel_rfl,uV (by kernel_rfl),by kernel_rfl,by kernel_rfl,⟨_,rfl⟩,by kernel_rfl,by kernel_rfl,SR.mp (by kernel_rfl),by kernel_rfl,by kernel_rfl,by kernel_rfl,by kernel_rfl,by kernel_rfl⟩,by kernel_rfl,by kernel_rfl,by kernel_rfl,by kernel_rfl,by kernel_rfl⟩ (D1:=fa (head.heap_1_39 w.params) "FinderError") (cda1:=I9 (fdOf (head.heap_1_39 w.params) (ma (head.heap_1_39 w.params) (fa (head.heap_1_39 w.params) "FinderError") "__init__")).code) (cc1:=Ja (fdOf (head.heap_1_39 w.params) (ma (head.heap_1_39 w.params) (fa (head.heap_1_39 w.params) "FinderError") "__init__"))) ⟨⟨by kernel_rfl,by kernel_rfl,by kernel_rfl,uV (by kernel_rfl),by kernel_rfl,by kernel_rfl,⟨_,rfl⟩,by kernel_rfl,by kernel_rfl,SR.mp (by kernel_rfl),by kernel_rfl,by kernel_rfl,by kernel_rfl,by kernel_rfl,by kernel_rfl⟩,by kernel_rfl,by kernel_rfl,by kernel_rfl⟩ ⟨by kernel_rfl,⟨_,rfl,rfl,rfl,rfl,λself=>nO _ _ self⟩,by kernel_rfl⟩ ⟨by kernel_rfl,⟨_,rfl,rfl,rfl,rfl,λself=>nO _ _ self⟩,by kernel_rfl⟩ rfl (by kernel_rfl) (by kernel_rfl) (by kernel_rfl) (by kernel_rfl) (by kernel_rfl) (by kernel_rfl) (by kernel_rfl) (by kernel_rfl),⟨by kernel_rfl,by kernel_rfl,by kernel_rfl,by kernel_rfl,⟨_,rfl,rfl⟩⟩,⟨by kernel_rfl,by kernel_rfl⟩,by kernel_rfl⟩⟩
  have e:fl=fa (head.heap_1_39 w.params) "law":=Value.ref.inj (R7 (hmg.symm.trans (mg_of KX T.g (by kernel_rfl))));subst e;exact Ob F rfl rfl hg rfl rfl (by decide) (by decide) (Oa w1 hL) hI (by omega) λs' k os gs=>GoodW.toG ⟨.inl ⟨_,.bool Sn,[],rfl,λcls=>rfl,.bool _,by kernel_rfl,λ_=>⟨.nil,λ_ h=>nomatch h⟩⟩,k,os,gs⟩))
end CK
theorem PySem.Challenge.cw_nu0247_01_holds : PySem.Challenge.rw_nu0247_01.Holds :=
  CK.head
