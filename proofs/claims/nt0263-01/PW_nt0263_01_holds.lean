import PyProof.Rows.All
import Wide.All
import OpenK.AllK
import Wide.FinOn
import Lean
import PySem.Challenge.RW_nt0263_01
set_option Elab.async false
set_option maxRecDepth 100000
set_option linter.all false
set_option genInjectivity false
set_option genSizeOfSpec false
set_option tactic.hygienic false
namespace Mine
open Array renaming any_toList->Xk,getElem?_eq_getElem->W3,eraseIdxIfInBounds->Xe,length_toList->Yb
open Bool renaming false->TT,true->TV,false_ne_true->Wn,and_eq_true->Uq,not_eq_true'->V0,not_false->UL,false_eq_true->UC,eq_iff_iff->Y5,not_true->UY,and_false->WY,not->YA
open Decidable renaming decide->Vp
open False renaming elim->Vo
open ForInStep renaming yield->Y4
open Int renaming natCast_nonneg->Wm,min_eq_right->Xi,le_trans->ZF,toNat_natCast->Vf,eq_ofNat_of_zero_le->Vt,toNat->YM,reduceNeg->Uz,natAbs_natCast->U2,fmod_eq_emod_of_nonneg->V2,fdiv_eq_ediv_of_nonneg->WV,fmod->XL,fdiv->Yx,toNat_one->Vb,toNat_zero->Zi,reduceToNat->Y3
open List renaming length_append->Ui,append_assoc->Uu,length_map->UK,map_map->U8,map_append->VE,map_congr_left->WI,mem_append_left->Va,lookup->YQ,nodup_cons->Uw,map_cons->UA,mem_append_right->UU,mem_map_of_mem->V9,length_cons->aau,mem_of_find?_eq_some->V8,find?_cons_of_neg->Wy,find?_cons_of_pos->Xt,find?_some->Xx,any_cons->Zp,replicate->WU,map_reverse->V4,map_fst_zip->YI,of_mem_zip->Y1,range_succ_eq_map->Xq,range->Xs,all_cons->Yi,all_eq_true->YL,all_map->ZD,mem_cons->Uk,getLast?_eq_getElem?->W1,take_of_length_le->VU,length_drop->WD,drop_of_length_le->Xu,toList_toArray->X6,length_take->YJ,take_nil->Zo,getElem?_eq_getElem->US,findIdx?_eq_some_iff_getElem->Wt,idxOf?->W8,length_flatten->X7,drop_zero->UW,findIdx?_cons->Yr,modify->ZR,length->Ug,nodup_append->W7,getElem?_eq_none->VD,take->Vs,drop->V5,drop_eq_getElem_cons->W2,mem_nil_iff->Um,reverse_cons->VH,filterMap_cons->X8,mem_reverse->YH,length_nil->Uc,append_nil->Xy,nil_append->VV,getElem?_map->W9,filter_cons_of_pos->VN,filter_cons_of_neg->Wp,mem_singleton->VA,foldl_cons->Xw,foldl_nil->Zf,mem_of_getLast?->XK,map_nil->ZC,mem_of_getElem?->UR,cons_append->V6,filter_append->Ys,not_mem_nil->UX,set_cons_zero->Wk,set_cons_succ->Wl,getElem_mem->YK,drop_drop->Zg,mem_cons_of_mem->WG,drop_succ_cons->WJ
open List.Pairwise renaming imp->Xa
open List.cons renaming injEq->Y2
open Nat renaming succ_pos->TY,le_of_ble_eq_true->Us,le_refl->UE,le_trans->UI,le_antisymm->UM,beq->UN,add_le_add_right->VG,le_of_add_le_add_right->V1,add_le_add_left->WH,ble->W6,zero_add->Xn,le_of_eq->Xp,mul_add->XI,add_add_add_comm->XJ,mul_le_mul_left->XX,mul_assoc->Yh,one_mul->YO,add_le_add->Ze,zero_mul->Zx,eq_of_beq_eq_true->Ut,pos_of_ne_zero->UJ,lt_of_le_of_lt->Wj,blt->WO,lt_of_mul_lt_mul_left->WZ,lt_of_succ_lt->W5,mul_comm->Yv,div_add_mod->Y0,add_assoc->Zn,add_zero->ZB,mul_one->ZP,add_mul_mod_self_left->W0,add_left_cancel->XZ,succ_lt_succ->YE,mod_eq_of_lt->YF,lt_irrefl->VX,ne_of_gt->UO,le_succ->YP,ne_of_lt->U7,beq_refl->ZA,le_of_lt->Uy,sub_le->Uv,lt_of_not_le->Vn,min_le_right->Vx,min_eq_right->Xg,max_eq_right->Xh,min_eq_left->Xv,min_le_left->YX,max_eq_left->YY,le_max_left->YZ,le_succ_of_le->Ve,le_add_right->VM,lt_succ_of_lt->Wx,zero_le->VF,lt_succ_self->YG,le_of_not_lt->UQ,lt_of_lt_of_le->Yq,shiftRight->Zd,div_lt_iff_lt_mul->VC,div_le_div_left->VK,mod_lt->VT,gcd->WF,pow_succ->WN,lt_two_pow_self->XY,gcd_comm->Zz,reduceAdd->UH,sub_zero->VS,lt_or_ge->Zy
open Nat.succ renaming inj->Xo
open Ne renaming symm->Uf
open Option renaming some->TR,none->TW,getD_some->V3,bind_some->UP,none->Ue,map_none->YW,getD_none->YD
open Option.some renaming inj->TU
open Prod.mk renaming inj->ZO
open PyProof renaming noPylong_small->Ww
open PyProof.Rows renaming stripBy_eq->Zu,callWith_type->WT,callWith_builtin1->YC,callWith_type1->Y6
open PySem renaming Value->TZ,Addr->TX,Shared->aav,Params->Ur,DictEntry->Un,Scope->UG,World->U4,Stmt->U5,Str->U6,Obj->Vi,treeTable->VW,Program->VQ,Env->Yj,Heap->Ux,mainGlobals->U9,wpAny->Uh,model->Uj,call->Vl,builtinsNs->WC,Around->UT,Expr->Up,starEach->U1,backTo->VP,rawInt->UV,codeAny->Vc,sizeLine->Ub,strKind->Vw,methodCallPos->Vq,methodCallForm->Vy,wpAt_of_wpAny->XW,wpAt_bind->YS
open PySem.Around renaming frames_deeper->XR,under_plainId->XQ
open PySem.BindsTo renaming of_eq->Zs,of_defaults->UZ
open PySem.Builtin.Getset_descriptor renaming descrCheckInstance->VO,descrGetArgs->XP
open PySem.Builtin.List renaming listSubscript?->Y7,listExtendWith->WQ,listLengthHint->Y8,listSameRef->Zr
open PySem.Builtin.Range renaming rangeSize->U0,small->WM,rangeFitsLong->WP
open PySem.Builtin.Str renaming strSliceIndices->VZ,tooLong->ZW,occurrences->Xj,strKind->X9,partsBetween->Zq
open PySem.Calls renaming spliced_cons->U3,spliced_nil->VY
open PySem.Challenge renaming pw_nt0263_01->YV,rw_nt0263_01->YU
open PySem.Code renaming quiet_builtin->WX
open PySem.Data.dict renaming elim->XO
open PySem.Data.seq renaming elim->Yk
open PySem.EntryCells renaming newEntry->WL
open PySem.Env renaming kindOf->Vu
open PySem.EqBoolInt renaming of_rcne->Z5
open PySem.Expr.Attribute renaming elim->WK
open PySem.Expr.Call renaming elim->XN
open PySem.Expr.Compare renaming elim->Yz
open PySem.Expr.Constant renaming elim->Yt
open PySem.Expr.ListComp renaming elim->WW
open PySem.Expr.Name renaming elim->XM
open PySem.Expr.Slice renaming elim->Xz
open PySem.Expr.Subscript renaming elim->Wa
open PySem.Expr.Tuple renaming elim->Wf
open PySem.F renaming slot_list_extend->Xc,slot_list_pop->XB,args_str_split_2->We,entry_str_split->Wo,slot_str_split->Wv,slot_dict_get->XC,slot_range_iterator_next->Vd,args_range_iterator_next_1->Wi,entry_range_iterator_next->Wr,plain_list_iadd->Yy,excBase_Exception->V7
open PySem.Heap renaming lt_size->UB,get?_push_of_some->Ua,get?_push_size->Ul,get?_update_self->UF,get?_update_other->WA,SameBut->Vg,ExtBut->VI,size_push->Wz,get?_update_ne->Vv,size_update->YN
open PySem.Heap.ExtBut renaming refl->Z9
open PySem.Heap.IsSliceOf renaming new->Z3
open PySem.Heap.SameBut renaming update->VL,refl->Z4
open PySem.Keeper renaming boundFrame->Yw,machine->Zh,frame->ZE
open PySem.MeetsSeq renaming list_pop_last->YT
open PySem.Obj renaming data_mapFields->Vm,isFreed_of_fields->VB,mapFields->VJ,cls_mapFields->W4,mapSeq->Xm,putName->Vh
open PySem.P renaming in_str->XH
open PySem.PyData renaming keyHash->Uo
open PySem.SeqAt renaming RcAt->WR,RcNeAt->Xl,EqAt->Z2
open PySem.SeqAt.RcAt renaming str_str->Yl,lists_lengths->Zk,none_none->ZM,bool_bool->ZN,str_none->ZS,str_list->ZT,none_str->ZU,list_str->ZV,int_int->Z1,lists->Z8
open PySem.SeqAt.RcNeAt renaming lists_lengths->Zc,none_none->Zv,bool_bool->Zw,str_none->ZG,str_list->ZH,none_str->ZI,list_str->ZJ,str_str->ZK,int_int->ZL,lists->Z0
open PySem.Stmt.Assign renaming elim->YB
open PySem.Stmt.ClassDef renaming elim->ZZ
open PySem.Stmt.FunctionDef renaming elim->WB
open PySem.Stmt.Return renaming elim->Xf
open PySem.Stmt.Try renaming elim->Zj
open PySem.Str renaming ofString->Vr,append->ZY,length->ZX,join->XG,empty->Z7
open PySem.StrLaws renaming found_one->Wu,sliceText->UD,sliceIdx_none_lo->Xb,glued_eq_join->XA
open PySem.Txt renaming join->Zb,rstripChars->YR,split->Zt
open PySem.Value renaming ref->Vk,none->Vz,bool->Za,isStrOf_shape->XV,str->XU,int->Z6
open PySem.Value.int renaming elim->XF
open PySem.Value.ref renaming elim->XE
open PySem.Value.str renaming elim->XD
open PySem.W renaming findIn->Vj,takerIn->WE,lookIn->WS,ownOf->Zl,specialIn->XT,subIn->Yc,typeIn->Y9
open PySem.W.Fast renaming tw14364793385576792824->Ye,tw10110043849684766642->Yg,tw12908688711261696721->Wb,te12908688711261696721->Wc,tw8377067652309620493->Wg,tw17960256430627541270->Yd,tw9446332074065402090->Ym,tw2436336058641802641->Yn,te9446332074065402090->Yo,te2368527892694137696->Yp
open PySem.W.Looks renaming ld->ZQ,of_pure->Xd
open PySem.callAny renaming viaDunder->Yu
open PySem PySem.W PySem.Calls PyProof.Rows PySem.Spec
inductive Ar
 |v(k:Nat)
 |n(k:Nat)
 |a(x y:Ar)
 |m(k:Nat)(x:Ar)
namespace Ar
noncomputable def nK:List Nat->Nat->Nat
 | []=>λ_=>0
 |x::r=>λk=>k.rec x λk _=>nK r k
noncomputable def den(c:List Nat):Ar->Nat
 |v k=>nK c k
 |n k=>k
 |a x y=>x.den c+y.den c
 |m k x=>k*x.den c
noncomputable def co:Ar->Nat->Nat
 |v k=>λi=>cond (UN k i) 1 0
 |n _=>λ_=>0
 |a x y=>λi=>x.co i+y.co i
 |m k x=>λi=>k*x.co i
noncomputable def kc:Ar->Nat
 |v _=>0
 |n k=>k
 |a x y=>x.kc+y.kc
 |m k x=>k*x.kc
noncomputable def ev:List Nat->(Nat->Nat)->Nat
 | []=>λ_=>0
 |x::r=>λf=>f 0*x+ev r λi=>f (i+1)
noncomputable def kY:List Nat->(Nat->Nat)->(Nat->Nat)->Bool
 | []=>λ_ _=>TV
 |_::r=>λf g=>cond (W6 (f 0) (g 0)) (kY r (λi=>f (i+1)) λi=>g (i+1)) TT
theorem nM:∀c:List Nat,ev c (λ_=>0)=0
 | []=>rfl
 |x::r=>(congrArg (0*x+ ·) (nM r)).trans (Zx x)
theorem rF:∀(c:List Nat) (k:Nat),ev c (λi=>cond (UN k i) 1 0)=nK c k
 | [],_=>rfl
 |x::r,0=>(congrArg (1*x+ ·) (nM r)).trans (YO x)
 |x::r,k+1=>(congrArg (0*x+ ·) (rF r k)).trans (by rw[Zx,Xn];rfl)
theorem rG:∀(c:List Nat) (f g:Nat->Nat),ev c (λi=>f i+g i)=ev c f+ev c g
 | [],_,_=>rfl
 |x::r,f,g=>by show(f 0+g 0)*x+ev r (λi=>f (i+1)+g (i+1))=(f 0*x+ev r λi=>f (i+1))+(g 0*x+ev r λi=>g (i+1));rw[rG r,Nat.add_mul,XJ]
theorem rH(k:Nat):∀(c:List Nat) (f:Nat->Nat),ev c (λi=>k*f i)=k*ev c f
 | [],_=>rfl
 |x::r,f=>by show k*f 0*x+ev r (λi=>k*f (i+1))=k*(f 0*x+ev r λi=>f (i+1));rw[rH k r,XI,Yh]
theorem rI(c:List Nat)(x:Ar):x.den c=x.kc+ev c x.co:=by
 induction x with
 |v k=>exact(rF c k).symm.trans (Xn _).symm
 |n k=>exact(congrArg (k+ ·) (nM c)).symm
 |a x y hx hy=>
  show x.den c+y.den c=x.kc+y.kc+ev c λi=>x.co i+y.co i
  rw[hx,hy,rG,XJ]
 |m k x hx=>
  show k*x.den c=k*x.kc+ev c λi=>k*x.co i
  rw[hx,rH,XI]
theorem rJ:∀(c:List Nat) (f g:Nat->Nat),kY c f g=TV->ev c f<=ev c g
 | [],_,_,_=>UE _
 |x::r,f,g,h=>by
  unfold kY at h;cases q:W6 (f 0) (g 0)with
  |false=>rw[q]at h;exact absurd h Wn
  |true=>rw[q]at h;exact Ze (Nat.mul_le_mul_right x (Us q)) (rJ r _ _ h)
noncomputable def le(c:List Nat)(x y:Ar):Bool:=cond (W6 x.kc y.kc) (kY c x.co y.co) TT
theorem le_ok(h:le c x y=TV):x.den c<=y.den c:=by
 unfold le at h;cases q:W6 x.kc y.kc with
 |false=>rw[q]at h;exact absurd h Wn
 |true=>rw[q]at h;rw[rI,rI];exact Ze (Us q) (rJ c _ _ h)
end Ar
section
variable(c:List Nat)(x y p q p2 q2 p3 q3 p4 q4:Ar)
theorem aw(h:Ar.le c x y=TV):x.den c<=y.den c:=Ar.le_ok h
theorem ab(h1:p.den c<=q.den c)(h:Ar.le c (x.a q) (y.a p)=TV):x.den c<=y.den c:=V1 (UI (aw c _ _ h) (WH h1 _))
theorem ai(h1:p.den c<=q.den c)(h2:p2.den c<=q2.den c)(h:Ar.le c ((x.a q).a q2) ((y.a p).a p2)=TV):x.den c<=y.den c:=V1 (UI (ab c _ _ _ _ h2 h) (WH h1 _))
theorem bU(h1:p.den c<=q.den c)(h2:p2.den c<=q2.den c)(h3:p3.den c<=q3.den c)(h:Ar.le c (((x.a q).a q2).a q3) (((y.a p).a p2).a p3)=TV):x.den c<=y.den c:=V1 (UI (ai c _ _ _ _ _ _ h2 h3 h) (WH h1 _))
theorem e0(h:cond (Ar.le c x y) (Ar.le c y x) TT=TV):x.den c=y.den c:=by
 cases q:Ar.le c x y with
 |false=>rw[q]at h;exact absurd h Wn
 |true=>rw[q]at h;exact UM (Ar.le_ok q) (Ar.le_ok h)
end
theorem eL{a b:Nat}(h:a=b):a<=b:=Xp h
theorem eR{a b:Nat}(h:a=b):b<=a:=Xp h.symm
theorem fL(h:1<=0):False:=Nat.not_succ_le_zero 0 h
theorem dF{a b:Nat}(h:a<b):(a:Int)<b:=Int.ofNat_lt.mpr h
theorem dp{a b:Nat}(h:a<=b):(a:Int)<=b:=Int.ofNat_le.mpr h
theorem ft{a b:Nat}(h:b<=a):¬(a:Int)<b:=Int.not_lt.mpr (dp h)
theorem jH{a b:Nat}(h:b<a):¬(a:Int)<=b:=Int.not_le.mpr (dF h)
theorem cY{a b:Nat}(h:a≠b):¬(a:Int)=b:=λk=>h (Int.ofNat.inj k)
theorem kZ{d:Nat}:(1+6*((d:Int)-20)).natAbs<=6*d+121:=by omega
theorem yu{d:Nat}:((d:Int)-300).natAbs<=d+300:=by omega
theorem rK(h:i<0): -1*((i.natAbs:Nat):Int)=i:=by omega
theorem k6(h:¬i<0):1*((i.natAbs:Nat):Int)=i:=by omega
theorem yw{l:Int}(h:l.toNat=k+1):0<l:=by omega
theorem yx{l:Int}(h:l.toNat=k+1):(l-1).toNat=k:=by omega
theorem yy{l:Int}(h:l.toNat=0):l<=0:=by omega
theorem iK{a b:Nat}(h:a=b):(a:Int)=b:=congrArg Nat.cast h
theorem rL{a b:Nat}(h:(a:Int)<b):a<b:=Int.ofNat_lt.mp h
theorem rM{a b:Nat}(h:(a:Int)<=b):a<=b:=Int.ofNat_le.mp h
theorem mK(k:Nat)(h:a<=b):k*a<=k*b:=XX k h
theorem aL{α:Type}{x y:List α}:(x++y).length<=x.length+y.length:=eL Ui
theorem aR{α:Type}{x y:List α}:x.length+y.length<=(x++y).length:=eR Ui
theorem d7{α:Type}{x1 x2 x3:List α}:(x1++x2++x3).length<=x1.length+x2.length+x3.length:=UI aL (VG aL _)
theorem fu{α:Type}{x1 x2 x3 x4:List α}:(x1++x2++x3++x4).length<=x1.length+x2.length+x3.length+x4.length:=UI aL (VG d7 _)
theorem hJ{α:Type}{x1 x2 x3 x4 x5:List α}:(x1++x2++x3++x4++x5).length<=x1.length+x2.length+x3.length+x4.length+x5.length:=UI aL (VG fu _)
theorem k7{α:Type}{x1 x2 x3 x4 x5 x6:List α}:(x1++x2++x3++x4++x5++x6).length<=x1.length+x2.length+x3.length+x4.length+x5.length+x6.length:=UI aL (VG hJ _)
theorem nN{α:Type}{x1 x2 x3 x4 x5 x6 x7:List α}:(x1++x2++x3++x4++x5++x6++x7).length<=x1.length+x2.length+x3.length+x4.length+x5.length+x6.length+x7.length:=UI aL (VG k7 _)
theorem jI{α:Type}{a b c d e r:List α}:a++b++c++d++e++r=a++(b++(c++(d++(e++r)))):=by rw[Uu,Uu,Uu,Uu]
theorem rN{α:Type}{a b c d e f g r:List α}:a++b++c++d++e++f++g++r=a++(b++(c++(d++(e++(f++(g++r)))))):=by rw[Uu,Uu,jI]
theorem k9{α:Type}{o a b c:List α}:o++(a++b++c)=o++a++b++c:=by rw[<-Uu,<-Uu]
theorem rO{α:Type}{o a b c d e:List α}:o++(a++b++c++d++e)=o++a++b++c++d++e:=by rw[<-Uu,<-Uu,k9]
theorem yz{α:Type}{o a b c d e f g:List α}:o++(a++b++c++d++e++f++g)=o++a++b++c++d++e++f++g:=by rw[<-Uu,<-Uu,rO]
noncomputable abbrev X0:Ar:=.v 0
noncomputable abbrev X1:Ar:=.v 1
noncomputable abbrev X2:Ar:=.v 2
noncomputable abbrev X3:Ar:=.v 3
noncomputable abbrev X4:Ar:=.v 4
noncomputable abbrev X5:Ar:=.v 5
noncomputable abbrev N0:Ar:=.n 0
noncomputable abbrev N1:Ar:=.n 1
noncomputable abbrev N2:Ar:=.n 2
noncomputable abbrev N3:Ar:=.n 3
noncomputable abbrev N4:Ar:=.n 4
noncomputable abbrev N5:Ar:=.n 5
noncomputable abbrev N6:Ar:=.n 6
noncomputable abbrev N7:Ar:=.n 7
noncomputable abbrev N8:Ar:=.n 8
noncomputable abbrev ad:Ar:=X0.a N1
noncomputable abbrev ay:Ar:=X1.a N1
noncomputable abbrev aI:Ar:=X0.a X1
noncomputable abbrev bC:Ar:=X2.a N1
noncomputable abbrev cu:Ar:=X1.a X2
noncomputable abbrev am:Ar:=.n 100000
noncomputable abbrev an:Ar:=.n 9000
noncomputable abbrev az:Ar:=.n 200
noncomputable abbrev cP:Ar:=.n 10000
noncomputable abbrev bd:Ar:=.n 9223372036854775808
noncomputable abbrev bY:Ar:=.n 4611686018427387904
section
universe u1 u2 u3 u4 u5 u6
theorem aj{α:Sort u1}{p:α->Prop}{R:Prop}(h:∃a,p a)(k:∀a,p a->R):R:=h.elim k
theorem aX{Mh:Sort u1}{Mi:Sort u2}{p:Mh->Mi->Prop}{R:Prop}(h:∃a1 a2,p a1 a2)(k:∀a1 a2,p a1 a2->R):R:=h.elim λa1 h=>aj h (k a1)
theorem bO{Mh:Sort u1}{Mi:Sort u2}{MK:Sort u3}{p:Mh->Mi->MK->Prop}{R:Prop}(h:∃a1 a2 a3,p a1 a2 a3)(k:∀a1 a2 a3,p a1 a2 a3->R):R:=h.elim λa1 h=>aX h (k a1)
theorem rP{Mh:Sort u1}{Mi:Sort u2}{MK:Sort u3}{Nr:Sort u4}{p:Mh->Mi->MK->Nr->Prop}{R:Prop}(h:∃a1 a2 a3 a4,p a1 a2 a3 a4)(k:∀a1 a2 a3 a4,p a1 a2 a3 a4->R):R:=h.elim λa1 h=>bO h (k a1)
theorem jJ{Mh:Sort u1}{Mi:Sort u2}{MK:Sort u3}{Nr:Sort u4}{Ow:Sort u5}{p:Mh->Mi->MK->Nr->Ow->Prop}{R:Prop}(h:∃a1 a2 a3 a4 a5,p a1 a2 a3 a4 a5)(k:∀a1 a2 a3 a4 a5,p a1 a2 a3 a4 a5->R):R:=h.elim λa1 h=>rP h (k a1)
theorem yA{Mh:Sort u1}{Mi:Sort u2}{MK:Sort u3}{Nr:Sort u4}{Ow:Sort u5}{QR:Sort u6}{p:Mh->Mi->MK->Nr->Ow->QR->Prop}{R:Prop}(h:∃a1 a2 a3 a4 a5 a6,p a1 a2 a3 a4 a5 a6)(k:∀a1 a2 a3 a4 a5 a6,p a1 a2 a3 a4 a5 a6->R):R:=h.elim λa1 h=>jJ h (k a1)
end
noncomputable abbrev pw:VQ:=YV
noncomputable abbrev gq:Option TZ:=TR (.ref 6)
noncomputable def lb:Yj:={scope:=pw.main.scope,locals:=mainNs,globals:=mainNs,cells:=[],code:=.ref 13,frame:=TR 14}
noncomputable def lc:List U5:=behindTheImports pw
noncomputable def c0:Code:=.body lc lb
noncomputable def p0:Pos:=⟨0,0,0,0⟩
noncomputable def yB:Vi:={cls:=.type "tuple",data:=.seq #[]}
noncomputable def lf:Vi:={cls:=.none,data:=.fields #[]}
noncomputable def rQ:Vi:={cls:=.type "code",data:=.fields #[.str (Vr "<module>") 182,.str (Vr "<module>") 183,.str (Vr "/claim/cut.py") 184,.int 1 0,.int 0 0,.int 0 0,.int 0 0,.int 0 0,.ref 11,.bool TT,.int 181 0,.ref 12,.none,.none,.none,.none,.int 185 0,.int 1 0,.str (Vr "/claim/cut.py") 186]}
noncomputable def yC:Vi:={cls:=.type "frame",slots:= #[TR (.ref 13),TR (.ref 3),TR (.ref 3),TW,TR (.str (Vr "__main__") 164),TW,TR (.ref 0)]}
noncomputable def lg(P:Ur):List Vi:=[boot_o_0 P,boot_o_1 P,boot_o_2 P,boot_o_3 P,boot_o_4 P,boot_o_5 P,boot_o_6 P,boot_o_7 P,boot_o_8 P,boot_o_9 P,boot_o_10 P,yB,lf,rQ,yC]
noncomputable def Sa(P:Ur)(os:OsState):aav:=⟨⟨(lg P).toArray,{}⟩, #[],boot_drawn,187,os⟩
theorem yD(w:U4)(os:OsState):topGo VW pw w 11 gq 12 ⟨boot_heap w.params, #[],boot_drawn,boot_toks,os⟩ (topStub pw)=TR (Sa w.params os,⟨denote VW c0,c0,p0,[topFrame p0]⟩):=by kernel_rfl
noncomputable abbrev so(x:String):U6:=Vr x
noncomputable def de(P:Ur)(x:String)(t:Nat)(v:TZ):Un:=⟨Uo P (so x),.str (so x) t,v⟩
noncomputable def cH(i:Nat):U5:=(pw.main.body[i]?).getD (.Pass p0)
noncomputable def rR(st:U5):Arguments:=if h:st.ctorIdx=0 then WB (motive_2:=λ_=>Arguments) st h λ_ a _ _ _ _ _ _ _ _=>a else{posonlyargs:=[],args:=[],vararg:=TW,kwonlyargs:=[],kw_defaults:=[],kwarg:=TW,defaults:=[]}
noncomputable def bD(st:U5):List U5:=if h:st.ctorIdx=0 then WB (motive_2:=λ_=>List U5) st h λ_ _ b _ _ _ _ _ _ _=>b else if h:st.ctorIdx=2 then ZZ (motive_2:=λ_=>List U5) st h λ_ _ _ b _ _ _ _ _ _ _=>b else[]
noncomputable def bq(st:U5):UG:=if h:st.ctorIdx=0 then WB (motive_2:=λ_=>UG) st h λ_ _ _ _ _ _ s _ _ _=>s else pw.main.scope
noncomputable def aJ(i j:Nat):U5:=((bD (cH i))[j]?).getD (.Pass p0)
noncomputable def nP(st:U5)(name q:String)(mod:TZ)(code:TX)(dfl:TZ):FuncData:={name:=so name,qualname:=so q,params:=rR st,body:=.stmts (bD st),scope:=bq st,globals:=3,closure:=[],defaults:=dfl,kwdefaults:=.none,doc:=.none,pyModule:=mod,annotations:=TW,code:=.ref code,closureTuple:=.none,builtins:=0}
noncomputable def fw(st:U5)(name q:String)(mod:TZ)(code:TX)(dfl:TZ):Vi:={cls:=.type "function",data:=.func (nP st name q mod code dfl)}
noncomputable def cO(A B:String)(t:Nat)(L k e:Int)(a b:TX)(x y z w:TZ)(u:Int)(v:Nat):Vi:={cls:=.type "code",data:=.fields #[.str (so A) t,.str (so B) (t+1),.str (so "/claim/cut.py") (t+2),.int L 0,.int k 0,.int 0 0,.int 0 0,.int e 0,.ref a,.bool TV,.int 181 0,.ref b,x,y,z,w,.int u 0,.int L 0,.str (so "/claim/cut.py") v]}
structure Fn where
 st:U5
 name:String
 q:String
 mod:TZ
 code:TX
 dfl:TZ
 ps:List String
structure Frm where
 F:Fn
 t:Nat
 L:Nat
 k:Nat
 u:Nat
 b:Bool
noncomputable abbrev sO(x:String)(t:Nat):TZ:=.str (so x) t
noncomputable abbrev bP:TZ:=sO "scheme.data" 194
noncomputable abbrev hU:TZ:=sO "scheme.errors" 649
noncomputable abbrev jK:TZ:=sO "scheme.exact" 943
noncomputable abbrev cQ:TZ:=sO "scheme.numtext" 1001
noncomputable abbrev cR:TZ:=sO "scheme.lexer" 1394
noncomputable abbrev dG:TZ:=sO "scheme.reader" 1658
noncomputable abbrev dH:TZ:=sO "scheme.printer" 1842
noncomputable abbrev jL:TZ:=sO "scheme.binary" 790
noncomputable abbrev eA:TZ:=sO "law_nt0263_01" 2009
noncomputable abbrev fS(i:Nat)(n:String)(m:TZ)(c:TX)(d:TZ)(ps:List String):Fn:=⟨cH i,n,n,m,c,d,ps⟩
noncomputable abbrev iM:Fn:=⟨aJ 23 0,"__init__","SchemeError.__init__",hU,363,.none,["self","word","irritants"]⟩
noncomputable abbrev iN:Fn:=⟨aJ 26 0,"__init__","TooLong.__init__",hU,421,.none,["self","limit"]⟩
noncomputable abbrev nQ:Fn:=fS 76 "mark_place" cQ 807 .none ["word"]
noncomputable abbrev iO:Fn:=fS 135 "_law_told" eA 1322 .none ["datum","radix","limit","table"]
noncomputable def fO(r:Frm):List (Nat×Vi):=
 let c:=r.F.code
 let g (x:Nat):TZ:=bif r.b then .ref (c-x)else .none
 let d:=bif r.b then 5 else 3
 [(c,cO r.F.name r.F.q r.t r.L r.k 3 (c-d) (c-d+1) .none (g 3) (g 2) (.ref (c-1)) r.u (r.u+1)),(c+1,fw r.F.st r.F.name r.F.q r.F.mod c r.F.dfl)]
noncomputable def tO(l:List TZ):Vi:={cls:=.type "tuple",data:=.seq l.toArray 0}
noncomputable def dO(k:Nat)(l:List Un):Vi:={cls:=.type "dict",data:=.dict l.toArray k}
noncomputable def kC(n:String)(a t:Nat)(b:TZ)(m s:List TZ)(o:Option TZ)(f:String):Vi:={cls:=.type "type",data:=.cls {name:=so n,bases:=[b],mro:=.ref a::m,ns:=a-1,qualname:=so n,hasDict:=TV,slotNames:=[],subclasses:=s,abstract:=TT,collection:=TW,hasDel:=TT},slots:= #[o,TW,TR (sO n t),TR (sO n (t+8)),TR (.builtin f),TR (.bool TV)]}
structure Cr where
 n:String
 a:Nat
 t:Nat
 m:TZ
 L:Nat
 ms:List (String×Nat×Nat)
 u:Nat
noncomputable def yE(P:Ur)(r:Cr):List (Nat×Vi):=[(r.a-1,dO 4 (de P "__module__" (r.t+7) r.m::de P "__firstlineno__" (r.t+11) (.int r.L (r.t+10))::((r.ms.map λx=>de P x.1 x.2.1 (.ref x.2.2))++[de P "__static_attributes__" r.u (.ref (r.a-2)),de P "__dict__" (r.u+2) (.ref (r.a+1)),de P "__weakref__" (r.u+4) (.ref (r.a+2)),de P "__doc__" (r.u+5) .none]))),(r.a,kC r.n r.a r.t (.type "object") [.type "object"] [] TW "object.__new__")]
noncomputable def rS(P:Ur):Vi:={cls:=.ref 38,dict:=TR 52}
noncomputable def nR(P:Ur):Vi:=tO [.ref 44]
noncomputable def rU(P:Ur):Vi:=tO [.int 10 1213]
noncomputable def rV(P:Ur):Vi:=tO [.int 10 1378]
noncomputable def rW(P:Ur):Vi:=tO [.int 53 1536,.bool TV]
noncomputable def rX(P:Ur):Vi:=tO [.int 53 1713,.bool TV]
noncomputable def rY(P:Ur):Vi:=tO [.int 53 1818,.bool TV]
noncomputable def rZ(P:Ur):Vi:=tO [.int 53 1974,.int 10 1975,.none,.none]
noncomputable def r0(P:Ur):Vi:=tO [.int 53 1987,.int 10 1988,.none]
noncomputable def KX:List (Nat×Vi):=fO ⟨fS 136 "law" eA 1329 .none ["script"],2113,882,1,2127,TV⟩++[(1324,{cls:=.type "tuple",data:=.seq #[]}),(1325,{cls:=.none,data:=.fields #[]})]
noncomputable def jM:List Frm:=[⟨⟨aJ 7 0,"__init__","Symbol.__init__",bP,67,.none,["self","number","text"]⟩,261,15,3,267,TV⟩,⟨⟨aJ 8 0,"__init__","SymbolTable.__init__",bP,88,.none,["self"]⟩,292,20,1,296,TV⟩,⟨⟨aJ 8 1,"symbol","SymbolTable.symbol",bP,95,.none,["self","text"]⟩,299,24,2,305,TV⟩,⟨⟨aJ 8 2,"fresh","SymbolTable.fresh",bP,102,.none,["self","hint"]⟩,308,32,2,314,TV⟩,⟨⟨aJ 8 5,"is_interned","SymbolTable.is_interned",bP,123,.none,["self","symbol"]⟩,333,43,2,338,TV⟩,⟨⟨aJ 9 0,"__init__","Pair.__init__",bP,151,.none,["self","car","cdr"]⟩,370,50,3,376,TV⟩,⟨⟨aJ 10 0,"__init__","Char.__init__",bP,172,.none,["self","code"]⟩,401,55,2,406,TV⟩,⟨⟨aJ 11 0,"__init__","Text.__init__",bP,193,.none,["self","codes"]⟩,430,59,2,435,TV⟩,⟨⟨aJ 12 0,"__init__","Vector.__init__",bP,214,.none,["self","things"]⟩,459,63,2,464,TV⟩,⟨⟨aJ 13 0,"__init__","Box.__init__",bP,235,.none,["self","content"]⟩,488,67,2,493,TV⟩,⟨⟨aJ 14 0,"__init__","Promise.__init__",bP,256,.none,["self","is_done","content"]⟩,517,71,3,523,TV⟩,⟨⟨aJ 15 0,"__init__","PortRef.__init__",bP,277,.none,["self","number"]⟩,548,76,2,553,TV⟩,⟨⟨aJ 16 0,"__init__","Procedure.__init__",bP,298,.none,["self","title"]⟩,577,80,2,582,TV⟩,⟨⟨aJ 17 0,"__init__","Primitive.__init__",bP,319,.none,["self","op","title"]⟩,606,84,3,612,TV⟩,⟨fS 18 "make_text" bP 329 .none ["told"],620,87,1,623,TT⟩,⟨fS 19 "python_text" bP 334 .none ["text"],626,89,1,629,TT⟩,⟨fS 20 "list_of" bP 342 (.ref 336) ["things","tail"],632,91,2,639,TV⟩,⟨fS 21 "is_boolean" bP 349 .none ["datum"],642,96,1,646,TV⟩,⟨iM,663,101,3,669,TV⟩,⟨iN,748,118,2,753,TV⟩,⟨fS 31 "is_real" jL 473 .none ["value"],827,135,1,831,TV⟩,⟨fS 39 "rounded" jL 529 .none [],894,162,3,903,TV⟩,⟨fS 40 "exact_parts" jL 536 .none [],906,171,1,910,TV⟩,⟨⟨aJ 46 0,"__init__","Ratio.__init__",jK,578,.none,["self","top","bottom"]⟩,957,187,3,963,TV⟩,⟨fS 47 "gcd_of" jK 592 .none ["one","other"],976,190,2,981,TV⟩,⟨fS 48 "made" jK 599 .none ["top","bottom"],984,195,2,989,TV⟩,⟨fS 49 "ratio_of" jK 606 .none ["top","bottom"],992,197,2,998,TV⟩,⟨fS 57 "figures_of" cQ 614 .none ["number","radix"],1026,209,2,1033,TV⟩,⟨fS 58 "whole_text" cQ 621 .none ["number","radix"],1036,217,2,1041,TV⟩,⟨fS 59 "exact_text" cQ 628 .none ["number","radix"],1044,219,2,1049,TV⟩,⟨fS 66 "decimal_text" cQ 726 .none [],1202,293,2,1210,TV⟩,⟨fS 67 "number_text" cQ 734 (.ref 728) ["precision","number","radix"],1214,299,3,1222,TV⟩,⟨fS 68 "worth_of" cQ 741 .none ["figures","radix"],1225,306,2,1232,TV⟩,⟨fS 69 "are_figures" cQ 746 .none [],1235,311,2,1238,TT⟩,⟨fS 70 "parted" cQ 753 .none ["word"],1241,313,1,1246,TV⟩,⟨⟨aJ 71 0,"__init__","Reading.__init__",cQ,767,.none,["self","top","bottom","is_exact"]⟩,1261,318,4,1268,TV⟩,⟨fS 72 "read_whole" cQ 781 .none ["word","radix"],1282,322,2,1289,TV⟩,⟨fS 73 "read_ratio" cQ 788 .none ["word","radix"],1292,327,2,1300,TV⟩,⟨nQ,1322,346,1,1325,TT⟩,⟨fS 78 "read_decimal" cQ 821 .none [],1338,358,1,1345,TV⟩,⟨fS 79 "read_unsigned" cQ 828 .none ["word","radix"],1348,369,2,1353,TV⟩,⟨fS 80 "split_prefixes" cQ 835 .none ["word","radix"],1356,375,2,1365,TV⟩,⟨fS 81 "finished" cQ 842 .none ["precision","top","bottom","is_exact"],1368,387,4,1375,TV⟩,⟨fS 82 "parse_number" cQ 850 (.ref 844) ["precision","text","radix"],1379,394,3,1391,TV⟩,⟨⟨aJ 96 0,"__init__","Token.__init__",cR,873,.none,["self","word","value","start","end"]⟩,1444,420,5,1452,TV⟩,⟨fS 97 "folded" cR 887 .none ["text"],1467,425,1,1474,TV⟩,⟨fS 98 "is_first" cR 894 .none ["letter"],1477,431,1,1481,TV⟩,⟨fS 99 "is_later" cR 901 .none ["letter"],1484,433,1,1488,TV⟩,⟨fS 100 "is_identifier" cR 908 .none ["text"],1491,435,1,1496,TV⟩,⟨fS 101 "is_numberlike" cR 915 .none ["text"],1499,444,1,1503,TV⟩,⟨fS 102 "sign_named" cR 922 .none ["name"],1506,446,1,1512,TV⟩,⟨fS 103 "name_of_sign" cR 929 .none ["letter"],1515,451,1,1521,TV⟩,⟨⟨aJ 104 0,"__init__","Lexer.__init__",cR,944,.ref 938,["self","text","precision","is_folded"]⟩,1537,458,4,1544,TV⟩,⟨⟨aJ 104 1,"skip","Lexer.skip",cR,951,.none,["self"]⟩,1547,464,1,1553,TV⟩,⟨⟨aJ 104 3,"token","Lexer.token",cR,965,.none,["self"]⟩,1563,478,1,1570,TV⟩,⟨⟨aJ 104 4,"found","Lexer.found",cR,972,.none,["self","word","value","end"]⟩,1573,495,4,1581,TV⟩,⟨⟨aJ 104 5,"word_end","Lexer.word_end",cR,979,.none,["self","start"]⟩,1584,500,2,1590,TV⟩,⟨⟨aJ 104 6,"word_token","Lexer.word_token",cR,986,.none,["self"]⟩,1593,508,1,1601,TV⟩,⟨⟨aJ 104 7,"number_in","Lexer.number_in",cR,993,.none,["self","own","start"]⟩,1604,521,3,1611,TV⟩,⟨⟨aJ 104 8,"sharp","Lexer.sharp",cR,1000,.none,["self"]⟩,1614,527,1,1621,TV⟩,⟨⟨aJ 104 9,"sign_token","Lexer.sign_token",cR,1007,.none,["self"]⟩,1624,541,1,1632,TV⟩,⟨⟨aJ 104 10,"string","Lexer.string",cR,1014,.none,["self"]⟩,1635,554,1,1643,TV⟩,⟨⟨aJ 109 0,"__init__","Frame.__init__",dG,1035,.none,["self","word","start","things"]⟩,1678,579,4,1685,TV⟩,⟨⟨aJ 110 0,"__init__","Reader.__init__",dG,1057,.ref 1051,["self","text","table","precision","is_folded"]⟩,1714,587,5,1722,TV⟩,⟨⟨aJ 110 1,"place","Reader.place",dG,1064,.none,["self"]⟩,1725,592,1,1729,TV⟩,⟨⟨aJ 110 2,"read","Reader.read",dG,1071,.none,["self"]⟩,1732,595,1,1738,TV⟩,⟨⟨aJ 110 3,"last","Reader.last",dG,1078,.none,["self","datum"]⟩,1741,612,2,1747,TV⟩,⟨⟨aJ 110 4,"quoted","Reader.quoted",dG,1085,.none,["self","datum"]⟩,1750,618,2,1756,TV⟩,⟨⟨aJ 110 5,"opens","Reader.opens",dG,1092,.none,["self","token"]⟩,1759,622,2,1766,TV⟩,⟨⟨aJ 110 6,"dot","Reader.dot",dG,1099,.none,["self","token"]⟩,1769,635,2,1775,TV⟩,⟨⟨aJ 110 7,"closed","Reader.closed",dG,1106,.none,["self","token"]⟩,1778,643,2,1784,TV⟩,⟨⟨aJ 110 8,"atom","Reader.atom",dG,1113,.none,["self","token"]⟩,1787,656,2,1792,TV⟩,⟨⟨aJ 110 9,"delivered","Reader.delivered",dG,1120,.none,["self","datum","start"]⟩,1795,659,3,1804,TV⟩,⟨fS 111 "read_one" dG 1135 (.ref 1129) ["text","table","precision","is_folded"],1819,677,4,1829,TV⟩,⟨fS 112 "quotation_sign" dG 1142 .none ["datum","table"],1832,686,2,1839,TV⟩,⟨fS 117 "is_readable_symbol" dH 1149 .none ["text"],1850,697,1,1854,TV⟩,⟨fS 118 "written_sign" dH 1156 .none ["code"],1857,699,1,1862,TV⟩,⟨fS 119 "written_string" dH 1163 .none ["text"],1865,702,1,1871,TV⟩,⟨fS 120 "other_text" dH 1170 .none ["datum"],1874,710,1,1878,TV⟩,⟨⟨aJ 121 0,"__init__","Printer.__init__",dH,1184,.none,["self","is_written","precision","radix","limit","table"]⟩,1893,722,6,1902,TV⟩,⟨⟨aJ 121 1,"told","Printer.told",dH,1191,.none,["self","datum"]⟩,1905,732,2,1912,TV⟩,⟨⟨aJ 121 2,"put","Printer.put",dH,1198,.none,["self","piece"]⟩,1915,744,2,1920,TV⟩,⟨⟨aJ 121 3,"datum","Printer.datum",dH,1205,.none,["self","thing"]⟩,1923,750,2,1929,TV⟩,⟨⟨aJ 121 4,"pair","Printer.pair",dH,1212,.none,["self","thing"]⟩,1932,763,2,1938,TV⟩,⟨⟨aJ 121 5,"tail","Printer.tail",dH,1219,.none,["self","thing"]⟩,1941,773,2,1946,TV⟩,⟨⟨aJ 121 6,"atom","Printer.atom",dH,1226,.none,["self","thing"]⟩,1949,785,2,1955,TV⟩,⟨fS 122 "write_text" dH 1241 (.ref 1235) ["datum","precision","radix","limit","table"],1976,798,5,1984,TV⟩,⟨fS 123 "display_text" dH 1249 (.ref 1243) ["datum","precision","radix","limit"],1989,800,4,1996,TV⟩,⟨fS 124 "is_readable" dH 1256 .none ["datum","table"],1999,802,2,2006,TV⟩,⟨fS 127 "_law_draw" eA 1268 .none ["deck","many"],2020,819,2,2027,TV⟩,⟨fS 128 "_law_pick" eA 1275 .none ["deck","items"],2030,825,2,2035,TV⟩,⟨fS 129 "_law_deck" eA 1280 .none ["script","most"],2038,827,2,2041,TT⟩,⟨fS 130 "_law_figures" eA 1287 .none ["whole","radix"],2044,829,2,2051,TV⟩,⟨fS 131 "_law_strange" eA 1294 .none ["deck"],2054,835,1,2059,TV⟩,⟨fS 132 "_law_symbol" eA 1301 .none ["deck","table"],2062,839,2,2069,TV⟩,⟨fS 133 "_law_atom" eA 1308 .none ["deck","table","radix"],2072,845,3,2082,TV⟩,⟨fS 134 "_law_next" eA 1315 .none ["deck","pool","table","radix"],2085,862,4,2099,TV⟩,⟨iO,2102,877,4,2110,TV⟩]
noncomputable def crs:List Cr:=[⟨"Special",38,196,bP,5,[("__init__",215,35)],217⟩,⟨"Symbol",71,249,bP,13,[("__init__",269,68)],272⟩,⟨"SymbolTable",134,280,bP,18,[("__init__",298,89),("symbol",307,96),("fresh",316,103),("by_number",324,110),("find",332,117),("is_interned",340,124),("size",347,131)],350⟩,⟨"Pair",155,358,bP,48,[("__init__",378,152)],381⟩,⟨"Char",176,389,bP,53,[("__init__",408,173)],410⟩,⟨"Text",197,418,bP,57,[("__init__",437,194)],439⟩,⟨"Vector",218,447,bP,61,[("__init__",466,215)],468⟩,⟨"Box",239,476,bP,65,[("__init__",495,236)],497⟩,⟨"Promise",260,505,bP,69,[("__init__",525,257)],528⟩,⟨"PortRef",281,536,bP,74,[("__init__",555,278)],557⟩,⟨"Real",463,796,jL,130,[("__init__",816,460)],819⟩,⟨"Ratio",582,945,jK,185,[("__init__",965,579)],968⟩,⟨"Reading",771,1249,cQ,316,[("__init__",1270,768)],1274⟩,⟨"Token",877,1432,cR,418,[("__init__",1454,874)],1459⟩,⟨"Lexer",1018,1524,cR,456,[("__init__",1546,945),("skip",1555,952),("peek",1562,959),("token",1572,966),("found",1583,973),("word_end",1592,980),("word_token",1603,987),("number_in",1613,994),("sharp",1623,1001),("sign_token",1634,1008),("string",1645,1015)],1650⟩,⟨"Frame",1039,1666,dG,577,[("__init__",1687,1036)],1693⟩,⟨"Reader",1124,1701,dG,585,[("__init__",1724,1058),("place",1731,1065),("read",1740,1072),("last",1749,1079),("quoted",1758,1086),("opens",1768,1093),("dot",1777,1100),("closed",1786,1107),("atom",1794,1114),("delivered",1806,1121)],1810⟩,⟨"Printer",1230,1881,dH,720,[("__init__",1904,1185),("told",1914,1192),("put",1922,1199),("datum",1931,1206),("pair",1940,1213),("tail",1948,1220),("atom",1957,1227)],1966⟩]
noncomputable def yF(a:Nat):Fn:=jM.foldr (λr k=>bif UN (r.F.code+1) a then r.F else k) (Frm.F ⟨fS 136 "law" eA 1329 .none ["script"],2113,882,1,2127,TV⟩)
noncomputable def KG(P:Ur):Frag:=KX++(jM.flatMap fO++(crs.flatMap (yE P)++[(43,dO 1 [de P "title" 229 (sO "empty" 225)]),(44,{cls:=.ref 38,dict:=TR 43}),(46,dO 1 [de P "title" 235 (sO "unspecified" 231)]),(47,{cls:=.ref 38,dict:=TR 46}),(49,dO 1 [de P "title" 241 (sO "unassigned" 237)]),(50,{cls:=.ref 38,dict:=TR 49}),(52,dO 1 [de P "title" 247 (sO "eof" 243)]),(53,rS P),(301,dO 4 [de P "__module__" 572 bP,de P "__firstlineno__" 576 (.int 78 575),de P "__init__" 584 (.ref 299),de P "__static_attributes__" 586 (.ref 300),de P "__dict__" 588 (.ref 303),de P "__weakref__" 590 (.ref 304),de P "__doc__" 591 (.none)]),(302,kC "Procedure" 302 565 (.type "object") [.type "object"] [.ref 323] TW "object.__new__"),(322,dO 2 [de P "__module__" 601 bP,de P "__firstlineno__" 605 (.int 82 604),de P "__init__" 614 (.ref 320),de P "__static_attributes__" 616 (.ref 321),de P "__doc__" 617 (.none)]),(323,kC "Primitive" 323 594 (.ref 302) [.ref 302,.type "object"] [] (TR (.ref 307)) "object.__new__"),(336,nR P),(366,dO 3 [de P "__module__" 658 hU,de P "__firstlineno__" 662 (.int 99 661),de P "__init__" 671 (.ref 364),de P "__static_attributes__" 674 (.ref 365),de P "__weakref__" 676 (.ref 368),de P "__doc__" 677 (.none)]),(367,kC "SchemeError" 367 651 (.type "Exception") [.type "Exception",.type "BaseException",.type "object"] [.ref 387,.ref 406,.ref 425,.ref 444] (TR (.ref 351)) "Exception.__new__"),(386,dO 2 [de P "__module__" 689 hU,de P "__firstlineno__" 693 (.int 104 692),de P "__init__" 702 (.ref 384),de P "__static_attributes__" 705 (.ref 385),de P "__doc__" 706 (.none)]),(387,kC "LexError" 387 682 (.ref 367) [.ref 367,.type "Exception",.type "BaseException",.type "object"] [] (TR (.ref 371)) "Exception.__new__"),(405,dO 2 [de P "__module__" 716 hU,de P "__firstlineno__" 720 (.int 110 719),de P "__init__" 729 (.ref 403),de P "__static_attributes__" 732 (.ref 404),de P "__doc__" 733 (.none)]),(406,kC "ReadError" 406 709 (.ref 367) [.ref 367,.type "Exception",.type "BaseException",.type "object"] [] (TR (.ref 390)) "Exception.__new__"),(424,dO 2 [de P "__module__" 743 hU,de P "__firstlineno__" 747 (.int 116 746),de P "__init__" 755 (.ref 422),de P "__static_attributes__" 757 (.ref 423),de P "__doc__" 758 (.none)]),(425,kC "TooLong" 425 736 (.ref 367) [.ref 367,.type "Exception",.type "BaseException",.type "object"] [] (TR (.ref 409)) "Exception.__new__"),(443,dO 2 [de P "__module__" 768 hU,de P "__firstlineno__" 772 (.int 121 771),de P "__init__" 782 (.ref 441),de P "__static_attributes__" 786 (.ref 442),de P "__doc__" 787 (.none)]),(444,kC "OutOfRange" 444 761 (.ref 367) [.ref 367,.type "Exception",.type "BaseException",.type "object"] [] (TR (.ref 428)) "Exception.__new__"),(728,rU P),(844,rV P),(852,tO [sO "+" 1412,sO "-" 1413,sO "..." 1414]),(853,tO [sO "space" 1418,sO " " 1419]),(854,tO [sO "newline" 1420,sO "\n" 1421]),(855,tO [.ref 853,.ref 854]),(856,tO [sO "'" 1423,sO "quote" 1424]),(857,tO [sO "`" 1425,sO "quasiquote" 1426]),(858,tO [sO "," 1427,sO "unquote" 1428]),(859,tO [sO ",@" 1429,sO "unquote-splicing" 1430]),(860,tO [.ref 856,.ref 857,.ref 858,.ref 859]),(938,rW P),(1051,rX P),(1129,rY P),(1235,rZ P),(1243,r0 P),(1258,tO [sO "quote" 2011,sO "'" 2012]),(1259,tO [sO "quasiquote" 2013,sO "`" 2014]),(1260,tO [sO "unquote" 2015,sO "," 2016]),(1261,tO [sO "unquote-splicing" 2017,sO ",@" 2018]),(1262,{cls:=.type "list",data:=.seq #[.ref 1258,.ref 1259,.ref 1260,.ref 1261] 0})]))
noncomputable def yG:List (String×Nat×TZ):=[("__doc__",166,.none),("__package__",167,.none),("__loader__",168,.builtin "__main__.__loader__#opaque"),("__spec__",169,.none),("__annotations__",170,.ref 6),("__builtins__",171,.ref 4),("__file__",173,sO "/claim/cut.py" 172),("__cached__",174,.none),("_wall",193,.ref 21),("Special",224,.ref 38),("EMPTY",230,.ref 44),("UNSPECIFIED",236,.ref 47),("UNASSIGNED",242,.ref 50),("EOF",248,.ref 53),("Symbol",279,.ref 71),("SymbolTable",357,.ref 134),("Pair",388,.ref 155),("Char",417,.ref 176),("Text",446,.ref 197),("Vector",475,.ref 218),("Box",504,.ref 239),("Promise",535,.ref 260),("PortRef",564,.ref 281),("Procedure",593,.ref 302),("Primitive",619,.ref 323),("make_text",625,.ref 330),("python_text",631,.ref 335),("list_of",641,.ref 343),("is_boolean",648,.ref 350),("SchemeError",681,.ref 367),("LexError",708,.ref 387),("ReadError",735,.ref 406),("TooLong",760,.ref 425),("OutOfRange",789,.ref 444),("REACH",795,.int 65536 794),("Real",826,.ref 463),("is_real",833,.ref 474),("size_of",840,.ref 481),("sign_of_whole",847,.ref 488),("zeros_below",854,.ref 495),("lean",864,.ref 502),("nearest_shift",875,.ref 509),("shifted_round",885,.ref 516),("with_sticky",893,.ref 523),("rounded",905,.ref 530),("exact_parts",912,.ref 537),("place_of",919,.ref 544),("sign_of",926,.ref 551),("magnitude",933,.ref 558),("full_mantissa",942,.ref 565),("Ratio",975,.ref 582),("gcd_of",983,.ref 593),("made",991,.ref 600),("ratio_of",1000,.ref 607),("FIGURES_numtext",1004,sO "0123456789abcdef" 1003),("RADICES",1017,.ref 608),("MARKS",1019,sO "esfdl" 1018),("MOST_EXPONENT_FIGURES",1021,.int 5 1020),("MOST_BEFORE_POINT",1023,.int 21 1022),("MOST_NOUGHTS_BEHIND_POINT",1025,.int 6 1024),("figures_of",1035,.ref 615),("whole_text",1043,.ref 622),("exact_text",1051,.ref 629),("Surroundings",1145,.ref 681),("with_lower_ones",1161,.ref 692),("tens_above",1169,.ref 699),("shortest_figures",1182,.ref 706),("without_noughts",1191,.ref 713),("laid_out",1201,.ref 720),("decimal_text",1212,.ref 727),("number_text",1224,.ref 735),("worth_of",1234,.ref 742),("are_figures",1240,.ref 747),("parted",1248,.ref 754),("Reading",1281,.ref 771),("read_whole",1291,.ref 782),("read_ratio",1302,.ref 789),("are_decimal_parts",1313,.ref 796),("read_exponent",1321,.ref 803),("mark_place",1327,.ref 808),("read_mantissa",1337,.ref 815),("read_decimal",1347,.ref 822),("read_unsigned",1355,.ref 829),("split_prefixes",1367,.ref 836),("finished",1377,.ref 843),("parse_number",1393,.ref 851),("BLANKS",1397,sO " \n\t\r\x0c" 1396),("DELIMITERS",1399,.str (so " \n\t\r\x0c()\";") 1398),("RESERVED",1401,sO "[]{}|" 1400),("SMALL",1403,sO "abcdefghijklmnopqrstuvwxyz" 1402),("CAPITALS",1405,sO "ABCDEFGHIJKLMNOPQRSTUVWXYZ" 1404),("FIGURES_lexer",1407,sO "0123456789" 1406),("FIRST_SIGNS",1409,sO "!$%&*/:<=>?^_~" 1408),("LATER_SIGNS",1411,sO "+-.@" 1410),("PECULIAR",1415,.ref 852),("PREFIXES",1417,sO "bodxei" 1416),("SIGN_NAMES",1422,.ref 855),("QUOTATIONS",1431,.ref 860),("Token",1466,.ref 877),("folded",1476,.ref 888),("is_first",1483,.ref 895),("is_later",1490,.ref 902),("is_identifier",1498,.ref 909),("is_numberlike",1505,.ref 916),("sign_named",1514,.ref 923),("name_of_sign",1523,.ref 930),("Lexer",1657,.ref 1018),("NOT_DOTTED",1661,.int 0 1660),("BEHIND_DOT",1663,.int 1 1662),("HAS_TAIL",1665,.int 2 1664),("Frame",1700,.ref 1039),("Reader",1817,.ref 1124),("read_one",1831,.ref 1136),("quotation_sign",1841,.ref 1143),("PIECE",1845,.int 0 1844),("DATUM",1847,.int 1 1846),("TAIL",1849,.int 2 1848),("is_readable_symbol",1856,.ref 1150),("written_sign",1864,.ref 1157),("written_string",1873,.ref 1164),("other_text",1880,.ref 1171),("Printer",1973,.ref 1230),("write_text",1986,.ref 1242),("display_text",1998,.ref 1250),("is_readable",2008,.ref 1257),("_law_quotes",2019,.ref 1262),("_law_draw",2029,.ref 1269),("_law_pick",2037,.ref 1276),("_law_deck",2043,.ref 1281),("_law_figures",2053,.ref 1288),("_law_strange",2061,.ref 1295),("_law_symbol",2071,.ref 1302),("_law_atom",2084,.ref 1309),("_law_next",2101,.ref 1316),("_law_told",2112,.ref 1323),("law",2129,.ref 1330)]
noncomputable def lh(P:Ur)(m:TZ)(k n:Nat):Vi:=dO n (de P "__name__" 165 m::(yG.take k).map λx=>de P x.1 x.2.1 x.2.2)
noncomputable def eU(P:Ur):Vi:={cls:=.none,data:=.dict #[de P "type.__subclasses__.Exception.0" 678 (.int 367 0),de P "type.__subclasses__.Exception.n" 679 (.int 1 0)] 2}
noncomputable def fy(k:Nat):Vi:={cls:=.none,data:=.fields (([(1,20),(5,27),(13,60),(18,81),(48,144),(53,165),(57,186),(61,207),(65,228),(69,249),(74,270),(78,291),(82,312),(87,329),(89,334),(91,342),(96,349),(99,356),(104,376),(110,395),(116,414),(121,433),(130,452),(135,473),(137,480),(139,487),(141,494),(143,501),(150,508),(155,515),(160,522),(162,529),(171,536),(175,543),(177,550),(179,557),(181,564),(185,571),(190,592),(195,599),(197,606),(209,614),(217,621),(219,628),(223,635),(259,691),(269,698),(272,705),(280,712),(283,719),(293,726),(299,734),(306,741),(311,746),(313,753),(316,760),(322,781),(327,788),(335,795),(341,802),(346,807),(349,814),(358,821),(369,828),(375,835),(387,842),(394,850),(418,866),(425,887),(431,894),(433,901),(435,908),(444,915),(446,922),(451,929),(456,936),(577,1028),(585,1049),(677,1135),(686,1142),(697,1149),(699,1156),(702,1163),(710,1170),(720,1177),(798,1241),(800,1249),(802,1256),(819,1268),(825,1275),(827,1280),(829,1287),(835,1294),(839,1301),(845,1308),(862,1315),(877,1322),(882,1329)]:List (Nat×Nat)).take k|>.flatMap λp=>[.int p.1 0,.int 0 0,.ref p.2]).toArray}
noncomputable abbrev aan(P:Ur):Vi:=lh P jL 35 36
noncomputable abbrev nS(P:Ur):Vi:=lh P cQ 55 56
noncomputable abbrev nT(P:Ur):Vi:=lh P cQ 56 57
noncomputable abbrev nU(P:Ur):Vi:=lh P eA 136 137
noncomputable def gu:Nat->Nat->Nat->Nat->(Nat->Vi)->BT
 |0,_,_,_,_=>.nil
 |k+1,a,b,n,f=>match WO b n with
  |true=>.node (f b) (gu k (2*a) (a+b) n f) (gu k (2*a) (2*a+b) n f)
  |false=>.nil
theorem li(n:Nat)(f:Nat->Vi):∀(k a b j:Nat),j+1<2^k->a*j+b<n->(gu k a b n f).get j=TR (f (a*j+b))
 |0,_,_,j,h,_=>absurd (Nat.lt_of_succ_lt_succ h) (Nat.not_lt_zero j)
 |k+1,a,b,j,h,hn=>by
  have hb:WO b n=TV:=Nat.ble_eq_true_of_le (Wj (Nat.le_add_left b (a*j)) hn);show(match WO b n with|true=>BT.node (f b) (gu k (2*a) (a+b) n f) (gu k (2*a) (2*a+b) n f)|false=>.nil).get j=_;rw[hb];show(BT.node (f b) (gu k (2*a) (a+b) n f) (gu k (2*a) (2*a+b) n f)).get j=_;rw[BT.get_node];rw[Nat.pow_succ']at h;by_cases h0:j=0
  ·rw[if_pos h0,h0];show TR (f b)=TR (f (0+b));rw[Xn]
  ·rw[if_neg h0];have d:=Y0 j 2;by_cases p:j%2=1
   ·rw[if_pos p];rw[p]at d;have e:a*j+b=2*a*(j/2)+(a+b):=by rw[show a*j=a*(2*(j/2)+1) from congrArg (a* ·) d.symm,XI,ZP,<-Yh,Yv a 2,Zn]
    rw[li n f k _ _ _ (WZ (a:=2) (by exact ai [_,_,_] ((Ar.m 2 ad).a N1) (Ar.m 2 X1) (X2.a N2) (Ar.m 2 X1) ((Ar.m 2 X0).a N1) X2 h (eL d) rfl)) (by rw[<-e];exact hn),e]
   ·rw[if_neg p];rw[(Nat.mod_two_eq_zero_or_one j).resolve_right p]at d;have hq:j/2-1+1=j/2:=Nat.sub_add_cancel (UJ λz=>h0 (d.symm.trans (by rw[z])));have d:2*(j/2-1+1)=j:=(congrArg (2* ·) hq).trans d;have e:a*j+b=2*a*(j/2-1)+(2*a+b):=by rw[show a*j=a*(2*(j/2-1+1)) from congrArg (a* ·) d.symm,<-Yh,Yv a 2,XI,ZP,Zn]
    rw[li n f k _ _ _ (WZ (a:=2) (by exact ai [_,_,_] ((Ar.m 2 ad).a N1) (Ar.m 2 X1) bC (Ar.m 2 X1) (Ar.m 2 ad) X2 (W5 h) (eL d) rfl)) (by rw[<-e];exact hn),e]
noncomputable def lk:List (Nat×Vi)->Nat->Option Vi
 | [],_=>TW
 |p::r,i=>match UN p.1 i with
  |true=>TR p.2
  |false=>lk r i
theorem yH(l:List (Nat×Vi))(i:Nat)(o:Vi)(h:lk l i=TR o):(i,o)∈l:=by
 induction l with
 |nil=>exact nomatch h
 |cons p r ih=>
  replace h:(match UN p.1 i with|true=>TR p.2|false=>lk r i)=TR o:=h;cases q:UN p.1 i with
  |true=>rw[q]at h;rw[<-Ut q,<-TU h];exact .head _
  |false=>rw[q]at h;exact .tail _ (ih h)
noncomputable def lj(ex:List (Nat×Vi))(v:Nat->Vi)(i:Nat):Vi:=match lk ex i with
 |some o=>o
 |none=>v i
noncomputable def iP(n:Nat)(ex:List (Nat×Vi))(v:Nat->Vi):BT:=gu 16 1 0 n (lj ex v)
theorem aao{n:Nat}{ex:List (Nat×Vi)}{T:BT}{l:Life}(hn:n<60000)(h:∀p∈ex,T.get p.1=TR p.2):absHeap (iP n ex λi=>(T.get i).getD default) n l=absHeap T n l:=by
 unfold absHeap;refine congrArg (λx:List Vi=>Heap.mk x.toArray l) ?_;unfold BT.list;refine WI λi hi=>?_
 have hi:=List.mem_range.mp hi;have:=li n (lj ex λi=>(T.get i).getD default) 16 1 0 i (by exact ai [_,_] (ad.a N1) (Ar.n 65536) ad X1 ay (Ar.n 60000) hi hn rfl) (by exact ab [_,_] (((Ar.m 1 X0).a N0).a N1) X1 ad X1 hi rfl);unfold iP;rw[this,YO,ZB,V3];unfold lj;split
 ·rename_i o q;rw[h _ (yH _ _ _ q)];rfl
 ·rfl
noncomputable abbrev aap:=Yg
noncomputable abbrev r8:=Ye
noncomputable abbrev gv(w:U4)(b:Bool):U4:=w.withFollow "special-get-raises" b
noncomputable def r9(as:List Nat):Option (Flow×SharedT×Code×Pos)->Option ((Flow×Code×Nat×Life)×(Array GenState×Drawn×Nat×OsState)×Pos×List (Option Vi))
 |some (f,⟨T,n,l,g,d,t,os⟩,c,p)=>TR ((f,c,n,l),(g,d,t,os),p,as.map T.get)
 |none=>TW
noncomputable def d8(P:Ur)(o2 o3 QS:Vi):List (Nat×Vi):=[(0,boot_o_0 P),(1,boot_o_1 P),(2,o2),(3,o3),(4,boot_o_4 P),(12,QS),(13,rQ)]
noncomputable def kg(P:Ur)(n:Nat):Frag:=(KG P).filter λp=>WO p.1 n
noncomputable def iQ(i k:Nat):List U5:=(lc.drop i).take k
def iR(w:U4)(N i k:Nat)(pos:Pos)(n t:Nat)(ex:List (Nat×Vi))(NZ:Pos)(n1 t1:Nat)(Nu:List (Nat×Vi)):Prop:=∀(os:OsState) (v:Nat->Vi),r9 ((Nu++kg w.params n1).map (·.1)) (aap r8 pw w 11 gq 1 N ⟨iP n ex v,n,{}, #[],boot_drawn,t,os⟩ (piecesOf (iQ i k) lb c0 pos [topFrame p0]))=TR ((.next,c0,n1,{}),(#[],boot_drawn,t1,os),NZ,Nu.map (λp=>TR p.2)++(kg w.params n1).map λp=>TR (match WO p.1 n with|true=>v p.1|false=>p.2))
noncomputable abbrev sh(T:BT)(n t:Nat)(os:OsState):SharedT:=⟨T,n,{}, #[],boot_drawn,t,os⟩
structure ll(P:Ur)(n:Nat)(ex:List (Nat×Vi))(T:BT):Prop where
 ex:∀p∈ex,T.get p.1=TR p.2
 ks:∀p∈kg P n,T.get p.1=TR p.2
theorem yI{as:List Nat}{r:Option (Flow×SharedT×Code×Pos)}{f:Flow}{c:Code}{n t:Nat}{l:Life}{g:Array GenState}{d:Drawn}{os:OsState}{p:Pos}{gs:List (Option Vi)}(h:r9 as r=TR ((f,c,n,l),(g,d,t,os),p,gs)):∃T:BT,r=TR (f,⟨T,n,l,g,d,t,os⟩,c,p)/\as.map T.get=gs:=by
 induction r with
 |none=>exact nomatch h
 |some r=>obtain⟨f',⟨T,n',l',g',d',t',Ox⟩,c',p'⟩:=r;exact⟨T,congrArg (λq:(Flow×Code×Nat×Life)×(Array GenState×Drawn×Nat×OsState)×Pos×List (Option Vi)=>TR (q.1.1,(⟨T,q.1.2.2.1,q.1.2.2.2,q.2.1.1,q.2.1.2.1,q.2.1.2.2.1,q.2.1.2.2.2⟩:SharedT),q.1.2.1,q.2.2.1)) (TU h),congrArg (λq=>q.2.2.2) (TU h)⟩
theorem ln{w:U4}{N i k:Nat}{pos NZ:Pos}{n t n1 t1:Nat}{ex Nu:List (Nat×Vi)}{os:OsState}{T:BT}(H:iR w N i k pos n t ex NZ n1 t1 Nu)(hn:n<60000)(hS:ll w.params n ex T):∃T',segRun VW pw w 11 gq 1 N (sh T n t os).abs (piecesOf (iQ i k) lb c0 pos [topFrame p0])=TR (.next,(sh T' n1 t1 os).abs,c0,NZ)/\ll w.params n1 Nu T':=by
 refine aj (yI (H os λi=>(T.get i).getD default)) λT' KY=>?_
 have hr:=KY.1;have hg:=KY.2;rw[show aap=segRunT from PySem.W.Fast.te10110043849684766642.symm,show r8=VW from PySem.W.Fast.te14364793385576792824.symm]at hr;rw[VE,VE,U8,U8]at hg;have hl:=List.append_inj hg (by rw[UK,UK]);refine⟨T',(congrArg (λh=>segRun VW pw w 11 gq 1 N ⟨h, #[],boot_drawn,t,os⟩ _) (aao hn hS.ex).symm).trans (segRun_of hr),List.map_inj_left.mp hl.1,λp hp=>(List.map_inj_left.mp hl.2 p hp).trans (congrArg TR ?_)⟩;cases q:WO p.1 n with
 |true=>exact congrArg (λo=>Option.getD o default) (hS.ks p (List.mem_filter.mpr ⟨(List.mem_filter.mp hp).1,q⟩))
 |false=>rfl
theorem yJ(w:U4):iR w 1981 0 12 ⟨0,0,0,0⟩ 15 187 (d8 w.params (boot_o_2 w.params) (boot_o_3 w.params) lf) ⟨57,0,60,26⟩ 202 447 (d8 w.params (boot_o_2 w.params) (lh w.params bP 19 20) (fy 7)):=by intro os v;kernel_rfl
theorem aaq(w:U4):iR w 1360 12 6 ⟨57,0,60,26⟩ 202 447 (d8 w.params (boot_o_2 w.params) (lh w.params bP 19 20) (fy 7)) ⟨82,0,86,20⟩ 326 620 (d8 w.params (boot_o_2 w.params) (lh w.params bP 25 26) (fy 13)):=by intro os v;kernel_rfl
theorem aar(w:U4):iR w 1369 18 12 ⟨82,0,86,20⟩ 326 620 (d8 w.params (boot_o_2 w.params) (lh w.params bP 25 26) (fy 13)) ⟨129,0,129,5⟩ 447 796 (d8 w.params (eU w.params) (aan w.params) (fy 22)):=by intro os v;kernel_rfl
theorem yK(w:U4):iR w 992 30 22 ⟨129,0,129,5⟩ 447 796 (d8 w.params (eU w.params) (aan w.params) (fy 22)) ⟨203,0,203,15⟩ 608 1005 (d8 w.params (eU w.params) (nS w.params) (fy 41)):=by intro os v;kernel_rfl
theorem yL(w:U4)(b:Bool):iR (gv w b) 72 52 1 ⟨203,0,203,15⟩ 608 1005 (d8 (gv w b).params (eU (gv w b).params) (nS (gv w b).params) (fy 41)) ⟨204,0,204,7⟩ 609 1018 (d8 (gv w b).params (eU (gv w b).params) (nT (gv w b).params) (fy 41)):=by induction b<;>(intro os v;kernel_rfl)
theorem yM(w:U4):iR w 72 52 1 ⟨203,0,203,15⟩ 608 1005 (d8 w.params (eU w.params) (nS w.params) (fy 41)) ⟨204,0,204,7⟩ 609 1018 (d8 w.params (eU w.params) (nT w.params) (fy 41)):=by have h:=yL w (w.params.followText "special-get-raises");rwa[show gv w (w.params.followText "special-get-raises")=w from World.withFollow_self w _]at h
theorem yN(w:U4):iR w 1501 53 37 ⟨204,0,204,7⟩ 609 1018 (d8 w.params (eU w.params) (nT w.params) (fy 41)) ⟨411,0,411,13⟩ 852 1408 (d8 w.params (eU w.params) (lh w.params cR 92 93) (fy 67)):=by intro os v;kernel_rfl
theorem aas(w:U4):iR w 1357 90 20 ⟨411,0,411,13⟩ 852 1408 (d8 w.params (eU w.params) (lh w.params cR 92 93) (fy 67)) ⟨577,0,584,25⟩ 1044 1701 (d8 w.params (eU w.params) (lh w.params dG 111 112) (fy 77)):=by intro os v;kernel_rfl
theorem aat(w:U4):iR w 1649 110 27 ⟨577,0,584,25⟩ 1044 1701 (d8 w.params (eU w.params) (lh w.params dG 111 112) (fy 77)) ⟨882,0,900,102⟩ 1331 2130 (d8 w.params (eU w.params) (nU w.params) (fy 98)):=by intro os v;kernel_rfl
theorem yO(w:U4)(os:OsState):segRun VW pw w 11 gq 1 1 (Sa w.params os) (blockOf lc lb c0 p0 [topFrame p0])=TR (.next,(⟨iP 15 (d8 w.params (boot_o_2 w.params) (boot_o_3 w.params) lf) λi=>((lg w.params)[i]?).getD default,15,{}, #[],boot_drawn,187,os⟩:SharedT).abs,c0,p0):=by kernel_rfl
section
theorem yP{w:U4}{s:aav}{pos:Pos}:topRun VW pw w 11 gq 2 s ⟨doneF .next,c0,pos,[topFrame p0]⟩=TR s:=rfl
theorem yQ:lc=iQ 0 12++(iQ 12 6++(iQ 18 12++(iQ 30 22++(iQ 52 1++(iQ 53 37++(iQ 90 20++(iQ 110 27++[]))))))):=by kernel_rfl
theorem yR(P:Ur):kg P 15=[]:=by kernel_rfl
theorem sd(P:Ur):kg P 1331=KG P:=by kernel_rfl
noncomputable abbrev se(P:Ur):List (Nat×Vi):=d8 P (eU P) (nU P) (fy 98)
noncomputable abbrev lp(P:Ur):List (Nat×Vi):=d8 P (boot_o_2 P) (boot_o_3 P) lf
noncomputable abbrev yS(P:Ur):BT:=iP 15 (lp P) λi=>((lg P)[i]?).getD default
theorem yT(P:Ur):ll P 15 (lp P) (yS P) where
 ex p hp:=by
  have all:∀p∈lp P,p.1<15/\lj (lp P) (λi=>((lg P)[i]?).getD default) p.1=p.2:=by refine List.forall_mem_cons.mpr ⟨⟨Us rfl,rfl⟩,?_⟩;refine List.forall_mem_cons.mpr ⟨⟨Us rfl,rfl⟩,?_⟩;refine List.forall_mem_cons.mpr ⟨⟨Us rfl,rfl⟩,?_⟩;refine List.forall_mem_cons.mpr ⟨⟨Us rfl,rfl⟩,?_⟩;refine List.forall_mem_cons.mpr ⟨⟨Us rfl,rfl⟩,?_⟩;refine List.forall_mem_cons.mpr ⟨⟨Us rfl,rfl⟩,?_⟩;refine List.forall_mem_cons.mpr ⟨⟨Us rfl,rfl⟩,λ_ h=>nomatch h⟩
  obtain⟨hl,h⟩:=all p hp;refine(li _ _ _ _ _ _ (by exact ab [_] (ad.a N1) (Ar.n 65536) ad (Ar.n 15) hl rfl) (by exact ab [_] (((Ar.m 1 X0).a N0).a N1) (Ar.n 15) ad (Ar.n 15) hl rfl)).trans ?_;rewrite[YO];rewrite[ZB];refine(h).symm▸?_;with_reducible rfl
 ks p hp:=by rw[yR]at hp;exact nomatch hp
theorem yU(w:U4)(os:OsState):∃T,topRun VW pw w 11 gq (12+(1+(1981+(1360+(1369+(992+(72+(1501+(1357+(1649+2)))))))))) ⟨boot_heap w.params, #[],boot_drawn,boot_toks,os⟩ (topStub pw)=TR (sh T 1331 2130 os).abs/\ll w.params 1331 (se w.params) T:=by
 refine aj (ln (os:=os) (yJ w) (by decide) (yT w.params)) λT1 KY=>?_
 have r1:=KY.1;have h1:=KY.2;refine aj (ln (os:=os) (aaq w) (by decide) h1) λT2 KY=>?_
 have r2:=KY.1;have h2:=KY.2;refine aj (ln (os:=os) (aar w) (by decide) h2) λT3 KY=>?_
 have r3:=KY.1;have h3:=KY.2;refine aj (ln (os:=os) (yK w) (by decide) h3) λT4 KY=>?_
 have r4:=KY.1;have h4:=KY.2;refine aj (ln (os:=os) (yM w) (by decide) h4) λT5 KY=>?_
 have r5:=KY.1;have h5:=KY.2;refine aj (ln (os:=os) (yN w) (by decide) h5) λT6 KY=>?_
 have r6:=KY.1;have h6:=KY.2;refine aj (ln (os:=os) (aas w) (by decide) h6) λT7 KY=>?_
 have r7:=KY.1;have h7:=KY.2;refine aj (ln (os:=os) (aat w) (by decide) h7) λT8 KY=>?_
 refine⟨T8,?_,KY.2⟩;refine go_top (yD w os) (piece_block (yO w os) ?_);refine(yQ).symm▸?_;exact piece_app r1 (piece_app r2 (piece_app r3 (piece_app r4 (piece_app r5 (piece_app r6 (piece_app r7 (piece_app KY.1 (piece_nil yP))))))))
noncomputable def qv:VQ:={pw with main:={pw.main with body:=[cH 136]}}
noncomputable def lq:List U6:=pw.boundNames.filter λn=> !(n==so "law")
noncomputable def sf(P:Ur):List (Nat×Vi):=se P++KX
noncomputable def H1(P:Ur)(v:Nat->Vi):Ux:=absHeap (iP 1331 (sf P) v) 1331 {}
set_option maxHeartbeats 0
theorem yV(P:Ur)(v:Nat->Vi):staticsOk (importedModules pw.main.body) (boot_heap P) (H1 P v)=TV:=by kernel_rfl
theorem yW(P:Ur)(v:Nat->Vi):namesBound pw (H1 P v)=TV:=by kernel_rfl
theorem yX(P:Ur)(v:Nat->Vi):laidKept (boot_heap P) (H1 P v)=TV:=by kernel_rfl
theorem yY(P:Ur)(v:Nat->Vi)(t:Nat)(os:OsState):openSeen qv lq (importedModules pw.main.body) (λ_=>TV) TV ⟨H1 P v, #[],boot_drawn,t,os⟩=openGood qv lq:=by kernel_rfl
theorem yZ(P:Ur):((boot_heap P).isNs U9&&(#[]:Array GenState).size==0,(boot_heap P).objs.size,(boot_heap P).nsMap U9 "__annotations__")=(TV,11,gq):=by kernel_rfl
noncomputable def KW(P:Ur):Frag:=(3,nU P)::(2,eU P)::KG P
noncomputable abbrev NN:Nat:=12+(1+(1981+(1360+(1369+(992+(72+(1501+(1357+(1649+2)))))))))
theorem y0:opening pw=plainProg pw.main.scope.names:=by kernel_rfl
theorem y4(s:aav):fenceModules? pw s=TR s:=by kernel_rfl
theorem y6:∀P,(KW P).all (λp=> !p.2.isFreed&&WO p.1 1331)=TV:=λP=>by kernel_rfl
noncomputable def jN:List TX:=3::2::((KX++jM.flatMap fO).map (·.1)++(crs.flatMap (λr=>[r.a-1,r.a])++[43,44,46,47,49,50,52,53,301,302,322,323,336,366,367,386,387,405,406,424,425,443,444,728,844,852,853,854,855,856,857,858,859,860,938,1051,1129,1235,1243,1258,1259,1260,1261,1262]))
theorem sg(P:Ur):jN=(KW P).map (·.1):=by kernel_rfl
theorem y7{a b c d:Bool}(h1:a=TV)(h2:b=TV)(h3:c=TV)(h4:d=TV):(a&&b&&c&&d)=TV:=by rw[h1,h2,h3,h4];rfl
theorem y8{p q:VQ}{loose:List U6}{α:Type}{Yf:aav->α}{Ya:U4->α}{N:Nat}{Pt:Nat}{ann:Option TZ}{w:U4}{Mj Ld:aav}(e:fencedOpening VW p w N=TR Mj)(z1:(Mj.heap.isNs U9&&Mj.gens.size==0)=TV)(z2:Mj.heap.objs.size=Pt)(z3:Mj.heap.nsMap U9 "__annotations__"=ann)(r:topRun VW p w Pt ann N Mj (topStub p)=TR Ld)(l:(staticsOk (importedModules p.main.body) Mj.heap Ld.heap&&namesBound p Ld.heap&&gensDone Ld&&laidKept Mj.heap Ld.heap)=TV)(l4:openSeen q loose (importedModules p.main.body) (λ_=>TV) TV Ld=openGood q loose)(y:Yf Ld=Ya w):(openEnds VW p w N).map (λs=>(openSeen q loose (importedModules p.main.body) (λ_=>TV) TV s,Yf s))=TR (openGood q loose,Ya w):=by subst z2 z3;unfold openEnds topFrom;rw[e,UP,z1];dsimp only;rw[r,UP,l];dsimp only;rw[Option.map_some,l4,y]
theorem y9{o:Option aav}{h:Ux}{g:Array GenState}{d:Drawn}{k:Nat}(e:o.map (λs=>(s.heap,s.gens,s.drawn,s.toks))=TR (h,g,d,k)):∃os,o=TR ⟨h,g,d,k,os⟩:=by
 induction o with
 |none=>exact nomatch e
 |some s=>obtain⟨h',g',d',k',os⟩:=s;exact⟨os,congrArg (λq:Ux×Array GenState×Drawn×Nat=>TR (⟨q.1,q.2.1,q.2.2.1,q.2.2.2,os⟩:aav)) (TU e)⟩
theorem kept{p:TX×Vi}{T:BT}(ha:(!p.2.isFreed&&WO p.1 1331)=TV)(hk:T.get p.1=TR p.2):(absHeap T 1331 {}).get? p.1=TR p.2:=by rw[Uq,V0]at ha;refine(abs_get (Us ha.2) hk).symm▸?_;obtain⟨a,⟨c,dd,dt,sl⟩⟩:=p;induction dt<;>first|rfl|cases ha.1
theorem zc:LeftO pw qv lq (λ_=>TV) (λs=>jN.map s.heap.get?) (λw=>(KW w.params).map λp=>TR p.2) NN:=λw=>by
 refine aj (y9 (boot_open (N:=NN) y0 (by decide) y4 w)) λOx e=>?_
 have z:=yZ w.params;refine aj (yU w Ox) λT KY=>?_
 have hS:=KY.2;have hex:∀p∈sf w.params,T.get p.1=TR p.2:=λp hp=>by
  rcases List.mem_append.mp hp with q|q
  ·exact hS.ex p q
  ·exact hS.ks p (by rw[sd];exact Va _ q)
 have ks:∀p∈KW w.params,T.get p.1=TR p.2:=λp hp=>by
  rcases List.mem_cons.mp hp with rfl|hp
  ·exact hS.ex _ (.tail _ (.tail _ (.tail _ (.head _))))
  ·rcases List.mem_cons.mp hp with rfl|hp
   ·exact hS.ex _ (.tail _ (.tail _ (.head _)))
   ·exact hS.ks p (by rw[sd];exact hp)
 have hH:H1 w.params (λi=>(T.get i).getD default)=absHeap T 1331 {}:=aao (by decide) hex;have l1:=yV w.params λi=>(T.get i).getD default
 have l2:=yW w.params λi=>(T.get i).getD default
 have l3:=yX w.params λi=>(T.get i).getD default
 have l4:=yY w.params (λi=>(T.get i).getD default) 2130 Ox;rw[hH]at l1 l2 l3 l4;refine y8 (q:=qv) (Yf:=λs=>jN.map s.heap.get?) (Ya:=λw=>(KW w.params).map λp=>TR p.2) e (congrArg (·.1) z) (congrArg (·.2.1) z) (congrArg (·.2.2) z) KY.1 (y7 l1 l2 rfl l3) l4 ?_;show jN.map (absHeap T 1331 {}).get?=_;rw[sg w.params,U8];exact WI λp hp=>kept (List.all_eq_true.mp (y6 w.params) p hp) (ks p hp)
end
section
set_option maxHeartbeats 0
theorem zd:namesResolve pw=TV:=by have e:Wg=namesResolve:=PySem.W.Fast.te8377067652309620493.symm;refine(e)▸?_;kernel_rfl
theorem ze:looksOpen pw=TV:=by have e:Wg=namesResolve:=PySem.W.Fast.te8377067652309620493.symm;refine(Wc).symm▸?_;unfold Wb;refine(e).symm▸?_;refine(zd).symm▸?_;kernel_rfl
theorem zg:PySem.Challenge.rw_nt0263_01.wellSaid=TV:=by
 have e:Wb PySem.Challenge.rw_nt0263_01.row.prog=TV:=by rw[<-Wc];exact ze
 refine(Yo).symm▸?_;unfold Ym Yd Yn;refine(Yp)▸?_;refine(e).symm▸?_;kernel_rfl
end
abbrev d9:OpenLaw:=YU
noncomputable def hV:DefRec:=⟨so "law",rR (cH 136),bD (cH 136),bq (cH 136),⟨882,0,900,102⟩⟩
def si(w:U4)(h:Ux):Prop:=∀p∈KW w.params,h.get? p.1=TR p.2
theorem zh:defOf qv d9.row.name=TR (hV,[]):=by kernel_rfl
theorem zi:d9.row.prog.theDef d9.row.name=TR (hV.params,hV.body,hV.scope):=by kernel_rfl
theorem zj:kwWritten? hV.params.kwonlyargs hV.params.kw_defaults=TR []:=by kernel_rfl
theorem zk:(chainsOk qv&&opensWell d9.row.prog&&(frees d9.row.toRowW&&d9.row.within.isEmpty))=TV:=by kernel_rfl
theorem zm:d9.row.prog.bare:=⟨rfl,rfl,rfl,rfl,rfl,by decide+kernel⟩
theorem zn:d9.row.toRowW.promised:=by w_witness2
theorem zo(w:U4)(s:aav)(h:jN.map s.heap.get?=(KW w.params).map λp=>TR p.2):si w s.heap:=by rw[sg w.params,U8]at h;exactλp hp=>List.map_inj_left.mp h p hp
theorem zq(nJ:WalkO qv lq (λ_ _=>True) si d9.row.toRowW hV [] λf vs=>Vl f vs):d9.Holds:=holds_law zg λQT=>holds_open (r:=d9.row) zc zo (λw h h' y k p hp=>k _ _ (y p hp)) (λ_ _=>trivial) (λ_ _ _ x _=>x) zh zi zj (λ_ _=>recFacts_nil rfl) rfl QT zk zm zn nJ
theorem zr{K:Frag}{h:Ux}(H:∀p∈K,h.get? p.1=TR p.2):K.In h:=by
 intro a o e;induction K with
 |nil=>cases e
 |cons p r ih=>
  obtain⟨b,x⟩:=p;simp only[YQ]at e;split at e
  ·rename_i q;cases e;refine(beq_iff_eq.mp q).symm▸?_;exact H (b,o) (.head _)
  ·exact ih (λp hp=>H p (.tail _ hp)) e
structure Gr(w:U4)(h:Ux):Prop where
 inn:(KW w.params).In h
 g:∃mg,h.Ns U9 mg
 b:∃mb,h.Ns WC mb/\∀x:U6,x≠"__name__"->mb x=bootBuiltins x
 nolimit:h.NoLimit
 nodigits:∃mc,h.Ns cStatics mc/\mc "sys.int_max_str_digits"=TW
theorem zs(P:Ur):nsIn (KW P) U9 (so "law")=TR (TR (.ref 1330)):=by kernel_rfl
def sj:Prop:=∀(w:U4) (s:aav) (l:TX) (vs:List TZ) (ns:List Int),Gr w s.heap->s.gens= #[]->s.heap.IsList l vs.toArray->IntsAre vs ns->ns.length<=63->PyData.layable0 (.list (ns.map .int))=TV->Uh (Uj pw w) callerA (Vl (.ref 1330) [.ref l]) (λv s'=>v=.bool TV/\(∀b o,s.heap.get? b=TR o->s'.heap.get? b=TR o)/\s'.os=s.os/\s'.gens= #[]) (λ_ _=>False) s
theorem zu(args:List WData):d9.row.claim.post args (WData.bool TV) args=TV:=by wrow_post
set_option tactic.hygienic true in
set_option maxHeartbeats 1000000 in
theorem head(nJ:sj):d9.Holds:=by
 refine zq ?_;intro w Mj Ld mg mb G Y fa o pm cd doc dV kV ho hd Nv hD Pu hg args vals as QU Pv QV QW Oy;have X:=zr Y;have GR:Gr w Ld.heap:=⟨X,⟨mg,G.T.g⟩,⟨mb,G.T.b,G.T.builtins⟩,G.T.nolimit,G.T.nodigits⟩;have e:=mg_of X G.T.g (zs w.params);have e:fa=1330:=Value.ref.inj (TU (Pu.symm.trans e));subst e;clear G Y ho hd Nv hD Pu X
 wrow_args QU Pv QV QW Oy
 rename_i ns _ _ QX _ _ _ _ l vs _ hL _ _ _ hI _ hlen _;have hlen:ns.length<=63:=by omega
 refine wpAny_mono (nJ w Ld l vs ns GR hg hL hI hlen QX) (λv s' h=>?_) λ_ _ h=>h.elim
 obtain⟨rfl,hk,QY,QZ⟩:=h;exact⟨.inl ⟨_,_,[],rfl,λcls=>rfl,ReadsW.bool TV,zu _,λ_=>⟨List.nodup_nil,λ_ hm=>(nomatch hm)⟩⟩,.of_keep hk,QY,.of_eq QZ⟩
inductive Tr where
 |o
 |b (l:Tr) (k v:Nat) (r:Tr)
noncomputable def Tr.find:Tr->Nat->Option Nat
 | .o,_=>TW
 | .b l k v r,x=>bif UN x k then TR v else bif W6 x k then l.find x else r.find x
noncomputable def Tr.list:Tr->List (Nat×Nat)
 | .o=>[]
 | .b l k v r=>l.list++(k,v)::r.list
theorem Tr.find_mem:∀{t:Tr} {x v:Nat},t.find x=TR v->(x,v)∈t.list
 | .o,_,_,h=>by cases h
 | .b l k w r,x,v,h=>by
  simp only[Tr.find,cond_eq_ite]at h;split at h
  ·rename_i q;cases h;refine(Ut q).symm▸?_;exact UU _ (.head _)
  ·split at h
   ·exact Va _ (Tr.find_mem h)
   ·exact UU _ (.tail _ (Tr.find_mem h))
theorem zv{α β:Type}{a b:α}{c:β}{l:List (α×β)}(nd:(l.map (·.2)).Nodup)(h:(a,c)∈l)(h':(b,c)∈l):a=b:=by
 induction l with
 |nil=>exact nomatch h
 |cons p l ih=>
  rw[UA,Uw]at nd;have no:∀{x y:α},(x,c)=p->(y,c)∈l->False:=λe m=>nd.1 (congrArg Prod.snd e▸V9 (f:=(·.2)) m)
  exact(List.mem_cons.mp h).elim (λe=>(List.mem_cons.mp h').elim (λe'=>congrArg Prod.fst (e.trans e'.symm)) λm=>(no e m).elim) λm=>(List.mem_cons.mp h').elim (λe'=>(no e' m).elim) λm'=>ih nd.2 m m'
noncomputable def Tr.l(k v:Nat):Tr:=.b .o k v .o
noncomputable def tr:Tr:=(.b (.b (.b (.b (.b (.b (.b (.b (.l 98 1) 103 2 .o) 108 3 (.l 114753745 4)) 123666649 5 (.b (.b (.l 125894881 6) 128123107 7 .o) 129237206 8 (.l 129237214 9))) 130351319 10 (.b (.b (.b (.l 88128681279709 11) 125366149120310 12 .o) 125366149120314 13 (.l 125366153576776 14)) 126607396897093 15 (.b (.b (.l 126607404695873 16) 127848634646834 17 .o) 135296129106236 18 (.l 137778616860994 19)))) 137778621317447 20 (.b (.b (.b (.b (.l 137778636915031 21) 140261107958075 22 .o) 140261123555666 23 (.l 140261123555670 24)) 142743603511609 25 (.b (.b (.l 142743606853948 26) 142743611310400 27 .o) 142743619109194 28 (.l 143984852402489 29))) 145226103521603 30 (.b (.b (.b (.l 145226114662730 31) 145226114662740 32 .o) 145226121347420 33 (.l 148949842395463 34)) 148949857993045 35 (.b (.b (.l 150191090172233 36) 150191105769772 37 .o) 151432356888930 38 (.l 106482643745005961518 39))))) 139672040358659293600 40 (.b (.b (.b (.b (.b (.l 139672054012395979191 41) 139672056494884848037 42 .o) 139672056494884848042 43 (.l 139672061459882639808 44)) 141054934366717608347 45 (.b (.b (.l 141054934366733205919 46) 141054945537947599269 47 .o) 141054945537963196856 48 (.l 141054946779210973588 49))) 141054946779210973613 50 (.b (.b (.b (.l 141054951744190939560 51) 141054952985446515117 52 .o) 141054955467948753316 53 (.l 141054961674177610175 54)) 142437830857288188324 55 (.b (.b (.l 142437834581019263391 56) 142437834581023719854 57 .o) 145203608943428174244 58 (.l 149352274831390933403 59)))) 149352277313886486953 60 (.b (.b (.b (.b (.l 149352293450103128495 61) 150735162633214820744 62 .o) 150735162633214820776 63 (.l 150735172563192578478 64)) 150735176286940365220 65 (.b (.b (.l 150735180010694836656 66) 150735180010694836670 67 .o) 152118070295019848117 68 (.l 153500943201853702564 69))) 153500950649344819637 70 (.b (.b (.b (.l 153500953131847057844 71) 153500964303083733453 72 .o) 156266733700481483195 73 (.l 159032504339134808450 74)) 159032514269109223824 75 (.b (.b (.l 159032514269109223856 76) 160415402070952051121 77 .o) 160415416965906432443 78 (.l 160415421930913137103 79)))))) 161798291114009231791 80 (.b (.b (.b (.b (.b (.b (.l 161798301043995902391 81) 161798303526486999480 82 .o) 161798306008993694153 83 (.l 161798307250225873336 84)) 161798307250230329794 85 (.b (.b (.l 161798307250241470919 86) 161798313456469213609 87 .o) 161798313456469213641 88 (.l 168712752465584193977 89))) 107848817070005189074354539 90 (.b (.b (.b (.l 112470905200002179847029096 91) 118633701819350679755227518 92 .o) 120174410308720807580664192 93 (.l 129418572739819393427177859 94)) 138662761445833381356437908 95 (.b (.b (.l 155610435900106981559435768 96) 155610453877700537684394529 97 .o) 157151134709216570467746314 98 (.l 157151134709221535455511051 99)))) 157151140240793843954352658 100 (.b (.b (.b (.b (.l 157151147155230370578235917 101) 157151147155239059320472094 102 .o) 157151147155246506807132708 103 (.l 157151147155252713047130663 104)) 157151148538119413668839920 105 (.b (.b (.l 157151148538119413668839952 106) 157151156835471049548759577 107 .o) 157151156835474773292089840 108 (.l 157151158218351403907154470 109))) 157151159601255341930971682 110 (.b (.b (.b (.l 160232542007687598471512607 111) 161773244965468040344830493 112 .o) 167936019458567026147525140 113 (.l 169476727947937153961820704 114)) 171017401865015418892452358 115 (.b (.b (.l 171017401865015418892452390 116) 171017426757045501632381490 117 .o) 172558103439921712640688644 118 (.l 174098811929244673071776291 119))))) 177180186038347636179010087 120 (.b (.b (.b (.b (.b (.l 177180186038366254890091054 121) 177180186038366254890091058 122 .o) 177180186038367496126726661 123 (.l 177180186038367496126726693 124)) 177180199867262891848958511 125 (.b (.b (.l 178720882081676656438411795 126) 178720893144800172247286311 127 .o) 178720894527690456562270762 128 (.l 178720901442136913163911707 129))) 178720902825048298683302447 130 (.b (.b (.b (.l 180261579507907132245017123 131) 180261582273685218389459491 132 .o) 180261583656581708955583025 133 (.l 180261583656582950195560996 134)) 180261590571029406808343087 135 (.b (.b (.l 180261596102580614109463091 136) 180261597485470898412192286 137 .o) 180261597485491999628853805 138 (.l 186424362298346582717694493 139)))) 186424367829907719980974621 140 (.b (.b (.b (.b (.l 144186914330872872308196127146433 141) 173367615734758679996749373375092 142 .o) 173367615734779423354737904976512 143 (.l 173367615734780806245022234444440 144)) 173367615734780806248745955492486 145 (.b (.b (.l 173367629601024452897865989751422 146) 173367629601024452902830989771406 147 .o) 173367629601029984449073273045616 148 (.l 173367629601038281784572950807170 149))) 173367629601046579141173855257231 150 (.b (.b (.b (.l 173367631141731559361573280219785 151) 175084145254757708782791232455304 152 .o) 176800650123566111506463031624296 153 (.l 178517158073810853408304802890397 154)) 180233676808911303942289037787784 155 (.b (.l 187099707069131998082125315179132 156) 187099707069131998082125315179164 157 (.l 188816216560083846431538133533339 158))))))) 190532726051001122506465508131471 159 (.b (.b (.b (.b (.b (.b (.b (.l 190532726051009419833276440314510 160) 190532730673100315639384555192998 161 .o) 193965735788685689593876997997226 162 (.l 197398748607733302635910820659855 163)) 197398748607736068401584468394585 164 (.b (.b (.l 197398748607736068401584468394617 165) 197398748607758194669717287207574 166 .o) 197398764014718627988468635796089 167 (.l 199115258098661641826906501874302 168))) 199115258098661641831871489639039 169 (.b (.b (.b (.l 199115258098675470729749702967940 170) 199115261180068940297934505640595 171 .o) 200831784537247840599401811673743 172 (.l 200831784537253372179157782692507 173)) 160640505386837875178749856672178504194 174 (.b (.b (.l 193151114469099197249984222635179442936 175) 193151131634211054166343793238764815083 176 .o) 195063496574540697386824934674508219107 177 (.l 195063515456166667316887938762137535208 178)))) 195063522322204631037159213746392990453 179 (.b (.b (.b (.b (.l 195063524038704877787855545301164950246 180) 196975885546001672892799812848095658697 181 .o) 196975902711116611190182966385059824374 182 (.l 196975902711116611202628955360227033836 183)) 196975902711116611210926311961117000439 184 (.b (.b (.l 198888286533087631303926201298433344193 185) 198888286533087631303926201298433344225 186 .o) 198888286533087631326052455777522156282 187 (.l 198888286533096875446996855763783254729 188))) 208450191910783606896926883886295483110 189 (.b (.b (.b (.l 208450191910789769660356873010011505352 190) 212275000750938022408165884801491272471 191 .o) 219924512007635305529765399261773038315 192 (.l 221836897546097328229008092781667549948 193)) 221836919860700681229493979707722302218 194 (.b (.b (.l 223749298533127821603317841817542460162 195) 223749315698222730872880979262288167686 196 .o) 147012471536839131767441026300296477754655336 197 (.l 164057387901673018961376189900934356273136237 198))))) 176841054139098278326455526466500499107938909 199 (.b (.b (.b (.b (.b (.l 178971675378082152328332007915024076720636526 200) 178971688764741441882716920089047353997787737 201 .o) 204539088173120137144505588690054023176913701 202 (.l 204539088173145884780706726839019667243270968 203)) 208800353599686882580734159923922206141252456 204 (.b (.b (.l 215192167594518379991438843679995373277545298 205) 215192167594537261594298338624581850517799784 206 .o) 215192184805983076618088869872110236606661466 207 (.l 217322794570646853811406245033510185023570804 208))) 217322798395416214216716498815860488615560005 209 (.b (.b (.b (.l 217322811782113266978361125963069298907677549 210) 219453413897190261042928283421671686775636801 211 .o) 219453413897190261047550395060829577189917552 212 (.l 219453413897190261058335252152376828948579163 213)) 245020757846362593129654473853037205996766043 214 (.b (.b (.l 245020757846367742679697004860220955895006064 215) 245020776970214544787905215235713512142144315 216 .o) 247151369523382728117485956042413944837964621 217 (.l 249281981200390847561991416462456970302915416 218)))) 249282002236638636700693075823755296972604281 219 (.b (.b (.b (.b (.l 249282011798566329035457640968941487685501799 220) 249282011798588643641892041838814506466870123 221 .o) 249282015623354571028220461069023644041872217 222 (.l 239748391415224006333232486840200591440415221744562 223)) 239748391415250779718755442645731437103814228575165 224 (.b (.b (.l 239748406329540168499695180289916862517655708697534 225) 242122133582587924859181129099095142065783807869895 226 .o) 242122163411178176655332023138495784511000683283378 227 (.l 242122163411178176655332023138495784511000683283410 228))) 242122167672367107800538861366572780430706230363087 229 (.b (.b (.b (.l 242122171933609585720224614780582820669405947429826 230) 256364597239613721491340051601342741017183307039650 231 .o) 256364597239621371054092025908792813332390153159602 232 (.l 261112111402895475009007889359330061121200046801852 233)) 263485842917118775820080942977980064689777969988552 234 (.b (.b (.l 263485855700819436173017131982665352233245121119189 235) 263485855700819436174733652258467377664834408809400 236 .o) 272980811586450144800364490711767765431570135581644 237 (.l 272980832892616637137287443061878830342569477145487 238)))))) 275354585712991131156346618555875184976360298251223 239 (.b (.b (.b (.b (.b (.b (.l 275354587843621932019850684828927273039418800341993 240) 277728340664004075610244277317698278188614331335626 241 .o) 277728340664004075620543334263235124069547117642699 242 (.l 284849524553751372159817160813070726628088097145785 243)) 287223285896578311458944352427828891100877620511676 244 (.b (.b (.l 182478903452400420058184853598454732332527732026905133819 245) 182478903452413203764582371732557230687932730395153138462 246 .o) 222148194167644212323797855481479597203462788310028780302 247 (.l 222148215531347155071252148349771312803133394749472244513 248))) 222148225026303040736383706806954460710025808199622066940 249 (.b (.b (.b (.l 224792837286084411168216849236420283779708585719646323450 250) 267106799604808638869205146723893446089224095608771249183 251 .o) 269751414238310870496552099506555787609664671775243568153 252 (.l 269751414238338568452178273092056759016312820545209566267 253)) 269751423733315760232167710871404136870134538197492171748 254 (.b (.b (.l 269751435602039380584130759299866586332391808336616817700 255) 269751459339482360022630148657592407624624881593281545264 256 .o) 272396062104254579482106884038216132205876475462742246451 257 (.l 277685312735025903825004050635607506175180325761354630186 258)))) 293552983919978350795321047111992730857487430284264342565 259 (.b (.b (.b (.b (.l 293552993414968326262584204285623255221341931627470193734 260) 293552993414968326262584204285623255235170820816932373563 261 .o) 293552993414987501794450856848907113918591895017315501138 262 (.l 296197622290981088397483491374233264236524565839858828324 263)) 304131470939059473063170981757297449109397386280595358802 264 (.b (.b (.l 309420754802195572701830395766015673783878255540043056205 265) 309420754802195572701830395766015673794941370367123063897 266 .o) 309420754802195572701830395766035702822761356669414933584 267 (.l 309420754802195572701830395766038784212082235382558229571 268))) 203302118562052320468664163220821584663423477354991999838257978 269 (.b (.b (.b (.l 247498214850256783023514382863082442057382753410532450415084390 270) 247498214850256783023514382863082442060464164857661918912775030 271 .o) 297587157828114540857005112438008867151913183749986743471834271 272 (.l 300533581172864041729940025610606465691378368918614166405973097 273)) 300533581172864041729940056208756199513236540478141538502968438 274 (.b (.b (.l 321158422933818415886458944735337470388858128976277052516009123 275) 338836851928510308161679239331859488786759781642105232092365930 276 .o) 341783230314758816730089252359329181705727888549115387187102871 277 (.l 341783230314763564205901487590992687605066682774507836864791726 278))))) 341783269984049531933399888459184916497222656177394926358496425 279 (.b (.b (.b (.b (.b (.l 344729685394938516089554367718078468956418375971109307091518673 280) 344729685394938516089554367718085334978975115065681485255673016 281 .o) 353568876090707659298027153257319305323283339977457476924605622 282 (.l 359461675177093408994222101592974775120653223534341535225545917 283)) 334828354989250649344847302576340011317816817374957217521566238704898 284 (.b (.b (.l 357806732800426673389744427040254151804895906353850553335463476921558 285) 364372006333018707675356030070778074171591924610336299670323004507377 286 .o) 364372006333018707675356030070793373238734582888357582933111159719209 287 (.l 377502512148537766611780801164720206119624639991667175173379888514319 288))) 380785140075666889583609927213809312617713615095145483369201290904835 289 (.b (.b (.b (.l 380785145968465975962238375600602669218687830520031154443653798364447 290) 384067823984411134976081685281487732489334090730624821618690262500607 291 .o) 384067823984411134976081685281512593501334135542999897252330001532198 292 (.l 358407788662767001448413690341288780525975474115747242755266715938123285864 293)) 358407788662767001448413690341288780525975474115747242766329851866422183295 294 (.b (.b (.l 369379398049152688452748008057140093398657683244786167396887360445988013413 295) 369379427592824657089013465386461675804882220351686908930609418583022175611 296 .o) 373036636192635985045700635384509155256569364343119562340514160608565265782 297 (.l 373036639475281590550925866384447258455177095656298614997725427486630151536 298)))) 420580456317364481588465675807078134262316137751675136962104943782906168683 299 (.b (.b (.b (.b (.l 420580456317408677658307698328139390816256435861847567302169005059437495457 300) 427894896495453340846638909438674356738109515779487101253958991309892683132 301 .o) 427894922756464971937649188898441298780058540642597206574299244890581108089 302 (.l 415604969515727681324337153482833465783063706328574985459020548163603044014360050 303)) 423754086063054263934639592078965907731516110876244755493077135587431507888113169 304 (.b (.b (.l 452275942777719459138521188535910184233863436942967202258319895122611282665211394 305) 472648708545613466862886886515778476757683741605738773422123561681857739486791167 306 .o) 526584070623842484242229940073644538615308281778162878107352415725952495033726844864103 307 (.l 526584131742139787750273986248125415175694158098564853004561444854155446234072753112714 308))) 531123662307751296222254383189354253214031343594445815716183294776996085057090173928856 309 (.b (.b (.b (.l 515868744425545003023064813373152964609898859133836816116915758364366126869616160956356822733 310) 586674158674957319886972687503684717875551675927735555660797415554770087110740828741651990240 311 .o) 478946668867595804885768138427049165845467793035304950116349765705285694647743380235528456502969679 312 (.l 574736074458177219953035808421603568860428247646176336714465366298599038708170062018237539362146107 313)) 653621382806810609454071819758811378042373137077820055866417633979562267322094426104151314200921856 314 (.b (.l 684264500258195837824163124325616387950329004829948095519183693970104788120233076753028914439314367317874 315) 729229866126646853440687386756993213076462155098190699586523944442785794991088139210770551788183303377356021300840115209884 316 (.l 1136896924244206334331488207866211395460814787367255691648937311411143974551030602200775408651289440779104426850778550351116757015168642889551382485 317))))))))
set_option maxRecDepth 100000 in
theorem zw:tr.list.map (·.2)=List.range' 1 317:=by kernel_rfl
noncomputable def ec:List Nat->Nat
 | []=>0
 |c::r=>(c+1)+1114113*ec r
noncomputable def jO:List Nat->Bool
 | []=>TV
 |c::r=>WO c 1114112&&jO r
noncomputable def nc(x:U6):Nat:=match tr.find (ec x.cps.toList)with
 |some v=>v
 |none=>0
noncomputable def aG(x:U6):Bool:=jO x.cps.toList&&(tr.find (ec x.cps.toList)).isSome
theorem sm:∀{x y:List Nat},jO x=TV->jO y=TV->ec x=ec y->x=y
 | [],[],_,_,_=>rfl
 | [],c::r,_,_,h=>by simp only[ec]at h;exact(fL (ab [_,_] N1 N0 (ad.a X1) N0 (eR h) rfl)).elim
 |c::r,[],_,_,h=>by simp only[ec]at h;exact(fL (ab [_,_] N1 N0 (ad.a X1) N0 (eL h) rfl)).elim
 |c::r,d::t,hx,hy,h=>by simp only[jO,Uq]at hx hy;have h1:c<1114112:=Us hx.1;have h2:d<1114112:=Us hy.1;have h:(c+1)+1114113*ec r=(d+1)+1114113*ec t:=h;have h3:c=d:=Xo (by have e:((c+1)+1114113*ec r)%1114113=((d+1)+1114113*ec t)%1114113:=congrArg (· %1114113) h;rwa[W0,W0,YF (YE h1),YF (YE h2)]at e);have h4:ec r=ec t:=Nat.eq_of_mul_eq_mul_left (TY 1114112) (XZ (h3▸h));refine(h3).symm▸?_;refine(sm hx.2 hy.2 h4).symm▸?_;with_reducible rfl
theorem fA{x y:U6}(hx:aG x=TV)(hy:aG y=TV)(h:nc x=nc y):x=y:=by
 unfold aG at hx hy;rw[Uq]at hx hy;refine aj (Option.isSome_iff_exists.mp hx.2) λv hv=>?_
 refine aj (Option.isSome_iff_exists.mp hy.2) λw hw=>?_
 unfold nc at h;rw[hv,hw]at h;dsimp only at h;subst h;have:=sm hx.1 hy.1 (zv (by rw[zw];exact List.nodup_range') (Tr.find_mem hv) (Tr.find_mem hw));obtain⟨a⟩:=x;obtain⟨b⟩:=y;exact congrArg Str.mk (Array.ext' this)
theorem zx:aG (so "__debug__")=TT:=by kernel_rfl
theorem nV(h:aG x=TV):(x==("__debug__":U6))=TT:=by rw[beq_eq_false_iff_ne];rintro rfl;rw[show("__debug__":U6)=so "__debug__" from rfl,zx]at h;cases h
section
section
variable{α:Type}{a:α}{P:Prop}
theorem nn(h:TW=TR a):P:=nomatch h
theorem ns(h:TR a=TW):P:=nomatch h
theorem bf(h:TT=TV):P:=nomatch h
theorem bt(h:TV=TT):P:=nomatch h
end
set_option genInjectivity true in
inductive V where
 |none
 |bool (b:Bool)
 |int (i:Int)
 |str (l:List Nat)
 |tup (xs:List V)
 |lst (xs:List V)
 |obj (c:TX) (fs:List (Nat×V))
 |ido (a c:TX) (fs:List (Nat×V))
 |ref (a:TX)
 |bi (n:String)
 |ty (n:String)
 |arg (xs:List V)
abbrev af:=List (Nat×V)
set_option genInjectivity true in
inductive be where
 |inst (c:TX) (fs:List (Nat×V))
 |list (xs:List V)
 |dict (es:List (List Nat×V))
 |exn (fs:List (Nat×V))
abbrev aa:=List (TX×be)
abbrev PH:=TX->Option Vi
noncomputable def aak{α:Type}:List (Nat×α)->Nat->Option α
 | [],_=>Ue
 |p::r,k=>if p.1=k then TR p.2 else aak r k
noncomputable def ag{α:Type}:List (Nat×α)->Nat->α->List (Nat×α)
 | [],k,v=>[(k,v)]
 |p::r,k,v=>if p.1=k then(k,v)::r else p::ag r k v
theorem gw{α:Type}:aak ([]:List (Nat×α)) k=Ue:=rfl
theorem cC{α:Type}{p:Nat×α}{r:List (Nat×α)}{k:Nat}:aak (p::r) k=if p.1=k then TR p.2 else aak r k:=rfl
theorem gy{α:Type}{v:α}:ag [] k v=[(k,v)]:=rfl
theorem dJ{α:Type}{p:Nat×α}{r:List (Nat×α)}{k:Nat}{v:α}:ag (p::r) k v=if p.1=k then(k,v)::r else p::ag r k v:=rfl
theorem ak{α:Type}(l:List (Nat×α))(k:Nat)(v:α)(j:Nat):aak (ag l k v) j=if k=j then TR v else aak l j:=by
 induction l with
 |nil=>rfl
 |cons p r ih=>
  rw[dJ];by_cases h:p.1=k
  ·rw[if_pos h,cC,cC,h];by_cases q:k=j
   ·rw[if_pos q,if_pos q]
   ·rw[if_neg q,if_neg q,if_neg q]
  ·rw[if_neg h,cC,cC,ih];by_cases q:p.1=j
   ·rw[if_pos q,if_pos q,if_neg (λz=>h (q.trans z.symm))]
   ·rw[if_neg q,if_neg q]
theorem bw{α:Type}{l:List (Nat×α)}{v:α}:aak (ag l k v) k=TR v:=by rw[ak,if_pos rfl]
theorem aS{α:Type}{l:List (Nat×α)}{v:α}(h:UN k j=TT):aak (ag l k v) j=aak l j:=by rw[ak,if_neg (Nat.ne_of_beq_eq_false h)]
noncomputable abbrev bk(vs:Array TZ)(n:Nat):Vi:={cls:=.type "list",data:=.seq vs n}
noncomputable abbrev iS(es:Array Un)(n:Nat):Vi:={cls:=.type "dict",data:=.dict es n}
inductive nW:TZ->Prop
 |none:nW .none
inductive nX(b:Bool):TZ->Prop
 |bool:nX b (.bool b)
inductive nY(i:Int):TZ->Prop
 |int (t:Tok):nY i (.int i t)
inductive nZ:List Nat->TZ->Prop
 |str (x:U6) (t:Tok):nZ x.cps.toList (.str x t)
inductive n5(a:TX):TZ->Prop
 |ref:n5 a (.ref a)
inductive n6(n:String):TZ->Prop
 |bi:n6 n (.builtin n)
inductive n7(n:String):TZ->Prop
 |ty:n7 n (.type n)
inductive n8(B:PH)(R:List TZ->Prop):TZ->Prop
 |tup {a:TX} {o:Vi} {vs:Array TZ} {n:Nat} (h:B a=TR o) (hc:o.cls=.type "tuple") (hd:o.data=.seq vs n) (hv:R vs.toList):n8 B R (.ref a)
inductive n9(B:PH)(R:List TZ->Prop):TZ->Prop
 |lst {a:TX} {vs:Array TZ} {n:Nat} (h:B a=TR (bk vs n)) (hv:R vs.toList):n9 B R (.ref a)
inductive oa(B:PH)(c:TX)(R:List Un->Prop):TZ->Prop
 |obj {a d:TX} {o od:Vi} {es:Array Un} {n:Nat} (h:B a=TR o) (hc:o.cls=.ref c) (hp:o.data=.plain) (hd:o.dict=TR d) (h2:B d=TR od) (La:od.data=.dict es n) (hf:R es.toList):oa B c R (.ref a)
inductive og(B:PH)(a c:TX)(R:List Un->Prop):TZ->Prop
 |ido {d:TX} {o od:Vi} {es:Array Un} {n:Nat} (h:B a=TR o) (hc:o.cls=.ref c) (hp:o.data=.plain) (hd:o.dict=TR d) (h2:B d=TR od) (La:od.data=.dict es n) (hf:R es.toList):og B a c R (.ref a)
inductive oh(B:PH)(R:List TZ->Prop):TZ->Prop
 |arg {a:TX} {o:Vi} {vs:Array TZ} {n:Nat} (h:B a=TR o) (hc:o.cls=.type "list") (hd:o.data=.seq vs n) (hv:R vs.toList):oh B R (.ref a)
inductive eV{α:Type}:List α->Prop
 |nil:eV []
inductive KC{α:Type}(P:α->Prop)(R:List α->Prop):List α->Prop
 |cons {v:α} {vs:List α} (h:P v) (t:R vs):KC P R (v::vs)
inductive KF(P:TZ->Prop)(R:List Un->Prop):Nat->List Un->Prop
 |cons {e:Un} {k:U6} {t:Tok} {es:List Un} (hk:e.key=.str k t) (ok:aG k=TV) (h:P e.val) (r:R es):KF P R (nc k) (e::es)
mutual
def iT(B:PH):V->TZ->Prop
 | .none,v=>nW v
 | .bool b,v=>nX b v
 | .int i,v=>nY i v
 | .str l,v=>nZ l v
 | .tup xs,v=>n8 B (jP B xs) v
 | .lst xs,v=>n9 B (jP B xs) v
 | .obj c fs,v=>oa B c (lr B fs) v
 | .ido a c fs,v=>og B a c (lr B fs) v
 | .ref a,v=>n5 a v
 | .bi n,v=>n6 n v
 | .ty n,v=>n7 n v
 | .arg xs,v=>oh B (jP B xs) v
def jP(B:PH):List V->List TZ->Prop
 | [],vs=>eV vs
 |x::xs,vs=>KC (iT B x) (jP B xs) vs
def lr(B:PH):List (Nat×V)->List Un->Prop
 | [],es=>eV es
 |(k,x)::fs,es=>KF (iT B x) (lr B fs) k es
end
abbrev VR(B:PH)(v:TZ)(x:V):Prop:=iT B x v
abbrev aq(B:PH)(v:List TZ)(x:List V):Prop:=jP B x v
abbrev aQ(B:PH)(v:List Un)(x:List (Nat×V)):Prop:=lr B x v
section
variable{B:PH}
theorem VR.none:VR B .none .none:=nW.none
theorem VR.bool(b:Bool):VR B (.bool b) (.bool b):=nX.bool
theorem VR.int(i:Int)(t:Tok):VR B (.int i t) (.int i):=nY.int t
theorem VR.str(x:U6)(t:Tok):VR B (.str x t) (.str x.cps.toList):=nZ.str x t
theorem VR.ref(a:TX):VR B (.ref a) (.ref a):=n5.ref
theorem VR.bi(n:String):VR B (.builtin n) (.bi n):=n6.bi
theorem VR.ty(n:String):VR B (.type n) (.ty n):=n7.ty
theorem VR.tup{a:TX}{o:Vi}{vs:Array TZ}{n:Nat}{xs:List V}(h:B a=TR o)(hc:o.cls=.type "tuple")(hd:o.data=.seq vs n)(hv:aq B vs.toList xs):VR B (.ref a) (.tup xs):=n8.tup h hc hd hv
theorem VR.lst{a:TX}{vs:Array TZ}{n:Nat}{xs:List V}(h:B a=TR (bk vs n))(hv:aq B vs.toList xs):VR B (.ref a) (.lst xs):=n9.lst h hv
theorem VR.arg(h:B a=TR o)(hc:o.cls=.type "list")(hd:o.data=.seq vs n)(hv:aq B vs.toList xs):VR B (.ref a) (.arg xs):=oh.arg h hc hd hv
theorem VR.obj(h:B a=TR o)(hc:o.cls=.ref c)(hp:o.data=.plain)(hd:o.dict=TR d)(h2:B d=TR od)(La:od.data=.dict es n)(hf:aQ B es.toList fs):VR B (.ref a) (.obj c fs):=oa.obj h hc hp hd h2 La hf
theorem VR.ido(h:B a=TR o)(hc:o.cls=.ref c)(hp:o.data=.plain)(hd:o.dict=TR d)(h2:B d=TR od)(La:od.data=.dict es n)(hf:aQ B es.toList fs):VR B (.ref a) (.ido a c fs):=og.ido h hc hp hd h2 La hf
theorem aq.nil:aq B [] []:=eV.nil
theorem aq.cons{v:TZ}{x:V}{vs:List TZ}{xs:List V}(h:VR B v x)(t:aq B vs xs):aq B (v::vs) (x::xs):=KC.cons h t
theorem aQ.nil:aQ B [] []:=eV.nil
theorem aQ.cons{e:Un}{k:U6}{t:Tok}{x:V}{es:List Un}{fs:List (Nat×V)}(hk:e.key=.str k t)(ok:aG k=TV)(h:VR B e.val x)(r:aQ B es fs):aQ B (e::es) ((nc k,x)::fs):=KF.cons hk ok h r
end
def Le(B B':PH):Prop:=∀a o,B a=TR o->B' a=TR o
theorem Le.refl(B:PH):Le B B:=λ_ _ h=>h
theorem Le.trans{B B' Nw:PH}(h:Le B B')(h':Le B' Nw):Le B Nw:=λa o e=>h' a o (h a o e)
mutual
theorem VR.mono{B B':PH}(l:Le B B'){v:TZ}:∀{x:V},VR B v x->VR B' v x
 | .none,h=>h
 | .bool _,h=>h
 | .int _,h=>h
 | .str _,h=>h
 | .tup _,h=>by induction h with|tup h hc hd hv=>exact .tup (l _ _ h) hc hd (aq.mono l hv)
 | .lst _,h=>by induction h with|lst h hv=>exact .lst (l _ _ h) (aq.mono l hv)
 | .obj _ _,h=>by induction h with|obj h hc hp hd h2 La hf=>exact .obj (l _ _ h) hc hp hd (l _ _ h2) La (aQ.mono l hf)
 | .ido _ _ _,h=>by induction h with|ido h hc hp hd h2 La hf=>exact .ido (l _ _ h) hc hp hd (l _ _ h2) La (aQ.mono l hf)
 | .ref _,h=>h
 | .bi _,h=>h
 | .ty _,h=>h
 | .arg _,h=>by induction h with|arg h hc hd hv=>exact .arg (l _ _ h) hc hd (aq.mono l hv)
theorem aq.mono{B B':PH}(l:Le B B'):∀{x:List V} {v:List TZ},aq B v x->aq B' v x
 | [],_,h=>h
 |_::_,_,h=>by induction h with|cons h t=>exact .cons (VR.mono l h) (aq.mono l t)
theorem aQ.mono{B B':PH}(l:Le B B'):∀{x:List (Nat×V)} {v:List Un},aQ B v x->aQ B' v x
 | [],_,h=>h
 |(_,_)::_,_,h=>by induction h with|cons hk ok h r=>exact .cons hk ok (VR.mono l h) (aQ.mono l r)
end
theorem aq.length:∀{v:List TZ},aq B v x->v.length=x.length:=by
 induction x with
 |nil=>intro v h;induction h;rfl
 |cons x xs ih=>intro v h;induction h with|cons _ t=>rw[aau,aau,ih t]
theorem aq.size{v:Array TZ}(h:aq B v.toList x):v.size=x.length:=Array.length_toList.symm.trans (aq.length h)
theorem aq.get{B:PH}{xs:List V}:∀{vs:List TZ},aq B vs xs->∀{i:Nat} {x:V},xs[i]? =TR x->∃v,vs[i]? =TR v/\VR B v x:=by
 induction xs with
 |nil=>intro vs _ i x e;exact nn e
 |cons y xs ih=>
  intro vs h i x e;induction h with
  |cons h t=>
   induction i with
   |zero=>obtain rfl:=TU e;exact⟨_,rfl,h⟩
   |succ i=>exact ih t e
theorem aq.append:∀{vs:List TZ},aq B vs xs->aq B ws ys->aq B (vs++ws) (xs++ys):=by
 induction xs with
 |nil=>intro vs h h';induction h;exact h'
 |cons x xs ih=>intro vs h h';induction h with|cons h t=>exact .cons h (ih t h')
class HasP where
 p:Ur
variable[HasP]
inductive KD(P:TZ->Prop)(R:List Un->Prop):List Nat->List Un->Prop
 |cons {e:Un} {k:U6} {t:Tok} {es:List Un} (hk:e.key=.str k t) (hh:e.hash=Uo HasP.p k) (h:P e.val) (r:R es):KD P R k.cps.toList (e::es)
def sn(B:PH):List (List Nat×V)->List Un->Prop
 | [],es=>eV es
 |(k,x)::fs,es=>KD (iT B x) (sn B fs) k es
abbrev cD(B:PH)(v:List Un)(x:List (List Nat×V)):Prop:=sn B x v
theorem cD.nil{B:PH}:cD B [] []:=eV.nil
theorem cD.cons{B:PH}{e:Un}{k:U6}{t:Tok}{x:V}{es:List Un}{fs:List (List Nat×V)}(hk:e.key=.str k t)(hh:e.hash=Uo HasP.p k)(h:VR B e.val x)(r:cD B es fs):cD B (e::es) ((k.cps.toList,x)::fs):=KD.cons hk hh h r
theorem cD.mono(l:Le B B'):∀{v:List Un},cD B v x->cD B' v x:=by
 induction x with
 |nil=>exactλh=>h
 |cons p x ih=>intro v h;obtain⟨k,y⟩:=p;induction h with|cons hk hh h r=>exact .cons hk hh (VR.mono l h) (ih r)
inductive oi(B:PH)(h:Ux)(a:TX)(xs:List V):List TX->Prop
 |mk {vs:Array TZ} {n:Nat} (e:h.get? a=TR (bk vs n)) (hv:aq B vs.toList xs):oi B h a xs [a]
inductive oj(B:PH)(h:Ux)(a c:TX)(fs:List (Nat×V)):List TX->Prop
 |mk {d:TX} {o od:Vi} {es:Array Un} {n:Nat} (e:h.get? a=TR o) (hc:o.cls=.ref c) (hp:o.data=.plain) (Lk:o.dict=TR d) (e2:h.get? d=TR od) (Ml:od.cls=.type "dict") (La:od.data=.dict es n) (hf:aQ B es.toList fs):oj B h a c fs [a,d]
inductive ol(B:PH)(h:Ux)(a:TX)(xs:List (List Nat×V)):List TX->Prop
 |mk {es:Array Un} {n:Nat} (e:h.get? a=TR (iS es n)) (hv:cD B es.toList xs) (nd:(xs.map (·.1)).Nodup):ol B h a xs [a]
inductive sq(B:PH)(h:Ux)(a:TX)(fs:List (Nat×V)):List TX->Prop
 |mk {d:TX} {o od:Vi} {vs:Array TZ} {es:Array Un} {n:Nat} (e:h.get? a=TR o) (hc:o.cls=.ref 425) (hp:o.data=.fields vs) (Lk:o.dict=TR d) (e2:B d=TR od) (La:od.data=.dict es n) (hf:aQ B es.toList fs):sq B h a fs [a]
def OB(B:PH)(h:Ux)(a:TX):be->List TX->Prop
 | .inst c fs=>oj B h a c fs
 | .list xs=>oi B h a xs
 | .dict xs=>ol B h a xs
 | .exn fs=>sq B h a fs
inductive KM(P R:List TX->Prop):List TX->Prop
 |mk {l own:List TX} (x:P l) (r:R own):KM P R (l++own)
def MR(B:PH)(h:Ux):aa->List TX->Prop
 | []=>eV
 |p::M=>KM (OB B h p.1 p.2) (MR B h M)
section
variable{B:PH}{h:Ux}{M:aa}{own:List TX}{a:TX}{o:be}
theorem MR.nil:MR B h [] []:=eV.nil
theorem MR.list(e:h.get? a=TR (bk vs n))(hv:aq B vs.toList xs)(r:MR B h M own):MR B h ((a,.list xs)::M) (a::own):=KM.mk (l:=[a]) (oi.mk e hv) r
theorem MR.inst{d c:TX}{o od:Vi}{es:Array Un}{n:Nat}{fs:List (Nat×V)}(e:h.get? a=TR o)(hc:o.cls=.ref c)(hp:o.data=.plain)(Lk:o.dict=TR d)(e2:h.get? d=TR od)(Ml:od.cls=.type "dict")(La:od.data=.dict es n)(hf:aQ B es.toList fs)(r:MR B h M own):MR B h ((a,.inst c fs)::M) (a::d::own):=KM.mk (l:=[a,d]) (oj.mk e hc hp Lk e2 Ml La hf) r
theorem MR.dict(e:h.get? a=TR (iS es n))(hv:cD B es.toList xs)(nd:(xs.map (·.1)).Nodup)(r:MR B h M own):MR B h ((a,.dict xs)::M) (a::own):=KM.mk (l:=[a]) (ol.mk e hv nd) r
theorem MR.list_out(R:MR B h ((a,.list xs)::M) own):∃vs n K2,own=a::K2/\h.get? a=TR (bk vs n)/\aq B vs.toList xs/\MR B h M K2:=by
 induction R with
 |mk x r=>induction x with|mk e hv=>exact⟨_,_,_,rfl,e,hv,r⟩
theorem MR.list_own(R:MR B h ((a,.list xs)::M) own):∃K2,own=a::K2:=let⟨_,_,K2,q,_⟩:=R.list_out;⟨K2,q⟩
theorem MR.at(hm:aak M a=TR o):∀{own:List TX},MR B h M own->∃l,OB B h a o l/\l.Sublist own:=by
 induction M with
 |nil=>exact nn hm
 |cons p M ih=>
  intro own R;induction R with
  |mk x r=>
   rw[cC]at hm;by_cases q:p.1=a
   ·rw[if_pos q]at hm;obtain rfl:=TU hm;rw[q]at x;exact⟨_,x,List.sublist_append_left _ _⟩
   ·rw[if_neg q]at hm;refine aj (ih hm r) λl KY=>?_
    exact⟨l,KY.1,KY.2.trans (List.sublist_append_right _ _)⟩
theorem OB.keeps{B':PH}{h':Ux}{l:List TX}(x:OB B h a o l)(le:Le B B')(k:∀b∈l,∀o,h.get? b=TR o->h'.get? b=TR o):OB B' h' a o l:=by
 induction o with
 |inst c fs=>induction x with|mk e hc hp Lk e2 Ml La hf=>exact .mk (k _ (.head _) _ e) hc hp Lk (k _ (.tail _ (.head _)) _ e2) Ml La (aQ.mono le hf)
 |list xs=>induction x with|mk e hv=>exact .mk (k _ (.head _) _ e) (aq.mono le hv)
 |dict xs=>induction x with|mk e hv nd=>exact .mk (k _ (.head _) _ e) (cD.mono le hv) nd
 |exn fs=>induction x with|mk e hc hp Lk e2 La hf=>exact .mk (k _ (.head _) _ e) hc hp Lk (le _ _ e2) La (aQ.mono le hf)
theorem OB.own_at{l:List TX}(x:OB B h a o l):∀b∈l,∃o,h.get? b=TR o:=by
 have one:∀{o:Vi},h.get? a=TR o->∀b∈[a],∃o,h.get? b=TR o:=λ{o} e b hb=>⟨o,by rw[List.mem_singleton.mp hb];exact e⟩
 induction o with
 |inst c fs=>induction x with| @mk d o od _ _ e _ _ _ e2 _ _ _=>exactλb hb=>(List.mem_cons.mp hb).elim (λq=>⟨o,by rw[q];exact e⟩) λq=>⟨od,by rw[List.mem_singleton.mp q];exact e2⟩
 |list xs=>induction x with|mk e _=>exact one e
 |dict xs=>induction x with|mk e _ _=>exact one e
 |exn fs=>induction x with|mk e _ _ _ _ _ _=>exact one e
theorem OB.self{l:List TX}(x:OB B h a o l):a∈l:=by induction o<;>induction x<;>exact .head _
theorem MR.own_at:∀{own:List TX},MR B h M own->∀a∈own,∃o,h.get? a=TR o:=by
 induction M with
 |nil=>intro own R;induction R;exactλ_ q=>(nomatch q)
 |cons p M ih=>
  intro own R;induction R with
  |mk x r=>exactλb hb=>(List.mem_append.mp hb).elim (x.own_at b) (ih r b)
theorem MR.keeps{B':PH}{h':Ux}{own:List TX}(R:MR B h M own)(l:Le B B')(k:∀a∈own,∀o,h.get? a=TR o->h'.get? a=TR o):MR B' h' M own:=by
 induction M generalizing own with
 |nil=>exact R
 |cons p M ih=>
  induction R with
  |mk x r=>exact .mk (x.keeps l λb hb=>k b (Va _ hb)) (ih r λb hb=>k b (UU _ hb))
set_option tactic.hygienic true in
theorem MR.set{h':Ux}{o':be}{own:List TX}(R:MR B h M own)(nd:own.Nodup)(hm:aak M a=TR o)(f:∀l,OB B h a o l->l.Nodup->OB B h' a o' l/\∀b∈own,b∉l->∀ob,h.get? b=TR ob->h'.get? b=TR ob):MR B h' (ag M a o') own:=by
 induction M generalizing own with
 |nil=>exact nn hm
 |cons p M ih=>
  induction R with
  |mk x r=>
   rename_i l own;have KZ:=List.nodup_append.mp nd;have Q0:=KZ.1;have Pw:=KZ.2.1;have dj:=KZ.2.2;rw[cC]at hm;refine(dJ).symm▸?_;by_cases q:p.1=a
   ·rw[if_pos q]at hm⊢;obtain rfl:=TU hm;rw[q]at x;have KZ:=f l x Q0;exact .mk KZ.1 (r.keeps (Le.refl B) λb hb=>KZ.2 b (UU _ hb) λz=>dj b z b hb rfl)
   ·rw[if_neg q]at hm⊢;refine aj (r.at hm) λl' KY=>?_
    have sub:=KY.2;exact .mk (x.keeps (Le.refl B) λb hb=>(f l' KY.1 (Pw.sublist sub)).2 b (Va _ hb) λz=>dj b hb b (sub.subset z) rfl) (ih r Pw hm λl2 y2 n2=>⟨(f l2 y2 n2).1,λb hb=>(f l2 y2 n2).2 b (UU _ hb)⟩)
end
structure aA(B:PH)(M:aa)(own:List TX)(h:Ux):Prop where
 keep:∀a o,B a=TR o->h.get? a=TR o
 mr:MR B h M own
 nd:own.Nodup
 dis:∀a∈own,B a=TW
 big:B 3≠TW/\∀a∈own,3<a
structure aF(B:PH)(own:List TX)(h:Ux)(B':PH)(K2:List TX)(h':Ux)(P:TX->Prop):Prop where
 le:Le B B'
 newB:∀a,B' a≠TW->B a≠TW\/a∈own\/h.get? a=TW
 newO:∀a∈K2,a∈own\/h.get? a=TW
 same:∀b o,h.get? b=TR o->b∉own->¬P b->∃sl,h'.get? b=TR {o with slots:=sl}
 alive:∀a,h.get? a≠TW->h'.get? a≠TW
theorem aF.refl:aF B own h B own h P:=⟨Le.refl B,λ_ e=>.inl e,λ_ e=>.inl e,λb o e _ _=>⟨o.slots,e⟩,λ_ e=>e⟩
theorem aF.gone(x:aF B own h B' K2 h' P)(q:h'.get? a=TW):h.get? a=TW:=by
 cases e:h.get? a with
 |none=>rfl
 |some o=>exact absurd q (x.alive a (by rw[e];exactλz=>by exact ns z))
theorem aF.trans(x:aF B own h B' K2 h' P)(y:aF B' K2 h' Nw Px MA P):aF B own h Nw Px MA P:=by
 refine⟨x.le.trans y.le,λa e=>?_,λa e=>?_,λb o e n p=>?_,λa e=>y.alive a (x.alive a e)⟩
 ·rcases y.newB a e with q|q|q
  ·exact x.newB a q
  ·exact .inr (x.newO a q)
  ·exact .inr (.inr (x.gone q))
 ·rcases y.newO a e with q|q
  ·exact x.newO a q
  ·exact .inr (x.gone q)
 ·refine aj (x.same b o e n p) λsl e1=>?_
  have n':b∉K2:=λq=>by
   rcases x.newO b q with q|q
   ·exact n q
   ·rw[e]at q;exact ns q
  refine aj (y.same b _ e1 n' p) λMn e2=>?_
  exact⟨Mn,e2⟩
theorem aF.weaken(x:aF B own h B' K2 h' P)(i:∀a,P a->P' a):aF B own h B' K2 h' P':=⟨x.le,x.newB,x.newO,λb o e n p=>x.same b o e n λq=>p (i b q),x.alive⟩
def bl(s s':aav):Prop:=s'.os=s.os/\s'.gens=s.gens
theorem bl.refl(s:aav):bl s s:=⟨rfl,rfl⟩
theorem bl.trans(x:bl s s')(y:bl s' Lz):bl s Lz:=⟨y.1.trans x.1,y.2.trans x.2⟩
inductive cI(B:PH)(ρ:af)(h:Ux)(L:TX):Prop
 |mk (m:U6->Option TZ) (hm:h.Ns L m) (H:∀x v,aG x=TV->aak ρ (nc x)=TR v->∃val,m x=TR val/\VR B val v)
structure Cx where
 w:U4
 A:UT
 base:Ux
 env:Yj
 fr:List Yj
structure St(c:Cx)(n:Nat)(ρ:af)(M:aa)(B:PH)(own:List TX)(h:Ux):Prop where
 par:c.w.params=HasP.p
 gr:Gr c.w c.base
 glob:c.env.globals=U9
 blt:c.env.builtins=WC
 cells:c.env.cells=[]
 kind:c.env.scope.kind=.function
 frames:c.A.frames=TR c.fr
 hand:0<n->c.A.handled=Ue
 guards:c.A.guards=TR []
 room:c.A.depth+n<recursionLimit
 units:c.A.units+8*n+4<cLine
 fun_:h.FunFrames c.base c.fr
 base:∀a o,c.base.get? a=TR o->B a=TR o
 loc:cI B ρ h c.env.locals
 locB:B c.env.locals=Ue
 locO:c.env.locals∉own
 frB:∀e∈c.fr,∀L,e.frame=TR L->B L=Ue/\L∉own
 sta:aA B M own h
theorem cI.of_data(x:cI B ρ h L)(l:Le B B')(k:∀o,h.get? L=TR o->∃sl,h'.get? L=TR {o with slots:=sl}):cI B' ρ h' L:=by
 obtain⟨m,⟨o,es,ep,ho,hd,hk,hf⟩,H⟩:=x;refine aj (k o ho) λsl Lo=>?_
 exact⟨m,⟨_,es,ep,Lo,hd,hk,hf⟩,λx v ok e=>let⟨val,a,b⟩:=H x v ok e;⟨val,a,b.mono l⟩⟩
theorem St.step(S:St c n ρ M B own h)(T:aA B' M' K2 h')(P:aF B own h B' K2 h' λ_=>False):St c n ρ M' B' K2 h':=by
 have hL:∃o,h.get? c.env.locals=TR o:=let⟨_,⟨o,_,_,ho,_⟩,_⟩:=S.loc;⟨o,ho⟩;refine aj hL λoL Nx=>?_
 have ML:∀L o,h.get? L=TR o->B L=Ue->L∉own->B' L=Ue/\L∉K2:=λL o ho hb hn=>by
  constructor
  ·cases q:B' L with
   |none=>rfl
   |some o'=>
    rcases P.newB L (by rw[q];exactλz=>by exact ns z)with z|z|z
    ·exact absurd hb z
    ·exact absurd z hn
    ·rw[ho]at z;exact ns z
  ·intro q;rcases P.newO L q with z|z
   ·exact hn z
   ·rw[ho]at z;exact ns z
 refine⟨S.par,S.gr,S.glob,S.blt,S.cells,S.kind,S.frames,S.hand,S.guards,S.room,S.units,?_,λa o e=>P.le _ _ (S.base a o e),S.loc.of_data P.le λo ho=>P.same _ o ho S.locO (λq=>q),(ML _ _ Nx S.locB S.locO).1,(ML _ _ Nx S.locB S.locO).2,λe he L hL=>?_,T⟩
 ·have:∀l,(∀e∈l,e∈c.fr)->h.FunFrames c.base l->h'.FunFrames c.base l:=by
   intro l hl;induction l with
   |nil=>exactλ_=>trivial
   |cons e r ih=>
    rintro⟨hk,⟨L,o,hf,hn,ho,hd⟩,hr⟩;refine aj (P.same L o ho (S.frB e (hl e (.head _)) L hf).2 (λq=>q)) λsl Lo=>?_
    exact⟨hk,⟨L,_,hf,hn,Lo,hd⟩,ih (λe he=>hl e (.tail _ he)) hr⟩
  exact this c.fr (λ_ h=>h) S.fun_
 ·have:=S.fun_;have hm:∃o,h.get? L=TR o:=by
   have:∀l,h.FunFrames c.base l->e∈l->∃o,h.get? L=TR o:=by
    intro l;induction l with
    |nil=>exactλ_ q=>(nomatch q)
    |cons e' r ih=>
     rintro⟨hk,⟨L',o,hf,hn,ho,hd⟩,hr⟩ he;cases he with
     |head=>rw[hf]at hL;obtain rfl:=TU hL;exact⟨o,ho⟩
     |tail _ he=>exact ih hr he
   exact this c.fr S.fun_ he
  refine aj hm λo ho=>?_
  exact ML L o ho (S.frB e he L hL).1 (S.frB e he L hL).2
inductive aT{α:Type}(B:PH)(own:List TX)(s:aav)(R:PH->α->aa->Prop)(v:α)(s':aav):Prop
 |mk (B':PH) (K2:List TX) (M':aa) (r:R B' v M') (T:aA B' M' K2 s'.heap) (P:aF B own s.heap B' K2 s'.heap (λ_=>False)) (q:bl s s')
inductive zy(B:PH)(own:List TX)(h:Ux)(lo:Ux)(e:TX)(vs:Array TZ)(v:TZ):Prop
 |mk (T:TX) (oT:Vi) (ts:Array TZ) (h1:vs[1]? =TR (.ref T)) (h2:lo.get? T=Ue) (h3:B T=Ue) (h4:T∉own) (h5:T≠e) (h6:h.get? T=TR oT) (h7:oT.data=.fields ts) (h8:ts[3]? =TR v)
def zz(B:PH)(own:List TX)(h:Ux)(lo:Ux)(e:TX)(vs:Array TZ):Option TZ->Prop
 |none=>vs[1]? =TR .none
 |some v=>zy B own h lo e vs v
inductive df(B:PH)(own:List TX)(h:Ux)(lo:Ux)(e:TX)(fs:List (Nat×V))(fl:Option TZ):Prop
 |mk (oe:Vi) (vs:Array TZ) (d:TX) (od:Vi) (es:Array Un) (n:Nat) (h1:h.get? e=TR oe) (h2:oe.cls=.ref 425) (h3:oe.data=.fields vs) (h4:oe.dict=TR d) (h5:B d=TR od) (h6:od.data=.dict es n) (h7:aQ B es.toList fs) (h8:lo.get? e=Ue) (h9:B e=Ue) (Lh:e∉own) (LS:zz B own h lo e vs fl)
theorem df.lower{lo Py:Ux}(x:df B own h lo e fs fl)(l:∀a,lo.get? a=Ue->Py.get? a=Ue):df B own h Py e fs fl:=by
 obtain⟨oe,vs,d,od,es,n,h1,h2,h3,h4,h5,h6,h7,h8,h9,Lh,LS⟩:=x;refine⟨oe,vs,d,od,es,n,h1,h2,h3,h4,h5,h6,h7,l _ h8,h9,Lh,?_⟩;induction fl with
 |none=>exact LS
 |some v=>obtain⟨T,oT,ts,a1,a2,a3,a4,a5,a6,a7,a8⟩:=LS;exact⟨T,oT,ts,a1,l _ a2,a3,a4,a5,a6,a7,a8⟩
abbrev PQ:=V->aa->Prop
abbrev PE:=List (Nat×V)->aa->Prop
inductive bg(B:PH)(own:List TX)(s:aav)(E:PE)(v:TZ)(s':aav):Prop
 |mk (B':PH) (K2:List TX) (M':aa) (e:TX) (fs:List (Nat×V)) (h1:v=.ref e) (h2:E fs M') (T:aA B' M' K2 s'.heap) (X:df B' K2 s'.heap s.heap e fs (TR .none)) (P:aF B own s.heap B' K2 s'.heap (λ_=>False)) (q:bl s s')
theorem bg.step{v:TZ}(P:aF B own s.heap B1 K1 s1.heap λ_=>False)(q:bl s s1)(x:bg B1 K1 s1 E v s'):bg B own s E v s':=by obtain⟨B',K2,M',e,fs,h1,h2,h3,h4,h5,h6⟩:=x;exact⟨B',K2,M',e,fs,h1,h2,h3,h4.lower λ_=>P.gone,P.trans h5,q.trans h6⟩
theorem aT.here{α:Type}{B:PH}{own:List TX}{s s':aav}{M:aa}{R:PH->α->aa->Prop}{v:α}(T:aA B M own s.heap)(r:R B v M)(e:s'.heap=s.heap:=by rfl)(q:bl s s':=by exact⟨rfl,rfl⟩):aT B own s R v s':=⟨B,own,M,r,e▸T,e▸aF.refl,q⟩
theorem aT.step{α:Type}{B B1:PH}{own K1:List TX}{s s1:aav}{R:PH->α->aa->Prop}{v:α}{s':aav}(P:aF B own s.heap B1 K1 s1.heap λ_=>False)(q:bl s s1)(x:aT B1 K1 s1 R v s'):aT B own s R v s':=by obtain⟨B',K2,M',h1,h2,h3,h4⟩:=x;exact⟨B',K2,M',h1,h2,P.trans h3,q.trans h4⟩
theorem aT.as{α:Type}{B:PH}{own:List TX}{s s' Lz:aav}{R:PH->α->aa->Prop}{v:α}(x:aT B own s R v s')(e:Lz.heap=s'.heap:=by rfl)(q:bl s' Lz:=by exact⟨rfl,rfl⟩):aT B own s R v Lz:=by obtain⟨B',K2,M',h1,h2,h3,h4⟩:=x;exact⟨B',K2,M',h1,e▸h2,e▸h3,h4.trans q⟩
theorem aT.bind{α β:Type}{c:Cx}{n:Nat}{ρ:af}{M:aa}{B:PH}{own:List TX}{s:aav}{m:Sem α}{f:α->Sem β}{R1:PH->α->aa->Prop}{R2:PH->β->aa->Prop}{E:PE}{A:UT}{mo:Model}(S:St c n ρ M B own s.heap)(h1:Uh mo A m (aT B own s R1) (bg B own s E) s)(h2:∀v s1 B1 K1 M1,R1 B1 v M1->St c n ρ M1 B1 K1 s1.heap->Le B B1->Uh mo A (f v) (aT B1 K1 s1 R2) (bg B1 K1 s1 E) s1):Uh mo A (m>>=f) (aT B own s R2) (bg B own s E) s:=by refine wpAny_bind (wpAny_mono h1 (λv s1 h=>?_) λ_ _ h=>h);obtain⟨B1,K1,M1,r1,T1,P1,q1⟩:=h;exact wpAny_mono (h2 v s1 B1 K1 M1 r1 (S.step T1 P1) P1.le) (λb s2 h=>h.step P1 q1) λ_ _ h=>h.step P1 q1
theorem aT.map{α:Type}{B:PH}{own:List TX}{s:aav}{m:Sem α}{R1 R2:PH->α->aa->Prop}{E:TZ->aav->Prop}{A:UT}{mo:Model}(h1:Uh mo A m (aT B own s R1) E s)(h2:∀B v M,R1 B v M->R2 B v M):Uh mo A m (aT B own s R2) E s:=wpAny_mono h1 (λv s1 ⟨B1,K1,M1,r1,T1,P1,q1⟩=>⟨B1,K1,M1,h2 _ _ _ r1,T1,P1,q1⟩) λ_ _ h=>h
theorem St.kin(S:St c n ρ M B own h):(KW c.w.params).In h:=S.gr.inn.keeps λa o e=>S.sta.keep a o (S.base a o e)
theorem St.keepBase(S:St c n ρ M B own h):∀a o,c.base.get? a=TR o->h.get? a=TR o:=λa o e=>S.sta.keep a o (S.base a o e)
end
inductive X where
 |cst (v:V)
 |loc (k:Nat)
 |attr (o:X) (k:Nat)
 |call (f:X) (args:List X)
 |meth (o:X) (k:Nat) (args:List X)
 |bin (op:Operator) (a b:X)
 |not (a:X)
 |neg (a:X)
 |band (xs:List X)
 |bor (xs:List X)
 |cmp (op:CmpOp) (a b:X)
 |ite (t a b:X)
 |sub (o i:X)
 |slc (o:X) (lo hi:Option X)
 |lst (xs:List X)
 |tup (xs:List X)
 |fst (xs:List X)
 |fmt (x:X)
 |comp (elt:X) (k:Nat) (it:X) (cond:Option X)
 |edict
 |dead
inductive XS where
 |asg (k:Nat) (x:X)
 |asgA (o:X) (k:Nat) (x:X)
 |asgI (o i x:X)
 |asgT (ks:List Nat) (x:X)
 |expr (x:X)
 |ret (x:X)
 |ret0
 |ite (t:X) (a b:List XS)
 |while (t:X) (b:List XS)
 |for (k:Nat) (it:X) (b:List XS)
 |forT (ks:List Nat) (it:X) (b:List XS)
 |raise (x:X)
 |try(x:X) (cls:X) (k:Nat) (h:List XS)
 |cont
 |pass
 |dead
section
variable{α:Type}{c:Prop}[Decidable c]
noncomputable def bK(c:Prop)[Decidable c](f:c->α)(d:α):α:=if h:c then f h else d
noncomputable def gz(c:Prop)[Decidable c](f:c->Option α):Option α:=bK c f TW
theorem iU{f:c->Option α}{x:α}(h:gz c f=TR x):∃k,f k=TR x:=by
 by_cases k:c
 ·exact⟨k,(dif_pos k).symm.trans h⟩
 ·exact nn ((dif_neg k).symm.trans h)
theorem sr{f:c->Option α}(h:gz c f=TW)(g:∀k,f k≠TW):¬c:=λk=>g k ((dif_pos k).symm.trans h)
end
noncomputable def lu(x:X):Option V:=X.casesOn (motive_1:=λ_=>Option V) x TR (λ_=>TW) (λ_ _=>TW) (λ_ _=>TW) (λ_ _ _=>TW) (λ_ _ _=>TW) (λ_=>TW) (λ_=>TW) (λ_=>TW) (λ_=>TW) (λ_ _ _=>TW) (λ_ _ _=>TW) (λ_ _=>TW) (λ_ _ _=>TW) (λ_=>TW) (λ_=>TW) (λ_=>TW) (λ_=>TW) (λ_ _ _ _=>TW) TW TW
noncomputable def su(x:X):Option (X×List X):=X.casesOn (motive_1:=λ_=>Option (X×List X)) x (λ_=>TW) (λ_=>TW) (λ_ _=>TW) (λf xs=>TR (f,xs)) (λ_ _ _=>TW) (λ_ _ _=>TW) (λ_=>TW) (λ_=>TW) (λ_=>TW) (λ_=>TW) (λ_ _ _=>TW) (λ_ _ _=>TW) (λ_ _=>TW) (λ_ _ _=>TW) (λ_=>TW) (λ_=>TW) (λ_=>TW) (λ_=>TW) (λ_ _ _ _=>TW) TW TW
theorem om{v:V}(h:lu x=TR v):x=.cst v:=by
 cases x with
 |cst w=>rw[TU h]
 |_=>exact nn h
theorem zA(h:su x=TR p):x=.call p.1 p.2:=by
 cases x with
 |call f xs=>rw[<-TU h]
 |_=>exact nn h
noncomputable def emp{α:Type}:List α->Bool
 | []=>TV
 |_=>TT
noncomputable def jQ(e:Up):Bool:= !(bK (e.ctorIdx=16) (λh=>XN (motive_1:=λ_=>Bool) e h λf as kw _=>UN f.ctorIdx 23&&(emp as&&emp kw)) TT)
noncomputable def on(e:Up):Bool:=decide (e.ctorIdx=20)
noncomputable def jR(e:Up):Bool:=decide (e.ctorIdx=22)
noncomputable def eW(e:Up):Bool:=match e.ctorIdx with
 |8=>TV
 |9=>TV
 |10=>TV
 |19=>TV
 |_=>TT
noncomputable def jS(e:Up):Bool:=decide (e.ctorIdx=26)
noncomputable def oq(sc:UG):Bool:=sc.names.all λy=>match y.2 with
 | .local=>decide (sc.names.lookup y.1=TR .local)
 |_=>TV
noncomputable def or(e:Up):Bool:=bK (e.ctorIdx=25) (λh=>Wf (motive_1:=λ_=>Bool) e h λvs _ _=> !(vs.all (constantsAlone 8))||vs.all (foldedForSure 8)) TV
noncomputable def eX(e:Up):Bool:=decide (e.ctorIdx=7)
section
variable(gt:List (Nat×V))(sc:UG)
inductive iV:V->Up->Prop
 |cNone {k p}:iV .none (.Constant .none k p)
 |cBool {b k p}:iV (.bool b) (.Constant (.bool b) k p)
 |cInt {i k p}:iV (.int i) (.Constant (.int i) k p)
 |cStr {s k p}:iV (.str s.cps.toList) (.Constant (.str s) k p)
 |glo {id p v} (hk:sc.names.lookup id=TR .globalImplicit) (ok:aG id=TV) (h:aak gt (nc id)=TR v):iV v (.Name id p)
inductive sv:Nat->Up->Prop
 |loc {id p} (hk:sc.names.lookup id=TR .local) (ok:aG id=TV):sv (nc id) (.Name id p)
end
section
variable(P P1 P2:Up->Prop)(Ps:List Up->Prop)(Po Q1:Option Up->Prop)
inductive sw:Nat->Up->Prop
 |attr {o a p} (ok:aG a=TV) (hb:jQ o=TV) (h:P o):sw (nc a) (.Attribute o a p)
inductive sx:Up->Prop
 |call {f as p} (ha:on f=TT) (h:P f) (hs:Ps as):sx (.Call f as [] p)
inductive sz:Nat->Up->Prop
 |meth {o a ap as p} (ok:aG a=TV) (hb:jQ o=TV) (hl:as.length<30) (hp:(ap.endLine==p.line)=TV) (h:P o) (hs:Ps as):sz (nc a) (.Call (.Attribute o a ap) as [] p)
inductive sA(op:Operator):Up->Prop
 |bin {l r p} (h1:P l) (h2:P1 r):sA op (.BinOp l op r p)
inductive sB:Up->Prop
 |not {e p} (h:P e):sB (.UnaryOp .Not e p)
inductive sC:Up->Prop
 |neg {e p} (h:P e):sC (.UnaryOp .USub e p)
inductive sD:Up->Prop
 |band {es p} (h:Ps es):sD (.BoolOp .And es p)
inductive sE:Up->Prop
 |bor {es p} (h:Ps es):sE (.BoolOp .Or es p)
inductive sF(op:CmpOp):Up->Prop
 |cmp {l r p} (h1:P l) (h2:P1 r) (hs:eX r=TT):sF op (.Compare l [op] [r] p)
inductive sG:Up->Prop
 |ite {t b o p} (h1:P t) (h2:P1 b) (h3:P2 o):sG (.IfExp t b o p)
inductive sH:Up->Prop
 |sub {o i p} (hs:jS i=TT) (h1:P o) (h2:P1 i):sH (.Subscript o i p)
inductive sI:Up->Prop
 |slc {o lo hi q p} (h1:P o) (h2:Po lo) (h3:Q1 hi):sI (.Subscript o (.Slice lo hi TW q) p)
inductive sJ:Up->Prop
 |lst {es p} (h:Ps es):sJ (.List es p)
inductive sK:Up->Prop
 |tup {es k p} (h:Ps es):sK (.Tuple es k p)
inductive sL:Up->Prop
 |edict {p}:sL (.Dict [] [] p)
inductive sM:Up->Prop
 |fst {es p} (h:Ps es):sM (.JoinedStr es p)
inductive sN:Up->Prop
 |fmt {e p} (h:P e):sN (.FormattedValue e (-1) TW p)
inductive ot:List Up->Prop
 |cons {e es} (hs:jR e=TT) (h:P e) (t:Ps es):ot (e::es)
inductive sP:Option Up->Prop
 |some {e} (h:P e):sP (TR e)
inductive sQ:List Up->Prop
 |some {e} (h:P e):sQ [e]
end
inductive sR(P:UG->Up->Prop)(P1:Up->Prop)(Pc:UG->List Up->Prop):Nat->Up->Prop
 |comp {e id q it ifs K5 p} (hl:K5.names.lookup id=TR .local) (ok:aG id=TV) (hk:K5.kind=.function) (hn:oq K5=TV) (Pz:eX it=TT) (Ny:∀y∈K5.names,y.2=.local\/y.2=.globalImplicit) (h1:P K5 e) (h2:P1 it) (h3:Pc K5 ifs):sR P P1 Pc (nc id) (.ListComp e [⟨.Name id q,it,ifs,0⟩] K5 p)
section
variable(gt:List (Nat×V))
mutual
def T0:X->UG->Up->Prop
 | .cst v,sc,e=>iV gt sc v e
 | .loc k,sc,e=>sv sc k e
 | .attr x k,sc,e=>sw (T0 x sc) k e
 | .call f xs,sc,e=>sx (T0 f sc) (dS xs sc) e
 | .meth x k xs,sc,e=>sz (T0 x sc) (dS xs sc) k e
 | .bin op a b,sc,e=>sA (T0 a sc) (T0 b sc) op e
 | .not x,sc,e=>sB (T0 x sc) e
 | .neg x,sc,e=>sC (T0 x sc) e
 | .band xs,sc,e=>sD (dS xs sc) e
 | .bor xs,sc,e=>sE (dS xs sc) e
 | .cmp op a b,sc,e=>sF (T0 a sc) (T0 b sc) op e
 | .ite t a b,sc,e=>sG (T0 t sc) (T0 a sc) (T0 b sc) e
 | .sub o i,sc,e=>sH (T0 o sc) (T0 i sc) e
 | .slc o l h,sc,e=>sI (T0 o sc) (jT l sc) (jT h sc) e
 | .lst xs,sc,e=>sJ (dS xs sc) e
 | .tup xs,sc,e=>sK (dS xs sc) e
 | .fst xs,sc,e=>sM (dS xs sc) e
 | .fmt x,sc,e=>sN (T0 x sc) e
 | .comp x k it c,sc,e=>sR (T0 x) (T0 it sc) (lw c) k e
 | .edict,_,e=>sL e
 | .dead,_,_=>True
def dS:List X->UG->List Up->Prop
 | [],_,es=>es=[]
 |x::xs,sc,es=>ot (T0 x sc) (dS xs sc) es
def jT:Option X->UG->Option Up->Prop
 |none,_,o=>o=TW
 |some x,sc,o=>sP (T0 x sc) o
def lw:Option X->UG->List Up->Prop
 |none,_,o=>o=[]
 |some x,sc,o=>sQ (T0 x sc) o
end
abbrev T(sc:UG)(e:Up)(x:X):Prop:=T0 gt x sc e
abbrev Ts(sc:UG)(e:List Up)(x:List X):Prop:=dS gt x sc e
abbrev To(sc:UG)(e:Option Up)(x:Option X):Prop:=jT gt x sc e
abbrev Tc(sc:UG)(e:List Up)(x:Option X):Prop:=lw gt x sc e
end
section
variable(gt:List (Nat×V))(sc:UG)
inductive ou:List Up->List X->Prop
 |nil:ou [] []
 |cons {e es x xs} (hs:jR e=TT) (h:T gt sc e x) (t:Ts gt sc es xs):ou (e::es) (x::xs)
inductive ow:Option Up->Option X->Prop
 |none:ow TW TW
 |some {e x} (h:T gt sc e x):ow (TR e) (TR x)
inductive oy:List Up->Option X->Prop
 |none:oy [] TW
 |some {e x} (h:T gt sc e x):oy [e] (TR x)
end
section
variable{gt:List (Nat×V)}{sc:UG}
theorem dS.v(h:dS gt xs sc es):ou gt sc es xs:=by
 induction xs with
 |nil=>cases h;exact .nil
 |cons x xs=>induction h with|cons hs h t=>exact .cons hs h t
theorem jT.v(h:jT gt x sc e):ow gt sc e x:=by
 induction x with
 |none=>cases h;exact .none
 |some x=>induction h with|some h=>exact .some h
theorem lw.v(h:lw gt x sc e):oy gt sc e x:=by
 induction x with
 |none=>cases h;exact .none
 |some x=>induction h with|some h=>exact .some h
end
inductive Tn:UG->List Up->List Nat->Prop
 |nil {sc}:Tn sc [] []
 |cons {sc id p es ks} (hk:sc.names.lookup id=TR .local) (ok:aG id=TV) (t:Tn sc es ks):Tn sc (.Name id p::es) (nc id::ks)
section
variable(P P1:Up->Prop)(S S1:List U5->Prop)(sc:UG)
inductive oz:Nat->U5->Prop
 |asg {id q v p} (hk:sc.names.lookup id=TR .local) (ok:aG id=TV) (hc:eW v=TT) (h:P v):oz (nc id) (.Assign [.Name id q] v p)
 |asgC {id q c k1 k2 p} (hk:sc.names.lookup id=TR .local) (ok:aG id=TV) (h:P (.Constant c k1 k2)):oz (nc id) (.Assign [.Name id q] (.Constant c k1 k2) p)
inductive oA:Nat->U5->Prop
 |asgA {o a q v p} (ok:aG a=TV) (hc:eW v=TT) (h1:P1 o) (h:P v):oA (nc a) (.Assign [.Attribute o a q] v p)
 |asgAC {o a q c k1 k2 p} (ok:aG a=TV) (h1:P1 o) (h:P (.Constant c k1 k2)):oA (nc a) (.Assign [.Attribute o a q] (.Constant c k1 k2) p)
inductive sS(P2:Up->Prop):U5->Prop
 |asgI {o i q v p} (hc:eW v=TT) (hs:jS i=TT) (h1:P o) (h2:P1 i) (h:P2 v):sS P2 (.Assign [.Subscript o i q] v p)
inductive sU(ks:List Nat):U5->Prop
 |asgT {es k q v p} (hc:eW v=TT) (hw:or v=TV) (hn:Tn sc es ks) (h:P v):sU ks (.Assign [.Tuple es k q] v p)
inductive sV:U5->Prop
 |expr {e p} (hc:eW e=TT) (h:P e):sV (.Expr e p)
inductive oD:U5->Prop
 |ret {e p} (h:P e):oD (.Return (TR e) p)
inductive sW:U5->Prop
 |ret0 {p}:sW (.Return TW p)
inductive sX:U5->Prop
 |ite {t a b p} (h:P t) (h1:S a) (h2:S1 b):sX (.If t a b p)
inductive sY:U5->Prop
 |while {t b p} (h:P t) (h1:S b):sY (.While t b [] p)
inductive sZ:Nat->U5->Prop
 |for {id q it b p} (hk:sc.names.lookup id=TR .local) (ok:aG id=TV) (hs:eX it=TT) (h:P it) (h1:S b):sZ (nc id) (.For (.Name id q) it b [] p)
inductive s6(ks:List Nat):U5->Prop
 |forT {es k q it b p} (hn:Tn sc es ks) (hs:eX it=TT) (h:P it) (h1:S b):s6 ks (.For (.Tuple es k q) it b [] p)
inductive s7:U5->Prop
 |raise {e p} (h:P e):s7 (.Raise (TR e) TW p)
inductive s8:Nat->U5->Prop
 |try{b q2 c id h q p} (hk:sc.names.lookup id=TR .local) (ok:aG id=TV) (h1:P b) (h2:P1 c) (h3:S h):s8 (nc id) (.Try [.Return (TR b) q2] [.ExceptHandler (TR c) (TR id) h q] [] [] p)
inductive s9:U5->Prop
 |cont {p}:s9 (.Continue p)
inductive ta:U5->Prop
 |pass {p}:ta (.Pass p)
inductive oE(Q:U5->Prop):List U5->Prop
 |cons {s ss} (h:Q s) (t:S ss):oE Q (s::ss)
end
section
variable(gt:List (Nat×V))
mutual
def tc:XS->UG->U5->Prop
 | .asg k x,sc,s=>oz (T0 gt x sc) sc k s
 | .asgA o k x,sc,s=>oA (T0 gt x sc) (T0 gt o sc) k s
 | .asgI o i x,sc,s=>sS (T0 gt o sc) (T0 gt i sc) (T0 gt x sc) s
 | .asgT ks x,sc,s=>sU (T0 gt x sc) sc ks s
 | .expr x,sc,s=>sV (T0 gt x sc) s
 | .ret x,sc,s=>oD (T0 gt x sc) s
 | .ret0,_,s=>sW s
 | .ite t a b,sc,s=>sX (T0 gt t sc) (gA a sc) (gA b sc) s
 | .while t b,sc,s=>sY (T0 gt t sc) (gA b sc) s
 | .for k it b,sc,s=>sZ (T0 gt it sc) (gA b sc) sc k s
 | .forT ks it b,sc,s=>s6 (T0 gt it sc) (gA b sc) sc ks s
 | .raise x,sc,s=>s7 (T0 gt x sc) s
 | .try x c k h,sc,s=>s8 (T0 gt x sc) (T0 gt c sc) (gA h sc) sc k s
 | .cont,_,s=>s9 s
 | .pass,_,s=>ta s
 | .dead,_,_=>True
def gA:List XS->UG->List U5->Prop
 | [],_,ss=>ss=[]
 |x::xs,sc,ss=>oE (gA xs sc) (tc x sc) ss
end
abbrev TS(sc:UG)(e:U5)(x:XS):Prop:=tc gt x sc e
abbrev fP(sc:UG)(e:List U5)(x:List XS):Prop:=gA gt x sc e
end
section
section
variable{α β γ δ ε:Type}
noncomputable def bo(o:Option α)(k:α->Option δ):Option δ:=match o with
 |some a=>k a
 |none=>TW
theorem gC{o:Option α}{k:α->Option δ}{x:δ}(h:bo o k=TR x):∃a,o=TR a/\k a=TR x:=by
 induction o with
 |none=>exact nn h
 |some a=>exact⟨a,rfl,h⟩
noncomputable def gB(b:Bool)(o:Option δ):Option δ:=match b with
 |true=>o
 |false=>TW
theorem gD{b:Bool}{o:Option δ}{x:δ}(h:gB b o=TR x):b=TV/\o=TR x:=by
 induction b with
 |false=>exact nn h
 |true=>exact⟨rfl,h⟩
noncomputable def g1(b:Bool)(o:Option α)(k:α->δ):Option δ:=gB b (bo o λa=>TR (k a))
noncomputable def g2(b:Bool)(o:Option α)(u:Option β)(k:α->β->δ):Option δ:=gB b (bo o λa=>bo u λc=>TR (k a c))
noncomputable def g3(b:Bool)(o:Option α)(u:Option β)(v:Option γ)(k:α->β->γ->δ):Option δ:=gB b (bo o λa=>bo u λc=>bo v λd=>TR (k a c d))
theorem zB{b:Bool}{o:Option α}{k:α->δ}{x:δ}(h:g1 b o k=TR x):b=TV/\∃a,o=TR a/\x=k a:=by
 have KZ:=gD h;refine aj (gC KZ.2) λa KY=>?_
 exact⟨KZ.1,a,KY.1,(TU KY.2).symm⟩
theorem zC{b:Bool}{o:Option α}{u:Option β}{k:α->β->δ}{x:δ}(h:g2 b o u k=TR x):b=TV/\∃a c,o=TR a/\u=TR c/\x=k a c:=by
 have KZ:=gD h;refine aj (gC KZ.2) λa KY=>?_
 have h1:=KY.1;have h:=KY.2;refine aj (gC h) λc KY=>?_
 exact⟨KZ.1,a,c,h1,KY.1,(TU KY.2).symm⟩
theorem zD{b:Bool}{o:Option α}{u:Option β}{v:Option γ}{k:α->β->γ->δ}{x:δ}(h:g3 b o u v k=TR x):b=TV/\∃a c d,o=TR a/\u=TR c/\v=TR d/\x=k a c d:=by
 have KZ:=gD h;refine aj (gC KZ.2) λa KY=>?_
 have h1:=KY.1;have h:=KY.2;refine aj (gC h) λc KY=>?_
 have h2:=KY.1;have h:=KY.2;refine aj (gC h) λd KY=>?_
 exact⟨KZ.1,a,c,d,h1,h2,KY.1,(TU KY.2).symm⟩
theorem bQ{R:Prop}{o:Option α}{k:α->Option δ}{x:δ}(h:bo o k=TR x)(q:∀a,o=TR a->k a=TR x->R):R:=let⟨a,h1,h⟩:=gC h;q a h1 h
theorem oF{P:δ->Prop}{b:Bool}{y x:δ}(h:gB b (TR y)=TR x)(q:b=TV->P y):P x:=let⟨h1,h⟩:=gD h;TU h▸q h1
theorem cZ{P:δ->Prop}{b:Bool}{o:Option α}{k:α->δ}{x:δ}(h:g1 b o k=TR x)(q:∀a,b=TV->o=TR a->P (k a)):P x:=let⟨hb,a,h1,e⟩:=zB h;e▸q a hb h1
theorem fQ{P:δ->Prop}{b:Bool}{o:Option α}{u:Option β}{k:α->β->δ}{x:δ}(h:g2 b o u k=TR x)(q:∀a c,b=TV->o=TR a->u=TR c->P (k a c)):P x:=let⟨hb,a,c,h1,h2,e⟩:=zC h;e▸q a c hb h1 h2
theorem jU{P:δ->Prop}{b:Bool}{o:Option α}{u:Option β}{v:Option γ}{k:α->β->γ->δ}{x:δ}(h:g3 b o u v k=TR x)(q:∀a c d,b=TV->o=TR a->u=TR c->v=TR d->P (k a c d)):P x:=let⟨hb,a,c,d,h1,h2,h3,e⟩:=zD h;e▸q a c d hb h1 h2 h3
theorem ei{P:δ->Prop}{y x:δ}(h:TR y=TR x)(q:P y):P x:=TU h▸q
noncomputable def oM(o:Option α)(f:α->δ)(d:δ):δ:=match o with
 |some a=>f a
 |none=>d
theorem td{R:Prop}{o:Option α}{f:α->Option δ}{d:Option δ}{x:δ}(h:oM o f d=TR x)(q:∀a,o=TR a->f a=TR x->R)(q':o=TW->d=TR x->R):R:=by
 induction o with
 |none=>exact q' rfl h
 |some a=>exact q a rfl h
theorem te{R:Prop}{b:Bool}{u d:Option δ}{x:δ}(h:(bif b then u else d)=TR x)(q:b=TV->u=TR x->R)(q':b=TT->d=TR x->R):R:=by
 induction b with
 |true=>exact q rfl h
 |false=>exact q' rfl h
noncomputable def one:List α->Option α
 | [a]=>TR a
 |_=>TW
theorem oG{l:List α}(h:one l=TR a):l=[a]:=by
 induction l with
 |nil=>exact nn h
 |cons x r=>induction r<;>(first|exact nn h|obtain rfl:=TU h);rfl
theorem ly{P:List α->Prop}{l:List α}{a:α}(h:one l=TR a)(q:P [a]):P l:=oG h▸q
theorem iW{l:List α}(h:emp l=TV):l=[]:=by induction l<;>(first|exact bf h|cases h);rfl
theorem hX{P:List α->Prop}{l:List α}(h:emp l=TV)(q:P []):P l:=iW h▸q
noncomputable def jV:Option α->Bool
 |none=>TV
 |_=>TT
theorem lz{l:Option α}(h:jV l=TV):l=TW:=by induction l<;>(first|exact bf h|cases h);rfl
theorem bE(h:(a&&b)=TV):a=TV/\b=TV:=by induction a<;>induction b<;>(first|exact bf h|cases h);exact⟨rfl,rfl⟩
theorem bZ(h:(a&&b)=TV):a=TV:=(bE h).1
theorem bz(h:(a&&b)=TV):b=TV:=(bE h).2
theorem gE(h:(!a)=TV):a=TT:=by induction a<;>(first|exact bf h|cases h);rfl
end
section
variable{e:Up}
theorem tf(k:e.ctorIdx=20):∃o a p,e=.Attribute o a p:=WK (motive_1:=λe=>∃o a p,e=.Attribute o a p) e k λo a p=>⟨o,a,p,rfl⟩
theorem th(k:e.ctorIdx=26):∃a b c p,e=.Slice a b c p:=Xz (motive_1:=λe=>∃a b c p,e=.Slice a b c p) e k λa b c p=>⟨a,b,c,p,rfl⟩
theorem zE(k:e.ctorIdx=23):∃a p,e=.Name a p:=XM (motive_1:=λe=>∃a p,e=.Name a p) e k λa p=>⟨a,p,rfl⟩
theorem zF(k:e.ctorIdx=19):∃a b p,e=.Constant a b p:=Yt (motive_1:=λe=>∃a b p,e=.Constant a b p) e k λa b p=>⟨a,b,p,rfl⟩
theorem zG(k:e.ctorIdx=21):∃a b p,e=.Subscript a b p:=Wa (motive_1:=λe=>∃a b p,e=.Subscript a b p) e k λa b p=>⟨a,b,p,rfl⟩
theorem zH(k:e.ctorIdx=25):∃a b p,e=.Tuple a b p:=Wf (motive_1:=λe=>∃a b p,e=.Tuple a b p) e k λa b p=>⟨a,b,p,rfl⟩
end
noncomputable def lA(e:Up):Option (Up×U6×Pos):=gz (e.ctorIdx=20) λh=>WK (motive_1:=λ_=>Option (Up×U6×Pos)) e h λo a p=>TR (o,a,p)
theorem ti(h:lA e=TR (o,a,p)):e=.Attribute o a p:=by
 refine aj (iU h) λk h=>?_
 refine bO (tf k) λo' a' p' KY=>?_
 subst KY;cases TU h;rfl
theorem zI(h:lA e=TW):on e=TT:=decide_eq_false (sr h λk=>by obtain⟨o',a',p',rfl⟩:=tf k;exactλz=>ns z)
noncomputable def oH(e:Up):Option (Option Up×Option Up×Option Up×Pos):=gz (e.ctorIdx=26) λh=>Xz (motive_1:=λ_=>Option (Option Up×Option Up×Option Up×Pos)) e h λa b c p=>TR (a,b,c,p)
theorem zJ(h:oH e=TR (a,b,c,p)):e=.Slice a b c p:=by
 refine aj (iU h) λk h=>?_
 refine rP (th k) λa' b' c' p' KY=>?_
 subst KY;cases TU h;rfl
theorem zK(h:oH e=TW):jS e=TT:=decide_eq_false (sr h λk=>by obtain⟨a',b',c',p',rfl⟩:=th k;exactλz=>ns z)
noncomputable def jW(e:Up):Option (U6×Pos):=gz (e.ctorIdx=23) λh=>XM (motive_1:=λ_=>Option (U6×Pos)) e h λa p=>TR (a,p)
theorem lB(h:jW e=TR (a,p)):e=.Name a p:=by
 refine aj (iU h) λk h=>?_
 refine aX (zE k) λa' p' KY=>?_
 subst KY;cases TU h;rfl
noncomputable def oJ(e:Up):Option (Up×Up):=gz (e.ctorIdx=21) λh=>Wa (motive_1:=λ_=>Option (Up×Up)) e h λa b _=>TR (a,b)
theorem zL(h:oJ e=TR (a,b)):∃p,e=.Subscript a b p:=by
 refine aj (iU h) λk h=>?_
 refine bO (zG k) λa' b' p' KY=>?_
 subst KY;cases TU h;exact⟨p',rfl⟩
noncomputable def oK(e:Up):Option (List Up):=gz (e.ctorIdx=25) λh=>Wf (motive_1:=λ_=>Option (List Up)) e h λa _ _=>TR a
theorem tj(h:oK e=TR a):∃k p,e=.Tuple a k p:=by
 refine aj (iU h) λk h=>?_
 refine bO (zH k) λa' k' p' KY=>?_
 subst KY;obtain rfl:=TU h;exact⟨k',p',rfl⟩
noncomputable def oN(e:Up):Bool:=decide (e.ctorIdx=19)
theorem tl(h:oN e=TV):∃a b p,e=.Constant a b p:=zF (of_decide_eq_true h)
noncomputable def iX{α:Type}(o p:Option α):Option α:=match o with
 |some x=>TR x
 |none=>p
theorem zM{α:Type}{o p:Option α}{x:α}(h:iX o p=TR x):o=TR x\/p=TR x:=by
 induction o with
 |none=>exact .inr h
 |some y=>exact .inl h
noncomputable def gF(sc:UG)(id:U6):Bool:=match sc.names.lookup id with
 |some .local=>TV
 |_=>TT
theorem hY{sc:UG}{id:U6}(h:gF sc id=TV):sc.names.lookup id=TR .local:=by
 unfold gF at h;cases e:sc.names.lookup id with
 |none=>rw[e]at h;exact bf h
 |some k=>rw[e]at h;induction k<;>(first|exact bf h|cases h);rfl
noncomputable def oO(sc:UG)(id:U6):Bool:=match sc.names.lookup id with
 |some .globalImplicit=>TV
 |_=>TT
theorem zN{sc:UG}{id:U6}(h:oO sc id=TV):sc.names.lookup id=TR .globalImplicit:=by
 unfold oO at h;cases e:sc.names.lookup id with
 |none=>rw[e]at h;exact bf h
 |some k=>rw[e]at h;induction k<;>(first|exact bf h|cases h);rfl
noncomputable def tm(k:ScopeKind):Bool:=match k with
 | .function=>TV
 |_=>TT
theorem zO(h:tm k=TV):k=.function:=by induction k<;>(first|exact bf h|cases h);rfl
noncomputable def tn(sc:UG):Bool:=sc.names.all λy=>match y.2 with
 | .local=>TV
 | .globalImplicit=>TV
 |_=>TT
theorem zP{sc:UG}(h:tn sc=TV):∀y∈sc.names,y.2=.local\/y.2=.globalImplicit:=λy hy=>by have:=List.all_eq_true.mp h y hy;obtain⟨a,k⟩:=y;induction k<;>first|exact .inl rfl|exact .inr rfl|exact bf this
noncomputable def tq:Option X->Option X
 |some x=>TR x
 |none=>TR .dead
noncomputable def tu:Option XS->Option XS
 |some x=>TR x
 |none=>TR .dead
theorem zQ(h:tq o=TR x):o=TR x\/x=.dead:=by
 induction o with
 |some y=>exact .inl h
 |none=>exact .inr (TU h).symm
theorem zR(h:tu o=TR x):o=TR x\/x=.dead:=by
 induction o with
 |some y=>exact .inl h
 |none=>exact .inr (TU h).symm
section
variable(gt:List (Nat×V))
noncomputable def zS:Const->Option X
 | .none=>TR (.cst .none)
 | .bool b=>TR (.cst (.bool b))
 | .int i=>TR (.cst (.int i))
 | .str s=>TR (.cst (.str s.cps.toList))
 |_=>TW
noncomputable def zT(n:Nat)(rec:UG->Up->Option X)(LH:UG->List Up->Option (List X))(PA:UG->Option Up->Option (Option X))(Q2:UG->List Up->Option (Option X))(sc:UG)(e:Up):Option X:=Expr.casesOn (motive_1:=λ_=>Option X) e (λop es _=>(match op with
  | .And=>g1 TV (LH sc es) .band
  | .Or=>g1 TV (LH sc es) .bor))
 (λ_ _ _=>TW)
 (λl op r _=>g2 TV (rec sc l) (rec sc r) (.bin op))
 (λop e _=>(match op with
  | .Not=>g1 TV (rec sc e) .not
  | .USub=>g1 TV (rec sc e) .neg
  |_=>TW))
 (λ_ _ _ _=>TW)
 (λt b o _=>g3 TV (rec sc t) (rec sc b) (rec sc o) .ite)
 (λks vs _=>gB (emp ks&&emp vs) (TR .edict))
 (λ_ _ _=>TW)
 (λe gs K5 _=>bo (one gs) λg=>bo (jW g.target) λt=>g3 (decide (g.is_async=0)&&(gF K5 t.1&&(aG t.1&&(tm K5.kind&&(oq K5&&(!eX g.iter&&tn K5)))))) (rec K5 e) (rec sc g.iter) (Q2 K5 g.ifs) λx y z=>.comp x (nc t.1) y z)
 (λ_ _ _ _=>TW)
 (λ_ _ _ _ _=>TW)
 (λ_ _ _ _=>TW)
 (λ_ _=>TW)
 (λ_ _=>TW)
 (λ_ _=>TW)
 (λl ops rs _=>bo (one ops) λop=>bo (one rs) λr=>g2 (!eX r) (rec sc l) (rec sc r) (.cmp op))
 (λf as kw p=>oM (lA f) (λt=>g2 (emp kw&&(aG t.2.1&&(jQ t.1&&(WO as.length 30&&(t.2.2.endLine==p.line))))) (rec sc t.1) (LH sc as) λx xs=>.meth x (nc t.2.1) xs) (g2 (emp kw) (rec sc f) (LH sc as) .call))
 (λe c s _=>g1 (decide (c= -1)&&jV s) (rec sc e) .fmt)
 (λes _=>g1 TV (LH sc es) .fst)
 (λc _ _=>zS c)
 (λo a _=>g1 (aG a&&jQ o) (rec sc o) λx=>.attr x (nc a))
 (λo i _=>oM (oH i) (λt=>g3 (jV t.2.2.1) (rec sc o) (PA sc t.1) (PA sc t.2.1) .slc) (g2 TV (rec sc o) (rec sc i) .sub))
 (λ_ _=>TW)
 (λid _=>gB (aG id) (bif gF sc id then TR (.loc (nc id))else g1 (oO sc id) (aak gt (nc id)) .cst))
 (λes _=>g1 TV (LH sc es) .lst)
 (λes _ _=>g1 TV (LH sc es) .tup)
 (λ_ _ _ _=>TW)
mutual
noncomputable def comp:Nat->UG->Up->Option X
 |0,_,_=>TW
 |n+1,sc,e=>tq (zT gt n (comp n) (oP n) (tv n) (tw n) sc e)
noncomputable def oP:Nat->UG->List Up->Option (List X)
 |0,_,_=>TW
 |n+1,sc,es=>match es with
  | []=>TR []
  |e::r=>g2 (!jR e) (comp n sc e) (oP n sc r) .cons
noncomputable def tv:Nat->UG->Option Up->Option (Option X)
 |0,_,_=>TW
 |n+1,sc,e=>match e with
  |none=>TR TW
  |some e=>g1 TV (comp n sc e) TR
noncomputable def tw:Nat->UG->List Up->Option (Option X)
 |0,_,_=>TW
 |n+1,sc,e=>match e with
  | []=>TR TW
  |e::r=>g1 (emp r) (comp n sc e) TR
end
noncomputable def lC(sc:UG):List Up->Option (List Nat)
 | []=>TR []
 |e::r=>bo (jW e) λt=>g1 (gF sc t.1&&aG t.1) (lC sc r) λks=>nc t.1::ks
noncomputable def tx(sc:UG)(t v:Up)(x:X):Option XS:=iX (bo (jW t) λu=>gB (gF sc u.1&&(aG u.1&&(!eW v||oN v))) (TR (.asg (nc u.1) x))) (iX (bo (lA t) λu=>g1 (aG u.2.1&&(!eW v||oN v)) (comp gt 60 sc u.1) λxo=>.asgA xo (nc u.2.1) x) (iX (bo (oJ t) λu=>g2 (!eW v&& !jS u.2) (comp gt 60 sc u.1) (comp gt 60 sc u.2) λxo xi=>.asgI xo xi x) (bo (oK t) λu=>g1 (!eW v&&or v) (lC sc u) λks=>.asgT ks x)))
noncomputable def tz(sc:UG)(t:Up)(xi:X)(xb:List XS):Option XS:=iX (bo (jW t) λu=>gB (gF sc u.1&&aG u.1) (TR (.for (nc u.1) xi xb))) (bo (oK t) λu=>g1 TV (lC sc u) λks=>.forT ks xi xb)
theorem zU{s:U5}(k:s.ctorIdx=3):∃a p,s=.Return a p:=Xf (motive_2:=λs=>∃a p,s=.Return a p) s k λa p=>⟨a,p,rfl⟩
noncomputable def tB(s:U5):Option (Up×Pos):=gz (s.ctorIdx=3) λh=>Xf (motive_2:=λ_=>Option (Up×Pos)) s h λa p=>bo a λe=>TR (e,p)
theorem zV{s:U5}{e:Up}{p:Pos}(h:tB s=TR (e,p)):s=.Return (TR e) p:=by obtain⟨k,h⟩:=iU h;obtain⟨a',p',rfl⟩:=zU k;obtain⟨e',rfl,h⟩:=gC h;cases TU h;rfl
noncomputable def tC:ExceptHandler->Option (Up×U6×List U5×Pos)
 | .ExceptHandler (TR c) (TR id) h q=>TR (c,id,h,q)
 |_=>TW
theorem zW{id:U6}(e:tC s=TR (c,id,h,q)):s=.ExceptHandler (TR c) (TR id) h q:=by
 cases s with
 |ExceptHandler a b c d=>induction a<;>induction b<;>(first|exact nn e|cases e);rfl
noncomputable def zX(LH:UG->List U5->Option (List XS))(sc:UG)(s:U5):Option XS:=Stmt.casesOn (motive_2:=λ_=>Option XS) s (λ_ _ _ _ _ _ _ _ _ _=>TW) (λ_ _ _ _ _ _ _ _ _ _=>TW) (λ_ _ _ _ _ _ _ _ _ _ _=>TW) (λe _=>(match e with
  |some e=>g1 TV (comp gt 60 sc e) .ret
  |none=>TR .ret0))
 (λ_ _=>TW)
 (λts v _=>bo (one ts) λt=>bo (comp gt 60 sc v) λx=>tx gt sc t v x)
 (λ_ _ _ _ _ _ _=>TW)
 (λ_ _ _ _=>TW)
 (λ_ _ _ _ _=>TW)
 (λt it b r _=>gB (emp r&& !eX it) (bo (comp gt 60 sc it) λxi=>bo (LH sc b) λxb=>tz sc t xi xb))
 (λ_ _ _ _ _=>TW)
 (λt b r _=>g2 (emp r) (comp gt 60 sc t) (LH sc b) .while)
 (λt a b _=>g3 TV (comp gt 60 sc t) (LH sc a) (LH sc b) .ite)
 (λ_ _ _=>TW)
 (λ_ _ _=>TW)
 (λ_ _ _=>TW)
 (λe c _=>bo e λe=>g1 (jV c) (comp gt 60 sc e) .raise)
 (λb hs o f _=>bo (one b) λb=>bo (tB b) λb=>bo (one hs) λh=>bo (tC h) λt=>g3 (emp o&&(emp f&&(gF sc t.2.1&&aG t.2.1))) (comp gt 60 sc b.1) (comp gt 60 sc t.1) (LH sc t.2.2.1) λx y z=>.try x y (nc t.2.1) z)
 (λ_ _ _ _ _=>TW)
 (λ_ _ _=>TW)
 (λ_ _=>TW)
 (λ_ _ _ _=>TW)
 (λ_ _=>TW)
 (λ_ _=>TW)
 (λe _=>g1 (!eW e) (comp gt 60 sc e) .expr)
 (λ_=>TR .pass)
 (λ_=>TW)
 (λ_=>TR .cont)
mutual
noncomputable def oQ:Nat->UG->U5->Option XS
 |0,_,_=>TW
 |n+1,sc,s=>tu (zX gt (eB n) sc s)
noncomputable def eB:Nat->UG->List U5->Option (List XS)
 |0,_,_=>TW
 |n+1,sc,ss=>match ss with
  | []=>TR []
  |s::r=>g2 TV (oQ n sc s) (eB n sc r) .cons
end
end
variable{gt:List (Nat×V)}
structure tD(gt:List (Nat×V))(n:Nat):Prop where
 e:∀{sc e x},comp gt n sc e=TR x->T gt sc e x
 es:∀{sc e x},oP gt n sc e=TR x->Ts gt sc e x
 o:∀{sc e x},tv gt n sc e=TR x->To gt sc e x
 c:∀{sc e x},tw gt n sc e=TR x->Tc gt sc e x
theorem zY{n:Nat}(ih:tD gt n){sc:UG}{e:Up}{x:X}(h:comp gt (n+1) sc e=TR x):T gt sc e x:=by
 rcases zQ h with h|q
 case inr=>rw[q];trivial
 cases e with
 |Constant c k p=>
  induction c with
  |none=>exact ei (P:=T gt sc _) h .cNone
  |bool _=>exact ei (P:=T gt sc _) h .cBool
  |int _=>exact ei (P:=T gt sc _) h .cInt
  |str _=>exact ei (P:=T gt sc _) h .cStr
  |_=>exact nn h
 |Name id p=>obtain⟨hb,h⟩:=gD h;exact te h (λhl h=>ei (P:=T gt sc _) h (.loc (hY hl) hb)) λ_ h=>cZ (P:=T gt sc _) h λv hg hv=>.glo (zN hg) hb hv
 |Attribute o a p=>exact cZ (P:=T gt sc _) h λv hb hv=>.attr (bZ hb) (bz hb) (ih.e hv)
 |Call f as kw p=>
  refine td h (λt hf h=>?_) λhf h=>fQ (P:=T gt sc _) h λv w hb hv hw=>hX (P:=λkw=>T gt sc (.Call f as kw p) _) hb (.call (zI hf) (ih.e hv) (ih.es hw))
  refine fQ (P:=T gt sc _) h λv w hb hv hw=>?_
  refine hX (P:=λkw=>T gt sc (.Call f as kw p) _) (bZ hb) ?_;refine(ti hf).symm▸?_;exact .meth (bZ (bz hb)) (bZ (bz (bz hb))) (Us (bZ (bz (bz (bz hb))))) (bz (bz (bz (bz hb)))) (ih.e hv) (ih.es hw)
 |BinOp l op r p=>exact fQ (P:=T gt sc _) h λv w _ hv hw=>.bin (ih.e hv) (ih.e hw)
 |UnaryOp op e p=>
  induction op with
  |Not=>exact cZ (P:=T gt sc _) h λv _ hv=>.not (ih.e hv)
  |USub=>exact cZ (P:=T gt sc _) h λv _ hv=>.neg (ih.e hv)
  |_=>exact nn h
 |BoolOp op es p=>
  induction op with
  |And=>exact cZ (P:=T gt sc _) h λv _ hv=>.band (ih.es hv)
  |Or=>exact cZ (P:=T gt sc _) h λv _ hv=>.bor (ih.es hv)
 |Compare l ops rs p=>
  refine bQ h λop h1 h=>bQ h λr h2 h=>fQ (P:=T gt sc _) h λv w hb hv hw=>?_
  exact ly (P:=λl'=>T gt sc (.Compare l l' rs p) _) h1 (ly (P:=λl'=>T gt sc (.Compare l [op] l' p) _) h2 (.cmp (ih.e hv) (ih.e hw) (gE hb)))
 |IfExp t b o p=>exact jU (P:=T gt sc _) h λv w z _ hv hw hz=>.ite (ih.e hv) (ih.e hw) (ih.e hz)
 |Subscript o i p=>
  refine td h (λt hi h=>?_) λhi h=>fQ (P:=T gt sc _) h λv w _ hv hw=>.sub (zK hi) (ih.e hv) (ih.e hw)
  refine jU (P:=T gt sc _) h λv w z hb hv hw hz=>?_
  refine(zJ hi).symm▸?_;refine(lz hb).symm▸?_;exact .slc (ih.e hv) (ih.o hw) (ih.o hz)
 |List es p=>exact cZ (P:=T gt sc _) h λv _ hv=>.lst (ih.es hv)
 |Tuple es k p=>exact cZ (P:=T gt sc _) h λv _ hv=>.tup (ih.es hv)
 |Dict ks vs p=>exact oF (P:=T gt sc _) h λhb=>hX (P:=λks=>T gt sc (.Dict ks vs p) _) (bZ hb) (hX (P:=λvs=>T gt sc (.Dict [] vs p) _) (bz hb) .edict)
 |JoinedStr es p=>exact cZ (P:=T gt sc _) h λv _ hv=>.fst (ih.es hv)
 |FormattedValue e c s p=>
  refine cZ (P:=T gt sc _) h λv hb hv=>?_
  refine(of_decide_eq_true (bZ hb)).symm▸?_;refine(lz (bz hb)).symm▸?_;exact .fmt (ih.e hv)
 |ListComp e gs K5 p=>
  refine bQ h λg h1 h=>bQ h λt h2 h=>jU (P:=T gt sc _) h λv w z hb hv hw hz=>?_
  refine ly (P:=λgs=>T gt sc (.ListComp e gs K5 p) _) h1 ?_;obtain⟨tg,it,ifs,y⟩:=g;have b:=bz hb;have b4:=bz (bz b);have b5:=bz (bz b4);refine(show tg=.Name t.1 t.2 from lB h2).symm▸?_;refine(show y=0 from of_decide_eq_true (bZ hb)).symm▸?_;exact .comp (hY (bZ b)) (bZ (bz b)) (zO (bZ b4)) (bZ (bz b4)) (gE (bZ b5)) (zP (bz b5)) (ih.e hv) (ih.e hw) (ih.c hz)
 |_=>exact nn h
theorem oR:∀n,tD gt n
 |0=>⟨λh=>(by exact nn h),λh=>(by exact nn h),λh=>(by exact nn h),λh=>(by exact nn h)⟩
 |n+1=>by
  have ih:=oR n;refine⟨zY ih,λ{sc e x} h=>?_,λ{sc e x} h=>?_,λ{sc e x} h=>?_⟩
  ·induction e with
   |nil=>exact ei (P:=Ts gt sc []) h rfl
   |cons e r=>exact fQ (P:=Ts gt sc _) h λv w hb hv hw=>.cons (gE hb) (ih.e hv) (ih.es hw)
  ·induction e with
   |none=>exact ei (P:=To gt sc TW) h rfl
   |some e=>exact cZ (P:=To gt sc _) h λv _ hv=>.some (ih.e hv)
  ·induction e with
   |nil=>exact ei (P:=Tc gt sc []) h rfl
   |cons e r=>exact cZ (P:=Tc gt sc _) h λv hb hv=>hX (P:=λr=>Tc gt sc (e::r) _) hb (.some (ih.e hv))
theorem oU{sc:UG}:∀{es:List Up} {ks:List Nat},lC sc es=TR ks->Tn sc es ks
 | [],_,h=>ei (P:=Tn sc []) h .nil
 |e::r,ks,h=>bQ h λt h1 h=>cZ (P:=Tn sc _) h λks hb hk=>by refine(show e=.Name t.1 t.2 from lB h1).symm▸?_;exact .cons (hY (bZ hb)) (bz hb) (oU hk)
theorem tE(h:(!a||b)=TV):a=TT\/b=TV:=by induction a<;>induction b<;>first|exact .inl rfl|exact .inr rfl|exact bf h
theorem lD{R:Prop}{α:Type}{o p:Option α}{x:α}(h:iX o p=TR x)(q:o=TR x->R)(q':p=TR x->R):R:=(zM h).elim q q'
theorem zZ{sc:UG}{t v:Up}{x:X}{y:XS}{p:Pos}(hx:T gt sc v x)(h:tx gt sc t v x=TR y):TS gt sc (.Assign [t] v p) y:=by
 have C:=oR (gt:=gt) 60;refine lD h (λh=>bQ h λu h1 h=>oF (P:=TS gt sc _) h λhb=>?_) λh=>lD h (λh=>bQ h λu h1 h=>cZ (P:=TS gt sc _) h λxo hb ho=>?_) λh=>
  lD h (λh=>bQ h λu h1 h=>fQ (P:=TS gt sc _) h λxo xi hb ho hi=>?_) λh=>bQ h λu h1 h=>cZ (P:=TS gt sc _) h λks hb hk=>?_
 ·refine(show t=.Name u.1 u.2 from lB h1).symm▸?_;refine(tE (bz (bz hb))).elim (λq=>.asg (hY (bZ hb)) (bZ (bz hb)) q hx) λq=>?_
  refine bO (tl q) λc a b KY=>?_
  subst KY;exact .asgC (hY (bZ hb)) (bZ (bz hb)) hx
 ·refine(show t=.Attribute u.1 u.2.1 u.2.2 from ti h1).symm▸?_;refine(tE (bz hb)).elim (λq=>.asgA (bZ hb) q (C.e ho) hx) λq=>?_
  refine bO (tl q) λc a b KY=>?_
  subst KY;exact .asgAC (bZ hb) (C.e ho) hx
 ·refine aj (zL (show oJ t=TR (u.1,u.2) from h1)) λq e=>?_
  refine(e).symm▸?_;exact .asgI (gE (bZ hb)) (gE (bz hb)) (C.e ho) (C.e hi) hx
 ·refine aX (tj h1) λk q e=>?_
  refine(e).symm▸?_;exact .asgT (gE (bZ hb)) (bz hb) (oU hk) hx
theorem Aa{sc:UG}{t it:Up}{xi:X}{b:List U5}{xb:List XS}{y:XS}{p:Pos}(hs:eX it=TT)(hi:T gt sc it xi)(hb:fP gt sc b xb)(h:tz sc t xi xb=TR y):TS gt sc (.For t it b [] p) y:=by
 refine lD h (λh=>bQ h λu h1 h=>oF (P:=TS gt sc _) h λhc=>?_) λh=>bQ h λu h1 h=>cZ (P:=TS gt sc _) h λks _ hk=>?_
 ·refine(show t=.Name u.1 u.2 from lB h1).symm▸?_;exact .for (hY (bZ hc)) (bz hc) hs hi hb
 ·refine aX (tj h1) λk q e=>?_
  refine(e).symm▸?_;exact .forT (oU hk) hs hi hb
structure tF(gt:List (Nat×V))(n:Nat):Prop where
 s:∀{sc e x},oQ gt n sc e=TR x->TS gt sc e x
 ss:∀{sc e x},eB gt n sc e=TR x->fP gt sc e x
theorem Ab{n:Nat}(ih:tF gt n){sc:UG}{s:U5}{x:XS}(h:oQ gt (n+1) sc s=TR x):TS gt sc s x:=by
 have C:=oR (gt:=gt) 60;rcases zR h with h|q
 case inr=>rw[q];trivial
 cases s with
 |Assign ts v p=>
  refine bQ h λt h1 h=>bQ h λy h2 g=>?_
  exact ly (P:=λts=>TS gt sc (.Assign ts v p) x) h1 (zZ (C.e h2) g)
 |Expr e p=>exact cZ (P:=TS gt sc _) h λv hb hv=>.expr (gE hb) (C.e hv)
 |Return e p=>
  induction e with
  |none=>exact ei (P:=TS gt sc _) h .ret0
  |some e=>exact cZ (P:=TS gt sc _) h λv _ hv=>.ret (C.e hv)
 |If t a b p=>exact jU (P:=TS gt sc _) h λv w z _ hv hw hz=>.ite (C.e hv) (ih.ss hw) (ih.ss hz)
 |While t b r p=>exact fQ (P:=TS gt sc _) h λv w hb hv hw=>hX (P:=λr=>TS gt sc (.While t b r p) _) hb (.while (C.e hv) (ih.ss hw))
 |For t it b r p=>obtain⟨hb,h⟩:=gD h;exact bQ h λxi h3 g=>bQ g λxb h4 g=>hX (P:=λr=>TS gt sc (.For t it b r p) x) (bZ hb) (Aa (gE (bz hb)) (C.e h3) (ih.ss h4) g)
 |Raise e c p=>
  refine bQ h λe' h1 h=>cZ (P:=TS gt sc _) h λv hb hv=>?_
  refine(h1).symm▸?_;refine(lz hb).symm▸?_;exact .raise (C.e hv)
 |Try b hs o f p=>
  refine bQ h λb' h1 h=>bQ h λu h2 h=>bQ h λeh h3 h=>bQ h λt h4 h=>jU (P:=TS gt sc _) h λv w z hb hv hw hz=>?_
  refine(oG h1).symm▸?_;refine(show b'=.Return (TR u.1) u.2 from zV h2).symm▸?_;refine(oG h3).symm▸?_;refine(show eh=.ExceptHandler (TR t.1) (TR t.2.1) t.2.2.1 t.2.2.2 from zW h4).symm▸?_;refine(iW (bZ hb)).symm▸?_;refine(iW (bZ (bz hb))).symm▸?_;exact .try (hY (bZ (bz (bz hb)))) (bz (bz (bz hb))) (C.e hv) (C.e hw) (ih.ss hz)
 |Continue p=>exact ei (P:=TS gt sc _) h .cont
 |Pass p=>exact ei (P:=TS gt sc _) h .pass
 |_=>exact nn h
theorem lE:∀n,tF gt n
 |0=>⟨λh=>(by exact nn h),λh=>(by exact nn h)⟩
 |n+1=>by
  have ih:=lE n;refine⟨Ab ih,λ{sc e x} h=>?_⟩;induction e with
  |nil=>exact ei (P:=fP gt sc []) h rfl
  |cons e r=>exact fQ (P:=fP gt sc _) h λv w _ hv hw=>.cons (ih.s hv) (ih.ss hw)
end
noncomputable def dE:Up:=.Tuple [] 0 p0
noncomputable def oV:List Up->Nat->Up
 | [],_=>dE
 |e::_,0=>e
 |_::es,i+1=>oV es i
noncomputable def eY:List U5->Nat->U5
 | [],_=>.Pass p0
 |e::_,0=>e
 |_::es,i+1=>eY es i
noncomputable def gG(s:U5):Up:=bK (s.ctorIdx=3) (λh=>Xf (motive_2:=λ_=>Up) s h λa _=>a.getD dE) (bK (s.ctorIdx=5) (λh=>YB (motive_2:=λ_=>Up) s h λ_ e _=>e) (bK (s.ctorIdx=24) (λh=>Stmt.Expr.elim (motive_2:=λ_=>Up) s h λe _=>e) dE))
noncomputable def gH(s:U5):Up:=bK (s.ctorIdx=5) (λh=>YB (motive_2:=λ_=>Up) s h λts _ _=>oV ts 0) dE
noncomputable def dy(e:Up):Up:=bK (e.ctorIdx=16) (λh=>XN (motive_1:=λ_=>Up) e h λf _ _ _=>f) (bK (e.ctorIdx=20) (λh=>WK (motive_1:=λ_=>Up) e h λf _ _=>f) (bK (e.ctorIdx=21) (λh=>Wa (motive_1:=λ_=>Up) e h λf _ _=>f) (bK (e.ctorIdx=15) (λh=>Yz (motive_1:=λ_=>Up) e h λf _ _ _=>f) (bK (e.ctorIdx=8) (λh=>WW (motive_1:=λ_=>Up) e h λf _ _ _=>f) dE))))
noncomputable def Ad:List Comprehension->List Up
 |g::_=>g.target::g.iter::g.ifs
 |_=>[]
noncomputable def Ae(e:Up):List Up:=bK (e.ctorIdx=16) (λh=>XN (motive_1:=λ_=>List Up) e h λ_ as _ _=>as) (bK (e.ctorIdx=21) (λh=>Wa (motive_1:=λ_=>List Up) e h λ_ i _=>[i]) (bK (e.ctorIdx=15) (λh=>Yz (motive_1:=λ_=>List Up) e h λ_ _ rs _=>rs) (bK (e.ctorIdx=24) (λh=>Expr.List.elim (motive_1:=λ_=>List Up) e h λes _=>es) (bK (e.ctorIdx=25) (λh=>Wf (motive_1:=λ_=>List Up) e h λes _ _=>es) (bK (e.ctorIdx=26) (λh=>Xz (motive_1:=λ_=>List Up) e h λ_ b _ _=>b.toList) (bK (e.ctorIdx=8) (λh=>WW (motive_1:=λ_=>List Up) e h λ_ g _ _=>Ad g) []))))))
noncomputable abbrev kd(e:Up)(i:Nat):Up:=oV (Ae e) i
noncomputable def tG(e:Up):Nat:=bK (e.ctorIdx=25) (λh=>Wf (motive_1:=λ_=>Nat) e h λ_ k _=>k) (bK (e.ctorIdx=19) (λh=>Yt (motive_1:=λ_=>Nat) e h λ_ k _=>k) 0)
noncomputable def tH(e:Up):UG:=bK (e.ctorIdx=8) (λh=>WW (motive_1:=λ_=>UG) e h λ_ _ sc _=>sc) pw.main.scope
noncomputable def Af(s:U5):List U5:=bK (s.ctorIdx=17) (λh=>Zj (motive_2:=λ_=>List U5) s h λb _ _ _ _=>b) []
noncomputable def Ag:List ExceptHandler->ExceptHandler
 |h::_=>h
 |_=>.ExceptHandler TW TW [] p0
noncomputable def Ah(s:U5):ExceptHandler:=bK (s.ctorIdx=17) (λh=>Zj (motive_2:=λ_=>ExceptHandler) s h λ_ hs _ _ _=>Ag hs) (.ExceptHandler TW TW [] p0)
noncomputable def Ai:ExceptHandler->Up
 | .ExceptHandler (TR e) _ _ _=>e
 |_=>dE
noncomputable def Aj:ExceptHandler->List U5
 | .ExceptHandler _ _ b _=>b
noncomputable def G0:List (String×V):=[("Special",.ref 38),("EMPTY",.ido 44 38 [(104,.str [101,109,112,116,121])]),("UNSPECIFIED",.ido 47 38 [(104,.str [117,110,115,112,101,99,105,102,105,101,100])]),("UNASSIGNED",.ido 50 38 [(104,.str [117,110,97,115,115,105,103,110,101,100])]),("EOF",.ido 53 38 [(104,.str [101,111,102])]),("Symbol",.ref 71),("SymbolTable",.ref 134),("Pair",.ref 155),("Char",.ref 176),("Text",.ref 197),("Vector",.ref 218),("Box",.ref 239),("Promise",.ref 260),("PortRef",.ref 281),("Procedure",.ref 302),("Primitive",.ref 323),("make_text",.ref 330),("python_text",.ref 335),("list_of",.ref 343),("is_boolean",.ref 350),("SchemeError",.ref 367),("LexError",.ref 387),("ReadError",.ref 406),("TooLong",.ref 425),("OutOfRange",.ref 444),("Real",.ref 463),("is_real",.ref 474),("rounded",.ref 530),("exact_parts",.ref 537),("Ratio",.ref 582),("gcd_of",.ref 593),("made",.ref 600),("ratio_of",.ref 607),("FIGURES_numtext",.str [48,49,50,51,52,53,54,55,56,57,97,98,99,100,101,102]),("MARKS",.str [101,115,102,100,108]),("figures_of",.ref 615),("whole_text",.ref 622),("exact_text",.ref 629),("decimal_text",.ref 727),("number_text",.ref 735),("worth_of",.ref 742),("are_figures",.ref 747),("parted",.ref 754),("Reading",.ref 771),("read_whole",.ref 782),("read_ratio",.ref 789),("mark_place",.ref 808),("read_decimal",.ref 822),("read_unsigned",.ref 829),("split_prefixes",.ref 836),("finished",.ref 843),("parse_number",.ref 851),("BLANKS",.str [32,10,9,13,12]),("DELIMITERS",.str [32,10,9,13,12,40,41,34,59]),("RESERVED",.str [91,93,123,125,124]),("SMALL",.str [97,98,99,100,101,102,103,104,105,106,107,108,109,110,111,112,113,114,115,116,117,118,119,120,121,122]),("CAPITALS",.str [65,66,67,68,69,70,71,72,73,74,75,76,77,78,79,80,81,82,83,84,85,86,87,88,89,90]),("FIGURES_lexer",.str [48,49,50,51,52,53,54,55,56,57]),("FIRST_SIGNS",.str [33,36,37,38,42,47,58,60,61,62,63,94,95,126]),("LATER_SIGNS",.str [43,45,46,64]),("PECULIAR",.tup [.str [43],.str [45],.str [46,46,46]]),("PREFIXES",.str [98,111,100,120,101,105]),("SIGN_NAMES",.tup [.tup [.str [115,112,97,99,101],.str [32]],.tup [.str [110,101,119,108,105,110,101],.str [10]]]),("QUOTATIONS",.tup [.tup [.str [39],.str [113,117,111,116,101]],.tup [.str [96],.str [113,117,97,115,105,113,117,111,116,101]],.tup [.str [44],.str [117,110,113,117,111,116,101]],.tup [.str [44,64],.str [117,110,113,117,111,116,101,45,115,112,108,105,99,105,110,103]]]),("Token",.ref 877),("folded",.ref 888),("is_first",.ref 895),("is_later",.ref 902),("is_identifier",.ref 909),("is_numberlike",.ref 916),("sign_named",.ref 923),("name_of_sign",.ref 930),("Lexer",.ref 1018),("NOT_DOTTED",.int 0),("BEHIND_DOT",.int 1),("HAS_TAIL",.int 2),("Frame",.ref 1039),("Reader",.ref 1124),("read_one",.ref 1136),("quotation_sign",.ref 1143),("PIECE",.int 0),("DATUM",.int 1),("TAIL",.int 2),("is_readable_symbol",.ref 1150),("written_sign",.ref 1157),("written_string",.ref 1164),("other_text",.ref 1171),("Printer",.ref 1230),("write_text",.ref 1242),("display_text",.ref 1250),("is_readable",.ref 1257),("_law_quotes",.lst [.tup [.str [113,117,111,116,101],.str [39]],.tup [.str [113,117,97,115,105,113,117,111,116,101],.str [96]],.tup [.str [117,110,113,117,111,116,101],.str [44]],.tup [.str [117,110,113,117,111,116,101,45,115,112,108,105,99,105,110,103],.str [44,64]]]),("_law_draw",.ref 1269),("_law_pick",.ref 1276),("_law_deck",.ref 1281),("_law_figures",.ref 1288),("_law_strange",.ref 1295),("_law_symbol",.ref 1302),("_law_atom",.ref 1309),("_law_next",.ref 1316),("_law_told",.ref 1323),("law",.ref 1330)]
noncomputable def B0:List (String×V):=[("isinstance",.bi "isinstance"),("len",.bi "len"),("range",.ty "range"),("abs",.bi "abs"),("min",.bi "min"),("max",.bi "max"),("divmod",.bi "divmod"),("reversed",.ty "reversed"),("all",.bi "all"),("enumerate",.ty "enumerate"),("ord",.bi "ord"),("chr",.bi "chr"),("bool",.ty "bool")]
noncomputable def gt:List (Nat×V):=[(190,.ref 38),(95,.ido 44 38 [(104,.str [101,109,112,116,121])]),(269,.ido 47 38 [(104,.str [117,110,115,112,101,99,105,102,105,101,100])]),(245,.ido 50 38 [(104,.str [117,110,97,115,115,105,103,110,101,100])]),(11,.ido 53 38 [(104,.str [101,111,102])]),(156,.ref 71),(273,.ref 134),(75,.ref 155),(74,.ref 176),(87,.ref 197),(167,.ref 218),(37,.ref 239),(180,.ref 260),(181,.ref 281),(227,.ref 302),(230,.ref 323),(242,.ref 330),(280,.ref 335),(184,.ref 343),(259,.ref 350),(276,.ref 367),(216,.ref 387),(238,.ref 406),(188,.ref 425),(254,.ref 444),(62,.ref 463),(189,.ref 474),(175,.ref 530),(279,.ref 537),(118,.ref 582),(153,.ref 593),(45,.ref 600),(213,.ref 607),(309,.str [48,49,50,51,52,53,54,55,56,57,97,98,99,100,101,102]),(94,.str [101,115,102,100,108]),(257,.ref 615),(265,.ref 622),(268,.ref 629),(291,.ref 727),(281,.ref 735),(212,.ref 742),(277,.ref 747),(145,.ref 754),(185,.ref 771),(255,.ref 782),(263,.ref 789),(252,.ref 808),(285,.ref 822),(295,.ref 829),(306,.ref 836),(205,.ref 843),(288,.ref 851),(141,.str [32,10,9,13,12]),(249,.str [32,10,9,13,12,40,41,34,59]),(197,.str [91,93,123,125,124]),(92,.str [97,98,99,100,101,102,103,104,105,106,107,108,109,110,111,112,113,114,115,116,117,118,119,120,121,122]),(201,.str [65,66,67,68,69,70,71,72,73,74,75,76,77,78,79,80,81,82,83,84,85,86,87,88,89,90]),(300,.str [48,49,50,51,52,53,54,55,56,57]),(271,.str [33,36,37,38,42,47,58,60,61,62,63,94,95,126]),(270,.str [43,45,46,64]),(199,.tup [.str [43],.str [45],.str [46,46,46]]),(200,.str [98,111,100,120,101,105]),(247,.tup [.tup [.str [115,112,97,99,101],.str [32]],.tup [.str [110,101,119,108,105,110,101],.str [10]]]),(248,.tup [.tup [.str [39],.str [113,117,111,116,101]],.tup [.str [96],.str [113,117,97,115,105,113,117,111,116,101]],.tup [.str [44],.str [117,110,113,117,111,116,101]],.tup [.str [44,64],.str [117,110,113,117,111,116,101,45,115,112,108,105,99,105,110,103]]]),(115,.ref 877),(142,.ref 888),(221,.ref 895),(214,.ref 902),(299,.ref 909),(297,.ref 916),(251,.ref 923),(286,.ref 930),(123,.ref 1018),(246,.int 0),(250,.int 1),(198,.int 2),(105,.ref 1039),(164,.ref 1124),(209,.ref 1136),(305,.ref 1143),(90,.int 0),(93,.int 1),(39,.int 2),(315,.ref 1150),(287,.ref 1157),(304,.ref 1164),(267,.ref 1171),(192,.ref 1230),(266,.ref 1242),(292,.ref 1250),(274,.ref 1257),(278,.lst [.tup [.str [113,117,111,116,101],.str [39]],.tup [.str [113,117,97,115,105,113,117,111,116,101],.str [96]],.tup [.str [117,110,113,117,111,116,101],.str [44]],.tup [.str [117,110,113,117,111,116,101,45,115,112,108,105,99,105,110,103],.str [44,64]]]),(243,.ref 1269),(232,.ref 1276),(231,.ref 1281),(289,.ref 1288),(284,.ref 1295),(275,.ref 1302),(233,.ref 1309),(241,.ref 1316),(225,.ref 1323),(34,.ref 1330),(253,.bi "isinstance"),(19,.bi "len"),(100,.ty "range"),(29,.bi "abs"),(20,.bi "min"),(36,.bi "max"),(151,.bi "divmod"),(206,.ty "reversed"),(18,.bi "all"),(229,.ty "enumerate"),(14,.bi "ord"),(27,.bi "chr"),(66,.ty "bool")]
noncomputable def jX(v:TZ)(f:TX->Bool):Bool:=bK (v.ctorIdx=10) (λh=>XE (motive:=λ_=>Bool) v h f) TT
noncomputable def tJ(v:TZ)(f:Int->Bool):Bool:=bK (v.ctorIdx=4) (λh=>XF (motive:=λ_=>Bool) v h λi _=>f i) TT
noncomputable def lF(v:TZ)(f:U6->Bool):Bool:=bK (v.ctorIdx=6) (λh=>XD (motive:=λ_=>Bool) v h λi _=>f i) TT
noncomputable def oW(d:Data)(f:Array TZ->Bool):Bool:=bK (d.ctorIdx=2) (λh=>Yk (motive:=λ_=>Bool) d h λi _=>f i) TT
noncomputable def tK(d:Data)(f:Array Un->Bool):Bool:=bK (d.ctorIdx=3) (λh=>XO (motive:=λ_=>Bool) d h λi _=>f i) TT
noncomputable def iY{α:Type}(o:Option α)(f:α->Bool):Bool:=match o with
 |some a=>f a
 |none=>TT
section
theorem jY{c:Prop}[Decidable c]{f:c->Bool}(h:bK c f TT=TV):∃k,f k=TV:=by
 by_cases k:c
 ·exact⟨k,(dif_pos k).symm.trans h⟩
 ·exact bf ((dif_neg k).symm.trans h)
theorem lG{R:TZ->Prop}{v:TZ}{f:TX->Bool}(h:jX v f=TV)(q:∀a,f a=TV->R (.ref a)):R v:=by
 refine aj (jY h) λk h=>?_
 exact XE (motive:=λv=>(∀k,XE (motive:=λ_=>Bool) v k f=TV->R v)) v k (λa _ e=>q a e) k h
theorem Ak{R:TZ->Prop}{v:TZ}{f:Int->Bool}(h:tJ v f=TV)(q:∀a t,f a=TV->R (.int a t)):R v:=by
 refine aj (jY h) λk h=>?_
 exact XF (motive:=λv=>(∀k,XF (motive:=λ_=>Bool) v k (λi _=>f i)=TV->R v)) v k (λa t _ e=>q a t e) k h
theorem tL{R:TZ->Prop}{v:TZ}{f:U6->Bool}(h:lF v f=TV)(q:∀a t,f a=TV->R (.str a t)):R v:=by
 refine aj (jY h) λk h=>?_
 exact XD (motive:=λv=>(∀k,XD (motive:=λ_=>Bool) v k (λi _=>f i)=TV->R v)) v k (λa t _ e=>q a t e) k h
theorem tM{R:Prop}{v:Data}{f:Array TZ->Bool}(h:oW v f=TV)(q:∀a n,v=.seq a n->f a=TV->R):R:=by
 refine aj (jY h) λk h=>?_
 exact Yk (motive:=λv=>(∀k,Yk (motive:=λ_=>Bool) v k (λi _=>f i)=TV->(∀a n,v=.seq a n->f a=TV->R)->R)) v k (λa t _ e q=>q a t rfl e) k h q
theorem Al{R:Prop}{v:Data}{f:Array Un->Bool}(h:tK v f=TV)(q:∀a n,v=.dict a n->f a=TV->R):R:=by
 refine aj (jY h) λk h=>?_
 exact XO (motive:=λv=>(∀k,XO (motive:=λ_=>Bool) v k (λi _=>f i)=TV->(∀a n,v=.dict a n->f a=TV->R)->R)) v k (λa t _ e q=>q a t rfl e) k h q
theorem jZ{R:Prop}{α:Type}{o:Option α}{f:α->Bool}(h:iY o f=TV)(q:∀a,o=TR a->f a=TV->R):R:=by
 cases o with
 |none=>exact bf h
 |some a=>exact q a rfl h
theorem Am{v:TZ}{f:U6->Bool}(h:lF v f=TV):∃a t,v=.str a t/\f a=TV:=tL (R:=λv=>∃a t,v=.str a t/\f a=TV) h λa t e=>⟨a,t,rfl,e⟩
theorem An{d:Data}(h:UN d.ctorIdx 0=TV):d=.plain:=Data.plain.elim (motive:=λd=>d=.plain) d (Ut h) rfl
end
mutual
noncomputable def lH(K:Frag):V->TZ->Bool
 | .ref b,v=>jX v λa=>UN a b
 | .int j,v=>tJ v λi=>decide (i=j)
 | .str l,v=>lF v λs=>decide (s.cps.toList=l)
 | .tup xs,v=>jX v λa=>iY (K.lookup a) λo=>decide (o.cls=.type "tuple")&&oW o.data λvs=>lI K xs vs.toList
 | .lst xs,v=>jX v λa=>iY (K.lookup a) λo=>decide (o.cls=.type "list")&&(jV o.dict&&(emp o.slots.toList&&oW o.data λvs=>lI K xs vs.toList))
 | .ido b c fs,v=>jX v λa=>UN a b&&iY (K.lookup a) λo=>decide (o.cls=.ref c)&&(UN o.data.ctorIdx 0&&iY o.dict λd=>iY (K.lookup d) λod=>tK od.data λes=>oX K fs es.toList)
 |_,_=>TT
noncomputable def lI(K:Frag):List V->List TZ->Bool
 | [],vs=>emp vs
 |x::xs,vs=>(match vs with
  |v::vs=>lH K x v&&lI K xs vs
  | []=>TT)
noncomputable def oX(K:Frag):List (Nat×V)->List Un->Bool
 | [],es=>emp es
 |(k,x)::fs,es=>(match es with
  |e::es=>(lF e.key λs=>aG s&&UN (nc s) k)&&(lH K x e.val&&oX K fs es)
  | []=>TT)
end
theorem Ao(e1:o.cls=.type "list")(e2:o.dict=TW)(e3:o.slots.toList=[])(hd:o.data=.seq vs n):o=bk vs n:=by obtain⟨oc,od,Oz,⟨os⟩⟩:=o;refine(show oc=_ from e1).symm▸?_;refine(show od=_ from e2).symm▸?_;refine(show os=_ from e3).symm▸?_;refine(show Oz=_ from hd).symm▸?_;with_reducible rfl
mutual
theorem lJ{K:Frag}{h:Ux}(X:K.In h):∀{x:V} {v:TZ},lH K x v=TV->VR h.get? v x
 | .ref b,_,e=>lG (R:=λv=>VR h.get? v (.ref b)) e λa e=>by rw[Ut e];exact .ref _
 | .int i,_,e=>Ak (R:=λv=>VR h.get? v (.int i)) e λa t e=>by rw[of_decide_eq_true e];exact .int _ _
 | .str l,_,e=>tL (R:=λv=>VR h.get? v (.str l)) e λa t e=>by rw[<-of_decide_eq_true e];exact .str _ _
 | .tup xs,_,e=>lG (R:=λv=>VR h.get? v (.tup xs)) e λa e=>jZ e λo ho e=>tM (bE e).2 λvs n hd e'=>.tup (X _ _ ho) (of_decide_eq_true (bE e).1) hd (oY X e')
 |.lst xs,_,e=>lG (R:=λv=>VR h.get? v (.lst xs)) e λa e=>jZ e λo ho e=>tM (bE (bE (bE e).2).2).2 λvs n hd e'=>
  .lst (Ao (of_decide_eq_true (bE e).1) (lz (bE (bE e).2).1) (iW (bE (bE (bE e).2).2).1) hd▸X _ _ ho) (oY X e')
 |.ido b c fs,_,e=>lG (R:=λv=>VR h.get? v (.ido b c fs)) e λa e=>jZ (bE e).2 λo ho e2=>jZ (bE (bE e2).2).2 λd hd e3=>jZ e3 λod Q3 e4=>Al e4 λes n La e5=>by refine(Ut (bE e).1)▸?_;exact .ido (X _ _ ho) (of_decide_eq_true (bE e2).1) (An (bE (bE e2).2).1) hd (X _ _ Q3) La (tN X e5)
 | .none,_,e=>bf e
 | .bool _,_,e=>bf e
 | .obj _ _,_,e=>bf e
 | .bi _,_,e=>bf e
 | .ty _,_,e=>bf e
 | .arg _,_,e=>bf e
theorem oY{K:Frag}{h:Ux}(X:K.In h):∀{x:List V} {v:List TZ},lI K x v=TV->aq h.get? v x
 | [],_,e=>by rw[iW e];exact .nil
 |_::_,[],e=>bf e
 |_::_,_::_,e=>.cons (lJ X (bE e).1) (oY X (bE e).2)
theorem tN{K:Frag}{h:Ux}(X:K.In h):∀{x:List (Nat×V)} {v:List Un},oX K x v=TV->aQ h.get? v x
 | [],_,e=>by rw[iW e];exact .nil
 |_::_,[],e=>bf e
 |(k,x)::fs,d::es,e=>by
  refine aX (Am (bE e).1) λs t z=>?_
  refine(Ut (bE z.2).2)▸?_;exact .cons z.1 (bE z.2).1 (lJ X (bE (bE e).2).1) (tN X (bE (bE e).2).2)
end
noncomputable def tP(f:TZ->Bool):Option (Option TZ)->Bool
 |some (TR v)=>f v
 |_=>TT
theorem Ap(h:tP f o=TV):∃v,o=TR (TR v)/\f v=TV:=by
 cases o with
 |none=>exact bf h
 |some o=>
  cases o with
  |none=>exact bf h
  |some v=>exact⟨v,rfl,h⟩
noncomputable def Aq(P:Ur)(p:String×V):Bool:=aG (so p.1)&&tP (lH (KW P) p.2) (nsIn (KW P) U9 (so p.1))
noncomputable def tQ(v:V):TZ:=V.casesOn (motive_1:=λ_=>TZ) v .none (λ_=>.none) (λ_=>.none) (λ_=>.none) (λ_=>.none) (λ_=>.none) (λ_ _=>.none) (λ_ _ _=>.none) (λ_=>.none) (λn=>.builtin n) (λn=>.type n) (λ_=>.none)
noncomputable def tR(v:V):Bool:=V.casesOn (motive_1:=λ_=>Bool) v TT (λ_=>TT) (λ_=>TT) (λ_=>TT) (λ_=>TT) (λ_=>TT) (λ_ _=>TT) (λ_ _ _=>TT) (λ_=>TT) (λ_=>TV) (λ_=>TV) (λ_=>TT)
theorem As(h:tR x=TV):VR B (tQ x) x:=by
 cases x with
 |bi a=>exact .bi _
 |ty a=>exact .ty _
 |_=>exact bf h
noncomputable def Au(P:Ur)(p:String×V):Bool:=aG (so p.1)&&(tR p.2&&(decide (nsIn (KW P) U9 (so p.1)=TR TW)&&(decide (bootBuiltins (so p.1)=TR (tQ p.2))&&decide (so p.1≠"__name__"))))
theorem Av(P:Ur):G0.all (Aq P)=TV:=by kernel_rfl
theorem Aw(P:Ur):B0.all (Au P)=TV:=by kernel_rfl
theorem Ax:gt=(G0++B0).map λp=>(nc (so p.1),p.2):=by kernel_rfl
theorem tS:∀{l:List (String×V)} {k:Nat} {v:V},aak (l.map λp=>(nc (so p.1),p.2)) k=TR v->∃p∈l,nc (so p.1)=k/\p.2=v
 |p::r,k,v,h=>by
  have h:(if nc (so p.1)=k then TR p.2 else aak (r.map λp=>(nc (so p.1),p.2)) k)=TR v:=h;by_cases q:nc (so p.1)=k
  ·rw[if_pos q]at h;exact⟨p,.head _,q,TU h⟩
  ·rw[if_neg q]at h;obtain⟨p',hp,a⟩:=tS h;exact⟨p',.tail _ hp,a⟩
theorem hZ(G:Gr w base){id:U6}{v:V}(ok:aG id=TV)(h:aak gt (nc id)=TR v)(eg:env.globals=U9)(eb:env.builtins=WC)(k:∀a o,base.get? a=TR o->s.heap.get? a=TR o)(q:∀val,VR base.get? val v->Q val s):Uh mo A (loadGlobal env id) Q E s:=by
 rw[Ax]at h;obtain⟨p,hp,e,ev⟩:=tS h;rw[<-ev]at q;refine(List.mem_append.mp hp).elim (λhp=>?_) λhp=>?_
 ·have z:=bE (List.all_eq_true.mp (Av w.params) p hp);obtain⟨val,hv,z2⟩:=Ap z.2;obtain⟨mg,hg⟩:=G.g;refine(fA z.1 ok e)▸?_;exact loadGlobal_global (eg▸hg.keeps k) (mg_of G.inn hg hv) (q _ (lJ G.inn z2))
 ·have z:=bE (List.all_eq_true.mp (Aw w.params) p hp);have z2:=bE z.2;have z3:=bE z2.2;have z4:=bE z3.2;obtain⟨mg,hg⟩:=G.g;obtain⟨mb,hb,Q4⟩:=G.b;refine(fA z.1 ok e)▸?_;exact loadGlobal_builtin (eg▸hg.keeps k) (mg_none_of G.inn hg (of_decide_eq_true z3.1)) (eb▸hb.keeps k) ((Q4 _ (of_decide_eq_true z4.2)).trans (of_decide_eq_true z4.1)) (q _ (As z2.1))
section
variable[HasP]
inductive RR(Q:PQ)(B:PH)(v:TZ)(M:aa):Prop
 |mk (r:V) (h:VR B v r) (q:Q r M)
inductive Ay(Q:List V->aa->Prop)(B:PH)(v:List TZ)(M:aa):Prop
 |mk (r:List V) (h:aq B v r) (q:Q r M)
abbrev aC(B:PH)(own:List TX)(s:aav)(Q:PQ):TZ->aav->Prop:=aT B own s (RR Q)
abbrev Az(B:PH)(own:List TX)(s:aav)(Q:List V->aa->Prop):List TZ->aav->Prop:=aT B own s (Ay Q)
def Ev(n:Nat)(ρ:af)(M:aa)(x:X)(Q:PQ)(E:PE):Prop:=∀sc e,T gt sc e x->∀(c:Cx) (B:PH) (own:List TX) (s:aav),c.env.scope=sc->St c n ρ M B own s.heap->Uh (Uj pw c.w) c.A (eval e c.env) (aC B own s Q) (bg B own s E) s
def dK(n:Nat)(ρ:af)(M:aa)(xs:List X)(Q:List V->aa->Prop)(E:PE):Prop:=∀sc es,Ts gt sc es xs->∀(c:Cx) (B:PH) (own:List TX) (s:aav) (pos:Pos),c.env.scope=sc->St c n ρ M B own s.heap->Uh (Uj pw c.w) c.A (spliced (VP pos (U1 es c.env))) (Az B own s Q) (bg B own s E) s
theorem aC.here{B:PH}{own:List TX}{s s':aav}{M:aa}{Q:PQ}{v:TZ}{r:V}(T:aA B M own s.heap)(hr:VR B v r)(q:Q r M)(e:s'.heap=s.heap:=by rfl)(q':bl s s':=by exact⟨rfl,rfl⟩):aC B own s Q v s':=aT.here T ⟨r,hr,q⟩ e q'
theorem fR{v:V}(q:Q v M):Ev n ρ M (.cst v) Q E:=by
 intro sc e hT c B own s K0 S;induction hT with
 |cNone=>exact wpAny_pure (.here S.sta .none q)
 |cBool=>exact wpAny_pure (.here S.sta (.bool _) q)
 |cInt=>exact wpAny_mkInt (.here S.sta (.int _ _) q)
 |cStr=>exact wpAny_mkText (.here S.sta (.str _ _) q)
 |glo hk ok h=>refine Name_function_global S.kind (by rw[<-K0]at hk;exact hk) ?_ (nV ok);exact hZ S.gr ok h S.glob S.blt S.keepBase λval hv=>.here S.sta (hv.mono S.base) q
theorem oZ{n:Nat}{ρ:af}{M:aa}{k:Nat}{v:V}{Q:PQ}{E:PE}(h:aak ρ k=TR v)(q:Q v M):Ev n ρ M (.loc k) Q E:=by
 intro sc e hT c B own s K0 S;induction hT with
 |loc hk ok=>
  obtain⟨m,hm,H⟩:=S.loc;refine aj (H _ _ ok h) λval KY=>?_
  exact wpAny_Name (wpAny_loadName_local S.kind (by rw[<-K0]at hk;exact hk) hm KY.1 (.here S.sta KY.2 q)) (nV ok)
theorem tT(q:Q [] M):dK n ρ M [] Q E:=by intro sc e hT c B own s pos K0 S;cases hT;exact wpAny_pure (.here S.sta ⟨_,.nil,q⟩)
set_option tactic.hygienic true in
theorem tU(h:Ev n ρ M x (λr M1=>dK n ρ M1 xs (λrs M2=>Q (r::rs) M2) E) E):dK n ρ M (x::xs) Q E:=by
 intro sc e hT c B own s pos K0 S;induction hT with
 |cons LJ h1 h2=>
  rename_i e es;have e1:U1 (e::es) c.env=(TT,eval e c.env)::U1 es c.env:=by cases e<;>first|rfl|exact bt LJ
  refine(e1).symm▸?_;show Uh _ _ (do let v<-eval e c.env;let here<-pure [v];return here++(<-holding here (spliced (VP pos (U1 es c.env))))) _ _ _;refine aT.bind S (h _ _ h1 c B own s K0 S) λv s1 B1 K1 M1 ⟨r,hv,hs⟩ S1 l1=>?_
  refine wpAny_bind (wpAny_pure ?_);refine aT.bind S1 (wpAny_holding (hs _ _ h2 c B1 K1 s1 pos K0 S1)) λvs s2 B2 K9 M2 ⟨rs,K8,q⟩ S2 l2=>?_
  exact wpAny_pure (.here S2.sta ⟨_,.cons (hv.mono l2) K8,q⟩)
theorem bL(h:Ev n ρ M x Q E)(i:∀r M,Q r M->Q' r M):Ev n ρ M x Q' E:= λsc e hT c B own s K0 S=>aT.map (h sc e hT c B own s K0 S) λ_ _ _ ⟨r,hr,q⟩=>⟨r,hr,i _ _ q⟩
end
section
noncomputable def o0:List (TX×List String):=[(38,["title"]),(71,["number","text"]),(134,["rows","by_text"]),(155,["car","cdr"]),(176,["code"]),(197,["codes"]),(218,["things"]),(239,["content"]),(260,["is_done","content"]),(281,["number"]),(302,["title"]),(323,["title","op"]),(463,["mantissa","exponent"]),(582,["top","bottom"]),(771,["top","bottom","is_exact"]),(877,["word","value","start","end"]),(1018,["text","precision","place","is_folded"]),(1039,["word","start","things","state","tail"]),(1124,["lexer","table","frames"]),(1230,["is_written","precision","radix","limit","table","pieces","length","waiting"])]
noncomputable def o4:List (TX×List (String×TX)):=[(71,[("__init__",68)]),(134,[("__init__",89),("symbol",96),("fresh",103),("is_interned",124)]),(155,[("__init__",152)]),(176,[("__init__",173)]),(197,[("__init__",194)]),(218,[("__init__",215)]),(239,[("__init__",236)]),(260,[("__init__",257)]),(281,[("__init__",278)]),(302,[("__init__",299)]),(323,[("__init__",320)]),(582,[("__init__",579)]),(771,[("__init__",768)]),(877,[("__init__",874)]),(1018,[("__init__",945),("skip",952),("token",966),("found",973),("word_end",980),("word_token",987),("number_in",994),("sharp",1001),("sign_token",1008),("string",1015)]),(1039,[("__init__",1036)]),(1124,[("__init__",1058),("place",1065),("read",1072),("last",1079),("quoted",1086),("opens",1093),("dot",1100),("closed",1107),("atom",1114),("delivered",1121)]),(1230,[("__init__",1185),("told",1192),("put",1199),("datum",1206),("pair",1213),("tail",1220),("atom",1227)])]
noncomputable def o5(P:Ur)(p:TX×List String):Bool:=(match clsIn (KW P) p.1 with|some cd=>cd.hasDict|none=>TT)&&decide (Vj (KW P) (.ref p.1) "__getattribute__"=TR (TR (.builtin "object.__getattribute__")))&&decide (Vj (KW P) (.ref p.1) "__getattr__"=TR TW)&&decide (Vj (KW P) (.ref p.1) "__setattr__"=TR (TR (.builtin "object.__setattr__")))&&plainOver (KW P) p.1&&p.2.all λf=>aG (so f)&&decide (Vj (KW P) (.ref p.1) (so f)=TR TW)&&decide (WE (KW P) p.1 (so f)=TR TW)
noncomputable def tV(P:Ur)(p:TX×List (String×TX)):Bool:=p.2.all λf=>aG (so f.1)&&decide (Vj (KW P) (.ref p.1) (so f.1)=TR (TR (.ref f.2)))&&isFn (KW P) (.ref f.2)
set_option maxRecDepth 100000 in
theorem tW(P:Ur):o0.all (o5 P)=TV:=by kernel_rfl
set_option maxRecDepth 100000 in
theorem AA(P:Ur):o4.all (tV P)=TV:=by kernel_rfl
noncomputable def ek(C:TX)(k:Nat):Bool:=o0.any λp=>UN p.1 C&&p.2.any λf=>UN (nc (so f)) k
noncomputable def j0(C:TX):Bool:=o0.any λp=>UN p.1 C
noncomputable def b0(C:TX)(k:Nat):Option TX:=(o4.find? λp=>UN p.1 C).bind λp=>(p.2.find? λf=>UN (nc (so f.1)) k).map (·.2)
@[simp] theorem AB:ek 71 88=TV:=by kernel_rfl
structure tX(K:Frag)(C:TX):Prop where
 cd:∃cd,clsIn K C=TR cd/\cd.hasDict=TV
 ga:Vj K (.ref C) "__getattribute__"=TR (TR (.builtin "object.__getattribute__"))
 gat:Vj K (.ref C) "__getattr__"=TR TW
 sa:Vj K (.ref C) "__setattr__"=TR (TR (.builtin "object.__setattr__"))
 over:plainOver K C=TV
set_option tactic.hygienic true in
theorem lK(h:j0 C=TV):tX (KW P) C:=by
 unfold j0 at h;obtain⟨p,hp,e⟩:=List.any_eq_true.mp h;have e:=Ut e;subst e;have z:=List.all_eq_true.mp (tW P) p hp;unfold o5 at z;simp only[Uq]at z;obtain⟨⟨⟨⟨⟨z1,z2⟩,z3⟩,z4⟩,z5⟩,-⟩:=z;refine⟨?_,?_,?_,?_,z5⟩
 ·split at z1
  ·rename_i cd hc;exact⟨cd,hc,z1⟩
  ·exact bf z1
 ·exact of_decide_eq_true z2
 ·exact of_decide_eq_true z3
 ·exact of_decide_eq_true z4
theorem tY{id:U6}(ok:aG id=TV)(h:ek C (nc id)=TV):j0 C=TV/\Vj (KW P) (.ref C) id=TR TW/\WE (KW P) C id=TR TW:=by
 unfold ek at h;obtain⟨p,hp,e⟩:=List.any_eq_true.mp h;rw[Uq]at e;obtain⟨e1,e2⟩:=e;have N9:=Ut e1;subst N9;obtain⟨f,hf,e2⟩:=List.any_eq_true.mp e2;have z:=List.all_eq_true.mp (tW P) p hp;unfold o5 at z;rw[Uq]at z;have z:=List.all_eq_true.mp z.2 f hf;simp only[Uq]at z;obtain⟨⟨z1,z2⟩,z3⟩:=z;have e:=fA z1 ok (Ut e2);subst e;refine⟨List.any_eq_true.mpr ⟨p,hp,e1⟩,?_,?_⟩
 ·exact of_decide_eq_true z2
 ·exact of_decide_eq_true z3
theorem AC{id:U6}(ok:aG id=TV)(h:b0 C (nc id)=TR f):Vj (KW P) (.ref C) id=TR (TR (.ref f))/\isFn (KW P) (.ref f)=TV:=by unfold b0 at h;obtain⟨p,hp,h⟩:=Option.bind_eq_some_iff.mp h;obtain⟨g,hg,rfl⟩:=Option.map_eq_some_iff.mp h;have e1:=Ut (Xx (p:=λp:TX×List (String×TX)=>UN p.1 C) hp);subst e1;have e2:=Ut (Xx (p:=λf:String×TX=>UN (nc (so f.1)) (nc id)) hg);have z:=List.all_eq_true.mp (AA P) p (V8 hp);unfold tV at z;have z:=List.all_eq_true.mp z g (V8 hg);simp only[Uq]at z;obtain⟨⟨z1,z2⟩,z3⟩:=z;have e:=fA z1 ok e2;subst e;refine⟨?_,z3⟩;exact of_decide_eq_true z2
set_option tactic.hygienic true in
theorem aQ.find{id:U6}(ok:aG id=TV):∀{es:List Un},aQ B es fs->aak fs (nc id)=TR x->∃e,es.find? (·.key.isStr id)=TR e/\VR B e.val x:=by
 induction fs with
 |nil=>intro es _ h;exact nn h
 |cons p fs ih=>
  intro es F h;obtain⟨k,y⟩:=p;induction F with
  |cons hk MY hv r=>
   rename_i e k t es;rw[cC]at h;by_cases q:nc k=nc id
   ·rw[if_pos q]at h;obtain rfl:=TU h;exact⟨e,by rw[Xt (by rw[hk,fA MY ok q];exact beq_self_eq_true _)],hv⟩
   ·rw[if_neg q]at h;obtain⟨e',he,hx⟩:=ih r h;refine⟨e',?_,hx⟩;rewrite[Wy ?_];refine(he).symm▸?_;with_reducible rfl
    refine(hk).symm▸?_;exactλz=>q (congrArg nc (eq_of_beq z))
theorem aQ.keys:∀{es:List Un},aQ B es fs->es.any (·.refKey)=TT:=by
 induction fs with
 |nil=>intro es F;induction F;rfl
 |cons p fs ih=>
  intro es F;obtain⟨k,y⟩:=p;induction F with
  |cons hk _ _ r=>rw[Zp,ih r,Bool.or_false];unfold DictEntry.refKey;rw[hk]
theorem aQ.lookIn{id:U6}(F:aQ B es.toList fs)(hd:od.data=.dict es n)(ok:aG id=TV)(h:aak fs (nc id)=TR x):∃v,WS id od=TR (TR v)/\VR B v x:=by
 refine aj (aQ.find ok F h) λe KY=>?_
 refine⟨e.val,?_,KY.2⟩;unfold WS;refine(hd).symm▸?_;dsimp only;refine(KY.1).symm▸?_;with_reducible rfl
theorem AD{K:Frag}{id:U6}{v:TZ}(F:tX K C)(h:Vj K (.ref C) id=TR TW)(hl:lookIn id od=TR (TR v)):findObj K C (TR od) id=TR (.value v):=by obtain⟨cd,hc,hd⟩:=F.cd;unfold findObj;rw[hc,UP,h,UP];simp only[UP];unfold Zl;rw[hd,if_pos rfl];dsimp only;rw[hl,UP]
noncomputable def aY(v:V):Bool:=V.casesOn (motive_1:=λ_=>Bool) v TV (λ_=>TV) (λ_=>TV) (λ_=>TV) (λ_=>TV) (λ_=>TV) (λ_ _=>TV) (λ_ _ _=>TV) (λ_=>TV) (λ_=>TT) (λ_=>TV) (λ_=>TV)
theorem tZ{v:TZ}(h:VR B v x)(hb:aY x=TV):handedIn v=TV:=by cases x<;>first|((first|exact bf hb|cases hb);done)|(cases h;rfl)
theorem iZ(h:jQ o=TV):attributeBase o a env t=t:=by
 cases o with
 |Call f as kw p=>
  cases f with
  |Name id q=>
   induction as with
   |nil=>induction kw with
    |nil=>exact bf h
    |cons _ _=>rfl
   |cons _ _=>rfl
  |_=>rfl
 |_=>rfl
variable[HasP]
noncomputable def t0:Option be->Option (TX×List (Nat×V))
 |some (.inst c fs)=>TR (c,fs)
 |_=>TW
theorem AE(h:t0 o=TR p):o=TR (.inst p.1 p.2):=by
 induction o with
 |none=>exact nn h
 |some x=>
  induction x with
  |inst c fs=>rw[<-TU h]
  |_=>exact nn h
noncomputable def cm(M:aa)(v:V):Option (TX×List (Nat×V)):=V.casesOn (motive_1:=λ_=>Option (TX×List (Nat×V))) v TW (λ_=>TW) (λ_=>TW) (λ_=>TW) (λ_=>TW) (λ_=>TW) (λc fs=>TR (c,fs)) (λ_ c fs=>TR (c,fs)) (λa=>t0 (aak M a)) (λ_=>TW) (λ_=>TW) (λ_=>TW)
theorem MR.at_inst{B:PH}{h:Ux}{M:aa}{own:List TX}(R:MR B h M own){a c:TX}{fs:List (Nat×V)}(hm:aak M a=TR (.inst c fs)):∃o d od es n,h.get? a=TR o/\o.cls=.ref c/\o.data=.plain/\o.dict=TR d/\h.get? d=TR od/\od.cls=.type "dict"/\od.data=.dict es n/\aQ B es.toList fs:=by
 refine aj (R.at hm) λl KY=>?_
 induction KY.1 with
 |mk e hc hp Lk e2 Ml La hf=>exact⟨_,_,_,_,_,e,hc,hp,Lk,e2,Ml,La,hf⟩
theorem lL(T:aA B M own h){v:TZ}(I:cm M x=TR (c,fs))(hv:VR B v x):∃a o od es n,v=.ref a/\InstAt h a o c (TR od)/\od.data=.dict es n/\aQ B es.toList fs:=by
 cases x with
 |obj c fs=>obtain⟨rfl,rfl⟩:=ZO (TU I);induction hv with|obj e hc hp hd e2 La hf=>exact⟨_,_,_,_,_,rfl,⟨T.keep _ _ e,hc,by unfold notCls;rw[hp],by rw[hd];exact T.keep _ _ e2⟩,La,hf⟩
 |ido a c fs=>obtain⟨rfl,rfl⟩:=ZO (TU I);induction hv with|ido e hc hp hd e2 La hf=>exact⟨_,_,_,_,_,rfl,⟨T.keep _ _ e,hc,by unfold notCls;rw[hp],by rw[hd];exact T.keep _ _ e2⟩,La,hf⟩
 |ref a=>
  induction hv;refine jJ (T.mr.at_inst (AE I)) λo d od es n KY=>?_
  exact⟨_,_,_,_,_,rfl,⟨KY.1,KY.2.1,by unfold notCls;rw[KY.2.2.1],by rw[KY.2.2.2.1];exact KY.2.2.2.2.1⟩,KY.2.2.2.2.2.2.1,KY.2.2.2.2.2.2.2⟩
 |_=>exact nn I
noncomputable def ia(M:aa)(r:V)(k:Nat):Option V:=bo (cm M r) λp=>if ek p.1 k=TV then aak p.2 k else TW
set_option tactic.hygienic true in
theorem AF(h:Ev n ρ M o (λro M1=>∃r,ia M1 ro k=TR r/\aY r=TV/\Q r M1) E):Ev n ρ M (.attr o k) Q E:=by
 intro sc e hT c B own s K0 S;induction hT with
 |attr ok hp ho=>
  rename_i oe a p;show Uh _ _ (do let o<-attributeBase oe a c.env (eval oe c.env);standAt p.atName;let r<-holding [o] (getAttr o a TV);letTemporaryGo oe o r;pure r) _ _ _;refine(iZ hp).symm▸?_;refine aT.bind S (h _ _ ho c B own s K0 S) λv s1 B1 K1 M1 ⟨ro,hv,r,hat,hb,q⟩ S1 l1=>?_
  refine bQ hat λp I hat=>?_
  by_cases hf:ek p.1 (nc a)=TV
  ·rw[if_pos hf]at hat;have KZ:=tY (P:=c.w.params) ok hf;have hc:=KZ.1;have MN:=KZ.2.1;refine jJ (lL S1.sta (show cm M1 ro=TR (p.1,p.2) from I) hv) λx ox od es n' KY=>?_
   have K6:=KY.1;subst K6;have I1:=KY.2.1;have La:=KY.2.2.1;have F:=KY.2.2.2;refine aj (F.lookIn La ok hat) λval KY=>?_
   have MZ:=KY.2;refine wpAny_bind (wpAny_standAt ?_);refine wpAny_bind (wpAny_holding (get_value S1.kin I1 (lK hc).ga (AD (lK hc) MN KY.1) (tZ MZ hb) ?_));exact wpAny_bind (wpAny_letTemporaryGo (wpAny_pure (aC.here S1.sta MZ q)))
  ·rw[if_neg hf]at hat;exact nn hat
end
section
variable[HasP]
structure Sc(w:U4)(A:UT)(base:Ux)(fr:List Yj)(n:Nat)(M:aa)(B:PH)(own:List TX)(h:Ux):Prop where
 par:w.params=HasP.p
 gr:Gr w base
 frames:A.frames=TR fr
 hand:0<n->A.handled=Ue
 guards:A.guards=TR []
 room:A.depth+n<recursionLimit
 units:A.units+8*n+4<cLine
 fun_:h.FunFrames base fr
 base:∀a o,base.get? a=TR o->B a=TR o
 frB:∀e∈fr,∀L,e.frame=TR L->B L=Ue/\L∉own
 sta:aA B M own h
theorem St.sc(S:St c n ρ M B own h)(hk:k<=n):Sc c.w c.A c.base c.fr k M B own h:=⟨S.par,S.gr,S.frames,λq=>S.hand (by exact ai [_,_] (N0.a N1) X0 (N0.a N1) X1 X1 X0 q hk rfl),S.guards,by have:=S.room;exact ai [_,_,_] (aI.a N1) (Ar.n 1000) ((X0.a X2).a N1) (Ar.n 1000) X1 X2 this hk rfl,by have:=S.units;exact ai [_,_,_] (((X0.a (Ar.m 8 X1)).a N4).a N1) (Ar.n 9900) (Ar.m 8 X1) (Ar.m 8 X2) (((X0.a (Ar.m 8 X2)).a N4).a N1) (Ar.n 9900) (mK 8 hk) this rfl,S.fun_,S.base,S.frB,S.sta⟩
theorem Sc.kin{w A base fr n M B own h}(S:Sc w A base fr n M B own h):(KW w.params).In h:=S.gr.inn.keeps λa o e=>S.sta.keep a o (S.base a o e)
def dL(n:Nat)(f:V)(args:List V)(M:aa)(Q:PQ)(E:PE):Prop:=∀(w:U4) (A:UT) (base:Ux) (fr:List Yj) (B:PH) (own:List TX) (s:aav) (fv:TZ) (vs:List TZ),Sc w A base fr n M B own s.heap->VR B fv f->aq B vs args->Vc (Uj pw w) A (.call fv ⟨vs,[]⟩) (wants (aC B own s Q) (bg B own s E)) s
theorem AG(h:dL n f args M Q E)(i:∀r M,Q r M->Q' r M)(j:∀r M,E r M->E' r M):dL n f args M Q' E':=by
 intro w A base fr B own s fv vs S hf K8;refine codeAny_mono (h w A base fr B own s fv vs S hf K8) λr s' h=>?_
 induction r with
 |error e=>obtain⟨B',K2,M',e,fs,h1,h2,z1,z2,z3,z4⟩:=h;exact⟨B',K2,M',e,fs,h1,j _ _ h2,z1,z2,z3,z4⟩
 |ok f=>
  induction f with
  |ret v=>obtain⟨B',K2,M',⟨r,hr,q⟩,z1,z2,z3⟩:=h;exact⟨B',K2,M',⟨r,hr,i _ _ q⟩,z1,z2,z3⟩
  |_=>exact h
inductive Fl where
 |next
 |ret (v:V)
 |cont
inductive i0(B:PH):Flow->Fl->Prop
 |next:i0 B .next .next
 |ret {v:TZ} {r:V} (h:VR B v r):i0 B (.ret v) (.ret r)
 |cont:i0 B .cont .cont
abbrev PK:=Fl->af->aa->Prop
inductive bI(L:TX)(B:PH)(own:List TX)(s:aav)(K:PK)(f:Flow)(s':aav):Prop
 |mk (B':PH) (K2:List TX) (fl:Fl) (ρ':af) (M':aa) (r:i0 B' f fl) (k:K fl ρ' M') (T:aA B' M' K2 s'.heap) (F:cI B' ρ' s'.heap L) (P:aF B own s.heap B' K2 s'.heap (λa=>a=L)) (q:bl s s')
inductive cS(L:TX)(B:PH)(own:List TX)(s:aav)(E:PE)(v:TZ)(s':aav):Prop
 |mk (B':PH) (K2:List TX) (M':aa) (e:TX) (fs:List (Nat×V)) (fl:Option TZ) (h1:v=.ref e) (h2:E fs M') (T:aA B' M' K2 s'.heap) (X:df B' K2 s'.heap s.heap e fs fl) (hf:fl=TW\/fl=TR .none\/fl=TR (UV L)) (F:cI B' [] s'.heap L) (P:aF B own s.heap B' K2 s'.heap (λa=>a=L)) (q:bl s s')
theorem bI.step{K:PK}{v:Flow}(P:aF B own s.heap B1 K1 s1.heap λa=>a=L)(q:bl s s1)(x:bI L B1 K1 s1 K v s'):bI L B own s K v s':=by obtain⟨B',K2,fl,ρ',M',h1,h2,h3,h4,h5,h6⟩:=x;exact⟨B',K2,fl,ρ',M',h1,h2,h3,h4,P.trans h5,q.trans h6⟩
theorem cS.step{v:TZ}(P:aF B own s.heap B1 K1 s1.heap λa=>a=L)(q:bl s s1)(x:cS L B1 K1 s1 E v s'):cS L B own s E v s':=by obtain⟨B',K2,M',e,fs,fl,h1,h2,h3,h4,h5,h6,h7,h8⟩:=x;exact⟨B',K2,M',e,fs,fl,h1,h2,h3,h4.lower λ_=>P.gone,h5,h6,P.trans h7,q.trans h8⟩
structure gI(c:Cx):Prop where
 frame:c.env.frame=TR c.env.locals
 top:∃outer,c.fr=c.env::outer
def dq(n:Nat)(ρ:af)(M:aa)(ss:List XS)(K:PK)(E:PE):Prop:=∀sc es,fP gt sc es ss->∀(c:Cx) (B:PH) (own:List TX) (s:aav),c.env.scope=sc->gI c->St c n ρ M B own s.heap->Uh (Uj pw c.w) c.A (execs es c.env) (bI c.env.locals B own s K) (cS c.env.locals B own s E) s
def cE(n:Nat)(ρ:af)(M:aa)(x:XS)(K:PK)(E:PE):Prop:=∀sc e,TS gt sc e x->∀(c:Cx) (B:PH) (own:List TX) (s:aav),c.env.scope=sc->gI c->St c n ρ M B own s.heap->Uh (Uj pw c.w) c.A (exec e c.env) (bI c.env.locals B own s K) (cS c.env.locals B own s E) s
theorem St.stepS(S:St c n ρ M B own h)(T:aA B' M' K2 h')(F:cI B' ρ' h' c.env.locals)(P:aF B own h B' K2 h' λa=>a=c.env.locals):St c n ρ' M' B' K2 h':=by
 have hL:∃o,h.get? c.env.locals=TR o:=let⟨_,⟨o,_,_,ho,_⟩,_⟩:=S.loc;⟨o,ho⟩;refine aj hL λoL Nx=>?_
 have ML:∀L o,h.get? L=TR o->B L=Ue->L∉own->B' L=Ue/\L∉K2:=λL o ho hb hn=>by
  constructor
  ·cases q:B' L with
   |none=>rfl
   |some o'=>
    rcases P.newB L (by rw[q];exactλz=>by exact ns z)with z|z|z
    ·exact absurd hb z
    ·exact absurd z hn
    ·rw[ho]at z;exact ns z
  ·intro q;rcases P.newO L q with z|z
   ·exact hn z
   ·rw[ho]at z;exact ns z
 obtain⟨Te,Q5,Q6⟩:∃o,h'.get? c.env.locals=TR o/\∀vs,o.data≠.fields vs:=by obtain⟨_,⟨o,es,ep,ho,hd,_⟩,_⟩:=F;exact⟨o,ho,λvs q=>by rw[hd]at q;cases q⟩
 refine⟨S.par,S.gr,S.glob,S.blt,S.cells,S.kind,S.frames,S.hand,S.guards,S.room,S.units,?_,λa o e=>P.le _ _ (S.base a o e),F,(ML _ _ Nx S.locB S.locO).1,(ML _ _ Nx S.locB S.locO).2,λe he L hL=>?_,T⟩
 ·have:∀l,(∀e∈l,e∈c.fr)->h.FunFrames c.base l->h'.FunFrames c.base l:=by
   intro l hl;induction l with
   |nil=>exactλ_=>trivial
   |cons e r ih=>
    rintro⟨hk,⟨L,o,hf,hn,ho,hd⟩,hr⟩;refine⟨hk,?_,ih (λe he=>hl e (.tail _ he)) hr⟩;by_cases q:L=c.env.locals
    ·subst q;exact⟨_,_,hf,hn,Q5,Q6⟩
    ·refine aj (P.same L o ho (S.frB e (hl e (.head _)) L hf).2 q) λsl Lo=>?_
     exact⟨L,_,hf,hn,Lo,hd⟩
  exact this c.fr (λ_ h=>h) S.fun_
 ·have hm:∃o,h.get? L=TR o:=by
   have:∀l,h.FunFrames c.base l->e∈l->∃o,h.get? L=TR o:=by
    intro l;induction l with
    |nil=>exactλ_ q=>(nomatch q)
    |cons e' r ih=>
     rintro⟨hk,⟨L',o,hf,hn,ho,hd⟩,hr⟩ he;cases he with
     |head=>rw[hf]at hL;obtain rfl:=TU hL;exact⟨o,ho⟩
     |tail _ he=>exact ih hr he
   exact this c.fr S.fun_ he
  refine aj hm λo ho=>?_
  exact ML L o ho (S.frB e he L hL).1 (S.frB e he L hL).2
theorem cI.nil(x:cI B ρ h L):cI B [] h L:=by obtain⟨m,hm,_⟩:=x;exact⟨m,hm,λx v ok e=>by exact nn e⟩
theorem bI.of{K:PK}(S:St c n ρ M1 B1 K1 s1.heap)(P:aF B own s.heap B1 K1 s1.heap λ_=>False)(q:bl s s1)(hf:i0 B1 f fl)(k:K fl ρ M1):bI c.env.locals B own s K f s1:=⟨B1,K1,fl,ρ,M1,hf,k,S.sta,S.loc,P.weaken λ_ h=>h.elim,q⟩
theorem bg.toS{v:TZ}(S:St c n ρ M B own s.heap)(x:bg B own s E v s1):cS c.env.locals B own s E v s1:=by obtain⟨B',K2,M',e,fs,h1,h2,h3,h4,h5,h6⟩:=x;exact⟨B',K2,M',e,fs,_,h1,h2,h3,h4,.inr (.inl rfl),(S.step h3 h5).loc.nil,h5.weaken λ_ h=>h.elim,h6⟩
theorem lM{K:PK}(k:K .next ρ M):dq n ρ M [] K E:=by intro sc es hT c B own s K0 tp S;cases hT;exact wpAny_execs_nil (bI.of S .refl (.refl _) .next k)
theorem i4{K:PK}(h:cE n ρ M x (λfl ρ1 M1=>match fl with| .next=>dq n ρ1 M1 xs K E|fl=>K fl ρ1 M1) E):dq n ρ M (x::xs) K E:=by
 intro sc es hT c B own s K0 tp S;induction hT with
 |cons h1 h2=>
  refine wpAny_execs_cons (wpAny_mono (h _ _ h1 c B own s K0 tp S) (λf s1 hf=>?_) λ_ _ h=>h);obtain⟨B1,K1,fl,ρ1,M1,r1,k1,T1,F1,P1,q1⟩:=hf;induction r1 with
  |next=>exact wpAny_mono (k1 _ _ h2 c B1 K1 s1 K0 tp (S.stepS T1 F1 P1)) (λf s2 hf=>hf.step P1 q1) λ_ _ h=>h.step P1 q1
  |ret hv=>exact⟨B1,K1,_,ρ1,M1,.ret hv,k1,T1,F1,P1,q1⟩
  |cont=>exact⟨B1,K1,_,ρ1,M1,.cont,k1,T1,F1,P1,q1⟩
theorem t6{K:PK}(h:Ev n ρ M x (λr M1=>K (.ret r) ρ M1) E):cE n ρ M (.ret x) K E:=by
 intro sc e hT c B own s K0 tp S;induction hT with
 |ret h1=>refine wpAny_Return_some (wpAny_mono (h _ _ h1 c B own s K0 S) (λv s1 hv=>?_) λ_ _ h=>h.toS S);obtain⟨B1,K1,M1,⟨r,hr,k⟩,T1,P1,q1⟩:=hv;exact bI.of (S.step T1 P1) P1 q1 (.ret hr) k
theorem AH{K:PK}(k:K (.ret .none) ρ M):cE n ρ M .ret0 K E:=by intro sc e hT c B own s K0 tp S;induction hT;exact wpAny_Return_none (bI.of S .refl (.refl _) (.ret .none) k)
end
section
variable[HasP]
theorem aA.keeps(T:aA B M own h)(k:∀a o,h.get? a=TR o->h'.get? a=TR o):aA B M own h':=⟨λa o e=>k a o (T.keep a o e),T.mr.keeps (Le.refl B) λa _ o e=>k a o e,T.nd,T.dis,T.big⟩
theorem cv(h:Ux):h.get? h.objs.size=Ue:=by
 cases e:h.get? h.objs.size with
 |none=>rfl
 |some o=>exact absurd (UB e) (VX _)
theorem aA.fresh(T:aA B M own h)(ha:h.get? a=Ue):B a=Ue/\a∉own:=by
 constructor
 ·cases q:B a with
  |none=>rfl
  |some o=>rw[T.keep a o q]at ha;exact ns ha
 ·exactλq=>by
   refine aj (T.mr.own_at a q) λo e=>?_
   rw[e]at ha;exact ns ha
structure Hk(B:PH)(own:List TX)(lo:Ux)(h h':Ux):Prop where
 keep:∀b o,h.get? b=TR o->(B b≠Ue\/b∈own)->h'.get? b=TR o
 same:∀b o,h.get? b=TR o->lo.get? b≠Ue->∃sl,h'.get? b=TR {o with slots:=sl}
 data:∀b o,h.get? b=TR o->(∀vs,o.data≠.fields vs)->∃sl,h'.get? b=TR {o with slots:=sl}
 alive:∀b,h.get? b≠Ue->h'.get? b≠Ue
theorem Hk.refl{lo:Ux}:Hk B own lo h h:=⟨λ_ _ e _=>e,λ_ o e _=>⟨o.slots,e⟩,λ_ o e _=>⟨o.slots,e⟩,λ_ e=>e⟩
theorem Hk.trans{lo:Ux}(x:Hk B own lo h h')(y:Hk B own lo h' MA):Hk B own lo h MA:=by
 refine⟨λb o e q=>y.keep b o (x.keep b o e q) q,λb o e q=>?_,λb o e q=>?_,λb q=>y.alive b (x.alive b q)⟩
 ·refine aj (x.same b o e q) λsl e1=>?_
  refine aj (y.same b _ e1 q) λMn e2=>?_
  exact⟨Mn,e2⟩
 ·refine aj (x.data b o e q) λsl e1=>?_
  refine aj (y.data b _ e1 q) λMn e2=>?_
  exact⟨Mn,e2⟩
theorem Hk.frames{lo:Ux}(x:Hk B own lo h h'){l:List Yj}(hl:h.FunFrames base l):h'.FunFrames base l:=hl.of_keeps λb o ho hn=>let⟨_,e⟩:=x.data b o ho hn;⟨_,e,rfl⟩
theorem Hk.sta{lo:Ux}(x:Hk B own lo h h')(T:aA B M own h):aA B M own h':=⟨λa o e=>x.keep a o (T.keep a o e) (.inl (by rw[e];exactλq=>by exact ns q)),T.mr.keeps (Le.refl B) λa ha o e=>x.keep a o e (.inr ha),T.nd,T.dis,T.big⟩
theorem Hk.post{B B0:PH}(x:Hk B own h0 h h')(p:aF B0 own0 h0 B own h P):aF B0 own0 h0 B own h' P:=by
 refine⟨p.le,p.newB,p.newO,λb o e n q=>?_,λb q=>x.alive b (p.alive b q)⟩;refine aj (p.same b o e n q) λsl e1=>?_
 obtain⟨Mn,e2⟩:=x.same b _ e1 (by rw[e];exactλz=>by exact ns z);exact⟨Mn,e2⟩
theorem Hk.fr{lo:Ux}(x:Hk B own lo h h')(F:cI B ρ h L):cI B ρ h' L:=F.of_data (Le.refl B) λo ho=>by obtain⟨m,⟨o',es,ep,Lo,hd,_⟩,_⟩:=F;rw[ho]at Lo;obtain rfl:=TU Lo;exact x.data L o ho λvs q=>by rw[hd]at q;cases q
end
section
variable[HasP]
section
variable{M:Model}{A:UT}{E:TZ->aav->Prop}{s:aav}
theorem AI{head:TZ}(LC:A.frames=TR (env::outer))(hl:s.heap.FunFrames base (env::outer))(hf:env.frame=TR L)(he:s.heap.get? e=TR oe)(hd:oe.data=.fields vs)(Lf:1<vs.size)(h:∀h' oT ts,h'.get? e=TR (oe.mapFields (·.setIfInBounds 1 (.ref s.heap.objs.size)))->h'.get? s.heap.objs.size=TR oT->oT.data=.fields ts->ts[3]? =TR (UV L)->(∀b o,b≠e->s.heap.get? b=TR o->(b∉(env::outer).filterMap (·.frame))->h'.get? b=TR o)->(∀b o,b≠e->s.heap.get? b=TR o->∃sl,h'.get? b=TR {o with slots:=sl})->s.heap.objs.size<=h'.objs.size->Q () {s with heap:=h'}):Uh M A (do let a<-frameOf env;let pl<-entryPlaceOf L OA;let b<-WL head a .none (UV L) .none pl;setField (.ref e) 1 b) Q E s:=by
 have Q7:e∉(env::outer).filterMap (·.frame):=λhm=>by obtain⟨_,o,ho,Q8⟩:=hl.mem hm;rw[he]at ho;injection ho with ho;subst ho;exact Q8 vs hd
 refine wpAny_bind (wpAny_frameOf_fun LC hl hf λLs Md=>?_);refine wpAny_bind (wpAny_entryPlaceOf λpl LP=>?_);unfold WL newFields;refine wpAny_bind (wpAny_newObj_type ?_ (LP.sizeOk5 _ _ _ _ _));have PC:Ls.get? e=TR oe:=(Md.2.1 e Q7).trans he;have Oa:=Ua (h:=Ls) {cls:=.type "traceback",dict:=TW,data:=.fields ([head,.ref L,.none,UV L,.none]++(if pl.isEmpty then WU 6 Vz else pl)).toArray} PC;have OC:Ls.objs.size≠e:=UO (UB PC);have Q9:=Vm hd (·.setIfInBounds 1 (Vk Ls.objs.size));have Ra:=UF (VJ (·.setIfInBounds 1 (Vk Ls.objs.size))) Oa (VB Q9);have Rb:=(WA (Ls.push {cls:=.type "traceback",dict:=TW,data:=.fields ([head,.ref L,.none,UV L,.none]++(if pl.isEmpty then WU 6 Vz else pl)).toArray}) (VJ (·.setIfInBounds 1 (Vk Ls.objs.size))) (Uf OC)).trans (Ul Ls rfl);have keep:∀b o,b≠e->Ls.get? b=TR o->((Ls.push {cls:=.type "traceback",dict:=TW,data:=.fields ([head,.ref L,.none,UV L,.none]++(if pl.isEmpty then WU 6 Vz else pl)).toArray}).update e (VJ (·.setIfInBounds 1 (Vk Ls.objs.size)))).get? b=TR o:= λb o Nz hb=>by rw[WA _ _ (Uf Nz)];exact Ua _ hb
 have hz:Ls.objs.size=s.heap.objs.size:=Md.1;refine wpAny_setField Oa hd Lf ?_;refine h _ {cls:=.type "traceback",dict:=TW,data:=.fields ([head,.ref L,.none,UV L,.none]++(if pl.isEmpty then WU 6 Vz else pl)).toArray} _ ?_ ?_ rfl ?_ ?_ ?_ ?_
 ·rw[<-hz];exact Ra
 ·rw[<-hz];exact Rb
 ·first|(simp;done)|(rcases LP with rfl|⟨_,_,_,_,_,_,_,rfl⟩<;>simp)
 ·exactλb o Nz hb hn=>keep b o Nz ((Md.2.1 b hn).trans hb)
 ·intro b o Nz hb;obtain⟨sl,hs⟩:=Md.2.2 b o hb;exact⟨sl,keep b _ Nz hs⟩
 ·rw[Heap.size_after_update,<-hz];show _<=(Ls.objs.push _).size;rw[Array.size_push];exact YP _
def lN(B:PH)(own:List TX)(l:List Yj):Prop:=∀e∈l,∀L,e.frame=TR L->B L=Ue/\L∉own
theorem t7{base:Ux}{env:Yj}{outer:List Yj}{L e:TX}{lo:Ux}{oe od:Vi}{vs:Array TZ}{d n:Nat}{es:Array Un}{head:TZ}{OA:Bool}{Q:Unit->aav->Prop}{B:PH}{own:List TX}{fs:List (Nat×V)}{Mm:aa}(LC:A.frames=TR (env::outer))(hl:s.heap.FunFrames base (env::outer))(hf:env.frame=TR L)(off:lN B own (env::outer))(T:aA B Mm own s.heap)(h1:s.heap.get? e=TR oe)(h2:oe.cls=.ref 425)(h3:oe.data=.fields vs)(h4:oe.dict=TR d)(h5:B d=TR od)(h6:od.data=.dict es n)(h7:aQ B es.toList fs)(h8:lo.get? e=Ue)(h9:B e=Ue)(Lh:e∉own)(Lf:1<vs.size)(al:∀b,lo.get? b≠Ue->s.heap.get? b≠Ue)(h:∀h',df B own h' lo e fs (TR (UV L))->Hk B own lo s.heap h'->Q () {s with heap:=h'}):Uh M A (do let a<-frameOf env;let pl<-entryPlaceOf L OA;let b<-WL head a .none (UV L) .none pl;setField (.ref e) 1 b) Q E s:=by
 have OC:s.heap.objs.size≠e:=UO (UB h1);have fresh:=T.fresh (cv s.heap);have Oy:lo.get? s.heap.objs.size=Ue:=by
  cases q:lo.get? s.heap.objs.size with
  |none=>rfl
  |some o=>exact absurd (cv s.heap) (al _ (by rw[q];exactλz=>by exact ns z))
 refine AI LC hl hf h1 h3 Lf λh' oT ts a1 a2 a3 a4 a5 a6 a7=>h h' ?_ ?_
 ·have Mo:=Vm h3 (·.setIfInBounds 1 (Vk s.heap.objs.size));exact⟨_,_,d,od,es,n,a1,(W4 _ _).trans h2,Mo,by rw[<-h4];obtain⟨_,_,dt,_⟩:=oe;induction dt<;>rfl,h5,h6,h7,h8,h9,Lh,s.heap.objs.size,oT,ts,by simp[Lf],Oy,fresh.1,fresh.2,OC,a2,a3,a4⟩
 ·refine⟨λb o hb q=>a5 b o ?_ hb λhm=>?_,λb o hb q=>a6 b o ?_ hb,λb o hb q=>a6 b o ?_ hb,λb hb=>?_⟩
  ·rintro rfl;rcases q with q|q
   ·exact q h9
   ·exact Lh q
  ·obtain⟨e',PD,PF⟩:=List.mem_filterMap.mp hm;rcases q with q|q
   ·exact q (off e' PD b PF).1
   ·exact(off e' PD b PF).2 q
  ·rintro rfl;exact q h8
  ·rintro rfl;rw[hb]at h1;obtain rfl:=TU h1;exact q _ h3
  ·by_cases q:b=e
   ·subst q;rw[a1];exactλz=>by exact ns z
   ·cases PG:s.heap.get? b with
    |none=>exact absurd PG hb
    |some o=>obtain⟨sl,e'⟩:=a6 b o q PG;rw[e'];exactλz=>by exact ns z
theorem setT{lo:Ux}{T:TX}{oT:Vi}{v:TZ}(a2:lo.get? T=Ue)(a3:B T=Ue)(a4:T∉own)(a6:h.get? T=TR oT)(a7:oT.data=.fields ts):Hk B own lo h (h.update T (VJ (·.setIfInBounds 3 v)))/\(∀b,b≠T->(h.update T (VJ (·.setIfInBounds 3 v))).get? b=h.get? b):=by
 have other:∀b,b≠T->(h.update T (VJ (·.setIfInBounds 3 v))).get? b=h.get? b:=λb hb=>WA _ _ (Uf hb)
 refine⟨⟨λb o hb q=>(other b ?_).trans hb,λb o hb q=>⟨o.slots,(other b ?_).trans hb⟩,λb o hb q=>⟨o.slots,(other b ?_).trans hb⟩,λb hb=>?_⟩,other⟩
 ·rintro rfl;rcases q with q|q
  ·exact q a3
  ·exact a4 q
 ·rintro rfl;exact q a2
 ·rintro rfl;rw[hb]at a6;obtain rfl:=TU a6;exact q _ a7
 ·by_cases q:b=T
  ·subst q;rw[UF _ a6 (VB (Vm a7 _))];exactλz=>by exact ns z
  ·rw[other b q];exact hb
theorem o6{lo:Ux}(LC:A.frames=TR (env::outer))(hl:s.heap.FunFrames base (env::outer))(hf:env.frame=TR L)(off:lN B own (env::outer))(T:aA B Mm own s.heap)(X:df B own s.heap lo e fs fl)(al:∀b,lo.get? b≠Ue->s.heap.get? b≠Ue)(Li:fl=TW\/fl=TR .none\/fl=TR (UV L))(h:∀h',df B own h' lo e fs (TR (UV L))->Hk B own lo s.heap h'->Q () {s with heap:=h'}):Uh M A (noteFrame (.ref e) env) Q E s:=by
 obtain⟨oe,vs,d,od,es,n,h1,h2,h3,h4,h5,h6,h7,h8,h9,Lh,LS⟩:=X;unfold noteFrame;simp only[hf];rcases Li with rfl|rfl|rfl
 ·refine wpAny_bind (wpAny_field h1 h3 LS ?_);rw[if_neg (by decide)];exact t7 LC hl hf off T h1 h2 h3 h4 h5 h6 h7 h8 h9 Lh (Array.getElem?_eq_some_iff.mp LS).1 al h
 ·obtain⟨T',oT,ts,a1,a2,a3,a4,a5,a6,a7,a8⟩:=LS;refine wpAny_bind (wpAny_field h1 h3 a1 ?_);rw[if_pos (show(Vk T' !=Vz)=TV from by simp)];refine wpAny_bind (wpAny_field a6 a7 a8 ?_);rw[if_neg (show¬((Vz==UV L)=TV) from by simp[UV])];refine wpAny_bind (wpAny_setField a6 a7 (Array.getElem?_eq_some_iff.mp a8).1 ?_);obtain⟨hk,other⟩:=setT (v:=Vz) a2 a3 a4 a6 a7;exact t7 LC (hk.frames hl) hf off (hk.sta T) ((other e (Uf a5)).trans h1) h2 h3 h4 h5 h6 h7 h8 h9 Lh (Array.getElem?_eq_some_iff.mp a1).1 (λb q=>hk.alive b (al b q)) λh' x y=>h h' x (hk.trans y)
 ·obtain⟨T',oT,ts,a1,a2,a3,a4,a5,a6,a7,a8⟩:=LS;refine wpAny_bind (wpAny_field h1 h3 a1 ?_);rw[if_pos (show(Vk T' !=Vz)=TV from by simp)];refine wpAny_bind (wpAny_field a6 a7 a8 ?_);rw[if_pos (show(UV L==UV L)=TV from by simp)];exact wpAny_pure (h _ ⟨oe,vs,d,od,es,n,h1,h2,h3,h4,h5,h6,h7,h8,h9,Lh,T',oT,ts,a1,a2,a3,a4,a5,a6,a7,a8⟩ .refl)
theorem lO{lo:Ux}{fr:Option TX}(X:df B own s.heap lo e fs (TR fl))(h:∀h',df B own h' lo e fs (TR (fr.elim .none λf=>UV f))->Hk B own lo s.heap h'->Q () {s with heap:=h'}):Uh M A (setFlight (.ref e) fr) Q E s:=by obtain⟨oe,vs,d,od,es,n,h1,h2,h3,h4,h5,h6,h7,h8,h9,Lh,T',oT,ts,a1,a2,a3,a4,a5,a6,a7,a8⟩:=X;have PJ:3<ts.size:=(Array.getElem?_eq_some_iff.mp a8).1;obtain⟨hk,other⟩:=setT (v:=(fr.elim Vz λf=>UV f)) a2 a3 a4 a6 a7;unfold setFlight;refine wpAny_bind (wpAny_field h1 h3 a1 ?_);rw[if_pos (show(Vk T' !=Vz)=TV from by simp)];refine wpAny_setField a6 a7 PJ (h _ ⟨oe,vs,d,od,es,n,(other e (Uf a5)).trans h1,h2,h3,h4,h5,h6,h7,h8,h9,Lh,T',_,_,a1,a2,a3,a4,a5,UF _ a6 (VB (Vm a7 _)),Vm a7 _,by simp[PJ]⟩ hk)
theorem AJ{lo:Ux}(LC:A.frames=TR (env::outer))(hl:s.heap.FunFrames base (env::outer))(hf:env.frame=TR L)(off:lN B own (env::outer))(T:aA B Mm own s.heap)(X:df B own s.heap lo e fs fl)(al:∀b,lo.get? b≠Ue->s.heap.get? b≠Ue)(Li:fl=TW\/fl=TR .none\/fl=TR (UV L))(h:∀h',df B own h' lo e fs (TR .none)->Hk B own lo s.heap h'->Q () {s with heap:=h'}):Uh M A (leaving env (.ref e)) Q E s:=by unfold leaving;exact wpAny_bind (o6 LC hl hf off T X al Li λh1 x1 k1=>lO (fr:=TW) x1 λh2 x2 k2=>h h2 x2 (k1.trans k2))
end
end
section
variable[HasP]
noncomputable abbrev Fn.fd(F:Fn):FuncData:=nP F.st F.name F.q F.mod F.code F.dfl
noncomputable def i5:List Nat->Bool
 | []=>TV
 |a::r=> !(r.any λb=>UN a b)&&i5 r
theorem o7:∀{l:List Nat},i5 l=TV->l.Nodup
 | [],_=>.nil
 |a::r,h=>by unfold i5 at h;rw[Uq,V0]at h;refine List.nodup_cons.mpr ⟨λhm=>?_,o7 h.2⟩;have:=List.any_eq_false.mp h.1 a hm;exact this (ZA a)
noncomputable def fB(F:Fn):Bool:= !(bq F.st).isCoroutine&& !(bq F.st).isGenerator&&decide ((bq F.st).kind=.function)&&((bq F.st).names.all λx=>decide (x.2≠.cell))&&(F.ps.all λp=>aG (so p)&&decide ((bq F.st).names.lookup (so p)=TR .local))&&i5 (F.ps.map λp=>nc (so p))
structure FnOk0(f:TX)(F:Fn)(k:Nat)(ds:List V):Prop where
 look:∀P,(KW P).lookup f=TR (fw F.st F.name F.q F.mod F.code F.dfl)
 code:∀P,codeIn (KW P) (.ref F.code) (so F.q)=TV
 flags:fB F=TV
 len:k+ds.length=F.ps.length
 bind:∀(P:Ur) (h:Ux),(KW P).In h->∀vs:List TZ,vs.length=k->∃dv,aq h.get? dv ds/\∀s:aav,(∀a o,h.get? a=TR o->s.heap.get? a=TR o)->BindsTo s F.fd ⟨vs,[]⟩ ((F.ps.map so).zip (vs++dv))
structure dT(f:TX)(F:Fn)(k:Nat)(ds:List V)(body:List XS):Prop extends FnOk0 f F k ds where
 body:eB gt 60 (bq F.st) (bD F.st)=TR body
noncomputable abbrev FK(a k:Nat)(ds:List V)(body:List XS):Prop:=dT a (yF a) k ds body
theorem t8{v:TZ}:∀{l:List (U6×TZ)},(l.map (·.1)).Nodup->(k,v)∈l->l.lookup k=TR v
 |(a,b)::r,nd,h=>by
  rw[UA,Uw]at nd;cases h with
  |head=>simp[YQ]
  |tail _ h=>
   have:k≠a:=λe=>nd.1 (e▸V9 (f:=(·.1)) h)
   rewrite[List.lookup_cons];refine(beq_eq_false_iff_ne.mpr this).symm▸?_;exact t8 nd.2 h
set_option tactic.hygienic true in
theorem AK{B:PH}{x:U6}{v:V}(ok:aG x=TV){ps:List String}:∀{vs:List TZ} {xs:List V},aq B vs xs->(∀p∈ps,aG (so p)=TV)->aak ((ps.map λp=>nc (so p)).zip xs) (nc x)=TR v->∃val,(x,val)∈(ps.map so).zip vs/\VR B val v:=by
 induction ps with
 |nil=>intro vs xs _ _ h;exact nn h
 |cons p ps ih=>
  intro vs xs H hp h;cases xs with
  |nil=>exact nn h
  |cons y xs=>
   cases H with
   |cons hv K8=>
    rename_i w vs;rw[UA,List.zip_cons_cons,cC]at h;by_cases q:nc (so p)=nc x
    ·rw[if_pos q]at h;obtain rfl:=TU h;have e:=fA (hp p (.head _)) ok q;subst e;exact⟨w,.head _,hv⟩
    ·rw[if_neg q]at h;refine aj (ih K8 (λp Lu=>hp p (.tail _ Lu)) h) λval KY=>?_
     exact⟨val,.tail _ KY.1,KY.2⟩
theorem t9{α β:Type}(f:α->β){l:List α}(h:(l.map f).Nodup):l.Nodup:=by have:=List.pairwise_map.mp h;exact Xa (λ{a b} (q:f a≠f b) e=>q (congrArg f e)) this
noncomputable def br:Fl->V
 | .ret r=>r
 |_=>.none
def PK.ret(Q:PQ):PK:=λfl _ M=>Q (br fl) M
theorem o8{f:TX}{F:Fn}{k n:Nat}{ds args:List V}{M:aa}{Q:PQ}{E:PE}(ok:FnOk0 f F k ds)(hl:args.length=k)(h:∀(c:Cx) (B:PH) (own:List TX) (s:aav),c.env.scope=bq F.st->gI c->St c n ((F.ps.map λp=>nc (so p)).zip (args++ds)) M B own s.heap->Uh (Uj pw c.w) c.A (execs (bD F.st) c.env) (bI c.env.locals B own s (PK.ret Q)) (cS c.env.locals B own s E) s):dL (n+1) (.ref f) args M Q E:=by
 intro w A base fr B own s fv vs S hf K8;induction hf;have X:=S.kin;have LT:=ok.flags;unfold fB at LT;simp only[Uq,V0,decide_eq_true_eq]at LT;obtain⟨⟨⟨⟨⟨f1,f2⟩,f3⟩,f4⟩,f5⟩,f6⟩:=LT;have PM:∀p∈F.ps,aG (so p)=TV/\(bq F.st).names.lookup (so p)=TR .local:=λp hp=>by have:=List.all_eq_true.mp f5 p hp;rw[Uq,decide_eq_true_eq]at this;exact this
 obtain⟨dv,Ob,hb⟩:=ok.bind w.params base S.gr.inn vs (K8.length.trans hl);have Lw:∀a o,base.get? a=TR o->s.heap.get? a=TR o:=λa o e=>S.sta.keep a o (S.base a o e)
 have NA:aq B (vs++dv) (args++ds):=K8.append (Ob.mono S.base);refine(codeAny_call_def (fd:=F.fd) (binds:=(F.ps.map so).zip (vs++dv)) (by have:=S.room;exact ab [_,_] ad (Ar.n 1000) ((X0.a ay).a N1) (Ar.n 1000) this rfl) (X _ _ (ok.look _)) rfl (S.gr.nolimit.keeps Lw) (codeRec_of X (ok.code _)) rfl (hb s Lw) (λx hx=>of_decide_eq_true (List.all_eq_true.mp f4 x hx)) (λy hy=>?_) (λh₀ Lj hk=>?_) f1 f2 f3)
 ·obtain⟨a,b⟩:=y;obtain⟨p,hp,rfl⟩:=List.mem_map.mp (Y1 hy).1;exact(PM p hp).2
 ·have Lf:s.heap.objs.size<h₀.objs.size:=let⟨o,_,_,ho,_⟩:=Lj;UB ho
  let env:=callEnv F.fd s.heap.objs.size f
  let c:Cx:={w:=w,A:=A.deeper env,base:=base,env:=env,fr:=env::fr}
  have T0:aA B M own h₀:=S.sta.keeps hk;have fresh:=S.sta.fresh (cv s.heap);have Rc:base.get? s.heap.objs.size=Ue:=by
   cases q:base.get? s.heap.objs.size with
   |none=>rfl
   |some o=>have:=S.base _ _ q;rw[fresh.1]at this;exact nn this
  have S0:St c n ((F.ps.map λp=>nc (so p)).zip (args++ds)) M B own h₀:=by
   refine⟨S.par,S.gr,rfl,rfl,rfl,f3,?_,λq=>S.hand (by exact TY _),S.guards,?_,?_,?_,S.base,⟨_,Lj,λx v Lx hx=>?_⟩,fresh.1,fresh.2,λe he L hL=>?_,T0⟩
   ·exact XR S.frames
   ·show A.depth+1+n<_;have:=S.room;exact ab [_,_] ((ad.a X1).a N1) (Ar.n 1000) ((X0.a ay).a N1) (Ar.n 1000) this rfl
   ·show A.units+3+8*n+4<_;have:=S.units;exact ab [_,_] ((((X0.a N3).a (Ar.m 8 X1)).a N4).a N1) (Ar.n 9900) (((X0.a (Ar.m 8 ay)).a N4).a N1) (Ar.n 9900) this rfl
   ·obtain⟨o,es,ep,ho,hd,_⟩:=Lj;refine⟨by show(bq F.st).kind≠.module;rw[f3];decide,⟨_,o,rfl,Rc,ho,λvs q=>by rw[hd]at q;cases q⟩,?_⟩;exact S.fun_.of_keeps λb o e _=>⟨o,hk b o e,rfl⟩
   ·obtain⟨val,hm,hr⟩:=AK Lx NA (λp hp=>(PM p hp).1) hx;refine⟨val,t8 ?_ (List.mem_reverse.mpr hm),hr⟩;refine(V4).symm▸?_;refine List.pairwise_reverse.mpr (Xa (λh=>Uf h) ?_);show List.Nodup _;have e:(((F.ps.map so).zip (vs++dv)).map (·.1))=F.ps.map so:=by refine YI ?_;rewrite[UK];refine(Ui).symm▸?_;refine(K8.length).symm▸?_;refine(Ob.length).symm▸?_;refine(hl).symm▸?_;refine(ok.len).symm▸?_;exact UE _
    refine(e).symm▸?_;have:=o7 f6;rw[show(F.ps.map λp=>nc (so p))=(F.ps.map so).map nc by rw[U8];rfl]at this;exact t9 nc this
   ·cases he with
    |head=>obtain rfl:=TU hL;exact fresh
    |tail _ he=>exact S.frB e he L hL
  have H:=h c B own {s with heap:=h₀,toks:=s.toks+((F.ps.map so).zip (vs++dv)).length} rfl ⟨rfl,⟨fr,rfl⟩⟩ S0;have Re:∀b,s.heap.get? b≠Ue->h₀.get? b≠Ue:=λb q=>by
   cases e:s.heap.get? b with
   |none=>exact absurd e q
   |some o=>rw[hk b o e];exactλz=>by exact ns z
  have OD:∀b,h₀.get? b=Ue->s.heap.get? b=Ue:=λb q=>by
   cases e:s.heap.get? b with
   |none=>rfl
   |some o=>rw[hk b o e]at q;exact ns q
  have top:∀{B':PH} {K2:List TX} {h':Ux},aF B own h₀ B' K2 h' (λa=>a=c.env.locals)->aF B own s.heap B' K2 h' (λ_=>False):=by
   intro B' K2 h' P';refine⟨P'.le,λa e=>?_,λa e=>?_,λb o e nb _=>?_,λb q=>P'.alive b (Re b q)⟩
   ·rcases P'.newB a e with q|q|q
    ·exact .inl q
    ·exact .inr (.inl q)
    ·exact .inr (.inr (OD _ q))
   ·rcases P'.newO a e with q|q
    ·exact .inl q
    ·exact .inr (OD _ q)
   ·exact P'.same b o (hk b o e) nb (U7 (UB e))
  refine wpAny_mono H (λg s' hg=>?_) λx s' hx=>?_
  ·obtain⟨B',K2,fl,ρ',M',r',k',T',F',P',q'⟩:=hg;induction r' with
   |next=>exact⟨B',K2,M',⟨_,.none,k'⟩,T',top P',q'⟩
   |ret hv=>exact⟨B',K2,M',⟨_,hv,k'⟩,T',top P',q'⟩
   |cont=>exact⟨B',K2,M',⟨_,.none,k'⟩,T',top P',q'⟩
  ·obtain⟨B',K2,M',e,fs,fl,rfl,he,T',X',Li,F',P',q'⟩:=hx;have S':=S0.stepS T' F' P';refine AJ (XR S.frames) S'.fun_ rfl (λe he L hL=>S'.frB e he L hL) T' X' P'.alive Li λh' X2 Na=>?_
   exact⟨B',K2,M',e,fs,rfl,he,Na.sta T',X2.lower OD,top (Na.post P'),q'⟩
theorem AL{ds args:List V}(ok:dT f F k ds body)(hl:args.length=k)(h:dq n ((F.ps.map λp=>nc (so p)).zip (args++ds)) M body (PK.ret Q) E):dL (n+1) (.ref f) args M Q E:=o8 ok.toFnOk0 hl λc B own s K0 tp S=>h _ _ ((lE 60).ss ok.body) c B own s K0 tp S
end
section
variable[HasP]
noncomputable def ua:List TX:=(G0.filterMap λp=>match p.2 with| .ref a=>TR a|_=>TW)++o4.flatMap λp=>p.2.map (·.2)
set_option maxRecDepth 100000 in
theorem AM(P:Ur):ua.all (λf=>keepIn (KW P) (.ref f))=TV:=by kernel_rfl
noncomputable def ib(f:TX):Bool:=ua.any λg=>UN g f
theorem AN(h:ib f=TV):keepIn (KW P) (.ref f)=TV:=by
 refine aj (List.any_eq_true.mp h) λg KY=>?_
 refine(Ut KY.2)▸?_;exact List.all_eq_true.mp (AM P) g KY.1
theorem lP(h:jR e=TT):U1 (e::es) env=(TT,eval e env)::U1 es env:=by cases e<;>first|rfl|exact bt h
theorem dS.plain{sc:UG}(h:Ts gt sc es xs)(env:Yj)(pos:Pos):(VP pos (U1 es env)).any (·.1)=TT/\(VP pos (U1 es env)).all (!·.1)=TV:=by
 induction es generalizing xs with
 |nil=>exact⟨rfl,rfl⟩
 |cons e es ih=>
  cases h.v with
  |cons hs _ ht=>refine(lP hs).symm▸?_;have:=ih ht;exact⟨by show(TT||_)=TT;rw[Bool.false_or];exact this.1,by show(!TT&&_)=TV;rw[UL,Bool.true_and];exact this.2⟩
theorem lQ{sc:UG}(hT:Ts gt sc es xs)(h:Uh mo A (spliced (VP pos (U1 es env))) (λvs Ld=>Q ⟨vs,[]⟩ Ld) E s):Uh mo A (evalArgs f TV (VP pos (U1 es env)) []) Q E s:=by
 induction hT.v with
 |nil=>unfold evalArgs;show Uh mo A (spliced []>>=_) _ _ s;refine wpAny_bind (wpAny_mono h (λvs s' h'=>?_) λ_ _ x=>x);refine wpAny_holding ?_;exact wpAny_bind (wpAny_pure (wpAny_bind (wpAny_pure (wpAny_pure h'))))
 |cons hs h1 h2=>rw[lP hs]at h⊢;exact evalArgs_plain h
theorem j6{sc:UG}{es:List Up}{xs:List X}(hT:Ts gt sc es xs){mo:Model}{A:UT}{env:Yj}{pos:Pos}{f:TZ}{first:List TZ}{P:Ux->Prop}{Q:TZ->aav->Prop}{E:TZ->aav->Prop}{s:aav}(hk:∀h,P h->∃k,(k=ZE\/k=Zh\/k=Yw)/\Looks mo h (keeperOf f) k)(h:Uh mo A (spliced (VP pos (U1 es env))) (λvs Ld=>P Ld.heap/\Uh mo A (Vl f (first++vs)) Q E Ld) E s):Uh mo A (callWith pos f first (VP pos (U1 es env)) []) Q E s:=by refine callWith_of (P:=P) (by rw[(hT.plain env pos).1];rfl) hk ?_;exact lQ hT h
theorem lR(hc:ib f=TV):∀h:Ux,(KW P).In h->∃k,(k=ZE\/k=Zh\/k=Yw)/\Looks mo h (keeperOf (.ref f)) k:=λh X=>keeps_K (AN hc) h X
theorem ic{as:List Up}(h:on f=TT):eval (.Call f as [] p) env=(do callWith p (<-eval f env) [] (VP p (U1 as env)) []):=by cases f<;>first|rfl|exact bt h
theorem AO(hc:ib f=TV)(h:dK n ρ M xs (λvs M1=>dL n (.ref f) vs M1 Q E) E):Ev n ρ M (.call (.cst (.ref f)) xs) Q E:=by
 intro sc e hT c B own s K0 S;induction hT with
 |call Mp hf hs=>
  refine(ic Mp).symm▸?_;refine aT.bind S (fR (Q:=λr M1=>r=.ref f/\M1=M) ⟨rfl,rfl⟩ _ _ hf c B own s K0 S) λfv s1 B1 K1 M1 ⟨r,LU,hr,hM⟩ S1 l1=>?_
  subst hr hM;induction LU;refine j6 (P:=(KW c.w.params).In) hs (lR hc) (wpAny_mono (h _ _ hs c B1 K1 s1 _ K0 S1) (λvs s2 h2=>?_) λ_ _ h=>h);obtain⟨B2,K9,M2,⟨rs,r2,k⟩,T2,P2,q2⟩:=h2;have S2:=S1.step T2 P2;exact⟨S2.kin,wpAny_mono (wpAny_call (k c.w c.A c.base c.fr B2 K9 s2 _ _ (S2.sc (UE _)) (.ref f) r2)) (λv s3 h3=>h3.step P2 q2) λ_ _ h3=>h3.step P2 q2⟩
set_option tactic.hygienic true in
theorem aQ.none{id:U6}(ok:aG id=TV):∀{es:List Un},aQ B es fs->aak fs (nc id)=Ue->es.find? (·.key.isStr id)=Ue:=by
 induction fs with
 |nil=>intro es F _;induction F;rfl
 |cons p fs ih=>
  intro es F h;obtain⟨k,y⟩:=p;induction F with
  |cons hk MY hv r=>
   rename_i e k t es;rw[cC]at h;by_cases q:nc k=nc id
   ·rw[if_pos q]at h;exact ns h
   ·rw[if_neg q]at h;rw[Wy ?_]
    ·exact ih r h
    ·refine(hk).symm▸?_;exactλz=>q (congrArg nc (eq_of_beq z))
theorem aQ.shadow{id:U6}(F:aQ B es.toList fs)(hd:od.data=.dict es n)(ok:aG id=TV)(h:aak fs (nc id)=Ue):shadowIn (TR od) id=TR TT:=by show(WS id od).map _=_;unfold WS;refine(hd).symm▸?_;dsimp only;refine(aQ.none ok F h).symm▸?_;dsimp only;refine(F.keys).symm▸?_;rfl
end
section
variable[HasP]
abbrev o9(B:PH)(own:List TX)(s:aav)(Q:Bool->aa->Prop):Bool->aav->Prop:=aT B own s (λ_ b M'=>Q b M')
def dr(n:Nat)(ρ:af)(M:aa)(x:X)(Q:Bool->aa->Prop)(E:PE):Prop:=∀sc e,T gt sc e x->∀(c:Cx) (B:PH) (own:List TX) (s:aav),c.env.scope=sc->St c n ρ M B own s.heap->Uh (Uj pw c.w) c.A (isTrue e c.env (eval e c.env)) (o9 B own s Q) (bg B own s E) s
def fC(op:BoolOp)(n:Nat)(ρ:af)(M:aa)(xs:List X)(Q:Bool->aa->Prop)(E:PE):Prop:=∀sc e,Ts gt sc e xs->∀(c:Cx) (B:PH) (own:List TX) (s:aav),c.env.scope=sc->St c n ρ M B own s.heap->Uh (Uj pw c.w) c.A (allTrue op e c.env) (o9 B own s Q) (bg B own s E) s
noncomputable def ub(x:X):Bool:=bif W6 x.ctorIdx 4 then TV else UN x.ctorIdx 12
theorem AP(k:isTrue e c.env m=(do let v<-m;standAt e.pos;holding [v] (truthy v)))(S:St c n ρ M B own s.heap)(h:Uh (Uj pw c.w) c.A m (aC B own s λr M1=>∃b,r=.bool b/\Q b M1) (bg B own s E) s):Uh (Uj pw c.w) c.A (isTrue e c.env m) (o9 B own s Q) (bg B own s E) s:=by
 rw[k];refine aT.bind S h λv s1 B1 K1 M1 ⟨r,hv,b,hr,q⟩ S1 l1=>?_
 subst hr;induction hv;exact wpAny_bind (wpAny_standAt (wpAny_holding (wpAny_truthy_bool (aT.here S1.sta q))))
theorem AQ(hx:ub x=TV)(h:Ev n ρ M x (λr M1=>∃b,r=.bool b/\Q b M1) E):dr n ρ M x Q E:=by intro sc e hT c B own s K0 S;have h':=h _ _ hT c B own s K0 S;revert h';cases x<;>first|exact bf hx|(cases hT<;>exactλh'=>AP rfl S h')
theorem AR(h:dr n ρ M x (λb M1=>Q (!b) M1) E):dr n ρ M (.not x) Q E:=by
 intro sc e hT c B own s K0 S;induction hT with
 |not h1=>exact wpAny_isTrue_Not (wpAny_mono (h _ _ h1 c B own s K0 S) (λ_ _ ⟨B',K2,M',r,T,P,q⟩=>⟨B',K2,M',r,T,P,q⟩) λ_ _ q=>q)
theorem AS(h:Q (op==.And) M):fC op n ρ M [] Q E:=by intro sc e hT c B own s K0 S;cases hT;exact wpAny_pure (aT.here S.sta h)
set_option tactic.hygienic true in
theorem AU(h:dr n ρ M x (λb M1=>if b=TV then fC .And n ρ M1 xs Q E else Q TT M1) E):fC .And n ρ M (x::xs) Q E:=by
 intro sc e hT c B own s K0 S;induction hT with
 |cons hs h1 h2=>
  rename_i e es;have key:allTrue .And (e::es) c.env=(isTrue e c.env (eval e c.env)>>=λb=>match b with|true=>allTrue .And es c.env|false=>pure TT):=by
   show(_>>=_)=(_>>=_)
   congr 1
   funext b
   induction b<;>rfl
  refine(key).symm▸?_;refine aT.bind S (h _ _ h1 c B own s K0 S) λb s1 B1 K1 M1 k S1 l1=>?_
  induction b with
  |false=>exact wpAny_pure (aT.here S1.sta (by simpa using k))
  |true=>exact(show fC .And n ρ M1 xs Q E by simpa using k) _ _ h2 c B1 K1 s1 K0 S1
set_option tactic.hygienic true in
theorem AV(h:dr n ρ M x (λb M1=>if b=TV then Q TV M1 else fC .Or n ρ M1 xs Q E) E):fC .Or n ρ M (x::xs) Q E:=by
 intro sc e hT c B own s K0 S;induction hT with
 |cons hs h1 h2=>
  rename_i e es;have key:allTrue .Or (e::es) c.env=(isTrue e c.env (eval e c.env)>>=λb=>match b with|false=>allTrue .Or es c.env|true=>pure TV):=by
   show(_>>=_)=(_>>=_)
   congr 1
   funext b
   induction b<;>rfl
  refine(key).symm▸?_;refine aT.bind S (h _ _ h1 c B own s K0 S) λb s1 B1 K1 M1 k S1 l1=>?_
  induction b with
  |true=>exact wpAny_pure (aT.here S1.sta (by simpa using k))
  |false=>exact(show fC .Or n ρ M1 xs Q E by simpa using k) _ _ h2 c B1 K1 s1 K0 S1
theorem AW(h:fC .And n ρ M xs Q E):dr n ρ M (.band xs) Q E:=by
 intro sc e hT c B own s K0 S;induction hT with
 |band h1=>exact h _ _ h1 c B own s K0 S
theorem AX(h:fC .Or n ρ M xs Q E):dr n ρ M (.bor xs) Q E:=by
 intro sc e hT c B own s K0 S;induction hT with
 |bor h1=>exact h _ _ h1 c B own s K0 S
def cy(op:CmpOp)(a b:V)(M:aa)(r:Bool):Prop:=∀(c:Cx) (n:Nat) (ρ:af) (B:PH) (own:List TX) (s:aav) (va vb:TZ) (E:TZ->aav->Prop),St c n ρ M B own s.heap->VR B va a->VR B vb b->Uh (Uj pw c.w) c.A (compareOp op va vb) (λv s'=>v=.bool r/\s'.heap=s.heap/\bl s s') E s
theorem uc(h:eX r=TT):behindInMarks op r=TT:=by cases r<;>first|rfl|exact bt h
theorem AY(h:Ev n ρ M a (λra M1=>Ev n ρ M1 b (λrb M2=>∃r,cy op ra rb M2 r/\Q (.bool r) M2) E) E):Ev n ρ M (.cmp op a b) Q E:=by
 intro sc e hT c B own s K0 S;induction hT with
 |cmp h1 h2 hs=>
  refine wpAny_Compare1 (wpAny_mono (h _ _ h1 c B own s K0 S) (λva s1 h=>?_) λ_ _ h=>h) (uc hs);obtain⟨B1,K1,M1,⟨ra,LQ,k⟩,T1,P1,q1⟩:=h;refine wpAny_mono (k _ _ h2 c B1 K1 s1 K0 (S.step T1 P1)) (λvb s2 h=>?_) λ_ _ h=>h.step P1 q1
  obtain⟨B2,K9,M2,⟨rb,NB,r,hc,k⟩,T2,P2,q2⟩:=h;refine wpAny_mono (hc c n ρ B2 K9 s2 va vb _ ((S.step T1 P1).step T2 P2) (LQ.mono P2.le) NB) (λv s3 h=>?_) λ_ _ h=>h
  have KY:=h.1;subst KY;exact aT.step (P1.trans P2) (q1.trans q2) (aC.here T2 (.bool r) k h.2.1 h.2.2)
theorem AZ(h:Ev n ρ M a (λra M1=>Ev n ρ M1 b (λrb M2=>∃r,cy op ra rb M2 r/\Q r M2) E) E):dr n ρ M (.cmp op a b) Q E:=by
 intro sc e hT c B own s K0 S;induction hT with
 |cmp h1 h2 hs=>
  refine wpAny_isTrue_Compare1 (wpAny_mono (h _ _ h1 c B own s K0 S) (λva s1 h=>?_) λ_ _ h=>h) (uc hs);obtain⟨B1,K1,M1,⟨ra,LQ,k⟩,T1,P1,q1⟩:=h;refine wpAny_mono (k _ _ h2 c B1 K1 s1 K0 (S.step T1 P1)) (λvb s2 h=>?_) λ_ _ h=>h.step P1 q1
  obtain⟨B2,K9,M2,⟨rb,NB,r,hc,k⟩,T2,P2,q2⟩:=h;refine wpAny_mono (hc c n ρ B2 K9 s2 va vb _ ((S.step T1 P1).step T2 P2) (LQ.mono P2.le) NB) (λv s3 h=>?_) λ_ _ h=>h
  have KY:=h.1;subst KY;exact wpAny_truthy_bool (aT.step (P1.trans P2) (q1.trans q2) (aT.here T2 k h.2.1 h.2.2))
theorem A0(h:Ev n ρ M x (λr M1=>∃b,r=.bool b/\Q (.bool (!b)) M1) E):Ev n ρ M (.not x) Q E:=by
 intro sc e hT c B own s K0 S;induction hT with
 |not h1=>refine wpAny_UnaryOp (wpAny_mono (h _ _ h1 c B own s K0 S) (λva s1 h=>?_) λ_ _ h=>h);obtain⟨B1,K1,M1,⟨ra,LQ,b,rfl,k⟩,T1,P1,q1⟩:=h;induction LQ;refine wpAny_bind (wpAny_truthy_bool (wpAny_pure ?_));exact aT.step P1 q1 (aC.here T1 (.bool _) k)
theorem A1(h:dr n ρ M t (λr M1=>if r=TV then Ev n ρ M1 a Q E else Ev n ρ M1 b Q E) E):Ev n ρ M (.ite t a b) Q E:=by
 intro sc e hT c B own s K0 S;induction hT with
 |ite h1 h2 h3=>
  refine wpAny_IfExp (wpAny_mono (h _ _ h1 c B own s K0 S) (λr s1 h=>?_) λ_ _ h=>h);obtain⟨B1,K1,M1,k,T1,P1,q1⟩:=h;have S1:=S.step T1 P1;induction r with
  |true=>exact wpAny_mono ((show Ev n ρ M1 a Q E by simpa using k) _ _ h2 c B1 K1 s1 K0 S1) (λ_ _ h=>h.step P1 q1) λ_ _ h=>h.step P1 q1
  |false=>exact wpAny_mono ((show Ev n ρ M1 b Q E by simpa using k) _ _ h3 c B1 K1 s1 K0 S1) (λ_ _ h=>h.step P1 q1) λ_ _ h=>h.step P1 q1
theorem pd{K:PK}(h:dr n ρ M t (λr M1=>if r=TV then dq n ρ M1 a K E else dq n ρ M1 b K E) E):cE n ρ M (.ite t a b) K E:=by
 intro sc e hT c B own s K0 tp S;induction hT with
 |ite h1 h2 h3=>
  refine wpAny_If (wpAny_mono (h _ _ h1 c B own s K0 S) (λr s1 h=>?_) λ_ _ h=>h.toS S);obtain⟨B1,K1,M1,k,T1,P1,q1⟩:=h;have S1:=S.step T1 P1;have Lp:=P1.weaken (P':=λa=>a=c.env.locals) λ_ h=>h.elim
  induction r with
  |true=>exact wpAny_mono ((show dq n ρ M1 a K E by simpa using k) _ _ h2 c B1 K1 s1 K0 tp S1) (λ_ _ h=>h.step Lp q1) λ_ _ h=>h.step Lp q1
  |false=>exact wpAny_mono ((show dq n ρ M1 b K E by simpa using k) _ _ h3 c B1 K1 s1 K0 tp S1) (λ_ _ h=>h.step Lp q1) λ_ _ h=>h.step Lp q1
theorem A2{K:PK}(k:K .cont ρ M):cE n ρ M .cont K E:=by intro sc e hT c B own s K0 tp S;induction hT;exact wpAny_Continue (bI.of S .refl (.refl _) .cont k)
theorem A3{K:PK}(k:K .next ρ M):cE n ρ M .pass K E:=by intro sc e hT c B own s K0 tp S;induction hT;exact wpAny_Pass (bI.of S .refl (.refl _) .next k)
end
section
variable[HasP]
theorem j7{id:U6}{v:V}(S:St c n ρ M B own s.heap)(hk:c.env.scope.names.lookup id=TR .local)(ok:aG id=TV)(hv:VR B val v):Uh mo A (storeName c.env id val) (λ_ s'=>aA B M own s'.heap/\cI B (ag ρ (nc id) v) s'.heap c.env.locals/\aF B own s.heap B own s'.heap (λa=>a=c.env.locals)/\bl s s') E s:=by
 obtain⟨m,hm,H⟩:=S.loc;refine wpAny_storeName_local hk hm (λh' hn hs=>?_) (by rw[S.kind];rfl);have keep:∀b o,b≠c.env.locals->s.heap.get? b=TR o->h'.get? b=TR o:=λb o hb e=>hs.extBut b o hb e
 have nB:∀b,B b≠Ue->b≠c.env.locals:=λb hb q=>hb (q▸S.locB)
 have nO:∀b,b∈own->b≠c.env.locals:=λb hb q=>S.locO (q▸hb)
 refine⟨⟨λa o e=>keep a o (nB a (by rw[e];exactλq=>by exact ns q)) (S.sta.keep a o e),S.sta.mr.keeps (Le.refl B) λa ha o e=>keep a o (nO a ha) e,S.sta.nd,S.sta.dis,S.sta.big⟩,⟨_,hn,λx w Lx hw=>?_⟩,⟨Le.refl B,λ_ e=>.inl e,λ_ e=>.inl e,λb o e _ hb=>⟨o.slots,keep b o hb e⟩,λb hb=>?_⟩,⟨rfl,rfl⟩⟩
 case refine_2=>
  by_cases q:b=c.env.locals
  ·refine bO hn λo _ _ KY=>?_
   subst q;show h'.get? _≠_;rw[KY.1];exactλz=>by exact ns z
  ·cases e:s.heap.get? b with
   |none=>exact absurd e hb
   |some o=>show h'.get? _≠_;rw[keep b o q e];exactλz=>by exact ns z
 rw[ak]at hw;split at hw
 ·rename_i q;obtain rfl:=TU hw;exact⟨val,by rw[if_pos (fA Lx ok q.symm)],hv⟩
 ·rename_i q;refine aj (H x w Lx hw) λOE KY=>?_
  exact⟨OE,by rw[if_neg (λz=>q (by rw[z]))];exact KY.1,KY.2⟩
theorem ig{v:Up}{l:Nat}(h:eW v=TT):swapsWith v t l env=pure TT:=by cases v<;>first|rfl|exact bt h
theorem A4{K:PK}(h:Ev n ρ M x (λr M1=>K .next (ag ρ k r) M1) E):cE n ρ M (.asg k x) K E:=by
 intro sc e hT c B own s K0 tp S;have go:∀{id q v p},sc.names.lookup id=TR .local->aG id=TV->T gt sc v x->nc id=k->(swapsWith v (TR (.Name id q)) p.line c.env=pure TT)->Uh (Uj pw c.w) c.A (exec (.Assign [.Name id q] v p) c.env) (bI c.env.locals B own s K) (cS c.env.locals B own s E) s:=by
  intro id q v p hk ok h1 Rf hs;subst Rf;refine wpAny_Assign_Name (wpAny_mono (h _ _ h1 c B own s K0 S) (λval s1 hv=>?_) λ_ _ h=>h.toS S) hs;obtain⟨B1,K1,M1,⟨r,hr,k⟩,T1,P1,q1⟩:=hv;refine wpAny_mono (j7 (S.step T1 P1) (by rw[K0];exact hk) ok hr) (λ_ s2 hv=>?_) λ_ _ h=>h
  exact⟨B1,K1,.next,_,M1,.next,k,hv.1,hv.2.1,(P1.weaken λ_ h=>h.elim).trans hv.2.2.1,q1.trans hv.2.2.2⟩
 induction hT with
 |asg hk ok hc h1=>exact go hk ok h1 rfl (ig hc)
 |asgC hk ok h1=>exact go hk ok h1 rfl rfl
theorem A5{K:PK}(h:Ev n ρ M x (λr M1=>K .next ρ M1) E):cE n ρ M (.expr x) K E:=by
 intro sc e hT c B own s K0 tp S;induction hT with
 |expr hc h1=>
  have hi:interactive c.env=TT:=by unfold interactive;refine(S.kind).symm▸?_;rfl
  refine wpAny_Expr_any (wpAny_mono (h _ _ h1 c B own s K0 S) (λv s1 hv=>?_) λ_ _ h=>h.toS S) hi (ig hc);obtain⟨B1,K1,M1,⟨r,hr,k⟩,T1,P1,q1⟩:=hv;exact bI.of (S.step T1 P1) P1 q1 .next k
theorem pe{v:TZ}(h:cameBackBy mo A env E v s)(i:∀v s,E v s->E' v s):cameBackBy mo A env E' v s:=wpAny_mono h (λ_ s h=>i v s h) i
def ii(c:Cx)(B:PH)(own:List TX)(s:aav)(K:PK)(E:PE):Result->aav->Prop:=λr s'=>match r with
 | .ok f=>bI c.env.locals B own s K f s'
 | .error x=>cameBackBy (Uj pw c.w) c.A c.env (λv s'=>cS c.env.locals B own s E v s') x s'
theorem pf{v:TZ}(tp:gI c)(S:St c n ρ M B own s.heap)(x:cS c.env.locals B own s E v s1):notedBy (Uj pw c.w) c.A c.env (λe s'=>cameBackBy (Uj pw c.w) c.A c.env (λv s'=>cS c.env.locals B own s E v s') e s') v s1:=by
 obtain⟨B',K2,M',e,fs,fl,rfl,he,T',X',Li,F',P',q'⟩:=x;have S':=S.stepS T' F' P';refine aj tp.top λouter ho=>?_
 unfold notedBy;refine o6 (by rw[S'.frames,ho]) (by rw[<-ho];exact S'.fun_) tp.frame (λe he L hL=>S'.frB e (by rw[ho];exact he) L hL) T' X' P'.alive Li λh1 X1 k1=>?_
 unfold cameBackBy;obtain⟨oe,vs,d,od,es,n,Nb,h2,h3,h4,h5,h6,h7,h8,h9,Lh,T1,oT,ts,a1,a2⟩:=(id X1);refine wpAny_bind (wpAny_field Nb h3 a1 ?_);rw[if_neg (show¬((Vk T1==Vz)=TV) from by simp)];refine(tp.frame).symm▸?_;refine lO X1 λh2 X2 k2=>?_
 have kk:=k1.trans k2;exact⟨B',K2,M',e,fs,_,rfl,he,kk.sta T',X2,.inr (.inr rfl),kk.fr F',kk.post P',q'⟩
def i6(n:Nat)(ρ:af)(M:aa)(t:X)(b:List XS)(K:PK)(E:PE):Prop:=∀sc e bb,T gt sc e t->fP gt sc bb b->∀(c:Cx) (B:PH) (own:List TX) (s:aav),c.env.scope=sc->gI c->St c n ρ M B own s.heap->Vc (Uj pw c.w) c.A (.whileLoop e bb [] c.env) (ii c B own s K E) s
theorem ii.step{K:PK}(P:aF B own s.heap B1 K1 s1.heap λa=>a=c.env.locals)(q:bl s s1)(h:ii c B1 K1 s1 K E r s'):ii c B own s K E r s':=by
 induction r with
 |ok f=>exact bI.step P q h
 |error x=>exact pe h λv s h=>h.step P q
theorem ud{K:PK}(h:dr n ρ M t (λr M1=>if r=TV then dq n ρ M1 b (λfl Lg M2=>match fl with| .ret v=>K (.ret v) Lg M2|_=>i6 n Lg M2 t b K E) E else K .next ρ M1) E):i6 n ρ M t b K E:=by
 intro sc e bb hT MO c B own s K0 tp S;refine codeAny_of_tree ?_;show Uh _ c.A ((whileTurn e bb [] c.env).onRaise (λx=>do noteFrame x c.env;theTreesLotGoes x)) _ _ s;refine wpAny_noted ?_;simp only[whileTurn];refine wpAny_bind (wpAny_mono (h _ _ hT c B own s K0 S) (λr s1 h=>?_) λ_ _ h=>pf tp S (h.toS S));obtain⟨B1,K1,M1,k,T1,P1,q1⟩:=h;have S1:=S.step T1 P1;have Lp:=P1.weaken (P':=λa=>a=c.env.locals) λ_ h=>h.elim
 induction r with
 |false=>simp only[UC,if_false]at k⊢;exact wpAny_bind (wpAny_execs_nil (wpAny_pure (bI.of S1 P1 q1 .next k)))
 |true=>
  simp only[if_true]at k⊢;refine wpAny_bind (wpAny_mono (k _ _ MO c B1 K1 s1 K0 tp S1) (λf s2 h=>?_) λ_ _ h=>pf tp S (h.step Lp q1));obtain⟨B2,K9,fl,Lg,M2,r2,k2,T2,F2,P2,q2⟩:=h;have PP:=Lp.trans P2;induction r2 with
  |next=>exact wpAny_pure ⟨rfl,codeAny_mono (k2 _ _ _ hT MO c B2 K9 s2 K0 tp (S1.stepS T2 F2 P2)) λr s' h=>ii.step PP (q1.trans q2) h⟩
  |cont=>exact wpAny_pure ⟨rfl,codeAny_mono (k2 _ _ _ hT MO c B2 K9 s2 K0 tp (S1.stepS T2 F2 P2)) λr s' h=>ii.step PP (q1.trans q2) h⟩
  |ret hv=>exact wpAny_pure ⟨B2,K9,_,Lg,M2,.ret hv,k2,T2,F2,PP,q1.trans q2⟩
theorem ue{K:PK}(h:i6 n ρ M t b K E):cE n ρ M (.while t b) K E:=by
 intro sc e hT c B own s K0 tp S;induction hT with
 |«while» h1 h2=>exact wpAny_While (codeAny_mono (h _ _ _ h1 h2 c B own s K0 tp S) λr s' h=>by induction r<;>exact h)
end
section
variable[HasP]
def du(op:Operator)(a b:V)(M:aa)(Q:PQ):Prop:=∀(c:Cx) (n:Nat) (ρ:af) (B:PH) (own:List TX) (s:aav) (va vb:TZ) (E:TZ->aav->Prop),St c n ρ M B own s.heap->VR B va a->VR B vb b->Uh (Uj pw c.w) c.A (binaryOp op va vb) (aC B own s Q) E s
theorem A6(h:Ev n ρ M a (λra M1=>Ev n ρ M1 b (λrb M2=>du op ra rb M2 Q) E) E):Ev n ρ M (.bin op a b) Q E:=by
 intro sc e hT c B own s K0 S;induction hT with
 |bin h1 h2=>
  refine wpAny_BinOp (wpAny_mono (h _ _ h1 c B own s K0 S) (λva s1 h=>?_) λ_ _ h=>h);obtain⟨B1,K1,M1,⟨ra,LQ,k⟩,T1,P1,q1⟩:=h;refine wpAny_mono (k _ _ h2 c B1 K1 s1 K0 (S.step T1 P1)) (λvb s2 h=>?_) λ_ _ h=>h.step P1 q1
  obtain⟨B2,K9,M2,⟨rb,NB,k⟩,T2,P2,q2⟩:=h;exact wpAny_mono (k c n ρ B2 K9 s2 va vb _ ((S.step T1 P1).step T2 P2) (LQ.mono P2.le) NB) (λv s3 h=>h.step (P1.trans P2) (q1.trans q2)) λ_ _ h=>h
theorem c5(x:U6):x.length=x.cps.toList.length:=by show x.cps.size=_;simp
theorem i7(x y:U6):(x++y).cps.toList=x.cps.toList++y.cps.toList:=by show(ZY x y).cps.toList=_;unfold ZY;simp
theorem A7(q:Q (.int (a+b)) M):du .Add (.int a) (.int b) M Q:=by intro c n ρ B own s va vb E S h1 h2;induction h1;induction h2;exact add_int (aC.here S.sta (.int _ _) q)
theorem A8(q:Q (.int (a-b)) M):du .Sub (.int a) (.int b) M Q:=by intro c n ρ B own s va vb E S h1 h2;induction h1;induction h2;exact sub_int (aC.here S.sta (.int _ _) q)
theorem A9(hm:IntMulOk a b)(q:Q (.int (a*b)) M):du .Mult (.int a) (.int b) M Q:=by intro c n ρ B own s va vb E S h1 h2;induction h1;induction h2;exact mul_int (aC.here S.sta (.int _ _) q) hm
theorem Ba(hb:b≠0)(q:Q (.int (a.fmod b)) M):du .Mod (.int a) (.int b) M Q:=by intro c n ρ B own s va vb E S h1 h2;induction h1;induction h2;exact mod_int hb (aC.here S.sta (.int _ _) q)
theorem Bb(hs:a.length+b.length<=Ub)(q:Q (.str (a++b)) M):du .Add (.str a) (.str b) M Q:=by
 intro c n ρ B own s va vb E S h1 h2;induction h1 with
 |str x t=>
  induction h2 with
  |str y u=>refine add_str (λt' tk=>aC.here S.sta (r:=.str (x.cps.toList++y.cps.toList)) ?_ q) (by rw[c5,c5];exact hs);rw[<-i7];exact .str _ _
end
section
variable[HasP]
mutual
noncomputable def lS(v:V):List TX:=V.casesOn (motive_1:=λ_=>List TX) v [] (λ_=>[]) (λ_=>[]) (λ_=>[]) (λxs=>i8 xs) (λxs=>i8 xs) (λ_ fs=>i9 fs) (λa _ fs=>a::i9 fs) (λ_=>[]) (λ_=>[]) (λ_=>[]) (λ_=>[])
noncomputable def i8:List V->List TX
 | []=>[]
 |x::xs=>lS x++i8 xs
noncomputable def i9:List (Nat×V)->List TX
 | []=>[]
 |p::xs=>lS p.2++i9 xs
end
noncomputable def pg:List (List Nat×V)->List TX
 | []=>[]
 |p::xs=>lS p.2++pg xs
noncomputable def lT:be->List TX
 | .inst _ fs=>i9 fs
 | .list xs=>i8 xs
 | .dict es=>pg es
 | .exn fs=>i9 fs
mutual
theorem VR.ids{B:PH}{v:TZ}:∀{x:V},VR B v x->∀a∈lS x,B a≠Ue
 | .none,_,_,h=>nomatch h
 | .bool _,_,_,h=>nomatch h
 | .int _,_,_,h=>nomatch h
 | .str _,_,_,h=>nomatch h
 | .ref _,_,_,h=>nomatch h
 | .bi _,_,_,h=>nomatch h
 | .ty _,_,_,h=>nomatch h
 | .arg _,_,_,h=>nomatch h
 | .tup _,r,a,h=>by induction r with|tup _ _ _ hv=>exact aq.ids hv a h
 | .lst _,r,a,h=>by induction r with|lst _ hv=>exact aq.ids hv a h
 | .obj _ _,r,a,h=>by induction r with|obj _ _ _ _ _ _ hf=>exact aQ.ids hf a h
 |.ido b _ _,r,a,h=>by
  induction r with
  |ido e _ _ _ _ _ hf=>
   cases h with
   |head=>rw[e];exactλq=>by exact ns q
   |tail _ h=>exact aQ.ids hf a h
theorem aq.ids{B:PH}:∀{x:List V} {v:List TZ},aq B v x->∀a∈i8 x,B a≠Ue
 | [],_,_,_,h=>nomatch h
 |_::_,_,r,a,h=>by induction r with|cons hv t=>exact(List.mem_append.mp h).elim (VR.ids hv a) (aq.ids t a)
theorem aQ.ids{B:PH}:∀{x:List (Nat×V)} {v:List Un},aQ B v x->∀a∈i9 x,B a≠Ue
 | [],_,_,_,h=>nomatch h
 |(_,_)::_,_,r,a,h=>by induction r with|cons _ _ hv t=>exact(List.mem_append.mp h).elim (VR.ids hv a) (aQ.ids t a)
end
theorem cD.ids:∀{v:List Un},cD B v x->∀a∈pg x,B a≠Ue:=by
 induction x with
 |nil=>intro v _ a h;cases h
 |cons p x ih=>intro v r a h;obtain⟨k,y⟩:=p;induction r with|cons _ _ hv t=>exact(List.mem_append.mp h).elim (VR.ids hv a) (ih t a)
theorem OB.ids{l:List TX}(x:OB B h a o l):∀b∈lT o,B b≠Ue:=by
 induction o with
 |inst c fs=>induction x with|mk _ _ _ _ _ _ _ hf=>exact aQ.ids hf
 |list xs=>induction x with|mk _ hv=>exact aq.ids hv
 |dict xs=>induction x with|mk _ hv _=>exact cD.ids hv
 |exn fs=>induction x with|mk _ _ _ _ _ _ hf=>exact aQ.ids hf
theorem MR.ids:∀{own:List TX},MR B h M own->∀p∈M,(p.1∈own)/\∀a∈lT p.2,B a≠Ue:=by
 induction M with
 |nil=>intro own _ p q;cases q
 |cons p M ih=>
  intro own R q hq;induction R with
  |mk x r=>
   cases hq with
   |head=>exact⟨Va _ x.self,x.ids⟩
   |tail _ hq=>exact⟨UU _ (ih r q hq).1,(ih r q hq).2⟩
def dz(a:TX)(M:aa):Prop:=∀p∈M,p.1≠a/\a∉lT p.2
theorem aA.new(T:aA B M own h):dz h.objs.size M:=λp hp=>by have KZ:=T.mr.ids p hp;have f:=T.fresh (cv h);exact⟨λ(q:p.1=h.objs.size)=>f.2 (by rw[<-q];exact KZ.1),λq=>KZ.2 _ q f.1⟩
theorem dz.lkp(h:dz a M):aak M a=TW:=by
 induction M with
 |nil=>rfl
 |cons p M ih=>rw[cC,if_neg (h p (.head _)).1];exact ih λq hq=>h q (.tail _ hq)
noncomputable def aZ(B:PH)(a:TX)(o:Vi):PH:=λx=>if x=a then TR o else B x
theorem eZ(h:B a=Ue):Le B (aZ B a o):=λx o' e=>by
 unfold aZ;split
 ·rename_i q;subst q;rw[h]at e;exact nn e
 ·exact e
theorem eE:aZ B a o a=TR o:=if_pos rfl
theorem pi{h:Ux}{o:Vi}{b:TX}(q:h.get? b≠Ue):(h.push o).get? b≠Ue:=by
 cases e:h.get? b with
 |none=>exact absurd e q
 |some o'=>rw[Ua _ e];exactλz=>by exact ns z
theorem aA.pushB{B:PH}{M:aa}{own:List TX}{h:Ux}{o:Vi}(T:aA B M own h)(hf:o.isFreed=TT):aA (aZ B h.objs.size o) M own (h.push o)/\aF B own h (aZ B h.objs.size o) own (h.push o) λ_=>False:=by
 have fr:=T.fresh (cv h);have le:=eZ (o:=o) fr.1;refine⟨⟨λa o' e=>?_,T.mr.keeps le λa _ o' e=>Ua _ e,T.nd,λa ha=>?_,?_⟩,le,λa e=>?_,λa e=>.inl e,λb o' e _ _=>⟨o'.slots,Ua _ e⟩,λb q=>pi q⟩
 ·unfold aZ at e;split at e
  ·rename_i q;subst q;obtain rfl:=TU e;exact Ul _ hf
  ·exact Ua _ (T.keep a o' e)
 ·unfold aZ;rw[if_neg (λ(q:a=h.objs.size)=>fr.2 (by rw[<-q];exact ha))];exact T.dis a ha
 ·refine⟨?_,T.big.2⟩;cases e:B 3 with
  |none=>exact absurd e T.big.1
  |some o=>rw[le _ _ e];exactλq=>by exact ns q
 ·unfold aZ at e;split at e
  ·rename_i q;exact .inr (.inr (by rw[q];exact cv h))
  ·exact .inl e
theorem aA.pushM{B:PH}{M:aa}{own:List TX}{h:Ux}{o:Vi}{x:be}(T:aA B M own h)(hR:MR B (h.push o) M own->MR B (h.push o) ((h.objs.size,x)::M) (h.objs.size::own)):aA B ((h.objs.size,x)::M) (h.objs.size::own) (h.push o)/\aF B own h B (h.objs.size::own) (h.push o) λ_=>False:=by
 have fr:=T.fresh (cv h);refine⟨⟨λa o' e=>Ua _ (T.keep a o' e),hR (T.mr.keeps (Le.refl B) λa _ o' e=>Ua _ e),List.nodup_cons.mpr ⟨fr.2,T.nd⟩,λa ha=>?_,T.big.1,λa ha=>?_⟩,Le.refl B,λa e=>.inl e,λa e=>?_,λb o' e _ _=>⟨o'.slots,Ua _ e⟩,λb q=>pi q⟩
 ·cases ha with
  |head=>exact fr.1
  |tail _ ha=>exact T.dis a ha
 ·cases ha with
  |head=>
   cases e:B 3 with
   |none=>exact absurd e T.big.1
   |some o=>exact UB (T.keep _ _ e)
  |tail _ ha=>exact T.big.2 a ha
 ·cases e with
  |head=>exact .inr (cv h)
  |tail _ e=>exact .inl e
def j8(M:aa)(xs:List V)(Q:PQ):Prop:=Q (.lst xs) M\/∀a,dz a M->Q (.ref a) ((a,.list xs)::M)
theorem lU(T:aA B M own s.heap)(hv:aq B vs xs)(q:j8 M xs Q):aC B own s Q (.ref s.heap.objs.size) {s with heap:=s.heap.push {cls:=.type "list",data:=.seq vs.toArray}}:=by
 rcases q with q|q
 ·obtain⟨T1,P1⟩:=T.pushB (o:={cls:=.type "list",data:=.seq vs.toArray}) rfl;exact⟨_,own,M,⟨_,.lst (n:=0) eE (hv.mono P1.le),q⟩,T1,P1,rfl,rfl⟩
 ·obtain⟨T1,P1⟩:=T.pushM (o:={cls:=.type "list",data:=.seq vs.toArray}) (x:=.list xs) λR=>.list (n:=0) (Ul _ rfl) hv R
  exact⟨B,_,_,⟨_,.ref _,q _ T.new⟩,T1,P1,rfl,rfl⟩
theorem Bc(h:dK n ρ M xs (λrs M1=>rs.length<=Ub/\j8 M1 rs Q) E):Ev n ρ M (.lst xs) Q E:=by
 intro sc e hT c B own s K0 S;induction hT with
 |lst hs=>refine wpAny_List (wpAny_mono (h _ _ hs c B own s _ K0 S) (λvs s1 h=>?_) λ_ _ h=>h);obtain⟨B1,K1,M1,⟨rs,hr,hl,q⟩,T1,P1,q1⟩:=h;exact⟨by rw[hr.length];exact hl,(lU T1 hr q).step P1 q1⟩
theorem Bd(h:dK n ρ M xs (λrs M1=>rs.length<=Ub/\Q (.tup rs) M1) E):Ev n ρ M (.tup xs) Q E:=by
 intro sc e hT c B own s K0 S;induction hT with
 |tup hs=>refine wpAny_Tuple (wpAny_mono (h _ _ hs c B own s _ K0 S) (λvs s1 h=>?_) λ_ _ h=>h);obtain⟨B1,K1,M1,⟨rs,hr,hl,q⟩,T1,P1,q1⟩:=h;refine⟨by rw[hr.length];exact hl,aT.step P1 q1 ?_⟩;obtain⟨T2,P2⟩:=T1.pushB (o:={cls:=.type "tuple",data:=.seq vs.toArray}) rfl;exact⟨_,K1,M1,⟨_,.tup eE rfl rfl (hr.mono P2.le),q⟩,T2,P2,rfl,rfl⟩
end
section
variable[HasP]
noncomputable def uf(v:V):Option Bool:=V.casesOn (motive_1:=λ_=>Option Bool) v (TR TV) (λ_=>(TR TT)) (λ_=>(TR TT)) (λ_=>(TR TT)) (λ_=>(TR TT)) (λ_=>(TR TT)) (λ_ _=>(TR TT)) (λ_ _ _=>(TR TT)) (λ_=>(TR TT)) (λ_=>TW) (λ_=>TW) (λ_=>TW)
noncomputable def lV(b d:TX)(v:V):Option Bool:=V.casesOn (motive_1:=λ_=>Option Bool) v (TR TT) (λ_=>TR TT) (λ_=>TR TT) (λ_=>TR TT) (λ_=>TW) (λ_=>TW) (λc _=>if c=d then TW else TR TT) (λa _ _=>TR (decide (a=b))) (λ_=>TW) (λ_=>TW) (λ_=>TW) (λ_=>TW)
noncomputable def c6(a:V)(v:V):Option Bool:=V.casesOn (motive_1:=λ_=>Option Bool) v (uf a) (λ_=>TW) (λ_=>TW) (λ_=>TW) (λ_=>TW) (λ_=>TW) (λ_ _=>TW) (λb d _=>lV b d a) (λ_=>TW) (λ_=>TW) (λ_=>TW) (λ_=>TW)
section
variable{B:PH}{M:aa}{own:List TX}{s:aav}{va vb:TZ}{a b:V}{r:Bool}{mo:Model}{A:UT}{E:TZ->aav->Prop}{R:Bool->aav->Prop}
theorem j9(p:plainIs va vb=TV)(q:(va==vb)=r)(hR:R r s):Uh mo A (isSame va vb) R E s:=wpAny_isSame_plain p (by rw[q];exact hR)
theorem Be(h1:VR B va a)(h:uf a=TR r)(hR:R r s):Uh mo A (isSame va .none) R E s:=by cases a<;>first|((first|exact nn h|obtain rfl:=TU h);done)|(obtain rfl:=TU h;cases h1;exact j9 rfl rfl hR)
theorem Bf(T:aA B M own s.heap)(h1:VR B va a)(h2:VR B vb (.ido y d fs))(h:lV y d a=TR r)(hR:R r s):Uh mo A (isSame va vb) R E s:=by
 induction h2 with
 |ido e hc _ _ _ _ _=>
  have refs:∀{x:TX} {ox:Vi} {cx:TX},B x=TR ox->x≠y->ox.cls=.ref cx->R TT s->Uh mo A (isSame (.ref x) (.ref y)) R E s:=λhx Nc Rg q=>wpAny_isSame_ref_other Nc (T.keep _ _ hx) (T.keep _ _ e) (by rw[Rg];exactλz=>by cases z) q
  cases a with
  |none=>obtain rfl:=TU h;induction h1;exact j9 rfl rfl hR
  |bool b=>obtain rfl:=TU h;induction h1;exact j9 rfl rfl hR
  |int i=>obtain rfl:=TU h;induction h1;exact j9 rfl rfl hR
  |str l=>obtain rfl:=TU h;induction h1;exact j9 rfl rfl hR
  |ido x c fs=>
   obtain rfl:=TU h;induction h1 with
   |ido e' Mq _ _ _ _ _=>
    by_cases q:x=y
    ·rw[decide_eq_true q]at hR;subst q;exact wpAny_isSame_ref_self hR
    ·rw[decide_eq_false q]at hR;exact refs e' q Mq hR
  |obj c fs=>
   by_cases q:c=d
   ·rw[show lV y d (.obj c fs)=TW from if_pos q]at h;exact nn h
   ·rw[show lV y d (.obj c fs)=TR TT from if_neg q]at h;obtain rfl:=TU h;induction h1 with
    |obj e' Mq _ _ _ _ _=>refine refs e' (λz=>?_) Mq hR;rw[z,e]at e';obtain rfl:=TU e';rw[hc]at Mq;cases Mq;exact q rfl
  |_=>exact nn h
theorem ug(T:aA B M own s.heap)(h1:VR B va a)(h2:VR B vb b)(h:c6 a b=TR r)(hR:R r s):Uh mo A (isSame va vb) R E s:=by
 cases b with
 |none=>induction h2;exact Be h1 h hR
 |ido y d fs=>exact Bf T h1 h2 h hR
 |_=>exact nn h
end
theorem Bg(h:c6 a b=TR r):cy .Is a b M r:=by intro c n ρ B own s va vb E S h1 h2;show Uh _ _ (do return Za (<-isSame va vb)) _ _ s;exact wpAny_bind (ug S.sta h1 h2 h (wpAny_pure ⟨rfl,rfl,.refl _⟩))
theorem Bh(h:c6 a b=TR r):cy .IsNot a b M (!r):=by intro c n ρ B own s va vb E S h1 h2;show Uh _ _ (do return Za (!(<-isSame va vb))) _ _ s;exact wpAny_bind (ug S.sta h1 h2 h (wpAny_pure ⟨rfl,rfl,.refl _⟩))
theorem Bi:cy .Lt (.int a) (.int b) M (decide (a<b)):=by intro c n ρ B own s va vb E S h1 h2;induction h1;induction h2;exact PySem.P.lt_int ⟨rfl,rfl,.refl _⟩
theorem Bj:cy .LtE (.int a) (.int b) M (decide (a<=b)):=by intro c n ρ B own s va vb E S h1 h2;induction h1;induction h2;exact PySem.P.le_int ⟨rfl,rfl,.refl _⟩
theorem Bk:cy .Gt (.int a) (.int b) M (decide (a>b)):=by intro c n ρ B own s va vb E S h1 h2;induction h1;induction h2;exact PySem.P.gt_int ⟨rfl,rfl,.refl _⟩
theorem Bl:cy .GtE (.int a) (.int b) M (decide (a>=b)):=by intro c n ρ B own s va vb E S h1 h2;induction h1;induction h2;exact PySem.P.ge_int ⟨rfl,rfl,.refl _⟩
end
section
variable[HasP]
noncomputable def pj:Option Bool->Option Bool->Option Bool
 |some a,TR b=>TR (a&&b)
 |_,_=>TW
theorem Bm(h:pj a b=TR k):∃x y,a=TR x/\b=TR y/\k=(x&&y):=by
 induction a with
 |none=>exact nn h
 |some a=>
  induction b with
  |none=>exact nn h
  |some b=>exact⟨a,b,rfl,rfl,(TU h).symm⟩
noncomputable def eo(f:V->V->Option Bool):List V->List V->Option Bool
 | [],[]=>TR TV
 |x::xs,y::ys=>pj (f x y) (eo f xs ys)
 |_,_=>TW
noncomputable def uh(v:V):Option Bool:=V.casesOn (motive_1:=λ_=>Option Bool) v (TR TV) (λ_=>TW) (λ_=>TW) (λ_=>TR TT) (λ_=>TW) (λ_=>TW) (λ_ _=>TW) (λ_ _ _=>TW) (λ_=>TW) (λ_=>TW) (λ_=>TW) (λ_=>TW)
noncomputable def ui(i:Int)(v:V):Option Bool:=V.casesOn (motive_1:=λ_=>Option Bool) v TW (λ_=>TW) (λj=>TR (decide (i=j))) (λ_=>TW) (λ_=>TW) (λ_=>TW) (λ_ _=>TW) (λ_ _ _=>TW) (λ_=>TW) (λ_=>TW) (λ_=>TW) (λ_=>TW)
noncomputable def uj(a:Bool)(v:V):Option Bool:=V.casesOn (motive_1:=λ_=>Option Bool) v TW (λb=>TR (decide (a=b))) (λ_=>TW) (λ_=>TW) (λ_=>TW) (λ_=>TW) (λ_ _=>TW) (λ_ _ _=>TW) (λ_=>TW) (λ_=>TW) (λ_=>TW) (λ_=>TW)
noncomputable def Bn:Bool->Option Bool
 |true=>TR TT
 |false=>TW
noncomputable def uk(t:Bool)(a:List Nat)(v:V):Option Bool:=V.casesOn (motive_1:=λ_=>Option Bool) v (TR TT) (λ_=>TW) (λ_=>TW) (λb=>TR (decide (a=b))) (λ_=>TW) (λ_=>Bn t) (λ_ _=>TW) (λ_ _ _=>TW) (λ_=>TW) (λ_=>TW) (λ_=>TW) (λ_=>TW)
noncomputable def ul(f:V->V->Option Bool)(xs:List V)(v:V):Option Bool:=V.casesOn (motive_1:=λ_=>Option Bool) v TW (λ_=>TW) (λ_=>TW) (λ_=>TR TT) (λ_=>TW) (λys=>if xs.length=ys.length then eo f xs ys else TR TT) (λ_ _=>TW) (λ_ _ _=>TW) (λ_=>TW) (λ_=>TW) (λ_=>TW) (λ_=>TW)
noncomputable def pk(t:Bool)(g:List V->V->Option Bool):V->V->Option Bool
 | .none=>uh
 | .int i=>ui i
 | .bool a=>uj a
 | .str a=>uk t a
 | .lst xs=>g xs
 |_=>λ_=>TW
noncomputable def eF:Nat->V->V->Option Bool
 |0=>pk TT λ_ _=>TW
 |d+1=>pk TV (ul (eF d))
theorem lW(h:f x y=TR TV)(g:eo f xs ys=TR TV):eo f (x::xs) (y::ys)=TR TV:=by show pj (f x y) (eo f xs ys)=TR TV;refine(h).symm▸?_;refine(g).symm▸?_;rfl
noncomputable def Bo(a:Bool)(e:Nat->Bool):Nat->Bool
 |0=>a
 |j+1=>e j
theorem Bp:∀{ys:List V} {k:Bool},eo f xs ys=TR k->∃e:Nat->Bool,(∀j x y,xs[j]? =TR x->ys[j]? =TR y->f x y=TR (e j))/\k=(Xs xs.length).all e/\xs.length=ys.length:=by
 induction xs with
 |nil=>
  intro ys k h;induction ys with
  |nil=>exact⟨λ_=>TV,λj x y hx=>nn hx,(TU h).symm,rfl⟩
  |cons y ys=>exact nn h
 |cons x xs ih=>
  intro ys k h;induction ys with
  |nil=>exact nn h
  |cons y ys=>
   refine aX (Bm h) λa b KY=>?_
   have h1:=KY.1;have h2:=KY.2.1;have K6:=KY.2.2;subst K6;refine aj (ih h2) λe KY=>?_
   refine⟨Bo a e,λj x' y' hx hy=>?_,?_,congrArg (· +1) KY.2.2⟩
   ·induction j with
    |zero=>obtain rfl:=TU hx;obtain rfl:=TU hy;exact h1
    |succ j=>exact KY.1 j x' y' hx hy
   ·rw[KY.2.1,aau,Xq,Yi,ZD];rfl
theorem um(x y:U6):(x==y)=decide (x.cps.toList=y.cps.toList):=by obtain⟨⟨a⟩⟩:=x;obtain⟨⟨b⟩⟩:=y;rw[Y5];simp
theorem un(h:WR A s y x k)(hs:y=x->k=TV)(hf:∀b t,y≠.float b t):Z2 A s y x k:=λprog w E Q hq=>by
 unfold eqBool;refine wpAny_holding ?_;refine wpAny_ite_split (λRh=>?_) (λ_=>?_)
 ·have:=hs (eq_of_beq Rh);subst this;exact wpAny_bind (wpAny_rule (wpAny_pure hq))
 ·have go:Uh (Uj prog w) A (richCompare .Eq y x>>=truthOfDropped) Q E s:=wpAny_bind (h prog w E _ (wpAny_truthy_bool hq));induction y<;>first|exact go|exact(hf _ _ rfl).elim
theorem aq.at:∀{vs:List TZ},aq B vs xs->∀{i:Nat} {v:TZ},vs[i]? =TR v->∃x,xs[i]? =TR x/\VR B v x:=by
 induction xs with
 |nil=>intro vs h i v e;induction h;exact nn e
 |cons x xs ih=>
  intro vs h i v e;induction h with
  |cons h t=>
   induction i with
   |zero=>obtain rfl:=TU e;exact⟨_,rfl,h⟩
   |succ i=>exact ih t e
theorem VR.notFloat{v:TZ}(h:VR B v x):∀b t,v≠.float b t:=by cases x<;>(cases h;exactλ_ _ q=>nomatch q)
structure pn(d:Nat):Prop where
 rc:∀{B:PH} {M:aa} {own:List TX} {s:aav} {A:UT} {v w:TZ} {x y:V} {k:Bool},aA B M own s.heap->A.units+d<cLine->VR B v x->VR B w y->eF d x y=TR k->WR A s v w k/\Xl A s v w (!k)/\(v=w->k=TV)
theorem uo(ih:pn d){l m:TX}(T:aA B M own s.heap)(hu:A.units+(d+1)<cLine)(h1:s.heap.IsList l vs)(h2:s.heap.IsList m ws)(r1:aq B vs.toList xs)(r2:aq B ws.toList ys)(h:(if xs.length=ys.length then eo (eF d) xs ys else TR TT)=TR k):WR A s (.ref l) (.ref m) k/\Xl A s (.ref l) (.ref m) (!k)/\(l=m->k=TV):=by
 have n1:vs.size=xs.length:=aq.size r1;have n2:ws.size=ys.length:=aq.size r2;have same:l=m->vs=ws:=by
  rintro rfl;refine aj h1 λo KY=>?_
  have ho:=KY.1;refine aj KY.2.2 λn hd=>?_
  refine aj h2 λo' KY=>?_
  have Lo:=KY.1;refine aj KY.2.2 λn' Mo=>?_
  rw[ho]at Lo;obtain rfl:=TU Lo;rw[hd]at Mo;cases Mo;rfl
 split at h
 ·rename_i hl;refine aj (Bp h) λe KY=>?_
  have he:=KY.1;have hk:=KY.2.1;have hz:vs.size=ws.size:=by rw[n1,n2,hl]
  have each:∀j (h1:j<vs.size) (h2:j<ws.size),WR A.in1 s vs[j] ws[j] (e j)/\(vs[j]=ws[j]->e j=TV)/\(∀b t,vs[j]≠.float b t):=by
   intro j j1 j2;refine aj (r1.at (i:=j) (v:=vs[j]) (by simp[j1])) λx KY=>?_
   have hx:=KY.1;have rx:=KY.2;refine aj (r2.at (i:=j) (v:=ws[j]) (by simp[j2])) λy KY=>?_
   obtain⟨a,_,c⟩:=ih.rc (A:=A.in1) (s:=s) T (by show A.units+1+d<_;exact ab [_,_] ((ad.a X1).a N1) (Ar.n 9900) ((X0.a ay).a N1) (Ar.n 9900) hu rfl) rx KY.2 (he j x y hx KY.1);exact⟨a,c,rx.notFloat⟩
  have eqs:∀j (h1:j<vs.size) (h2:j<ws.size),Z2 A.in1 s vs[j] ws[j] (e j):=λj j1 j2=>un (each j j1 j2).1 (each j j1 j2).2.1 (each j j1 j2).2.2
  refine(hk).symm▸?_;refine(n1)▸?_;refine⟨Z8 h1 h2 hz (by exact ab [_,_] ad (Ar.n 9900) ((X0.a ay).a N1) (Ar.n 9900) hu rfl) eqs,Z0 h1 h2 hz (by exact ab [_,_] ad (Ar.n 9900) ((X0.a ay).a N1) (Ar.n 9900) hu rfl) eqs,λq=>?_⟩;have OF:=same q;subst OF;rw[YL];intro j hj;rw[List.mem_range]at hj;exact(each j hj hj).2.1 rfl
 ·rename_i hl;obtain rfl:=TU h;have hz:(vs.size !=ws.size)=TV:=by rw[n1,n2];simpa using hl
  refine⟨Zk h1 h2 hz (by exact ab [_,_] ad (Ar.n 9900) ((X0.a ay).a N1) (Ar.n 9900) hu rfl),Zc h1 h2 hz (by exact ab [_,_] ad (Ar.n 9900) ((X0.a ay).a N1) (Ar.n 9900) hu rfl),λq=>?_⟩;have OF:=same q;subst OF;simp at hz
section
variable{B:PH}{M:aa}{own:List TX}{s:aav}{A:UT}{v w:TZ}{x y:V}{k:Bool}
def ij(A:UT)(s:aav)(v w:TZ)(k:Bool):Prop:=WR A s v w k/\Xl A s v w (!k)/\(v=w->k=TV)
theorem Bq(r:VR B w y)(h:uh y=TR k):ij A s .none w k:=by
 cases y with
 |none=>obtain rfl:=TU h;induction r;exact⟨ZM,Zv,λ_=>rfl⟩
 |str l=>obtain rfl:=TU h;induction r;exact⟨ZU _ _,ZI _ _,λq=>nomatch q⟩
 |_=>exact nn h
theorem Br(r:VR B w y)(h:ui i y=TR k):ij A s (.int i t) w k:=by
 cases y with
 |int j=>obtain rfl:=TU h;induction r;exact⟨Z1 _ _ _ _,ZL _ _ _ _,λq=>by cases q;exact decide_eq_true rfl⟩
 |_=>exact nn h
theorem Bs(r:VR B w y)(h:uj a y=TR k):ij A s (.bool a) w k:=by
 cases y with
 |bool b=>obtain rfl:=TU h;induction r;exact⟨ZN _ _,Zw _ _,λq=>by cases q;exact decide_eq_true rfl⟩
 |_=>exact nn h
theorem Bt(T:aA B M own s.heap)(hu:b=TV->A.units+1<cLine)(r:VR B w y)(h:uk b a.cps.toList y=TR k):ij A s (.str a t) w k:=by
 cases y with
 |none=>obtain rfl:=TU h;induction r;exact⟨ZS _ _,ZG _ _,λq=>nomatch q⟩
 |str l=>obtain rfl:=TU h;induction r;rw[<-um];exact⟨Yl _ _ _ _,ZK _ _ _ _,λq=>by cases q;exact beq_self_eq_true _⟩
 |lst ys=>
  induction b with
  |false=>exact nn h
  |true=>
   obtain rfl:=TU h;induction r with
   |lst e _=>have L:s.heap.IsList _ _:=⟨_,T.keep _ _ e,rfl,_,rfl⟩;have:=hu rfl;exact⟨ZT _ _ L (by exact Uy (by assumption)),ZH _ _ L (by exact Uy (by assumption)),λq=>nomatch q⟩
 |_=>exact nn h
theorem Bu(ih:pn d)(T:aA B M own s.heap)(hu:A.units+(d+1)<cLine)(r1:VR B v (.lst xs))(r:VR B w y)(h:ul (eF d) xs y=TR k):ij A s v w k:=by
 induction r1 with
 |lst e hv=>
  have L:s.heap.IsList _ _:=⟨_,T.keep _ _ e,rfl,_,rfl⟩;cases y with
  |str l=>obtain rfl:=TU h;induction r;exact⟨ZV _ _ L (by exact ab [_,_] ad (Ar.n 9900) ((X0.a ay).a N1) (Ar.n 9900) hu rfl),ZJ _ _ L (by exact ab [_,_] ad (Ar.n 9900) ((X0.a ay).a N1) (Ar.n 9900) hu rfl),λq=>nomatch q⟩
  |lst ys=>
   induction r with
   |lst e' NC=>obtain⟨a,b,c⟩:=uo ih T hu L ⟨_,T.keep _ _ e',rfl,_,rfl⟩ hv NC h;exact⟨a,b,λq=>c (by cases q;rfl)⟩
  |_=>exact nn h
theorem uq(T:aA B M own s.heap)(hu:b=TV->A.units+1<cLine)(hg:∀{xs v w y k},VR B v (.lst xs)->VR B w y->g xs y=TR k->ij A s v w k)(r1:VR B v x)(r:VR B w y)(h:pk b g x y=TR k):ij A s v w k:=by
 cases x with
 |none=>induction r1;exact Bq r h
 |int i=>induction r1;exact Br r h
 |bool a=>induction r1;exact Bs r h
 |str a=>induction r1;exact Bt T hu r h
 |lst xs=>exact hg r1 r h
 |_=>exact nn h
end
theorem ur(d:Nat):pn d:=by
 induction d with
 |zero=>exact⟨λT hu h1 h2 h=>uq (b:=TT) (g:=λ_ _=>TW) T (λq=>nomatch q) (λ_ _ q=>nomatch q) h1 h2 h⟩
 |succ d ih=>exact⟨λT hu h1 h2 h=>uq T (λ_=>by exact ab [_,_] (ad.a N1) (Ar.n 9900) ((X0.a ay).a N1) (Ar.n 9900) hu rfl) (λr1 r q=>Bu ih T hu r1 r q) h1 h2 h⟩
noncomputable def lX:Option be->Option (List V)
 |some (.list xs)=>TR xs
 |_=>TW
theorem us(h:lX o=TR L):o=TR (.list L):=by
 cases o with
 |none=>exact nn h
 |some x=>
  cases x with
  |list xs=>rw[TU h]
  |_=>exact nn h
noncomputable def bh(M:aa)(v:V):Option (List V):=V.casesOn (motive_1:=λ_=>Option (List V)) v TW (λ_=>TW) (λ_=>TW) (λ_=>TW) (λ_=>TW) (λxs=>TR xs) (λ_ _=>TW) (λ_ _ _=>TW) (λa=>lX (aak M a)) (λ_=>TW) (λ_=>TW) (λ_=>TW)
theorem MR.at_list{B:PH}{h:Ux}{M:aa}{own:List TX}(R:MR B h M own){a:TX}{xs:List V}(hm:aak M a=TR (.list xs)):∃vs n,h.get? a=TR (bk vs n)/\aq B vs.toList xs:=by
 refine aj (R.at hm) λl KY=>?_
 induction KY.1 with
 |mk e hv=>exact⟨_,_,e,hv⟩
theorem Bv(h:bh M (.ref a)=TR xs):aak M a=TR (.list xs):=us h
theorem gJ(T:aA B M own h){v:TZ}(hx:bh M x=TR xs)(hv:VR B v x):∃l vs n,v=.ref l/\h.get? l=TR (bk vs n)/\aq B vs.toList xs:=by
 cases x with
 |lst ys=>obtain rfl:=TU hx;induction hv with|lst e hr=>exact⟨_,_,_,rfl,T.keep _ _ e,hr⟩
 |ref a=>
  induction hv;refine aX (T.mr.at_list (Bv hx)) λvs n KY=>?_
  exact⟨_,_,_,rfl,KY.1,KY.2⟩
 |_=>exact nn hx
theorem ka(T:aA B M own h){v:TZ}(hx:bh M x=TR xs)(hv:VR B v x):∃l vs,v=.ref l/\h.IsList l vs/\aq B vs.toList xs:=by
 refine bO (gJ T hx hv) λl vs n KY=>?_
 have K6:=KY.1;subst K6;exact⟨l,vs,rfl,⟨_,KY.2.1,rfl,_,rfl⟩,KY.2.2⟩
noncomputable def cn(M:aa)(x y:V):Option Bool:=match bh M x,bh M y with
 |some xs,TR ys=>if xs.length=ys.length then eo (eF 2) xs ys else TR TT
 |_,_=>eF 3 x y
set_option tactic.hygienic true in
theorem ut(S:St c n ρ M B own s.heap)(h1:VR B va a)(h2:VR B vb b)(h:cn M a b=TR r):WR c.A s va vb r/\Xl c.A s va vb (!r):=by
 have hu:=S.units;unfold cn at h;split at h
 ·rename_i xs ys e1 e2;refine aX (ka S.sta e1 h1) λl vs KY=>?_
  have K6:=KY.1;subst K6;have L:=KY.2.1;have r1:=KY.2.2;refine aX (ka S.sta e2 h2) λl' ws KY=>?_
  have K6:=KY.1;subst K6;have KZ:=uo (A:=c.A) (ur 2) S.sta (by exact ab [_,_] ((X0.a (N2.a N1)).a N1) (Ar.n 9900) ((aI.a N4).a N1) (Ar.n 9900) hu rfl) L KY.2.1 r1 KY.2.2 h;exact⟨KZ.1,KZ.2.1⟩
 ·have KZ:=(ur 3).rc (A:=c.A) S.sta (by exact ab [_,_] ((X0.a N3).a N1) (Ar.n 9900) ((aI.a N4).a N1) (Ar.n 9900) hu rfl) h1 h2 h;exact⟨KZ.1,KZ.2.1⟩
theorem Bw(h:cn M a b=TR r):cy .Eq a b M r:=by intro c n ρ B own s va vb E S h1 h2;exact EqBoolInt.of_rc (ut S h1 h2 h).1 ⟨rfl,rfl,.refl _⟩
theorem Bx(h:cn M a b=TR r):cy .NotEq a b M (!r):=by intro c n ρ B own s va vb E S h1 h2;exact Z5 (ut S h1 h2 h).2 ⟨rfl,rfl,.refl _⟩
end
section
variable[HasP]
theorem VR.strE{v:TZ}{l:List Nat}(h:VR B v (.str l)):∃t,v=.str ⟨l.toArray⟩ t:=by
 induction h with
 |str x t=>exact⟨t,rfl⟩
theorem By{l:List Nat}:cy .In (.str [c]) (.str l) M (decide (c∈l)):=by
 intro cx n ρ B own s va vb E S h1 h2;refine aj h1.strE λu KY=>?_
 subst KY;induction h2;refine XH ?_;rw[Wu];exact⟨rfl,rfl,.refl _⟩
theorem Bz{l:List Nat}:cy .NotIn (.str [c]) (.str l) M (!decide (c∈l)):=by
 intro cx n ρ B own s va vb E S h1 h2;refine aj h1.strE λu KY=>?_
 subst KY;induction h2;refine PySem.P.notIn_str ?_;rw[Wu];exact⟨rfl,rfl,.refl _⟩
noncomputable def po:V->Option (List (List Nat))->Option (List (List Nat))
 | .str l,TR t=>TR (l::t)
 |_,_=>TW
noncomputable def eG:List V->Option (List (List Nat))
 | []=>TR []
 |x::r=>po x (eG r)
theorem BA(h:po x o=TR ls):∃l t,x=.str l/\o=TR t/\ls=l::t:=by
 cases x with
 |str l=>
  induction o with
  |none=>exact nn h
  |some t=>obtain rfl:=TU h;exact⟨l,t,rfl,rfl,rfl⟩
 |_=>exact nn h
theorem pp:∀{vs:List TZ} {ls:List (List Nat)},aq B vs xs->eG xs=TR ls->∃ys:List U6,StrsAre vs ys/\ys.map (·.cps.toList)=ls:=by
 induction xs with
 |nil=>intro vs ls H h;induction H;obtain rfl:=TU h;exact⟨[],.nil,rfl⟩
 |cons x xs ih=>
  intro vs ls H h;refine aX (BA h) λl t KY=>?_
  have K6:=KY.1;subst K6;have e:=KY.2.1;have OG:=KY.2.2;subst OG;induction H with
  |cons hv hr=>
   refine aj (ih hr e) λys KY=>?_
   have a:=KY.1;have b:=KY.2;refine aj (VR.strE hv) λu KY=>?_
   subst KY;exact⟨⟨l.toArray⟩::ys,.cons _ u a,by rw[UA,b]⟩
theorem BB(h:StrsAre vs ys):(∀v∈vs,∃x t,v=.str x t)/\∀l,(vs.any λv=>match v with| .str x _=>decide (x.cps.toList=l)|_=>TT)=decide (l∈ys.map (·.cps.toList)):=by
 induction h with
 |nil=>exact⟨λ_ q=>(nomatch q),λl=>rfl⟩
 |cons x u h ih=>
  refine⟨λv hm=>?_,λl=>?_⟩
  ·cases hm with
   |head=>exact⟨x,u,rfl⟩
   |tail _ hm=>exact ih.1 v hm
  ·rw[Zp,ih.2 l,Y5];simp only[Bool.or_eq_true,decide_eq_true_eq,UA,Uk];exact or_congr eq_comm Iff.rfl
set_option tactic.hygienic true in
theorem BD{l:List Nat}(h:eG xs=TR ls):cy .In (.str l) (.tup xs) M (decide (l∈ls)):=by
 intro cx n ρ B own s va vb E S h1 h2;induction h2 with
 |tup e hc hd hv=>
  induction h1 with
  |str x t=>
   rename_i o vs k a;refine aj (pp hv h) λys KY=>?_
   have sa:=KY.1;have K6:=KY.2;subst K6;have KZ:=BB sa;have q:=KZ.2;refine SeqAt.in_tupleAt (λv=>match v with| .str y _=>decide (y.cps.toList=x.cps.toList)|_=>TT) ⟨_,S.sta.keep _ _ e,hc,_,hd⟩ (λy hy=>?_) ?_
   ·refine aX (KZ.1 y (by simpa using hy)) λz u KY=>?_
    subst KY;dsimp only;rw[<-um];exact un (Yl _ _ _ _) (λq=>by cases q;simp) (λ_ _ q=>by cases q)
   ·rw[<-Xk,q];exact⟨rfl,rfl,.refl _⟩
end
section
variable[HasP]
def Sub(o i:V)(M:aa)(Q:PQ):Prop:=∀(c:Cx) (n:Nat) (ρ:af) (B:PH) (own:List TX) (s:aav) (vo vi:TZ) (E:TZ->aav->Prop),St c n ρ M B own s.heap->VR B vo o->VR B vi i->(∃T id,typeLookup (.type T) "__getitem__"=pure (TR (.builtin id))/\s.TypeIs vo T)/\Uh (Uj pw c.w) c.A (getItem vo vi) (aC B own s Q) E s
theorem BE(h:jS e=TT):subscripted e TT o i=operate [o,i] (getItem o i):=by cases e<;>first|rfl|exact bt h
set_option tactic.hygienic true in
theorem BF(h:Ev n ρ M o (λro M1=>Ev n ρ M1 i (λri M2=>Sub ro ri M2 Q) E) E):Ev n ρ M (.sub o i) Q E:=by
 intro sc e hT c B own s K0 S;induction hT with
 |sub hs h1 h2=>
  rename_i oe ie p;rw[eval_Subscript];refine aT.bind S (h _ _ h1 c B own s K0 S) λvo s1 B1 K1 M1 ⟨ro,Mr,k⟩ S1 l1=>?_
  refine aT.bind S1 (wpAny_holding (k _ _ h2 c B1 K1 s1 K0 S1)) λvi s2 B2 K9 M2 ⟨ri,MB,k⟩ S2 l2=>?_
  have KZ:=k c n ρ B2 K9 s2 vo vi (bg B2 K9 s2 E) S2 (Mr.mono l2) MB;refine aX KZ.1 λT id KY=>?_
  have hT:=KY.2;refine wpAny_bind (wpAny_standAt ?_);refine wpAny_bind ?_;refine(getitemInPython_of_ne hT.not_modules).symm▸?_;refine wpAny_bind (wpAny_specialOf hT KY.1 ?_);have fin:Uh (Uj pw c.w) c.A (operate [vo,vi] (getItem vo vi)) (λr LK=>Uh (Uj pw c.w) c.A (letTemporaryGo oe vo r>>=λ_=>pure r) (aC B2 K9 s2 Q) (bg B2 K9 s2 E) LK) (bg B2 K9 s2 E) s2:=wpAny_operating (wpAny_mono KZ.2 (λr LK Me=>wpAny_bind (wpAny_letTemporaryGo (wpAny_pure Me))) λ_ _ x=>x);rw[<-BE hs]at fin
  first
   |exact wpAny_pure (wpAny_bind fin)
   |exact wpAny_bind (wpAny_pure (wpAny_bind fin))
   |exact wpAny_bind fin
theorem BG{o:V}{xs:List V}{k:Nat}{x:V}{M:aa}{Q:PQ}(hl:bh M o=TR xs)(hk:xs[k]? =TR x)(hf:k<2^62)(q:Q x M):Sub o (.int k) M Q:=by
 intro c n ρ B own s vo vi E S h1 h2;induction h2;refine aX (ka S.sta hl h1) λl vs KY=>?_
 have K6:=KY.1;subst K6;have L:=KY.2.1;have r:=KY.2.2;refine aj (r.get hk) λv KY=>?_
 refine⟨⟨_,_,slot_list_getitem.lookup,L.typeIs⟩,wpAny_getItem_list L (Wm _) (by lia) (x:=v) (by simpa using KY.1) (aC.here S.sta KY.2 q)⟩
theorem BH(hl:bh M o=TR xs)(hk:xs.getLast?=TR x)(hf:xs.length<2^62)(q:Q x M):Sub o (.int (-1)) M Q:=by
 intro c n ρ B own s vo vi E S h1 h2;generalize hi:(-1:Int)=i at h2;induction h2;subst hi;refine aX (ka S.sta hl h1) λl vs KY=>?_
 have K6:=KY.1;subst K6;have L:=KY.2.1;have r:=KY.2.2;have hz:vs.size=xs.length:=aq.size r;have Lb:0<xs.length:=by induction xs with|nil=>exact nn hk|cons _ _=>exact TY _
 have Lc:xs[xs.length-1]? =TR x:=by rw[<-W1];exact hk
 refine aj (r.get Lc) λv KY=>?_
 refine⟨⟨_,_,slot_list_getitem.lookup,L.typeIs⟩,wpAny_getItem_list_neg L (by decide) (Int.neg_le_neg (Int.ofNat_le.mpr (by rw[hz];exact Lb))) (by decide) (x:=v) ?_ (aC.here S.sta KY.2 q)⟩;have e:(-1+(vs.size:Int)).toNat=xs.length-1:=by rw[hz,Int.add_comm];exact Int.toNat_sub _ 1
 refine(e).symm▸?_;simpa using KY.1
theorem BI{l:List Nat}{k:Nat}{x:Nat}{M:aa}{Q:PQ}(hk:l[k]? =TR x)(hf:k<2^62)(q:Q (.str [x]) M):Sub (.str l) (.int k) M Q:=by
 intro c n ρ B own s vo vi E S h1 h2;induction h2;induction h1 with
 |str y t=>
  obtain⟨⟨a⟩⟩:=y;refine⟨⟨_,_,F.slot_str_getitem.lookup,rfl⟩,?_⟩;refine PySem.P.getItem_str (c:=x) (by simp;lia) ?_ (aC.here S.sta (r:=.str [x]) (.str ⟨#[x]⟩ _) q);have LV:k<a.length:=by obtain⟨h,_⟩:=List.getElem?_eq_some_iff.mp hk;exact h
  rw[seqIndex_of (Wm _) (by show(k:Int)<((List.toArray a).size:Nat);simp;exact LV)];simpa using hk
end
section
variable[HasP]
def ja(n:Nat)(ρ:af)(M:aa)(x:Option X)(Q:PQ)(E:PE):Prop:=match x with
 |none=>Q .none M
 |some x=>Ev n ρ M x Q E
theorem uu(h:ja n ρ M x Q E){sc:UG}(hT:To gt sc e x)(K0:c.env.scope=sc)(S:St c n ρ M B own s.heap):Uh (Uj pw c.w) c.A (evalPart e c.env) (aC B own s Q) (bg B own s E) s:=by
 induction hT.v with
 |none=>exact wpAny_pure (aC.here S.sta .none h)
 |some h1=>exact h _ _ h1 c B own s K0 S
noncomputable abbrev gK(l h:TZ):Vi:={cls:=.type "slice",data:=.fields #[l,h,.none]}
def lY(o l h:V)(M:aa)(Q:PQ):Prop:=∀(c:Cx) (n:Nat) (ρ:af) (B:PH) (own:List TX) (s:aav) (vo vl vh:TZ) (E:TZ->aav->Prop),St c n ρ M B own s.heap->VR B vo o->VR B vl l->VR B vh h->(∃T id,typeLookup (.type T) "__getitem__"=pure (TR (.builtin id))/\({s with heap:=s.heap.push (gK vl vh)}:aav).TypeIs vo T)/\ Uh (Uj pw c.w) c.A (getItem vo (.ref s.heap.objs.size)) (aC B own s Q) E {s with heap:=s.heap.push (gK vl vh)}
set_option tactic.hygienic true in
theorem BJ{l h:Option X}(k:Ev n ρ M o (λro M1=>ja n ρ M1 l (λrl M2=>ja n ρ M2 h (λrh M3=>lY ro rl rh M3 Q) E) E) E):Ev n ρ M (.slc o l h) Q E:=by
 intro sc e hT c B own s K0 S;induction hT with
 |slc h1 h2 h3=>
  rename_i oe lo hi q p;rw[eval_Subscript];refine aT.bind S (k _ _ h1 c B own s K0 S) λvo s1 B1 K1 M1 ⟨ro,Mr,k⟩ S1 l1=>?_
  refine wpAny_bind (wpAny_holding (wpAny_Slice (wpAny_mono (uu k h2 K0 S1) (λvl s2 h=>?_) λ_ _ h=>h)));obtain⟨B2,K9,M2,⟨rl,Ri,k⟩,T2,P2,q2⟩:=h;have S2:=S1.step T2 P2;refine wpAny_mono (uu k h3 K0 S2) (λvh s3 h=>?_) λ_ _ h=>h.step P2 q2
  obtain⟨B3,LA,M3,⟨rh,Rj,k⟩,T3,P3,q3⟩:=h;have S3:=S2.step T3 P3;have KZ:=k c n ρ B3 LA s3 vo vl vh (bg B1 K1 s1 E) S3 (Mr.mono (P2.le.trans P3.le)) (Ri.mono P3.le) Rj;refine aX KZ.1 λT id KY=>?_
  have hT:=KY.2;rw[evalPart_none];refine wpAny_pure (wpAny_bind (wpAny_standAt ?_));refine wpAny_bind ?_;rw[getitemInPython_of_ne hT.not_modules];refine wpAny_bind (wpAny_specialOf hT KY.1 ?_);have fin:Uh (Uj pw c.w) c.A (operate [.ref s3.heap.objs.size,vo] (getItem vo (.ref s3.heap.objs.size))) (λr LK=>Uh (Uj pw c.w) c.A (letTemporaryGo oe vo r>>=λ_=>pure r) (aC B1 K1 s1 Q) (bg B1 K1 s1 E) LK) (bg B1 K1 s1 E) {s3 with heap:=s3.heap.push (gK vl vh)}:=wpAny_operating (wpAny_mono KZ.2 (λr LK Me=>wpAny_bind (wpAny_letTemporaryGo (wpAny_pure (aT.step (P2.trans P3) (q2.trans q3) Me)))) λ_ _ x=>x)
  first
   |exact wpAny_pure (wpAny_bind fin)
   |exact wpAny_bind (wpAny_pure (wpAny_bind fin))
   |exact wpAny_bind fin
end
section
variable[HasP]
theorem cl(a n:Nat):min ((min a n:Nat):Int) (n:Int)=min (a:Int) n:=by
 rcases Nat.le_total a n with h|h
 ·refine(Xv h).symm▸?_;with_reducible rfl
 ·refine(Xg h).symm▸?_;refine(Xi (Int.ofNat_le.mpr h)).symm▸?_;refine(Xi (Int.le_refl _)).symm▸?_;with_reducible rfl
theorem BK(a b n:Nat):VZ (TR (a:Int)) (TR (b:Int)) 1 n=VZ (TR ((min a n:Nat):Int)) (TR ((max (min a n) (min b n):Nat):Int)) 1 n:=by
 have e1:∀k:Nat,(if(k:Int)<0 then(k:Int)+n else k)=k:=λk=>if_neg (Int.not_lt.mpr (Wm k))
 simp only[VZ,e1,show((1:Int)>0)=True from by decide,if_true];refine(cl a n).symm▸?_;by_cases h:a<=b
 ·refine(Xh (Nat.le_min.mpr ⟨UI (YX a n) h,Vx a n⟩)).symm▸?_;refine(cl b n).symm▸?_;with_reducible rfl
 ·have h:=Uy (Vn h);refine(YY (Nat.le_min.mpr ⟨UI (YX b n) h,Vx b n⟩)).symm▸?_;refine(cl a n).symm▸?_;have m:max 0 (min (b:Int) n)<=max 0 (min (a:Int) n):=Int.max_le.mpr ⟨Int.le_max_left _ _,ZF (Int.le_min.mpr ⟨ZF (Int.min_le_left _ _) (Int.ofNat_le.mpr h),Int.min_le_right _ _⟩) (Int.le_max_right _ _)⟩;unfold sliceRange;simp only[show((1:Int)>0)=True from by decide,if_true];refine(if_neg (Int.not_lt.mpr m)).symm▸?_;refine(if_neg (Int.lt_irrefl _)).symm▸?_;with_reducible rfl
theorem uv(x:U6)(a b:Nat):UD x (TR (a:Int)) (TR (b:Int))=⟨((x.cps.toList.drop a).take (b-a)).toArray⟩:=by
 have e:UD x (TR (a:Int)) (TR (b:Int))=UD x (TR ((min a x.length:Nat):Int)) (TR ((max (min a x.length) (min b x.length):Nat):Int)):=by unfold UD;rw[BK]
 have hl:x.length=x.cps.toList.length:=c5 x;rw[e,StrLaws.sliceText_nat x (by first|exact YZ _ _|exact Nat.max_le.mpr ⟨Vx _ _,Vx _ _⟩) (by first|exact YZ _ _|exact Nat.max_le.mpr ⟨Vx _ _,Vx _ _⟩)]
 congr 2
 by_cases h1:a<=x.length
 ·refine(Xv h1).symm▸?_;by_cases h2:b<=x.length
  ·refine(Xv h2).symm▸?_;by_cases h3:a<=b
   ·refine(Xh h3).symm▸?_;with_reducible rfl
   ·refine(YY (Uy (Vn h3))).symm▸?_;rewrite[Nat.sub_self];refine(Nat.sub_eq_zero_of_le (Uy (Vn h3))).symm▸?_;with_reducible rfl
  ·have h2:=Uy (Vn h2);rw[Xg h2,Xh h1,VU (by rw[WD,hl];exact UE _),VU (by rw[WD,<-hl];exact Nat.sub_le_sub_right h2 a)]
 ·have h1:=Uy (Vn h1);rw[Xg h1,Xu (by rw[hl];exact UE _),Xu (by rw[<-hl];exact h1),Zo,Zo]
noncomputable def ik(d:Nat)(v:V):Option Nat:=V.casesOn (motive_1:=λ_=>Option Nat) v (TR d) (λ_=>TW) (λi=>if 0<=i then TR i.toNat else TW) (λ_=>TW) (λ_=>TW) (λ_=>TW) (λ_ _=>TW) (λ_ _ _=>TW) (λ_=>TW) (λ_=>TW) (λ_=>TW) (λ_=>TW)
theorem uw{v:TZ}(h:VR B v x)(hb:ik d x=TR a):∃p:Option (Int×Tok),v=partValue p/\(p.map (·.1)=TR (a:Int)\/(p=TW/\a=d)):=by
 cases x with
 |none=>obtain rfl:=TU hb;induction h;exact⟨TW,rfl,.inr ⟨rfl,rfl⟩⟩
 |int i=>
  by_cases hi:0<=i
  ·rw[show ik d (.int i)=TR i.toNat from if_pos hi]at hb;obtain rfl:=TU hb;induction h with
   |int t=>refine⟨TR (i,t),rfl,.inl ?_⟩;show TR i=_;refine(Int.toNat_of_nonneg hi).symm▸?_;with_reducible rfl
  ·rw[show ik d (.int i)=TW from if_neg hi]at hb;exact nn hb
 |_=>exact nn hb
theorem BL{l:List Nat}{lo hi:V}(hs:l.length<=Ub)(h1:ik 0 lo=TR a)(h2:ik l.length hi=TR b)(q:Q (.str ((l.drop a).take (b-a))) M):lY (.str l) lo hi M Q:=by
 intro c n ρ B own s vo vl vh E S ho hl hh;induction ho with
 |str x t=>
  obtain⟨pl,rfl,LP⟩:=uw hl h1;obtain⟨ph,rfl,Rk⟩:=uw hh h2;refine⟨⟨_,_,F.slot_str_getitem.lookup,typeIs_str _ x t⟩,wpAny_getItem_str_slice (l:=pl) (u:=ph) (st:=TW) ⟨_,Ul _ rfl,rfl,rfl⟩ rfl ?_⟩;have et:UD x (pl.map (·.1)) (ph.map (·.1))=⟨((x.cps.toList.drop a).take (b-a)).toArray⟩:=by
   have e1:UD x (pl.map (·.1)) (ph.map (·.1))=UD x (TR (a:Int)) (ph.map (·.1)):=by
    rcases LP with h|⟨rfl,rfl⟩
    ·refine(h).symm▸?_;with_reducible rfl
    ·unfold UD;show(if _ then x else _)=_;simp only[YW,Xb];rfl
   have e2:UD x (TR (a:Int)) (ph.map (·.1))=UD x (TR (a:Int)) (TR (b:Int)):=by
    rcases Rk with h|⟨rfl,rfl⟩
    ·refine(h).symm▸?_;with_reducible rfl
    ·unfold UD;simp only[YW,StrLaws.sliceIdx_none_hi,c5]
   refine(e1).symm▸?_;refine(e2).symm▸?_;rewrite[uv];with_reducible rfl
  have T:aA B M own (s.heap.push (gK (partValue pl) (partValue ph))):=S.sta.keeps λa o e=>Ua _ e
  have out:∀(y:U6) (t':Tok) (k:Nat),y=⟨((x.cps.toList.drop a).take (b-a)).toArray⟩->aC B own s Q (.str y t') {s with heap:=s.heap.push (gK (partValue pl) (partValue ph)),toks:=k}:=by intro y t' k hy;subst hy;refine⟨B,own,M,⟨_,.str _ _,?_⟩,T,⟨Le.refl B,λ_ e=>.inl e,λ_ e=>.inl e,λb o e _ _=>⟨o.slots,Ua _ e⟩,λb q=>pi q⟩,rfl,rfl⟩;simpa using q
  unfold sliceMade;unfold UD at et;split
  ·rename_i hc;rw[if_pos (by simpa[slicePicked]using hc)]at et;exact out x t _ et
  ·rename_i hc;rw[if_neg (by simpa[slicePicked]using hc)]at et;refine⟨?_,out _ _ _ et⟩;have e3:=congrArg ZX et;unfold slicePicked;rw[c5]at e3⊢;have e4:((⟨((x.cps.toList.drop a).take (b-a)).toArray⟩:U6)).length<=x.cps.toList.length:=by rw[c5];simp only[X6,YJ,WD];exact UI (Vx _ _) (Uv _ _)
   exact UI (Xp e3) (UI e4 hs)
end
section
variable[HasP]
theorem MR.set_list{B:PH}{h h':Ux}{M:aa}{own:List TX}(R:MR B h M own)(nd:own.Nodup){a:TX}{xs ys:List V}(hm:aak M a=TR (.list xs))(k:∀b∈own,b≠a->∀o,h.get? b=TR o->h'.get? b=TR o)(he:∃vs n,h'.get? a=TR (bk vs n)/\aq B vs.toList ys):MR B h' (ag M a (.list ys)) own/\a∈own:=by
 refine aX he λvs n KY=>?_
 have e':=KY.1;have NC:=KY.2;refine aj (R.at hm) λl KY=>?_
 have x:=KY.1;refine⟨R.set nd hm λl x _=>?_,KY.2.subset x.self⟩;induction x;exact⟨.mk e' NC,λb hb q=>k b hb λz=>q (List.mem_singleton.mpr z)⟩
theorem aA.set_list{B:PH}{h h':Ux}{M:aa}{own:List TX}{a:TX}{xs ys:List V}(T:aA B M own h)(hm:aak M a=TR (.list xs))(sb:Vg a h h')(he:∃vs n,h'.get? a=TR (bk vs n)/\aq B vs.toList ys):aA B (ag M a (.list ys)) own h'/\aF B own h B own h' λ_=>False:=by
 obtain⟨R,ha⟩:=T.mr.set_list T.nd hm (λb _ q o e=>sb.extBut b o q e) he;refine⟨⟨λb o e=>sb.extBut b o (λz=>?_) (T.keep b o e),R,T.nd,T.dis,T.big⟩,Le.refl B,λ_ e=>.inl e,λ_ e=>.inl e,λb o e nb _=>⟨o.slots,sb.extBut b o (λz=>nb (z▸ha)) e⟩,λb q=>?_⟩
 case refine_2=>
  by_cases z:b=a
  ·obtain⟨_,_,e,_⟩:=he;rw[z,e];exactλz=>by exact ns z
  ·cases e:h.get? b with
   |none=>exact absurd e q
   |some o=>rw[sb.extBut b o z e];exactλz=>by exact ns z
 subst z;rw[T.dis b ha]at e;exact nn e
theorem BM(f:Array TZ->Array TZ)(vs:Array TZ)(n:Nat):∃n',Xm f (bk vs n)=bk (f vs) n':=⟨_,rfl⟩
theorem ux{h:Ux}{l:TX}{vs:Array TZ}{n:Nat}(f:Array TZ->Array TZ)(e:h.get? l=TR (bk vs n)):∃n',(h.update l (Xm f)).get? l=TR (bk (f vs) n'):=by
 refine aj (BM f vs n) λn' q=>?_
 have:=UF (Xm f) e (by rw[q];rfl);exact⟨n',by rw[this,q]⟩
theorem BN{prog:VQ}{w:U4}{A:UT}{E:TZ->aav->Prop}{s:aav}{l:TX}{items:Array TZ}{n0:Nat}{k:Int}{t:Tok}{v:TZ}{Q:Unit->aav->Prop}(ho:s.heap.get? l=TR (bk items n0))(h0:0<=k)(PN:k<2^63)(hn:k<items.size)(hQ:Q () {s with heap:=s.heap.update l (Xm (·.setIfInBounds k.toNat v))}):Uh (Uj prog w) A (setItem (.ref l) (.int k t) v) Q E s:=by
 have hl:s.heap.IsList l items:=⟨_,ho,rfl,_,rfl⟩;have hd:(bk items n0).data=.seq items n0:=rfl;unfold setItem
 try with_reducible refine wpAny_holding ?_
 first|refine wpAny_bind (wpAny_pure ?_)|skip
 refine wpAny_bind (wpAny_sequenceKey hl.typeIs (by decide) ?_);refine wpAny_bind (wpAny_callSpecial?_slot (name:=Vr "__setitem__") hl.typeIs slot_list_setitem (wpAny_call_entry slot_list_setitem hl.typeIs entry_list_setitem ?_ (args_list_setitem _ _ _)));show Uh _ _ (Y7 (.int k t)>>=_) _ _ s;refine wpAny_bind (wpAny_listSubscript_int (fitsIndex_of h0 PN) ?_);clear PN;obtain⟨j,rfl⟩:=Vt h0;have hj:j<items.size:=by exact ab [_,_] ad X1 ad X1 (rL hn) rfl
 have Rl:items[j]? =TR items[j]:=W3 hj;show Uh _ _ ((seqItemAt l j>>=λr=>pure (r.map (j,·)))>>=_) _ _ s;refine wpAny_bind (wpAny_bind (wpAny_seqItemAt ho hd (wpAny_pure ?_)));refine(Rl).symm▸?_;show Uh _ _ (setSeqItemAt l j v>>=_) _ _ s;refine wpAny_bind (wpAny_setSeqItemAt ho hd ?_)
 first
  |exact wpAny_bind (wpAny_pure (wpAny_pure ⟨.none,rfl,wpAny_pure hQ⟩))
  |exact wpAny_pure ⟨.none,rfl,wpAny_pure hQ⟩
theorem aq.set{v:TZ}(hv:VR B v x):∀{vs:List TZ},aq B vs xs->∀{i:Nat},aq B (vs.set i v) (xs.set i x):=by
 induction xs with
 |nil=>intro vs h i;induction h;exact .nil
 |cons y xs ih=>
  intro vs h i;induction h with
  |cons h t=>
   induction i with
   |zero=>exact .cons hv t
   |succ i=>exact .cons h (ih t)
theorem BO{n:Nat}{ρ:af}{M:aa}{o i x:X}{K:PK}{E:PE}(h:Ev n ρ M x (λrx M1=>Ev n ρ M1 o (λro M2=>Ev n ρ M2 i (λri M3=>∃(a:Nat) (xs:List V) (k:Nat),ro=.ref a/\aak M3 a=TR (.list xs)/\ri=.int k/\k<xs.length/\xs.length<2^62/\ K .next ρ (ag M3 a (.list (xs.set k rx)))) E) E) E):cE n ρ M (.asgI o i x) K E:=by
 intro sc e hT c B own s K0 tp S;induction hT with
 |asgI hc hs h1 h2 h3=>
  refine wpAny_Assign_Subscript (wpAny_mono (h _ _ h3 c B own s K0 S) (λvx s1 hv=>?_) λ_ _ h=>h.toS S) (ig hc);obtain⟨B1,K1,M1,⟨rx,ND,k⟩,T1,P1,q1⟩:=hv;have S1:=S.step T1 P1;have Lp:=P1.weaken (P':=λa=>a=c.env.locals) λ_ h=>h.elim
  refine wpAny_mono (k _ _ h1 c B1 K1 s1 K0 S1) (λvo s2 hv=>?_) λ_ _ h=>(h.toS S1).step Lp q1
  obtain⟨B2,K9,M2,⟨ro,Mr,k⟩,T2,P2,q2⟩:=hv;have S2:=S1.step T2 P2;have NE:=P2.weaken (P':=λa=>a=c.env.locals) λ_ h=>h.elim
  refine wpAny_mono (k _ _ h2 c B2 K9 s2 K0 S2) (λvi s3 hv=>?_) λ_ _ h=>(h.toS S2).step (Lp.trans NE) (q1.trans q2)
  obtain⟨B3,LA,M3,⟨ri,MB,a,xs,j,rfl,hm,rfl,hj,hz,k⟩,T3,P3,q3⟩:=hv;have S3:=S2.step T3 P3;induction Mr;induction MB;obtain⟨l,vs,n0,e,L,r⟩:=gJ T3 (x:=.ref a) (xs:=xs) (show lX (aak _ a)=_ by rw[hm];rfl) (.ref a);cases e;have Lf:vs.size=xs.length:=aq.size r;refine BN L (Wm _) (by exact dF (b:=9223372036854775808) (ai [_,_] ad bd ad X1 ay bY hj hz rfl)) (by exact dF (ai [_,_,_] ad X1 ad X2 X2 X1 hj (eR Lf) rfl)) ?_;obtain⟨n',e'⟩:=ux (·.setIfInBounds (YM (j:Int)) vx) L;obtain⟨T4,P4⟩:=T3.set_list hm (VL ..) ⟨_,_,e',by rw[Vf,Array.toList_setIfInBounds];exact aq.set (ND.mono (P2.le.trans P3.le)) r (i:=j)⟩;exact bI.of (s1:={s3 with heap:=_}) (S3.step T4 P4) (((P1.trans P2).trans P3).trans P4) (((q1.trans q2).trans q3).trans ⟨rfl,rfl⟩) .next k
end
section
variable[HasP]
section
variable{prog:VQ}{w:U4}{A:UT}{E:TZ->aav->Prop}{s:aav}{K:Frag}{a D:TX}{o:Vi}
theorem BP{g d t os}(X:K.In h)(hx:h.get? a=TR o)(hc:o.cls=.ref D)(hs:Yc K (.ref D) (.type "object")=TR TV)(hq:R (.ok (.ret (.ref D))) ⟨h,g,d,t,os⟩):Vc (Uj prog w) A (.call (.builtin "getset_descriptor.__get__") ⟨[.builtin "object.__class__",.ref a,.ref D],[]⟩) R ⟨h,g,d,t,os⟩:=by have Rm:(⟨h,g,d,t,os⟩:aav).TypeIs (.builtin "object.__class__") "getset_descriptor":=F.typeOf_object_class;have L0:Looks (Uj prog w) h (typeOf (.ref a)) (.ref D):=hc▸(ZQ hx).andThen .now;have L1:Looks (Uj prog w) h (isInstance (.ref a) (.type "object")) TV:=L0.andThen (looks_subIn X hs);refine codeAny_call_builtin F.slot_gs_get.plain F.entry_gs_get (F.slot_gs_get.check _ _ _ _ _ _ _ _ Rm (F.args_gs_get _ _ _) ?_);refine wpAny_bind (m:=XP _) ?_;refine wpAny_pure ?_;refine wpAny_bind (m:=VO _ _) ?_;unfold VO;refine wpAny_bind (wpAny_pure ?_);have e:(".".intercalate ("object.__class__".cutAt '.').dropLast)="object":=F.owner_object_class;show Uh _ _ (isInstance (.ref a) (.type (".".intercalate ("object.__class__".cutAt '.').dropLast))>>=_) _ _ _;refine(e).symm▸?_;refine wpAny_bind (L1.at ?_);refine wpAny_pure ?_;refine wpAny_pure ⟨WX _ (by decide+kernel),codeAny_builtin F.entry_object_class ?_⟩;show Uh _ _ (shownTypeOf (.ref a)>>=_) _ _ _;refine wpAny_bind (wpAny_bind (L0.at ?_));refine wpAny_pure ?_;exact wpAny_pure hq
theorem pq{K:Frag}(h:clsIn K C=TR cd):∃a b c,K.lookup C=TR ⟨a,b,.cls cd,c⟩:=by
 unfold clsIn at h;cases e:K.lookup C with
 |none=>rw[e]at h;exact nn h
 |some o=>
  rw[e]at h;obtain⟨a,b,d,c⟩:=o;cases d with
  |cls x=>exact⟨a,b,c,by rw[TU h]⟩
  |_=>exact nn h
structure fT(K:Frag)(D:TX):Prop where
 ga:Vj K (.ref D) "__getattribute__"=TR (TR (.builtin "object.__getattribute__"))
 gat:Vj K (.ref D) "__getattr__"=TR TW
 cl:Vj K (.ref D) "__class__"=TR (TR (.builtin "object.__class__"))
 ob:Yc K (.ref D) (.type "object")=TR TV
 ty:Y9 K (.ref D)=TR (.type "type")
 it:instIn K (.ref D) (.type "type")=TR TV
 cd:∃cd,clsIn K D=TR cd
theorem BR(I:fT K D):findObj K D od "__class__"=TR (.bind (.builtin "getset_descriptor.__get__") (.builtin "object.__class__")):=by
 refine aj I.cd λcd hc=>?_
 unfold findObj;rw[hc,UP,I.cl,UP];have e1:XT K (.builtin "object.__class__") "__get__"=TR (TR (.builtin "getset_descriptor.__get__")):=by kernel_rfl
 have e2:takesIn K (.builtin "object.__class__")=TR TV:=by kernel_rfl
 dsimp only;rw[e1,UP];dsimp only;rw[e2];rfl
theorem uy{g d t os}(X:K.In h)(J:fT K D)(I:InstAt h a o D od)(hq:Q (TR (.ref D)) ⟨h,g,d,t+1,os⟩):Uh (Uj prog w) A (getAttr? (.ref a) "__class__") Q E ⟨h,g,d,t,os⟩:=by
 have L0:Looks (Uj prog w) h (typeOf (.ref a)) (.ref D):=I.type;have L1:=looks_findIn (M:=Uj prog w) X J.ga;have L2:=looks_find (M:=Uj prog w) X I (BR (od:=od) J);have L3:=looks_findIn (M:=Uj prog w) X J.gat;unfold getAttr? getAttrBy?;refine wpAny_bind (wpAny_mkText ?_);refine wpAny_bind (wpAny_attempt (wpAny_mono (Q:=λv s'=>v=.ref D/\s'=⟨h,g,d,t+1,os⟩) (E:=λ_ _=>False) ?_ (λv s' z=>?_) λ_ _ z=>z.elim))
 ·unfold getAttrBy;refine wpAny_holding (wpAny_bind (L0.at (wpAny_bind (L1.at ?_))));show Uh _ _ (getAttrEveryday _ _ _) _ _ _;refine wpAny_bind (wpAny_onRaise (wpAny_runValue (codeAny_builtin F.plainObj_entry_getattr_hooked ?_)));refine wpAny_bind (wpAny_pure (wpAny_bind (L0.at (wpAny_bind (L2.at (wpAny_bind (L3.at ?_)))))));show Uh _ _ (holding [.builtin "object.__class__"] (Vl (.builtin "getset_descriptor.__get__") [.builtin "object.__class__",.ref a,.ref D])>>=ret) _ _ _;refine wpAny_bind (wpAny_holding (wpAny_call (BP X I.at_ I.cls J.ob ?_)));refine wpAny_pure ?_;show Uh _ _ (handedOut (.ref D)) _ _ _;exact wpAny_pure ⟨rfl,rfl⟩
 ·obtain⟨rfl,rfl⟩:=z;exact wpAny_pure hq
theorem BS(ne:D≠C)(X:K.In s.heap)(J:fT K D)(J2:fT K C)(no:Yc K (.ref D) (.ref C)=TR TT)(I:InstAt s.heap a o D od)(h:Q (.done (.ret (.bool TT))) {s with toks:=s.toks+1}):Uh (Uj prog w) A (Builtin.«isinstance.nested» ⟨[.ref a,.ref C,.int dep tk],[]⟩) Q E s:=by
 obtain⟨hh,g,d,tt,os⟩:=s;have L0:Looks (Uj prog w) hh (typeOf (.ref a)) (.ref D):=I.type;unfold Builtin.«isinstance.nested»;refine wpAny_bind (L0.at ?_);rw[if_neg (λq=>ne (by cases beq_iff_eq.mp q;rfl))];have L1:=looks_typeIn (M:=Uj prog w) X J2.ty;have L2:=looks_instIn (M:=Uj prog w) X J2.it;have L4:Looks (Uj prog w) hh (isSubtype (.ref D) (.ref C)) TT:=looks_subIn X no;have L3:Looks (Uj prog w) hh (isInstance (.ref a) (.ref C)) TT:=L0.andThen L4;have L5:=looks_typeIn (M:=Uj prog w) X J.ty;have L6:=looks_instIn (M:=Uj prog w) X J.it;obtain⟨cd,Nv⟩:=J.cd;obtain⟨Tf,Rn⟩:=J2.cd;refine wpAny_bind (L1.at ?_);rw[if_pos (by decide)]
 k_delta "plainIsInstance"
 unfold isType;obtain⟨_,_,_,ho⟩:=pq Nv;obtain⟨_,_,_,Ro⟩:=pq Rn
 repeat lk
 refine nd_load (X _ _ Ro) (nd_pure (wpAny_pure ?_));simp only[UY,UC,if_false];refine wpAny_bind (L3.at ?_);simp only[UC,if_false];refine wpAny_bind (uy X J I ?_);dsimp only;refine wpAny_bind ?_;refine wpAny_bind (nd_load (X _ _ ho) (nd_pure (wpAny_pure ?_)));simp only[UY,UC,if_false];refine wpAny_bind (wpAny_rule ?_);refine L4.at ?_;exact wpAny_pure h
theorem BU(ne:D≠C)(X:K.In s.heap)(J:fT K D)(J2:fT K C)(no:Yc K (.ref D) (.ref C)=TR TT)(I:InstAt s.heap a o D od)(h:Q (.bool TT) {s with toks:=s.toks+1}):Uh (Uj prog w) A (Vl (.builtin "isinstance") [.ref a,.ref C]) Q E s:=call_isinstance (S:=λ_ R s=>(K.In s.heap/\InstAt s.heap a o D od)/\R (.ok (.ret (.bool TT))) {s with toks:=s.toks+1}) (λ_ _ _ _ _ hs=>isinstance_outer (BS ne hs.1.1 J J2 no hs.1.2 hs.2) (λq=>by cases q)) ⟨⟨X,I⟩,h⟩
theorem BV{T:String}(X:K.In s.heap)(J:fT K D)(OH:typeOf (.type T)=pure (.type "type"))(MP:Yc K (.ref D) (.type T)=TR TT)(I:InstAt s.heap a o D od)(h:Q (.done (.ret (.bool TT))) {s with toks:=s.toks+1}):Uh (Uj prog w) A (Builtin.«isinstance.nested» ⟨[.ref a,.type T,.int dep tk],[]⟩) Q E s:=by
 obtain⟨hh,g,d,tt,os⟩:=s;have L0:Looks (Uj prog w) hh (typeOf (.ref a)) (.ref D):=I.type;unfold Builtin.«isinstance.nested»;refine wpAny_bind (L0.at ?_);rw[if_neg (λq=>by cases beq_iff_eq.mp q)];have L4:Looks (Uj prog w) hh (isSubtype (.ref D) (.type T)) TT:=looks_subIn X MP;have L3:Looks (Uj prog w) hh (isInstance (.ref a) (.type T)) TT:=L0.andThen L4;obtain⟨cd,Nv⟩:=J.cd;refine wpAny_bind (wpAny_of_eq OH ?_);rw[if_pos (by decide)]
 k_delta "plainIsInstance"
 unfold isType;obtain⟨_,_,_,ho⟩:=pq Nv;refine wpAny_bind (wpAny_bind (wpAny_bind (wpAny_pure (wpAny_pure ?_))));simp only[UY,UC,if_false];refine wpAny_bind (L3.at ?_);simp only[UC,if_false];refine wpAny_bind (uy X J I ?_);dsimp only;refine wpAny_bind ?_;refine wpAny_bind (nd_load (X _ _ ho) (nd_pure (wpAny_pure ?_)));simp only[UY,UC,if_false];refine wpAny_bind (wpAny_rule ?_);refine L4.at ?_;exact wpAny_pure h
theorem BW{T:String}(X:K.In s.heap)(J:fT K D)(OH:typeOf (.type T)=pure (.type "type"))(MP:Yc K (.ref D) (.type T)=TR TT)(I:InstAt s.heap a o D od)(h:Q (.bool TT) {s with toks:=s.toks+1}):Uh (Uj prog w) A (Vl (.builtin "isinstance") [.ref a,.type T]) Q E s:=call_isinstance (S:=λ_ R s=>(K.In s.heap/\InstAt s.heap a o D od)/\R (.ok (.ret (.bool TT))) {s with toks:=s.toks+1}) (λ_ _ _ _ _ hs=>isinstance_outer (BV hs.1.1 J OH MP hs.1.2 hs.2) (λq=>by cases q)) ⟨⟨X,I⟩,h⟩
end
noncomputable def fD:List TX:=[38,71,155,176,197,218,239,260,281,302,323,463,582]
noncomputable def il(D C:TX):Bool:=UN D C||(UN D 323&&UN C 302)
noncomputable def pt(P:Ur)(D:TX):Bool:=decide (Vj (KW P) (.ref D) "__getattribute__"=TR (TR (.builtin "object.__getattribute__")))&&decide (Vj (KW P) (.ref D) "__getattr__"=TR TW)&&decide (Vj (KW P) (.ref D) "__class__"=TR (TR (.builtin "object.__class__")))&&decide (Yc (KW P) (.ref D) (.type "object")=TR TV)&&decide (Y9 (KW P) (.ref D)=TR (.type "type"))&&decide (instIn (KW P) (.ref D) (.type "type")=TR TV)&&(clsIn (KW P) D).isSome&&decide (Yc (KW P) (.ref D) (.type "bool")=TR TT)&&isNotIn (KW P) "int" D&&isNotIn (KW P) "str" D&&isNotIn (KW P) "bool" D&&isNotIn (KW P) "NoneType" D&&fD.all λC=>bif il D C then isIn (KW P) (.ref D) C else decide (Yc (KW P) (.ref D) (.ref C)=TR TT)
set_option maxRecDepth 100000 in
theorem BX(P:Ur):fD.all (pt P)=TV:=by kernel_rfl
theorem BY{P:Ur}{D:TX}(h:fD.any (UN D)=TV):D∈fD/\pt P D=TV:=by obtain⟨g,hg,e⟩:=List.any_eq_true.mp h;have e:=Ut e;subst e;exact⟨hg,List.all_eq_true.mp (BX P) D hg⟩
structure BZ(K:Frag)(D:TX):Prop where
 own:fT K D
 noB:Yc K (.ref D) (.type "bool")=TR TT
 nInt:isNotIn K "int" D=TV
 nStr:isNotIn K "str" D=TV
 nBool:isNotIn K "bool" D=TV
 nNone:isNotIn K "NoneType" D=TV
 pair:∀C∈fD,if il D C=TV then isIn K (.ref D) C=TV else Yc K (.ref D) (.ref C)=TR TT
theorem pu{P:Ur}{D:TX}(h:fD.any (UN D)=TV):D∈fD/\BZ (KW P) D:=by
 obtain⟨hm,z⟩:=BY (P:=P) h;unfold pt at z;simp only[Uq]at z;obtain⟨⟨⟨⟨⟨⟨⟨⟨⟨⟨⟨⟨z1,z2⟩,z3⟩,z4⟩,z5⟩,z6⟩,z7⟩,z8⟩,z9⟩,Rp⟩,Rq⟩,Rr⟩,Rs⟩:=z;refine⟨hm,⟨?_,?_,?_,?_,?_,?_,Option.isSome_iff_exists.mp z7⟩,?_,z9,Rp,Rq,Rr,λC hC=>?_⟩
 ·exact of_decide_eq_true z1
 ·exact of_decide_eq_true z2
 ·exact of_decide_eq_true z3
 ·exact of_decide_eq_true z4
 ·exact of_decide_eq_true z5
 ·exact of_decide_eq_true z6
 ·exact of_decide_eq_true z8
 ·have:=List.all_eq_true.mp Rs C hC;cases q:il D C with
  |true=>rw[q]at this;rw[if_pos rfl];exact this
  |false=>rw[q]at this;rw[if_neg (by decide)];dsimp only[cond_false]at this;exact of_decide_eq_true this
end
section
variable[HasP]
def BC(n:Nat)(id:String)(args:List V)(M:aa)(Q:PQ):Prop:=∀(c:Cx) (ρ:af) (B:PH) (own:List TX) (s:aav) (vs:List TZ) (E:TZ->aav->Prop),St c n ρ M B own s.heap->aq B vs args->Uh (Uj pw c.w) c.A (Vl (.builtin id) vs) (aC B own s Q) E s
set_option tactic.hygienic true in
theorem B6{id:String}(h:dK n ρ M xs (λvs M1=>BC n id vs M1 Q) E):Ev n ρ M (.call (.cst (.bi id)) xs) Q E:=by
 intro sc e hT c B own s K0 S;induction hT with
 |call Mp hf hs=>
  rename_i fe as p;refine(ic Mp).symm▸?_;refine aT.bind S (fR (Q:=λr M1=>r=.bi id/\M1=M) ⟨rfl,rfl⟩ _ _ hf c B own s K0 S) λfv s1 B1 K1 M1 ⟨r,LU,hr,hM⟩ S1 l1=>?_
  subst hr hM;induction LU;have go:∀p:Pos,Uh (Uj pw c.w) c.A (spliced (VP p (U1 as c.env))) (λvs s2=>Uh (Uj pw c.w) c.A (Vl (.builtin id) vs) (aC B1 K1 s1 Q) (bg B1 K1 s1 E) s2) (bg B1 K1 s1 E) s1:=by
   intro p;refine wpAny_mono (h _ _ hs c B1 K1 s1 p K0 S1) (λvs s2 h2=>?_) λ_ _ h=>h
   obtain⟨B2,K9,M2,⟨rs,r2,k⟩,T2,P2,q2⟩:=h2;have S2:=S1.step T2 P2;exact wpAny_mono (k c ρ B2 K9 s2 _ (bg B1 K1 s1 E) S2 r2) (λv s3 h3=>h3.step P2 q2) λ_ _ h3=>h3
  refine callWith_builtin (hs.plain c.env p).1 ?_;exact lQ hs (go p)
theorem ke{h h':Ux}(k:∀a o,h.get? a=TR o->h'.get? a=TR o){b:TX}(q:h.get? b≠TW):h'.get? b≠TW:=by
 cases e:h.get? b with
 |none=>exact absurd e q
 |some o'=>rw[k b o' e];exactλz=>by exact ns z
theorem aC.kept{B:PH}{own:List TX}{s s':aav}{M:aa}{Q:PQ}{v:TZ}{r:V}(T:aA B M own s.heap)(hr:VR B v r)(q:Q r M)(k:∀a o,s.heap.get? a=TR o->s'.heap.get? a=TR o)(q':bl s s':=by exact⟨rfl,rfl⟩):aC B own s Q v s':=⟨B,own,M,⟨r,hr,q⟩,T.keeps k,⟨Le.refl B,λ_ e=>.inl e,λ_ e=>.inl e,λb o e _ _=>⟨o.slots,k b o e⟩,λb q=>ke k q⟩,q'⟩
theorem aq.one(h:aq B vs [x]):∃v,vs=[v]/\VR B v x:=by
 induction h with
 |cons h t=>induction t;exact⟨_,rfl,h⟩
theorem aq.two{B:PH}{vs:List TZ}{x y:V}(h:aq B vs [x,y]):∃v w,vs=[v,w]/\VR B v x/\VR B w y:=by
 induction h with
 |cons h t=>obtain⟨w,rfl,h2⟩:=aq.one t;exact⟨_,_,rfl,h,h2⟩
theorem B7{l:List Nat}(hl:l.length<2^63)(q:Q (.int l.length) M):BC n "len" [.str l] M Q:=by
 intro c ρ B own s vs E S K8;obtain⟨v,rfl,hv⟩:=K8.one;induction hv with
 |str x t=>rw[<-c5]at q hl;exact PySem.P.len_str (by exact jH (a:=9223372036854775808) (ab [_] ad bd ad bd hl rfl)) (aC.here S.sta (.int _ _) q)
theorem B8(hx:bh M r=TR xs)(hl:xs.length<2^63)(q:Q (.int xs.length) M):BC n "len" [r] M Q:=by intro c ρ B own s vs E S K8;obtain⟨v,rfl,hv⟩:=K8.one;obtain⟨l,ws,rfl,L,hr⟩:=ka S.sta hx hv;have hz:ws.size=xs.length:=aq.size hr;refine call_len_list L (by rw[hz];exact dF (b:=9223372036854775808) (ab [_] ad bd ad bd hl rfl)) ?_;refine(hz).symm▸?_;exact aC.here S.sta (.int _ _) q
theorem B9(q:Q (.int a.natAbs) M):BC n "abs" [.int a] M Q:=by
 intro c ρ B own s vs E S K8;obtain⟨v,rfl,hv⟩:=K8.one;induction hv;refine call_abs_int λu tk=>?_
 have e:(if a<0 then-a else a)=(a.natAbs:Int):=by split<;>lia
 refine(e).symm▸?_;exact aC.here S.sta (.int _ _) q
theorem Ca(q:Q (.int a) M):BC n "ord" [.str [a]] M Q:=by intro c ρ B own s vs E S K8;obtain⟨v,rfl,hv⟩:=K8.one;obtain⟨u,rfl⟩:=hv.strE;exact PySem.P.ord_of_char (aC.here S.sta (.int _ _) q)
theorem Cb{n:Nat}{a:Nat}{M:aa}{Q:PQ}(ha:a<=0x10FFFF)(q:Q (.str [a]) M):BC n "chr" [.int a] M Q:=by intro c ρ B own s vs E S K8;obtain⟨v,rfl,hv⟩:=K8.one;induction hv;refine PySem.P.chr_of_int (by simp;lia) (aC.here S.sta (r:=.str [a]) ?_ q);exact .str ⟨#[a]⟩ _
theorem Cc(hn:0<n)(q:Q (.int (max a b)) M):BC n "max" [.int a,.int b] M Q:=by
 intro c ρ B own s vs E S K8;obtain⟨v,w,rfl,hv,hw⟩:=K8.two;induction hv;induction hw;refine max_two_ints (S.hand hn) λh' tk k=>aC.kept (r:=.int (max a b)) S.sta ?_ q k
 split
 ·rename_i h;rw[Int.max_eq_right (by lia)];exact .int _ _
 ·rename_i h;rw[Int.max_eq_left (by lia)];exact .int _ _
theorem Cd(hn:0<n)(q:Q (.int (min a b)) M):BC n "min" [.int a,.int b] M Q:=by
 intro c ρ B own s vs E S K8;obtain⟨v,w,rfl,hv,hw⟩:=K8.two;induction hv;induction hw;refine min_two_ints (S.hand hn) λh' tk k=>aC.kept (r:=.int (min a b)) S.sta ?_ q k
 split
 ·rename_i h;rw[Xi (by lia)];exact .int _ _
 ·rename_i h;rw[Int.min_eq_left (by lia)];exact .int _ _
theorem Ce(hb:b≠0)(hp:Builtin.divisionGoesByPylong a b=TT)(q:Q (.tup [.int (a.fdiv b),.int (a.fmod b)]) M):BC n "divmod" [.int a,.int b] M Q:=by intro c ρ B own s vs E S K8;obtain⟨v,w,rfl,hv,hw⟩:=K8.two;induction hv;induction hw;refine divmod_int hb ?_ (.inl hp);obtain⟨T2,P2⟩:=S.sta.pushB (o:={cls:=.type "tuple",data:=.seq #[.int (a.fdiv b) s.toks,.int (a.fmod b) (s.toks+1)]}) rfl;exact⟨_,own,M,⟨_,.tup eE rfl rfl (.cons (.int _ _) (.cons (.int _ _) .nil)),q⟩,T2,P2,rfl,rfl⟩
noncomputable def ki(k:TX->Option Bool):Option (TX×List (Nat×V))->Option Bool
 |some p=>bif fD.any (UN p.1)then k p.1 else TW
 |none=>TW
noncomputable def uz(M:aa)(C:TX):V->Option Bool
 | .int _=>TR TT
 | .str _=>TR TT
 | .bool _=>TR TT
 | .none=>TR TT
 |x=>ki (λD=>TR (il D C)) (cm M x)
noncomputable def Cf(M:aa):V->Option Bool
 | .bool _=>TR TV
 | .int _=>TR TT
 |x=>ki (λ_=>TR TT) (cm M x)
noncomputable def aD(M:aa)(x:V)(v:V):Option Bool:=V.casesOn (motive_1:=λ_=>Option Bool) v TW (λ_=>TW) (λ_=>TW) (λ_=>TW) (λ_=>TW) (λ_=>TW) (λ_ _=>TW) (λ_ _ _=>TW) (λC=>bif fD.any (UN C)then uz M C x else TW) (λ_=>TW) (λs=>bif decide (s="bool")then Cf M x else TW) (λ_=>TW)
theorem pv{α:Type}{b:Bool}{x:Option α}{r:α}(h:(bif b then x else TW)=TR r):b=TV/\x=TR r:=by
 induction b with
 |true=>exact⟨rfl,h⟩
 |false=>exact nn h
theorem uA{k:TX->Option Bool}{o:Option (TX×List (Nat×V))}{r:Bool}(h:ki k o=TR r):∃D fs,o=TR (D,fs)/\fD.any (UN D)=TV/\k D=TR r:=by
 induction o with
 |none=>exact nn h
 |some p=>obtain⟨h1,h2⟩:=pv h;exact⟨_,_,rfl,h1,h2⟩
theorem Cg{n:Nat}{x c:V}{r:Bool}{M:aa}{Q:PQ}(h:aD M x c=TR r)(q:Q (.bool r) M):BC n "isinstance" [x,c] M Q:=by
 intro cx ρ B own s vs E S K8;obtain⟨v,w,rfl,hv,hw⟩:=K8.two;have K:=S.kin;cases c with
 |ref C=>
  induction hw;obtain⟨hC,h⟩:=pv h;obtain⟨hm,FC⟩:=pu (P:=cx.w.params) hC;have done:∀s',s'.heap=s.heap->bl s s'->r=TT->aC B own s Q (.bool TT) s':=λs' e1 e2 e3=>aC.here S.sta (r:=.bool TT) (.bool _) (e3▸q) e1 e2
  have rest:ki (λD=>TR (il D C)) (cm M x)=TR r->Uh (Uj pw cx.w) cx.A (Vl (.builtin "isinstance") [v,.ref C]) (aC B own s Q) E s:=λh=>by
   obtain⟨D,fs,I,hD,h⟩:=uA h;obtain⟨Rt,FD⟩:=pu (P:=cx.w.params) hD;obtain⟨a,o,od,es,n',rfl,I1,La,_⟩:=lL S.sta I hv;have pr:=FD.pair C hm;cases hs:il D C with
   |true=>rw[hs]at pr h;obtain rfl:=TU h;rw[if_pos rfl]at pr;exact isi_call K (λM=>I1.type) pr (λq=>nomatch q) (aC.here S.sta (.bool _) q)
   |false=>rw[hs]at pr h;rw[if_neg Wn]at pr;refine BU ?_ K FD.own FC.own pr I1 (done _ rfl ⟨rfl,rfl⟩ (TU h).symm);rintro rfl;unfold il at hs;rw[ZA]at hs;exact bt hs
  have e3:uz M C x=TR TT->r=TT:=λe=>TU (h.symm.trans e)
  cases x with
  |int _=>induction hv;exact isn_call (P:=λ_=>True) K (λM=>Xd rfl) FC.nInt (λq=>nomatch q) trivial int_cls (done _ rfl ⟨rfl,rfl⟩ (e3 rfl))
  |str _=>induction hv;exact isn_call (P:=λ_=>True) K (λM=>Xd rfl) FC.nStr (λq=>nomatch q) trivial str_cls (done _ rfl ⟨rfl,rfl⟩ (e3 rfl))
  |bool _=>induction hv;exact isn_call (P:=λ_=>True) K (λM=>Xd rfl) FC.nBool (λq=>nomatch q) trivial bool_cls (done _ rfl ⟨rfl,rfl⟩ (e3 rfl))
  |none=>induction hv;exact isn_call (P:=λ_=>True) K (λM=>Xd rfl) FC.nNone (λq=>nomatch q) trivial none_cls (done _ rfl ⟨rfl,rfl⟩ (e3 rfl))
  |_=>exact rest h
 |ty t=>
  obtain⟨ht,h⟩:=pv h;obtain rfl:=of_decide_eq_true ht;induction hw;have rest:ki (λ_=>TR TT) (cm M x)=TR r->Uh (Uj pw cx.w) cx.A (Vl (.builtin "isinstance") [v,.type "bool"]) (aC B own s Q) E s:=λh=>by obtain⟨D,fs,I,hD,h⟩:=uA h;obtain rfl:=TU h;obtain⟨Rt,FD⟩:=pu (P:=cx.w.params) hD;obtain⟨a,o,od,es,n',rfl,I1,La,_⟩:=lL S.sta I hv;exact BW K FD.own F.isi_meta_bool FD.noB I1 (aC.here S.sta (.bool _) q)
  cases x with
  |bool _=>obtain rfl:=TU h;induction hv;exact IsiPair.bool_bool (aC.here S.sta (.bool _) q)
  |int _=>obtain rfl:=TU h;induction hv;exact IsiPair.int_bool (aC.here S.sta (.bool _) q)
  |_=>exact rest h
 |_=>exact nn h
end
section
variable[HasP]
def dw(M:aa)(r:V)(k:Nat)(id:String):Prop:=∀(mo:Model) (A:UT) (E:TZ->aav->Prop) (B:PH) (own:List TX) (s:aav) (v:TZ) (name:U6) (pl:Sem Bool) (Q':TZ×List TZ->aav->Prop),aA B M own s.heap->VR B v r->aG name=TV->nc name=k->Q' (.builtin id,[v]) s->Uh mo A (getMethod v name pl) Q' E s
theorem lZ(ok:aG name=TV)(h:nc name=k)(Lx:aG (so x)=TV)(hk:nc (so x)=k):name=so x:=fA ok Lx (h.trans hk.symm)
theorem px{x id:String}(hl:bh M r=TR xs)(slot:Slot "list" (so x) id)(ty:typeOf (.builtin id)=pure (.type "method_descriptor"))(Lx:aG (so x)=TV)(hk:nc (so x)=k):dw M r k id:=by
 intro mo A E B own s v name pl Q' T hv ok hn h;refine(lZ ok hn Lx hk).symm▸?_;refine bO (gJ T hl hv) λl vs n KY=>?_
 have K6:=KY.1;subst K6;have e:=KY.2.1;exact getMethod_builtin (T:="list") ⟨_,e,rfl⟩ PySem.F.plainAttrs_list slot ty (λa q=>by cases q;exact⟨_,e,rfl⟩) h
theorem Ch(hl:bh M r=TR xs):dw M r 146 "list.append":=px (x:="append") hl slot_list_append type_list_append (by kernel_rfl) (by kernel_rfl)
theorem Ci(hl:bh M r=TR xs):dw M r 23 "list.pop":=px (x:="pop") hl XB PySem.F.type_list_pop (by kernel_rfl) (by kernel_rfl)
theorem Cj(hl:bh M r=TR xs):dw M r 147 "list.extend":=px (x:="extend") hl Xc PySem.F.type_list_extend (by kernel_rfl) (by kernel_rfl)
theorem jb{l:List Nat}{x id:String}(hm:∀{mo:Model} {A:UT} {E:TZ->aav->Prop} {s:aav} {y:U6} {t:Tok} {pl:Sem Bool} {Q:TZ×List TZ->aav->Prop},Q (.builtin id,[.str y t]) s->Uh mo A (getMethod (.str y t) (so x) pl) Q E s)(Lx:aG (so x)=TV)(hk:nc (so x)=k):dw M (.str l) k id:=by intro mo A E B own s v name pl Q' T hv ok hn h;refine(lZ ok hn Lx hk).symm▸?_;induction hv;exact hm h
theorem uB{l:List Nat}:dw M (.str l) 71 "str.join":=jb (x:="join") (λh=>GM.join h) (by kernel_rfl) (by kernel_rfl)
theorem Ck{l:List Nat}:dw M (.str l) 42 "str.find":=jb (x:="find") (λh=>GM.find h) (by kernel_rfl) (by kernel_rfl)
theorem Cl{l:List Nat}:dw M (.str l) 121 "str.lower":=jb (x:="lower") (λh=>GM.lower h) (by kernel_rfl) (by kernel_rfl)
theorem Cm{l:List Nat}:dw M (.str l) 162 "str.rstrip":=jb (x:="rstrip") (λh=>GM.rstrip h) (by kernel_rfl) (by kernel_rfl)
theorem Cn{l:List Nat}:dw M (.str l) 133 "str.split":=jb (x:="split") (λh=>GM.split h) (by kernel_rfl) (by kernel_rfl)
theorem Co{l:List Nat}:dw M (.str l) 139 "str.index":=jb (x:="index") (λh=>GM.index h) (by kernel_rfl) (by kernel_rfl)
theorem own_at{B:PH}{h:Ux}{M:aa}{own:List TX}(T:aA B M own h){a:TX}{xs:List V}(hm:aak M a=TR (.list xs)):∃vs n,h.get? a=TR (bk vs n)/\aq B vs.toList xs:=T.mr.at_list hm
theorem py{B:PH}{M:aa}{own:List TX}{s:aav}{a:TX}{xs ys:List V}{vs:Array TZ}{n:Nat}{f:Array TZ->Array TZ}{Q:PQ}{v:TZ}{r:V}{k:Nat}(T:aA B M own s.heap)(hm:aak M a=TR (.list xs))(e:s.heap.get? a=TR (bk vs n))(hr:aq B (f vs).toList ys)(hv:VR B v r)(q:Q r (ag M a (.list ys))):aC B own s Q v {s with heap:=s.heap.update a (Xm f),toks:=k}:=by obtain⟨n',e'⟩:=ux f e;obtain⟨T1,P1⟩:=T.set_list hm (VL ..) ⟨_,n',e',hr⟩;exact⟨B,own,_,⟨r,hv,q⟩,T1,P1,rfl,rfl⟩
theorem uC{n:Nat}{a:TX}{xs:List V}{x:V}{M:aa}{Q:PQ}(hm:aak M a=TR (.list xs))(hl:xs.length<=Ub)(q:Q .none (ag M a (.list (xs++[x])))):BC n "list.append" [.ref a,x] M Q:=by
 intro c ρ B own s vs E S K8;refine aX K8.two λv w KY=>?_
 have K6:=KY.1;subst K6;have hw:=KY.2.2;induction KY.2.1;refine aX (own_at S.sta hm) λLm n' KY=>?_
 have e:=KY.1;have hr:=KY.2;have hz:Lm.size=xs.length:=aq.size hr;refine call_meets slot_list_append ⟨_,e,rfl⟩ entry_list_append (args_list_append _ _) (list_append a Lm n' w (by rw[hz];exact hl)) ⟨e,?_⟩;exact py (f:=λy=>y.push w) S.sta hm e (by rw[Array.toList_push];exact hr.append (.cons hw .nil)) .none q
theorem aq.erase:∀{vs:List TZ},aq B vs xs->aq B vs.dropLast xs.dropLast:=by
 induction xs with
 |nil=>intro vs h;induction h;exact .nil
 |cons x xs ih=>
  intro vs h;induction h with
  |cons h t=>
   have:=ih t;induction xs with
   |nil=>induction t;exact .nil
   |cons y ys=>induction t with|cons _ _=>exact .cons h this
theorem Cp(a:Array TZ):(a.eraseIdxIfInBounds (a.size-1)).toList=a.toList.dropLast:=by
 obtain⟨l⟩:=a;by_cases h:l=[]
 ·subst h;simp[Xe]
 ·have hz:l.length-1<l.length:=by have:=List.length_pos_iff.mpr h;lia
  unfold Xe;simp only[List.size_toArray];rw[dif_pos hz,List.eraseIdx_toArray];simp only;rw[List.eraseIdx_length_sub_one]
theorem Cq{n:Nat}{a:TX}{xs:List V}{x:V}{M:aa}{Q:PQ}(hm:aak M a=TR (.list xs))(hx:xs.getLast?=TR x)(hl:xs.length<=Ub)(q:Q x (ag M a (.list xs.dropLast))):BC n "list.pop" [.ref a] M Q:=by
 intro c ρ B own s vs E S K8;refine aj K8.one λv KY=>?_
 have K6:=KY.1;subst K6;induction KY.2;refine aX (own_at S.sta hm) λLm n' KY=>?_
 have e:=KY.1;have hr:=KY.2;have hz:Lm.size=xs.length:=aq.size hr;rw[W1]at hx;refine aj (hr.get hx) λy KY=>?_
 refine call_meets XB ⟨_,e,rfl⟩ PySem.F.entry_list_pop (PySem.F.args_list_pop_1 _) (YT a Lm n' y (by rw[hz];simpa using KY.1) (by rw[hz];exact hl)) ⟨e,?_⟩;exact py (f:=λxs=>xs.eraseIdxIfInBounds (Lm.size-1)) S.sta hm e (by rw[Cp];exact hr.erase) KY.2 q
theorem Cs{n:Nat}{a:TX}{xs ys:List V}{r:V}{M:aa}{Q:PQ}(hm:aak M a=TR (.list xs))(hy:bh M r=TR ys)(hl:xs.length+ys.length<=Ub)(q:Q .none (ag M a (.list (xs++ys)))):BC n "list.extend" [.ref a,r] M Q:=by
 intro c ρ B own s vs E S K8;refine aX K8.two λv w KY=>?_
 have K6:=KY.1;subst K6;have hv:=KY.2.1;have hw:=KY.2.2;induction hv;refine aX (own_at S.sta hm) λLm n' KY=>?_
 have e:=KY.1;have hr:=KY.2;refine bO (gJ S.sta hy hw) λl2 MC n2 KY=>?_
 have K6:=KY.1;subst K6;have OI:=KY.2.2;have hz:Lm.size=xs.length:=aq.size hr;have Oc:MC.size=ys.length:=aq.size OI;have Lf:Lm.size+MC.size<=Ub:=by rw[hz,Oc];exact hl
 refine call_meets Xc ⟨_,e,rfl⟩ PySem.F.entry_list_extend (PySem.F.args_list_extend_2 _ _) (AutoSeq1.list_extend_list_list_0 a Lm n' l2 MC n2 (extend_door Lf) (UI (VM _ _) Lf) (by exact Ve (by assumption))) ⟨e,KY.2.1,?_⟩;exact py (f:=λx=>x++MC) S.sta hm e (by rw[Array.toList_append];exact hr.append OI) .none q
theorem Ct(ha:bh M a=TR xs)(hb:bh M b=TR ys)(hl:xs.length+ys.length<=Ub)(q:j8 M (xs++ys) Q):du .Add a b M Q:=by
 intro c n ρ B own s va vb E S h1 h2;refine bO (gJ S.sta ha h1) λl1 Lm n1 KY=>?_
 have K6:=KY.1;subst K6;have e1:=KY.2.1;have r1:=KY.2.2;refine bO (gJ S.sta hb h2) λl2 MC n2 KY=>?_
 have K6:=KY.1;subst K6;have r2:=KY.2.2;have hz:Lm.size=xs.length:=aq.size r1;have Oc:MC.size=ys.length:=aq.size r2;refine P.add_list e1 KY.2.1 ?_ (by rw[hz,Oc];exact hl);have:=lU (s:=s) (Q:=Q) S.sta (r1.append r2) q;have e:(Lm.toList++MC.toList).toArray=Lm++MC:=by simp
 rw[e]at this;exact this
theorem pz:∀ys:List U6,(XG ⟨#[]⟩ ys).cps.toList=(ys.map (·.cps.toList)).flatten
 | []=>rfl
 |a::r=>by rw[join_nil_cons,i7,pz r];rfl
theorem Cu(hl:bh M r=TR xs)(hs:eG xs=TR ls)(hz:ls.flatten.length<=16777216)(q:Q (.str ls.flatten) M):BC n "str.join" [.str [],r] M Q:=by
 intro c ρ B own s vs E S K8;refine aX K8.two λv w KY=>?_
 have K6:=KY.1;subst K6;have hv:=KY.2.1;have hw:=KY.2.2;refine aj (VR.strE hv) λu KY=>?_
 subst KY
 ·refine bO (gJ S.sta hl hw) λl Lm n' KY=>?_
  have K6:=KY.1;subst K6;have e:=KY.2.1;have hr:=KY.2.2;refine aj (pp hr hs) λys KY=>?_
  have hb:=KY.2;have Li:(ys.map (·.length)).sum=ls.flatten.length:=by
   refine(hb)▸?_;refine(X7).symm▸?_;refine(U8).symm▸?_
   congr 1
  refine join_list ⟨_,e,rfl,_,rfl⟩ KY.1 (by show _+ys.length*0<=_;lia) λt' k=>?_
  refine aC.here S.sta (r:=.str ls.flatten) ?_ q;have e2:Zb ⟨#[]⟩ ys=XG ⟨#[]⟩ ys:=XA _ _;refine(e2).symm▸?_;refine(hb)▸?_;rewrite[<-pz];exact .str _ _
theorem jc(x:U6)(c i:Nat):StrLaws.At x ⟨#[c]⟩ x.length i↔x.cps.toList[i]? =TR c:=StrLaws.subAt_one x c i
theorem Cv{l:List Nat}(q:Q (.int (match l.idxOf? c with|some i=>(i:Int)|none=> -1)) M):BC n "str.find" [.str l,.str [c]] M Q:=by
 intro cx ρ B own s vs E S K8;obtain⟨v,w,rfl,hv,hw⟩:=K8.two;induction hv with
 |str x t=>
  obtain⟨u,rfl⟩:=VR.strE hw
  ·refine SC.find ?_;have e:Txt.find x ⟨#[c]⟩=(match x.cps.toList.idxOf? c with|some i=>(i:Int)|none=> -1):=by
    rcases find_whole x ⟨#[c]⟩with⟨h1,h2⟩|⟨i,h1,h2,h3⟩
    ·refine(h1).symm▸?_;have:x.cps.toList.idxOf? c=TW:=by rw[List.idxOf?_eq_none_iff];intro hm;obtain⟨i,hi⟩:=List.mem_iff_getElem?.mp hm;exact h2 i ((jc x c i).mpr hi)
     refine(this).symm▸?_;with_reducible rfl
    ·refine(h1).symm▸?_;have h2:=(jc x c i).mp h2;have:x.cps.toList.idxOf? c=TR i:=by rw[W8,Wt];obtain⟨hi,Tg⟩:=List.getElem?_eq_some_iff.mp h2;refine⟨hi,by exact if_pos (by assumption),λj hj Lb=>?_⟩;refine h3 j hj ((jc x c j).mpr ?_);rw[US (by lia)];simpa using Lb
     refine(this).symm▸?_;with_reducible rfl
   refine(e).symm▸?_;exact aC.here S.sta (.int _ _) q
theorem Cw{l:List Nat}(hi:l.idxOf? c=TR i)(q:Q (.int i) M):BC n "str.index" [.str l,.str [c]] M Q:=by
 intro cx ρ B own s vs E S K8;obtain⟨v,w,rfl,hv,hw⟩:=K8.two;induction hv with
 |str x t=>
  obtain⟨u,rfl⟩:=VR.strE hw
  ·rw[W8,Wt]at hi;obtain⟨h1,h2,h3⟩:=hi;rcases StrLaws.occ_head x ⟨#[c]⟩ 1 (UE 1)with⟨h0,hn⟩|⟨j,r,h0,hj,hn⟩
   ·exact absurd ((jc x c i).mpr (by rw[US h1];simpa using h2)) (hn i)
   ·have hj:=(jc x c j).mp hj;have:j=i:=by
     rcases Nat.lt_trichotomy j i with q|q|q
     ·have:=h3 j q;obtain⟨Th,Ru⟩:=List.getElem?_eq_some_iff.mp hj;exact absurd Ru (by simpa using this)
     ·exact q
     ·exact absurd ((jc x c i).mpr (by rw[US h1];simpa using h2)) (hn i q)
    subst this;exact SC.index h0 (aC.here S.sta (.int _ _) q)
theorem Cy{l:List Nat}(ha:∀c∈l,c<128)(hl:l.length<=Ub)(q:Q (.str (l.map lo1)) M):BC n "str.lower" [.str l] M Q:=by
 intro cx ρ B own s vs E S K8;obtain⟨v,rfl,hv⟩:=K8.one;induction hv with
 |str x t=>
  have e:=lower_ascii ha;refine SC.lower ?_ ?_
  ·refine(e).symm▸?_;unfold ZW;refine decide_eq_false ?_;rw[c5];simpa using hl
  ·refine(e).symm▸?_;have:=aC.here (s:=s) (s':={s with toks:=s.toks+1}) (Q:=Q) (v:=.str ⟨x.cps.map lo1⟩ s.toks) S.sta (r:=.str (x.cps.toList.map lo1)) (by have:=VR.str (B:=B) ⟨x.cps.map lo1⟩ s.toks;rwa[show(⟨x.cps.map lo1⟩:U6).cps.toList=x.cps.toList.map lo1 from by simp]at this) q;exact this
end
section
variable[HasP]
theorem Cz{l:List Nat}(hl:l.length<=Ub)(hc:l.getLast?≠TR c)(q:Q (.str l) M):BC n "str.rstrip" [.str l,.str [c]] M Q:=by
 intro cx ρ B own s vs E S K8;obtain⟨v,w,rfl,hv,hw⟩:=K8.two;induction hv with
 |str x t=>
  obtain⟨u,rfl⟩:=VR.strE hw
  ·refine SC.rstripChars (λt' k=>?_) (by rw[c5];exact hl);have e:YR x ⟨#[c]⟩=x:=by
    unfold YR;rw[Zu];have e1:stripLo (⟨#[c]⟩:U6).cps.contains TT x=0:=rfl;refine(e1).symm▸?_;have e2:stripHi (⟨#[c]⟩:U6).cps.contains TV x 0=x.length:=by
     unfold stripHi;refine(if_pos rfl).symm▸?_;refine(UW).symm▸?_;have:(x.cps.toList.reverse.takeWhile (⟨#[c]⟩:U6).cps.contains)=[]:=by
      cases hr:x.cps.toList.reverse with
      |nil=>rfl
      |cons a r=>
       have ha:x.cps.toList.getLast?=TR a:=by rw[<-List.head?_reverse,hr];rfl
       refine(List.takeWhile_cons).symm▸?_;rewrite[if_neg];with_reducible rfl
       intro hm;have:a=c:=by simpa using hm
       subst this;exact hc ha
     refine(this).symm▸?_;simp
    refine(e2).symm▸?_;exact strSub_whole x
   refine(e).symm▸?_;exact aC.here S.sta (.str _ _) q
noncomputable def fE(c:Nat):List (List Nat)->List Nat
 | []=>[]
 | [x]=>x
 |x::r=>x++c::fE c r
theorem CA:fE c (x::y::r)=x++c::fE c (y::r):=rfl
theorem pA(c:Nat):∀ys:List U6,(XG ⟨#[c]⟩ ys).cps.toList=fE c (ys.map (·.cps.toList))
 | []=>rfl
 | [x]=>rfl
 |x::y::r=>by have:=pA c (y::r);show((x++⟨#[c]⟩++XG ⟨#[c]⟩ (y::r):U6)).cps.toList=_;rw[i7,i7,this];exact Uu _ _ _
theorem uD:∀(l:List (U6×Tok)),aq B (strValues l) ((l.map (·.1)).map λy=>V.str y.cps.toList)
 | []=>.nil
 |(y,t)::r=>.cons (.str y t) (uD r)
theorem CB(x:U6)(c:Nat)(ys:List U6)(h:XG ⟨#[c]⟩ ys=x):ys.length<=x.length+1:=by
 have e:x.cps.toList=fE c (ys.map (·.cps.toList)):=by rw[<-h,pA]
 have k:∀l:List (List Nat),l.length<=(fE c l).length+1:=by
  intro l;induction l with
  |nil=>simp
  |cons a r ih=>
   induction r with
   |nil=>simp
   |cons b r=>rw[CA,Ui];simp only[aau]at ih⊢;exact ab [_,_,_] (ad.a N1) ((X1.a bC).a N1) ad bC ih rfl
 have:=k (ys.map (·.cps.toList));rw[<-e,UK]at this;rw[c5];exact this
theorem CC{l:List Nat}(hl:l.length<Ub)(q:∀ps:List (List Nat),fE c ps=l->(∀p∈ps,c∉p)->Q (.lst (ps.map V.str)) M):BC n "str.split" [.str l,.str [c]] M Q:=by
 intro cx ρ B own s vs E S K8;obtain⟨v,w,rfl,hv,hw⟩:=K8.two;induction hv with
 |str x t=>
  obtain⟨u,rfl⟩:=VR.strE hw
  ·have hj:=StrLaws.join_split x ⟨#[c]⟩;have hf:=StrLaws.split_free x c;have hx:x.length<Ub:=by rw[c5];exact hl
   have fin:∀(s':aav) (lt:List (U6×Tok)),lt.map (·.1)=Zt x ⟨#[c]⟩->(∃k,s'={s with heap:=s.heap.push {cls:=.type "list",data:=.seq (strValues lt).toArray},toks:=k})->aC B own s Q (.ref s.heap.objs.size) s':=by rintro s' lt ht ⟨k,rfl⟩;have rel:=uD (B:=B) lt;rw[ht]at rel;have q':=q ((Zt x ⟨#[c]⟩).map (·.cps.toList)) (by rw[<-pA,hj]) (λp hp=>by obtain⟨z,hz,rfl⟩:=List.mem_map.mp hp;exact hf z hz);rw[U8]at q';exact(lU S.sta rel (.inl q')).as
   cases h1:(decide (x.length<(⟨#[c]⟩:U6).length)||decide (X9 x<X9 ⟨#[c]⟩))
   ·cases Nd:(Xj x ⟨#[c]⟩ 0 x.length (x.length+1)).isEmpty
    ·have K7:Zt x ⟨#[c]⟩=Zq x (Xj x ⟨#[c]⟩ 0 x.length (x.length+1)) (⟨#[c]⟩:U6).length:=(if_neg (ne_true_of_eq_false h1)).trans (if_neg (ne_true_of_eq_false Nd));have hn:=CB x c _ hj;rw[K7]at hn;refine call_meets Wv (typeIs_str _ _ _) Wo (We _ _) (meets_str_split_sep x ⟨#[c]⟩ t u h1 rfl Nd (Uy hx) (by exact ai [_,_] X0 (Ar.n 16777216) X0 ay ay (Ar.n 16777216) hn hx rfl)) ?_;exact fin _ (numbered s.toks _) ((numbered_texts _ _).trans K7.symm) ⟨_,congrArg (λz:List TZ=>({s with heap:=s.heap.push {cls:=.type "list",data:=.seq z.toArray},toks:=_}:aav)) (strsFrom_eq _ _)⟩
    ·exact call_meets Wv (typeIs_str _ _ _) Wo (We _ _) (meets_str_split_not_found x ⟨#[c]⟩ t u h1 rfl Nd) (fin _ [(x,t)] ((if_neg (ne_true_of_eq_false h1)).trans (if_pos Nd)).symm ⟨_,rfl⟩)
   ·exact call_meets Wv (typeIs_str _ _ _) Wo (We _ _) (meets_str_split_cannot_occur x ⟨#[c]⟩ t u h1) (fin _ [(x,t)] (if_pos h1).symm ⟨_,rfl⟩)
end
section
variable[HasP]
noncomputable def putB(name:U6)(h:Int)(key v:TZ)(es:Array Un):Array Un:=match es.findIdx? (·.key.isStr name)with
 |some i=>es.modify i λe=>{e with val:=v}
 |none=>es.push ⟨h,key,v⟩
theorem kj(name:U6)(h:Int)(key v:TZ)(o:Vi)(es:Array Un)(n:Nat)(hd:o.data=.dict es n):∃n',Vh name h key v o={o with data:=.dict (putB name h key v es) n'}:=by
 refine(Obj.putName_eq).symm▸?_;obtain⟨c,d,dt,sl⟩:=o;dsimp only at hd;subst hd;unfold Obj.putNameByArray putB;dsimp only;cases es.findIdx? (·.key.isStr name)with
 |some i=>exact⟨_,rfl⟩
 |none=>exact⟨_,rfl⟩
set_option tactic.hygienic true in
theorem aQ.put{v:TZ}(ok:aG name=TV)(hv:VR B v x):∀{es:List Un},aQ B es fs->aQ B (match es.findIdx? (·.key.isStr name)with|some i=>es.modify i λe=>{e with val:=v}|Option.none=>es++[⟨hh,.str name t,v⟩]) (ag fs (nc name) x):=by
 induction fs with
 |nil=>intro es h;induction h;exact .cons rfl ok hv .nil
 |cons p fs ih=>
  intro es h;obtain⟨kk,y⟩:=p;induction h with
  |cons hk MY hx r=>
   rename_i e k t' es;have ih:=ih r;rw[Yr,dJ];by_cases q:k=name
   ·have:e.key.isStr name=TV:=by rw[hk,q];exact beq_self_eq_true name
    rw[if_pos this,if_pos (by rw[q])];show aQ B (ZR (e::es) 0 _) _;rw[List.modify_zero_cons];exact .cons (hk.trans (by rw[q])) ok hv r
   ·have:¬(e.key.isStr name=TV):=by rw[hk];exactλz=>q (eq_of_beq z)
    rw[if_neg this,if_neg (λz=>q (fA MY ok z))];cases hi:es.findIdx? (·.key.isStr name)with
    |some i=>rw[hi]at ih;show aQ B (ZR (e::es) (i+1) _) _;rw[List.modify_succ_cons];exact .cons hk MY hx ih
    |none=>rw[hi]at ih;exact .cons hk MY hx ih
theorem aQ.putB{v:TZ}(ok:aG name=TV)(hv:VR B v x)(F:aQ B es.toList fs):aQ B (putB name hh (.str name t) v es).toList (ag fs (nc name) x):=by
 have:=F.put ok hv (hh:=hh) (t:=t);have e:(Mine.putB name hh (.str name t) v es).toList=(match es.toList.findIdx? (·.key.isStr name)with|some i=>es.toList.modify i λe=>{e with val:=v}|Option.none=>es.toList++[⟨hh,.str name t,v⟩]):=by obtain⟨l⟩:=es;unfold Mine.putB;rw[List.findIdx?_toArray];cases l.findIdx? (·.key.isStr name)<;>simp
 rw[e];exact this
theorem aQ.length:∀{es:List Un},aQ B es fs->es.length=fs.length:=by
 induction fs with
 |nil=>intro es h;induction h;rfl
 |cons p fs ih=>intro es h;obtain⟨k,y⟩:=p;induction h with|cons _ _ _ r=>exact congrArg (· +1) (ih r)
theorem uE{α:Type}(l:List (Nat×α))(k:Nat)(v:α):(ag l k v).length<=l.length+1:=by
 induction l with
 |nil=>exact UE _
 |cons p r ih=>
  refine(dJ).symm▸?_;by_cases q:p.1=k
  ·rw[if_pos q];exact YP _
  ·rw[if_neg q];exact Nat.succ_le_succ ih
theorem CD{K:Frag}{v:TZ}(X:K.In s.heap)(I:InstAt s.heap x ox C (TR od))(hd:ox.dict=TR dx)(hp:plainOver K C=TV)(ht:WE K C name=TR TW)(hc:clsIn K C=TR cd)(Mo:cd.hasDict=TV)(D:s.heap.get? dx=TR od)(q:od.data=.dict es n)(hk:es.any (·.refKey)=TT)(hz:(putB name (Uo w.params name) (.str name s.toks) v es).size<=1000)(h:R (.ok (.ret .none)) {s with heap:=s.heap.update dx (Vh name (Uo w.params name) (.str name s.toks) v),toks:=s.toks+1}):Vc (Uj prog w) A (.call (.builtin "object.__setattr__") ⟨[.ref x,.str name tk,v],[]⟩) R s:=by
 refine osa_open X I hp ht λb=>?_
 refine aj (kj name (Uo w.params name) (.str name s.toks) v od es n q) λn' e'=>?_
 have D':(s.heap.update dx (Vh name (Uo w.params name) (.str name s.toks) v)).get? dx=TR (Vh name (Uo w.params name) (.str name s.toks) v od):=UF _ D (by rw[e'];rfl);obtain⟨hx,MQ,hn,-⟩:=I;obtain⟨oc,Rv,Oz,PO⟩:=ox;dsimp only at MQ hd;subst MQ hd;refine wpAny_bind (wpAny_pure (wpAny_bind (wpAny_bind (wpAny_loadPart hx (wpAny_bind ((looks_clsIn X hc).here ?_))))));refine(Mo).symm▸?_;refine wpAny_pure (a:=TR dx) (wpAny_bind (wpAny_pure (wpAny_bind ?_)));unfold nsSet;refine wpAny_bind (wpAny_bind (wpAny_askSetting (wpAny_pure (wpAny_bind (wpAny_mkText (wpAny_bind (wpAny_loadPart D ?_)))))));refine(q).symm▸?_;dsimp only;have c:(!es.any (·.key.isStr name)&&es.any (·.refKey))=TT:=by rw[hk,WY]
 rewrite[aRefKeyMayBeTheName_at];refine(c).symm▸?_;refine wpAny_updatePart D ?_;refine wpAny_bind (wpAny_lookBehind D' (by rw[e'];exact pastItsLine_dict (UI hz (by rw[sizeLine_eq];exact aw [] (Ar.n 1000) ((Ar.n 16777216).a N1) rfl))) ?_);exact wpAny_pure h
theorem MR.set_inst{B:PH}{h h':Ux}{M:aa}{own:List TX}(R:MR B h M own)(nd:own.Nodup){a c dx:TX}{ox:Vi}{fs fs':List (Nat×V)}(hm:aak M a=TR (.inst c fs))(hx:h.get? a=TR ox)(hd:ox.dict=TR dx)(k:∀b∈own,b≠dx->∀o,h.get? b=TR o->h'.get? b=TR o)(he:∃Od es n,h'.get? dx=TR Od/\Od.cls=.type "dict"/\Od.data=.dict es n/\aQ B es.toList fs'):MR B h' (ag M a (.inst c fs')) own/\dx∈own:=by
 refine bO he λOd OJ n' KY=>?_
 have e1:=KY.1;have OK:=KY.2.1;have e3:=KY.2.2.1;have e4:=KY.2.2.2;refine aj (R.at hm) λl0 KY=>?_
 have x':=KY.1;have sub:=KY.2;have PR:∀{l},OB B h a (.inst c fs) l->l=[a,dx]:=λx=>by
  induction x with
  |mk e _ _ Lk _ _ _ _=>rw[e]at hx;obtain rfl:=TU hx;rw[Lk]at hd;obtain rfl:=TU hd;rfl
 have Rw:=sub.subset (by rw[PR x'];exact .tail _ (.head _));have ao:=sub.subset x'.self;refine⟨R.set nd hm λl x nl=>?_,Rw⟩;have:=PR x;subst this;cases x with
 |mk e hc hp Lk _ _ _ _=>exact⟨.mk (k a ao (λz=>(List.nodup_cons.mp nl).1 (by rw[<-z];exact .head _)) _ e) hc hp Lk e1 OK e3 e4,λb hb q=>k b hb λz=>q (by rw[z];exact .tail _ (.head _))⟩
theorem aA.set(T:aA B M own h)(R:MR B h' M' own)(ha:a∈own)(sb:Vg a h h')(al:h'.get? a≠TW):aA B M' own h'/\aF B own h B own h' λ_=>False:=by
 refine⟨⟨λb o e=>sb.extBut b o (λz=>?_) (T.keep b o e),R,T.nd,T.dis,T.big⟩,Le.refl B,λ_ e=>.inl e,λ_ e=>.inl e,λb o e nb _=>⟨o.slots,sb.extBut b o (λz=>nb (z▸ha)) e⟩,λb q=>?_⟩
 case refine_2=>
  by_cases z:b=a
  ·rw[z];exact al
  ·cases e:h.get? b with
   |none=>exact absurd e q
   |some o=>rw[sb.extBut b o z e];exactλz=>by exact ns z
 subst z;rw[T.dis b ha]at e;exact nn e
theorem CE{K:PK}(h:Ev n ρ M x (λrx M1=>Ev n ρ M1 o (λro M2=>∃a c fs,ro=.ref a/\aak M2 a=TR (.inst c fs)/\ek c k=TV/\fs.length<=100/\ K .next ρ (ag M2 a (.inst c (ag fs k rx)))) E) E):cE n ρ M (.asgA o k x) K E:=by
 intro sc e hT c B own s K0 tp S;have go:∀{oe a q v p},aG a=TV->nc a=k->T gt sc oe o->T gt sc v x->(swapsWith v (TR (.Attribute oe a q)) p.line c.env=pure TT)->Uh (Uj pw c.w) c.A (exec (.Assign [.Attribute oe a q] v p) c.env) (bI c.env.locals B own s K) (cS c.env.locals B own s E) s:=by
  intro oe a q v p ok hk h1 h2 hs;subst hk;refine plainObj_wpAny_Assign_Attribute (wpAny_mono (h _ _ h2 c B own s K0 S) (λvx s1 hv=>?_) λ_ _ h=>h.toS S) hs;obtain⟨B1,K1,M1,⟨rx,ND,k⟩,T1,P1,q1⟩:=hv;have S1:=S.step T1 P1;have Lp:=P1.weaken (P':=λa=>a=c.env.locals) λ_ h=>h.elim
  refine wpAny_mono (k _ _ h1 c B1 K1 s1 K0 S1) (λvo s2 hv=>?_) λ_ _ h=>(h.toS S1).step Lp q1
  obtain⟨B2,K9,M2,⟨ro,Mr,y,C,fs,rfl,hm,Li,hlen,k⟩,T2,P2,q2⟩:=hv;have S2:=S1.step T2 P2;induction Mr;refine jJ (T2.mr.at_inst hm) λox dx od es n' KY=>?_
  have e:=KY.1;have hc:=KY.2.1;have hp:=KY.2.2.1;have Lk:=KY.2.2.2.1;have e2:=KY.2.2.2.2.1;have Ml:=KY.2.2.2.2.2.1;have La:=KY.2.2.2.2.2.2.1;have hf:=KY.2.2.2.2.2.2.2;have KZ:=tY (P:=c.w.params) ok Li;have CF:=lK (P:=c.w.params) KZ.1;refine aj CF.cd λcd KY=>?_
  have I1:InstAt s2.heap y ox C (TR od):=⟨e,hc,by unfold notCls;rw[hp],by rw[Lk];exact e2⟩;have Ms:aQ B2 (putB a (Uo c.w.params a) (.str a (s2.toks+1)) vx es).toList (ag fs (nc a) rx):=hf.putB ok (ND.mono P2.le);have Lf:(putB a (Uo c.w.params a) (.str a (s2.toks+1)) vx es).size<=1000:=by have:=Ms.length;rw[Yb]at this;have:=uE fs (nc a) rx;exact bU [_,_,_] X0 (Ar.n 1000) X0 X1 X1 bC X2 (Ar.n 100) (eL (by assumption)) this hlen rfl
  have OL:es.any (·.refKey)=TT:=by rw[<-Xk];exact hf.keys
  refine set_plain S2.kin I1 CF.sa (CD (s:={s2 with toks:=s2.toks+1}) S2.kin I1 Lk CF.over KZ.2.2 KY.1 KY.2 e2 La OL Lf ?_);refine aj (kj a (Uo c.w.params a) (.str a (s2.toks+1)) vx od es n' La) λn2 e3=>?_
  have D':(s2.heap.update dx (Vh a (Uo c.w.params a) (.str a (s2.toks+1)) vx)).get? dx=TR (Vh a (Uo c.w.params a) (.str a (s2.toks+1)) vx od):=UF _ e2 (by rw[e3];rfl);have sb:Vg dx s2.heap (s2.heap.update dx (Vh a (Uo c.w.params a) (.str a (s2.toks+1)) vx)):=VL ..;obtain⟨R,MS⟩:=T2.mr.set_inst T2.nd hm e Lk (λb _ q o e=>sb.extBut b o q e) ⟨_,_,_,D',by rw[e3];exact Ml,by rw[e3],Ms⟩;obtain⟨T3,P3⟩:=T2.set R MS sb (by rw[D'];exactλq=>by exact ns q);exact bI.of (s1:={s2 with heap:=_,toks:=s2.toks+1+1}) (S2.step T3 P3) ((P1.trans P2).trans P3) ((q1.trans q2).trans ⟨rfl,rfl⟩) .next k
 induction hT with
 |asgA ok hc h1 h2=>exact go ok rfl h1 h2 (ig hc)
 |asgAC ok h1 h2=>exact go ok rfl h1 h2 rfl
end
section
variable[HasP]
noncomputable def c7:List (List Nat×V)->List Nat->Option V
 | [],_=>Ue
 |p::r,l=>if p.1=l then TR p.2 else c7 r l
omit [HasP] in
theorem KU{l:List Nat}:c7 [] l=Ue:=rfl
omit [HasP] in
theorem pB{l:List Nat}:c7 (p::r) l=if p.1=l then TR p.2 else c7 r l:=rfl
inductive KP(P:TZ->Prop)(R:List (U6×TZ)->Prop):List Nat->List (U6×TZ)->Prop
 |cons {k:U6} {v:TZ} {ks:List (U6×TZ)} (h:P v) (r:R ks):KP P R k.cps.toList ((k,v)::ks)
def KR(B:PH)(ks:List (U6×TZ))(xs:List (List Nat×V)):Prop:=List.rec (motive:=λ_=>List (U6×TZ)->Prop) eV (λp _ R=>KP (iT B p.2) R p.1) xs ks
theorem KR.nil:KR B [] []:=eV.nil
theorem KR.cons{B:PH}{k:U6}{v:TZ}{x:V}{ks:List (U6×TZ)}{xs:List (List Nat×V)}(h:VR B v x)(r:KR B ks xs):KR B ((k,v)::ks) ((k.cps.toList,x)::xs):=KP.cons h r
theorem KR.out(h:KR B ks (p::xs)):KP (iT B p.2) (λks=>KR B ks xs) p.1 ks:=h
theorem CG{a b:U6}(h:a.cps.toList=b.cps.toList):a=b:=by obtain⟨⟨x⟩⟩:=a;obtain⟨⟨y⟩⟩:=b;simp only at h;refine(h).symm▸?_;with_reducible rfl
theorem KR.at{B:PH}(k:U6){xs:List (List Nat×V)}:∀{ks:List (U6×TZ)},KR B ks xs->match c7 xs k.cps.toList with
 |some x=>∃v,valueAt ks k=TR v/\VR B v x
 |Option.none=>valueAt ks k=Ue:=by
 induction xs with
 |nil=>intro ks h;induction h;rfl
 |cons p xs ih=>
  intro ks h;obtain⟨l,x⟩:=p;cases h.out with
  |@cons k0 v ks h' r=>
   have ih:=ih r;rw[show c7 ((k0.cps.toList,x)::xs) k.cps.toList=if k0.cps.toList=k.cps.toList then TR x else c7 xs k.cps.toList from rfl];by_cases q:k0=k
   ·rw[if_pos (by rw[q])];exact⟨v,by unfold valueAt;rw[Xt (by rw[q];exact decide_eq_true rfl)];rfl,h'⟩
   ·rw[if_neg (λz=>q (CG z))];have e:valueAt ((k0,v)::ks) k=valueAt ks k:=by unfold valueAt;rw[Wy ?_];exactλz=>q (of_decide_eq_true z)
    rw[e];exact ih
theorem KR.keys:∀{ks:List (U6×TZ)},KR B ks xs->xs.map (·.1)=(ks.map (·.1)).map (·.cps.toList):=by
 induction xs with
 |nil=>intro ks h;induction h;rfl
 |cons p xs ih=>
  intro ks h;obtain⟨l,x⟩:=p;cases h.out with
  |cons h r=>rw[UA,ih r];rfl
theorem KR.snoc{v:TZ}(hv:VR B v x):∀{ks:List (U6×TZ)},KR B ks xs->KR B (ks++[(k,v)]) (xs++[(k.cps.toList,x)]):=by
 induction xs with
 |nil=>intro ks h;induction h;exact .cons hv .nil
 |cons p xs ih=>
  intro ks h;obtain⟨l,x⟩:=p;cases h.out with
  |cons h' r=>exact .cons h' (ih r)
theorem uF(hp:w.params=HasP.p)(k:U6):Uo HasP.p k=hashStr w k:=by rw[<-hp];rfl
set_option tactic.hygienic true in
theorem cD.pairs(hp:w.params=HasP.p):∀{es:List Un},cD B es xs->∃ks,Pairs (Vw pw w) es ks/\KR B ks xs/\∀e∈es,∃k,(Vw pw w).is k e.key=TV/\e.hash=(Vw pw w).hash k:=by
 induction xs with
 |nil=>intro es h;induction h;exact⟨[],.nil,.nil,λ_ h=>(nomatch h)⟩
 |cons p xs ih=>
  intro es h;obtain⟨l,x⟩:=p;induction h with
  |cons hk hh h r=>
   rename_i e k t es;obtain⟨ks,a,b,c⟩:=ih r;have hi:(Vw pw w).is k e.key=TV:=by rw[hk];exact beq_self_eq_true k
   refine⟨(k,e.val)::ks,.cons hi rfl a,.cons h b,λe' he=>?_⟩;cases he with
   |head=>exact⟨k,hi,by rw[hh,uF hp];rfl⟩
   |tail _ he=>exact c e' he
theorem cD.of(hp:w.params=HasP.p)(h:Pairs (Vw pw w) es ks):∀{xs:List (List Nat×V)},KR B ks xs->(∀e∈es,∃k,(Vw pw w).is k e.key=TV/\e.hash=(Vw pw w).hash k)->cD B es xs:=by
 induction h with
 |nil=>intro xs K _;induction xs with
  |nil=>exact .nil
  |cons p xs=>obtain⟨l,x⟩:=p;cases K.out
 |cons hi hv r ih=>
  intro xs K H;induction xs with
  |nil=>cases K
  |cons p xs=>
   obtain⟨l,x⟩:=p;cases K.out with
   |cons h r'=>obtain⟨t,ht⟩:=XV hi;obtain⟨k',Lc,hh⟩:=H _ (.head _);obtain⟨t',PS⟩:=XV Lc;rw[ht]at PS;cases PS;exact .cons ht (by rw[hh,uF hp];rfl) (hv▸h) (ih r' λe he=>H e (.tail _ he))
theorem MR.at_dict{B:PH}{h:Ux}{M:aa}{own:List TX}(R:MR B h M own){a:TX}{xs:List (List Nat×V)}(hm:aak M a=TR (.dict xs)):∃es n,h.get? a=TR (iS es n)/\cD B es.toList xs/\(xs.map (·.1)).Nodup/\a∈own:=by
 refine aj (R.at hm) λl KY=>?_
 induction KY.1 with
 |mk e hv nd=>exact⟨_,_,e,hv,nd,KY.2.subset (.head _)⟩
theorem MR.set_dict{B:PH}{h h':Ux}{M:aa}{own:List TX}(R:MR B h M own)(nd:own.Nodup){a:TX}{xs ys:List (List Nat×V)}(hm:aak M a=TR (.dict xs))(k:∀b∈own,b≠a->∀o,h.get? b=TR o->h'.get? b=TR o)(he:∃es n,h'.get? a=TR (iS es n)/\cD B es.toList ys)(hn:(ys.map (·.1)).Nodup):MR B h' (ag M a (.dict ys)) own/\a∈own:=by
 refine aX he λes n KY=>?_
 have e':=KY.1;have NC:=KY.2;refine aj (R.at hm) λl KY=>?_
 have x:=KY.1;refine⟨R.set nd hm λl x _=>?_,KY.2.subset x.self⟩;induction x;exact⟨.mk e' NC hn,λb hb q=>k b hb λz=>q (List.mem_singleton.mpr z)⟩
theorem uG{B:PH}{w:U4}(hp:w.params=HasP.p){h:Ux}{a:TX}{es:Array Un}{n:Nat}{xs:List (List Nat×V)}(e:h.get? a=TR (iS es n))(hv:cD B es.toList xs)(nd:(xs.map (·.1)).Nodup):∃ks,h.DictOf (Vw pw w) a ks/\KR B ks xs:=by
 refine aj (hv.pairs hp) λks KY=>?_
 have k:=KY.2.1;refine⟨ks,⟨_,es,n,e,⟨rfl,rfl,rfl⟩,rfl,λe he=>KY.2.2 e (by simpa using he),KY.1,?_⟩,k⟩;rw[k.keys]at nd;exact t9 _ nd
theorem CH(T:aA B M own h)(ha:a∈own):(a==sysModules)=TT:=by rw[beq_eq_false_iff_ne];rintro rfl;exact absurd (T.big.2 _ ha) (by decide)
theorem CI{M:aa}{a:TX}{xs:List (List Nat×V)}(hm:aak M a=TR (.dict xs)):dw M (.ref a) 30 "dict.get":=by
 intro mo A E B own s v name pl Q' T hv ok hn h;rw[lZ ok hn (x:="get") (by kernel_rfl) (by kernel_rfl)];induction hv;refine aX (T.mr.at_dict hm) λes n KY=>?_
 have e:=KY.1;exact getMethod_builtin (T:="dict") ⟨_,e,rfl⟩ PySem.F.plainAttrs_dict XC PySem.F.type_dict_get (λa q=>by cases q;exact⟨_,e,rfl⟩) h
theorem CJ{n:Nat}{a:TX}{xs:List (List Nat×V)}{l:List Nat}{d:V}{M:aa}{Q:PQ}(hm:aak M a=TR (.dict xs))(q:Q ((c7 xs l).getD d) M):BC n "dict.get" [.ref a,.str l,d] M Q:=by
 intro c ρ B own s vs E S K8;induction K8 with
 |cons hv t=>
  refine aX (aq.two t) λw1 w2 KY=>?_
  have K6:=KY.1;subst K6;have h2:=KY.2.2;induction hv;induction KY.2.1 with
  |str k tk=>
   refine aX (S.sta.mr.at_dict hm) λes n' KY=>?_
   have e:=KY.1;have hr:=KY.2.1;have nd:=KY.2.2.1;have ha:=KY.2.2.2;refine aj (uG S.par e hr nd) λks KY=>?_
   have D:=KY.1;refine call_meetsIn XC D.typeIs PySem.F.entry_dict_get (PySem.F.args_dict_get_3 _ _ _) (meets_dict_get_default (Vw pw c.w) a (strKind_is pw c.w k tk) (CH S.sta ha) w2) ⟨_,D.mapOf,?_⟩;refine aC.here (r:=(c7 xs k.cps.toList).getD d) S.sta ?_ q;have:=KY.2.at k;split at this
   ·rename_i x hx;refine aj this λv KY=>?_
    refine(hx).symm▸?_;refine(KY.1).symm▸?_;exact KY.2
   ·rename_i hx;refine(hx).symm▸?_;refine(this).symm▸?_;exact h2
theorem CK(q:∀a,dz a M->Q (.ref a) ((a,.dict [])::M)):Ev n ρ M .edict Q E:=by
 intro sc e hT c B own s K0 S;induction hT;refine wpAny_Dict_empty ?_;obtain⟨T1,P1⟩:=S.sta.pushM (o:={cls:=.type "dict",data:=.dict #[]}) (x:=.dict []) λR=>.dict (n:=0) (Ul _ rfl) .nil .nil R
 exact⟨B,_,_,⟨_,.ref _,q _ S.sta.new⟩,T1,P1,rfl,rfl⟩
theorem pC:∀{xs:List (List Nat×V)} {l:List Nat},c7 xs l=Ue->l∉xs.map (·.1)
 | [],_,_=>by simp
 |p::r,l,h=>by
  rw[pB]at h;split at h
  ·exact ns h
  ·rename_i q;rw[UA,Uk];rintro(rfl|z)
   ·exact q rfl
   ·exact pC h z
theorem CL{n:Nat}{ρ:af}{M:aa}{o i x:X}{K:PK}{E:PE}(h:Ev n ρ M x (λrx M1=>Ev n ρ M1 o (λro M2=>Ev n ρ M2 i (λri M3=>∃(a:Nat) (xs:List (List Nat×V)) (l:List Nat),ro=.ref a/\aak M3 a=TR (.dict xs)/\ri=.str l/\c7 xs l=Ue/\xs.length<=Ub/\ K .next ρ (ag M3 a (.dict (xs++[(l,rx)])))) E) E) E):cE n ρ M (.asgI o i x) K E:=by
 intro sc e hT c B own s K0 tp S;induction hT with
 |asgI hc hs h1 h2 h3=>
  refine wpAny_Assign_Subscript (wpAny_mono (h _ _ h3 c B own s K0 S) (λvx s1 hv=>?_) λ_ _ h=>h.toS S) (ig hc);obtain⟨B1,K1,M1,⟨rx,ND,k⟩,T1,P1,q1⟩:=hv;have S1:=S.step T1 P1;have Lp:=P1.weaken (P':=λa=>a=c.env.locals) λ_ h=>h.elim
  refine wpAny_mono (k _ _ h1 c B1 K1 s1 K0 S1) (λvo s2 hv=>?_) λ_ _ h=>(h.toS S1).step Lp q1
  obtain⟨B2,K9,M2,⟨ro,Mr,k⟩,T2,P2,q2⟩:=hv;have S2:=S1.step T2 P2;have NE:=P2.weaken (P':=λa=>a=c.env.locals) λ_ h=>h.elim
  refine wpAny_mono (k _ _ h2 c B2 K9 s2 K0 S2) (λvi s3 hv=>?_) λ_ _ h=>(h.toS S2).step (Lp.trans NE) (q1.trans q2)
  obtain⟨B3,LA,M3,⟨ri,MB,a,xs,l,rfl,hm,rfl,hl,hz,k⟩,T3,P3,q3⟩:=hv;have S3:=S2.step T3 P3;induction Mr;induction MB with
  |str key tk=>
   obtain⟨es,n',e,hr,nd,ha⟩:=T3.mr.at_dict hm;obtain⟨ks,D,KK⟩:=uG S3.par e hr nd;have hlen:ks.length=xs.length:=by have:=congrArg Ug KK.keys;simpa using this.symm
   refine wpAny_setItem_pairs (strKind_is pw c.w key tk) D (λh' D' sb=>?_) (by rw[hlen];exact hz);have MP:ks.any (λkv=>decide (kv.1=key))=TT:=by
    rw[List.any_eq_false];intro kv Rx hq;have hq:kv.1=key:=by simpa using hq
    have:=pC hl;rw[KK.keys,U8]at this;exact this (List.mem_map.mpr ⟨kv,Rx,by simp[hq]⟩)
   have LJ:stored ks key vx=ks++[(key,vx)]:=by unfold stored;rw[if_neg (by rw[MP];decide)]
   rw[LJ]at D';obtain⟨o',OJ,n2,e',⟨x1,x2,x3⟩,Mo,Lc,Lu,Nf⟩:=D';have he:h'.get? a=TR (iS OJ n2):=by obtain⟨oc,od,ob,PO⟩:=o';dsimp only at x1 x2 x3 Mo;subst x1 x2 x3 Mo;exact e'
   have Ry:KR B3 (ks++[(key,vx)]) (xs++[(key.cps.toList,rx)]):=KK.snoc (ND.mono (P2.le.trans P3.le));obtain⟨R,MS⟩:=T3.mr.set_dict T3.nd hm (λb _ q o e=>sb.extBut b o q e) ⟨OJ,n2,he,cD.of S3.par Lu Ry (λe he=>Lc e (by simpa using he))⟩ (by
    rw[VE,W7];refine⟨nd,by simp,?_⟩;intro z hz w hw;have:=pC hl;have hw:w=key.cps.toList:=by simpa using hw
    rintro rfl;rw[hw]at hz;exact this hz)
   obtain⟨T4,P4⟩:=T3.set R MS sb (by rw[he];exactλq=>by exact ns q);exact bI.of (s1:={s3 with heap:=h',toks:=s3.toks+1}) (S3.step T4 P4) (((P1.trans P2).trans P3).trans P4) (((q1.trans q2).trans q3).trans ⟨rfl,rfl⟩) .next k
end
section
variable[HasP]
def gL(h:Ux)(it:TX)(x left step:Int):Prop:=∃o,h.get? it=TR o/\o.cls=.type "range_iterator"/\o.data=.fields #[UV x,UV left,UV step]
section
variable{prog:VQ}{w:U4}{A:UT}{E:TZ->aav->Prop}{s:aav}
theorem CM{x left step:Int}(hit:gL s.heap it x left step)(PT:0<left)(hQ:∀h',gL h' it (x+step) (left-1) step->Vg it s.heap h'->Q (TR (.int x s.toks)) {s with heap:=h',toks:=s.toks+1}):Uh (Uj prog w) A (pyNext (.ref it)) Q E s:=by
 refine aj (id hit) λo KY=>?_
 have ho:=KY.1;have hc:=KY.2.1;have hd:=KY.2.2;have hT:s.TypeIs (.ref it) "range_iterator":=⟨_,ho,hc⟩;unfold pyNext;refine wpAny_bind (wpAny_attempt (wpAny_callSpecial?_slot (name:=Vr "__next__") hT Vd (wpAny_call_entry Vd hT Wr ?_ (Wi _))));show Uh _ _ (field (.ref it) 0>>=_) _ _ s;refine wpAny_bind (wpAny_field ho hd (x:=UV x) rfl ?_);show Uh _ _ (field (.ref it) 1>>=_) _ _ s;refine wpAny_bind (wpAny_field ho hd (x:=UV left) rfl ?_);show Uh _ _ (field (.ref it) 2>>=_) _ _ s;refine wpAny_bind (wpAny_field ho hd (x:=UV step) rfl ?_);show Uh _ _ (if left<=0 then _ else _) _ _ s;refine(if_neg (Int.not_le.mpr ‹_›)).symm▸?_;have OM:=Vm hd (·.setIfInBounds 0 (UV (x+step)));have h1:=UF (VJ (·.setIfInBounds 0 (UV (x+step)))) ho (VB OM);have hd2:=Vm OM (·.setIfInBounds 1 (UV (left-1)));have h2:=UF (VJ (·.setIfInBounds 1 (UV (left-1)))) h1 (VB hd2);show Uh _ _ (setField (.ref it) 0 (UV (x+step))>>=_) _ _ s;refine wpAny_bind (wpAny_setField ho hd (by exact TY _) ?_);show Uh _ _ (setField (.ref it) 1 (UV (left-1))>>=_) _ _ _;refine wpAny_bind (wpAny_setField h1 OM (by simp) ?_);refine wpAny_bind (wpAny_mkInt (wpAny_pure ⟨_,rfl,wpAny_pure (hQ _ ⟨_,h2,?_,?_⟩ ((VL ..).trans (VL ..)))⟩))
 ·exact(W4 ..).trans ((W4 ..).trans hc)
 ·rw[hd2];simp
theorem CN{x left step:Int}(hh:A.handled=TW)(hit:gL s.heap it x left step)(PT:left<=0)(hQ:∀h',VI it s.heap h'->Q TW {s with heap:=h'}):Uh (Uj prog w) A (pyNext (.ref it)) Q E s:=by
 refine aj (id hit) λo KY=>?_
 have ho:=KY.1;have hd:=KY.2.2;have hT:s.TypeIs (.ref it) "range_iterator":=⟨_,ho,KY.2.1⟩;unfold pyNext;refine wpAny_bind (wpAny_attempt (wpAny_callSpecial?_slot (name:=Vr "__next__") hT Vd (wpAny_call_entry Vd hT Wr ?_ (Wi _))));show Uh _ _ (field (.ref it) 0>>=_) _ _ s;refine wpAny_bind (wpAny_field ho hd (x:=UV x) rfl ?_);show Uh _ _ (field (.ref it) 1>>=_) _ _ s;refine wpAny_bind (wpAny_field ho hd (x:=UV left) rfl ?_);show Uh _ _ (field (.ref it) 2>>=_) _ _ s;refine wpAny_bind (wpAny_field ho hd (x:=UV step) rfl ?_);show Uh _ _ (if left<=0 then _ else _) _ _ s;rw[if_pos PT];refine wpAny_bind (wpAny_rule ?_);refine wpAny_bind ?_;show Uh _ _ (newExc (.type "StopIteration") []>>=_) _ _ _;refine wpAny_bind ?_;simp only[newExc,newTuple];refine wpAny_bind (wpAny_newObj_type ?_ (by size_fits));refine wpAny_bind (m:=firstArgMember _ _) (wpAny_of_eq (a:=Vz) (by first|rfl|(simp only[firstArgMember];rfl)) ?_);refine wpAny_newObj_type ?_ (by size_fits);simp only[raiseNew];refine wpAny_bind (wpAny_handled ?_)
 first|rw[show A.in1.handled=TW from hh]|rw[hh]
 refine wpAny_bind (wpAny_pure (wpAny_throw ?_));refine wpAny_bind (wpAny_isInstance (T:="StopIteration") (b:=TV) ⟨_,Ul _ rfl,rfl⟩ isSubtype_stop ?_);exact wpAny_pure (hQ _ (((Z9 it s.heap).push _).push _))
end
noncomputable def c8(step:Int):Int->Nat->List V
 |_,0=>[]
 |x,n+1=>.int x::c8 step (x+step) n
theorem uH:c8 s x (n+1)=.int x::c8 s (x+s) n:=rfl
inductive bu(B:PH)(h:Ux)(I:TX):List V->Prop
 |list {l:TX} {vs:Array TZ} {n i:Nat} {rest:List V} (e:B l=TR (bk vs n)) (hi:h.IsListIter I l i) (hv:aq B (vs.toList.drop i) rest):bu B h I rest
 |tup {l:TX} {o:Vi} {vs:Array TZ} {n i:Nat} {rest:List V} (e:B l=TR o) (hc:o.cls=.type "tuple") (hd:o.data=.seq vs n) (hi:h.IsTupleIter I l i) (hv:aq B (vs.toList.drop i) rest):bu B h I rest
 |strA {x:U6} {t:Tok} {i:Nat} (hi:h.IsStrIter I "str_ascii_iterator" x t i) {rest:List V} (hr:rest=(x.cps.toList.drop i).map λc=>V.str [c]):bu B h I rest
 |strW {x:U6} {t:Tok} {i:Nat} (hi:h.IsStrIter I "str_iterator" x t i) {rest:List V} (hr:rest=(x.cps.toList.drop i).map λc=>V.str [c]):bu B h I rest
 |rng {x left step:Int} (hi:gL h I x left step) {rest:List V} (hr:rest=c8 step x left.toNat):bu B h I rest
noncomputable def uI:List String:=["list_iterator","tuple_iterator","str_ascii_iterator","str_iterator","range_iterator"]
theorem bu.obj(x:bu B h I items):∃o vs T,h.get? I=TR o/\o.data=.fields vs/\o.cls=.type T/\T∈uI:=by
 induction x with
 |list e hi hv=>obtain⟨o,a,b,c⟩:=hi;exact⟨o,_,_,a,c,b,by decide⟩
 |tup e hc hd hi hv=>obtain⟨o,a,b,c⟩:=hi;exact⟨o,_,_,a,c,b,by decide⟩
 |strA hi hr=>obtain⟨o,a,b,c⟩:=hi;exact⟨o,_,_,a,c,b,by decide⟩
 |strW hi hr=>obtain⟨o,a,b,c⟩:=hi;exact⟨o,_,_,a,c,b,by decide⟩
 |rng hi hr=>obtain⟨o,a,b,c⟩:=hi;exact⟨o,_,_,a,c,b,by decide⟩
theorem bu.keep(x:bu B h I items)(l:Le B B')(k:∀o,h.get? I=TR o->∃sl,h'.get? I=TR {o with slots:=sl}):bu B' h' I items:=by
 induction x with
 |list e hi hv=>obtain⟨o,a,b,c⟩:=hi;obtain⟨sl,a'⟩:=k o a;exact .list (l _ _ e) ⟨_,a',b,c⟩ (hv.mono l)
 |tup e hc hd hi hv=>obtain⟨o,a,b,c⟩:=hi;obtain⟨sl,a'⟩:=k o a;exact .tup (l _ _ e) hc hd ⟨_,a',b,c⟩ (hv.mono l)
 |strA hi hr=>obtain⟨o,a,b,c⟩:=hi;obtain⟨sl,a'⟩:=k o a;exact .strA ⟨_,a',b,c⟩ hr
 |strW hi hr=>obtain⟨o,a,b,c⟩:=hi;obtain⟨sl,a'⟩:=k o a;exact .strW ⟨_,a',b,c⟩ hr
 |rng hi hr=>obtain⟨o,a,b,c⟩:=hi;obtain⟨sl,a'⟩:=k o a;exact .rng ⟨_,a',b,c⟩ hr
theorem l6{α:Type}{l:List α}{i:Nat}{v:α}{r:List α}(h:l.drop i=v::r):l[i]? =TR v/\l.drop (i+1)=r:=by
 constructor
 ·have:=congrArg List.head? h;rw[List.head?_drop]at this;exact this
 ·have:=congrArg List.tail h;rw[List.tail_drop]at this;exact this
theorem l7{α:Type}{l:List α}(h:l.drop i=[]):l[i]? =Ue:=by rw[List.drop_eq_nil_iff]at h;exact VD h
section
variable{prog:VQ}{w:U4}{A:UT}{E:TZ->aav->Prop}{s:aav}{B:PH}{M:aa}{own:List TX}
theorem aq.cons_inv{l:List TZ}{v:V}(h:aq B l (v::r)):∃a b,l=a::b/\VR B a v/\aq B b r:=by
 induction h with
 |cons h t=>exact⟨_,_,rfl,h,t⟩
theorem aq.nil_inv{l:List TZ}(h:aq B l []):l=[]:=by induction h;rfl
set_option tactic.hygienic true in
theorem bu.next{I:TX}{v:V}{rest:List V}{Q:Option TZ->aav->Prop}(T:aA B M own s.heap)(x:bu B s.heap I (v::rest))(h:∀h' tk val,VR B val v->bu B h' I rest->Vg I s.heap h'->Q (TR val) {s with heap:=h',toks:=tk}):Uh (Uj prog w) A (pyNext (.ref I)) Q E s:=by
 generalize hk:v::rest=items at x;cases x with
 |list e hi hv=>subst hk;obtain⟨a,b,e1,LW,hr⟩:=hv.cons_inv;obtain⟨g1,g2⟩:=l6 e1;exact wpAny_pyNext_list_item hi ⟨_,T.keep _ _ e,rfl,_,rfl⟩ (by simpa using g1) λh' Mt sb=>h h' s.toks a LW (.list e Mt (by rw[g2];exact hr)) sb
 |tup e hc hd hi hv=>subst hk;obtain⟨a,b,e1,LW,hr⟩:=hv.cons_inv;obtain⟨g1,g2⟩:=l6 e1;exact wpAny_pyNext_tuple_item hi ⟨_,T.keep _ _ e,hc,_,hd⟩ (by simpa using g1) λh' Mt sb=>h h' s.toks a LW (.tup e hc hd Mt (by rw[g2];exact hr)) sb
 |strA hi hr=>rw[<-hk]at hr;obtain⟨c,r,e1,e2,e3⟩:=List.map_eq_cons_iff.mp hr.symm;obtain⟨g1,g2⟩:=l6 e1;subst e2;exact wpAny_pyNext_ascii_item hi (by simpa using g1) λh' Mt sb=>h h' _ _ (VR.str ⟨#[c]⟩ _) (.strA Mt (by rw[g2];exact e3.symm)) sb
 |strW hi hr=>rw[<-hk]at hr;obtain⟨c,r,e1,e2,e3⟩:=List.map_eq_cons_iff.mp hr.symm;obtain⟨g1,g2⟩:=l6 e1;subst e2;exact wpAny_pyNext_wide_item hi (by simpa using g1) λh' Mt sb=>h h' _ _ (VR.str ⟨#[c]⟩ _) (.strW Mt (by rw[g2];exact e3.symm)) sb
 |rng hi hr=>
  rename_i y left step;rw[<-hk]at hr;cases hl:left.toNat with
  |zero=>rw[hl]at hr;cases hr
  |succ k=>rw[hl]at hr;simp only[uH,Y2]at hr;obtain⟨rfl,hr⟩:=hr;exact CM hi (yw hl) λh' Mt sb=>h h' _ _ (.int _ _) (.rng Mt (by rw[hr,show(left-1).toNat=k from yx hl])) sb
set_option tactic.hygienic true in
theorem bu.done(hh:A.handled=TW)(T:aA B M own s.heap)(x:bu B s.heap I [])(h:∀h',VI I s.heap h'->Q TW {s with heap:=h'}):Uh (Uj prog w) A (pyNext (.ref I)) Q E s:=by
 generalize hk:([]:List V)=items at x;cases x with
 |list e hi hv=>subst hk;exact wpAny_pyNext_list_end hh hi ⟨_,T.keep _ _ e,rfl,_,rfl⟩ (by simpa using l7 hv.nil_inv) h
 |tup e hc hd hi hv=>subst hk;exact wpAny_pyNext_tuple_end hh hi ⟨_,T.keep _ _ e,hc,_,hd⟩ (by simpa using l7 hv.nil_inv) h
 |strA hi hr=>rw[<-hk]at hr;exact wpAny_pyNext_ascii_end hh hi (by simpa using l7 (List.map_eq_nil_iff.mp hr.symm)) h
 |strW hi hr=>rw[<-hk]at hr;exact wpAny_pyNext_wide_end hh hi (by simpa using l7 (List.map_eq_nil_iff.mp hr.symm)) h
 |rng hi hr=>
  rename_i y left step;rw[<-hk]at hr;cases hl:left.toNat with
  |zero=>exact CN hh hi (yy hl) h
  |succ k=>rw[hl]at hr;cases hr
end
theorem aA.but(T:aA B M own h)(hB:B I=Ue)(hO:I∉own)(k:VI I h h'):aA B M own h':=⟨λa o e=>k a o (λq=>by rw[q,hB]at e;exact nn e) (T.keep a o e),T.mr.keeps (Le.refl B) λa ha o e=>k a o (λq=>hO (q▸ha)) e,T.nd,T.dis,T.big⟩
theorem St.but(S:St c n ρ M B own h)(hB:B I=Ue)(hO:I∉own)(hI:∃o vs,h.get? I=TR o/\o.data=.fields vs)(k:VI I h h'):St c n ρ M B own h':=by
 refine aX hI λoI vs KY=>?_
 have ne:∀L o,h.get? L=TR o->(∀vs,o.data≠.fields vs)->L≠I:=λL o e q z=>by subst z;rw[KY.1]at e;obtain rfl:=TU e;exact q _ KY.2
 refine⟨S.par,S.gr,S.glob,S.blt,S.cells,S.kind,S.frames,S.hand,S.guards,S.room,S.units,S.fun_.of_keeps λb o e q=>⟨o,k b o (ne b o e q) e,rfl⟩,S.base,?_,S.locB,S.locO,S.frB,S.sta.but hB hO k⟩;refine S.loc.of_data (Le.refl B) λo ho=>⟨o.slots,k _ _ (ne _ o ho ?_) ho⟩
 obtain⟨m,⟨o',es,ep,Lo,hd,_⟩,_⟩:=S.loc;rw[ho]at Lo;obtain rfl:=TU Lo;intro vs q;rw[hd]at q;cases q
theorem aF.but(x:aF B own h B' K2 h1 P)(hI:h.get? I=TW)(k:VI I h1 h2):aF B own h B' K2 h2 P:=by
 have ne:∀b,h.get? b≠TW->b≠I:=λb q z=>q (z▸hI)
 refine⟨x.le,x.newB,x.newO,λb o e n p=>?_,λa q=>?_⟩
 ·refine aj (x.same b o e n p) λsl e'=>?_
  exact⟨sl,k _ _ (ne b (by rw[e];exactλz=>by exact ns z)) e'⟩
 ·cases e:h1.get? a with
  |none=>exact absurd e (x.alive a q)
  |some o=>rw[k _ _ (ne a q) e];exactλz=>by exact ns z
theorem aF.fresh(x:aF B own h B' K2 h' P)(hB:B I=TW)(hO:I∉own)(hI:h.get? I≠TW):B' I=TW/\I∉K2:=by
 constructor
 ·cases q:B' I with
  |none=>rfl
  |some o=>
   rcases x.newB I (by rw[q];exactλz=>by exact ns z)with z|z|z
   ·exact absurd hB z
   ·exact absurd z hO
   ·exact absurd z hI
 ·intro q;rcases x.newO I q with z|z
  ·exact hO z
  ·exact hI z
end
section
variable[HasP]
section
variable{prog:VQ}{w:U4}{A:UT}{E:TZ->aav->Prop}{s:aav}
theorem uJ(Lb:t≠it):∀(n i:Nat) (s:aav) (Q:List TZ->aav->Prop),s.heap.IsListIter it t i->s.heap.IsList t items->i+n<=items.size->(∀h',h'.IsListIter it t (i+n)->Vg it s.heap h'->Q ((items.toList.drop i).take n) {s with heap:=h'})->Uh (Uj prog w) A (draw (.ref it) n) Q E s
 |0,i,s,Q,hit,_,_,hQ=>by show Uh _ _ (pure []) Q E s;exact wpAny_pure (by simpa using hQ s.heap hit (Z4 ..))
 |n+1,i,s,Q,hit,ht,hle,hQ=>by
  have LV:i<items.size:=by exact ab [_,_,_] ad X1 (X0.a bC) X1 hle rfl
  show Uh _ _ (pyNext (.ref it)>>=_) Q E s;refine wpAny_bind (wpAny_pyNext_list_item hit ht (x:=items[i]) (by simp[LV]) λLs ON Md=>?_);refine wpAny_bind (wpAny_holding (uJ Lb n (i+1) _ _ ON (ht.extBut Md.extBut Lb) (by exact ab [_,_,_] (ad.a X1) X2 (X0.a ay) X2 hle rfl) λOe Rz Ng=>wpAny_pure ?_));have hd:items.toList.drop i=items[i]::items.toList.drop (i+1):=by simp[W2,LV]
  have:=hQ Oe (by rw[show i+(n+1)=i+1+n by exact e0 [_,_] (X0.a ay) (ad.a X1) rfl];exact Rz) (Md.trans Ng);rw[hd,List.take_succ_cons]at this;exact this
theorem CO(hh:A.handled=TW)(ht:s.heap.IsList t items)(hQ:∀h',VI s.heap.objs.size s.heap h'->Q items.toList {s with heap:=h'}):Uh (Uj prog w) A (unpackItems (.ref t) items.size TW) Q E s:=by
 have LV:t≠s.heap.objs.size:=by obtain⟨o,ho,_⟩:=ht;exact U7 (UB ho)
 unfold unpackItems;refine wpAny_bind ?_
 ·unfold notIterableAtAll;refine wpAny_bind (wpAny_specialOf ht.typeIs slot_list_iter.lookup ?_);refine wpAny_pure ?_;simp only[UC,if_false];refine wpAny_bind (wpAny_holding (wpAny_pyIter_list ht ?_));refine wpAny_bind (wpAny_holding (uJ LV items.size 0 _ _ ⟨_,Ul _ rfl,rfl,rfl⟩ (ht.push _) (by exact aw [_] (N0.a X0) X0 rfl) λLs ON Md=>?_));have NA:Vs items.size (V5 0 items.toList)=items.toList:=by rw[UW];exact VU (by simp)
  refine(NA).symm▸?_;rw[if_neg (by simp)];have RA:Ls.IsList t items:=(ht.push _).extBut Md.extBut LV;refine wpAny_bind (wpAny_holding (wpAny_pyNext_list_end hh ON RA (by simp) λOe Oa=>?_));simp only[Option.isSome_none,UC,if_false];refine wpAny_pure (hQ Oe λb o hb e=>Oa b o hb (Md.extBut b o hb (Ua _ e)))
end
noncomputable def l8(v:V):Option (List V):=V.casesOn (motive_1:=λ_=>Option (List V)) v TW (λ_=>TW) (λ_=>TW) (λ_=>TW) (λxs=>TR xs) (λxs=>TR xs) (λ_ _=>TW) (λ_ _ _=>TW) (λ_=>TW) (λ_=>TW) (λ_=>TW) (λ_=>TW)
theorem uK{v:V}(hn:0<n)(S:St c n ρ M B own s.heap)(hv:VR B val v)(hx:l8 v=TR xs)(h:∀h' vs,aq B vs xs->VI s.heap.objs.size s.heap h'->Q vs {s with heap:=h'}):Uh (Uj pw c.w) c.A (unpackItems val xs.length TW) Q E s:=by
 cases v with
 |tup ys=>
  obtain rfl:=TU hx;induction hv with
  |@tup _ _ vs k e hc hd hr=>refine(aq.size hr)▸?_;exact wpAny_unpackItems_tuple (S.hand hn) ⟨_,S.sta.keep _ _ e,hc,_,hd⟩ λh' k=>h h' _ hr k
 |lst ys=>
  obtain rfl:=TU hx;induction hv with
  |@lst _ vs k e hr=>refine(aq.size hr)▸?_;exact CO (S.hand hn) ⟨_,S.sta.keep _ _ e,rfl,_,rfl⟩ λh' k=>h h' _ hr k
 |_=>exact nn hx
noncomputable def cJ(ρ:af):List Nat->List V->af
 |k::ks,x::xs=>cJ (ag ρ k x) ks xs
 |_,_=>ρ
theorem bR:cJ ρ (k::ks) (x::xs)=cJ (ag ρ k x) ks xs:=rfl
theorem bS:cJ ρ [] xs=ρ:=rfl
theorem Tn.length{sc:UG}(h:Tn sc es ks):es.length=ks.length:=by
 induction h with
 |nil=>rfl
 |cons _ _ _ ih=>rw[aau,aau,ih]
set_option tactic.hygienic true in
theorem CP{sc:UG}(h:Tn sc es ks)(env:Yj):(assignEach es env).length=es.length/\(assignEach es env).findIdx? (·.1)=TW:=by
 induction h with
 |nil=>exact⟨rfl,rfl⟩
 |cons hk ok t ih=>rename_i id p es ks;have e:assignEach (.Name id p::es) env=(TT,assign (.Name id p) env)::assignEach es env:=rfl;refine(e).symm▸?_;exact⟨by rw[aau,aau,ih.1],by rw[Yr,ih.2];rfl⟩
set_option tactic.hygienic true in
theorem CQ(h:Tn c.env.scope es ks):∀{ρ:af} {s:aav} {vs:List TZ} {xs:List V},St c n ρ M B own s.heap->aq B vs xs->xs.length=ks.length->Uh (Uj pw c.w) c.A (assignInOrder ((assignEach es c.env).map (·.2)) vs) (λ_ s'=>aA B M own s'.heap/\cI B (cJ ρ ks xs) s'.heap c.env.locals/\aF B own s.heap B own s'.heap (λa=>a=c.env.locals)/\bl s s') E s:=by
 induction h with
 |nil=>
  intro ρ s vs xs S hv hl;induction xs with
  |nil=>induction hv;exact wpAny_pure ⟨S.sta,S.loc,.refl,.refl _⟩
  |cons _ _=>cases hl
 |cons hk ok t ih=>
  rename_i id p es ks;intro ρ s vs xs S hv hl;cases xs with
  |nil=>cases hl
  |cons x xs=>
   cases hv with
   |cons h1 h2=>
    rename_i a vs;show Uh _ _ (do holding vs (assign (.Name id p) c.env a);assignInOrder ((assignEach es c.env).map (·.2)) vs) _ _ _;refine wpAny_bind (wpAny_holding (assign_Name (wpAny_mono (j7 S hk ok h1) (λ_ s1 h=>?_) λ_ _ h=>h)));have T1:=h.1;have F1:=h.2.1;have P1:=h.2.2.1;have q1:=h.2.2.2;refine wpAny_mono (ih (S.stepS T1 F1 P1) h2 (Xo hl)) (λ_ s2 h=>?_) λ_ _ h=>h
    exact⟨h.1,h.2.1,P1.trans h.2.2.1,q1.trans h.2.2.2⟩
theorem St.grown(S:St c n ρ M B own h)(k:∀b o,h.get? b=TR o->h'.get? b=TR o):St c n ρ M B own h'/\aF B own h B own h' λ_=>False:=by
 have P:aF B own h B own h' λ_=>False:=⟨Le.refl B,λ_ e=>.inl e,λ_ e=>.inl e,λb o e _ _=>⟨o.slots,k b o e⟩,λb q=>ke k q⟩
 exact⟨S.step (S.sta.keeps k) P,P⟩
theorem uL(k:VI h.objs.size h h'):∀b o,h.get? b=TR o->h'.get? b=TR o:=λb o e=>k b o (U7 (UB e)) e
noncomputable def e8(k:Nat)(v:V)(ρ:af):Option af:=TR (ag ρ k v)
noncomputable def gM(ks:List Nat)(v:V)(ρ:af):Option af:=match l8 v with
 |some xs=>if xs.length=ks.length then TR (cJ ρ ks xs)else TW
 |none=>TW
def l9(n:Nat)(sc:UG)(target:Up)(f:V->af->Option af):Prop:=∀(c:Cx) (ρ:af) (M:aa) (B:PH) (own:List TX) (s:aav) (val:TZ) (v:V) (ρ1:af) (E:TZ->aav->Prop),c.env.scope=sc->St c n ρ M B own s.heap->VR B val v->f v ρ=TR ρ1->Uh (Uj pw c.w) c.A (assign target c.env val) (λ_ s'=>aA B M own s'.heap/\cI B ρ1 s'.heap c.env.locals/\aF B own s.heap B own s'.heap (λa=>a=c.env.locals)/\bl s s') E s
theorem CS{sc:UG}{id:U6}(hk:sc.names.lookup id=TR .local)(ok:aG id=TV):l9 n sc (.Name id q) (e8 (nc id)):=by intro c ρ M B own s val v ρ1 E K0 S hv hf;obtain rfl:=TU hf;subst K0;exact assign_Name (j7 S hk ok hv)
set_option tactic.hygienic true in
theorem uM{sc:UG}(hn:0<n)(h:Tn sc es ks):l9 n sc (.Tuple es k q) (gM ks):=by
 intro c ρ M B own s val v ρ1 E K0 S hv hf;subst K0;unfold gM at hf;split at hf
 ·rename_i xs hx;split at hf
  ·rename_i hl;obtain rfl:=TU hf;show Uh _ _ (do standAt q;unpack val (assignEach es c.env)) _ _ _;refine wpAny_bind (wpAny_standAt ?_);have KZ:=CP h c.env;unfold unpack;refine(KZ.2).symm▸?_;refine(KZ.1).symm▸?_;refine(h.length).symm▸?_;refine(hl)▸?_;refine wpAny_bind (wpAny_holding (uK hn S hv hx λh' vs hr k=>?_));have KZ:=S.grown (uL k);refine wpAny_mono (CQ (s:={s with heap:=h'}) h KZ.1 hr hl) (λ_ s2 h=>?_) λ_ _ h=>h
   have T2:=h.1;have F2:=h.2.1;have P2:=h.2.2.1;have q2:=h.2.2.2;exact⟨T2,F2,(KZ.2.weaken λ_ h=>h.elim).trans P2,q2⟩
  ·exact nn hf
 ·exact nn hf
end
section
variable[HasP]
def gN(n:Nat)(f:V->af->Option af)(b:List XS)(K:PK)(E:PE):List V->af->aa->Prop
 | [],ρ,M=>K .next ρ M
 |v::r,ρ,M=>∃ρ1,f v ρ=TR ρ1/\dq n ρ1 M b (λfl Lg M2=>match fl with| .ret v=>K (.ret v) Lg M2|_=>gN n f b K E r Lg M2) E
theorem uN(x:bu B s.heap I items)(h:Q () s):Uh mo A (letOwnedTupleGo target (.ref I) val) Q E s:=by
 have go:Uh mo A (do
  let(.ref r,.ref a):=((Vk I,val):TZ×TZ)|return
  let o<-load r
  match o.cls,o.data with
  |.type n,.fields vs=>
   if["enumerate","zip","dict_itemiterator","dict_reverseitemiterator","odict_iterator","itertools.zip_longest","itertools.pairwise"].contains n&&vs[0]? ==TR (UV a)then
    rule "for.unpacks-the-owned-tuple"
    updateField r 0 .none
  |_,_=>pure ()) Q E s:=by
  induction val with
  |ref a=>
   obtain⟨o,vs,T,e,hd,hc,hT⟩:=x.obj;dsimp only;refine wpAny_bind (wpAny_load e ?_);refine(hc).symm▸?_;refine(hd).symm▸?_;dsimp only;have:["enumerate","zip","dict_itemiterator","dict_reverseitemiterator","odict_iterator","itertools.zip_longest","itertools.pairwise"].contains T=TT:=by simp only[uI,Uk,Um,or_false]at hT;rcases hT with rfl|rfl|rfl|rfl|rfl<;>decide
   refine(this).symm▸?_;exact wpAny_pure h
  |_=>exact wpAny_pure h
 cases target<;>first|exact go|exact wpAny_pure h
theorem bI.butL{K:PK}(S:St c n ρ1 M1 B1 K1 s1.heap)(hB:B1 I=Ue)(hO:I∉K1)(hI:∃o vs,s1.heap.get? I=TR o/\o.data=.fields vs)(P:aF B own s.heap B1 K1 s1.heap (λa=>a=c.env.locals))(q:bl s s1)(h0:s.heap.get? I=TW)(k:VI I s1.heap s2.heap)(q2:bl s1 s2)(hf:i0 B1 f fl)(h:K fl ρ1 M1):bI c.env.locals B own s K f s2:=⟨B1,K1,fl,ρ1,M1,hf,h,S.sta.but hB hO k,(S.but hB hO hI k).loc,P.but h0 k,q.trans q2⟩
theorem CU{K:PK}{sc:UG}(hn:0<n)(tg:l9 n sc target f)(MO:fP gt sc bb b)(K0:c.env.scope=sc)(tp:gI c){B0:PH}(h0:s0.heap.get? I=TW):∀(items:List V) (ρ:af) (M:aa) (B:PH) (own:List TX) (s:aav),gN n f b K E items ρ M->St c n ρ M B own s.heap->bu B s.heap I items->B I=Ue->I∉own->aF B0 own0 s0.heap B own s.heap (λa=>a=c.env.locals)->bl s0 s->Vc (Uj pw c.w) c.A (.forLoop target (.ref I) bb [] c.env) (ii c B0 own0 s0 K E) s:=by
 intro items;induction items with
 |nil=>intro ρ M B own s h S x hB hO P q;refine codeAny_of_tree ?_;show Uh _ c.A ((forTurn target (.ref I) bb [] c.env).onRaise (λx=>do noteFrame x c.env;theTreesLotGoes x)) _ _ s;refine wpAny_noted ?_;simp only[forTurn];refine wpAny_bind (wpAny_standAt (wpAny_bind (wpAny_onRaise (bu.done (S.hand hn) S.sta x λh' k=>?_))));have hI:∃o vs,s.heap.get? I=TR o/\o.data=.fields vs:=let⟨o,vs,_,a,b,_⟩:=x.obj;⟨o,vs,a,b⟩;refine wpAny_pure ⟨rfl,codeAny_block ?_⟩;exact wpAny_execs_nil (bI.butL (s2:={s with heap:=h'}) S hB hO hI P q h0 k ⟨rfl,rfl⟩ .next h)
 |cons v r ih=>
  intro ρ M B own s h S x hB hO P q;refine aj h λρ1 KY=>?_
  have k:=KY.2;refine codeAny_of_tree ?_;show Uh _ c.A ((forTurn target (.ref I) bb [] c.env).onRaise (λx=>do noteFrame x c.env;theTreesLotGoes x)) _ _ s;refine wpAny_noted ?_;simp only[forTurn];have hI:∃o vs,s.heap.get? I=TR o/\o.data=.fields vs:=let⟨o,vs,_,a,b,_⟩:=x.obj;⟨o,vs,a,b⟩;refine wpAny_bind (wpAny_standAt (wpAny_bind (wpAny_onRaise (bu.next S.sta x λh' tk val hv x' sb=>?_))));have S1:St c n ρ M B own h':=S.but hB hO hI sb.extBut;have P1:aF B0 own0 s0.heap B own h' (λa=>a=c.env.locals):=P.but h0 sb.extBut;have q1:bl s0 {s with heap:=h',toks:=tk}:=q.trans ⟨rfl,rfl⟩;dsimp only;refine wpAny_bind (uN (s:={s with heap:=h',toks:=tk}) x' ?_);refine wpAny_bind (wpAny_mono (tg c ρ M B own {s with heap:=h',toks:=tk} val v ρ1 (λ_ _=>False) K0 S1 hv KY.1) (λ_ s2 h2=>?_) λ_ _ h=>h.elim);have P2:=h2.2.2.1;have S2:=S1.stepS h2.1 h2.2.1 P2;have PP:=P1.trans P2;have qq:=q1.trans h2.2.2.2;have alive:∀{B':PH} {K2:List TX} {g g':Ux},aF B own g B' K2 g' (λa=>a=c.env.locals)->bu B g I r->g.get? I≠TW:=λ_ y=>let⟨o,_,_,a,_⟩:=y.obj;by rw[a];exactλz=>by exact ns z
  have hL:c.env.locals≠I:=by
   intro z;refine bO x'.obj λo vs _ KY=>?_
   obtain⟨m,⟨o',es,ep,Lo,hd,_⟩,_⟩:=S1.loc;rw[z,KY.1]at Lo;obtain rfl:=TU Lo;rw[KY.2.1]at hd;cases hd
  have x2:bu B s2.heap I r:=x'.keep (Le.refl B) λo ho=>P2.same I o ho hO (λz=>hL z.symm)
  refine wpAny_bind (wpAny_mono (k _ _ MO c B own s2 K0 tp S2) (λg s3 h3=>?_) λ_ _ h3=>?_)
  ·obtain⟨B3,LA,fl,LE,M3,r3,k3,T3,F3,P3,q3⟩:=h3;have S3:=S2.stepS T3 F3 P3;have Nh:s2.heap.get? I≠TW:=alive P3 x2;have KZ:=P3.fresh hB hO Nh;have Of:=KZ.1;have Og:=KZ.2;have x3:bu B3 s3.heap I r:=x2.keep P3.le λo ho=>P3.same I o ho hO (λz=>hL z.symm)
   induction r3 with
   |next=>exact wpAny_pure ⟨rfl,ih _ _ _ _ _ k3 S3 x3 Of Og (PP.trans P3) (qq.trans q3)⟩
   |cont=>exact wpAny_pure ⟨rfl,ih _ _ _ _ _ k3 S3 x3 Of Og (PP.trans P3) (qq.trans q3)⟩
   |ret hv=>exact wpAny_pure ⟨B3,LA,_,LE,M3,.ret hv,k3,T3,F3,PP.trans P3,qq.trans q3⟩
  ·exact wpAny_mono (pf tp S2 h3) (λ_ s' h=>pe h λv s h=>h.step PP qq) λ_ s' h=>pe h λv s h=>h.step PP qq
inductive fF(B:PH)(own:List TX)(s:aav)(Q:List V->aa->Prop)(it:TZ)(s':aav):Prop
 |mk (B':PH) (K2:List TX) (M':aa) (I:TX) (items:List V) (h1:it=.ref I) (q:Q items M') (h2:bu B' s'.heap I items) (h3:B' I=Ue) (h4:I∉K2) (h5:s.heap.get? I=Ue) (T:aA B' M' K2 s'.heap) (P:aF B own s.heap B' K2 s'.heap (λ_=>False)) (q':bl s s')
def gO(n:Nat)(ρ:af)(M:aa)(x:X)(Q:List V->aa->Prop)(E:PE):Prop:=∀sc e,T gt sc e x->∀(c:Cx) (B:PH) (own:List TX) (s:aav),c.env.scope=sc->St c n ρ M B own s.heap->Uh (Uj pw c.w) c.A (eval e c.env) (λv s'=>Uh (Uj pw c.w) c.A (pyIter v) (fF B own s Q) (bg B own s E) s') (bg B own s E) s
noncomputable def kl(v:V):Option (List V):=V.casesOn (motive_1:=λ_=>Option (List V)) v TW (λ_=>TW) (λ_=>TW) (λl=>TR (l.map λc=>.str [c])) (λxs=>TR xs) (λxs=>TR xs) (λ_ _=>TW) (λ_ _ _=>TW) (λ_=>TW) (λ_=>TW) (λ_=>TW) (λ_=>TW)
theorem CV{v:TZ}(S:St c n ρ M B own s.heap)(hv:VR B v r)(hi:kl r=TR items)(q:Q items M):Uh (Uj pw c.w) c.A (pyIter v) (fF B own s Q) E s:=by
 have fin:∀(o:Vi),(∃T vs,o.cls=.type T/\o.data=.fields vs)->(bu B (s.heap.push o) s.heap.objs.size items)->fF B own s Q (.ref s.heap.objs.size) {s with heap:=s.heap.push o}:=by
  intro o _ x;obtain⟨S1,P1⟩:=S.grown (h':=s.heap.push o) λb o' e=>Ua _ e
  obtain⟨f1,f2⟩:=S.sta.fresh (cv s.heap);exact⟨B,own,M,_,items,rfl,q,x,f1,f2,cv _,S1.sta,P1,rfl,rfl⟩
 cases r with
 |tup ys=>
  obtain rfl:=TU hi;induction hv with|tup e hc hd hr=>
  exact wpAny_pyIter_tuple ⟨_,S.sta.keep _ _ e,hc,_,hd⟩ (fin _ ⟨_,_,rfl,rfl⟩ (.tup e hc hd ⟨_,Ul _ rfl,rfl,rfl⟩ (by simpa using hr)))
 |lst ys=>
  obtain rfl:=TU hi;induction hv with|lst e hr=>
  exact wpAny_pyIter_list ⟨_,S.sta.keep _ _ e,rfl,_,rfl⟩ (fin _ ⟨_,_,rfl,rfl⟩ (.list e ⟨_,Ul _ rfl,rfl,rfl⟩ (by simpa using hr)))
 |str l=>
  obtain rfl:=TU hi;induction hv with|str x t=>
  cases ha:x.cps.all (· <128)with
  |true=>exact wpAny_pyIter_ascii ha (fin _ ⟨_,_,rfl,rfl⟩ (.strA ⟨_,Ul _ rfl,rfl,rfl⟩ (by rfl)))
  |false=>exact wpAny_pyIter_wide ha (fin _ ⟨_,_,rfl,rfl⟩ (.strW ⟨_,Ul _ rfl,rfl,rfl⟩ (by rfl)))
 |_=>exact nn hi
theorem fF.step{v:TZ}(P:aF B own s.heap B1 K1 s1.heap λ_=>False)(q:bl s s1)(x:fF B1 K1 s1 Q v s'):fF B own s Q v s':=by obtain⟨B',K2,M',I,items,h1,h2,h3,h4,h5,h6,h7,h8,h9⟩:=x;exact⟨B',K2,M',I,items,h1,h2,h3,h4,h5,P.gone h6,h7,P.trans h8,q.trans h9⟩
theorem CW(h:Ev n ρ M x (λr M1=>∃items,kl r=TR items/\Q items M1) E):gO n ρ M x Q E:=by
 intro sc e hT c B own s K0 S;refine wpAny_mono (h _ _ hT c B own s K0 S) (λv s1 hv=>?_) λ_ _ h=>h
 obtain⟨B1,K1,M1,⟨r,hr,items,hi,q⟩,T1,P1,q1⟩:=hv;exact wpAny_mono (CV (E:=λ_ _=>False) (S.step T1 P1) hr hi q) (λit s2 h=>h.step P1 q1) λ_ _ h=>h.elim
theorem uO(h:eX it=TT):foldedSetIterable it env x=pure x:=by cases it<;>first|rfl|exact bt h
theorem uP{K:PK}{sc:UG}(hn:0<n)(tg:l9 n sc target f)(hs:eX ie=TT)(h1:T gt sc ie it)(MO:fP gt sc bb b)(h:gO n ρ M it (λitems M1=>gN n f b K E items ρ M1) E)(K0:c.env.scope=sc)(tp:gI c)(S:St c n ρ M B own s.heap):Uh (Uj pw c.w) c.A (exec (.For target ie bb [] p) c.env) (bI c.env.locals B own s K) (cS c.env.locals B own s E) s:=by
 refine wpAny_For (wpAny_mono (h _ _ h1 c B own s K0 S) (λv s1 hv=>?_) λ_ _ h=>h.toS S) (λ_=>uO hs);refine wpAny_mono hv (λTi s2 h2=>?_) λ_ _ h=>h.toS S
 obtain⟨B2,K9,M2,I,items,rfl,k,x,hB,hO,h0,T2,P2,q2⟩:=h2;refine codeAny_mono (CU hn tg MO K0 tp h0 items ρ M2 B2 K9 s2 k (S.step T2 P2) x hB hO (P2.weaken λ_ h=>h.elim) q2) λr s' h=>?_
 induction r with
 |ok f=>exact h
 |error e=>exact h
theorem CX{K:PK}(hn:0<n)(h:gO n ρ M it (λitems M1=>gN n (e8 k) b K E items ρ M1) E):cE n ρ M (.for k it b) K E:=by
 intro sc e hT c B own s K0 tp S;induction hT with
 |«for» hk ok hs h1 h2=>exact uP hn (CS hk ok) hs h1 h2 h K0 tp S
theorem CY{K:PK}(hn:0<n)(h:gO n ρ M it (λitems M1=>gN n (gM ks) b K E items ρ M1) E):cE n ρ M (.forT ks it b) K E:=by
 intro sc e hT c B own s K0 tp S;induction hT with
 |forT hk hs h1 h2=>exact uP hn (uM hn hk) hs h1 h2 h K0 tp S
end
section
variable[HasP]
theorem CZ(hb:b≠0)(hz:b.natAbs<1073741824)(q:Q (.int (a.fdiv b)) M):du .FloorDiv (.int a) (.int b) M Q:=by intro c n ρ B own s va vb E S h1 h2;induction h1;induction h2;exact floordiv_int hb (aC.here S.sta (.int _ _) q) (.inl (Ww hz))
theorem C0{a:Int}{n:Nat}{M:aa}{Q:PQ}(hn:n<=1000000)(ha:a.natAbs<2^64)(q:Q (.int (a^n)) M):du .Pow (.int a) (.int n) M Q:=by intro c k ρ B own s va vb E S h1 h2;induction h1;induction h2;refine pow_int_small (by exact dp (a:=0) (aw [_] N0 X0 rfl)) (by exact dp (b:=1000000) (ab [_] X0 (Ar.n 1000000) X0 (Ar.n 1000000) hn rfl)) ha ?_;rw[Vf];exact aC.here S.sta (.int _ _) q
theorem C1(h:Ev n ρ M x (λr M1=>∃i,r=.int i/\Q (.int (-i)) M1) E):Ev n ρ M (.neg x) Q E:=by
 intro sc e hT c B own s K0 S;induction hT with
 |neg h1=>refine wpAny_UnaryOp (wpAny_mono (h _ _ h1 c B own s K0 S) (λva s1 h=>?_) λ_ _ h=>h);obtain⟨B1,K1,M1,⟨ra,LQ,i,rfl,k⟩,T1,P1,q1⟩:=h;induction LQ;exact PySem.P.neg_int (aT.step P1 q1 (aC.here T1 (.int _ _) k))
inductive jd:List V->List V->Prop
 |up (m:Nat) (h:m<1000000):jd [.int m] (c8 1 0 m)
 |dn (a:Int) (k:Nat) (e:a+1=k) (h:k<=1000000):jd [.int a,.int (-1),.int (-1)] (c8 (-1) a k)
theorem uQ{a b st:Int}{t u v:Tok}(S:St c n ρ M B own s.heap)(RB:WM a b st=TV)(hi:items=c8 st a (U0 a b st).toNat)(q:Q items M):Uh (Uj pw c.w) c.A (pyIter (.ref s.heap.objs.size)) (fF B own s Q) E {s with heap:=s.heap.push {cls:=.type "range",data:=.fields #[.int a t,.int b u,.int st v]},toks:=k}:=by
 refine wpAny_pyIter_range (IsRange.new s.heap a b st t u v) RB ?_;obtain⟨S1,P1⟩:=S.grown (h':=s.heap.push {cls:=.type "range",data:=.fields #[.int a t,.int b u,.int st v]}) λb o' e=>Ua _ e
 obtain⟨S2,P2⟩:=S1.grown (h':=(s.heap.push {cls:=.type "range",data:=.fields #[.int a t,.int b u,.int st v]}).push {cls:=.type "range_iterator",data:=.fields #[UV a,UV (U0 a b st),UV st]}) λb o' e=>Ua _ e
 obtain⟨f1,f2⟩:=S1.sta.fresh (cv _);have x:bu B ((s.heap.push {cls:=.type "range",data:=.fields #[.int a t,.int b u,.int st v]}).push {cls:=.type "range_iterator",data:=.fields #[UV a,UV (U0 a b st),UV st]}) (s.heap.push {cls:=.type "range",data:=.fields #[.int a t,.int b u,.int st v]}).objs.size items:=.rng ⟨_,Ul _ rfl,rfl,rfl⟩ hi;exact⟨B,own,M,_,items,rfl,q,x,f1,f2,P1.gone (cv _),S2.sta,P1.trans P2,rfl,rfl⟩
set_option tactic.hygienic true in
theorem C3(h:dK n ρ M xs (λvs M1=>∃items,jd vs items/\Q items M1) E):gO n ρ M (.call (.cst (.ty "range")) xs) Q E:=by
 intro sc e hT c B own s K0 S;induction hT with
 |call Mp hf hs=>
  rename_i fe as p;refine(ic Mp).symm▸?_;refine wpAny_bind (wpAny_mono (fR (E:=E) (Q:=λr M1=>r=.ty "range"/\M1=M) ⟨rfl,rfl⟩ _ _ hf c B own s K0 S) (λfv s1 h1=>?_) λ_ _ h=>h);obtain⟨B1,K1,M1,⟨r,LU,hr,hM⟩,T1,P1,q1⟩:=h1;subst hr hM;induction LU;have S1:=S.step T1 P1;have go:Uh (Uj pw c.w) c.A (spliced (VP p (U1 as c.env))) (λvs s2=>Uh (Uj pw c.w) c.A (Vl (.type "range") vs) (λv s'=>Uh (Uj pw c.w) c.A (pyIter v) (fF B own s Q) (bg B own s E) s') (bg B own s E) s2) (bg B own s E) s1:=by
   refine wpAny_mono (h _ _ hs c B1 K1 s1 p K0 S1) (λvs s2 h2=>?_) λ_ _ h=>h.step P1 q1
   obtain⟨B2,K9,M2,⟨rs,r2,items,hi,k⟩,T2,P2,q2⟩:=h2;have S2:=S1.step T2 P2;have fin:∀{m:Sem TZ} {s':aav},Uh (Uj pw c.w) c.A m (fF B2 K9 s2 Q) (λ_ _=>False) s'->Uh (Uj pw c.w) c.A m (fF B own s Q) (bg B own s E) s':=λh=>wpAny_mono h (λ_ _ h=>(h.step P2 q2).step P1 q1) λ_ _ h=>h.elim
   induction hi with
   |up m hm=>
    obtain⟨v1,rfl,LW⟩:=aq.one r2;induction LW;have Lf:U0 0 m 1=m:=by unfold U0;simp;lia
    refine call_range_1 (fin (uQ S2 ?_ (by rw[Lf];rfl) k));unfold WM;refine(Lf).symm▸?_;simp[WP];lia
   |dn a j e hj=>
    induction r2 with
    |cons LW t=>
     obtain⟨v2,v3,rfl,NF,OO⟩:=aq.two t;induction LW;induction NF;induction OO;have Lf:U0 a (-1) (-1)=j:=by unfold U0;simp;lia
     refine call_range_3 (by lia) (fin (uQ S2 ?_ (by rw[Lf];rfl) k)) (.inl (Ww (by decide)));unfold WM;refine(Lf).symm▸?_;simp[WP];lia
  refine WT (hs.plain c.env p).1 ?_;exact lQ hs go
noncomputable def eH(i:Int):List Nat:=(Vr (toString i)).cps.toList
theorem C4(h:Ev n ρ M x (λr M1=>(∃l,r=.str l/\l.length<=Ub/\Q (.str l) M1)\/∃i:Int,r=.int i/\i.natAbs.log2<1920/\Q (.str (eH i)) M1) E):Ev n ρ M (.fmt x) Q E:=by
 intro sc e hT c B own s K0 S;induction hT with
 |fmt h1=>
  refine wpAny_FormattedValue_plain (wpAny_mono (h _ _ h1 c B own s K0 S) (λva s1 h=>?_) λ_ _ h=>h);obtain⟨B1,K1,M1,⟨ra,LQ,k⟩,T1,P1,q1⟩:=h;rcases k with⟨l,rfl,hl,k⟩|⟨i,rfl,hl,k⟩
  ·induction LQ;exact wpAny_formatField_str (aT.step P1 q1 (aC.here T1 (.str _ _) k)) (aT.step P1 q1 (aC.here T1 (.str _ _) k)) (by rw[c5];exact hl)
  ·induction LQ;exact wpAny_formatField_int hl (aT.step P1 q1 (aC.here T1 (VR.str _ _) k))
def JS(n:Nat)(ρ:af)(Q:PQ)(E:PE):List X->List Nat->aa->Prop
 | [],acc,M=>acc.length<=Ub/\Q (.str acc) M
 |x::xs,acc,M=>Ev n ρ M x (λr M1=>∃l,r=.str l/\(acc++l).length<=Ub/\JS n ρ Q E xs (acc++l) M1) E
theorem dS.cons{sc:UG}{e:Up}{es:List Up}{x:X}{xs:List X}(hs:jR e=TT)(h:T gt sc e x)(t:Ts gt sc es xs):Ts gt sc (e::es) (x::xs):=ot.cons hs h t
theorem dS.nil{sc:UG}:Ts gt sc [] []:=rfl
theorem uR{B0:PH}:∀{xs:List X} {es:List Up} (acc:U6) (M:aa) (B:PH) (own:List TX) (s:aav),Ts gt c.env.scope es xs->JS n ρ Q E xs acc.cps.toList M->St c n ρ M B own s.heap->aF B0 own0 s0.heap B own s.heap (λ_=>False)->bl s0 s->Joins (Uj pw c.w) c.A (bg B0 own0 s0 E) (evalEach es c.env) acc (λout Ld=>out.length<=Ub/\aC B0 own0 s0 Q (.str out Ld.toks) {Ld with toks:=Ld.toks+1}) s
 |[],_,acc,M,B,own,s,hT,h,S,P,q=>by cases hT;exact⟨by rw[c5];exact h.1,aT.step P q (aC.here S.sta (.str _ _) h.2)⟩
 |x::xs,_,acc,M,B,own,s,hT,h,S,P,q=>by
  induction hT with
  |cons hs h1 h2=>
   refine wpAny_mono (h _ _ h1 c B own s rfl S) (λv s1 hv=>?_) λ_ _ h=>h.step P q
   obtain⟨B1,K1,M1,⟨r,hr,l,rfl,hl,k⟩,T1,P1,q1⟩:=hv;induction hr with
   |str y t=>refine⟨y,t,rfl,by rw[c5,i7];exact hl,uR (acc++y) M1 B1 K1 s1 h2 (by rw[i7];exact k) (S.step T1 P1) (P.trans P1) (q.trans q1)⟩
theorem C5(h:JS n ρ Q E (x::y::xs) [] M):Ev n ρ M (.fst (x::y::xs)) Q E:=by
 intro sc e hT c B own s K0 S;induction hT with
 |fst hs=>
  subst K0;induction hs with
  |cons a b t=>
   induction t with
   |cons a' b' t'=>exact wpAny_JoinedStr (uR Z7 M B own s (.cons a b (.cons a' b' t')) h S .refl (.refl _))
end
section
variable[HasP]
noncomputable def uS(e:Up):U6:=bK (e.ctorIdx=23) (λh=>XM (motive_1:=λ_=>U6) e h λid _=>id) Z7
noncomputable def eI(es:List Up):List U6:=es.map uS
theorem C6{sc:UG}(h:Tn sc es ks):(eI es).map nc=ks/\(eI es).length=es.length/\∀id∈eI es,sc.names.lookup id=TR .local/\aG id=TV:=by
 induction h with
 |nil=>exact⟨rfl,rfl,λ_ h=>(nomatch h)⟩
 |cons hk ok t ih=>
  refine⟨congrArg (nc _::·) ih.1,congrArg (· +1) ih.2.1,λid LY=>?_⟩;cases LY with
  |head=>exact⟨hk,ok⟩
  |tail _ h=>exact ih.2.2 id h
theorem uT{α β:Type}(f:α->Option β)(g:α->β):∀(l:List α),(∀a∈l,f a=TW\/f a=TR (g a))->(l.filterMap f).length=l.length->l.filterMap f=l.map g
 | [],_,_=>rfl
 |a::l,h,hl=>by
  rcases h a (.head _)with e|e
  ·rw[X8,e]at hl;have:=List.length_filterMap_le f l;simp only[aau]at hl;exact(fL (ai [_,_] N1 N0 ad X1 X1 X0 (eR hl) this rfl)).elim
  ·rw[X8,e]at hl⊢;simp only[aau,Nat.add_right_cancel_iff]at hl;rw[UA,uT f g l (λa h'=>h a (.tail _ h')) hl]
theorem je{α:Type}{P:α->Prop}{c:Prop}[i:Decidable c]{a b:α}(h:c->P a)(k:¬c->P b):P (if c then a else b):=by
 induction i with
 |isTrue z=>exact h z
 |isFalse z=>exact k z
theorem C7(h:¬(a||b)=TV):a=TT:=by
 cases a with
 |true=>exact absurd rfl h
 |false=>rfl
theorem C8{es:List Up}{k:Nat}{q:Pos}{v:Up}{env:Yj}{sc:UG}{ks:List Nat}(hw:or v=TV)(hn:Tn sc es ks):swappedStores [.Tuple es k q] v env=pure TW\/swappedStores [.Tuple es k q] v env=pure (TR (eI es)):=by
 cases v with
 |Tuple vs k' q'=>
  refine je (P:=λr:Sem (Option (List U6))=>r=pure TW\/r=pure (TR (eI es))) (λ_=>.inl rfl) λ_=>?_
  refine je (P:=λr:Sem (Option (List U6))=>r=pure TW\/r=pure (TR (eI es))) (λ_=>.inl rfl) λ_=>?_
  refine je (P:=λr:Sem (Option (List U6))=>r=pure TW\/r=pure (TR (eI es))) (λ_=>.inl rfl) λh1=>?_
  refine je (P:=λr:Sem (Option (List U6))=>r=pure TW\/r=pure (TR (eI es))) (λ_=>.inl rfl) λh2=>?_
  refine je (P:=λr:Sem (Option (List U6))=>r=pure TW\/r=pure (TR (eI es))) (λh3=>?_) λ_=>.inr ?_
  ·have hw:(!(vs.all (constantsAlone 8))||vs.all (foldedForSure 8))=TV:=hw;rw[h3]at hw;exact absurd hw h2
  ·have:=uT _ uS es (λa ha=>?_) (bne_eq_false_iff_eq.mp (C7 h1))
   ·exact congrArg (λl=>(pure (TR l):Sem (Option (List U6)))) this
   ·cases a with
    |Name id p=>exact je (P:=λr=>r=TW\/r=TR id) (λ_=>.inr rfl) λ_=>.inl rfl
    |_=>exact .inl rfl
 |_=>exact .inl rfl
set_option tactic.hygienic true in
theorem uU{c:Cx}{n:Nat}{M:aa}{B:PH}{own:List TX}{E:TZ->aav->Prop}:∀{ids:List U6} (_:∀id∈ids,c.env.scope.names.lookup id=TR .local/\aG id=TV) {ρ:af} {s:aav} {vs:List TZ} {xs:List V},St c n ρ M B own s.heap->aq B vs xs->xs.length=ids.length->Uh (Uj pw c.w) c.A (assignInOrder (ids.map λn=>bindName c.env n) vs) (λ_ s'=>aA B M own s'.heap/\cI B (cJ ρ (ids.map nc) xs) s'.heap c.env.locals/\aF B own s.heap B own s'.heap (λa=>a=c.env.locals)/\bl s s') E s
 |[],_,ρ,s,vs,xs,S,hv,hl=>by
  induction xs with
  |nil=>induction hv;exact wpAny_pure ⟨S.sta,S.loc,.refl,.refl _⟩
  |cons _ _=>cases hl
 |id::ids,H,ρ,s,vs,xs,S,hv,hl=>by
  cases xs with
  |nil=>cases hl
  |cons x xs=>
   cases hv with
   |cons h1 h2=>
    rename_i a vs;show Uh _ _ (do holding vs (bindName c.env id a);assignInOrder (ids.map λn=>bindName c.env n) vs) _ _ _;refine wpAny_bind (wpAny_holding (bindName_ (wpAny_mono (j7 S (H id (.head _)).1 (H id (.head _)).2 h1) (λ_ s1 h=>?_) λ_ _ h=>h)));have T1:=h.1;have F1:=h.2.1;have P1:=h.2.2.1;have q1:=h.2.2.2;refine wpAny_mono (uU (λid h=>H id (.tail _ h)) (S.stepS T1 F1 P1) h2 (Xo hl)) (λ_ s2 h=>?_) λ_ _ h=>h
    exact⟨h.1,h.2.1,P1.trans h.2.2.1,q1.trans h.2.2.2⟩
theorem pD:∀(ks:List Nat) (xs:List V) (ρ:af) (j:Nat),ks.Nodup->xs.length=ks.length->aak (cJ ρ ks xs) j=(match aak (ks.zip xs) j with|some v=>TR v|none=>aak ρ j)
 | [],[],ρ,j,_,_=>rfl
 | [],_::_,_,_,_,h=>nomatch h
 |_::_,[],_,_,_,h=>nomatch h
 |k::ks,x::xs,ρ,j,nd,hl=>by
  rw[Uw]at nd;show aak (cJ (ag ρ k x) ks xs) j=(match(if k=j then TR x else aak (ks.zip xs) j)with|some v=>TR v|none=>aak ρ j);refine(pD ks xs _ j nd.2 (Xo hl)).symm▸?_;rewrite[ak];by_cases q:k=j
  ·subst q;refine(if_pos rfl).symm▸?_;refine(if_pos rfl).symm▸?_;have:aak (ks.zip xs) k=TW:=by
    have:∀(ks:List Nat) (xs:List V),k∉ks->aak (ks.zip xs) k=TW:=by
     intro ks;induction ks with
     |nil=>intro xs _;rfl
     |cons a r ih=>
      intro xs h;induction xs with
      |nil=>rfl
      |cons x xs=>rw[Uk,not_or]at h;exact(if_neg (λz=>h.1 z.symm)).trans (ih xs h.2)
    exact this ks xs nd.1
   refine(this).symm▸?_;with_reducible rfl
  ·refine(if_neg q).symm▸?_;refine(if_neg q).symm▸?_;with_reducible rfl
theorem pE:∀{l:List (Nat×V)} {j:Nat} {v:V},(l.map (·.1)).Nodup->(aak l j=TR v↔(j,v)∈l)
 | [],_,_,_=>⟨λh=>nn h,λh=>nomatch h⟩
 |p::r,j,v,nd=>by
  rw[UA,Uw]at nd;refine(cC).symm▸?_;by_cases q:p.1=j
  ·refine(if_pos q).symm▸?_;constructor
   ·intro h;obtain rfl:=TU h;rw[<-q];exact .head _
   ·intro h;cases h with
    |head=>rfl
    |tail _ h=>exact absurd (V9 (f:=(·.1)) h) (by rw[q]at nd;exact nd.1)
  ·refine(if_neg q).symm▸?_;rewrite[pE nd.2];rewrite[Uk];constructor
   ·exact .inr
   ·rintro(h|h)
    ·rw[<-h]at q;exact absurd rfl q
    ·exact h
theorem uV{α:Type}{l:List α}(h:l.Nodup):l.reverse.Nodup:=List.pairwise_reverse.mpr (Xa (λh=>Uf h) h)
theorem uW{α β:Type}:∀(l:List α) (r:List β),l.length=r.length->l.reverse.zip r.reverse=(l.zip r).reverse
 | [],[],_=>rfl
 | [],_::_,h=>by simp at h
 |_::_,[],h=>by simp at h
 |a::l,b::r,h=>by
  have h':l.length=r.length:=by simpa using h
  rw[VH,VH,List.zip_append (by simp[h']),uW l r h'];simp
theorem C9{α:Type}{a b:Option α}(h:∀v,a=TR v↔b=TR v):a=b:=by
 induction a with
 |none=>
  induction b with
  |none=>rfl
  |some v=>exact absurd ((h v).mpr rfl) (by simp)
 |some v=>exact((h v).mp rfl).symm
theorem Da(ks:List Nat)(xs:List V)(ρ:af)(j:Nat)(nd:ks.Nodup)(hl:xs.length=ks.length):aak (cJ ρ ks.reverse xs.reverse) j=aak (cJ ρ ks xs) j:=by
 have RC:ks.reverse.Nodup:=uV nd;rw[pD _ _ _ _ RC (by simp[hl]),pD _ _ _ _ nd hl];have e:ks.reverse.zip xs.reverse=(ks.zip xs).reverse:=uW _ _ hl.symm;refine(e).symm▸?_;have m1:(((ks.zip xs)).map (·.1)).Nodup:=by rw[YI (by exact ab [_,_] X0 X1 X0 X1 (eR hl) rfl)];exact nd
 have m2:(((ks.zip xs).reverse).map (·.1)).Nodup:=by rw[V4];exact uV m1
 have:aak (ks.zip xs).reverse j=aak (ks.zip xs) j:=C9 λv=>by rw[pE m2,pE m1,YH]
 refine(this).symm▸?_;with_reducible rfl
theorem aq.rev:∀{vs:List TZ},aq B vs xs->aq B vs.reverse xs.reverse:=by
 induction xs with
 |nil=>intro vs h;induction h;exact .nil
 |cons x xs ih=>
  intro vs h;induction h with
  |cons h t=>rw[VH,VH];exact aq.append (ih t) (.cons h .nil)
theorem cI.ext{B:PH}{ρ ρ':af}{h:Ux}{L:TX}(x:cI B ρ h L)(e:∀j,aak ρ' j=aak ρ j):cI B ρ' h L:=by obtain⟨m,hm,H⟩:=x;exact⟨m,hm,λx v ok hv=>H x v ok (by rw[<-e];exact hv)⟩
set_option tactic.hygienic true in
theorem Db{K:PK}(hn:0<n)(nd:i5 ks=TV)(h:Ev n ρ M x (λr M1=>∃xs,l8 r=TR xs/\xs.length=ks.length/\K .next (cJ ρ ks xs) M1) E):cE n ρ M (.asgT ks x) K E:=by
 intro sc e hT c B own s K0 tp S;induction hT with
 |asgT hc hw Oh h1=>
  rename_i es k q v p;subst K0;rw[exec_Assign];refine wpAny_bind (wpAny_standAt ?_);refine(show swapsWithSole [.Tuple es k q] v p.line c.env=pure TT from(show swapsWith v (TR (.Tuple es k q)) p.line c.env=pure TT from ig hc)).symm▸?_;refine wpAny_bind (wpAny_pure ?_);rw[if_neg (by decide)];refine wpAny_bind (wpAny_mono (h _ _ h1 c B own s rfl S) (λval s1 hv=>?_) λ_ _ h=>h.toS S);obtain⟨B1,K1,M1,⟨r,hr,xs,hx,hl,kk⟩,T1,P1,q1⟩:=hv;have S1:=S.step T1 P1;have Lp:=P1.weaken (P':=λa=>a=c.env.locals) λ_ h=>h.elim
  have fin:∀{s2:aav},aA B1 M1 K1 s2.heap->cI B1 (cJ ρ ks xs) s2.heap c.env.locals->aF B1 K1 s1.heap B1 K1 s2.heap (λa=>a=c.env.locals)->bl s1 s2->bI c.env.locals B own s K .next s2:=λT F P q=>⟨B1,K1,.next,_,M1,.next,kk,T,F,Lp.trans P,q1.trans q⟩
  rcases C8 (env:=c.env) (k:=k) (q:=q) hw Oh with e|e
  ·refine(e).symm▸?_;refine wpAny_bind (wpAny_pure ?_);show Uh _ _ (do assignAll val [assign (.Tuple es k q) c.env];pure Flow.next) _ _ s1;refine wpAny_bind (wpAny_mono (uM (k:=k) (q:=q) hn Oh c ρ M1 B1 K1 s1 val r (cJ ρ ks xs) (λ_ _=>False) rfl S1 hr (by unfold gM;rw[hx];simp[hl])) (λ_ s2 h=>wpAny_pure ?_) λ_ _ h=>h.elim);exact fin h.1 h.2.1 h.2.2.1 h.2.2.2
  ·refine(e).symm▸?_;refine wpAny_bind (wpAny_pure ?_);have KZ:=C6 Oh;have i1:=KZ.1;have i3:=KZ.2.2;have hlen:(eI es).length=xs.length:=by rw[KZ.2.1,Oh.length,hl]
   show Uh _ _ (do rule "assign.swapped-stores";let items<-unpackItems val (eI es).length TW;assignInOrder ((eI es).reverse.map λn=>bindName c.env n) items.reverse;pure Flow.next) _ _ s1;refine wpAny_bind (wpAny_rule ?_);refine(hlen).symm▸?_;refine wpAny_bind (uK hn S1 hr hx λh' vs K8 kp=>?_);have KZ:=S1.grown (uL kp);refine wpAny_bind (wpAny_mono (uU (s:={s1 with heap:=h'}) (E:=λ_ _=>False) (λid LY=>i3 id (List.mem_reverse.mp LY)) KZ.1 K8.rev (by simp[hlen])) (λ_ s3 h3=>wpAny_pure ?_) λ_ _ h=>h.elim);refine fin h3.1 (h3.2.1.ext λj=>?_) ((KZ.2.weaken λ_ h=>h.elim).trans h3.2.2.1) h3.2.2.2;refine(V4).symm▸?_;refine(i1).symm▸?_;refine(Da ks xs ρ j (o7 nd) hl).symm▸?_;with_reducible rfl
end
section
variable[HasP]
theorem aA.freeze{B:PH}{M:aa}{own:List TX}{h:Ux}{a:TX}{xs:List V}(T:aA B ((a,.list xs)::M) (a::own) h):∃vs n,h.get? a=TR (bk vs n)/\aA (aZ B a (bk vs n)) M own h/\VR (aZ B a (bk vs n)) (.ref a) (.lst xs)/\ Le B (aZ B a (bk vs n))/\aF B (a::own) h (aZ B a (bk vs n)) own h λ_=>False:=by
 obtain⟨keep,mr,nd,dis,big⟩:=T;refine bO (MR.list_out mr) λvs n K2 KY=>?_
 have q:=KY.1;have e:=KY.2.1;cases q
 ·have le:=eZ (o:=bk vs n) (dis a (.head _));rw[Uw]at nd;refine⟨vs,n,e,⟨λx o q=>?_,KY.2.2.2.keeps le λ_ _ _ e=>e,nd.2,λx hx=>?_,?_,λx hx=>big.2 x (.tail _ hx)⟩,.lst eE (KY.2.2.1.mono le),le,le,λx q=>?_,λx q=>.inl (.tail _ q),λb o e _ _=>⟨o.slots,e⟩,λ_ q=>q⟩
  ·unfold aZ at q;split at q
   ·rename_i z;subst z;obtain rfl:=TU q;exact e
   ·exact keep x o q
  ·unfold aZ;refine(if_neg (λ(z:x=a)=>nd.1 (z▸hx))).symm▸?_;exact dis x (.tail _ hx)
  ·cases e3:B 3 with
   |none=>exact absurd e3 big.1
   |some o=>rw[le _ _ e3];exactλq=>by exact ns q
  ·unfold aZ at q;split at q
   ·rename_i z;exact .inr (.inl (by rw[z];exact .head _))
   ·exact .inl q
theorem bu.self(x:bu B s.heap I items)(Lj:∀x l st,¬gL s.heap I x l st)(h:Q (.ref I) s):Uh (Uj prog w) A (pyIter (.ref I)) Q E s:=by
 induction x with
 |list e hi hv=>exact wpAny_pyIter_listiter hi h
 |tup e hc hd hi hv=>exact wpAny_pyIter_tupleiter hi h
 |strA hi hr=>exact wpAny_pyIter_striter_ascii hi h
 |strW hi hr=>exact wpAny_pyIter_striter_wide hi h
 |rng hi hr=>exact absurd hi (Lj _ _ _)
def pF(n k:Nat)(x:X)(v r:V):Prop:=∀M:aa,Ev n [(k,v)] M x (λr' M1=>r'=r/\M1=M) λ_ _=>False
def uX(n k:Nat)(x:Option X)(v:V)(b:Bool):Prop:=match x with
 |none=>b=TV
 |some x=>∀M:aa,dr n [(k,v)] M x (λb' M1=>b'=b/\M1=M) λ_ _=>False
def gP(n k:Nat)(x:X)(cond:Option X):List V->List V->Prop
 | [],rs=>rs=[]
 |v::vs,rs=>∃b,uX n k cond v b/\if b=TV then∃r t,pF n k x v r/\gP n k x cond vs t/\rs=r::t else gP n k x cond vs rs
theorem bg.no{v:TZ}(h:bg B own s (λ_ _=>False) v s'):False:=by obtain⟨_,_,_,_,_,_,h,_⟩:=h;exact h
theorem Dc{n k:Nat}{x:X}{cond:Option X}{id:U6}{q pos:Pos}{e it:Up}{ifs:List Up}{K5:UG}(hn:0<n)(hk:nc id=k)(hl:K5.names.lookup id=TR .local)(ok:aG id=TV)(h1:T gt K5 e x)(h3:Tc gt K5 ifs cond){c:Cx}(K0:c.env.scope=K5){I D:TX}{M:aa}{B0:PH}{own0:List TX}{s0:aav}(h0:s0.heap.get? I=TW)(MD:s0.heap.get? c.env.locals=TW)(Ni:s0.heap.get? D=TW){R:Result->aav->Prop}:∀(items rs acc:List V) (ρ:af) (B:PH) (own:List TX) (s:aav),(ρ=[]\/∃v,ρ=[(k,v)])->gP n k x cond items rs->acc.length+rs.length<=Ub->St c n ρ ((D,.list acc)::M) B (D::own) s.heap->bu B s.heap I items->B I=Ue->I∉own->I≠D->aF B0 own0 s0.heap B own s.heap (λ_=>False)->bl s0 s->(∀B' K2 s' ρ',St c n ρ' ((D,.list (acc++rs))::M) B' (D::K2) s'.heap->aF B0 own0 s0.heap B' K2 s'.heap (λ_=>False)->bl s0 s'->R (.ok .next) s')->Vc (Uj pw c.w) c.A (.compLoop (.ListComp e [⟨.Name id q,it,ifs,0⟩] K5 pos) 0 (.ref I) (.ref D) c.env) R s:=by
 have start:∀{R:Result->aav->Prop} {s:aav},Uh (Uj pw c.w) c.A (compTurn (.ListComp e [⟨.Name id q,it,ifs,0⟩] K5 pos) 0 (.ref I) (.ref D) c.env) (λfin s'=>match fin with| .done f=>R (.ok f) s'| .again c'=>c'.quiet=TV/\Vc (Uj pw c.w) c.A c' R s') (λ_ _=>False) s->Vc (Uj pw c.w) c.A (.compLoop (.ListComp e [⟨.Name id q,it,ifs,0⟩] K5 pos) 0 (.ref I) (.ref D) c.env) R s:=by intro R s h;refine codeAny_of_tree ?_;show Uh _ _ ((compTurn (.ListComp e [⟨.Name id q,it,ifs,0⟩] K5 pos) 0 (.ref I) (.ref D) c.env).onRaise (λx=>do noteFrame x c.env;theTreesLotGoes x)) _ _ s;refine wpAny_noted ?_;exact wpAny_mono h (λfin s' h=>h) λ_ _ h=>h.elim
 intro items;induction items with
 |nil=>
  intro rs acc ρ B own s PU hr Lf S y hB hO NG P qq fin;cases hr;refine start ?_;rw[compTurn_list];refine wpAny_bind (wpAny_standAt (wpAny_bind (bu.done (S.hand hn) S.sta y λh' kk=>?_)));have hI:∃o vs,s.heap.get? I=TR o/\o.data=.fields vs:=let⟨o,vs,_,a,b,_⟩:=y.obj;⟨o,vs,a,b⟩;have ME:I∉D::own:=by rw[Uk];rintro(z|z);exact NG z;exact hO z
  refine wpAny_pure (fin B own {s with heap:=h'} ρ (by rw[Xy];exact S.but hB ME hI kk) (P.but h0 kk) (qq.trans ⟨rfl,rfl⟩))
 |cons v vs ih=>
  intro rs acc ρ B own s PU hr Lf S y hB hO NG P qq fin;obtain⟨b,hb,Nj⟩:=hr;refine start ?_;rw[compTurn_list];have hI:∃o vs,s.heap.get? I=TR o/\o.data=.fields vs:=let⟨o,vs,_,a,b,_⟩:=y.obj;⟨o,vs,a,b⟩;have ME:I∉D::own:=by rw[Uk];rintro(z|z);exact NG z;exact hO z
  refine wpAny_bind (wpAny_standAt (wpAny_bind (bu.next S.sta y λh' tk val hv y' sb=>?_)));have S1:St c n ρ ((D,.list acc)::M) B (D::own) h':=S.but hB ME hI sb.extBut;have P1:aF B0 own0 s0.heap B own h' (λ_=>False):=P.but h0 sb.extBut;have q1:bl s0 {s with heap:=h',toks:=tk}:=qq.trans ⟨rfl,rfl⟩;dsimp only;refine wpAny_bind (uN (s:={s with heap:=h',toks:=tk}) y' ?_);refine wpAny_bind (assign_Name (wpAny_mono (j7 (E:=λ_ _=>False) (s:={s with heap:=h',toks:=tk}) S1 (by rw[K0];exact hl) ok hv) (λ_ s2 h2=>?_) λ_ _ h=>h.elim));obtain⟨T2,F2,P2,q2⟩:=h2;have S2:=S1.stepS T2 F2 P2;have RD:ag ρ (nc id) v=[(k,v)]:=by
   refine(hk).symm▸?_;rcases PU with rfl|⟨v0,rfl⟩
   ·rfl
   ·exact if_pos rfl
  rw[RD]at S2;have Tj:∀{g g':Ux} {K1 K9:List TX} {B2 B3:PH},aF B2 K1 g B3 K9 g' (λa=>a=c.env.locals)->∀b o,g.get? b=TR o->b∉K1->b≠c.env.locals->∃sl,g'.get? b=TR {o with slots:=sl}:=λp b o e n z=>p.same b o e n z
  have RE:c.env.locals≠I:=by intro z;obtain⟨o,vs,_,a,b,_⟩:=y'.obj;obtain⟨m,⟨o',es,ep,Lo,hd,_⟩,_⟩:=S1.loc;rw[z,a]at Lo;obtain rfl:=TU Lo;rw[b]at hd;cases hd
  have y2:bu B s2.heap I vs:=y'.keep (Le.refl B) λo ho=>P2.same I o ho ME (λz=>RE z.symm)
  have PV:∀{B2:PH} {K9:List TX} {g:Ux},aF B (D::own) s2.heap B2 (D::K9) g (λ_=>False)->aF B0 own0 s0.heap B2 K9 g (λ_=>False):=by
   intro B2 K9 g p;have x1:aF B (D::own) h' B (D::own) s2.heap (λa=>a=c.env.locals):=P2;have x2:=x1.trans (p.weaken λ_ h=>h.elim);have hD:D∉own:=λz=>by have:=S.sta.nd;rw[Uw]at this;exact this.1 z
   refine⟨P1.le.trans x2.le,λa e=>?_,λa e=>?_,λb o e nb _=>?_,λa e=>x2.alive a (P1.alive a e)⟩
   ·rcases x2.newB a e with z|z|z
    ·exact P1.newB a z
    ·cases z with
     |head=>exact .inr (.inr Ni)
     |tail _ z=>exact .inr (P1.newO a z)
    ·exact .inr (.inr (P1.gone z))
   ·have ha:a∈D::K9:=.tail _ e;rcases x2.newO a ha with z|z
    ·cases z with
     |head=>exact .inr Ni
     |tail _ z=>exact P1.newO a z
    ·exact .inr (P1.gone z)
   ·obtain⟨sl,e1⟩:=P1.same b o e nb (λz=>z);have RF:b≠D:=λz=>by rw[z,Ni]at e;exact nn e
    have RG:b≠c.env.locals:=λz=>by rw[z,MD]at e;exact nn e
    have RH:b∉D::own:=by
     rw[Uk];rintro(z|z)
     ·exact RF z
     ·rcases P1.newO b z with z|z
      ·exact nb z
      ·rw[e]at z;exact ns z
    obtain⟨Mn,e2⟩:=x2.same b _ e1 RH RG;exact⟨Mn,e2⟩
  have tests:∀{Q:Bool->aav->Prop},(∀B2 K9 s3,St c n [(k,v)] ((D,.list acc)::M) B2 (D::K9) s3.heap->aF B (D::own) s2.heap B2 (D::K9) s3.heap (λ_=>False)->bl s2 s3->Q b s3)->Uh (Uj pw c.w) c.A (forIn ifs TV λc1 r=>if r=TV then do let ok<-isTrue c1 c.env (eval c1 c.env);pure (Y4 ok)else pure (Y4 r)) Q (λ_ _=>False) s2:=by
   intro Q hQ;induction h3.v with
   |none=>cases hb;exact wpAny_tests_nil (hQ B own s2 S2 .refl (.refl _))
   |some hc=>
    refine wpAny_tests_one (wpAny_mono (hb _ _ _ hc c B (D::own) s2 K0 S2) (λb' s3 h=>?_) λ_ _ h=>h.no);obtain⟨B2,K9,M2,⟨rfl,rfl⟩,T3,P3,q3⟩:=h;have MS:∃OP,K9=D::OP:=by exact T3.mr.list_own
    obtain⟨OP,rfl⟩:=MS;exact hQ B2 OP s3 (S2.step T3 P3) P3 q3
  refine wpAny_bind (tests λB3 LA s3 S3 P3 q3=>?_);have Nh:s2.heap.get? I≠TW:=let⟨o,_,_,a,_⟩:=y2.obj;by rw[a];exactλz=>by exact ns z
  obtain⟨Of,Og⟩:=P3.fresh hB ME Nh;have y3:bu B3 s3.heap I vs:=y2.keep P3.le λo ho=>P3.same I o ho ME (λz=>z)
  have RJ:I∉LA:=λz=>Og (.tail _ z)
  induction b with
  |false=>simp only[UC,if_false]at Nj⊢;refine wpAny_pure ⟨rfl,ih rs acc _ B3 LA s3 (.inr ⟨v,rfl⟩) Nj Lf S3 y3 Of RJ NG (PV P3) (q1.trans (q2.trans q3)) fin⟩
  |true=>
   simp only[if_true]at Nj⊢;obtain⟨r,t,hf,hc,rfl⟩:=Nj;refine wpAny_bind (wpAny_bind (wpAny_mono (hf _ _ _ h1 c B3 (D::LA) s3 K0 S3) (λrv s4 h4=>?_) λ_ _ h=>h.no));obtain⟨B4,RK,M4,⟨r',RL,rfl,rfl⟩,T4,P4,q4⟩:=h4;have S4:=S3.step T4 P4;have app:=uC (n:=n) (a:=D) (xs:=acc) (x:=r') (M:=(D,.list acc)::M) (Q:=λrr MM=>rr=.none/\MM=(D,.list (acc++[r']))::M) (by exact if_pos rfl) (by simp only[aau]at Lf;exact ab [_,_] X0 (Ar.n 16777216) (X0.a ay) (Ar.n 16777216) Lf rfl) ⟨rfl,by exact if_pos rfl⟩;refine wpAny_bind (wpAny_mono (app c _ B4 RK s4 [.ref D,rv] (λ_ _=>False) S4 (.cons (.ref D) (.cons RL .nil))) (λrr s5 h5=>?_) λ_ _ h=>h.elim);obtain⟨B5,RM,M5,⟨_,_,rfl,rfl⟩,T5,P5,q5⟩:=h5;have S5:=S4.step T5 P5;have Oi:=(P3.trans P4).trans P5;have MS:∃OQ,RM=D::OQ:=by exact T5.mr.list_own
   obtain⟨OQ,rfl⟩:=MS;have RN:s2.heap.get? I≠TW:=Nh;obtain⟨RO,RP⟩:=Oi.fresh hB ME RN;have y5:bu B5 s5.heap I vs:=y2.keep Oi.le λo ho=>Oi.same I o ho ME (λz=>z)
   refine wpAny_pure (wpAny_pure ⟨rfl,ih t (acc++[r']) _ B5 OQ s5 (.inr ⟨v,rfl⟩) hc (by simp only[Ui,aau,Uc]at Lf⊢;exact ab [_,_] ((X0.a (N0.a N1)).a X1) (Ar.n 16777216) (X0.a ay) (Ar.n 16777216) Lf rfl) S5 y5 RO (λz=>RP (.tail _ z)) NG (PV Oi) (q1.trans (q2.trans ((q3.trans q4).trans q5))) ?_⟩);intro B' K2 s' ρ' S' P' q';exact fin B' K2 s' ρ' (by rw[Uu]at S';exact S') P' q'
end
section
variable[HasP]
theorem Dd(x:bu B h I items)(h1:∀o,h.get? I=TR o->o.cls≠.type "range_iterator"):∀x l st,¬gL h I x l st:=by rintro x l st ⟨o,e,c,_⟩;exact h1 o e c
theorem De(Ny:∀y∈K5.names,y.2=.local\/y.2=.globalImplicit)(hn:oq K5=TV):(∀x∈K5.names,x.2≠.free)/\(∀x∈K5.names,x.2≠.cell)/\∀x∈K5.names,x.2=.local->K5.names.lookup x.1=TR .local:=by
 refine⟨λx hx q=>?_,λx hx q=>?_,λx hx q=>?_⟩
 ·rcases Ny x hx with e|e<;>rw[e]at q<;>cases q
 ·rcases Ny x hx with e|e<;>rw[e]at q<;>cases q
 ·have:=List.all_eq_true.mp hn x hx;rw[q]at this;dsimp only at this;exact of_decide_eq_true this
theorem Df{cond:Option X}{id:U6}(hn:0<n)(hk:nc id=k)(hl:K5.names.lookup id=TR .local)(ok:aG id=TV)(LB:K5.kind=.function)(OR:∀x∈K5.names,x.2≠.cell)(h1:T gt K5 e x)(h3:Tc gt K5 ifs cond)(hr:gP n k x cond items rs)(hz:rs.length<=Ub)(hQ:Q (.lst rs) M){B0:PH}(S:St c n ρ M B own s.heap)(y:bu B s.heap I items)(RQ:∀x l st,¬gL s.heap I x l st)(hB:B I=Ue)(hO:I∉own)(h0:s0.heap.get? I=TW)(P:aF B0 own0 s0.heap B own s.heap λ_=>False)(qq:bl s0 s):Uh (Uj pw c.w) c.A (newList []) (λacc LK=>
  Uh (Uj pw c.w) c.A (newFunctionEnv K5 c.env.globals [] [] c.env.qual TW .none (TR c.env)) (λMu Oj=>
   Vc (Uj pw c.w) c.A (.compStart (.ListComp e [⟨.Name id q,it,ifs,0⟩] K5 pos) 0 (.ref I) acc {Mu with scope:=K5}) (λr s'=>∃m,s'.heap.Ns Mu.locals m/\∀h',Vg Mu.locals s'.heap h'->match r with| .ok _=>aC B0 own0 s0 Q acc {s' with heap:=h'}| .error x=>Uh (Uj pw c.w) c.A (passOn "comprehension.variables-let-go" x {Mu with scope:=K5}) (aC B0 own0 s0 Q) E {s' with heap:=h'}) Oj) E LK) E s:=by
 simp only[newList];refine wpAny_newObj_type ?_;have RS:I≠s.heap.objs.size:=by
  rintro rfl;refine bO y.obj λo _ _ KY=>?_
  have a:=KY.1;rw[cv]at a;exact nn a
 have Tk:dz s.heap.objs.size M:=S.sta.new;have KZ:=S.sta.pushM (o:={cls:=.type "list",data:=.seq ([]:List TZ).toArray}) (x:=.list []) λR=>.list (n:=0) (Ul _ rfl) .nil R
 have T1:=KZ.1;have S1:=S.step T1 KZ.2;refine wpAny_newFunctionEnv OR (λx hx=>(nomatch hx)) (λh' Lj OS=>?_) LB;generalize hD:s.heap.objs.size=D at*;generalize hg:s.heap.push {cls:=.type "list",data:=.seq ([]:List TZ).toArray}=g at*;show Vc _ _ (.compStart _ 0 (.ref I) (.ref D) (compEnv K5 g.objs.size c.env)) _ {s with heap:=h',toks:=s.toks+0};have kh:∀b o,g.get? b=TR o->h'.get? b=TR o:=λb o e=>(OS.2 b (U7 (UB e))).trans (Ua _ e)
 have KZ:=S1.grown kh;have S2:=KZ.1;have KZ:=T1.fresh (cv g)
 let c':Cx:={c with env:=compEnv K5 g.objs.size c.env}
 have S3:St c' n [] ((D,.list [])::M) B (D::own) h':=⟨S2.par,S2.gr,S2.glob,S2.blt,rfl,LB,S2.frames,S2.hand,S2.guards,S2.room,S2.units,S2.fun_,S2.base,⟨_,Lj,λx v Lx hx=>by simp[cC,gw]at hx⟩,KZ.1,KZ.2,S2.frB,S2.sta⟩;have kI:∀o,s.heap.get? I=TR o->h'.get? I=TR o:=λo e=>kh I o (by rw[<-hg];exact Ua _ e)
 have y':bu B h' I items:=y.keep (Le.refl B) λo ho=>⟨o.slots,kI o ho⟩
 have RT:s.heap.get? I≠TW:=by obtain⟨o,_,_,a,_⟩:=y.obj;rw[a];exactλz=>by exact ns z
 have Nh:∀x l st,¬gL h' I x l st:=by
  rintro x l st ⟨o,e,cc⟩;cases e':s.heap.get? I with
  |none=>exact RT e'
  |some o'=>rw[kI o' e']at e;obtain rfl:=TU e;exact RQ x l st ⟨_,e',cc⟩
 have MD:s0.heap.get? g.objs.size=TW:=by
  have:=cv g;have:s.heap.get? g.objs.size=TW:=by
   cases e:s.heap.get? g.objs.size with
   |none=>rfl
   |some o=>rw[<-hg]at this e;rw[Ua _ e]at this;exact ns this
  exact P.gone this
 have Ni:s0.heap.get? D=TW:=P.gone (by rw[<-hD];exact cv _);have PB:aF B0 own0 s0.heap B own h' λ_=>False:=by
  have x:aF B own s.heap B own h' λ_=>False:=⟨Le.refl B,λ_ e=>.inl e,λ_ e=>.inl e,λb o e _ _=>⟨o.slots,kh b o (by rw[<-hg];exact Ua _ e)⟩,λb e=>ke (λb o e=>kh b o (by rw[<-hg];exact Ua _ e)) e⟩
  exact P.trans x
 have loop:=Dc (pos:=pos) (it:=it) (e:=e) (q:=q) (M:=M) (D:=D) (I:=I) (s0:=s0) (B0:=B0) (own0:=own0) hn hk hl ok h1 h3 (c:=c') rfl h0 MD Ni (R:=λr s'=>∃m,s'.heap.Ns g.objs.size m/\∀h',Vg g.objs.size s'.heap h'->match r with| .ok _=>aC B0 own0 s0 Q (.ref D) {s' with heap:=h'}| .error x=>Uh (Uj pw c.w) c.A (passOn "comprehension.variables-let-go" x (compEnv K5 g.objs.size c.env)) (aC B0 own0 s0 Q) E {s' with heap:=h'}) items rs [] [] B own {s with heap:=h',toks:=s.toks+0} (.inl rfl) hr (by simpa using hz) S3 y' hB hO RS PB (qq.trans ⟨rfl,rfl⟩) (λB' K2 s' ρ' S' P' q'=>by
   obtain⟨m,hm,_⟩:=S'.loc;refine⟨m,hm,λMA sb=>?_⟩;have T':=S'.sta.but S'.locB S'.locO sb.extBut;refine aX T'.freeze λvs nn KY=>?_
   have nD:D∉K2:=by have:=T'.nd;rw[Uw]at this;exact this.1
   have PL:aF B0 own0 s0.heap B' K2 MA λ_=>False:=P'.but MD sb.extBut
   refine⟨_,K2,M,⟨_,KY.2.2.1,by rw[VV];exact hQ⟩,KY.2.1,?_,q'⟩;refine⟨PL.le.trans KY.2.2.2.1,λa e=>?_,PL.newO,PL.same,PL.alive⟩;unfold aZ at e;split at e
   ·rename_i z;exact .inr (.inr (by rw[z];exact Ni))
   ·exact PL.newB a e)
 refine codeAny_compStart_list loop ?_;exact bu.self (s:={s with heap:=h',toks:=s.toks+0}) y' Nh loop
set_option tactic.hygienic true in
theorem Dg{cond:Option X}(hn:0<n)(h:Ev n ρ M it (λr M1=>∃items rs,kl r=TR items/\gP n k x cond items rs/\rs.length<=Ub/\Q (.lst rs) M1) E):Ev n ρ M (.comp x k it cond) Q E:=by
 intro sc e hT c B own s K0 S;induction hT with
 |comp hl ok hk RU Pz Ny h1 h2 h3=>
  rename_i e id q ite ifs K5 p;have KZ:=De Ny RU;have n2:=KZ.2.1;refine wpAny_ListComp KZ.1 hk KZ.2.2 (wpAny_mono (h _ _ h2 c B own s K0 S) (λv s1 hv=>?_) λ_ _ h=>h) (λ_=>uO Pz);obtain⟨B1,K1,M1,⟨r,hr,items,rs,hi,RW,hz,hq⟩,T1,P1,q1⟩:=hv;have S1:=S.step T1 P1;have fin:∀(o:Vi),o.cls≠.type "range_iterator"->o.isFreed=TT->bu B1 (s1.heap.push o) s1.heap.objs.size items->Uh (Uj pw c.w) c.A (newList []) (λacc LK=>
   Uh (Uj pw c.w) c.A (newFunctionEnv K5 c.env.globals [] [] c.env.qual TW .none (TR c.env)) (λMu Oj=>
    Vc (Uj pw c.w) c.A (.compStart (.ListComp e [⟨.Name id q,ite,ifs,0⟩] K5 p) 0 (.ref s1.heap.objs.size) acc {Mu with scope:=K5}) (λr s'=>∃m,s'.heap.Ns Mu.locals m/\∀h',Vg Mu.locals s'.heap h'->match r with| .ok _=>aC B own s Q acc {s' with heap:=h'}| .error x=>Uh (Uj pw c.w) c.A (passOn "comprehension.variables-let-go" x {Mu with scope:=K5}) (aC B own s Q) (bg B own s E) {s' with heap:=h'}) Oj) (bg B own s E) LK) (bg B own s E) {s1 with heap:=s1.heap.push o}:=by
   intro o hc LC y;have KZ:=S1.grown (h':=s1.heap.push o) λb o' e=>Ua _ e
   have S2:=KZ.1;have P2:=KZ.2;have KZ:=T1.fresh (cv s1.heap);exact Df (s:={s1 with heap:=s1.heap.push o}) hn rfl hl ok hk n2 h1 h3 RW hz hq S2 y (Dd y λo' e=>by rw[Ul _ LC]at e;obtain rfl:=TU e;exact hc) KZ.1 KZ.2 (P1.gone (cv _)) (P1.trans P2) (q1.trans ⟨rfl,rfl⟩)
  cases r with
  |tup ys=>
   obtain rfl:=TU hi;induction hr with|tup e' hc hd hr=>
   exact wpAny_pyIter_tuple ⟨_,T1.keep _ _ e',hc,_,hd⟩ (fin _ (by intro z;simp at z) rfl (.tup e' hc hd ⟨_,Ul _ rfl,rfl,rfl⟩ (by simpa using hr)))
  |lst ys=>
   obtain rfl:=TU hi;induction hr with|lst e' hr=>
   exact wpAny_pyIter_list ⟨_,T1.keep _ _ e',rfl,_,rfl⟩ (fin _ (by intro z;simp at z) rfl (.list e' ⟨_,Ul _ rfl,rfl,rfl⟩ (by simpa using hr)))
  |str l=>
   obtain rfl:=TU hi;induction hr with|str x t=>
   cases ha:x.cps.all (· <128)with
   |true=>exact wpAny_pyIter_ascii ha (fin _ (by intro z;simp at z) rfl (.strA ⟨_,Ul _ rfl,rfl,rfl⟩ (by rfl)))
   |false=>exact wpAny_pyIter_wide ha (fin _ (by intro z;simp at z) rfl (.strW ⟨_,Ul _ rfl,rfl,rfl⟩ (by rfl)))
  |_=>exact nn hi
end
section
variable[HasP]
noncomputable def uY:List TX:=[71,134,155,176,197,218,239,260,281,302,323,582,771,877,1018,1039,1124,1230]
noncomputable def uZ(P:Ur)(C:TX):Bool:=makesIn (KW P) C&&(match b0 C 203 with
 |some f=>decide (Vj (KW P) (.ref C) "__init__"=TR (TR (.ref f)))&&decide (Y9 (KW P) (.ref f)=TR (.type "function"))
 |none=>TT)
set_option maxRecDepth 100000 in
theorem Dh(P:Ur):uY.all (uZ P)=TV:=by kernel_rfl
noncomputable def ma(C:TX):Bool:=uY.any λD=>UN D C
structure Di(K:Frag)(C f:TX):Prop where
 made:makesIn K C=TV
 ini:Vj K (.ref C) "__init__"=TR (TR (.ref f))
 fn:Y9 K (.ref f)=TR (.type "function")
theorem Dj(h:ma C=TV)(hf:b0 C 203=TR f):Di (KW P) C f:=by
 obtain⟨D,hD,e⟩:=List.any_eq_true.mp h;have e:=Ut e;subst e;have z:=List.all_eq_true.mp (Dh P) D hD;unfold uZ at z;rw[hf,Uq,Uq]at z;obtain⟨z1,z2,z3⟩:=z;refine⟨z1,?_,?_⟩
 ·exact of_decide_eq_true z2
 ·exact of_decide_eq_true z3
def pG(C:TX)(a:TX)(M:aa)(Q:PQ):Prop:=Q (.ref a) M\/∃fs M',M=(a,.inst C fs)::M'/\(Q (.obj C fs) M'\/Q (.ido a C fs) M')
theorem MR.inst_out{B:PH}{h:Ux}{M:aa}{own:List TX}{a c:TX}{fs:List (Nat×V)}(R:MR B h ((a,.inst c fs)::M) own):∃d o od es n K2,own=a::d::K2/\h.get? a=TR o/\o.cls=.ref c/\o.data=.plain/\o.dict=TR d/\h.get? d=TR od/\ od.data=.dict es n/\aQ B es.toList fs/\MR B h M K2:=by
 induction R with
 |mk x r=>induction x with|mk e hc hp Lk e2 Ml La hf=>exact⟨_,_,_,_,_,_,rfl,e,hc,hp,Lk,e2,La,hf,r⟩
theorem aA.freezeI{B:PH}{M:aa}{own:List TX}{h:Ux}{a C:TX}{fs:List (Nat×V)}(T:aA B ((a,.inst C fs)::M) own h):∃B' K2,aA B' M K2 h/\(VR B' (.ref a) (.obj C fs)/\VR B' (.ref a) (.ido a C fs))/\aF B own h B' K2 h λ_=>False:=by
 obtain⟨keep,mr,nd,dis,big⟩:=T;refine yA (MR.inst_out mr) λd o od es n K2 KY=>?_
 have q:=KY.1;have e:=KY.2.1;have hc:=KY.2.2.1;have hp:=KY.2.2.2.1;have Lk:=KY.2.2.2.2.1;have La:=KY.2.2.2.2.2.2.1;have hf:=KY.2.2.2.2.2.2.2.1;cases q
 ·rw[Uw,Uw]at nd;have dd:B d=Ue:=dis d (.tail _ (.head _));have da:B a=Ue:=dis a (.head _);have ne:a≠d:=λz=>nd.1 (by rw[z];exact .head _)
  have OT:Le B (aZ B d od):=eZ dd;have RX:aZ B d od a=Ue:=by unfold aZ;rw[if_neg ne];exact da
  have NH:Le (aZ B d od) (aZ (aZ B d od) a o):=eZ RX;have le:=OT.trans NH;have ed:aZ (aZ B d od) a o d=TR od:=NH d od eE;refine⟨aZ (aZ B d od) a o,K2,⟨λx ox q=>?_,KY.2.2.2.2.2.2.2.2.keeps le λ_ _ _ e=>e,nd.2.2,λx hx=>?_,?_,λx hx=>big.2 x (.tail _ (.tail _ hx))⟩,⟨.obj eE hc hp Lk ed La (hf.mono le),.ido eE hc hp Lk ed La (hf.mono le)⟩,le,λx q=>?_,λx q=>.inl (.tail _ (.tail _ q)),λb o e _ _=>⟨o.slots,e⟩,λ_ q=>q⟩
  ·unfold aZ at q;split at q
   ·rename_i z;subst z;obtain rfl:=TU q;exact e
   ·split at q
    ·rename_i z;subst z;obtain rfl:=TU q;exact KY.2.2.2.2.2.1
    ·exact keep x ox q
  ·unfold aZ;rw[if_neg (λ(z:x=a)=>nd.1 (by rw[<-z];exact .tail _ hx)),if_neg (λ(z:x=d)=>nd.2.1 (by rw[<-z];exact hx))];exact dis x (.tail _ (.tail _ hx))
  ·cases e3:B 3 with
   |none=>exact absurd e3 big.1
   |some o'=>rw[le _ _ e3];exactλq=>by exact ns q
  ·unfold aZ at q;split at q
   ·rename_i z;exact .inr (.inl (by rw[z];exact .head _))
   ·split at q
    ·rename_i z;exact .inr (.inl (by rw[z];exact .tail _ (.head _)))
    ·exact .inl q
theorem Dk(A:UT)(C:TX)(vs:List TZ){fr:List Yj}(hf:A.frames=TR fr)(hg:A.guards=TR []):(A.under (.builtin "type.__call__" ⟨.ref C::vs,[]⟩)).depth=A.depth+1/\(A.under (.builtin "type.__call__" ⟨.ref C::vs,[]⟩)).units=A.units+1/\ (A.under (.builtin "type.__call__" ⟨.ref C::vs,[]⟩)).frames=TR fr/\(A.under (.builtin "type.__call__" ⟨.ref C::vs,[]⟩)).guards=TR []/\(A.under (.builtin "type.__call__" ⟨.ref C::vs,[]⟩)).handled=A.handled:=by
 refine⟨rfl,rfl,?_,?_,rfl⟩
 ·show pushEnvs [] A.frames=_;rw[hf];rfl
 ·show pushGuards [] A.guards=_;rw[hg];rfl
theorem Dl(hC:ma C=TV)(hf:b0 C 203=TR f)(h:∀a,53<a->dz a M->dL n (.ref f) (.ref a::args) ((a,.inst C [])::M) (λr M1=>r=.none/\pG C a M1 Q) E):dL (n+1) (.ref C) args M Q E:=by
 intro w A base fr B own s fv vs S LU K8;induction LU;have X:=S.kin;have MF:=Dj (P:=w.params) hC hf;have nn:dz (s.heap.objs.size+1) M:=by
  intro p hp;have KZ:=S.sta.mr.ids p hp;have e:s.heap.get? (s.heap.objs.size+1)=Ue:=by
   cases q:s.heap.get? (s.heap.objs.size+1)with
   |none=>rfl
   |some o=>exact absurd (W5 (UB q)) (VX _)
  have f:=S.sta.fresh e;exact⟨λ(q:p.1=s.heap.objs.size+1)=>f.2 (by rw[<-q];exact KZ.1),λq=>KZ.2 _ q f.1⟩
 have KZ:=Dk A C vs S.frames S.guards;obtain⟨hh,g,d,t,os⟩:=s;have T:=S.sta;have S':=S;refine make_core (makes_of X MF.made) (looks_findIn X MF.ini) (λself=>bind_fn X self MF.fn) (.inl rfl) ?_;have k:∀b o,hh.get? b=TR o->((hh.push emptyDict).push (instObj C hh.objs.size)).get? b=TR o:=λb o e=>Ua _ (Ua _ e)
 have hx:((hh.push emptyDict).push (instObj C hh.objs.size)).get? (hh.objs.size+1)=TR (instObj C hh.objs.size):=by heap_get
 have hd:((hh.push emptyDict).push (instObj C hh.objs.size)).get? hh.objs.size=TR emptyDict:=Ua _ (Ul _ rfl);have e1:hh.get? (hh.objs.size+1)=Ue:=by
  cases q:hh.get? (hh.objs.size+1)with
  |none=>rfl
  |some o=>exact absurd (W5 (UB q)) (VX _)
 have fx:=T.fresh e1;have fd:=T.fresh (cv hh);have PW:3<hh.objs.size:=by
  cases e:B 3 with
  |none=>exact absurd e T.big.1
  |some o=>exact UB (T.keep _ _ e)
 have T1:aA B ((hh.objs.size+1,.inst C [])::M) ((hh.objs.size+1)::hh.objs.size::own) ((hh.push emptyDict).push (instObj C hh.objs.size)):=by
  refine⟨λa o e=>k a o (T.keep a o e),.inst hx rfl rfl rfl hd rfl rfl .nil (T.mr.keeps (Le.refl B) λa _ o e=>k a o e),?_,λa ha=>?_,T.big.1,λa ha=>?_⟩
  ·rw[Uw,Uw,Uk];refine⟨?_,fd.2,T.nd⟩;rintro(z|z)
   ·exact absurd z (Nat.succ_ne_self _)
   ·exact fx.2 z
  ·cases ha with
   |head=>exact fx.1
   |tail _ ha=>cases ha with
    |head=>exact fd.1
    |tail _ ha=>exact T.dis a ha
  ·cases ha with
   |head=>exact Wx PW
   |tail _ ha=>cases ha with
    |head=>exact PW
    |tail _ ha=>exact T.big.2 a ha
 have P1:aF B own hh B ((hh.objs.size+1)::hh.objs.size::own) ((hh.push emptyDict).push (instObj C hh.objs.size)) λ_=>False:=by
  refine⟨Le.refl B,λa e=>.inl e,λa e=>?_,λb o e _ _=>⟨o.slots,k b o e⟩,λb e=>ke k e⟩;cases e with
  |head=>exact .inr e1
  |tail _ e=>cases e with
   |head=>exact .inr (cv hh)
   |tail _ e=>exact .inl e
 have RY:53<hh.objs.size:=by have e:=S.base 53 _ (S.gr.inn 53 _ (show(KW w.params).lookup 53=TR (rS w.params) by kernel_rfl));exact UB (T.keep _ _ e)
 have H:=h _ (Wx RY) nn w (A.under (.builtin "type.__call__" ⟨.ref C::vs,[]⟩)) base fr B ((hh.objs.size+1)::hh.objs.size::own) ⟨(hh.push emptyDict).push (instObj C hh.objs.size),g,d,t,os⟩ (.ref f) (.ref (hh.objs.size+1)::vs) ?_ (.ref f) (.cons (.ref _) K8)
 ·refine codeAny_mono H λr s' z=>?_
  induction r with
  |error e=>exact bg.step (s:=⟨hh,g,d,t,os⟩) (s1:=⟨(hh.push emptyDict).push (instObj C hh.objs.size),g,d,t,os⟩) P1 ⟨rfl,rfl⟩ z
  |ok f=>
   induction f with
   |ret v=>
    obtain⟨B2,K9,M2,⟨r,hr,rfl,hm⟩,T2,P2,q2⟩:=z;induction hr;refine⟨rfl,?_⟩;rcases hm with q|⟨fs,M',rfl,q|q⟩
    ·exact⟨B2,K9,M2,⟨_,.ref _,q⟩,T2,P1.trans P2,q2⟩
    ·obtain⟨B3,LA,T3,⟨v1,v2⟩,P3⟩:=T2.freezeI;exact⟨B3,LA,M',⟨_,v1,q⟩,T3,(P1.trans P2).trans P3,q2⟩
    ·obtain⟨B3,LA,T3,⟨v1,v2⟩,P3⟩:=T2.freezeI;exact⟨B3,LA,M',⟨_,v2,q⟩,T3,(P1.trans P2).trans P3,q2⟩
   |_=>exact z.elim
 ·refine⟨S.par,S.gr,KZ.2.2.1,λq=>by rw[KZ.2.2.2.2];exact S.hand (by exact TY _),KZ.2.2.2.1,?_,?_,?_,S.base,λe he L hL=>?_,T1⟩
  ·rw[KZ.1];have:=S.room;exact ab [_,_] ((ad.a X1).a N1) (Ar.n 1000) ((X0.a ay).a N1) (Ar.n 1000) this rfl
  ·rw[KZ.2.1];have:=S.units;exact ab [_,_] (((ad.a (Ar.m 8 X1)).a N4).a N1) (Ar.n 9900) (((X0.a (Ar.m 8 ay)).a N4).a N1) (Ar.n 9900) this rfl
  ·exact S.fun_.of_keeps λb o e _=>⟨o,k b o e,rfl⟩
  ·obtain⟨z1,z2⟩:=S.frB e he L hL;refine⟨z1,λz=>?_⟩;obtain⟨_,o,ho,_⟩:=S.fun_.mem (List.mem_filterMap.mpr ⟨e,he,hL⟩);cases z with
   |head=>rw[e1]at ho;cases ho
   |tail _ z=>cases z with
    |head=>rw[cv]at ho;cases ho
    |tail _ z=>exact z2 z
end
section
variable[HasP]
noncomputable def dU{α:Type}:List (Nat×α)->Nat->List (Nat×α)
 | [],_=>[]
 |p::r,k=>if p.1=k then r else p::dU r k
set_option tactic.hygienic true in
theorem MR.freeze0{B:PH}{h:Ux}{M:aa}{a:TX}{o:be}(hm:aak M a=TR o):∀{own:List TX},own.Nodup->MR B h M own->∃l K2,OB B h a o l/\MR B h (dU M a) K2/\(∀x∈K2,x∈own/\x∉l)/\K2.Nodup/\∀x∈l,x∈own:=by
 induction M with
 |nil=>exact nn hm
 |cons p M ih=>
  intro own nd R;induction R with
  |mk x r=>
   rename_i l own;have KZ:=List.nodup_append.mp nd;have n2:=KZ.2.1;have dj:=KZ.2.2;rw[cC]at hm;refine(show dU (p::M) a=if p.1=a then M else p::dU M a from rfl).symm▸?_;by_cases q:p.1=a
   ·rw[if_pos q]at hm⊢;obtain rfl:=TU hm;rw[q]at x;exact⟨l,own,x,r,λy hy=>⟨UU _ hy,λz=>dj y z y hy rfl⟩,n2,λ_=>Va _⟩
   ·rw[if_neg q]at hm⊢;refine aX (ih hm n2 r) λl' K2 KY=>?_
    have a3:=KY.2.2.1;have a5:=KY.2.2.2.2;exact⟨l',l++K2,KY.1,.mk x KY.2.1,λy hy=>(List.mem_append.mp hy).elim (λz=>⟨Va _ z,λu=>dj y z y (a5 y u) rfl⟩) (λz=>⟨UU _ (a3 y z).1,(a3 y z).2⟩),List.nodup_append.mpr ⟨KZ.1,KY.2.2.2.1,λy hy z hz=>dj y hy z (a3 z hz).1⟩,λy hy=>UU _ (a5 y hy)⟩
theorem MR.freeze{B:PH}{h:Ux}{M:aa}{own:List TX}(R:MR B h M own)(nd:own.Nodup){a:TX}{xs:List V}(hm:aak M a=TR (.list xs)):∃vs n K2,h.get? a=TR (bk vs n)/\aq B vs.toList xs/\MR B h (dU M a) K2/\(∀x∈K2,x∈own/\x≠a)/\K2.Nodup/\a∈own:=by
 refine aX (MR.freeze0 hm nd R) λl K2 KY=>?_
 have k:=KY.2.2.1;induction KY.1 with
 |mk e hv=>exact⟨_,_,K2,e,hv,KY.2.1,λy hy=>⟨(k y hy).1,λz=>(k y hy).2 (List.mem_singleton.mpr z)⟩,KY.2.2.2.1,KY.2.2.2.2 a (.head _)⟩
theorem aA.freezeL{B:PH}{M:aa}{own:List TX}{h:Ux}{a:TX}{xs:List V}(T:aA B M own h)(hm:aak M a=TR (.list xs)):∃B' K2,aA B' (dU M a) K2 h/\VR B' (.ref a) (.lst xs)/\aF B own h B' K2 h (λ_=>False)/\∀x∈K2,x∈own:=by
 refine bO (T.mr.freeze T.nd hm) λvs n K2 KY=>?_
 have e:=KY.1;have ho:=KY.2.2.2.1;have ha:=KY.2.2.2.2.2;have le:=eZ (o:=bk vs n) (T.dis a ha);refine⟨aZ B a (bk vs n),K2,⟨λx o q=>?_,KY.2.2.1.keeps le λ_ _ _ e=>e,KY.2.2.2.2.1,λx hx=>?_,?_,λx hx=>T.big.2 x (ho x hx).1⟩,.lst eE (KY.2.1.mono le),⟨le,λx q=>?_,λx q=>.inl (ho x q).1,λb o e _ _=>⟨o.slots,e⟩,λ_ q=>q⟩,λx hx=>(ho x hx).1⟩
 ·unfold aZ at q;split at q
  ·rename_i z;subst z;obtain rfl:=TU q;exact e
  ·exact T.keep x o q
 ·unfold aZ;refine(if_neg (ho x hx).2).symm▸?_;exact T.dis x (ho x hx).1
 ·cases e3:B 3 with
  |none=>exact absurd e3 T.big.1
  |some o=>rw[le _ _ e3];exactλq=>by exact ns q
 ·unfold aZ at q;split at q
  ·rename_i z;exact .inr (.inl (by rw[z];exact ha))
  ·exact .inl q
theorem Sc.ghost{w:U4}{A:UT}{base:Ux}{fr:List Yj}{n:Nat}{M M':aa}{B B':PH}{own K2:List TX}{h:Ux}(S:Sc w A base fr n M B own h)(T:aA B' M' K2 h)(P:aF B own h B' K2 h λ_=>False):Sc w A base fr n M' B' K2 h:=by
 refine⟨S.par,S.gr,S.frames,S.hand,S.guards,S.room,S.units,S.fun_,λa o e=>P.le _ _ (S.base a o e),λe he L hL=>?_,T⟩;have KZ:=S.frB e he L hL;have z1:=KZ.1;have z2:=KZ.2;have KZ:=S.fun_.mem (List.mem_filterMap.mpr ⟨e,he,hL⟩);refine aj KZ.2 λo KY=>?_
 exact P.fresh z1 z2 (by rw[KY.1];exactλq=>by exact ns q)
theorem Dm{n:Nat}{f:V}{l:TX}{xs:List V}{M:aa}{Q:PQ}{E:PE}(hm:aak M l=TR (.list xs))(h:dL n f [.lst xs] (dU M l) Q E):dL n f [.ref l] M Q E:=by
 intro w A base fr B own s fv vs S hf K8;refine aj K8.one λv KY=>?_
 have K6:=KY.1;subst K6;induction KY.2;refine aX (S.sta.freezeL hm) λB' K2 KY=>?_
 have P:=KY.2.2.1;refine codeAny_mono (h w A base fr B' K2 s fv [.ref l] (S.ghost KY.1 P) (hf.mono P.le) (.cons KY.2.1 .nil)) λr s' z=>?_
 induction r with
 |error e=>exact bg.step (s1:=s) P (.refl _) z
 |ok f=>
  induction f with
  |ret v=>exact aT.step (s1:=s) P (.refl _) z
  |_=>exact z
noncomputable def u0:List (TX×TX):=[(302,299),(367,364)]
noncomputable def u7(v:TZ):Option CFound->Bool
 |some (.val w)=>decide (w=v)
 |_=>TT
theorem u8{v:TZ}{o:Option CFound}(h:u7 v o=TV):o=TR (.val v):=by
 induction o with
 |none=>exact bf h
 |some c=>
  induction c with
  |val w=>rw[of_decide_eq_true (show decide (w=v)=TV from h)]
  |_=>exact bf h
noncomputable def u9{α:Type}(f:α->Bool):Option α->Bool
 |some a=>f a
 |none=>TT
theorem vc{α:Type}{f:α->Bool}{o:Option α}(h:u9 f o=TV):∃a,o=TR a/\f a=TV:=by
 induction o with
 |none=>exact bf h
 |some a=>exact⟨a,rfl,h⟩
noncomputable def pH(P:Ur)(p:TX×TX):Bool:=decide (XT (KW P) (.ref p.1) "__getattribute__"=TR (TR (.builtin "type.__getattribute__")))&&u9 (λmc=>readsIn (KW P) p.1 mc&&u7 (.ref p.2) (findCls (KW P) (.ref p.1) mc "__init__")) (Y9 (KW P) (.ref p.1))
set_option maxRecDepth 100000 in
theorem ve(P:Ur):u0.all (pH P)=TV:=by kernel_rfl
noncomputable def pJ(C:TX):Option TX:=(u0.find? λp=>UN p.1 C).map (·.2)
set_option tactic.hygienic true in
theorem Dn{n:Nat}{ρ:af}{M:aa}{C f:TX}{xs:List X}{Q:PQ}{E:PE}(hc:pJ C=TR f)(RZ:ib f=TV)(h:dK n ρ M xs (λvs M1=>dL n (.ref f) vs M1 Q E) E):Ev n ρ M (.meth (.cst (.ref C)) 203 xs) Q E:=by
 intro sc e hT c B own s K0 S;generalize hk:(203:Nat)=kk at hT;induction hT with
 |meth ok hp hlen LM NI hs=>
  rename_i oe ae ap as p;have R0:=lZ ok hk.symm (x:="__init__") (by kernel_rfl) (by kernel_rfl);subst R0;show Uh _ _ (do
   let ov<-attributeBase oe (so "__init__") c.env (eval oe c.env)
   standAt ap.atName
   methodCall oe (so "__init__") ap p c.env ov (as.length+0) (VP p (U1 as c.env)) []) _ _ _
  refine(iZ hp).symm▸?_;refine aT.bind S (fR (E:=E) (Q:=λr M1=>r=.ref C/\M1=M) ⟨rfl,rfl⟩ _ _ NI c B own s K0 S) λv s1 B1 K1 M1 ⟨ro,hv,hr,hM⟩ S1 l1=>?_
  subst hr hM;induction hv;refine wpAny_bind (wpAny_standAt ?_);have few:Vy (as.length+0) (VP p (U1 as c.env)) []=TV:=by unfold Vy;refine((hs.plain c.env p).2).symm▸?_;simp[hlen]
  unfold methodCall;refine(few).symm▸?_;refine aj (Option.map_eq_some_iff.mp hc) λpr KY=>?_
  have PX:=KY.1;have hC:=Ut (Xx (p:=λp:TX×TX=>UN p.1 C) PX);have z:=List.all_eq_true.mp (ve c.w.params) pr (V8 PX);unfold pH at z;rw[hC,KY.2,Uq]at z;refine wpAny_bind (wpAny_holding ?_);show Uh _ _ (getMethod (.ref C) (so "__init__") _) _ _ _;have hg:XT (KW c.w.params) (.ref C) "__getattribute__"=TR (TR (.builtin "type.__getattribute__")):=by exact of_decide_eq_true z.1
  refine aj (vc z.2) λmc KY=>?_
  have z2:=KY.2
  ·rw[Uq]at z2;have KZ:=z2;have hf:findCls (KW c.w.params) (.ref C) mc "__init__"=TR (.val (.ref f)):=by exact u8 KZ.2
   refine method_cls S1.kin hg (cls_value S1.kin KZ.1 hf rfl ?_);dsimp only;have LZ:Vq TV oe c.env ap p=pure p:=by unfold Vq;refine(LM).symm▸?_;rfl
   refine(LZ).symm▸?_;refine wpAny_bind (wpAny_pure ?_);have PY:St c n ρ M1 B1 K1 ({s1 with toks:=s1.toks+1}:aav).heap:=S1;refine j6 (P:=(KW c.w.params).In) hs (lR RZ) (wpAny_mono (h _ _ hs c B1 K1 {s1 with toks:=s1.toks+1} _ K0 PY) (λvs s2 h2=>?_) λ_ _ h=>bg.step (s1:={s1 with toks:=s1.toks+1}) .refl ⟨rfl,rfl⟩ h);obtain⟨B2,K9,M2,⟨rs,r2,k⟩,T2,P2,q2⟩:=h2;have S2:=PY.step T2 P2;exact⟨S2.kin,wpAny_mono (wpAny_call (k c.w c.A c.base c.fr B2 K9 s2 _ _ (S2.sc (UE _)) (.ref f) r2)) (λv s3 h3=>h3.step P2 q2) λ_ _ h3=>h3.step P2 q2⟩
end
section
variable[HasP]
theorem Do:typeLookup (.type "list_reverseiterator") "__len__"=pure TW:=by rw[typeLookup_type,builtinLookup_eq_fast];kernel_rfl
theorem Dp:typeLookup (.type "list_reverseiterator") "__length_hint__"=pure (TR (.builtin "list_reverseiterator.__length_hint__")):=by rw[typeLookup_type,builtinLookup_eq_fast];kernel_rfl
section
variable{prog:VQ}{w:U4}{A:UT}{E:TZ->aav->Prop}{s:aav}{I:TX}{fp wr:List TX}{G:Array GenState->Array GenState->Prop}{n:Nat}{P:Nat->TZ->Prop}{St:Nat->aav->Prop}
theorem Dq(W:WalksS prog w A.in1 I fp wr G n P St)(hT:∀i s,St i s->s.TypeIs (.ref I) "list_reverseiterator")(LJ:St 0 s)(Ms:∀b∈fp,b<s.heap.objs.size)(hI:I∈fp)(hQ:∀s' acc,Moved wr G s s'->ItemsOf P acc n->Q acc.toList s')(hn:n<=Ub:=by size_fits):Uh (Uj prog w) A (collect (.ref I)) Q E s:=by
 have PZ:s.heap.objs.size∉fp:=λhm=>VX _ (Ms _ hm)
 have Tl:s.heap.objs.size≠I:=λe=>PZ (e▸hI)
 unfold collect;refine wpAny_bind (wpAny_runValue (codeAny_builtin F.entry_proto_collect ?_));refine(XQ F.plain_proto_collect _).symm▸?_;show Uh _ A.in1 (newList []>>=λl=>again (.builtin "list.__iadd__" ⟨[l,.ref I],[]⟩)) _ _ s;refine wpAny_bind (wpAny_newObj_type ?_);refine wpAny_pure ⟨plainId_quiet Yy _,codeAny_builtin F.entry_list_iadd ?_⟩;refine(XQ Yy _).symm▸?_;have Nk:=W.frame 0 s (s.heap.push {cls:=.type "list",data:=.seq ([]:List TZ).toArray}) s.toks LJ (UE _) λb _ o e=>Ua _ e
 have R3:(s.heap.push {cls:=.type "list",data:=.seq ([]:List TZ).toArray}).get? s.heap.objs.size=TR {cls:=.type "list",data:=.seq ([]:List TZ).toArray}:=Ul _ rfl;have h1:Zr (.ref s.heap.objs.size) (.ref I)=TT:=by exact if_neg (by assumption)
 show Uh _ A.in1 (WQ (.ref s.heap.objs.size) (.ref I) (.ref s.heap.objs.size)) _ _ _;unfold WQ;refine wpAny_bind (wpAny_typeOf (hT 0 _ Nk) ?_);rw[if_neg (by rw[h1];decide)];refine wpAny_bind (W.self 0 _ _ _ Nk ?_);refine wpAny_bind (wpAny_holding ?_);unfold Y8;refine wpAny_bind (wpAny_specialOf (hT 0 _ Nk) Do ?_);show Uh _ A.in1 (specialOf (Vk I) (Vr "__length_hint__")>>=_) _ _ _;refine wpAny_bind (wpAny_specialOf (hT 0 _ Nk) Dp ?_);(generalize LY:("list_reverseiterator.__length_hint__":String)=P6;(fail_if_success (clear LY P6));wp_delta;rw[show splitId P6=TR ("list_reverseiterator","__length_hint__") from by subst LY;decide+kernel];subst LY);refine wpAny_bind (wpAny_isInstance (b:=TV) (hT 0 _ Nk) (by rw[isSubtype_type];kernel_rfl) ?_);refine wpAny_pure ?_;rw[if_neg (by decide)];refine wpAny_pure ⟨plainId_quiet F.plain_extend_loop _,codeAny_extend_loopS W hn _ PZ _ n 0 _ _ _ rfl (VF _) Nk R3 (ItemsOf.nil P) λs' R4 c' hm R5 Ok=>?_⟩;show Uh _ A (load s.heap.objs.size>>=_) _ _ s';refine wpAny_bind (wpAny_load R5 ?_);exact wpAny_pure (hQ s' R4 (Moved.drop_new (o:={cls:=.type "list",data:=.seq ([]:List TZ).toArray}) (tk:=s.toks) hm (UE _)) Ok)
open Builtin Builtin.Str Builtin.Int in
theorem Ds(W:WalksS prog w A.in1.in1 I fp wr G n P St)(hT:∀i s,St i s->s.TypeIs (.ref I) "list_reverseiterator")(LJ:St 0 s)(Ms:∀b∈fp,b<s.heap.objs.size)(hI:I∈fp)(R6:∀i v,P i v->∃y u,v=XU y u)(hq:∀s' (l:List (U6×Tok)),Moved wr G s s'->ItemsOf P (strValues l).toArray n->JoinOk x (l.map (·.1))=TV/\∀t' k,Q (.str (Zb x (l.map (·.1))) t') {s' with toks:=k})(Lf:n<=Ub:=by size_fits):Uh (Uj prog w) A (Vl (.builtin "str.join") [.str x t,.ref I]) Q E s:=by
 refine wpAny_call (codeAny_call_builtin F.slot_str_join.plain F.entry_str_join (F.slot_str_join.check _ _ _ _ _ _ _ _ (typeIs_str _ _ _) (F.args_str_join_2 _ _) ?_));rw[join_tree_other];refine wpAny_bind (wpAny_typeOf (hT 0 s LJ) ?_);show Uh _ A.in1 ((pyIter (.ref I)).tryCatch _>>=λit=>collect it>>=λitems=>joinTail x items) _ _ s;refine wpAny_bind (wpAny_tryCatch (W.of_in1.self 0 s _ _ LJ ?_));refine wpAny_bind (Dq W hT LJ Ms hI (λs' acc hm Ok=>?_) Lf);obtain⟨l,hl⟩:=exists_strValues acc.toList λv hv=>by obtain⟨j,hj,rfl⟩:=Array.mem_iff_getElem.mp (Array.mem_toList_iff.mp hv);exact R6 j _ (Ok.2 j _ (W3 hj))
 refine(hl)▸?_;have R7:ItemsOf P (strValues l).toArray n:=by rw[hl];simpa using Ok
 obtain⟨Ol,R8⟩:=hq s' l hm R7;unfold JoinOk at Ol;rw[V0]at Ol;have g:Gives (joinTail x (strValues l)) (joinMade x l):=by
  have g0:=gives_joinTail x l Ol;cases l with
  |nil=>exact g0
  |cons p r=>cases r with
   |nil=>exact g0
   |cons q r'=>exact g0
 exact g prog w A (wants Q E) s' (post_join l ⟨joinFit_length Ol,R8⟩)
end
theorem Dt(h:StrsAre vs ys):vs.length=(ys.map (·.cps.toList)).length/\∀(j:Nat) (v:TZ),vs[j]? =TR v->∃(y:U6) (t:Tok),v=XU y t/\(ys.map (·.cps.toList))[j]? =TR y.cps.toList:=by
 induction h with
 |nil=>exact⟨rfl,λj v h=>(nomatch h)⟩
 |cons x u h ih=>
  refine⟨congrArg (· +1) ih.1,λj v hj=>?_⟩;induction j with
  |zero=>obtain rfl:=TU hj;exact⟨x,u,rfl,rfl⟩
  |succ j=>exact ih.2 j v hj
theorem Du{items:Array TZ}{ls:List (List Nat)}{l:List (U6×Tok)}(h1:items.toList.length=ls.length)(h2:∀(j:Nat) (v:TZ),items.toList[j]? =TR v->∃(y:U6) (t:Tok),v=XU y t/\ls[j]? =TR y.cps.toList)(h:ItemsOf (λi v=>items[items.size-1-i]? =TR v) (strValues l).toArray items.size):(l.map (·.1)).map (·.cps.toList)=ls.reverse:=by
 obtain⟨hz,hi⟩:=h;have hl:l.length=items.size:=by simpa[strValues]using hz
 have R9:ls.length=items.size:=by rw[<-h1];simp
 apply List.ext_getElem?;intro j;by_cases hj:j<items.size
 ·have e1:(strValues l)[j]? =TR (.str (l[j]'(by lia)).1 (l[j]'(by lia)).2):=by unfold strValues;rw[W9,US (by lia)];rfl
  have e2:=hi j (.str (l[j]'(by lia)).1 (l[j]'(by lia)).2) (by simpa using e1);obtain⟨y,t,e3,e4⟩:=h2 (items.size-1-j) _ (by simpa using e2);cases e3;rw[List.getElem?_reverse (by lia),R9,e4,W9,W9,US (by lia)];rfl
 ·rw[VD (by simp;lia),VD (by simp;lia)]
set_option tactic.hygienic true in
theorem Dv{n:Nat}{ρ:af}{M:aa}{x:X}{Q:PQ}{E:PE}(hn:0<n)(h:Ev n ρ M x (λr M1=>∃xs ls,bh M1 r=TR xs/\eG xs=TR ls/\xs.length<=Ub/\ls.flatten.length<=16777216/\Q (.str ls.reverse.flatten) M1) E):Ev n ρ M (.meth (.cst (.str [])) 71 [.call (.cst (.ty "reversed")) [x]]) Q E:=by
 intro sc e hT c B own s K0 S;generalize hk:(71:Nat)=kk at hT;induction hT with
 |meth ok hp hlen LM NI hs=>
  rename_i oe ae ap as p;show Uh _ _ (do
   let ov<-attributeBase oe ae c.env (eval oe c.env)
   standAt ap.atName
   methodCall oe ae ap p c.env ov (as.length+0) (VP p (U1 as c.env)) []) _ _ _
  refine(iZ hp).symm▸?_;refine aT.bind S (fR (E:=E) (Q:=λr M1=>r=.str []/\M1=M) ⟨rfl,rfl⟩ _ _ NI c B own s K0 S) λv s1 B1 K1 M1 ⟨ro,hv,hr,hM⟩ S1 l1=>?_
  subst hr hM;refine wpAny_bind (wpAny_standAt ?_);have few:Vy (as.length+0) (VP p (U1 as c.env)) []=TV:=by unfold Vy;refine((hs.plain c.env p).2).symm▸?_;simp[hlen]
  unfold methodCall;refine(few).symm▸?_;refine wpAny_bind (wpAny_holding ?_);show Uh _ _ (getMethod v ae _) _ _ _;refine(uB (M:=M1) (l:=[])) _ _ _ _ _ _ _ _ _ _ S1.sta hv ok hk.symm ?_;dsimp only;have LZ:Vq TV oe c.env ap p=pure p:=by unfold Vq;refine(LM).symm▸?_;rfl
  refine(LZ).symm▸?_;refine wpAny_bind (wpAny_pure ?_);refine callWith_builtin (hs.plain c.env p).1 ?_;induction hs with
  |cons LJ h1 h2=>
   cases h2;rename_i ce;refine(lP LJ).symm▸?_;refine evalArgs_plain ?_;show Uh _ _ (do let v<-eval ce c.env;let here<-pure [v];return here++(<-holding here (spliced []))) _ _ _;induction h1 with
   |call Mp hf P7=>
    rename_i fe Tm p2;refine(ic Mp).symm▸?_;refine wpAny_bind (wpAny_bind (wpAny_mono (fR (E:=E) (Q:=λr M2=>r=.ty "reversed"/\M2=M1) ⟨rfl,rfl⟩ _ _ hf c B1 K1 s1 K0 S1) (λfv s2 h1=>?_) λ_ _ h=>h));obtain⟨B2,K9,M2,⟨r,LU,hr,hM⟩,T2,P2,q2⟩:=h1;subst hr hM;induction LU;have S2:=S1.step T2 P2;refine WT (P7.plain c.env p2).1 ?_;induction P7 with
    |cons OU h3 h4=>
     cases h4;refine(lP OU).symm▸?_;refine evalArgs_plain ?_;rename_i xe;show Uh _ _ (do let v<-eval xe c.env;let here<-pure [v];return here++(<-holding here (spliced []))) _ _ _;refine wpAny_bind (wpAny_mono (h _ _ h3 c B2 K9 s2 K0 S2) (λlv s3 h5=>?_) λ_ _ h=>h.step P2 q2);obtain⟨B3,LA,M3,⟨r3,Sb,xs,ls,hl,Sd,hz,Oc,hQ⟩,T3,P3,q3⟩:=h5;have S3:=S2.step T3 P3;refine bO (gJ T3 hl Sb) λl Lm nn KY=>?_
     have K6:=KY.1;subst K6;have e:=KY.2.1;have MB:=KY.2.2;refine wpAny_bind (wpAny_pure (wpAny_bind (wpAny_holding (wpAny_pure (wpAny_pure ?_)))));have IL:s3.heap.IsList l Lm:=⟨_,e,rfl,_,rfl⟩;refine call_reversed_list IL ?_;refine wpAny_bind (wpAny_pure (wpAny_bind (wpAny_holding (wpAny_pure (wpAny_pure ?_)))));have Lb:l≠s3.heap.objs.size:=U7 (UB e);have Lf:Lm.size=xs.length:=aq.size MB;refine aj (pp MB Sd) λys KY=>?_
     have KZ:=Dt KY.1;have i1:=KZ.1;have i2:=KZ.2;rw[KY.2]at i1 i2;refine aj (VR.strE hv) λu KY=>?_
     subst KY
     ·have W:=(Walks.listRev (prog:=pw) (w:=c.w) (A:=c.A.in1.in1) (S.hand hn) s3.heap.objs.size l Lb Lm).toS;have Se:({s3 with heap:=s3.heap.push (revObj l ((Lm.size:Int)-1))}:aav).heap.IsRevIter s3.heap.objs.size l ((Lm.size:Int)-1):=⟨_,Ul _ rfl,rfl,rfl⟩;refine Ds W (λi s' h=>h.2.1.typeIs) ⟨VF _,by simpa using Se,IL.push _⟩ (λb hb=>?_) (by simp) (λi v hP=>?_) (λs' lt hm hit=>?_) (by rw[Lf];exact hz)
      ·show b<(s3.heap.push _).objs.size;rw[Wz];rcases List.mem_cons.mp hb with rfl|hb
       ·exact YG _
       ·refine(List.mem_singleton.mp hb).symm▸?_;exact Wx (UB e)
      ·refine aX (i2 _ v (by simpa using hP)) λy t KY=>?_
       exact⟨y,t,KY.1⟩
      ·have ht:=Du i1 i2 hit;have Li:((lt.map (·.1)).map (·.length)).sum=ls.flatten.length:=by
        have:(lt.map (·.1)).map (·.length)=ls.reverse.map Ug:=by refine(ht)▸?_;refine(U8).symm▸?_;refine(U8).symm▸?_;refine(U8).symm▸?_;exact WI λx _=>c5 x.1
        refine(this).symm▸?_;refine(V4).symm▸?_;rewrite[List.sum_reverse];refine(X7).symm▸?_;with_reducible rfl
       refine⟨joinOk_of (by rw[Li];show _+_*0<=_;assumption),λt' k=>?_⟩;have e2:Zb ⟨#[]⟩ (lt.map (·.1))=XG ⟨#[]⟩ (lt.map (·.1)):=XA _ _;have kk:∀b o,s3.heap.get? b=TR o->s'.heap.get? b=TR o:=λb o eb=>by refine hm.heap b o (λhw=>?_) (Ua _ eb);rw[List.mem_singleton.mp hw]at eb;exact absurd (UB eb) (VX _)
       have fin:aC B3 LA s3 Q (.str (Zb ⟨#[]⟩ (lt.map (·.1))) t') {s' with toks:=k}:=by refine aC.kept (r:=.str ls.reverse.flatten) T3 ?_ hQ kk ⟨hm.os,hm.gens⟩;refine(e2).symm▸?_;refine(ht)▸?_;rewrite[<-pz];exact .str _ _
       exact(fin.step P3 q3).step P2 q2
end
section
variable[HasP]
noncomputable def cz:List Nat:=[48,49,50,51,52,53,54,55,56,57,97,98,99,100,101,102]
noncomputable def dM:U5:=cH 69
noncomputable abbrev md:FuncData:=nP dM "are_figures" "are_figures" (.str (so "scheme.numtext") 1001) 746 (.none)
theorem Dw(P:Ur):(KW P).lookup 747=TR (fw dM "are_figures" "are_figures" (.str (so "scheme.numtext") 1001) 746 (.none)):=by kernel_rfl
theorem Dx(P:Ur):codeIn (KW P) (.ref 746) (so "are_figures")=TV:=by kernel_rfl
theorem Dy(a b:TZ):bindArgs md ⟨[a,b],[]⟩=pure [(so "word",a),(so "radix",b)]:=by kernel_rfl
noncomputable abbrev vf:U5:=eY (bD dM) 0
noncomputable abbrev pK:Up:=gG vf
noncomputable abbrev km:Up:=kd pK 0
noncomputable abbrev pM:Up:=dy km
noncomputable abbrev pN:Up:=kd pM 0
noncomputable abbrev vg:Up:=kd pN 0
noncomputable def mf:UG:=tH km
theorem Dz:bD dM=[.Return (TR (.Call (.Name (so "all") (dy pK).pos) [.ListComp (.Compare (.Name (so "sign") (dy pM).pos) [.In] [.Subscript (.Name (so "FIGURES_numtext") (dy pN).pos) (.Slice TW (TR (.Name (so "radix") (kd vg 0).pos)) TW vg.pos) pN.pos] pM.pos) [⟨.Name (so "sign") (kd km 0).pos,.Name (so "word") (kd km 1).pos,[],0⟩] mf km.pos] [] pK.pos)) vf.pos]:=by kernel_rfl
theorem vj:mf.names=[(so ".0",.local),(so "sign",.local),(so "FIGURES_numtext",.globalImplicit),(so "radix",.free)]/\mf.kind=.function:=⟨by kernel_rfl,by kernel_rfl⟩
theorem jf:(bq dM).names=[(so "word",.local),(so "radix",.cell),(so "all",.globalImplicit)]:=by kernel_rfl
theorem pO:(bq dM).kind=.function:=by kernel_rfl
theorem DA:(bq dM).isCoroutine=TT:=by kernel_rfl
theorem DB:(bq dM).isGenerator=TT:=by kernel_rfl
theorem DC{s:aav}{x:U6}{t u:Tok}{r:Nat}{Q:TZ->aav->Prop}(hx:x.length<=Ub)(q:∀y t' k,y=(⟨(x.cps.toList.take r).toArray⟩:U6)->Q (.str y t') {s with toks:=k}):(sliceMade x t TW (TR ((r:Int),u)) TW).post Q s:=by
 have et:UD x TW (TR (r:Int))=⟨(x.cps.toList.take r).toArray⟩:=by
  have e1:UD x TW (TR (r:Int))=UD x (TR ((0:Nat):Int)) (TR (r:Int)):=by unfold UD;simp only[Xb];rfl
  rw[e1,uv];simp
 unfold sliceMade;unfold UD at et;split
 ·rename_i hc;rw[if_pos (by simpa[slicePicked]using hc)]at et;exact q x t s.toks et
 ·rename_i hc;rw[if_neg (by simpa[slicePicked]using hc)]at et;refine⟨?_,q _ _ _ et⟩;have e3:=congrArg ZX et;unfold slicePicked;rw[c5]at e3⊢;have e4:((⟨(x.cps.toList.take r).toArray⟩:U6)).length<=x.cps.toList.length:=by rw[c5];simp only[X6,YJ];lia
  exact UI (Xp e3) (UI e4 (by rw[<-c5];exact hx))
theorem vk(L:Nat):cellsFrom (L+1) (bq dM).names []=[(so "radix",L+1)]:=by rw[jf];rfl
theorem DE{w:U4}{base:Ux}(G:Gr w base){A:UT}{E':TZ->aav->Prop}{env:Yj}{K5:UG}{C L:TX}{s:aav}{m:U6->Option TZ}{r c:Nat}{u tk:Tok}{pa pb pc p1 p2 p3:Pos}(hg:env.globals=U9)(hb:env.builtins=WC)(hk:env.scope=bq dM)(K0:K5.names=[(so ".0",.local),(so "sign",.local),(so "FIGURES_numtext",.globalImplicit),(so "radix",.free)])(LB:K5.kind=.function)(kb:∀a o,base.get? a=TR o->s.heap.get? a=TR o)(Lj:s.heap.Ns C m)(hm:m (so "sign")=TR (.str ⟨#[c]⟩ tk))(hc:s.heap.IsCell L (TR (.int r u))):Uh (Uj pw w) A (eval (.Compare (.Name (so "sign") pa) [.In] [.Subscript (.Name (so "FIGURES_numtext") pb) (.Slice TW (TR (.Name (so "radix") pc)) TW p1) p2] p3) (compEnvC K5 [(so "radix",L)] C env)) (λy s'=>y=.bool (decide (c∈cz.take r))/\Keeps s s') E' s:=by
 have names:(relabel K5 env).names=[(so ".0",.local),(so "sign",.local),(so "FIGURES_numtext",.globalImplicit),(so "radix",.cell)]:=by unfold relabel;refine(K0).symm▸?_;refine(hk).symm▸?_;refine(pO).symm▸?_;unfold Vu;refine(hk).symm▸?_;refine(jf).symm▸?_;kernel_rfl
 have OV:(compEnvC K5 [(so "radix",L)] C env).scope.kind=.function:=by show(relabel K5 env).kind=_;exact LB
 refine wpAny_Compare1 (wpAny_Name (wpAny_loadName_local OV (by show(relabel K5 env).names.lookup _=_;rw[names];kernel_rfl) Lj hm ?_) (by decide)) rfl;refine wpAny_Subscript_str_slice (Name_function_global OV (by show(relabel K5 env).names.lookup _=_;rw[names];kernel_rfl) (hZ G (id:=so "FIGURES_numtext") (v:=.str cz) (by kernel_rfl) (by kernel_rfl) hg hb kb λval hv=>?_) (by decide));generalize hF:cz=aM at hv;induction hv with
 |str x t=>
  have hlen:x.length<=Ub:=by rw[c5,<-hF];decide
  refine evalPart_none_step (evalPart_some_step (wpAny_Name (wpAny_loadName_cell (c:=L) OV (by show(relabel K5 env).names.lookup _=_;rw[names];kernel_rfl) (by kernel_rfl) hc ?_) (by decide)));refine⟨x,t,TW,TR ((r:Int),u),rfl,rfl,rfl,DC hlen λy t' k hy=>?_⟩;refine XH ?_;rw[Wu];refine⟨by rw[hy,<-hF],_,_,rfl,λb o e=>Ua _ e⟩
theorem DF{prog:VQ}{w:U4}{A:UT}{E:TZ->aav->Prop}{s:aav}{D:TX}{items:Array TZ}{Q:TZ->aav->Prop}(hh:A.handled=TW)(hl:s.heap.IsList D items)(bs:Nat->Bool)(hb:∀i v,items[i]? =TR v->v=Za (bs i))(h:∀h' tk,(∀b o,s.heap.get? b=TR o->h'.get? b=TR o)->Q (.bool ((Xs items.size).all bs)) {s with heap:=h',toks:=tk}):Uh (Uj prog w) A (Vl (.builtin "all") [.ref D]) Q E s:=by
 have Lb:D≠s.heap.objs.size:=by obtain⟨o,ho,_⟩:=hl;exact U7 (UB ho)
 refine call_all_walk (wpAny_pyIter_list hl ?_);refine⟨_,_,_,_,_,_,bs,rfl,Walks.list (A:=A.in1) hh s.heap.objs.size D Lb items,⟨⟨_,Ul _ rfl,rfl,rfl⟩,hl.push _⟩,λi v s Q E hP hQ=>?_,λh' tk hk=>?_⟩
 ·rw[hb i v hP];exact wpAny_truthy_bool hQ
 ·exact h h' tk λb o e=>hk b o (λhm=>by rw[List.mem_singleton.mp hm]at e;exact absurd (UB e) (VX _)) (Ua _ e)
theorem vm(f:Nat->Bool):∀l:List Nat,((Xs l.length).all λi=>match l[i]? with|some c=>f c|none=>TV)=l.all f
 | []=>rfl
 |a::l=>by rw[aau,Xq,Yi,Yi,ZD,<-vm f l];rfl
theorem DG{α β:Type}{F:α->β->Prop}{NJ:List α}{NK:List β}(h:Paired F NJ NK):∀(j:Nat) (b:β),NK[j]? =TR b->∃a,NJ[j]? =TR a/\F a b:=by
 induction h with
 |nil=>intro j b h;exact nn h
 |cons h t ih=>
  intro j b e;induction j with
  |zero=>obtain rfl:=TU e;exact⟨_,rfl,h⟩
  |succ j=>exact ih j b e
theorem DH{α β:Type}{F:α->β->Prop}{NJ:List α}{NK:List β}(h:Paired F NJ NK):NJ.length=NK.length:=by
 induction h with
 |nil=>rfl
 |cons h t ih=>exact congrArg (· +1) ih
set_option tactic.hygienic true in
theorem DI{n:Nat}{l:List Nat}{r:Nat}{M:aa}{Q:PQ}{E:PE}(hn:0<n)(hl:l.length<=Ub)(q:Q (.bool (l.all λc=>decide (c∈cz.take r))) M):dL (n+1) (.ref 747) [.str l,.int r] M Q E:=by
 intro w A base fr B own s fv vs S hf K8;induction hf;refine aX K8.two λv1 v2 KY=>?_
 have K6:=KY.1;subst K6;have LW:=KY.2.1;have NF:=KY.2.2;have X:=S.kin;induction NF;rename_i u;induction LW with
 |str x t=>
  have Lw:∀a o,base.get? a=TR o->s.heap.get? a=TR o:=λa o e=>S.sta.keep a o (S.base a o e)
  obtain⟨K5,eO⟩:∃x,x=mf:=⟨_,rfl⟩;have K0:=vj.1;have LB:=vj.2;rw[<-eO]at K0 LB;refine codeAny_call_cells (fd:=md) (body:=bD dM) (by have:=S.room;exact ab [_,_] ad (Ar.n 1000) ((X0.a ay).a N1) (Ar.n 1000) this rfl) (X _ _ (Dw _)) rfl (S.gr.nolimit.keeps Lw) (codeRec_of X (Dx _)) rfl (Dy _ _) rfl (λy hy=>?_) (λLd y=>?_) DA DB pO
  ·show(bq dM).names.lookup y.1=_\/_;refine(show md.scope=bq dM from rfl).symm▸?_;rewrite[vk];refine(jf).symm▸?_;simp only[Uk,Um,or_false]at hy;rcases hy with rfl|rfl
   ·exact .inl (by kernel_rfl)
   ·exact .inr ⟨by kernel_rfl,by kernel_rfl⟩
  ·generalize Om:callEnvC md s.heap.objs.size 747=env at y;have NL:env.scope=bq dM:=by rw[<-Om];rfl
   have P8:env.globals=U9:=by rw[<-Om];rfl
   have P9:env.builtins=WC:=by rw[<-Om];rfl
   have Qa:env.cells=[(so "radix",s.heap.objs.size+1)]:=by rw[<-Om];show cellsFrom (s.heap.objs.size+1) (bq dM).names []=_;exact vk _
   have Qb:env.scope.kind=.function:=by rw[NL];exact pO
   have OW:env.kindOf (so "word")=TR .local:=by unfold Vu;rw[NL,jf];kernel_rfl
   have Qc:env.kindOf (so "radix")=TR .cell:=by unfold Vu;rw[NL,jf];kernel_rfl
   have Sf:env.kindOf (so "all")=TR .globalImplicit:=by unfold Vu;rw[NL,jf];kernel_rfl
   have hm:bindL env.kindOf [(so "word",XU x t),(so "radix",Z6 (r:Int) u)] (λ_=>TW) (so "word")=TR (.str x t):=by
    simp only[bindL,OW,Qc];simp
    try decide
   have OX:bindC env.kindOf [(so "word",XU x t),(so "radix",Z6 (r:Int) u)] (λ_=>TW) (so "radix")=TR (.int (r:Int) u):=by simp only[bindC,OW,Qc];simp
   have OR:Ld.heap.IsCell (s.heap.objs.size+1) (TR (.int (r:Int) u)):=by rw[<-OX];exact y.cell (so "radix") _ (by rw[Qa];kernel_rfl)
   have Sh:closureFor K5 env=pure [(so "radix",s.heap.objs.size+1)]:=by unfold closureFor;refine(K0).symm▸?_;unfold cellOf;refine(Qa).symm▸?_;kernel_rfl
   have kb1:∀a o,base.get? a=TR o->Ld.heap.get? a=TR o:=λa o e=>y.toInCall.keep a o (Lw a o e)
   have hh:(A.deeper env).handled=TW:=S.hand (by exact TY _);refine(Dz).symm▸?_;refine(eO)▸?_;refine wpAny_execs_cons (wpAny_Return_some ?_);rw[ic rfl];refine wpAny_bind (Name_function_global Qb Sf (hZ S.gr (id:=so "all") (v:=.bi "all") (by kernel_rfl) (by kernel_rfl) P8 P9 kb1 λval hv=>?_) (by decide));induction hv;refine YC ?_;refine U3 ?_;refine wpAny_ListComp_free (λ_=>TV) (λv y=>∃c tk,v=.str ⟨#[c]⟩ tk/\y=.bool (decide (c∈cz.take r))) Sh (by rw[K0];decide) LB (by rw[K0];decide) (by rw[K0];kernel_rfl) (wpAny_Name (ldLC y Qb OW hm ?_) (by decide));refine wpAny_pyIter_str λob St hW Si=>?_
   have fresh:∀b o,Ld.heap.get? b=TR o->b∉[Ld.heap.objs.size]:=λb o e hm=>by rw[List.mem_singleton.mp hm]at e;exact absurd (UB e) (VX _)
   refine⟨_,_,_,_,_,_,rfl,hW _ hh,?_,Si,λb hb=>by rw[List.mem_singleton.mp hb];show _<(Ld.heap.push ob).objs.size;rw[Wz];exact YG _,⟨λC i v LK Sj E' _ hP hn Qd hk _=>wpAny_tests_nil ⟨rfl,_,_,rfl,λb o e=>e⟩,λC i v LK Sj E' _ hP _ hn Qd hk _=>?_⟩,λD h' tk ys vs hD Sk _ hlen hP hF hk=>?_⟩
   ·have:=hl;simpa using this
   ·refine aX hP λc tk KY=>?_
    have hc:=KY.1;have K6:=KY.2;subst K6;have k3:∀b o,Ld.heap.get? b=TR o->LK.heap.get? b=TR o:=λb o e=>hk b o (fresh b o e) (Ua _ e)
    refine wpAny_mono (DE S.gr P8 P9 NL K0 LB (λa o e=>k3 a o (kb1 a o e)) hn Qd (OR.keeps k3)) (λyv Oj h4=>⟨⟨c,tk,rfl,h4.1⟩,h4.2⟩) λ_ _ h=>h
   ·refine VY ?_;have k4:∀b o,Ld.heap.get? b=TR o->h'.get? b=TR o:=λb o e=>hk b o (fresh b o e) (Ua _ e)
    have Sl:vs.filter (λ_=>TV)=vs:=List.filter_eq_self.mpr λ_ _=>rfl
    rw[Sl]at hF;have Sm:ys.size=x.cps.toList.length:=by have:=DH hF;rw[hlen]at this;simpa using this.symm
    refine DF (s:=_) hh Sk (λi=>match x.cps.toList[i]? with|some c=>decide (c∈cz.take r)|none=>TV) (λi v hv=>?_) λMA Tp Lc=>?_
    ·refine aj (DG hF i v (by simpa using hv)) λa KY=>?_
     have ha:=KY.1;refine aX KY.2 λc tk K6=>?_
     have OG:=K6.1;subst OG;have Sn:=K6.2;subst Sn;refine aX (hP i _ ha) λc' u' KY=>?_
     have Mq:=KY.1;have e:=KY.2;cases e;have So:x.cps.toList[i]? =TR c:=by simpa using Mq
     refine(So).symm▸?_;with_reducible rfl
    ·have NA:((Xs ys.size).all λi=>match x.cps.toList[i]? with|some c=>decide (c∈cz.take r)|none=>TV)=x.cps.toList.all λc=>decide (c∈cz.take r):=by refine(Sm).symm▸?_;exact vm _ _
     refine(NA).symm▸?_;refine aX y.toInCall.same λh1 Tq e1=>?_
     refine aC.kept (r:=.bool (x.cps.toList.all λc=>decide (c∈cz.take r))) S.sta (.bool _) q (λb o e=>Lc b o (k4 b o (y.toInCall.keep b o e))) ?_;refine(e1).symm▸?_;exact⟨rfl,rfl⟩
end
section
variable[HasP]
def kn(op:BoolOp)(n:Nat)(ρ:af)(Q:PQ)(E:PE):List X->aa->Prop
 | [],_=>False
 | [x],M=>Ev n ρ M x Q E
 |x::y::xs,M=>Ev n ρ M x (λr M1=>∃b,r=.bool b/\if b=(match op with| .And=>TV| .Or=>TT)then kn op n ρ Q E (y::xs) M1 else Q (.bool b) M1) E
set_option tactic.hygienic true in
theorem mh:∀{xs:List X} {es:List PySem.Expr} (M:aa) (B:PH) (own:List TX) (s:aav),Ts gt c.env.scope es xs->kn op n ρ Q E xs M->St c n ρ M B own s.heap->Uh (Uj pw c.w) c.A (boolOp pos op (evalEach es c.env)) (aC B own s Q) (bg B own s E) s
 | [],_,M,B,own,s,hT,h,S=>h.elim
 |[x],_,M,B,own,s,hT,h,S=>by
  induction hT with
  |cons hs h1 h2=>cases h2;exact h _ _ h1 c B own s rfl S
 |x::y::xs,_,M,B,own,s,hT,h,S=>by
  induction hT with
  |cons hs h1 h2=>
   cases h2 with
   |cons Mv Nb Qe=>
    rename_i e1 e2 es;show Uh _ _ (do
     let v<-eval e1 c.env
     standAt pos
     let t<-holding [v] (truthy v)
     match op,t with
     | .And,TT| .Or,TV=>pure v
     |_,_=>boolOp pos op (evalEach (e2::es) c.env)) _ _ _
    refine aT.bind S (h _ _ h1 c B own s rfl S) λv s1 B1 K1 M1 ⟨r,hv,b,hr,k⟩ S1 l1=>?_
    subst hr;induction hv;refine wpAny_bind (wpAny_standAt (wpAny_bind (wpAny_holding (wpAny_truthy_bool ?_))));induction op with
    |And=>
     induction b with
     |true=>exact mh M1 B1 K1 s1 (.cons Mv Nb Qe) (by simpa using k) S1
     |false=>exact wpAny_pure (aC.here S1.sta (.bool _) (by simpa using k))
    |Or=>
     induction b with
     |false=>exact mh M1 B1 K1 s1 (.cons Mv Nb Qe) (by simpa using k) S1
     |true=>exact wpAny_pure (aC.here S1.sta (.bool _) (by simpa using k))
theorem DJ(h:kn .And n ρ Q E xs M):Ev n ρ M (.band xs) Q E:=by
 intro sc e hT c B own s K0 S;induction hT with
 |band h1=>subst K0;rw[arm_eval_BoolOp];exact mh M B own s h1 h S
theorem DK(h:kn .Or n ρ Q E xs M):Ev n ρ M (.bor xs) Q E:=by
 intro sc e hT c B own s K0 S;induction hT with
 |bor h1=>subst K0;rw[arm_eval_BoolOp];exact mh M B own s h1 h S
set_option tactic.hygienic true in
theorem DL(hl:xs.length<2^63)(q:Q (.int xs.length) M):BC n "len" [.arg xs] M Q:=by
 intro c ρ B own s vs E S K8;obtain⟨v,rfl,hv⟩:=K8.one;induction hv with
 |arg e hc hd hr=>rename_i ws n';have hz:ws.size=xs.length:=aq.size hr;refine call_len_list ⟨_,S.sta.keep _ _ e,hc,_,hd⟩ (by rw[hz];exact dF (b:=9223372036854775808) (ab [_] ad bd ad bd hl rfl)) ?_;rw[hz];exact aC.here S.sta (.int _ _) q
theorem aq.take(k:Nat):∀{vs:List TZ} {xs:List V},aq B vs xs->aq B (vs.take k) (xs.take k):=by
 induction k with
 |zero=>intro vs xs h;exact .nil
 |succ k ih=>
  intro vs xs h;induction xs with
  |nil=>induction h;exact .nil
  |cons x xs=>induction h with|cons h t=>exact .cons h (ih t)
theorem DM(ha:a.natAbs<2^64):IntMulOk a b:=.of_left (intBits_le_64 (by omega) (by omega))
set_option tactic.hygienic true in
theorem DN{xs:List V}{k:Nat}{M:aa}{Q:PQ}(hs:xs.length<=Ub)(q:Q (.lst (xs.take k)) M):lY (.arg xs) .none (.int k) M Q:=by
 intro c n ρ B own s vo vl vh E S ho hl hh;induction ho with
 |arg e hc hd hr=>
  rename_i a o vs n';induction hl;induction hh;rename_i t;have hz:vs.size=xs.length:=aq.size hr;have hl:s.heap.IsList a vs:=⟨_,S.sta.keep _ _ e,hc,_,hd⟩;refine⟨⟨_,_,slot_list_getitem.lookup,(hl.push _).typeIs⟩,wpAny_getItem_list_slice (hl.push _) (Z3 ..) .none (.int k t) .none (by decide) ?_ (by rw[hz];exact hs)⟩;refine(slicePick_upto' vs k).symm▸?_;obtain⟨S1,P1⟩:=S.grown (h':=s.heap.push (gK .none (.int k t))) λb o' e=>Ua _ e
  have:=lU (s:={s with heap:=s.heap.push (gK .none (.int k t))}) (Q:=Q) S1.sta (aq.take k hr) (.inl q);have e2:(vs.toList.take k).toArray=(vs.toList.take k).toArray:=rfl;exact aT.step (s1:={s with heap:=s.heap.push (gK .none (.int k t))}) P1 ⟨rfl,rfl⟩ (by simpa using this)
end
section
section
variable{α β:Type}
def oS(o:Option α)(k:α->Prop):Prop:=match o with
 |some a=>k a
 |none=>False
theorem fU{o:Option α}{k:α->Prop}(h:oS o k):∃a,o=TR a/\k a:=by
 induction o with
 |none=>exact h.elim
 |some a=>exact⟨a,rfl,h⟩
def oC(o:Option α)(k:α->Prop)(p:Prop):Prop:=match o with
 |some a=>k a
 |none=>p
theorem pP{o:Option α}{k:α->Prop}{p:Prop}(h:oC o k p):(∃a,o=TR a/\k a)\/o=TW/\p:=by
 induction o with
 |none=>exact .inr ⟨rfl,h⟩
 |some a=>exact .inl ⟨a,rfl,h⟩
def o2(o:Option α)(u:Option β)(k:α->β->Prop)(p:Prop):Prop:=match o,u with
 |some a,TR b=>k a b
 |_,_=>p
theorem vn{o:Option α}{u:Option β}{k:α->β->Prop}{p:Prop}(h:o2 o u k p):(∃a b,o=TR a/\u=TR b/\k a b)\/p:=by
 induction o with
 |none=>exact .inr h
 |some a=>
  induction u with
  |none=>exact .inr h
  |some b=>exact .inl ⟨a,b,rfl,rfl,h⟩
theorem vp{o:Option α}{u:Option β}{k:α->β->Prop}(h:o2 o u k False):∃a b,o=TR a/\u=TR b/\k a b:=(vn h).elim id Vo
theorem cs{R:Prop}{o:Option α}{k:α->Prop}(h:oS o k)(q:∀a,o=TR a->k a->R):R:=let⟨a,e,h⟩:=fU h;q a e h
theorem mi{R:Prop}{o:Option α}{k:α->Prop}{p:Prop}(h:oC o k p)(q:∀a,o=TR a->k a->R)(q':o=TW->p->R):R:=(pP h).elim (λ⟨a,e,h⟩=>q a e h) λh=>q' h.1 h.2
theorem im{R:Prop}{o:Option α}{u:Option β}{k:α->β->Prop}{p:Prop}(h:o2 o u k p)(q:∀a b,o=TR a->u=TR b->k a b->R)(q':p->R):R:=(vn h).elim (λ⟨a,b,e,f,h⟩=>q a b e f h) q'
theorem mj{R c:Prop}[Decidable c]{o:Option α}{r:α}(h:(if c then o else TW)=TR r)(q:c->o=TR r->R):R:=by
 by_cases k:c
 ·rw[if_pos k]at h;exact q k h
 ·rw[if_neg k]at h;exact nn h
def oT(b:Bool)(p:Prop):Prop:=match b with
 |true=>p
 |false=>False
theorem ct(h:oT b p):b=TV/\p:=by
 induction b with
 |true=>exact⟨rfl,h⟩
 |false=>exact h.elim
def oB(b:Bool)(p q:Prop):Prop:=match b with
 |true=>p
 |false=>q
theorem ml{P:Nat->α->Prop}:∀{l:List (Nat×α)},(∀p∈l,P p.1 p.2)->∀{k:Nat} {v:α},aak l k=TR v->P k v
 | [],_,_,_,e=>by exact nn e
 |p::r,h,k,v,e=>by
  rw[cC]at e;by_cases q:p.1=k
  ·rw[if_pos q]at e;obtain rfl:=TU e;subst q;exact h p (.head _)
  ·rw[if_neg q]at e;exact ml (λx hx=>h x (.tail _ hx)) e
end
noncomputable def bJ(v:V):Option Int:=V.casesOn (motive_1:=λ_=>Option Int) v TW (λ_=>TW) (λi=>TR i) (λ_=>TW) (λ_=>TW) (λ_=>TW) (λ_ _=>TW) (λ_ _ _=>TW) (λ_=>TW) (λ_=>TW) (λ_=>TW) (λ_=>TW)
noncomputable def cb(v:V):Option (List Nat):=V.casesOn (motive_1:=λ_=>Option (List Nat)) v TW (λ_=>TW) (λ_=>TW) (λl=>TR l) (λ_=>TW) (λ_=>TW) (λ_ _=>TW) (λ_ _ _=>TW) (λ_=>TW) (λ_=>TW) (λ_=>TW) (λ_=>TW)
noncomputable def io(v:V):Option Bool:=V.casesOn (motive_1:=λ_=>Option Bool) v TW (λb=>TR b) (λ_=>TW) (λ_=>TW) (λ_=>TW) (λ_=>TW) (λ_ _=>TW) (λ_ _ _=>TW) (λ_=>TW) (λ_=>TW) (λ_=>TW) (λ_=>TW)
noncomputable def vq(v:V):Option TX:=V.casesOn (motive_1:=λ_=>Option TX) v TW (λ_=>TW) (λ_=>TW) (λ_=>TW) (λ_=>TW) (λ_=>TW) (λ_ _=>TW) (λ_ _ _=>TW) (λa=>TR a) (λ_=>TW) (λ_=>TW) (λ_=>TW)
noncomputable def ko(v:V):Option (List V):=V.casesOn (motive_1:=λ_=>Option (List V)) v TW (λ_=>TW) (λ_=>TW) (λ_=>TW) (λa=>TR a) (λ_=>TW) (λ_ _=>TW) (λ_ _ _=>TW) (λ_=>TW) (λ_=>TW) (λ_=>TW) (λ_=>TW)
noncomputable def mm(v:V):Option (List V):=V.casesOn (motive_1:=λ_=>Option (List V)) v TW (λ_=>TW) (λ_=>TW) (λ_=>TW) (λ_=>TW) (λ_=>TW) (λ_ _=>TW) (λ_ _ _=>TW) (λ_=>TW) (λ_=>TW) (λ_=>TW) (λa=>TR a)
noncomputable def fV:V->Option Nat
 | .str [c]=>TR c
 |_=>TW
theorem fG{v:V}(h:bJ v=TR i):v=.int i:=by cases v<;>(first|exact nn h|obtain rfl:=TU h);rfl
theorem dN{v:V}(h:cb v=TR i):v=.str i:=by cases v<;>(first|exact nn h|obtain rfl:=TU h);rfl
theorem pQ{v:V}(h:io v=TR i):v=.bool i:=by cases v<;>(first|exact nn h|obtain rfl:=TU h);rfl
theorem DO{v:V}(h:vq v=TR i):v=.ref i:=by cases v<;>(first|exact nn h|obtain rfl:=TU h);rfl
theorem DP{v:V}(h:ko v=TR i):v=.tup i:=by cases v<;>(first|exact nn h|obtain rfl:=TU h);rfl
theorem vr{v:V}(h:mm v=TR i):v=.arg i:=by cases v<;>(first|exact nn h|obtain rfl:=TU h);rfl
theorem pR{v:V}(h:fV v=TR c):v=.str [c]:=by
 cases v with
 |str l=>
  induction l with
  |nil=>exact nn h
  |cons a r=>
   induction r with
   |nil=>obtain rfl:=TU h;rfl
   |cons b r=>exact nn h
 |_=>exact nn h
noncomputable def vt(a:TX):Option be->Option (TX×List (List Nat×V))
 |some (.dict xs)=>TR (a,xs)
 |_=>TW
noncomputable def vu(a:TX):Option be->Option (TX×List V)
 |some (.list xs)=>TR (a,xs)
 |_=>TW
noncomputable def vv(a:TX):Option be->Option (TX×TX×List (Nat×V))
 |some (.inst c xs)=>TR (a,c,xs)
 |_=>TW
noncomputable def fW(M:aa)(r:V):Option (TX×List (List Nat×V)):=match r with
 | .ref a=>vt a (aak M a)
 |_=>TW
noncomputable def eJ(M:aa)(r:V):Option (TX×List V):=match r with
 | .ref a=>vu a (aak M a)
 |_=>TW
noncomputable def jg(M:aa)(r:V):Option (TX×TX×List (Nat×V)):=match r with
 | .ref a=>vv a (aak M a)
 |_=>TW
theorem pS(h:vt a o=TR p):a=p.1/\o=TR (.dict p.2):=by
 induction o with
 |none=>exact nn h
 |some x=>
  induction x with
  |dict xs=>rw[<-TU h];exact⟨rfl,rfl⟩
  |_=>exact nn h
theorem pT(h:vu a o=TR p):a=p.1/\o=TR (.list p.2):=by
 induction o with
 |none=>exact nn h
 |some x=>
  induction x with
  |list xs=>rw[<-TU h];exact⟨rfl,rfl⟩
  |_=>exact nn h
theorem pU(h:vv a o=TR p):a=p.1/\o=TR (.inst p.2.1 p.2.2):=by
 induction o with
 |none=>exact nn h
 |some x=>
  induction x with
  |inst c xs=>rw[<-TU h];exact⟨rfl,rfl⟩
  |_=>exact nn h
theorem kq(h:fW M r=TR p):r=.ref p.1/\aak M p.1=TR (.dict p.2):=by
 cases r with
 |ref a=>exact⟨congrArg V.ref (pS h).1,(congrArg (aak M) (pS h).1).symm.trans (pS h).2⟩
 |_=>exact nn h
theorem pV(h:eJ M r=TR p):r=.ref p.1/\aak M p.1=TR (.list p.2):=by
 cases r with
 |ref a=>exact⟨congrArg V.ref (pT h).1,(congrArg (aak M) (pT h).1).symm.trans (pT h).2⟩
 |_=>exact nn h
theorem DQ(h:jg M r=TR p):r=.ref p.1/\aak M p.1=TR (.inst p.2.1 p.2.2):=by
 cases r with
 |ref a=>exact⟨congrArg V.ref (pU h).1,(congrArg (aak M) (pU h).1).symm.trans (pU h).2⟩
 |_=>exact nn h
section
variable{R:V->Prop}{R2:V->V->Prop}{r a b:V}{M:aa}
theorem vy{f:Int->Prop}(h:oS (bJ r) f)(k:∀i,f i->R (.int i)):R r:=cs h λi e q=>fG e▸k i q
theorem DR{f:List Nat->Prop}(h:oS (cb r) f)(k:∀i,f i->R (.str i)):R r:=cs h λi e q=>dN e▸k i q
theorem DS{f:Nat->Prop}(h:oS (fV r) f)(k:∀i,f i->R (.str [i])):R r:=cs h λi e q=>pR e▸k i q
theorem pW{f:TX×List V->Prop}(h:oS (eJ M r) f)(k:∀p,aak M p.1=TR (.list p.2)->f p->R (.ref p.1)):R r:=cs h λp e q=>(pV e).1▸k p (pV e).2 q
theorem fX{f:Int->Int->Prop}{p:Prop}(h:o2 (bJ a) (bJ b) f p)(k:∀i j,f i j->R2 (.int i) (.int j))(k':p->R2 a b):R2 a b:=im h (λi j e e' q=>fG e▸fG e'▸k i j q) k'
theorem DT{f:List Nat->List Nat->Prop}{p:Prop}(h:o2 (cb a) (cb b) f p)(k:∀i j,f i j->R2 (.str i) (.str j))(k':p->R2 a b):R2 a b:=im h (λi j e e' q=>dN e▸dN e'▸k i j q) k'
theorem mn{f:List Nat->Nat->Prop}(h:o2 (cb a) (fV b) f False)(k:∀i j,f i j->R2 (.str i) (.str [j])):R2 a b:=im h (λi j e e' q=>dN e▸pR e'▸k i j q) Vo
end
variable[HasP]
noncomputable def fY(M:aa)(r:V):Option Nat:=match cb r with
 |some l=>TR l.length
 |none=>match mm r with
  |some l=>TR l.length
  |none=>match bh M r with
   |some l=>TR l.length
   |none=>TW
abbrev BQ:=List V->aa->PQ->Prop
def q1(f:V->aa->PQ->Prop):BQ:=λvs M Q=>match vs with
 | [a]=>f a M Q
 |_=>False
def q2(f:V->V->aa->PQ->Prop):BQ:=λvs M Q=>match vs with
 | [a,b]=>f a b M Q
 |_=>False
def q3(f:V->V->V->aa->PQ->Prop):BQ:=λvs M Q=>match vs with
 | [a,b,c]=>f a b c M Q
 |_=>False
theorem jh{f:V->aa->PQ->Prop}{R:BQ}(h:∀a M Q,f a M Q->R [a] M Q):∀vs M Q,q1 f vs M Q->R vs M Q
 | [],_,_,x=>x.elim
 | [a],M,Q,x=>h a M Q x
 |_::_::_,_,_,x=>x.elim
theorem e9{f:V->V->aa->PQ->Prop}{R:BQ}(h:∀a b M Q,f a b M Q->R [a,b] M Q):∀vs M Q,q2 f vs M Q->R vs M Q
 | [],_,_,x=>x.elim
 | [_],_,_,x=>x.elim
 | [a,b],M,Q,x=>h a b M Q x
 |_::_::_::_,_,_,x=>x.elim
theorem DU{f:V->V->V->aa->PQ->Prop}{R:BQ}(h:∀a b c M Q,f a b c M Q->R [a,b,c] M Q):∀vs M Q,q3 f vs M Q->R vs M Q
 | [],_,_,x=>x.elim
 | [_],_,_,x=>x.elim
 | [_,_],_,_,x=>x.elim
 | [a,b,c],M,Q,x=>h a b c M Q x
 |_::_::_::_::_,_,_,x=>x.elim
noncomputable def vz:List (String×BQ):=[
 ("len",q1 λr M Q=>oS (fY M r) λk=>k<2^63/\Q (.int k) M),
 ("isinstance",q2 λx c M Q=>oS (aD M x c) λr=>Q (.bool r) M),
 ("list.append",q2 λa x M Q=>oS (eJ M a) λp=>p.2.length<=Ub/\Q .none (ag M p.1 (.list (p.2++[x])))),
 ("list.pop",q1 λa M Q=>oS (eJ M a) λp=>oS p.2.getLast? λx=>p.2.length<=Ub/\Q x (ag M p.1 (.list p.2.dropLast))),
 ("str.join",q2 λs r M Q=>oS (cb s) λl=>oT l.isEmpty (oS (bh M r) λxs=>oS (eG xs) λls=>ls.flatten.length<=16777216/\Q (.str ls.flatten) M)),
 ("abs",q1 λa M Q=>oS (bJ a) λi=>Q (.int i.natAbs) M),
 ("ord",q1 λa M Q=>oS (fV a) λi=>Q (.int i) M),
 ("chr",q1 λa M Q=>oS (bJ a) λi=>0<=i/\i<=0x10FFFF/\Q (.str [i.toNat]) M),
 ("max",q2 λa b M Q=>o2 (bJ a) (bJ b) (λi j=>Q (.int (max i j)) M) False),
 ("min",q2 λa b M Q=>o2 (bJ a) (bJ b) (λi j=>Q (.int (min i j)) M) False),
 ("divmod",q2 λa b M Q=>o2 (bJ a) (bJ b) (λi j=>j≠0/\j.natAbs<1073741824/\Q (.tup [.int (i.fdiv j),.int (i.fmod j)]) M) False),
 ("list.extend",q2 λa r M Q=>oS (eJ M a) λp=>oS (bh M r) λys=>p.2.length+ys.length<=Ub/\Q .none (ag M p.1 (.list (p.2++ys)))),
 ("str.find",q2 λs c M Q=>o2 (cb s) (fV c) (λl c=>Q (.int (match l.idxOf? c with|some i=>(i:Int)|none=> -1)) M) False),
 ("str.index",q2 λs c M Q=>o2 (cb s) (fV c) (λl c=>oS (l.idxOf? c) λi=>Q (.int i) M) False),
 ("str.lower",q1 λs M Q=>oS (cb s) λl=>(∀c∈l,c<128)/\l.length<=Ub/\Q (.str (l.map lo1)) M),
 ("str.rstrip",q2 λs c M Q=>o2 (cb s) (fV c) (λl c=>l.length<=Ub/\l.getLast?≠TR c/\Q (.str l) M) False),
 ("str.split",q2 λs c M Q=>o2 (cb s) (fV c) (λl c=>l.length<Ub/\∀ps:List (List Nat),fE c ps=l->(∀p∈ps,c∉p)->Q (.lst (ps.map V.str)) M) False),
 ("dict.get",q3 λa s d M Q=>o2 (fW M a) (cb s) (λp l=>Q ((c7 p.2 l).getD d) M) False)]
noncomputable def mq{α:Type}:List (String×α)->String->Option α
 | [],_=>TW
 |p::r,s=>if p.1=s then TR p.2 else mq r s
theorem vA{α:Type}:∀{l:List (String×α)} {s:String} {a:α},mq l s=TR a->(s,a)∈l
 | [],_,_,h=>by exact nn h
 |p::r,s,a,h=>by
  have h:(if p.1=s then TR p.2 else mq r s)=TR a:=h;by_cases e:p.1=s
  ·rw[if_pos e]at h;obtain rfl:=TU h;subst e;exact .head _
  ·rw[if_neg e]at h;exact .tail _ (vA h)
def pX(id:String)(vs:List V)(M:aa)(Q:PQ):Prop:=oS (mq vz id) λf=>f vs M Q
def pY(n:Nat)(l:List (String×BQ)):Prop:=∀p∈l,∀vs M Q,p.2 vs M Q->BC n p.1 vs M Q
theorem dg{id:String}{l:List (String×BQ)}(h:∀vs M Q,f vs M Q->BC n id vs M Q)(t:pY n l):pY n ((id,f)::l):=List.forall_mem_cons.mpr ⟨h,t⟩
theorem DV{n:Nat}(hn:0<n):pY n vz:=by
 refine dg (jh (R:=BC n "len") λr M Q h=>?_)<|dg (e9 (R:=BC n "isinstance") λx c M Q h=>cs h λr hr h=>Cg hr h)<|dg (e9 (R:=BC n "list.append") λa x M Q h=>pW (R:=λa=>BC n "list.append" [a,x] M Q) h λp hm h=>uC hm h.1 h.2)<|dg (jh (R:=BC n "list.pop") λa M Q h=>pW (R:=λa=>BC n "list.pop" [a] M Q) h λp hm h=>cs h λx hx h=>Cq hm hx h.1 h.2)<|dg (e9 (R:=BC n "str.join") λs r M Q h=>?_)<|dg (jh (R:=BC n "abs") λa M Q h=>vy (R:=λa=>BC n "abs" [a] M Q) h λi h=>B9 h)<|dg (jh (R:=BC n "ord") λa M Q h=>DS (R:=λa=>BC n "ord" [a] M Q) h λi h=>Ca h)<|dg (jh (R:=BC n "chr") λa M Q h=>?_)<|dg (e9 (R:=BC n "max") λa b M Q h=>fX (R2:=λa b=>BC n "max" [a,b] M Q) h (λi j h=>Cc hn h) Vo)<|dg (e9 (R:=BC n "min") λa b M Q h=>fX (R2:=λa b=>BC n "min" [a,b] M Q) h (λi j h=>Cd hn h) Vo)<|dg (e9 (R:=BC n "divmod") λa b M Q h=>fX (R2:=λa b=>BC n "divmod" [a,b] M Q) h (λi j h=>Ce h.1 (Ww h.2.1) h.2.2) Vo)<|dg (e9 (R:=BC n "list.extend") λa r M Q h=>pW (R:=λa=>BC n "list.extend" [a,r] M Q) h λp hm h=>cs h λys hy h=>Cs hm hy h.1 h.2)<|dg (e9 (R:=BC n "str.find") λa b M Q h=>mn (R2:=λa b=>BC n "str.find" [a,b] M Q) h λl c h=>Cv h)<|dg (e9 (R:=BC n "str.index") λa b M Q h=>mn (R2:=λa b=>BC n "str.index" [a,b] M Q) h λl c h=>cs h λi hi h=>Cw hi h)<|dg (jh (R:=BC n "str.lower") λa M Q h=>DR (R:=λa=>BC n "str.lower" [a] M Q) h λl h=>Cy h.1 h.2.1 h.2.2)<|dg (e9 (R:=BC n "str.rstrip") λa b M Q h=>mn (R2:=λa b=>BC n "str.rstrip" [a,b] M Q) h λl c h=>Cz h.1 h.2.1 h.2.2)<|dg (e9 (R:=BC n "str.split") λa b M Q h=>mn (R2:=λa b=>BC n "str.split" [a,b] M Q) h λl c h=>CC h.1 h.2)<|dg (DU (R:=BC n "dict.get") λa b c M Q h=>im h (λp l hp hl h=>?_) Vo) λp hp=>nomatch hp
 ·refine aj (fU h) λk KY=>?_
  have hk:=KY.1;have h1:=KY.2.1;have h2:=KY.2.2;unfold fY at hk;cases e1:cb r with
  |some l=>rw[e1]at hk;rw[dN e1];exact B7 (TU hk▸h1) (TU hk▸h2)
  |none=>
   rw[e1]at hk;cases e2:mm r with
   |some l=>rw[e2]at hk;rw[vr e2];exact DL (TU hk▸h1) (TU hk▸h2)
   |none=>
    rw[e2]at hk;cases e3:bh M r with
    |some l=>rw[e3]at hk;exact B8 e3 (TU hk▸h1) (TU hk▸h2)
    |none=>rw[e3]at hk;exact nn hk
 ·refine cs h λl hl g=>cs (ct g).2 λxs hx g'=>cs g' λls hs h=>?_
  refine(dN hl).symm▸?_;refine(List.isEmpty_iff.mp (ct g).1).symm▸?_;exact Cu hx hs h.1 h.2
 ·refine vy (R:=λa=>BC n "chr" [a] M Q) h λi h=>?_
  refine aj (Vt h.1) λk KY=>?_
  subst KY;exact Cb (by exact ab [_] X0 (Ar.n 1114111) X0 (Ar.n 1114111) (rM (b:=1114111) h.2.1) rfl) h.2.2
 ·refine((kq hp).1).symm▸?_;refine(dN hl).symm▸?_;exact CJ (kq hp).2 h
theorem vB(hn:0<n){id:String}(h:pX id vs M Q):BC n id vs M Q:=by
 refine aj (fU h) λf KY=>?_
 exact DV hn _ (vA KY.1) vs M Q KY.2
noncomputable def mL:List (Nat×String):=[(146,"list.append"),(23,"list.pop"),(147,"list.extend")]
noncomputable def mS:List (Nat×String):=[(71,"str.join"),(42,"str.find"),(121,"str.lower"),(162,"str.rstrip"),(133,"str.split"),(139,"str.index")]
noncomputable def fZ(M:aa)(r:V)(k:Nat):Option String:=match bh M r with
 |some _=>aak mL k
 |none=>match cb r with
  |some _=>aak mS k
  |none=>match fW M r with
   |some _=>aak [(30,"dict.get")] k
   |none=>TW
theorem fH{α:Type}{P:α->Prop}{a:α}{l:List α}(h:P a)(t:∀x∈l,P x):∀x∈a::l,P x:=List.forall_mem_cons.mpr ⟨h,t⟩
theorem pZ{α:Type}{P:α->Prop}:∀x∈([]:List α),P x:=λ_ h=>nomatch h
theorem DW{M:aa}{r:V}{k:Nat}{id:String}(h:fZ M r k=TR id):dw M r k id:=by
 unfold fZ at h;cases hl:bh M r with
 |some xs=>rw[hl]at h;exact ml (P:=dw M r) (l:=mL) (fH (Ch hl) (fH (Ci hl) (fH (Cj hl) pZ))) h
 |none=>
  rw[hl]at h;cases hs:cb r with
  |some l=>rw[hs]at h;refine(dN hs).symm▸?_;exact ml (P:=dw M (.str l)) (l:=mS) (fH uB (fH Ck (fH Cl (fH Cm (fH Cn (fH Co pZ)))))) h
  |none=>
   rw[hs]at h;cases hd:fW M r with
   |some p=>rw[hd]at h;refine((kq hd).1).symm▸?_;exact ml (P:=dw M (.ref p.1)) (l:=[(30,"dict.get")]) (fH (CI (kq hd).2) pZ) h
   |none=>rw[hd]at h;exact nn h
def vC(op:Operator)(a b:V)(M:aa)(Q:PQ):Prop:=match op with
 | .Add=>o2 (bJ a) (bJ b) (λx y=>Q (.int (x+y)) M) (o2 (cb a) (cb b) (λx y=>x.length+y.length<=Ub/\Q (.str (x++y)) M) (o2 (bh M a) (bh M b) (λx y=>x.length+y.length<=Ub/\j8 M (x++y) Q) False))
 | .Sub=>o2 (bJ a) (bJ b) (λx y=>Q (.int (x-y)) M) False
 | .Mult=>o2 (bJ a) (bJ b) (λx y=>x.natAbs<2^64/\Q (.int (x*y)) M) False
 | .Mod=>o2 (bJ a) (bJ b) (λx y=>y≠0/\Q (.int (x.fmod y)) M) False
 | .FloorDiv=>o2 (bJ a) (bJ b) (λx y=>y≠0/\y.natAbs<1073741824/\Q (.int (x.fdiv y)) M) False
 | .Pow=>o2 (bJ a) (bJ b) (λx y=>0<=y/\y<=1000000/\x.natAbs<2^64/\Q (.int (x^y.toNat)) M) False
 |_=>False
theorem DX{op:Operator}{a b:V}{M:aa}{Q:PQ}(h:vC op a b M Q):du op a b M Q:=by
 induction op with
 |Add=>exact fX (R2:=λa b=>du .Add a b M Q) h (λ_ _ h=>A7 h) λh=>DT (R2:=λa b=>du .Add a b M Q) h (λ_ _ h=>Bb h.1 h.2) λh=>im h (λ_ _ hx hy h=>Ct hx hy h.1 h.2) Vo
 |Sub=>exact fX (R2:=λa b=>du .Sub a b M Q) h (λ_ _ h=>A8 h) Vo
 |Mult=>exact fX (R2:=λa b=>du .Mult a b M Q) h (λ_ _ h=>A9 (DM h.1) h.2) Vo
 |Mod=>exact fX (R2:=λa b=>du .Mod a b M Q) h (λ_ _ h=>Ba h.1 h.2) Vo
 |FloorDiv=>exact fX (R2:=λa b=>du .FloorDiv a b M Q) h (λ_ _ h=>CZ h.1 h.2.1 h.2.2) Vo
 |Pow=>
  refine fX (R2:=λa b=>du .Pow a b M Q) h (λx y h=>?_) Vo;refine aj (Vt h.1) λk KY=>?_
  subst KY;exact C0 (by exact ab [_] X0 (Ar.n 1000000) X0 (Ar.n 1000000) (rM (b:=1000000) h.2.1) rfl) h.2.2.1 h.2.2.2
 |_=>exact h.elim
noncomputable def cT:Option Bool->Option Bool
 |some b=>TR (!b)
 |none=>TW
noncomputable def oo{α β:Type}(o:Option α)(u:Option β)(f:α->β->Option Bool):Option Bool:=bo o λx=>bo u λy=>f x y
theorem qa{α β:Type}{R:Prop}{o:Option α}{u:Option β}{f:α->β->Option Bool}{r:Bool}(h:oo o u f=TR r)(k:∀x y,o=TR x->u=TR y->f x y=TR r->R):R:=bQ h λx hx h=>bQ h λy hy h=>k x y hx hy h
noncomputable def c2(f:Int->Int->Bool)(a b:V):Option Bool:=oo (bJ a) (bJ b) λx y=>TR (f x y)
theorem kr{R:V->V->Bool->Prop}{f:Int->Int->Bool}{a b:V}{r:Bool}(h:c2 f a b=TR r)(k:∀x y,R (.int x) (.int y) (f x y)):R a b r:=qa h λx y e e' h=>fG e▸fG e'▸TU h▸k x y
theorem DY{f:Int->Int->Bool}{a b:V}{r:Bool}(h:c2 f a b=TR r):∃x y,a=.int x/\b=.int y/\r=f x y:=kr (R:=λa b r=>∃x y,a=.int x/\b=.int y/\r=f x y) h λx y=>⟨x,y,rfl,rfl,rfl⟩
noncomputable def mt(a b:V):Option Bool:=oo (fV a) (cb b) λc l=>TR (decide (c∈l))
theorem vD{R:V->V->Bool->Prop}{a b:V}{r:Bool}(h:mt a b=TR r)(k:∀c l,R (.str [c]) (.str l) (decide (c∈l))):R a b r:=qa h λx y e e' h=>pR e▸dN e'▸TU h▸k x y
noncomputable def qb(a b:V):Option Bool:=oo (cb a) (ko b) λl xs=>bo (eG xs) λls=>TR (decide (l∈ls))
theorem DZ{R:V->V->Bool->Prop}{a b:V}{r:Bool}(h:qb a b=TR r)(k:∀l xs ls,eG xs=TR ls->R (.str l) (.tup xs) (decide (l∈ls))):R a b r:=qa h λx y e e' h=>bQ h λls hs h=>dN e▸DP e'▸TU h▸k x y ls hs
noncomputable def bA(op:CmpOp)(a b:V)(M:aa):Option Bool:=match op with
 | .Eq=>cn M a b
 | .NotEq=>cT (cn M a b)
 | .Is=>c6 a b
 | .IsNot=>cT (c6 a b)
 | .Lt=>c2 (λx y=>decide (x<y)) a b
 | .LtE=>c2 (λx y=>decide (x<=y)) a b
 | .Gt=>c2 (λx y=>decide (x>y)) a b
 | .GtE=>c2 (λx y=>decide (x>=y)) a b
 |.In=>(match ko b with
  |some _=>qb a b
  |none=>mt a b)
 | .NotIn=>cT (mt a b)
theorem qc{R:Bool->Prop}{o:Option Bool}{r:Bool}(h:cT o=TR r)(k:∀b,o=TR b->R (!b)):R r:=by
 induction o with
 |none=>exact nn h
 |some b=>exact TU h▸k b rfl
theorem vE{op:CmpOp}{a b:V}{M:aa}{r:Bool}(h:bA op a b M=TR r):cy op a b M r:=by
 induction op with
 |Eq=>exact Bw h
 |NotEq=>exact qc (R:=cy .NotEq a b M) h λb hb=>Bx hb
 |Is=>exact Bg h
 |IsNot=>exact qc (R:=cy .IsNot a b M) h λb hb=>Bh hb
 |Lt=>exact kr (R:=λa b r=>cy .Lt a b M r) h λ_ _=>Bi
 |LtE=>exact kr (R:=λa b r=>cy .LtE a b M r) h λ_ _=>Bj
 |Gt=>exact kr (R:=λa b r=>cy .Gt a b M r) h λ_ _=>Bk
 |GtE=>exact kr (R:=λa b r=>cy .GtE a b M r) h λ_ _=>Bl
 |In=>
  replace h:(match ko b with|some _=>qb a b|none=>mt a b)=TR r:=h;cases hb:ko b with
  |some _=>rw[hb]at h;exact DZ (R:=λa b r=>cy .In a b M r) h λ_ _ _ hs=>BD hs
  |none=>rw[hb]at h;exact vD (R:=λa b r=>cy .In a b M r) h λ_ _=>By
 |NotIn=>exact qc (R:=cy .NotIn a b M) h λ_ hb=>vD (R:=λa b r=>cy .NotIn a b M (!r)) hb λ_ _=>Bz
noncomputable def mu(xs:List V):Int->Option V
 | .ofNat k=>if k<2^62 then xs[k]? else TW
 | .negSucc k=>if k=0 then(if xs.length<2^62 then xs.getLast? else TW)else TW
noncomputable def D5(l:List Nat):Int->Option V
 |.ofNat k=>if k<2^62 then(match l[k]? with
  |some c=>TR (.str [c])
  |none=>TW)else TW
 | .negSucc _=>TW
noncomputable def bc(M:aa)(o i:V):Option V:=match bJ i with
 |some i=>(match cb o with
  |some l=>D5 l i
  |none=>match bh M o with
   |some xs=>mu xs i
   |none=>TW)
 |none=>TW
theorem D6{M:aa}{o i r:V}{Q:PQ}(h:bc M o i=TR r)(q:Q r M):Sub o i M Q:=by
 unfold bc at h;cases hi:bJ i with
 |none=>rw[hi]at h;exact nn h
 |some i=>
  rw[hi]at h;refine(fG hi).symm▸?_;dsimp only at h;cases hs:cb o with
  |some l=>
   rw[hs]at h;refine(dN hs).symm▸?_;induction i with
   |negSucc k=>exact nn h
   |ofNat k=>
    refine mj (c:=k<2^62) h λhk h=>?_
    cases hc:l[k]? with
    |none=>rw[hc]at h;exact nn h
    |some c=>rw[hc]at h;exact BI hc hk (TU h▸q)
  |none=>
   rw[hs]at h;dsimp only at h;cases hl:bh M o with
   |none=>rw[hl]at h;exact nn h
   |some xs=>
    rw[hl]at h;induction i with
    |ofNat k=>exact mj (c:=k<2^62) h λhk h=>BG hl h hk q
    |negSucc k=>
     refine mj (c:=k=0) h λhk h=>?_
     refine(hk).symm▸?_;exact mj (c:=xs.length<2^62) h λhz h=>BH hl h hz q
def vF(o l h:V)(M:aa)(Q:PQ):Prop:=oC (cb o) (λx=>o2 (ik 0 l) (ik x.length h) (λa b=>x.length<=Ub/\Q (.str ((x.drop a).take (b-a))) M) False) (o2 (mm o) (bJ h) (λxs k=>c6 l .none=TR TV/\0<=k/\xs.length<=Ub/\Q (.lst (xs.take k.toNat)) M) False)
theorem D7{l:V}(h:c6 l .none=TR TV):l=.none:=by cases l<;>(first|exact nn h|cases h);rfl
theorem D9{o l h:V}{M:aa}{Q:PQ}(q:vF o l h M Q):lY o l h M Q:=by
 refine(pP q).elim (λ⟨x,hx,q⟩=>?_) λq=>im q.2 (λxs k h1 h2 h=>?_) Vo
 ·refine(dN hx).symm▸?_;exact im q (λa b h1 h2 h=>BL h.1 h1 h2 h.2) Vo
 ·refine(vr h1).symm▸?_;refine(fG h2).symm▸?_;refine(D7 h.1).symm▸?_;refine aj (Vt h.2.1) λk KY=>?_
  subst KY;exact DN h.2.2.1 h.2.2.2
end
section
variable[HasP]
theorem gQ{n:Nat}{ρ:af}{M:aa}{xs:List X}{Q Q':List V->aa->Prop}{E:PE}(h:dK n ρ M xs Q E)(i:∀r M,Q r M->Q' r M):dK n ρ M xs Q' E:= λsc e hT c B own s pos K0 S=>aT.map (h sc e hT c B own s pos K0 S) λ_ _ _ ⟨r,hr,q⟩=>⟨r,hr,i _ _ q⟩
theorem gR{n:Nat}{ρ:af}{M:aa}{x:X}{Q Q':Bool->aa->Prop}{E:PE}(h:dr n ρ M x Q E)(i:∀r M,Q r M->Q' r M):dr n ρ M x Q' E:= λsc e hT c B own s K0 S=>aT.map (h sc e hT c B own s K0 S) λ_ _ _ q=>i _ _ q
theorem vG{n:Nat}{ρ:af}{M:aa}{x:Option X}{Q Q':PQ}{E:PE}(h:ja n ρ M x Q E)(i:∀r M,Q r M->Q' r M):ja n ρ M x Q' E:=by
 induction x with
 |none=>exact i _ _ h
 |some x=>exact bL h i
set_option tactic.hygienic true in
theorem Ea{n:Nat}{ρ:af}{M:aa}{o:X}{a:Nat}{xs:List X}{Q:PQ}{E:PE}(h:Ev n ρ M o (λro M0=>(∃C fs f,cm M0 ro=TR (C,fs)/\b0 C a=TR f/\aak fs a=TW/\j0 C=TV/\ib f=TV/\dK n ρ M0 xs (λvs M1=>dL n (.ref f) (ro::vs) M1 Q E) E) \/∃id,dw M0 ro a id/\dK n ρ M0 xs (λvs M1=>BC n id (ro::vs) M1 Q) E) E):Ev n ρ M (.meth o a xs) Q E:=by
 intro sc e hT c B own s K0 S;induction hT with
 |meth ok hp hlen LM NI hs=>
  rename_i oe ae ap as p;show Uh _ _ (do
   let ov<-attributeBase oe ae c.env (eval oe c.env)
   standAt ap.atName
   methodCall oe ae ap p c.env ov (as.length+0) (VP p (U1 as c.env)) []) _ _ _
  refine(iZ hp).symm▸?_;refine aT.bind S (h _ _ NI c B own s K0 S) λv s1 B1 K1 M1 ⟨ro,hv,hk⟩ S1 l1=>?_
  refine wpAny_bind (wpAny_standAt ?_);have few:Vy (as.length+0) (VP p (U1 as c.env)) []=TV:=by unfold Vy;refine((hs.plain c.env p).2).symm▸?_;simp[hlen]
  unfold methodCall;refine(few).symm▸?_;rcases hk with⟨C,fs,f,I,hm,MP,MQ,hc,k⟩|⟨id,hm,k⟩
  ·have KZ:=AC (P:=c.w.params) ok hm;have MN:=KZ.1;have Sp:=KZ.2;refine jJ (lL S1.sta I hv) λx ox od es n' KY=>?_
   have K6:=KY.1;subst K6;have CF:=lK (P:=c.w.params) MQ;refine wpAny_bind (wpAny_holding ?_);show Uh _ _ (getMethod (.ref x) ae _) _ _ _;refine method_fn S1.kin KY.2.1 CF.ga CF.gat MN (beq_iff_eq.mp Sp) (KY.2.2.2.shadow KY.2.2.1 ok MP) ?_;dsimp only;have LZ:Vq TV oe c.env ap p=pure p:=by unfold Vq;refine(LM).symm▸?_;rfl
   refine(LZ).symm▸?_;refine wpAny_bind (wpAny_pure ?_);refine j6 (P:=(KW c.w.params).In) hs (lR hc) (wpAny_mono (k _ _ hs c B1 K1 s1 _ K0 S1) (λvs s2 h2=>?_) λ_ _ h=>h);obtain⟨B2,K9,M2,⟨rs,r2,k⟩,T2,P2,q2⟩:=h2;have S2:=S1.step T2 P2;exact⟨S2.kin,wpAny_mono (wpAny_call (k c.w c.A c.base c.fr B2 K9 s2 _ _ (S2.sc (UE _)) (.ref f) (.cons (hv.mono P2.le) r2))) (λv s3 h3=>h3.step P2 q2) λ_ _ h3=>h3.step P2 q2⟩
  ·refine wpAny_bind (wpAny_holding ?_);show Uh _ _ (getMethod v ae _) _ _ _;refine hm _ _ _ _ _ _ _ _ _ _ S1.sta hv ok rfl ?_;dsimp only;have LZ:Vq TV oe c.env ap p=pure p:=by unfold Vq;refine(LM).symm▸?_;rfl
   refine(LZ).symm▸?_;refine wpAny_bind (wpAny_pure ?_);have go:Uh (Uj pw c.w) c.A (spliced (VP p (U1 as c.env))) (λvs s2=>Uh (Uj pw c.w) c.A (Vl (.builtin id) (v::vs)) (aC B1 K1 s1 Q) (bg B1 K1 s1 E) s2) (bg B1 K1 s1 E) s1:=by
    refine wpAny_mono (k _ _ hs c B1 K1 s1 p K0 S1) (λvs s2 h2=>?_) λ_ _ h=>h
    obtain⟨B2,K9,M2,⟨rs,r2,k⟩,T2,P2,q2⟩:=h2;have S2:=S1.step T2 P2;exact wpAny_mono (k c ρ B2 K9 s2 _ (bg B1 K1 s1 E) S2 (.cons (hv.mono P2.le) r2)) (λv s3 h3=>h3.step P2 q2) λ_ _ h3=>h3
   refine callWith_builtin (hs.plain c.env p).1 ?_;exact lQ hs go
@[irreducible] noncomputable def CT(n:Nat)(f:V)(args:List V)(M:aa)(Q:PQ)(E:PE):Prop:=dL n f args M Q E
theorem ip(h:dL n f args M Q E):CT n f args M Q E:=by unfold CT;exact h
theorem iq{n:Nat}{f:V}{args:List V}{M:aa}{Q:PQ}{E:PE}(h:CT n f args M Q E):dL n f args M Q E:=by unfold CT at h;exact h
noncomputable def vH(v:V):Option String:=V.casesOn (motive_1:=λ_=>Option String) v TW (λ_=>TW) (λ_=>TW) (λ_=>TW) (λ_=>TW) (λ_=>TW) (λ_ _=>TW) (λ_ _ _=>TW) (λ_=>TW) (λid=>TR id) (λ_=>TW) (λ_=>TW)
theorem Eb{v:V}(h:vH v=TR a):v=.bi a:=by
 cases v with
 |bi id=>rw[TU h]
 |_=>exact nn h
noncomputable def qd(x:X):Option TX:=bo (lu x) vq
noncomputable def vI(x:X):Option String:=bo (lu x) vH
theorem vJ{x:X}{a:TX}(h:qd x=TR a):x=.cst (.ref a):=bQ h λv hv h=>by rw[om hv,DO h]
theorem Ec{x:X}{a:String}(h:vI x=TR a):x=.cst (.bi a):=bQ h λv hv h=>by rw[om hv,Eb h]
noncomputable def vK(o:X)(k:Nat):Option TX:=gB (UN k 203) (bo (qd o) pJ)
theorem Ed{o:X}{k:Nat}{f:TX}(h:vK o k=TR f):∃C,o=.cst (.ref C)/\k=203/\pJ C=TR f:=bQ (gD h).2 λC hC h'=>⟨C,vJ hC,Ut (gD h).1,h'⟩
noncomputable def vL:List TX:=[38,68,71,89,96,103,124,134,152,155,173,176,194,197,215,218,236,239,257,260,278,281,299,302,320,323,330,335,343,350,367,387,406,425,463,474,537,579,582,593,600,607,615,622,629,727,735,742,747,754,768,771,782,789,808,822,829,836,843,851,874,877,888,895,902,909,916,923,930,945,952,966,973,980,987,994,1001,1008,1015,1018,1036,1039,1058,1065,1072,1079,1086,1093,1100,1107,1114,1121,1124,1136,1143,1150,1157,1164,1171,1185,1192,1199,1206,1213,1220,1227,1230,1242,1250,1257,1269,1276,1281,1288,1295,1302,1309,1316,1323,1330]
noncomputable def kt:Nat:=23621119775036461502118033525070644780460171609863541874528271647591146704739850020270928212754323732352256129547746641053171985187283581665961018493992607321637218058407140923651905266282420362693609247955967486288168903587975396180573738377086378121206110005124406323782478261851830041143467650472601834928128868997297859797388582797203274283141484667990892007844412760886592587370518470092474286080
noncomputable def ku(a:TX):Bool:=UN (Nat.land (Zd kt a) 1) 1
theorem Ee:vL.all ib=TV:=by kernel_rfl
theorem Ef:(Xs 1400).all (λa=> !ku a||vL.contains a)=TV:=by kernel_rfl
theorem qe{a:TX}(h:ku a=TV):ib a=TV:=by
 by_cases z:a<1400
 ·have:=List.all_eq_true.mp Ef a (List.mem_range.mpr z);rw[h]at this;exact List.all_eq_true.mp Ee a (List.contains_iff_mem.mp (by simpa using this))
 ·have e:Zd kt a=0:=by show kt>>>a=0;rw[Nat.shiftRight_eq_div_pow];exact Nat.div_eq_of_lt (Yq (show kt<2^1400 by unfold kt;decide+kernel) (Nat.pow_le_pow_right (by exact TY _) (UQ z)))
  unfold ku at h;rw[e]at h;exact absurd h (by decide)
noncomputable def vM{α:Type}:Option α->Bool
 |none=>TV
 |some _=>TT
theorem Eg{α:Type}{o:Option α}(h:vM o=TV):o=TW:=by
 induction o with
 |none=>rfl
 |some a=>exact bf h
noncomputable def dA:BoolOp->Bool->Bool
 | .And,b=>b
 | .Or,b=> !b
noncomputable def Eh{α:Type}:List α->Bool
 |_::_::_=>TV
 |_=>TT
def Ei(r:V)(M:aa)(Q:PQ):Prop:=oC (cb r) (λl=>l.length<=Ub/\Q (.str l) M) (oS (bJ r) λi=>i.natAbs.log2<1920/\Q (.str (eH i)) M)
section
variable(Q:PQ)
def Ej(M1:aa):V->Prop:=λr=>oT (aY r) (Q r M1)
def Ek(k:Nat):PQ:=λro M1=>oS (ia M1 ro k) (Ej Q M1)
def El(n:Nat)(E:PE)(a:TX):List V->aa->Prop:=λvs M1=>CT n (.ref a) vs M1 Q E
def Em(n:Nat)(E:PE)(a:TX)(ro:V):List V->aa->Prop:=λvs M1=>CT n (.ref a) (ro::vs) M1 Q E
def En(id:String):List V->aa->Prop:=λvs M1=>pX id vs M1 Q
def Eo(id:String)(ro:V):List V->aa->Prop:=λvs M1=>pX id (ro::vs) M1 Q
def vN(f:(List V->aa->Prop)->Prop)(n:Nat)(E:PE):TX->Prop:=λa=>oT (ku a) (f (El Q n E a))
def Ep(f:(List V->aa->Prop)->Prop):String->Prop:=λid=>f (En Q id)
def Er(f:(List V->aa->Prop)->Prop)(n:Nat)(E:PE)(ro:V)(p:TX×List (Nat×V))(k:Nat):TX->Prop:=λa=>oT (vM (aak p.2 k)) (oT (j0 p.1) (oT (ku a) (f (Em Q n E a ro))))
def Es(f:(List V->aa->Prop)->Prop)(n:Nat)(E:PE)(ro:V)(k:Nat):TX×List (Nat×V)->Prop:=λp=>oS (b0 p.1 k) (Er Q f n E ro p k)
def Et(f:(List V->aa->Prop)->Prop)(ro:V):String->Prop:=λid=>f (Eo Q id ro)
def Eu(f:aa->(List V->aa->Prop)->Prop)(n:Nat)(E:PE)(k:Nat):PQ:=λro M0=>oC (cm M0 ro) (Es Q (f M0) n E ro k) (oS (fZ M0 ro k) (Et Q (f M0) ro))
def ky(f:aa->PQ->Prop)(g:V->PQ):PQ:=λra M1=>f M1 (g ra)
def Ew(op:Operator)(ra:V):PQ:=λrb M2=>vC op ra rb M2 Q
def Ey(M1:aa):Bool->Prop:=λb=>Q (.bool (!b)) M1
def Ez:PQ:=λr M1=>oS (io r) (Ey Q M1)
def EA(M1:aa):Int->Prop:=λi=>Q (.int (-i)) M1
def EB:PQ:=λr M1=>oS (bJ r) (EA Q M1)
def EC(M2:aa):Bool->Prop:=λr=>Q (.bool r) M2
def ED(op:CmpOp)(ra:V):PQ:=λrb M2=>oS (bA op ra rb M2) (EC Q M2)
def vO(M2:aa):V->Prop:=λr=>Q r M2
def vP(ro:V):PQ:=λri M2=>oS (bc M2 ro ri) (vO Q M2)
def EE(ro rl:V):PQ:=λrh M3=>vF ro rl rh M3 Q
def EF(f:aa->PQ->Prop)(ro:V):PQ:=λrl M2=>f M2 (EE Q ro rl)
def EG(g f:aa->PQ->Prop):PQ:=λro M1=>g M1 (EF Q f ro)
def EH:List V->aa->Prop:=λrs M1=>oT (W6 rs.length 1000) (j8 M1 rs Q)
def EI:List V->aa->Prop:=λrs M1=>oT (W6 rs.length 1000) (Q (.tup rs) M1)
def EJ:PQ:=λr M1=>Ei r M1 Q
def EK(n:Nat)(x:X)(k:Nat)(cond:Option X)(M1:aa):List V->Prop:=λitems=>∃rs,gP n k x cond items rs/\rs.length<=Ub/\Q (.lst rs) M1
def EL(n:Nat)(x:X)(k:Nat)(cond:Option X):PQ:=λr M1=>oS (kl r) (EK Q n x k cond M1)
def EM(f:aa->PQ->Prop)(op:BoolOp)(M1:aa):Bool->Prop:=λb=>oB (dA op b) (f M1 Q) (Q (.bool b) M1)
def EN(f:aa->PQ->Prop)(op:BoolOp):PQ:=λr M1=>oS (io r) (EM Q f op M1)
def EO(f:List Nat->aa->PQ->Prop)(acc:List Nat)(M1:aa):List Nat->Prop:=λl=>(acc++l).length<=Ub/\f (acc++l) M1 Q
def EP(f:List Nat->aa->PQ->Prop)(acc:List Nat):PQ:=λr M1=>oS (cb r) (EO Q f acc M1)
end
def EQ(r:V)(Q:List V->aa->Prop):List V->aa->Prop:=λrs M2=>Q (r::rs) M2
def ER(f:aa->(List V->aa->Prop)->Prop)(Q:List V->aa->Prop):PQ:=λr M1=>f M1 (EQ r Q)
def ES(f g:aa->PQ->Prop)(Q:PQ):Bool->aa->Prop:=λc M1=>oB c (f M1 Q) (g M1 Q)
section
variable(Q:Bool->aa->Prop)
def ET:Bool->aa->Prop:=λb M1=>Q (!b) M1
def mv(M2:aa):Bool->Prop:=λr=>Q r M2
def EU(op:CmpOp)(ra:V):PQ:=λrb M2=>oS (bA op ra rb M2) (mv Q M2)
def EV(M:aa):V->Prop:=λv=>oS (io v) (mv Q M)
def mw:PQ:=λr M1=>oS (io r) (mv Q M1)
def tA(f:aa->(Bool->aa->Prop)->Prop)(op:BoolOp):Bool->aa->Prop:=λb M1=>oB (dA op b) (f M1 Q) (Q b M1)
end
mutual
def bn(n:Nat)(ρ:af)(E:PE):Nat->X->aa->PQ->Prop
 |0,_,_,_=>False
 |d+1,x,M,Q=>match x with
  | .cst v=>Q v M
  | .loc k=>oS (aak ρ k) (vO Q M)
  | .attr o k=>bn n ρ E d o M (Ek Q k)
  | .call f xs=>oC (qd f) (vN Q (f8 n ρ E d xs M) n E) (oS (vI f) (Ep Q (f8 n ρ E d xs M)))
  | .meth o k xs=>oC (vK o k) (vN Q (f8 n ρ E d xs M) n E) (bn n ρ E d o M (Eu Q (f8 n ρ E d xs) n E k))
  | .bin op a b=>bn n ρ E d a M (ky (bn n ρ E d b) (Ew Q op))
  | .not x=>bn n ρ E d x M (Ez Q)
  | .neg x=>bn n ρ E d x M (EB Q)
  | .band xs=>mx .And n ρ E d xs M Q
  | .bor xs=>mx .Or n ρ E d xs M Q
  | .cmp op a b=>bn n ρ E d a M (ky (bn n ρ E d b) (ED Q op))
  | .ite t a b=>f9 n ρ E d t M (ES (bn n ρ E d a) (bn n ρ E d b) Q)
  | .sub o i=>bn n ρ E d o M (ky (bn n ρ E d i) (vP Q))
  | .slc o l h=>bn n ρ E d o M (EG Q (qf n ρ E d l) (qf n ρ E d h))
  | .lst xs=>f8 n ρ E d xs M (EH Q)
  | .tup xs=>f8 n ρ E d xs M (EI Q)
  | .fst xs=>oT (Eh xs) (qg n ρ E d xs [] M Q)
  | .fmt x=>bn n ρ E d x M (EJ Q)
  | .comp x k it cond=>bn n ρ E d it M (EL Q n x k cond)
  | .edict=>∀a,dz a M->Q (.ref a) ((a,.dict [])::M)
  | .dead=>False
def f8(n:Nat)(ρ:af)(E:PE):Nat->List X->aa->(List V->aa->Prop)->Prop
 |0,_,_,_=>False
 |d+1,xs,M,Q=>match xs with
  | []=>Q [] M
  |x::xs=>bn n ρ E d x M (ER (f8 n ρ E d xs) Q)
def qf(n:Nat)(ρ:af)(E:PE):Nat->Option X->aa->PQ->Prop
 |0,_,_,_=>False
 |d+1,x,M,Q=>match x with
  |none=>Q .none M
  |some x=>bn n ρ E d x M Q
def mx(op:BoolOp)(n:Nat)(ρ:af)(E:PE):Nat->List X->aa->PQ->Prop
 |0,_,_,_=>False
 |d+1,xs,M,Q=>match xs with
  | []=>False
  | [x]=>bn n ρ E d x M Q
  |x::y::xs=>bn n ρ E d x M (EN Q (mx op n ρ E d (y::xs)) op)
def qg(n:Nat)(ρ:af)(E:PE):Nat->List X->List Nat->aa->PQ->Prop
 |0,_,_,_,_=>False
 |d+1,xs,acc,M,Q=>match xs with
  | []=>acc.length<=Ub/\Q (.str acc) M
  |x::xs=>bn n ρ E d x M (EP Q (qg n ρ E d xs) acc)
def f9(n:Nat)(ρ:af)(E:PE):Nat->X->aa->(Bool->aa->Prop)->Prop
 |0,_,_,_=>False
 |d+1,x,M,Q=>match x with
  | .not x=>f9 n ρ E d x M (ET Q)
  | .band xs=>my .And n ρ E d xs M Q
  | .bor xs=>my .Or n ρ E d xs M Q
  | .cmp op a b=>bn n ρ E d a M (ky (bn n ρ E d b) (EU Q op))
  | .cst v=>oS (io v) (mv Q M)
  | .loc k=>oS (aak ρ k) (EV Q M)
  | .attr o k=>bn n ρ E d (.attr o k) M (mw Q)
  | .call f xs=>bn n ρ E d (.call f xs) M (mw Q)
  | .meth o k xs=>bn n ρ E d (.meth o k xs) M (mw Q)
  | .sub o i=>bn n ρ E d (.sub o i) M (mw Q)
  |_=>False
def my(op:BoolOp)(n:Nat)(ρ:af)(E:PE):Nat->List X->aa->(Bool->aa->Prop)->Prop
 |0,_,_,_=>False
 |d+1,xs,M,Q=>match xs with
  | []=>Q (dA op TV) M
  |x::xs=>f9 n ρ E d x M (tA Q (my op n ρ E d xs) op)
end
structure qh(n:Nat)(ρ:af)(E:PE)(d:Nat):Prop where
 x:∀{x M Q},bn n ρ E d x M Q->Ev n ρ M x Q E
 l:∀{xs M Q},f8 n ρ E d xs M Q->dK n ρ M xs Q E
 o:∀{x M Q},qf n ρ E d x M Q->ja n ρ M x Q E
 b:∀{op xs M Q},mx op n ρ E d xs M Q->kn op n ρ Q E xs M
 j:∀{xs acc M Q},qg n ρ E d xs acc M Q->JS n ρ Q E xs acc M
 t:∀{x M Q},f9 n ρ E d x M Q->dr n ρ M x Q E
 a:∀{op xs M Q},my op n ρ E d xs M Q->fC op n ρ M xs Q E
theorem ji(hx:ub x=TV)(h:Ev n ρ M x (λr M1=>oS (io r) λb=>Q b M1) E):dr n ρ M x Q E:=AQ hx (bL h λr M h=>cs h λb hb h=>⟨b,pQ hb,h⟩)
theorem EW{n:Nat}{ρ:af}{E:PE}{d:Nat}(hn:0<n)(ih:qh n ρ E d){x:X}{M:aa}{Q:PQ}(h:bn n ρ E (d+1) x M Q):Ev n ρ M x Q E:=by
 cases x with
 |cst v=>exact fR h
 |loc k=>exact cs h λv hv h=>oZ hv h
 |attr o k=>exact AF (bL (ih.x h) λro M1 h=>cs h λr hr h=>⟨r,hr,ct h⟩)
 |call f xs=>
  refine mi h (λa ha h=>?_) λ_ h=>cs h λid LY h=>?_
  ·refine(vJ ha).symm▸?_;exact AO (qe (ct h).1) (gQ (ih.l (ct h).2) λ_ _=>iq)
  ·refine(Ec LY).symm▸?_;exact B6 (gQ (ih.l h) λ_ _=>vB hn)
 |meth o k xs=>
  refine mi h (λf hf g=>?_) λ_ h=>Ea (bL (ih.x h) λro M0 h=>mi h (λp hi h=>cs h λf hf h=>?_) λ_ h=>cs h λid LY h=>.inr ⟨id,DW LY,gQ (ih.l h) λ_ _=>vB hn⟩)
  ·refine aj (Ed hf) λC KY=>?_
   refine(KY.1).symm▸?_;refine(KY.2.1).symm▸?_;exact Dn KY.2.2 (qe (ct g).1) (gQ (ih.l (ct g).2) λ_ _=>iq)
  ·exact .inl ⟨p.1,p.2,f,hi,hf,Eg (ct h).1,(ct (ct h).2).1,qe (ct (ct (ct h).2).2).1,gQ (ih.l (ct (ct (ct h).2).2).2) λ_ _=>iq⟩
 |bin op a b=>exact A6 (bL (ih.x h) λra M1 h=>bL (ih.x h) λrb M2 h=>DX h)
 |not x=>exact A0 (bL (ih.x h) λr M1 h=>cs h λb hb h=>⟨b,pQ hb,h⟩)
 |neg x=>exact C1 (bL (ih.x h) λr M1 h=>cs h λb hb h=>⟨b,fG hb,h⟩)
 |band xs=>exact DJ (ih.b h)
 |bor xs=>exact DK (ih.b h)
 |cmp op a b=>exact AY (bL (ih.x h) λra M1 h=>bL (ih.x h) λrb M2 h=>cs h λr hr h=>⟨r,vE hr,h⟩)
 |ite t a b=>
  refine A1 (gR (ih.t h) λc M1 h=>?_);cases c with
  |true=>exact ih.x h
  |false=>exact ih.x h
 |sub o i=>exact BF (bL (ih.x h) λro M1 h=>bL (ih.x h) λri M2 h=>cs h λr hr h=>D6 hr h)
 |slc o l hh=>exact BJ (bL (ih.x h) λro M1 h=>vG (ih.o h) λrl M2 h=>vG (ih.o h) λrh M3 h=>D9 h)
 |lst xs=>exact Bc (gQ (ih.l h) λrs M1 h=>⟨UI (Us (ct h).1) (Us rfl),(ct h).2⟩)
 |tup xs=>exact Bd (gQ (ih.l h) λrs M1 h=>⟨UI (Us (ct h).1) (Us rfl),(ct h).2⟩)
 |fst xs=>
  have h1:=ct h;cases xs with
  |nil=>exact bf h1.1
  |cons x xs=>
   cases xs with
   |nil=>exact bf h1.1
   |cons y xs=>exact C5 (ih.j h1.2)
 |fmt x=>exact C4 (bL (ih.x h) λr M1 h=>mi h (λl hl h=>.inl ⟨l,dN hl,h.1,h.2⟩) λ_ h=>cs h λi hi h=>.inr ⟨i,fG hi,h.1,h.2⟩)
 |comp x k it cond=>exact Dg hn (bL (ih.x h) λr M1 h=>cs h λitems hi ⟨rs,h⟩=>⟨items,rs,hi,h⟩)
 |edict=>exact CK h
 |dead=>exact h.elim
theorem EX(ih:qh n ρ E d)(h:f9 n ρ E (d+1) x M Q):dr n ρ M x Q E:=by
 cases x with
 |not x=>exact AR (ih.t h)
 |band xs=>exact AW (ih.a h)
 |bor xs=>exact AX (ih.a h)
 |cmp op a b=>exact AZ (bL (ih.x h) λra M1 h=>bL (ih.x h) λrb M2 h=>cs h λr hr h=>⟨r,vE hr,h⟩)
 |cst v=>exact ji rfl (fR h)
 |loc k=>exact cs h λv hv h=>ji rfl (oZ hv h)
 |attr o k=>exact ji rfl (ih.x h)
 |call f xs=>exact ji rfl (ih.x h)
 |meth o k xs=>exact ji rfl (ih.x h)
 |sub o i=>exact ji rfl (ih.x h)
 |_=>exact h.elim
theorem cg(hn:0<n):∀d,qh n ρ E d
 |0=>⟨λh=>h.elim,λh=>h.elim,λh=>h.elim,λh=>h.elim,λh=>h.elim,λh=>h.elim,λh=>h.elim⟩
 |d+1=>by
  have ih:=cg (ρ:=ρ) (E:=E) hn d;refine⟨EW hn ih,λ{xs M Q} h=>?_,λ{x M Q} h=>?_,λ{op xs M Q} h=>?_,λ{xs acc M Q} h=>?_,EX ih,λ{op xs M Q} h=>?_⟩
  ·induction xs with
   |nil=>exact tT h
   |cons x xs=>exact tU (bL (ih.x h) λr M h=>ih.l h)
  ·induction x with
   |none=>exact h
   |some x=>exact ih.x h
  ·induction xs with
   |nil=>exact h.elim
   |cons x xs=>
    induction xs with
    |nil=>exact ih.x h
    |cons y xs=>
     refine bL (ih.x h) λr M1 h=>?_
     obtain⟨b,hb,h⟩:=fU h;refine⟨b,pQ hb,?_⟩;induction op with
     |And=>
      induction b with
      |true=>exact ih.b h
      |false=>exact h
     |Or=>
      induction b with
      |false=>exact ih.b h
      |true=>exact h
  ·induction xs with
   |nil=>exact h
   |cons x xs=>
    refine bL (ih.x h) λr M1 h=>?_
    obtain⟨l,hl,h⟩:=fU h;exact⟨l,dN hl,h.1,ih.j h.2⟩
  ·induction xs with
   |nil=>exact AS (by induction op<;>exact h)
   |cons x xs=>
    induction op with
    |And=>
     refine AU (gR (ih.t h) λb M1 h=>?_);induction b with
     |true=>exact ih.a h
     |false=>exact h
    |Or=>
     refine AV (gR (ih.t h) λb M1 h=>?_);induction b with
     |true=>exact h
     |false=>exact ih.a h
end
section
variable[HasP]
noncomputable def vQ(v:V):Option String:=V.casesOn (motive_1:=λ_=>Option String) v TW (λ_=>TW) (λ_=>TW) (λ_=>TW) (λ_=>TW) (λ_=>TW) (λ_ _=>TW) (λ_ _ _=>TW) (λ_=>TW) (λ_=>TW) (λid=>TR id) (λ_=>TW)
theorem EY{v:V}(h:vQ v=TR a):v=.ty a:=by
 cases v with
 |ty id=>rw[TU h]
 |_=>exact nn h
noncomputable def vR(x:X):Option (List X):=bo (su x) λp=>bo (lu p.1) λv=>bo (vQ v) λt=>bif decide (t="range")then TR p.2 else TW
theorem EZ(h:vR x=TR xs):x=.call (.cst (.ty "range")) xs:=bQ h λp hp h=>bQ h λv hv h=>bQ h λt ht h=>te h (λhd h=>by rw[zA hp,om hv,EY ht,of_decide_eq_true hd,TU h]) λ_ h=>nn h
noncomputable def mz:Int->Option (List V)
 | .ofNat k=>if k<1000000 then TR (c8 1 0 k)else TW
 | .negSucc _=>TW
noncomputable def mA:Int->Option (List V)
 | .ofNat k=>if k<1000000 then TR (c8 (-1) k (k+1))else TW
 | .negSucc 0=>TR []
 | .negSucc (_+1)=>TW
noncomputable def vS(v:V):Option (List V):=V.casesOn (motive_1:=λ_=>Option (List V)) v TW (λ_=>TW) (λi=>mA i) (λ_=>TW) (λ_=>TW) (λ_=>TW) (λ_ _=>TW) (λ_ _ _=>TW) (λ_=>TW) (λ_=>TW) (λ_=>TW) (λ_=>TW)
noncomputable def E0(a:V):Option Bool->Option (List V)
 |some TV=>vS a
 |_=>TW
noncomputable def qi(a b c:V):Option (List V):=E0 a (c2 (λb c=>decide (b= -1)&&decide (c= -1)) b c)
theorem E3(h:qi a b c=TR items):c2 (λb c=>decide (b= -1)&&decide (c= -1)) b c=TR TV/\vS a=TR items:=by
 unfold qi at h;cases hb:c2 (λb c=>decide (b= -1)&&decide (c= -1)) b c with
 |none=>rw[hb]at h;exact nn h
 |some t=>
  rw[hb]at h;induction t with
  |false=>exact nn h
  |true=>exact⟨rfl,h⟩
noncomputable def E4(v:V):Option (List V):=V.casesOn (motive_1:=λ_=>Option (List V)) v TW (λ_=>TW) (λi=>mz i) (λ_=>TW) (λ_=>TW) (λ_=>TW) (λ_ _=>TW) (λ_ _ _=>TW) (λ_=>TW) (λ_=>TW) (λ_=>TW) (λ_=>TW)
noncomputable def gS:List V->Option (List V)
 | [a]=>E4 a
 | [a,b,c]=>qi a b c
 |_=>TW
theorem E5(h:mz i=TR items):jd [.int i] items:=by
 induction i with
 |negSucc k=>exact nn h
 |ofNat k=>
  by_cases hk:k<1000000
  ·rw[show mz (.ofNat k)=TR (c8 1 0 k) from if_pos hk]at h;obtain rfl:=TU h;exact .up k hk
  ·rw[show mz (.ofNat k)=TW from if_neg hk]at h;exact nn h
theorem E6(h:mA i=TR items):jd [.int i,.int (-1),.int (-1)] items:=by
 induction i with
 |ofNat k=>
  by_cases hk:k<1000000
  ·rw[show mA (.ofNat k)=TR (c8 (-1) k (k+1)) from if_pos hk]at h;obtain rfl:=TU h;exact .dn k (k+1) rfl hk
  ·rw[show mA (.ofNat k)=TW from if_neg hk]at h;exact nn h
 |negSucc k=>
  induction k with
  |zero=>obtain rfl:=TU h;exact .dn (-1) 0 rfl (VF _)
  |succ k=>exact nn h
theorem E7(h:gS vs=TR items):jd vs items:=by
 cases vs with
 |nil=>exact nn h
 |cons a r=>
  cases r with
  |nil=>
   cases a with
   |int i=>exact E5 h
   |_=>exact nn h
  |cons b r=>
   cases r with
   |nil=>exact nn h
   |cons c r=>
    cases r with
    |cons d r=>exact nn h
    |nil=>
     obtain⟨hb,h⟩:=E3 h;obtain⟨x,y,rfl,rfl,Nc⟩:=DY hb;have Nc:=Nc.symm;rw[Uq,decide_eq_true_eq,decide_eq_true_eq]at Nc;obtain⟨rfl,rfl⟩:=Nc;cases a with
     |int i=>exact E6 h
     |_=>exact nn h
theorem vT(h:gO n ρ M x Q E)(i:∀r M,Q r M->Q' r M):gO n ρ M x Q' E:= λsc e hT c B own s K0 S=>wpAny_mono (h sc e hT c B own s K0 S) (λv s' h=>wpAny_mono h (λit Lz h=>by obtain⟨B',K2,M',I,items,h1,h2,h3,h4,h5,h6,h7,h8,h9⟩:=h;exact⟨B',K2,M',I,items,h1,i _ _ h2,h3,h4,h5,h6,h7,h8,h9⟩) λ_ _ h=>h) λ_ _ h=>h
def vU(Q:List V->aa->Prop)(M1:aa):List V->Prop:=λitems=>Q items M1
def E8(Q:List V->aa->Prop):List V->aa->Prop:=λvs M1=>oS (gS vs) (vU Q M1)
def E9(Q:List V->aa->Prop):PQ:=λr M1=>oS (kl r) (vU Q M1)
def iL(n:Nat)(ρ:af)(E:PE)(d:Nat)(M:aa)(Q:List V->aa->Prop):List X->Prop:=λxs=>f8 n ρ E d xs M (E8 Q)
def qj(n:Nat)(ρ:af)(E:PE)(d:Nat)(it:X)(M:aa)(Q:List V->aa->Prop):Prop:=oC (vR it) (iL n ρ E d M Q) (bn n ρ E d it M (E9 Q))
theorem vV(hn:0<n)(h:qj n ρ E d it M Q):gO n ρ M it Q E:=by
 rcases pP h with⟨xs,hx,h⟩|⟨_,h⟩
 ·refine(EZ hx).symm▸?_;refine C3 (gQ ((cg hn d).l h) λvs M1 h=>?_);refine aj (fU h) λitems KY=>?_
  exact⟨_,E7 KY.1,KY.2⟩
 ·refine CW (bL ((cg hn d).x h) λr M1 h=>?_);exact fU h
def Fa(ro ri rx:V)(M:aa)(Q:aa->Prop):Prop:=o2 (eJ M ro) (bJ ri) (λp k=>0<=k/\k<p.2.length/\p.2.length<2^62/\Q (ag M p.1 (.list (p.2.set k.toNat rx)))) False
def Fb(ro ri rx:V)(M:aa)(Q:aa->Prop):Prop:=o2 (fW M ro) (cb ri) (λp l=>c7 p.2 l=TW/\p.2.length<=Ub/\Q (ag M p.1 (.dict (p.2++[(l,rx)])))) False
def Fc(k:Nat)(ro rx:V)(M:aa)(Q:aa->Prop):Prop:=oS (jg M ro) λp=>oT (ek p.2.1 k) (oT (W6 p.2.2.length 100) (Q (ag M p.1 (.inst p.2.1 (ag p.2.2 k rx)))))
noncomputable def vW(x:X):Bool:=X.casesOn (motive_1:=λ_=>Bool) x (λ_=>TT) (λk=>UN k 88) (λ_ _=>TT) (λ_ _=>TT) (λ_ _ _=>TT) (λ_ _ _=>TT) (λ_=>TT) (λ_=>TT) (λ_=>TT) (λ_=>TT) (λ_ _ _=>TT) (λ_ _ _=>TT) (λ_ _=>TT) (λ_ _ _=>TT) (λ_=>TT) (λ_=>TT) (λ_=>TT) (λ_=>TT) (λ_ _ _ _=>TT) TT TT
@[irreducible] noncomputable def Ex(n:Nat)(ρ:af)(M:aa)(ss:List XS)(K:PK)(E:PE):Prop:=dq n ρ M ss K E
@[irreducible] noncomputable def ir(n:Nat)(ρ:af)(M:aa)(x:XS)(K:PK)(E:PE):Prop:=cE n ρ M x K E
@[irreducible] noncomputable def Wh(n:Nat)(ρ:af)(M:aa)(t:X)(b:List XS)(K:PK)(E:PE):Prop:=i6 n ρ M t b K E
@[irreducible] noncomputable def Fo(n:Nat)(f:V->af->Option af)(b:List XS)(K:PK)(E:PE)(l:List V)(ρ:af)(M:aa):Prop:=gN n f b K E l ρ M
section
variable{n:Nat}{ρ:af}{M:aa}{E:PE}{K K':PK}
theorem iu(h:dq n ρ M ss K E):Ex n ρ M ss K E:=by unfold Ex;exact h
theorem gT(h:Ex n ρ M ss K E):dq n ρ M ss K E:=by unfold Ex at h;exact h
theorem Fd(h:cE n ρ M x K E):ir n ρ M x K E:=by unfold ir;exact h
theorem vX(h:ir n ρ M x K E):cE n ρ M x K E:=by unfold ir at h;exact h
theorem vY(h:i6 n ρ M t b K E):Wh n ρ M t b K E:=by unfold Wh;exact h
theorem mB(h:Wh n ρ M t b K E):i6 n ρ M t b K E:=by unfold Wh at h;exact h
variable{f:V->af->Option af}{b:List XS}
theorem qk{l:List V}(h:gN n f b K E l ρ M):Fo n f b K E l ρ M:=by unfold Fo;exact h
theorem mC{l:List V}(h:Fo n f b K E l ρ M):gN n f b K E l ρ M:=by unfold Fo at h;exact h
theorem ql(h:cE n ρ M x K E)(i:∀fl ρ M,K fl ρ M->K' fl ρ M):cE n ρ M x K' E:=by
 intro sc e hT c B own s K0 tp S;refine wpAny_mono (h sc e hT c B own s K0 tp S) (λf s1 h=>?_) λ_ _ h=>h
 obtain⟨B1,K1,fl,ρ1,M1,h1,h2,h3,h4,h5,h6⟩:=h;exact⟨B1,K1,fl,ρ1,M1,h1,i _ _ _ h2,h3,h4,h5,h6⟩
theorem kz(h:dq n ρ M x K E)(i:∀fl ρ M,K fl ρ M->K' fl ρ M):dq n ρ M x K' E:=by
 intro sc e hT c B own s K0 tp S;refine wpAny_mono (h sc e hT c B own s K0 tp S) (λf s1 h=>?_) λ_ _ h=>h
 obtain⟨B1,K1,fl,ρ1,M1,h1,h2,h3,h4,h5,h6⟩:=h;exact⟨B1,K1,fl,ρ1,M1,h1,i _ _ _ h2,h3,h4,h5,h6⟩
end
section
variable(K:PK)
def mD(ρ:af):aa->Prop:=λM=>K .next ρ M
def Fe(k:Nat)(ρ:af):PQ:=λr M1=>K .next (ag ρ k r) M1
def Ff(k:Nat)(ρ:af)(rx:V):PQ:=λro M2=>Fc k ro rx M2 (mD K ρ)
def qm(i:X)(ρ:af)(rx ro:V):PQ:=λri M3=>oB (vW i) (Fb ro ri rx M3 (mD K ρ)) (Fa ro ri rx M3 (mD K ρ))
def Fg(f:aa->PQ->Prop)(i:X)(ρ:af)(rx:V):PQ:=λro M2=>f M2 (qm K i ρ rx ro)
def Fh(g f:aa->PQ->Prop)(i:X)(ρ:af):PQ:=λrx M1=>g M1 (Fg K f i ρ rx)
def Fi(ks:List Nat)(ρ:af)(M1:aa):List V->Prop:=λxs=>oT (UN xs.length ks.length) (K .next (cJ ρ ks xs) M1)
def sT(ks:List Nat)(ρ:af):PQ:=λr M1=>oS (l8 r) (Fi K ks ρ M1)
def Fj(ρ:af):PQ:=λ_ M1=>K .next ρ M1
def kA(ρ:af):PQ:=λr M1=>K (.ret r) ρ M1
def Fk(f g:af->aa->PK->Prop)(ρ:af):Bool->aa->Prop:=λc M1=>oB c (f ρ M1 K) (g ρ M1 K)
def vZ(n:Nat)(f:V->af->Option af)(b:List XS)(E:PE)(ρ:af):List V->aa->Prop:=λitems M1=>Fo n f b K E items ρ M1
def iv(f:af->aa->PK->Prop):PK:=λfl ρ1 M1=>match fl with
 | .next=>f ρ1 M1 K
 | .ret v=>K (.ret v) ρ1 M1
 | .cont=>K .cont ρ1 M1
def qn(f:af->aa->Prop):PK:=λfl Lg M2=>match fl with
 | .ret v=>K (.ret v) Lg M2
 |_=>f Lg M2
end
def v6(n:Nat)(rest:List XS)(E:PE):af->aa->PK->Prop:=λρ M K=>Ex n ρ M rest K E
def Fm(n:Nat)(t:X)(b:List XS)(K:PK)(E:PE):af->aa->Prop:=λρ M=>Wh n ρ M t b K E
def v7(n:Nat)(f:V->af->Option af)(b:List XS)(K:PK)(E:PE)(r:List V):af->aa->Prop:=λρ M=>Fo n f b K E r ρ M
mutual
def gb(n:Nat)(E:PE):Nat->XS->af->aa->PK->Prop
 |0,_,_,_,_=>False
 |d+1,x,ρ,M,K=>match x with
  | .asg k x=>bn n ρ E 60 x M (Fe K k ρ)
  | .asgA o k x=>bn n ρ E 60 x M (ky (bn n ρ E 60 o) (Ff K k ρ))
  | .asgI o i x=>bn n ρ E 60 x M (Fh K (bn n ρ E 60 o) (bn n ρ E 60 i) i ρ)
  | .asgT ks x=>oT (i5 ks) (bn n ρ E 60 x M (sT K ks ρ))
  | .expr x=>bn n ρ E 60 x M (Fj K ρ)
  | .ret x=>bn n ρ E 60 x M (kA K ρ)
  | .ret0=>K (.ret .none) ρ M
  | .ite t a b=>f9 n ρ E 60 t M (Fk K (gc n E d a) (gc n E d b) ρ)
  | .while t b=>Wh n ρ M t b K E
  | .for k it b=>qj n ρ E 60 it M (vZ K n (e8 k) b E ρ)
  | .forT ks it b=>qj n ρ E 60 it M (vZ K n (gM ks) b E ρ)
  | .raise x=>ir n ρ M (.raise x) K E
  | .try x c k h=>ir n ρ M (.try x c k h) K E
  | .cont=>K .cont ρ M
  | .pass=>K .next ρ M
  | .dead=>False
def gc(n:Nat)(E:PE):Nat->List XS->af->aa->PK->Prop
 |0,_,_,_,_=>False
 |d+1,xs,ρ,M,K=>match xs with
  | []=>K .next ρ M
  |x::xs=>gb n E d x ρ M (iv K (gc n E d xs))
end
def Fp(n:Nat)(E:PE)(t:X)(b:List XS)(ρ:af)(K:PK):Bool->aa->Prop:=λr M1=>oB r (gc n E 60 b ρ M1 (qn K (Fm n t b K E))) (K .next ρ M1)
structure v8(n:Nat)(E:PE)(d:Nat):Prop where
 s:∀{x ρ M K},gb n E d x ρ M K->cE n ρ M x K E
 ss:∀{xs ρ M K},gc n E d xs ρ M K->dq n ρ M xs K E
theorem Fq(hn:0<n)(ih:v8 n E d){K:PK}(h:gb n E (d+1) x ρ M K):cE n ρ M x K E:=by
 cases x with
 |asg k x=>exact A4 ((cg hn 60).x h)
 |asgA o k x=>
  refine CE (bL ((cg hn 60).x h) λrx M1 h=>bL ((cg hn 60).x h) λro M2 h=>?_);refine aj (fU h) λp KY=>?_
  have KZ:=ct KY.2;have h1:=KZ.1;have h:=KZ.2;have KZ:=ct h;have h2:=KZ.1;have h:=KZ.2;have KZ:=DQ KY.1;exact⟨p.1,p.2.1,p.2.2,KZ.1,KZ.2,h1,Us h2,h⟩
 |asgI o i x=>
  cases hk:vW i with
  |true=>
   refine CL (bL ((cg hn 60).x h) λrx M1 h=>bL ((cg hn 60).x h) λro M2 h=>bL ((cg hn 60).x h) λri M3 h=>?_);unfold qm at h;rw[hk]at h;refine aX (vp h) λp l KY=>?_
   have KZ:=kq KY.1;exact⟨p.1,p.2,l,KZ.1,KZ.2,dN KY.2.1,KY.2.2.1,KY.2.2.2.1,KY.2.2.2.2⟩
  |false=>
   refine BO (bL ((cg hn 60).x h) λrx M1 h=>bL ((cg hn 60).x h) λro M2 h=>bL ((cg hn 60).x h) λri M3 h=>?_);unfold qm at h;rw[hk]at h;refine aX (vp h) λp k KY=>?_
   have hl:=KY.2.1;have h1:=KY.2.2.1;have h2:=KY.2.2.2.1;have h3:=KY.2.2.2.2.1;have h4:=KY.2.2.2.2.2;have KZ:=pV KY.1;refine aj (Vt h1) λk KY=>?_
   subst KY;exact⟨p.1,p.2,k,KZ.1,KZ.2,fG hl,by exact ab [_,_] ad X1 ad X1 (rL h2) rfl,h3,by simpa[mD]using h4⟩
 |asgT ks x=>
  have KZ:=ct h;have h:=KZ.2;refine Db hn KZ.1 (bL ((cg hn 60).x h) λr M1 h=>?_);refine aj (fU h) λxs KY=>?_
  have KZ:=ct KY.2;exact⟨xs,KY.1,Ut KZ.1,KZ.2⟩
 |expr x=>exact A5 ((cg hn 60).x h)
 |ret x=>exact t6 ((cg hn 60).x h)
 |ret0=>exact AH h
 |ite t a b=>
  refine pd (gR ((cg hn 60).t h) λc M1 h=>?_);induction c with
  |true=>exact ih.ss h
  |false=>exact ih.ss h
 |«while» t b=>exact ue (mB h)
 |«for» k it b=>exact CX hn (vT (vV hn h) λ_ _ q=>mC q)
 |forT ks it b=>exact CY hn (vT (vV hn h) λ_ _ q=>mC q)
 |raise x=>exact vX h
 |«try» x c k hh=>exact vX h
 |cont=>exact A2 h
 |pass=>exact A3 h
 |dead=>exact h.elim
theorem jj(hn:0<n):∀d,v8 n E d
 |0=>⟨λh=>h.elim,λh=>h.elim⟩
 |d+1=>by
  have ih:=jj (E:=E) hn d;refine⟨Fq hn ih,λ{xs ρ M K} h=>?_⟩;induction xs with
  |nil=>exact lM h
  |cons x xs=>
   refine i4 (ql (ih.s h) λfl ρ M h=>?_);induction fl with
   |next=>exact ih.ss h
   |ret v=>exact h
   |cont=>exact h
section
variable{n:Nat}{ρ:af}{M:aa}{E E':PE}{K K':PK}{Q Q':PQ}
theorem qo(hn:0<n)(h:gc n E d xs ρ M K):Ex n ρ M xs K E:=iu ((jj hn d).ss h)
theorem ch(h:CT n f args M Q E)(i:∀r M,Q r M->Q' r M)(j:∀r M,E r M->E' r M):CT n f args M Q' E':=ip (AG (iq h) i j)
theorem b6{ds args:List V}(ok:dT f F k ds body)(h:Ex n (ks.zip (args++ds)) M body (PK.ret Q) E)(hk:(F.ps.map λp=>nc (so p))=ks:=by kernel_rfl)(hl:args.length=k:=by rfl):CT (n+1) (.ref f) args M Q E:=ip (AL ok hl (by rw[hk];exact gT h))
theorem ax{ds args:List V}(ok:dT f F k ds body)(h:gc n E 60 body (ks.zip (args++ds)) M (PK.ret Q))(hk:(F.ps.map λp=>nc (so p))=ks:=by kernel_rfl)(hn:0<n:=by exact TY _)(hl:args.length=k:=by rfl):CT (n+1) (.ref f) args M Q E:=b6 ok (qo hn h) hk hl
theorem Fs{l:TX}(hm:aak M l=TR (.list xs))(h:CT n f [.lst xs] (dU M l) Q E):CT n f [.ref l] M Q E:=ip (Dm hm (iq h))
theorem Ft(hC:ma C=TV)(hf:b0 C 203=TR f)(h:∀a,53<a->dz a M->CT n (.ref f) (.ref a::args) ((a,.inst C [])::M) (λr M1=>r=.none/\pG C a M1 Q) E):CT (n+1) (.ref C) args M Q E:=ip (Dl hC hf λa h1 h2=>iq (h a h1 h2))
theorem Fu{l:List Nat}(hn:0<n)(hl:l.length<=Ub)(q:Q (.bool (l.all λc=>decide (c∈cz.take r))) M):CT (n+1) (.ref 747) [.str l,.int r] M Q E:=ip (DI hn hl q)
theorem iw(k:K .next ρ M):Ex n ρ M [] K E:=iu (lM k)
theorem av(h:gb n E 60 x ρ M (iv K (v6 n rest E)))(hn:0<n:=by exact TY _):Ex n ρ M (x::rest) K E:=iu (i4 (ql ((jj hn 60).s h) λfl ρ M h=>by induction fl<;>first|exact gT h|exact h))
theorem aU(ht:f9 n ρ E 60 t M (λc M1=>c=TT/\M1=M))(h:Ex n ρ M rest K E)(hn:0<n:=by exact TY _):Ex n ρ M (.ite t a []::rest) K E:=iu (i4 (pd (gR ((cg hn 60).t ht) λc M1 hc=>by obtain⟨rfl,rfl⟩:=hc;rw[if_neg (by decide)];exact lM (gT h))))
theorem bV(ht:f9 n ρ E 60 t M (λc M1=>c=TV/\M1=M))(h:gc n E 60 a ρ M (iv K (v6 n rest E)))(hn:0<n:=by exact TY _):Ex n ρ M (.ite t a b::rest) K E:=iu (i4 (pd (gR ((cg hn 60).t ht) λc M1 hc=>by have KY:=hc.1;subst KY;have K6:=hc.2;subst K6;rw[if_pos rfl];exact kz ((jj hn 60).ss h) λfl ρ M h=>by induction fl<;>first|exact gT h|exact h)))
theorem bF(h:f9 n ρ E 60 t M (Fp n E t b ρ K))(hn:0<n:=by exact TY _):Wh n ρ M t b K E:=vY (ud (gR ((cg hn 60).t h) λr M1 h=>by
  induction r with
  |true=>rw[if_pos rfl];exact kz ((jj hn 60).ss h) λfl ρ M h=>by induction fl<;>first|exact mB h|exact h
  |false=>rw[if_neg (by decide)];exact h))
variable{f:V->af->Option af}{b:List XS}
theorem eq(h:K .next ρ M):Fo n f b K E [] ρ M:=qk h
theorem dB{v:V}(hf:f v ρ=TR ρ1)(h:gc n E 60 b ρ1 M (qn K (v7 n f b K E r)))(hn:0<n:=by exact TY _):Fo n f b K E (v::r) ρ M:=qk ⟨ρ1,hf,kz ((jj hn 60).ss h) λfl ρ M h=>by induction fl<;>first|exact mC h|exact h⟩
theorem v9{v:V}(hf:f v ρ=TR ρ1)(h:Ex n ρ1 M b (qn K (v7 n f b K E r)) E):Fo n f b K E (v::r) ρ M:=qk ⟨ρ1,hf,kz (gT h) λfl ρ M h=>by induction fl<;>first|exact mC h|exact h⟩
end
end
section
variable[HasP]
theorem Fv{l:List TZ}(h:l.length=0):l=[]:=List.length_eq_zero_iff.mp h
theorem jk{l:List TZ}(h:l.length=k+1):∃a r,l=a::r/\r.length=k:=by
 induction l with
 |nil=>cases h
 |cons a r=>exact⟨a,r,rfl,by simpa using h⟩
theorem kB{l:List TZ}(h:l.length=1):∃a,l=[a]:=let⟨a,r,e,k⟩:=jk h;⟨a,by rw[e,Fv k]⟩
theorem mE{l:List TZ}(h:l.length=2):∃a b,l=[a,b]:=let⟨a,r,e,k⟩:=jk h;let⟨b,f⟩:=kB k;⟨a,b,by rw[e,f]⟩
theorem mF{l:List TZ}(h:l.length=3):∃a b c,l=[a,b,c]:=let⟨a,r,e,k⟩:=jk h;let⟨b,c,f⟩:=mE k;⟨a,b,c,by rw[e,f]⟩
theorem qp{l:List TZ}(h:l.length=4):∃a b c d,l=[a,b,c,d]:=let⟨a,r,e,k⟩:=jk h;let⟨b,c,d,f⟩:=mF k;⟨a,b,c,d,by rw[e,f]⟩
theorem mG{l:List TZ}(h:l.length=5):∃a b c d e,l=[a,b,c,d,e]:=let⟨a,r,e,k⟩:=jk h;let⟨b,c,d,x,f⟩:=qp k;⟨a,b,c,d,x,by rw[e,f]⟩
theorem Fw{l:List TZ}(h:l.length=6):∃a b c d e f,l=[a,b,c,d,e,f]:=let⟨a,r,e,k⟩:=jk h;let⟨b,c,d,x,y,f⟩:=mG k;⟨a,b,c,d,x,y,by rw[e,f]⟩
theorem jl{f:TX}{F:Fn}{k:Nat}{body:List XS}{α:Type}{x y:α}(hP:∀P,((KW P).lookup f,codeIn (KW P) (.ref F.code) (so F.q))=(TR (fw F.st F.name F.q F.mod F.code F.dfl),TV))(h:(fB F,eB gt 60 (bq F.st) (bD F.st),k,x)=(TV,TR body,F.ps.length,y))(bind:∀vs:List TZ,vs.length=k->bindArgs F.fd ⟨vs,[]⟩=pure ((F.ps.map so).zip vs)):dT f F k [] body where
 look P:=congrArg (·.1) (hP P)
 code P:=congrArg (·.2) (hP P)
 flags:=congrArg (·.1) h
 len:=congrArg (·.2.2.1) h
 bind P h X vs hv:=⟨[],.nil,λs k=>Zs (by rw[Xy];exact bind vs hv)⟩
 body:=congrArg (·.2.1) h
section
variable{f:TX}{F:Fn}{body:List XS}
theorem ca(h:∀a,(fB F,eB gt 60 (bq F.st) (bD F.st),1,bindArgs F.fd ⟨[a],[]⟩)=(TV,TR body,F.ps.length,pure ((F.ps.map so).zip [a])):=by intros;kernel_rfl)(hP:∀P,((KW P).lookup f,codeIn (KW P) (.ref F.code) (so F.q))=(TR (fw F.st F.name F.q F.mod F.code F.dfl),TV):=by intros;kernel_rfl):dT f F 1 [] body:=jl hP (h .none) λvs hv=>by obtain⟨a,rfl⟩:=kB hv;exact congrArg (·.2.2.2) (h a)
theorem bm(h:∀a b,(fB F,eB gt 60 (bq F.st) (bD F.st),2,bindArgs F.fd ⟨[a,b],[]⟩)=(TV,TR body,F.ps.length,pure ((F.ps.map so).zip [a,b])):=by intros;kernel_rfl)(hP:∀P,((KW P).lookup f,codeIn (KW P) (.ref F.code) (so F.q))=(TR (fw F.st F.name F.q F.mod F.code F.dfl),TV):=by intros;kernel_rfl):dT f F 2 [] body:=jl hP (h .none .none) λvs hv=>by obtain⟨a,b,rfl⟩:=mE hv;exact congrArg (·.2.2.2) (h a b)
theorem ge(h:∀a b c,(fB F,eB gt 60 (bq F.st) (bD F.st),3,bindArgs F.fd ⟨[a,b,c],[]⟩)=(TV,TR body,F.ps.length,pure ((F.ps.map so).zip [a,b,c])):=by intros;kernel_rfl)(hP:∀P,((KW P).lookup f,codeIn (KW P) (.ref F.code) (so F.q))=(TR (fw F.st F.name F.q F.mod F.code F.dfl),TV):=by intros;kernel_rfl):dT f F 3 [] body:=jl hP (h .none .none .none) λvs hv=>by obtain⟨a,b,c,rfl⟩:=mF hv;exact congrArg (·.2.2.2) (h a b c)
theorem jm(h:∀a b c d,(fB F,eB gt 60 (bq F.st) (bD F.st),4,bindArgs F.fd ⟨[a,b,c,d],[]⟩)=(TV,TR body,F.ps.length,pure ((F.ps.map so).zip [a,b,c,d])):=by intros;kernel_rfl)(hP:∀P,((KW P).lookup f,codeIn (KW P) (.ref F.code) (so F.q))=(TR (fw F.st F.name F.q F.mod F.code F.dfl),TV):=by intros;kernel_rfl):dT f F 4 [] body:=jl hP (h .none .none .none .none) λvs hv=>by obtain⟨a,b,c,d,rfl⟩:=qp hv;exact congrArg (·.2.2.2) (h a b c d)
theorem Fx(h:∀a b c d e,(fB F,eB gt 60 (bq F.st) (bD F.st),5,bindArgs F.fd ⟨[a,b,c,d,e],[]⟩)=(TV,TR body,F.ps.length,pure ((F.ps.map so).zip [a,b,c,d,e])):=by intros;kernel_rfl)(hP:∀P,((KW P).lookup f,codeIn (KW P) (.ref F.code) (so F.q))=(TR (fw F.st F.name F.q F.mod F.code F.dfl),TV):=by intros;kernel_rfl):dT f F 5 [] body:=jl hP (h .none .none .none .none .none) λvs hv=>by obtain⟨a,b,c,d,e,rfl⟩:=mG hv;exact congrArg (·.2.2.2) (h a b c d e)
theorem Fy(h:∀a b c d e g,(fB F,eB gt 60 (bq F.st) (bD F.st),6,bindArgs F.fd ⟨[a,b,c,d,e,g],[]⟩)=(TV,TR body,F.ps.length,pure ((F.ps.map so).zip [a,b,c,d,e,g])):=by intros;kernel_rfl)(hP:∀P,((KW P).lookup f,codeIn (KW P) (.ref F.code) (so F.q))=(TR (fw F.st F.name F.q F.mod F.code F.dfl),TV):=by intros;kernel_rfl):dT f F 6 [] body:=jl hP (h .none .none .none .none .none .none) λvs hv=>by obtain⟨a,b,c,d,e,g,rfl⟩:=Fw hv;exact congrArg (·.2.2.2) (h a b c d e g)
end
end
section
variable[HasP]
theorem Fz:FK 68 3 [] [.asgA (.loc 57) 163 (.loc 163),.asgA (.loc 57) 88 (.loc 88)]:=ge
theorem FA:FK 89 1 [] [.asgA (.loc 57) 79 (.lst []),.asgA (.loc 57) 196 .edict]:=ca
theorem FB:FK 152 3 [] [.asgA (.loc 57) 25 (.loc 25),.asgA (.loc 57) 26 (.loc 26)]:=ge
theorem FE:FK 173 2 [] [.asgA (.loc 57) 46 (.loc 46)]:=bm
theorem FF:FK 194 2 [] [.asgA (.loc 57) 126 (.loc 126)]:=bm
theorem FG:FK 215 2 [] [.asgA (.loc 57) 171 (.loc 171)]:=bm
theorem FH:FK 236 2 [] [.asgA (.loc 57) 195 (.loc 195)]:=bm
theorem FI:FK 257 3 [] [.asgA (.loc 57) 178 (.loc 178),.asgA (.loc 57) 195 (.loc 195)]:=ge
theorem FJ:FK 278 2 [] [.asgA (.loc 57) 163 (.loc 163)]:=bm
theorem wh:FK 299 2 [] [.asgA (.loc 57) 104 (.loc 104)]:=bm
theorem FL:FK 320 3 [] [.expr (.meth (.cst (.ref 302)) 203 [(.loc 57),(.loc 104)]),.asgA (.loc 57) 6 (.loc 6)]:=ge
theorem FM:dT 364 iM 3 [] [.asgA (.loc 57) 44 (.loc 44),.asgA (.loc 57) 240 (.loc 240)]:=ge
theorem FN:dT 422 iN 2 [] [.expr (.meth (.cst (.ref 367)) 203 [(.loc 57),(.cst (.str [84,111,111,76,111,110,103])),(.lst [(.loc 134)])]),.asgA (.loc 57) 134 (.loc 134)]:=bm
theorem FO:FK 579 3 [] [.asgA (.loc 57) 24 (.loc 24),.asgA (.loc 57) 158 (.loc 158)]:=ge
theorem FP:FK 768 4 [] [.asgA (.loc 57) 24 (.loc 24),.asgA (.loc 57) 158 (.loc 158),.asgA (.loc 57) 218 (.loc 218)]:=jm
theorem FQ:FK 874 5 [] [.asgA (.loc 57) 44 (.loc 44),.asgA (.loc 57) 110 (.loc 110),.asgA (.loc 57) 136 (.loc 136),.asgA (.loc 57) 13 (.loc 13)]:=Fx
end
section
variable[HasP]
theorem FR:FK 945 4 [] [.asgA (.loc 57) 88 (.loc 88),.asgA (.loc 57) 235 (.loc 235),.asgA (.loc 57) 98 (.cst (.int 0)),.asgA (.loc 57) 223 (.loc 223)] where
 look P:=by kernel_rfl
 code P:=by kernel_rfl
 flags:=by kernel_rfl
 len:=rfl
 bind P h X vs hv:=by obtain⟨a,b,c,d,rfl⟩:=qp hv;exact⟨[],.nil,λs k=>UZ (T:=938) (items:= #[.int 53 1536,.bool TV]) (n:=0) rfl (k _ _ (X _ _ (show(KW P).lookup 938=TR (rW P) by kernel_rfl))) rfl rfl (by kernel_rfl)⟩
 body:=by kernel_rfl
theorem FS:FK 1036 4 [] [.asgA (.loc 57) 44 (.loc 44),.asgA (.loc 57) 136 (.loc 136),.asgA (.loc 57) 171 (.loc 171),.asgA (.loc 57) 109 (.cst (.int 0)),.asgA (.loc 57) 64 (.cst (.ido 44 38 [(104,(.str [101,109,112,116,121]))]))]:=jm
theorem FT:FK 1058 5 [] [.asgA (.loc 57) 124 (.call (.cst (.ref 1018)) [(.loc 88),(.loc 235),(.loc 223)]),.asgA (.loc 57) 101 (.loc 101),.asgA (.loc 57) 170 (.lst [])] where
 look P:=by kernel_rfl
 code P:=by kernel_rfl
 flags:=by kernel_rfl
 len:=rfl
 bind P h X vs hv:=by obtain⟨a,b,c,d,e,rfl⟩:=mG hv;exact⟨[],.nil,λs k=>UZ (T:=1051) (items:= #[.int 53 1713,.bool TV]) (n:=0) rfl (k _ _ (X _ _ (show(KW P).lookup 1051=TR (rX P) by kernel_rfl))) rfl rfl (by kernel_rfl)⟩
 body:=by kernel_rfl
theorem FU:FK 1185 6 [] [.asgA (.loc 57) 262 (.loc 262),.asgA (.loc 57) 235 (.loc 235),.asgA (.loc 57) 140 (.loc 140),.asgA (.loc 57) 134 (.loc 134),.asgA (.loc 57) 101 (.loc 101),.asgA (.loc 57) 169 (.lst []),.asgA (.loc 57) 155 (.cst (.int 0)),.asgA (.loc 57) 187 (.lst [])]:=Fy
theorem FV:FK 96 2 [] [.asg 97 (.meth (.attr (.loc 57) 196) 30 [(.loc 88),(.cst .none)]),.ite (.cmp .Is (.loc 97) (.cst .none)) [.asg 97 (.call (.cst (.ref 71)) [(.call (.cst (.bi "len")) [(.attr (.loc 57) 79)]),(.loc 88)]),.expr (.meth (.attr (.loc 57) 79) 146 [(.loc 97)]),.asgI (.attr (.loc 57) 196) (.loc 88) (.loc 97)] [],.ret (.loc 97)]:=bm
theorem FW:FK 103 2 [] [.asg 97 (.call (.cst (.ref 71)) [(.call (.cst (.bi "len")) [(.attr (.loc 57) 79)]),(.fst [(.fmt (.loc 81)),(.cst (.str [46])),(.fmt (.call (.cst (.bi "len")) [(.attr (.loc 57) 79)]))])]),.expr (.meth (.attr (.loc 57) 79) 146 [(.loc 97)]),.ret (.loc 97)]:=bm
theorem FY:FK 124 2 [] [.ret (.cmp .Is (.meth (.attr (.loc 57) 196) 30 [(.attr (.loc 157) 88),(.cst .none)]) (.loc 157))]:=bm
theorem FZ:FK 330 1 [] [.ret (.call (.cst (.ref 197)) [(.comp (.call (.cst (.bi "ord")) [(.loc 166)]) 166 (.loc 41) TW)])]:=ca
theorem F0:FK 335 1 [] [.ret (.meth (.cst (.str [])) 71 [(.comp (.call (.cst (.bi "chr")) [(.loc 46)]) 46 (.attr (.loc 88) 126) TW)])]:=ca
noncomputable def mH:List XS:=[.asg 97 (.loc 64),.for 98 (.call (.cst (.ty "range")) [(.bin .Sub (.call (.cst (.bi "len")) [(.loc 171)]) (.cst (.int 1))),(.neg (.cst (.int 1))),(.neg (.cst (.int 1)))]) [.asg 97 (.call (.cst (.ref 155)) [(.sub (.loc 171) (.loc 98)),(.loc 97)])],.ret (.loc 97)]
theorem F4:FK 343 1 [.ido 44 38 [(104,.str [101,109,112,116,121])]] mH where
 look P:=by kernel_rfl
 code P:=by kernel_rfl
 flags:=by kernel_rfl
 len:=rfl
 bind P h X vs hv:=by obtain⟨a,rfl⟩:=kB hv;exact⟨[.ref 44],(.cons (lJ X (by kernel_rfl)) .nil),λs k=>UZ (T:=336) (items:= #[.ref 44]) (n:=0) rfl (k _ _ (X _ _ (show(KW P).lookup 336=TR (nR P) by kernel_rfl))) rfl rfl (by kernel_rfl)⟩
 body:=by kernel_rfl
theorem F5:FK 343 2 [] mH where
 look P:=by kernel_rfl
 code P:=by kernel_rfl
 flags:=by kernel_rfl
 len:=rfl
 bind P h X vs hv:=by obtain⟨a,b,rfl⟩:=mE hv;exact⟨[],.nil,λs k=>UZ (T:=336) (items:= #[.ref 44]) (n:=0) rfl (k _ _ (X _ _ (show(KW P).lookup 336=TR (nR P) by kernel_rfl))) rfl rfl (by kernel_rfl)⟩
 body:=by kernel_rfl
theorem F6:FK 350 1 [] [.ret (.call (.cst (.bi "isinstance")) [(.loc 114),(.cst (.ty "bool"))])]:=ca
theorem F7:FK 474 1 [] [.ret (.call (.cst (.bi "isinstance")) [(.loc 110),(.cst (.ref 463))])]:=ca
theorem F8:FK 593 2 [] [.asgT [15,120] (.tup [(.call (.cst (.bi "abs")) [(.loc 15)]),(.call (.cst (.bi "abs")) [(.loc 120)])]),.while (.cmp .NotEq (.loc 120) (.cst (.int 0))) [.asgT [15,120] (.tup [(.loc 120),(.bin .Mod (.loc 15) (.loc 120))])],.ret (.loc 15)]:=bm
theorem F9:FK 600 2 [] [.ret (.ite (.cmp .Eq (.loc 158) (.cst (.int 1))) (.loc 24) (.call (.cst (.ref 582)) [(.loc 24),(.loc 158)]))]:=bm
theorem Ga:FK 607 2 [] [.ite (.cmp .Lt (.loc 158) (.cst (.int 0))) [.asgT [24,158] (.tup [(.bin .Sub (.cst (.int 0)) (.loc 24)),(.bin .Sub (.cst (.int 0)) (.loc 158))])] [],.asg 159 (.call (.cst (.ref 593)) [(.loc 24),(.loc 158)]),.ret (.call (.cst (.ref 600)) [(.bin .FloorDiv (.loc 24) (.loc 159)),(.bin .FloorDiv (.loc 158) (.loc 159))])]:=bm
theorem Gb:FK 615 2 [] [.ite (.cmp .Eq (.loc 163) (.cst (.int 0))) [.ret (.cst (.str [48]))] [],.asg 97 (.lst []),.while (.cmp .Gt (.loc 163) (.cst (.int 0))) [.asgT [163,152] (.call (.cst (.bi "divmod")) [(.loc 163),(.loc 140)]),.expr (.meth (.loc 97) 146 [(.sub (.cst (.str [48,49,50,51,52,53,54,55,56,57,97,98,99,100,101,102])) (.loc 152))])],.ret (.meth (.cst (.str [])) 71 [(.call (.cst (.ty "reversed")) [(.loc 97)])])]:=bm
end
section
variable[HasP]
theorem Gc:FK 622 2 [] [.ret (.bin .Add (.ite (.cmp .Lt (.loc 163) (.cst (.int 0))) (.cst (.str [45])) (.cst (.str []))) (.call (.cst (.ref 615)) [(.call (.cst (.bi "abs")) [(.loc 163)]),(.loc 140)]))]:=bm
theorem wi:FK 629 2 [] [.ite (.call (.cst (.bi "isinstance")) [(.loc 163),(.cst (.ref 582))]) [.ret (.bin .Add (.bin .Add (.call (.cst (.ref 622)) [(.attr (.loc 163) 24),(.loc 140)]) (.cst (.str [47]))) (.call (.cst (.ref 622)) [(.attr (.loc 163) 158),(.loc 140)]))] [],.ret (.call (.cst (.ref 622)) [(.loc 163),(.loc 140)])]:=bm
theorem wj:FK 735 3 [] [.ite (.not (.call (.cst (.ref 474)) [(.loc 163)])) [.ret (.call (.cst (.ref 629)) [(.loc 163),(.loc 140)])] [],.ite (.cmp .Eq (.loc 140) (.cst (.int 10))) [.ret (.call (.cst (.ref 727)) [(.loc 235),(.loc 163)])] [],.asgT [24,158] (.call (.cst (.ref 537)) [(.loc 163)]),.ret (.bin .Add (.cst (.str [35,105])) (.call (.cst (.ref 629)) [(.call (.cst (.ref 607)) [(.loc 24),(.loc 158)]),(.loc 140)]))] where
 look P:=by kernel_rfl
 code P:=by kernel_rfl
 flags:=by kernel_rfl
 len:=rfl
 bind P h X vs hv:=by obtain⟨a,b,c,rfl⟩:=mF hv;exact⟨[],.nil,λs k=>UZ (T:=728) (items:= #[.int 10 1213]) (n:=0) rfl (k _ _ (X _ _ (show(KW P).lookup 728=TR (rU P) by kernel_rfl))) rfl rfl (by kernel_rfl)⟩
 body:=by kernel_rfl
theorem Gd:FK 742 2 [] [.asg 97 (.cst (.int 0)),.for 70 (.loc 193) [.asg 97 (.bin .Add (.bin .Mult (.loc 97) (.loc 140)) (.meth (.cst (.str [48,49,50,51,52,53,54,55,56,57,97,98,99,100,101,102])) 139 [(.loc 70)]))],.ret (.loc 97)]:=bm
theorem Ge:FK 754 1 [] [.asg 82 (.meth (.loc 44) 162 [(.cst (.str [35]))]),.ret (.tup [(.loc 82),(.bin .Sub (.call (.cst (.bi "len")) [(.loc 44)]) (.call (.cst (.bi "len")) [(.loc 82)]))])]:=ca
theorem Gf:FK 782 2 [] [.asgT [82,89] (.call (.cst (.ref 754)) [(.loc 44)]),.ite (.bor [(.cmp .Eq (.loc 82) (.cst (.str []))),(.not (.call (.cst (.ref 747)) [(.loc 82),(.loc 140)]))]) [.ret (.cst .none)] [],.ret (.call (.cst (.ref 771)) [(.bin .Mult (.call (.cst (.ref 742)) [(.loc 82),(.loc 140)]) (.bin .Pow (.loc 140) (.loc 89))),(.cst (.int 1)),(.cmp .Eq (.loc 89) (.cst (.int 0)))])]:=bm
theorem Gg:FK 789 2 [] [.asg 130 (.meth (.loc 44) 133 [(.cst (.str [47]))]),.ite (.cmp .NotEq (.call (.cst (.bi "len")) [(.loc 130)]) (.cst (.int 2))) [.ret (.cst .none)] [],.asgT [58,35] (.tup [(.call (.cst (.ref 782)) [(.sub (.loc 130) (.cst (.int 0))),(.loc 140)]),(.call (.cst (.ref 782)) [(.sub (.loc 130) (.cst (.int 1))),(.loc 140)])]),.ite (.bor [(.cmp .Is (.loc 58) (.cst .none)),(.cmp .Is (.loc 35) (.cst .none)),(.cmp .Eq (.attr (.loc 35) 24) (.cst (.int 0)))]) [.ret (.cst .none)] [],.ret (.call (.cst (.ref 771)) [(.attr (.loc 58) 24),(.attr (.loc 35) 24),(.band [(.attr (.loc 58) 218),(.attr (.loc 35) 218)])])]:=bm
theorem wk:FK 829 2 [] [.ite (.cmp .In (.cst (.str [47])) (.loc 44)) [.ret (.call (.cst (.ref 789)) [(.loc 44),(.loc 140)])] [],.ite (.band [(.cmp .Eq (.loc 140) (.cst (.int 10))),(.bor [(.cmp .In (.cst (.str [46])) (.loc 44)),(.cmp .Lt (.call (.cst (.ref 808)) [(.loc 44)]) (.call (.cst (.bi "len")) [(.loc 44)]))])]) [.ret (.call (.cst (.ref 822)) [(.loc 44)])] [],.ret (.call (.cst (.ref 782)) [(.loc 44),(.loc 140)])]:=bm
theorem Gh:FK 836 2 [] [.asgT [239,244,10] (.tup [(.cst (.str [])),(.cst (.bool TT)),(.cst (.int 0))]),.while (.cmp .Eq (.slc (.loc 44) (TR (.loc 10)) (TR (.bin .Add (.loc 10) (.cst (.int 1))))) (.cst (.str [35]))) [.asg 61 (.slc (.loc 44) (TR (.bin .Add (.loc 10) (.cst (.int 1)))) (TR (.bin .Add (.loc 10) (.cst (.int 2))))),.ite (.band [(.cmp .In (.loc 61) .dead),(.not (.loc 244))]) [.asgT [140,244] (.tup [(.sub .dead (.loc 61)),(.cst (.bool TV))])] [.ite (.band [(.cmp .In (.loc 61) (.tup [(.cst (.str [101])),(.cst (.str [105]))])),(.cmp .Eq (.loc 239) (.cst (.str [])))]) [.asg 239 (.loc 61)] [.ret (.cst .none)]],.asg 10 (.bin .Add (.loc 10) (.cst (.int 2)))],.ret (.tup [(.slc (.loc 44) (TR (.loc 10)) TW),(.loc 140),(.loc 239)])]:=bm
theorem Gi:FK 843 4 [] [.ite (.loc 218) [.ret (.call (.cst (.ref 607)) [(.loc 24),(.loc 158)])] [],.dead]:=jm
theorem wl:FK 851 3 [] [.asg 97 (.call (.cst (.ref 836)) [(.meth (.loc 88) 121 []),(.loc 140)]),.ite (.cmp .Is (.loc 97) (.cst .none)) [.ret (.cst .none)] [],.asgT [44,140,239] (.loc 97),.asg 70 (.ite (.cmp .Eq (.slc (.loc 44) TW (TR (.cst (.int 1)))) (.cst (.str [45]))) (.neg (.cst (.int 1))) (.cst (.int 1))),.asg 186 (.call (.cst (.ref 829)) [(.ite (.cmp .In (.slc (.loc 44) TW (TR (.cst (.int 1)))) (.tup [(.cst (.str [43])),(.cst (.str [45]))])) (.slc (.loc 44) (TR (.cst (.int 1))) TW) (.loc 44)),(.loc 140)]),.ite (.cmp .Is (.loc 186) (.cst .none)) [.ret (.cst .none)] [],.asg 218 (.bor [(.cmp .Eq (.loc 239) (.cst (.str [101]))),(.band [(.cmp .Eq (.loc 239) (.cst (.str []))),(.attr (.loc 186) 218)])]),.ret (.call (.cst (.ref 843)) [(.loc 235),(.bin .Mult (.loc 70) (.attr (.loc 186) 24)),(.attr (.loc 186) 158),(.loc 218)])] where
 look P:=by kernel_rfl
 code P:=by kernel_rfl
 flags:=by kernel_rfl
 len:=rfl
 bind P h X vs hv:=by obtain⟨a,b,c,rfl⟩:=mF hv;exact⟨[],.nil,λs k=>UZ (T:=844) (items:= #[.int 10 1378]) (n:=0) rfl (k _ _ (X _ _ (show(KW P).lookup 844=TR (rV P) by kernel_rfl))) rfl rfl (by kernel_rfl)⟩
 body:=by kernel_rfl
theorem Gj:FK 888 1 [] [.asg 194 (.lst []),.for 166 (.loc 88) [.asg 10 (.meth (.cst (.str [65,66,67,68,69,70,71,72,73,74,75,76,77,78,79,80,81,82,83,84,85,86,87,88,89,90])) 42 [(.loc 166)]),.expr (.meth (.loc 194) 146 [(.ite (.cmp .Lt (.loc 10) (.cst (.int 0))) (.loc 166) (.sub (.cst (.str [97,98,99,100,101,102,103,104,105,106,107,108,109,110,111,112,113,114,115,116,117,118,119,120,121,122])) (.loc 10)))])],.ret (.meth (.cst (.str [])) 71 [(.loc 194)])]:=ca
theorem Gk:FK 895 1 [] [.ret (.bor [(.cmp .In (.loc 166) (.cst (.str [97,98,99,100,101,102,103,104,105,106,107,108,109,110,111,112,113,114,115,116,117,118,119,120,121,122]))),(.cmp .In (.loc 166) (.cst (.str [33,36,37,38,42,47,58,60,61,62,63,94,95,126])))])]:=ca
theorem Gl:FK 902 1 [] [.ret (.bor [(.call (.cst (.ref 895)) [(.loc 166)]),(.cmp .In (.loc 166) (.cst (.str [48,49,50,51,52,53,54,55,56,57]))),(.cmp .In (.loc 166) (.cst (.str [43,45,46,64])))])]:=ca
theorem Gm:FK 909 1 [] [.ite (.cmp .In (.loc 88) (.cst (.tup [(.str [43]),(.str [45]),(.str [46,46,46])]))) [.ret (.cst (.bool TV))] [],.ite (.bor [(.cmp .Eq (.loc 88) (.cst (.str []))),(.not (.call (.cst (.ref 895)) [(.sub (.loc 88) (.cst (.int 0)))]))]) [.ret (.cst (.bool TT))] [],.for 166 (.slc (.loc 88) (TR (.cst (.int 1))) TW) [.ite (.not (.call (.cst (.ref 902)) [(.loc 166)])) [.ret (.cst (.bool TT))] []],.ret (.cst (.bool TV))]:=ca
theorem Gn:FK 916 1 [] [.ret (.bor [(.cmp .In (.sub (.loc 88) (.cst (.int 0))) (.cst (.str [48,49,50,51,52,53,54,55,56,57]))),(.cmp .In (.sub (.loc 88) (.cst (.int 0))) (.cst (.str [43,45,46])))])]:=ca
end
section
variable[HasP]
theorem Go:FK 923 1 [] [.forT [117,166] (.cst (.tup [(.tup [(.str [115,112,97,99,101]),(.str [32])]),(.tup [(.str [110,101,119,108,105,110,101]),(.str [10])])])) [.ite (.cmp .Eq (.loc 117) (.call (.cst (.ref 888)) [(.loc 47)])) [.ret (.loc 166)] []],.ret (.cst .none)]:=ca
theorem Gp:FK 930 1 [] [.forT [117,21] (.cst (.tup [(.tup [(.str [115,112,97,99,101]),(.str [32])]),(.tup [(.str [110,101,119,108,105,110,101]),(.str [10])])])) [.ite (.cmp .Eq (.loc 21) (.loc 166)) [.ret (.loc 117)] []],.ret (.cst .none)]:=ca
theorem Gq:FK 952 1 [] [.while (.cmp .Lt (.attr (.loc 57) 98) (.call (.cst (.bi "len")) [(.attr (.loc 57) 88)])) [.asg 166 (.sub (.attr (.loc 57) 88) (.attr (.loc 57) 98)),.ite (.cmp .Eq (.loc 166) (.cst (.str [59]))) [.asg 13 (.meth (.attr (.loc 57) 88) 42 [(.cst (.str [10])),(.attr (.loc 57) 98)]),.asgA (.loc 57) 98 (.ite (.cmp .Lt (.loc 13) (.cst (.int 0))) (.call (.cst (.bi "len")) [(.attr (.loc 57) 88)]) (.loc 13))] [.ite (.cmp .In (.loc 166) (.cst (.str [32,10,9,13,12]))) [.asgA (.loc 57) 98 (.bin .Add (.attr (.loc 57) 98) (.cst (.int 1)))] [.ret0]]]]:=ca
theorem wm:FK 966 1 [] [.expr (.meth (.loc 57) 73 []),.asg 136 (.attr (.loc 57) 98),.ite (.cmp .Eq (.loc 136) (.call (.cst (.bi "len")) [(.attr (.loc 57) 88)])) [.ret (.call (.cst (.ref 877)) [(.cst (.str [101,110,100])),(.cst .none),(.loc 136),(.loc 136)])] [],.asg 166 (.sub (.attr (.loc 57) 88) (.loc 136)),.ite (.cmp .In (.loc 166) (.cst (.str [40,41,39,96]))) [.ret (.meth (.loc 57) 97 [(.loc 166),(.cst .none),(.bin .Add (.loc 136) (.cst (.int 1)))])] [],.ite (.cmp .Eq (.loc 166) (.cst (.str [44]))) [.asg 44 (.ite (.cmp .Eq (.slc (.attr (.loc 57) 88) (TR (.bin .Add (.loc 136) (.cst (.int 1)))) (TR (.bin .Add (.loc 136) (.cst (.int 2))))) (.cst (.str [64]))) (.cst (.str [44,64])) (.cst (.str [44]))),.ret (.meth (.loc 57) 97 [(.loc 44),(.cst .none),(.bin .Add (.loc 136) (.call (.cst (.bi "len")) [(.loc 44)]))])] [],.ite (.cmp .Eq (.loc 166) (.cst (.str [34]))) [.ret (.meth (.loc 57) 154 [])] [],.ite (.cmp .Eq (.loc 166) (.cst (.str [35]))) [.ret (.meth (.loc 57) 119 [])] [],.ret (.meth (.loc 57) 260 [])]:=ca
theorem Gs:FK 973 4 [] [.asg 136 (.attr (.loc 57) 98),.asgA (.loc 57) 98 (.loc 13),.ret (.call (.cst (.ref 877)) [(.loc 44),(.loc 110),(.loc 136),(.loc 13)])]:=jm
theorem Gu:FK 980 2 [] [.asg 10 (.loc 136),.while (.band [(.cmp .Lt (.loc 10) (.call (.cst (.bi "len")) [(.attr (.loc 57) 88)])),(.cmp .NotIn (.sub (.attr (.loc 57) 88) (.loc 10)) (.cst (.str [32,10,9,13,12,40,41,34,59])))]) [.ite (.cmp .In (.sub (.attr (.loc 57) 88) (.loc 10)) (.cst (.str [91,93,123,125,124]))) [.raise (.call (.cst (.ref 387)) [(.cst (.str [114,101,115,101,114,118,101,100,32,115,105,103,110])),(.loc 10)])] [],.asg 10 (.bin .Add (.loc 10) (.cst (.int 1)))],.ret (.loc 10)]:=bm
theorem Gv:FK 987 1 [] [.asg 136 (.attr (.loc 57) 98),.asg 13 (.meth (.loc 57) 207 [(.loc 136)]),.asg 21 (.slc (.attr (.loc 57) 88) (TR (.loc 136)) (TR (.loc 13))),.ite (.cmp .Eq (.loc 21) (.cst (.str [46]))) [.ret (.meth (.loc 57) 97 [(.cst (.str [46])),(.cst .none),(.loc 13)])] [],.asg 47 (.call (.cst (.ref 888)) [(.loc 21)]),.ite (.call (.cst (.ref 909)) [(.loc 47)]) [.ret (.meth (.loc 57) 97 [(.cst (.str [115,121,109,98,111,108])),(.ite (.attr (.loc 57) 223) (.loc 47) (.loc 21)),(.loc 13)])] [],.ite (.not (.call (.cst (.ref 916)) [(.loc 21)])) [.raise (.call (.cst (.ref 387)) [(.cst (.str [110,111,32,105,100,101,110,116,105,102,105,101,114])),(.loc 136)])] [],.ret (.meth (.loc 57) 97 [(.cst (.str [110,117,109,98,101,114])),(.meth (.loc 57) 234 [(.loc 21),(.loc 136)]),(.loc 13)])]:=ca
theorem wp:FK 994 3 [] [.asg 163 (.call (.cst (.ref 851)) [(.attr (.loc 57) 235),(.loc 21),(.cst (.int 10))]),.ite (.cmp .Is (.loc 163) (.cst .none)) [.raise (.call (.cst (.ref 387)) [(.cst (.str [110,111,32,110,117,109,98,101,114])),(.loc 136)])] [],.ret (.loc 163)]:=ge
theorem Gw:FK 1001 1 [] [.asg 136 (.attr (.loc 57) 98),.asg 149 (.call (.cst (.ref 888)) [(.slc (.attr (.loc 57) 88) (TR (.bin .Add (.loc 136) (.cst (.int 1)))) (TR (.bin .Add (.loc 136) (.cst (.int 2)))))]),.ite (.cmp .Eq (.loc 149) (.cst (.str [40]))) [.ret (.meth (.loc 57) 97 [(.cst (.str [35,40])),(.cst .none),(.bin .Add (.loc 136) (.cst (.int 2)))])] [],.ite (.bor [(.cmp .Eq (.loc 149) (.cst (.str [116]))),(.cmp .Eq (.loc 149) (.cst (.str [102])))]) [.ret (.meth (.loc 57) 97 [(.cst (.str [98,111,111,108,101,97,110])),(.cmp .Eq (.loc 149) (.cst (.str [116]))),(.bin .Add (.loc 136) (.cst (.int 2)))])] [],.ite (.cmp .Eq (.loc 149) (.cst (.str [92]))) [.ret (.meth (.loc 57) 261 [])] [],.ite (.band [(.cmp .NotEq (.loc 149) (.cst (.str []))),(.cmp .In (.loc 149) (.cst (.str [98,111,100,120,101,105])))]) [.asg 13 (.meth (.loc 57) 207 [(.loc 136)]),.ret (.meth (.loc 57) 97 [(.cst (.str [110,117,109,98,101,114])),(.meth (.loc 57) 234 [(.slc (.attr (.loc 57) 88) (TR (.loc 136)) (TR (.loc 13))),(.loc 136)]),(.loc 13)])] [],.raise (.call (.cst (.ref 387)) [(.cst (.str [110,117,109,98,101,114,32,115,105,103,110])),(.loc 136)])]:=ca
theorem Gx:FK 1008 1 [] [.asg 136 (.attr (.loc 57) 98),.ite (.cmp .Eq (.bin .Add (.loc 136) (.cst (.int 2))) (.call (.cst (.bi "len")) [(.attr (.loc 57) 88)])) [.raise (.call (.cst (.ref 387)) [(.cst (.str [101,110,100,32,105,110,32,97,32,115,105,103,110])),(.loc 136)])] [],.asg 13 (.bin .Add (.loc 136) (.cst (.int 3))),.while (.band [(.cmp .Lt (.loc 13) (.call (.cst (.bi "len")) [(.attr (.loc 57) 88)])),(.cmp .NotIn (.sub (.attr (.loc 57) 88) (.loc 13)) (.cst (.str [32,10,9,13,12,40,41,34,59])))]) [.asg 13 (.bin .Add (.loc 13) (.cst (.int 1)))],.asg 21 (.slc (.attr (.loc 57) 88) (TR (.bin .Add (.loc 136) (.cst (.int 2)))) (TR (.loc 13))),.asg 166 (.ite (.cmp .Eq (.call (.cst (.bi "len")) [(.loc 21)]) (.cst (.int 1))) (.loc 21) (.call (.cst (.ref 923)) [(.loc 21)])),.ite (.cmp .Is (.loc 166) (.cst .none)) [.raise (.call (.cst (.ref 387)) [(.cst (.str [110,97,109,101,32,111,102,32,97,32,115,105,103,110])),(.loc 136)])] [],.ret (.meth (.loc 57) 97 [(.cst (.str [99,104,97,114])),(.call (.cst (.ref 176)) [(.call (.cst (.bi "ord")) [(.loc 166)])]),(.loc 13)])]:=ca
theorem Gy:FK 1015 1 [] [.asg 136 (.attr (.loc 57) 98),.asg 194 (.lst []),.asg 10 (.bin .Add (.loc 136) (.cst (.int 1))),.while (.cst (.bool TV)) [.ite (.cmp .GtE (.loc 10) (.call (.cst (.bi "len")) [(.attr (.loc 57) 88)])) [.raise (.call (.cst (.ref 387)) [(.cst (.str [101,110,100,32,105,110,32,97,32,115,116,114,105,110,103])),(.loc 136)])] [],.asg 166 (.sub (.attr (.loc 57) 88) (.loc 10)),.ite (.cmp .Eq (.loc 166) (.cst (.str [34]))) [.ret (.meth (.loc 57) 97 [(.cst (.str [115,116,114,105,110,103])),(.call (.cst (.ref 330)) [(.meth (.cst (.str [])) 71 [(.loc 194)])]),(.bin .Add (.loc 10) (.cst (.int 1)))])] [],.ite (.cmp .Eq (.loc 166) (.cst (.str [92]))) [.asg 10 (.bin .Add (.loc 10) (.cst (.int 1))),.asg 166 (.slc (.attr (.loc 57) 88) (TR (.loc 10)) (TR (.bin .Add (.loc 10) (.cst (.int 1))))),.ite (.cmp .Eq (.loc 166) (.cst (.str []))) [.raise (.call (.cst (.ref 387)) [(.cst (.str [101,110,100,32,105,110,32,97,32,115,116,114,105,110,103])),(.loc 136)])] [],.ite (.band [(.cmp .NotEq (.loc 166) (.cst (.str [34]))),(.cmp .NotEq (.loc 166) (.cst (.str [92])))]) [.raise (.call (.cst (.ref 387)) [(.cst (.str [101,115,99,97,112,101])),(.bin .Sub (.loc 10) (.cst (.int 1)))])] []] [],.expr (.meth (.loc 194) 146 [(.loc 166)]),.asg 10 (.bin .Add (.loc 10) (.cst (.int 1)))]]:=ca
theorem Gz:FK 1065 1 [] [.ret (.attr (.attr (.loc 57) 124) 98)]:=ca
theorem GA:FK 1072 1 [] [.asgA (.loc 57) 170 (.lst []),.while (.cst (.bool TV)) [.asg 116 (.meth (.attr (.loc 57) 124) 116 []),.ite (.cmp .Eq (.attr (.loc 116) 44) (.cst (.str [101,110,100]))) [.ite (.cmp .Eq (.attr (.loc 57) 170) (.lst [])) [.ret (.cst (.ido 53 38 [(104,(.str [101,111,102]))]))] [],.raise (.call (.cst (.ref 406)) [(.fst [(.cst (.str [101,110,100,32,105,110,32,97,32])),(.fmt (.attr (.sub (.attr (.loc 57) 170) (.neg (.cst (.int 1)))) 44))]),(.attr (.sub (.attr (.loc 57) 170) (.neg (.cst (.int 1)))) 136)])] [],.ite (.meth (.loc 57) 128 [(.loc 116)]) [.cont] [],.ite (.cmp .Eq (.attr (.loc 116) 44) (.cst (.str [46]))) [.expr (.meth (.loc 57) 31 [(.loc 116)]),.cont] [],.asg 114 (.ite (.cmp .Eq (.attr (.loc 116) 44) (.cst (.str [41]))) (.meth (.loc 57) 143 [(.loc 116)]) (.meth (.loc 57) 68 [(.loc 116)])),.ite (.meth (.loc 57) 224 [(.loc 114),(.attr (.loc 116) 136)]) [.ret (.meth (.loc 57) 84 [(.loc 114)])] []]]:=ca
theorem GB:FK 1079 2 [] [.asg 97 (.loc 114),.while (.cmp .NotEq (.attr (.loc 57) 170) (.lst [])) [.asg 97 (.meth (.loc 57) 144 [(.loc 97)])],.ret (.loc 97)]:=bm
theorem GC:FK 1086 2 [] [.asg 106 (.meth (.attr (.loc 57) 170) 23 []),.ret (.call (.cst (.ref 343)) [(.lst [(.sub (.attr (.loc 106) 171) (.cst (.int 0))),(.loc 114)])])]:=bm
theorem qr:FK 1093 2 [] [.ite (.cmp .Eq (.attr (.loc 116) 44) (.cst (.str [40]))) [.expr (.meth (.attr (.loc 57) 170) 146 [(.call (.cst (.ref 1039)) [(.cst (.str [108,105,115,116])),(.attr (.loc 116) 136),(.lst [])])]),.ret (.cst (.bool TV))] [],.ite (.cmp .Eq (.attr (.loc 116) 44) (.cst (.str [35,40]))) [.expr (.meth (.attr (.loc 57) 170) 146 [(.call (.cst (.ref 1039)) [(.cst (.str [118,101,99,116,111,114])),(.attr (.loc 116) 136),(.lst [])])]),.ret (.cst (.bool TV))] [],.forT [70,47] (.cst (.tup [(.tup [(.str [39]),(.str [113,117,111,116,101])]),(.tup [(.str [96]),(.str [113,117,97,115,105,113,117,111,116,101])]),(.tup [(.str [44]),(.str [117,110,113,117,111,116,101])]),(.tup [(.str [44,64]),(.str [117,110,113,117,111,116,101,45,115,112,108,105,99,105,110,103])])])) [.ite (.cmp .Eq (.loc 70) (.attr (.loc 116) 44)) [.expr (.meth (.attr (.loc 57) 170) 146 [(.call (.cst (.ref 1039)) [(.cst (.str [113,117,111,116,97,116,105,111,110])),(.attr (.loc 116) 136),(.lst [(.meth (.attr (.loc 57) 101) 157 [(.loc 47)])])])]),.ret (.cst (.bool TV))] []],.ret (.cst (.bool TT))]:=bm
end
section
variable[HasP]
theorem GD:FK 1100 2 [] [.ite (.cmp .Eq (.attr (.loc 57) 170) (.lst [])) [.raise (.call (.cst (.ref 406)) [(.cst (.str [100,111,116])),(.attr (.loc 116) 136)])] [],.asg 106 (.sub (.attr (.loc 57) 170) (.neg (.cst (.int 1)))),.ite (.bor [(.cmp .NotEq (.attr (.loc 106) 44) (.cst (.str [108,105,115,116]))),(.cmp .Eq (.attr (.loc 106) 171) (.lst [])),(.cmp .NotEq (.attr (.loc 106) 109) (.cst (.int 0)))]) [.raise (.call (.cst (.ref 406)) [(.cst (.str [100,111,116])),(.attr (.loc 116) 136)])] [],.asgA (.loc 106) 109 (.cst (.int 1))]:=bm
theorem wq:FK 1107 2 [] [.ite (.cmp .Eq (.attr (.loc 57) 170) (.lst [])) [.raise (.call (.cst (.ref 406)) [(.cst (.str [99,108,111,115,101,100,32,116,111,111,32,111,102,116,101,110])),(.attr (.loc 116) 136)])] [],.asg 106 (.sub (.attr (.loc 57) 170) (.neg (.cst (.int 1)))),.ite (.cmp .Eq (.attr (.loc 106) 44) (.cst (.str [113,117,111,116,97,116,105,111,110]))) [.raise (.call (.cst (.ref 406)) [(.cst (.str [110,111,116,104,105,110,103,32,98,101,104,105,110,100,32,97,32,113,117,111,116,97,116,105,111,110])),(.attr (.loc 116) 136)])] [],.ite (.cmp .Eq (.attr (.loc 106) 109) (.cst (.int 1))) [.raise (.call (.cst (.ref 406)) [(.cst (.str [110,111,116,104,105,110,103,32,98,101,104,105,110,100,32,97,32,100,111,116])),(.attr (.loc 116) 136)])] [],.expr (.meth (.attr (.loc 57) 170) 23 []),.ite (.cmp .Eq (.attr (.loc 106) 44) (.cst (.str [118,101,99,116,111,114]))) [.ret (.call (.cst (.ref 218)) [(.attr (.loc 106) 171)])] [],.ret (.call (.cst (.ref 343)) [(.attr (.loc 106) 171),(.attr (.loc 106) 64)])]:=bm
theorem wu:FK 1114 2 [] [.ret (.ite (.cmp .Eq (.attr (.loc 116) 44) (.cst (.str [115,121,109,98,111,108]))) (.meth (.attr (.loc 57) 101) 157 [(.attr (.loc 116) 110)]) (.attr (.loc 116) 110))]:=bm
theorem wv:FK 1121 3 [] [.asg 97 (.loc 114),.asg 10 (.call (.cst (.bi "len")) [(.attr (.loc 57) 170)]),.while (.band [(.cmp .Gt (.loc 10) (.cst (.int 0))),(.cmp .Eq (.attr (.sub (.attr (.loc 57) 170) (.bin .Sub (.loc 10) (.cst (.int 1)))) 44) (.cst (.str [113,117,111,116,97,116,105,111,110])))]) [.asg 10 (.bin .Sub (.loc 10) (.cst (.int 1)))],.ite (.cmp .Eq (.loc 10) (.cst (.int 0))) [.ret (.cst (.bool TV))] [],.while (.cmp .Gt (.call (.cst (.bi "len")) [(.attr (.loc 57) 170)]) (.loc 10)) [.asg 97 (.meth (.loc 57) 144 [(.loc 97)])],.asg 106 (.sub (.attr (.loc 57) 170) (.neg (.cst (.int 1)))),.ite (.cmp .Eq (.attr (.loc 106) 109) (.cst (.int 2))) [.raise (.call (.cst (.ref 406)) [(.cst (.str [109,111,114,101,32,98,101,104,105,110,100,32,97,32,116,97,105,108])),(.loc 136)])] [],.ite (.cmp .Eq (.attr (.loc 106) 109) (.cst (.int 1))) [.asgA (.loc 106) 64 (.loc 97),.asgA (.loc 106) 109 (.cst (.int 2))] [.expr (.meth (.attr (.loc 106) 171) 146 [(.loc 97)])],.ret (.cst (.bool TT))]:=ge
theorem GE:FK 1136 2 [.int 53,.bool TV] [.asg 165 (.call (.cst (.ref 1124)) [(.loc 88),(.loc 101),(.loc 235),(.loc 223)]),.asg 97 (.meth (.loc 165) 40 []),.ite (.cmp .Is (.loc 97) (.cst (.ido 53 38 [(104,(.str [101,111,102]))]))) [.raise (.call (.cst (.ref 406)) [(.cst (.str [110,111,32,100,97,116,117,109])),(.call (.cst (.bi "len")) [(.loc 88)])])] [],.asg 13 (.meth (.loc 165) 98 []),.ite (.cmp .IsNot (.meth (.loc 165) 40 []) (.cst (.ido 53 38 [(104,(.str [101,111,102]))]))) [.raise (.call (.cst (.ref 406)) [(.cst (.str [109,111,114,101,32,116,104,97,110,32,111,110,101,32,100,97,116,117,109])),(.loc 13)])] [],.ret (.loc 97)] where
 look P:=by kernel_rfl
 code P:=by kernel_rfl
 flags:=by kernel_rfl
 len:=rfl
 bind P h X vs hv:=by obtain⟨a,b,rfl⟩:=mE hv;exact⟨[.int 53 1818,.bool TV],(.cons (.int 53 _) (.cons (.bool _) .nil)),λs k=>UZ (T:=1129) (items:= #[.int 53 1818,.bool TV]) (n:=0) rfl (k _ _ (X _ _ (show(KW P).lookup 1129=TR (rY P) by kernel_rfl))) rfl rfl (by kernel_rfl)⟩
 body:=by kernel_rfl
theorem qt:FK 1143 2 [] [.ite (.bor [(.not (.call (.cst (.bi "isinstance")) [(.loc 114),(.cst (.ref 155))])),(.not (.call (.cst (.bi "isinstance")) [(.attr (.loc 114) 26),(.cst (.ref 155))])),(.cmp .IsNot (.attr (.attr (.loc 114) 26) 26) (.cst (.ido 44 38 [(104,(.str [101,109,112,116,121]))])))]) [.ret (.cst .none)] [],.forT [70,47] (.cst (.tup [(.tup [(.str [39]),(.str [113,117,111,116,101])]),(.tup [(.str [96]),(.str [113,117,97,115,105,113,117,111,116,101])]),(.tup [(.str [44]),(.str [117,110,113,117,111,116,101])]),(.tup [(.str [44,64]),(.str [117,110,113,117,111,116,101,45,115,112,108,105,99,105,110,103])])])) [.ite (.cmp .Is (.attr (.loc 114) 25) (.meth (.loc 101) 157 [(.loc 47)])) [.ret (.loc 70)] []],.ret (.cst .none)]:=bm
theorem GF:FK 1150 1 [] [.ret (.band [(.cmp .Eq (.call (.cst (.ref 888)) [(.loc 88)]) (.loc 88)),(.call (.cst (.ref 909)) [(.loc 88)])])]:=ca
theorem GG:FK 1157 1 [] [.asg 47 (.call (.cst (.ref 930)) [(.call (.cst (.bi "chr")) [(.loc 46)])]),.ret (.bin .Add (.cst (.str [35,92])) (.ite (.cmp .Is (.loc 47) (.cst .none)) (.call (.cst (.bi "chr")) [(.loc 46)]) (.loc 47)))]:=ca
theorem GH:FK 1164 1 [] [.asg 97 (.lst [(.cst (.str [34]))]),.for 166 (.call (.cst (.ref 335)) [(.loc 88)]) [.ite (.bor [(.cmp .Eq (.loc 166) (.cst (.str [34]))),(.cmp .Eq (.loc 166) (.cst (.str [92])))]) [.expr (.meth (.loc 97) 146 [(.cst (.str [92]))])] [],.expr (.meth (.loc 97) 146 [(.loc 166)])],.expr (.meth (.loc 97) 146 [(.cst (.str [34]))]),.ret (.meth (.cst (.str [])) 71 [(.loc 97)])]:=ca
theorem ww:FK 1171 1 [] [.ite (.call (.cst (.bi "isinstance")) [(.loc 114),(.cst (.ref 38))]) [.ret (.fst [(.cst (.str [35,60])),(.fmt (.attr (.loc 114) 104)),(.cst (.str [62]))])] [],.ite (.call (.cst (.bi "isinstance")) [(.loc 114),(.cst (.ref 302))]) [.ret (.fst [(.cst (.str [35,60,112,114,111,99,101,100,117,114,101,32])),(.fmt (.attr (.loc 114) 104)),(.cst (.str [62]))])] [],.ite (.call (.cst (.bi "isinstance")) [(.loc 114),(.cst (.ref 260))]) [.ret (.cst (.str [35,60,112,114,111,109,105,115,101,62]))] [],.ite (.call (.cst (.bi "isinstance")) [(.loc 114),(.cst (.ref 239))]) [.ret (.cst (.str [35,60,98,111,120,62]))] [],.ret (.ite (.call (.cst (.bi "isinstance")) [(.loc 114),(.cst (.ref 281))]) (.fst [(.cst (.str [35,60,112,111,114,116,32])),(.fmt (.attr (.loc 114) 163)),(.cst (.str [62]))]) (.cst .none))]:=ca
theorem GI:FK 1192 2 [] [.expr (.meth (.attr (.loc 57) 187) 146 [(.tup [(.cst (.int 1)),(.loc 114)])]),.while (.cmp .NotEq (.attr (.loc 57) 187) (.lst [])) [.asgT [44,111] (.meth (.attr (.loc 57) 187) 23 []),.ite (.cmp .Eq (.loc 44) (.cst (.int 0))) [.expr (.meth (.loc 57) 33 [(.loc 111)])] [.ite (.cmp .Eq (.loc 44) (.cst (.int 1))) [.expr (.meth (.loc 57) 114 [(.loc 111)])] [.expr (.meth (.loc 57) 64 [(.loc 111)])]]],.ret (.meth (.cst (.str [])) 71 [(.attr (.loc 57) 169)])]:=bm
theorem GJ:FK 1199 2 [] [.expr (.meth (.attr (.loc 57) 169) 146 [(.loc 99)]),.asgA (.loc 57) 155 (.bin .Add (.attr (.loc 57) 155) (.call (.cst (.bi "len")) [(.loc 99)])),.ite (.band [(.cmp .IsNot (.attr (.loc 57) 134) (.cst .none)),(.cmp .Gt (.attr (.loc 57) 155) (.attr (.loc 57) 134))]) [.raise (.call (.cst (.ref 425)) [(.attr (.loc 57) 134)])] []]:=bm
theorem mI:FK 1206 2 [] [.ite (.call (.cst (.bi "isinstance")) [(.loc 111),(.cst (.ref 155))]) [.expr (.meth (.loc 57) 76 [(.loc 111)])] [.ite (.call (.cst (.bi "isinstance")) [(.loc 111),(.cst (.ref 218))]) [.expr (.meth (.loc 57) 33 [(.cst (.str [35,40]))]),.expr (.meth (.attr (.loc 57) 187) 146 [(.tup [(.cst (.int 0)),(.cst (.str [41]))])]),.for 98 (.call (.cst (.ty "range")) [(.bin .Sub (.call (.cst (.bi "len")) [(.attr (.loc 111) 171)]) (.cst (.int 1))),(.neg (.cst (.int 1))),(.neg (.cst (.int 1)))]) [.expr (.meth (.attr (.loc 57) 187) 146 [(.tup [(.cst (.int 1)),(.sub (.attr (.loc 111) 171) (.loc 98))])]),.ite (.cmp .Gt (.loc 98) (.cst (.int 0))) [.expr (.meth (.attr (.loc 57) 187) 146 [(.tup [(.cst (.int 0)),(.cst (.str [32]))])])] []]] [.expr (.meth (.loc 57) 33 [(.meth (.loc 57) 68 [(.loc 111)])])]]]:=bm
theorem wx:FK 1213 2 [] [.asg 70 (.ite (.cmp .Is (.attr (.loc 57) 101) (.cst .none)) (.cst .none) (.call (.cst (.ref 1143)) [(.loc 111),(.attr (.loc 57) 101)])),.ite (.cmp .IsNot (.loc 70) (.cst .none)) [.expr (.meth (.loc 57) 33 [(.loc 70)]),.expr (.meth (.attr (.loc 57) 187) 146 [(.tup [(.cst (.int 1)),(.attr (.attr (.loc 111) 26) 25)])]),.ret0] [],.expr (.meth (.loc 57) 33 [(.cst (.str [40]))]),.expr (.meth (.attr (.loc 57) 187) 146 [(.tup [(.cst (.int 2)),(.attr (.loc 111) 26)])]),.expr (.meth (.attr (.loc 57) 187) 146 [(.tup [(.cst (.int 1)),(.attr (.loc 111) 25)])])]:=bm
theorem qu:FK 1220 2 [] [.ite (.cmp .Is (.loc 111) (.cst (.ido 44 38 [(104,(.str [101,109,112,116,121]))]))) [.expr (.meth (.loc 57) 33 [(.cst (.str [41]))])] [.ite (.call (.cst (.bi "isinstance")) [(.loc 111),(.cst (.ref 155))]) [.expr (.meth (.loc 57) 33 [(.cst (.str [32]))]),.expr (.meth (.attr (.loc 57) 187) 146 [(.tup [(.cst (.int 2)),(.attr (.loc 111) 26)])]),.expr (.meth (.attr (.loc 57) 187) 146 [(.tup [(.cst (.int 1)),(.attr (.loc 111) 25)])])] [.expr (.meth (.loc 57) 33 [(.cst (.str [32,46,32]))]),.expr (.meth (.attr (.loc 57) 187) 146 [(.tup [(.cst (.int 0)),(.cst (.str [41]))])]),.expr (.meth (.attr (.loc 57) 187) 146 [(.tup [(.cst (.int 1)),(.loc 111)])])]]]:=bm
theorem GK:FK 1227 2 [] [.ite (.call (.cst (.ref 350)) [(.loc 111)]) [.ret (.ite (.loc 111) (.cst (.str [35,116])) (.cst (.str [35,102])))] [],.ite (.cmp .Is (.loc 111) (.cst (.ido 44 38 [(104,(.str [101,109,112,116,121]))]))) [.ret (.cst (.str [40,41]))] [],.ite (.call (.cst (.bi "isinstance")) [(.loc 111),(.cst (.ref 71))]) [.ret (.attr (.loc 111) 88)] [],.ite (.call (.cst (.bi "isinstance")) [(.loc 111),(.cst (.ref 197))]) [.ret (.ite (.attr (.loc 57) 262) (.call (.cst (.ref 1164)) [(.loc 111)]) (.call (.cst (.ref 335)) [(.loc 111)]))] [],.ite (.call (.cst (.bi "isinstance")) [(.loc 111),(.cst (.ref 176))]) [.ret (.ite (.attr (.loc 57) 262) (.call (.cst (.ref 1157)) [(.attr (.loc 111) 46)]) (.call (.cst (.bi "chr")) [(.attr (.loc 111) 46)]))] [],.asg 97 (.call (.cst (.ref 1171)) [(.loc 111)]),.ret (.ite (.cmp .Is (.loc 97) (.cst .none)) (.call (.cst (.ref 735)) [(.attr (.loc 57) 235),(.loc 111),(.attr (.loc 57) 140)]) (.loc 97))]:=bm
end
section
variable[HasP]
theorem GL:FK 1242 5 [] [.ret (.meth (.call (.cst (.ref 1230)) [(.cst (.bool TV)),(.loc 235),(.loc 140),(.loc 134),(.loc 101)]) 41 [(.loc 114)])] where
 look P:=by kernel_rfl
 code P:=by kernel_rfl
 flags:=by kernel_rfl
 len:=rfl
 bind P h X vs hv:=by obtain⟨a,b,c,d,e,rfl⟩:=mG hv;exact⟨[],.nil,λs k=>UZ (T:=1235) (items:= #[.int 53 1974,.int 10 1975,.none,.none]) (n:=0) rfl (k _ _ (X _ _ (show(KW P).lookup 1235=TR (rZ P) by kernel_rfl))) rfl rfl (by kernel_rfl)⟩
 body:=by kernel_rfl
theorem GN:FK 1250 1 [.int 53,.int 10,.none] [.ret (.meth (.call (.cst (.ref 1230)) [(.cst (.bool TT)),(.loc 235),(.loc 140),(.loc 134),(.cst .none)]) 41 [(.loc 114)])] where
 look P:=by kernel_rfl
 code P:=by kernel_rfl
 flags:=by kernel_rfl
 len:=rfl
 bind P h X vs hv:=by obtain⟨a,rfl⟩:=kB hv;exact⟨[.int 53 1987,.int 10 1988,.none],(.cons (.int 53 _) (.cons (.int 10 _) (.cons .none .nil))),λs k=>UZ (T:=1243) (items:= #[.int 53 1987,.int 10 1988,.none]) (n:=0) rfl (k _ _ (X _ _ (show(KW P).lookup 1243=TR (r0 P) by kernel_rfl))) rfl rfl (by kernel_rfl)⟩
 body:=by kernel_rfl
theorem GO:FK 1257 2 [] [.asg 187 (.lst [(.loc 114)]),.while (.cmp .NotEq (.loc 187) (.lst [])) [.asg 111 (.meth (.loc 187) 23 []),.ite (.call (.cst (.bi "isinstance")) [(.loc 111),(.cst (.ref 155))]) [.expr (.meth (.loc 187) 146 [(.attr (.loc 111) 26)]),.expr (.meth (.loc 187) 146 [(.attr (.loc 111) 25)])] [.ite (.call (.cst (.bi "isinstance")) [(.loc 111),(.cst (.ref 218))]) [.expr (.meth (.loc 187) 147 [(.attr (.loc 111) 171)])] [.ite (.call (.cst (.bi "isinstance")) [(.loc 111),(.cst (.ref 71))]) [.ite (.bor [(.not (.meth (.loc 101) 272 [(.loc 111)])),(.not (.call (.cst (.ref 1150)) [(.attr (.loc 111) 88)]))]) [.ret (.cst (.bool TT))] []] [.ite (.band [(.cmp .IsNot (.loc 111) (.cst (.ido 44 38 [(104,(.str [101,109,112,116,121]))]))),(.cmp .IsNot (.call (.cst (.ref 1171)) [(.loc 111)]) (.cst .none))]) [.ret (.cst (.bool TT))] []]]]],.ret (.cst (.bool TV))]:=bm
theorem GP:FK 1269 2 [] [.asg 72 (.sub (.loc 59) (.cst (.int 1))),.asgI (.loc 59) (.cst (.int 1)) (.bin .Add (.loc 72) (.cst (.int 1))),.asg 65 (.ite (.cmp .Lt (.loc 72) (.call (.cst (.bi "len")) [(.sub (.loc 59) (.cst (.int 0)))])) (.sub (.sub (.loc 59) (.cst (.int 0))) (.loc 72)) (.bin .FloorDiv (.sub (.loc 59) (.cst (.int 2))) (.cst (.int 512)))),.asgI (.loc 59) (.cst (.int 2)) (.bin .Mod (.bin .Add (.bin .Add (.bin .Add (.bin .Mult (.sub (.loc 59) (.cst (.int 2))) (.cst (.int 69069))) (.bin .Mod (.loc 65) (.cst (.int 1000003)))) (.bin .Mult (.cst (.int 11)) (.loc 72))) (.cst (.int 1))) (.cst (.int 4294967296))),.ret (.bin .Mod (.loc 65) (.loc 89))]:=bm
theorem GQ:FK 1276 2 [] [.ret (.sub (.loc 127) (.call (.cst (.ref 1269)) [(.loc 59),(.call (.cst (.bi "len")) [(.loc 127)])]))]:=bm
theorem GS:FK 1281 2 [] [.ret (.lst [(.comp (.call (.cst (.bi "abs")) [(.loc 65)]) 65 (.slc (.loc 173) TW (TR (.loc 86))) TW),(.cst (.int 0)),(.bin .Add (.cst (.int 977)) (.call (.cst (.bi "len")) [(.comp (.loc 65) 65 (.slc (.loc 173) TW (TR (.loc 86))) (TR (.cmp .Lt (.loc 65) (.cst (.int 0)))))]))])]:=bm
theorem GT:FK 1288 2 [] [.asgT [97,85] (.tup [(.cst (.str [])),(.call (.cst (.bi "abs")) [(.loc 103)])]),.while (.bor [(.cmp .Gt (.loc 85) (.cst (.int 0))),(.cmp .Eq (.loc 97) (.cst (.str [])))]) [.asg 97 (.bin .Add (.sub (.cst (.str [48,49,50,51,52,53,54,55,56,57,97,98,99,100,101,102])) (.bin .Mod (.loc 85) (.loc 140))) (.loc 97)),.asg 85 (.bin .FloorDiv (.loc 85) (.loc 140))],.ret (.ite (.cmp .Lt (.loc 103) (.cst (.int 0))) (.bin .Add (.cst (.str [45])) (.loc 97)) (.loc 97))]:=bm
theorem GU:FK 1295 1 [] [.asg 48 (.lst [(.lst [(.call (.cst (.ref 302)) [(.cst (.str [102]))]),(.cst (.str [35,60,112,114,111,99,101,100,117,114,101,32,102,62]))]),(.lst [(.call (.cst (.ref 323)) [(.cst (.int 3)),(.cst (.str [99,97,114]))]),(.cst (.str [35,60,112,114,111,99,101,100,117,114,101,32,99,97,114,62]))]),(.lst [(.call (.cst (.ref 260)) [(.cst (.bool TT)),(.cst (.int 1))]),(.cst (.str [35,60,112,114,111,109,105,115,101,62]))])]),.asg 48 (.bin .Add (.loc 48) (.lst [(.lst [(.call (.cst (.ref 239)) [(.cst (.int 2))]),(.cst (.str [35,60,98,111,120,62]))]),(.lst [(.call (.cst (.ref 281)) [(.cst (.int 7))]),(.cst (.str [35,60,112,111,114,116,32,55,62]))]),(.lst [(.cst (.ido 47 38 [(104,(.str [117,110,115,112,101,99,105,102,105,101,100]))])),(.cst (.str [35,60,117,110,115,112,101,99,105,102,105,101,100,62]))]),(.lst [(.cst (.ido 53 38 [(104,(.str [101,111,102]))])),(.cst (.str [35,60,101,111,102,62]))])])),.ret (.call (.cst (.ref 1276)) [(.loc 59),(.bin .Add (.loc 48) (.lst [(.lst [(.cst (.ido 50 38 [(104,(.str [117,110,97,115,115,105,103,110,101,100]))])),(.cst (.str [35,60,117,110,97,115,115,105,103,110,101,100,62]))])]))])]:=ca
theorem GV:FK 1302 2 [] [.asg 47 (.call (.cst (.ref 1276)) [(.loc 59),(.lst [(.cst (.str [97])),(.cst (.str [113,117,111,116,101])),(.cst (.str [117,110,113,117,111,116,101])),(.cst (.str [120,49])),(.cst (.str [65])),(.cst (.str [97,32,98])),(.cst (.str [49,50])),(.cst (.str [])),(.cst (.str [46])),(.cst (.str [43]))])]),.ite (.cmp .Gt (.call (.cst (.ref 1269)) [(.loc 59),(.cst (.int 4))]) (.cst (.int 0))) [.ret (.lst [(.meth (.loc 101) 157 [(.loc 47)]),(.loc 47),(.cmp .In (.loc 47) (.tup [(.cst (.str [97])),(.cst (.str [113,117,111,116,101])),(.cst (.str [117,110,113,117,111,116,101])),(.cst (.str [120,49])),(.cst (.str [43]))]))])] [],.asg 21 (.meth (.loc 101) 112 [(.cst (.str [103]))]),.ret (.lst [(.loc 21),(.attr (.loc 21) 88),(.cst (.bool TT))])]:=bm
theorem GW:FK 1309 3 [] [.asg 43 (.call (.cst (.ref 1269)) [(.loc 59),(.cst (.int 8))]),.ite (.cmp .Eq (.loc 43) (.cst (.int 0))) [.ret (.bin .Add (.call (.cst (.ref 1295)) [(.loc 59)]) (.lst [(.cst (.bool TT))]))] [],.ite (.cmp .Lt (.loc 43) (.cst (.int 3))) [.ret (.call (.cst (.ref 1302)) [(.loc 59),(.loc 101)])] [],.ite (.cmp .Eq (.loc 43) (.cst (.int 3))) [.asgT [58,35] (.tup [(.bin .Add (.cst (.int 1)) (.bin .Mult (.cst (.int 6)) (.bin .Sub (.call (.cst (.ref 1269)) [(.loc 59),(.cst (.int 40))]) (.cst (.int 20))))),(.call (.cst (.ref 1276)) [(.loc 59),(.lst [(.cst (.int 2)),(.cst (.int 3)),(.cst (.int 6))])])]),.ret (.lst [(.call (.cst (.ref 582)) [(.loc 58),(.loc 35)]),(.bin .Add (.bin .Add (.call (.cst (.ref 1288)) [(.loc 58),(.loc 140)]) (.cst (.str [47]))) (.call (.cst (.ref 1288)) [(.loc 35),(.loc 140)])),(.cst (.bool TV))])] [],.ite (.cmp .Eq (.loc 43) (.cst (.int 4))) [.asg 103 (.bin .Sub (.call (.cst (.ref 1269)) [(.loc 59),(.cst (.int 900))]) (.cst (.int 300))),.ret (.lst [(.loc 103),(.call (.cst (.ref 1288)) [(.loc 103),(.loc 140)]),(.cst (.bool TV))])] [],.ite (.cmp .Eq (.loc 43) (.cst (.int 5))) [.ret (.call (.cst (.ref 1276)) [(.loc 59),(.lst [(.lst [(.cst (.bool TV)),(.cst (.str [35,116])),(.cst (.bool TV))]),(.lst [(.cst (.bool TT)),(.cst (.str [35,102])),(.cst (.bool TV))]),(.lst [(.cst (.ido 44 38 [(104,(.str [101,109,112,116,121]))])),(.cst (.str [40,41])),(.cst (.bool TV))])])])] [],.ite (.cmp .Eq (.loc 43) (.cst (.int 6))) [.ret (.call (.cst (.ref 1276)) [(.loc 59),(.lst [(.lst [(.call (.cst (.ref 176)) [(.cst (.int 32))]),(.cst (.str [35,92,115,112,97,99,101])),(.cst (.bool TV))]),(.lst [(.call (.cst (.ref 176)) [(.cst (.int 10))]),(.cst (.str [35,92,110,101,119,108,105,110,101])),(.cst (.bool TV))]),(.lst [(.call (.cst (.ref 176)) [(.cst (.int 40))]),(.cst (.str [35,92,40])),(.cst (.bool TV))])])])] [],.ret (.lst [(.call (.cst (.ref 197)) [(.lst [(.cst (.int 97)),(.cst (.int 34))])]),(.cst (.str [34,97,92,34,34])),(.cst (.bool TV))])]:=ge
theorem GX:FK 1316 4 [] [.asgT [15,120,43] (.tup [(.call (.cst (.ref 1276)) [(.loc 59),(.loc 67)]),(.call (.cst (.ref 1276)) [(.loc 59),(.loc 67)]),(.call (.cst (.ref 1269)) [(.loc 59),(.cst (.int 4))])]),.asg 176 (.band [(.sub (.loc 15) (.cst (.int 2))),(.sub (.loc 120) (.cst (.int 2)))]),.ite (.cmp .Gt (.bin .Add (.call (.cst (.bi "len")) [(.sub (.loc 15) (.cst (.int 1)))]) (.call (.cst (.bi "len")) [(.sub (.loc 120) (.cst (.int 1)))])) (.cst (.int 60))) [.ret (.loc 15)] [],.ite (.cmp .Eq (.loc 43) (.cst (.int 0))) [.ret (.lst [(.call (.cst (.ref 218)) [(.lst [(.sub (.loc 15) (.cst (.int 0))),(.sub (.loc 120) (.cst (.int 0)))])]),(.bin .Add (.bin .Add (.bin .Add (.bin .Add (.cst (.str [35,40])) (.sub (.loc 15) (.cst (.int 1)))) (.cst (.str [32]))) (.sub (.loc 120) (.cst (.int 1)))) (.cst (.str [41]))),(.loc 176)])] [],.ite (.cmp .Eq (.loc 43) (.cst (.int 1))) [.asgT [47,166] (.call (.cst (.ref 1276)) [(.loc 59),(.cst (.lst [(.tup [(.str [113,117,111,116,101]),(.str [39])]),(.tup [(.str [113,117,97,115,105,113,117,111,116,101]),(.str [96])]),(.tup [(.str [117,110,113,117,111,116,101]),(.str [44])]),(.tup [(.str [117,110,113,117,111,116,101,45,115,112,108,105,99,105,110,103]),(.str [44,64])])]))]),.ret (.lst [(.call (.cst (.ref 155)) [(.meth (.loc 101) 157 [(.loc 47)]),(.call (.cst (.ref 155)) [(.sub (.loc 15) (.cst (.int 0))),(.cst (.ido 44 38 [(104,(.str [101,109,112,116,121]))]))])]),(.bin .Add (.loc 166) (.sub (.loc 15) (.cst (.int 1)))),(.sub (.loc 15) (.cst (.int 2)))])] [],.ite (.cmp .Eq (.loc 43) (.cst (.int 2))) [.asgT [47,166] (.call (.cst (.ref 1276)) [(.loc 59),(.cst (.lst [(.tup [(.str [113,117,111,116,101]),(.str [39])]),(.tup [(.str [113,117,97,115,105,113,117,111,116,101]),(.str [96])]),(.tup [(.str [117,110,113,117,111,116,101]),(.str [44])]),(.tup [(.str [117,110,113,117,111,116,101,45,115,112,108,105,99,105,110,103]),(.str [44,64])])]))]),.asg 84 (.call (.cst (.ref 155)) [(.sub (.loc 15) (.cst (.int 0))),(.call (.cst (.ref 155)) [(.sub (.loc 120) (.cst (.int 0))),(.cst (.ido 44 38 [(104,(.str [101,109,112,116,121]))]))])]),.ret (.lst [(.call (.cst (.ref 155)) [(.meth (.loc 101) 157 [(.loc 47)]),(.loc 84)]),(.bin .Add (.bin .Add (.bin .Add (.bin .Add (.bin .Add (.bin .Add (.cst (.str [40])) (.loc 47)) (.cst (.str [32]))) (.sub (.loc 15) (.cst (.int 1)))) (.cst (.str [32]))) (.sub (.loc 120) (.cst (.int 1)))) (.cst (.str [41]))),(.loc 176)])] [],.ret (.lst [(.call (.cst (.ref 155)) [(.sub (.loc 15) (.cst (.int 0))),(.call (.cst (.ref 155)) [(.cst (.int 5)),(.call (.cst (.ref 176)) [(.cst (.int 65))])])]),(.bin .Add (.bin .Add (.bin .Add (.bin .Add (.cst (.str [40])) (.sub (.loc 15) (.cst (.int 1)))) (.cst (.str [32]))) (.call (.cst (.ref 1288)) [(.cst (.int 5)),(.loc 140)])) (.cst (.str [32,46,32,35,92,65,41]))),(.sub (.loc 15) (.cst (.int 2)))])]:=jm
theorem wy:dT 1323 iO 4 [] [.try (.call (.cst (.ref 1242)) [(.loc 114),(.cst (.int 53)),(.loc 140),(.loc 134),(.loc 101)]) (.cst (.ref 425)) 125 [.ret (.lst [(.attr (.loc 125) 44),(.attr (.loc 125) 240),(.attr (.loc 125) 134)])]]:=jm
theorem GY:FK 1330 1 [] [.asgT [59,101] (.tup [(.call (.cst (.ref 1281)) [(.loc 173),(.cst (.int 40))]),(.call (.cst (.ref 134)) [])]),.asg 140 (.call (.cst (.ref 1276)) [(.loc 59),(.lst [(.cst (.int 10)),(.cst (.int 10)),(.cst (.int 2)),(.cst (.int 16))])]),.asg 67 (.lst [(.call (.cst (.ref 1309)) [(.loc 59),(.loc 101),(.loc 140)]),(.call (.cst (.ref 1309)) [(.loc 59),(.loc 101),(.loc 140)])]),.for 72 (.call (.cst (.ty "range")) [(.bin .Add (.cst (.int 2)) (.bin .FloorDiv (.call (.cst (.bi "min")) [(.call (.cst (.bi "len")) [(.loc 173)]),(.cst (.int 24))]) (.cst (.int 6))))]) [.expr (.meth (.loc 67) 146 [(.call (.cst (.ref 1316)) [(.loc 59),(.loc 67),(.loc 101),(.loc 140)])]),.ite (.cmp .Eq (.call (.cst (.ref 1269)) [(.loc 59),(.cst (.int 4))]) (.cst (.int 0))) [.expr (.meth (.loc 67) 146 [(.call (.cst (.ref 1309)) [(.loc 59),(.loc 101),(.loc 140)])])] []],.forT [114,88,176] (.lst [(.sub (.loc 67) (.cst (.int 0))),(.sub (.loc 67) (.neg (.cst (.int 1)))),(.call (.cst (.ref 1276)) [(.loc 59),(.loc 67)])]) [.asg 134 (.call (.cst (.bi "max")) [(.cst (.int 0)),(.bin .Sub (.bin .Add (.call (.cst (.bi "len")) [(.loc 88)]) (.call (.cst (.ref 1269)) [(.loc 59),(.cst (.int 5))])) (.cst (.int 2)))]),.asg 16 (.ite (.cmp .LtE (.call (.cst (.bi "len")) [(.loc 88)]) (.loc 134)) (.loc 88) (.lst [(.cst (.str [84,111,111,76,111,110,103])),(.lst [(.loc 134)]),(.loc 134)])),.ite (.bor [(.cmp .NotEq (.call (.cst (.ref 1323)) [(.loc 114),(.loc 140),(.loc 134),(.loc 101)]) (.loc 16)),(.cmp .NotEq (.call (.cst (.ref 1323)) [(.loc 114),(.loc 140),(.cst .none),(.loc 101)]) (.loc 88))]) [.ret (.cst (.bool TT))] [],.ite (.cmp .NotEq (.call (.cst (.ref 1257)) [(.loc 114),(.loc 101)]) (.loc 176)) [.ret (.cst (.bool TT))] [],.ite (.band [(.loc 176),(.cmp .Eq (.loc 140) (.cst (.int 10))),(.cmp .NotEq (.call (.cst (.ref 1242)) [(.call (.cst (.ref 1136)) [(.loc 88),(.loc 101)]),(.cst (.int 53)),(.cst (.int 10)),(.cst .none),(.loc 101)]) (.loc 88))]) [.ret (.cst (.bool TT))] []],.asg 114 (.sub (.sub (.loc 67) (.cst (.int 0))) (.cst (.int 0))),.ret (.cmp .Eq (.call (.cst (.ref 1250)) [(.call (.cst (.ref 218)) [(.lst [(.call (.cst (.ref 176)) [(.cst (.int 97))]),(.call (.cst (.ref 197)) [(.lst [(.cst (.int 34))])]),(.loc 114)])])]) (.bin .Add (.bin .Add (.cst (.str [35,40,97,32,34,32])) (.call (.cst (.ref 1250)) [(.loc 114)])) (.cst (.str [41]))))]:=ca
end
section
theorem ci{α:Type}(a:Nat)(x:α)(M:List (Nat×α))(b:Nat):aak ((a,x)::M) b=if a=b then TR x else aak M b:=rfl
variable[HasP]
theorem cj{l:List V}:bh M (.lst l)=TR l:=rfl
theorem jn{M:aa}{a:TX}{l:List V}(h:aak M a=TR (.list l)):bh M (.ref a)=TR l:=by show lX (aak M a)=_;rw[h];rfl
theorem wA:((1:Nat):Int)=1:=rfl
theorem wB{l:List (Nat×V)}:aY (.ido a c l)=TV:=rfl
section
variable{M:aa}{a:TX}
theorem bT:bh M (.ref a)=(match aak M a with|some (.list xs)=>TR xs|_=>TW):=rfl
theorem mJ:cm M (.ref a)=(match aak M a with|some (.inst c fs)=>TR (c,fs)|_=>TW):=rfl
theorem GZ:ia M (.ref a) k=(match cm M (.ref a)with|some p=>if ek p.1 k=TV then aak p.2 k else TW|none=>TW):=by unfold ia;cases cm M (.ref a)<;>rfl
theorem G4:eJ M (.ref a)=(match aak M a with|some (.list xs)=>TR (a,xs)|_=>TW):=rfl
theorem G5:fW M (.ref a)=(match aak M a with|some (.dict xs)=>TR (a,xs)|_=>TW):=rfl
theorem G6:jg M (.ref a)=(match aak M a with|some (.inst c xs)=>TR (a,c,xs)|_=>TW):=rfl
theorem G7:fY M (.ref a)=(match bh M (.ref a)with|some l=>TR l.length|none=>TW):=rfl
theorem wC:fZ M (.ref a) k=(match bh M (.ref a)with|some _=>aak mL k|none=>match fW M (.ref a)with|some _=>aak [(30,"dict.get")] k|none=>TW):=rfl
theorem eK:bc M (.ref a) (.int i)=(match bh M (.ref a)with|some xs=>mu xs i|none=>TW):=rfl
end
section
variable{Q:PQ}{M:aa}{a C:TX}{k:Nat}{fs:List (Nat×V)}{r:V}
end
section
variable{M:aa}{a b C:TX}{k:Nat}{fs:List (Nat×V)}{r:V}{xs:List V}{es:List (List Nat×V)}{x:be}{ro:Option be}
theorem cU:aak ((a,x)::M) a=TR x:=if_pos rfl
theorem cV(h:b≠a)(q:aak M a=ro):aak ((b,x)::M) a=ro:=(if_neg h).trans q
theorem cW(h:b≠a)(q:aak M a=ro):aak (ag M b x) a=ro:=by rw[ak,if_neg h,q]
theorem G8(hm:aak M a=TR (.inst C fs))(hf:ek C k=TV)(hl:aak fs k=TR r):ia M (.ref a) k=TR r:=by rw[GZ,mJ,hm];show(if ek C k=TV then aak fs k else TW)=_;rw[if_pos hf,hl]
theorem G9(hm:aak M a=TR (.inst C fs)):cm M (.ref a)=TR (C,fs):=by rw[mJ,hm]
theorem Ha(hm:aak M a=TR (.list xs)):cm M (.ref a)=TW:=by rw[mJ,hm]
theorem Hb(hm:aak M a=TR (.dict es)):cm M (.ref a)=TW:=by rw[mJ,hm]
theorem kD(hm:aak M a=TR (.list xs)):bh M (.ref a)=TR xs:=by rw[bT,hm]
theorem wD(hm:aak M a=TR (.list xs)):eJ M (.ref a)=TR (a,xs):=by rw[G4,hm]
theorem wE(hm:aak M a=TR (.dict es)):fW M (.ref a)=TR (a,es):=by rw[G5,hm]
theorem Hc(hm:aak M a=TR (.inst C fs)):jg M (.ref a)=TR (a,C,fs):=by rw[G6,hm]
theorem mM(hm:aak M a=TR (.list xs)):fY M (.ref a)=TR xs.length:=by rw[G7,kD hm]
theorem Hd{id:String}(hm:aak M a=TR (.list xs))(h:aak mL k=TR id):fZ M (.ref a) k=TR id:=by rw[wC,kD hm];exact h
theorem He(hm:aak M a=TR (.dict es)):bh M (.ref a)=TW:=by rw[bT,hm]
theorem Hf{id:String}(hm:aak M a=TR (.dict es))(h:aak [(30,"dict.get")] k=TR id):fZ M (.ref a) k=TR id:=by rw[wC,He hm,wE hm];exact h
theorem Hg(hm:aak M a=TR (.list xs))(h:xs.length<2^62)(hx:xs.getLast?=TR r):bc M (.ref a) (.int (-1))=TR r:=by refine(eK).symm▸?_;refine(kD hm).symm▸?_;exact(if_pos h).trans hx
end
section
variable{α β:Type}{o:Option α}{u:Option β}{f:α->Prop}{g:α->β->Prop}{x:α}{y:β}{p q:Prop}{b:Bool}
theorem a0(h:o=o')(q:oS o' f):oS o f:=h▸q
theorem mN(h:o=o')(q:oC o' f p):oC o f p:=h▸q
theorem kE(h:b=b')(w:oT b' p):oT b p:=h▸w
theorem cA(h:b=b')(w:oB b' p q):oB b p q:=h▸w
theorem fI(h:o=TR x)(q:f x):oS o f:=by rw[h];exact q
theorem bM{γ:Type}{ρ:List (Nat×γ)}{k:Nat}{f:γ->Prop}{o:Option γ}(q:oS o f)(h:aak ρ k=o:=by simp only[ak, *]<;>rfl):oS (aak ρ k) f:=a0 h q
theorem ac(q:f x)(h:o=TR x:=by walk_at "mem"):oS o f:=fI h q
theorem Hh(h:o=TR x)(q:f x):oC o f p:=by rw[h];exact q
theorem wF(h:o=TW)(q:p):oC o f p:=by rw[h];exact q
theorem wG(h:o=TR x)(h2:u=TR y)(q:g x y):o2 o u g p:=by rw[h,h2];exact q
theorem Hi(h:b=TV)(w:q):oB (dA .Or b) p q:=by rw[h];exact w
theorem Hj(h:b=TT)(w:p):oB (dA .Or b) p q:=by rw[h];exact w
theorem wH(h:b=TV)(w:p):oB b p q:=by rw[h];exact w
theorem dW(w:p)(h:b=TV:=by walk_at "mem"):oB b p q:=wH h w
theorem Hl(h:b=TT)(w:q):oB b p q:=by rw[h];exact w
end
section
variable{M:aa}{a C:TX}{k:Nat}{fs:List (Nat×V)}{r:V}{xs:List V}{es:List (List Nat×V)}{id:String}{p:Prop}
theorem w1(hm:aak M a=TR (.inst C fs))(hf:ek C k=TV)(hl:aak fs k=TR r)(q:f r):oS (ia M (.ref a) k) f:=fI (G8 hm hf hl) q
theorem ah(q:f r)(hm:aak M a=TR (.inst C fs):=by walk_at "mem")(hf:ek C k=TV:=by rfl)(hl:aak fs k=TR r:=by rfl):oS (ia M (.ref a) k) f:=w1 hm hf hl q
theorem w2(hm:aak M a=TR (.inst C fs))(q:f (C,fs)):oC (cm M (.ref a)) f p:=Hh (G9 hm) q
theorem aK(q:f (C,fs))(hm:aak M a=TR (.inst C fs):=by walk_at "mem"):oC (cm M (.ref a)) f p:=w2 hm q
theorem w3(hm:aak M a=TR (.list xs))(q:p):oC (cm M (.ref a)) f p:=wF (Ha hm) q
theorem aN(q:p)(hm:aak M a=TR (.list xs):=by walk_at "mem"):oC (cm M (.ref a)) f p:=w3 hm q
theorem w4(hm:aak M a=TR (.dict es))(q:p):oC (cm M (.ref a)) f p:=wF (Hb hm) q
theorem kF(q:p)(hm:aak M a=TR (.dict es):=by walk_at "mem"):oC (cm M (.ref a)) f p:=w4 hm q
theorem w5(hm:aak M a=TR (.list xs))(h:aak mL k=TR id)(q:f id):oS (fZ M (.ref a) k) f:=fI (Hd hm h) q
theorem aO(q:f id)(hm:aak M a=TR (.list xs):=by walk_at "mem")(h:aak mL k=TR id:=by rfl):oS (fZ M (.ref a) k) f:=w5 hm h q
theorem w6(hm:aak M a=TR (.dict es))(h:aak [(30,"dict.get")] k=TR id)(q:f id):oS (fZ M (.ref a) k) f:=fI (Hf hm h) q
theorem w7(hm:aak M a=TR (.list xs))(q:f xs.length):oS (fY M (.ref a)) f:=fI (mM hm) q
theorem gU(q:f xs.length)(hm:aak M a=TR (.list xs):=by walk_at "mem"):oS (fY M (.ref a)) f:=w7 hm q
theorem w8(hm:aak M a=TR (.list xs))(q:f (a,xs)):oS (eJ M (.ref a)) f:=fI (wD hm) q
theorem aP(q:f (a,xs))(hm:aak M a=TR (.list xs):=by walk_at "mem"):oS (eJ M (.ref a)) f:=w8 hm q
theorem w9(hm:aak M a=TR (.inst C fs))(q:f (a,C,fs)):oS (jg M (.ref a)) f:=fI (Hc hm) q
theorem aV(q:f (a,C,fs))(hm:aak M a=TR (.inst C fs):=by walk_at "mem"):oS (jg M (.ref a)) f:=w9 hm q
theorem wa(hm:aak M a=TR (.list xs))(q:f xs):oS (bh M (.ref a)) f:=fI (kD hm) q
theorem wc(hm:aak M a=TR (.list xs))(h:xs.length<2^62)(hx:xs.getLast?=TR r)(q:f r):oS (bc M (.ref a) (.int (-1))) f:=fI (Hg hm h hx) q
theorem wd{β:Type}{u:Option β}{y:β}{g:TX×List V->β->Prop}(hm:aak M a=TR (.list xs))(hu:u=TR y)(q:g (a,xs) y):o2 (eJ M (.ref a)) u g p:=wG (wD hm) hu q
theorem we{β:Type}{u:Option β}{y:β}{g:TX×List (List Nat×V)->β->Prop}(hm:aak M a=TR (.dict es))(hu:u=TR y)(q:g (a,es) y):o2 (fW M (.ref a)) u g p:=wG (wE hm) hu q
theorem wf{b:Prop}[Decidable b]{p q:Prop}(h:b)(w:p):oB (decide b) p q:=wH (decide_eq_true h) w
theorem c9{b:Prop}[Decidable b]{p q:Prop}(w:p)(h:b:=by walk_at "mem"):oB (decide b) p q:=wf h w
theorem Hm{b:Prop}[Decidable b]{p q:Prop}(h:b)(w:q):oB (dA .Or (decide b)) p q:=Hi (decide_eq_true h) w
theorem ix{b:Prop}[Decidable b]{p q:Prop}(h:¬b)(w:p):oB (dA .Or (decide b)) p q:=Hj (decide_eq_false h) w
theorem wg{b:Prop}[Decidable b]{p q:Prop}(h:¬b)(w:q):oB (decide b) p q:=Hl (decide_eq_false h) w
theorem bv{b:Prop}[Decidable b]{p q:Prop}(w:q)(h:¬b:=by walk_at "mem"):oB (decide b) p q:=wg h w
end
theorem Hn{M:aa}{xs:List V}{k:Nat}(h:k<2^62):bc M (.lst xs) (.int k)=xs[k]? :=if_pos h
theorem Ho{M:aa}{a:TX}{xs:List V}{k:Nat}(hm:aak M a=TR (.list xs))(h:k<2^62):bc M (.ref a) (.int k)=xs[k]? :=by have e:bc M (.ref a) (.int k)=(match bh M (.ref a)with|some xs=>mu xs (k:Nat)|none=>TW):=rfl;refine(e).symm▸?_;refine(jn hm).symm▸?_;exact if_pos h
theorem cF{α:Type}{M:List (Nat×α)}{a:Nat}{x y:α}:ag ((a,x)::M) a y=(a,y)::M:=if_pos rfl
theorem fJ{α:Type}{M:List (Nat×α)}{a b:Nat}{x y:α}(h:b≠a):ag ((b,x)::M) a y=(b,x)::ag M a y:=if_neg h
theorem Hp:b0 71 203=TR 68:=by kernel_rfl
theorem Hq:b0 134 203=TR 89:=by kernel_rfl
theorem Hr:b0 155 203=TR 152:=by kernel_rfl
theorem Hs:b0 176 203=TR 173:=by kernel_rfl
theorem Ht:b0 197 203=TR 194:=by kernel_rfl
theorem Hu:b0 218 203=TR 215:=by kernel_rfl
theorem Hv:b0 239 203=TR 236:=by kernel_rfl
theorem Hw:b0 260 203=TR 257:=by kernel_rfl
theorem Hx:b0 281 203=TR 278:=by kernel_rfl
theorem Hy:b0 302 203=TR 299:=by kernel_rfl
theorem Hz:b0 323 203=TR 320:=by kernel_rfl
theorem HA:b0 582 203=TR 579:=by kernel_rfl
theorem HB:b0 771 203=TR 768:=by kernel_rfl
theorem HC:b0 877 203=TR 874:=by kernel_rfl
theorem HD:b0 1018 203=TR 945:=by kernel_rfl
theorem HF:b0 1039 203=TR 1036:=by kernel_rfl
theorem HG:b0 1124 203=TR 1058:=by kernel_rfl
theorem HH:b0 1230 203=TR 1185:=by kernel_rfl
theorem jo(h:a=a')(q:CT n f a' M Q E):CT n f a M Q E:=h▸q
theorem bG(q:CT n f a' M Q E)(h:a=a':=by simp only[*]<;>rfl):CT n f a M Q E:=h▸q
theorem dh(hf:b0 C 203=TR f)(hC:ma C=TV)(h:∀a,53<a->dz a M->CT n (.ref f) (.ref a::args) ((a,.inst C [])::M) (λr M1=>r=.none/\pG C a M1 Q) E):CT (n+1) (.ref C) args M Q E:=Ft hC hf h
end
local macro_rules | `(tactic|walk_at "mem")=> `(tactic|first|assumption|exact cU|exact bw|(refine cV (by first|assumption|decide) ?_;walk_at "mem")|(refine cW (by first|assumption|decide) ?_;walk_at "mem"))
section
noncomputable abbrev aW(a k:Nat)(l:List Nat):V:=.ido a 71 [(163,.int k),(88,.str l)]
noncomputable abbrev aB(x y:V):V:=.obj 155 [(25,x),(26,y)]
noncomputable abbrev dC(c:Nat):V:=.obj 176 [(46,.int c)]
noncomputable abbrev fb(l:List Nat):V:=.obj 197 [(126,.lst (l.map λc=>.int (c:Nat)))]
noncomputable abbrev bW(l:List V):V:=.obj 218 [(171,.lst l)]
noncomputable abbrev eM(t b:Int):V:=.obj 582 [(24,.int t),(158,.int b)]
noncomputable abbrev mO(t b:Int)(e:Bool):V:=.obj 771 [(24,.int t),(158,.int b),(218,.bool e)]
noncomputable abbrev bH(w:List Nat)(v:V)(s e:Nat):V:=.obj 877 [(44,.str w),(110,v),(136,.int s),(13,.int e)]
noncomputable abbrev aH:V:=.ido 44 38 [(104,.str [101,109,112,116,121])]
noncomputable abbrev kG:V:=.ido 53 38 [(104,.str [101,111,102])]
variable[HasP]
variable{n:Nat}{M:aa}{Q:PQ}{E:PE}
theorem HI{α:Type}(l:List (Nat×α))(k:Nat)(v w:α):ag (ag l k v) k w=ag l k w:=by
 induction l with
 |nil=>exact if_pos rfl
 |cons p r ih=>
  rw[dJ,dJ];by_cases h:p.1=k
  ·rw[if_pos h,if_pos h];exact if_pos rfl
  ·rw[if_neg h,if_neg h,dJ,if_neg h,ih]
theorem kH{α:Type}(l:List (Nat×α))(k:Nat)(v:α):aak ((k,v)::l) k=TR v:=by exact if_pos rfl
theorem wI(q:∀a,53<a->dz a M->Q (.ido a 71 [(163,x),(88,y)]) M)(hn:0<n:=by exact TY _):CT (n+2) (.ref 71) [x,y] M Q E:=dh Hp (by rfl) λa h5 ha=>ax Fz (ks:=[57,163,88]) (hn:=hn) (by
  refine aV ?_;refine aV ?_
  conv=>whnf
  simp only[cF,br,true_and, *]
  conv=>whnf
  exact(.inr ⟨_,_,rfl,.inr (q a h5 ha)⟩))
theorem gV(q:Q (aB x y) M)(hn:0<n:=by exact TY _):CT (n+2) (.ref 155) [x,y] M Q E:=dh Hr (by rfl) λa h5 ha=>ax FB (ks:=[57,25,26]) (hn:=hn) (by
  refine aV ?_;refine aV ?_
  conv=>whnf
  simp only[cF,br,true_and, *]
  conv=>whnf
  exact(.inr ⟨_,_,rfl,.inl q⟩))
theorem jp(q:Q (.obj 176 [(46,x)]) M)(hn:0<n:=by exact TY _):CT (n+2) (.ref 176) [x] M Q E:=dh Hs (by rfl) λa h5 ha=>ax FE (ks:=[57,46]) (hn:=hn) (by
  refine aV ?_
  conv=>whnf
  simp only[cF,br,true_and, *]
  conv=>whnf
  exact(.inr ⟨_,_,rfl,.inl q⟩))
theorem qw(q:Q (.obj 197 [(126,x)]) M)(hn:0<n:=by exact TY _):CT (n+2) (.ref 197) [x] M Q E:=dh Ht (by rfl) λa h5 ha=>ax FF (ks:=[57,126]) (hn:=hn) (by
  refine aV ?_
  conv=>whnf
  simp only[cF,br,true_and, *]
  conv=>whnf
  exact(.inr ⟨_,_,rfl,.inl q⟩))
theorem qx(q:Q (.obj 218 [(171,x)]) M)(hn:0<n:=by exact TY _):CT (n+2) (.ref 218) [x] M Q E:=dh Hu (by rfl) λa h5 ha=>ax FG (ks:=[57,171]) (hn:=hn) (by
  refine aV ?_
  conv=>whnf
  simp only[cF,br,true_and, *]
  conv=>whnf
  exact(.inr ⟨_,_,rfl,.inl q⟩))
theorem HJ(q:Q (.obj 239 [(195,x)]) M)(hn:0<n:=by exact TY _):CT (n+2) (.ref 239) [x] M Q E:=dh Hv (by rfl) λa h5 ha=>ax FH (ks:=[57,195]) (hn:=hn) (by
  refine aV ?_
  conv=>whnf
  simp only[cF,br,true_and, *]
  conv=>whnf
  exact(.inr ⟨_,_,rfl,.inl q⟩))
theorem HK(q:Q (.obj 260 [(178,x),(195,y)]) M)(hn:0<n:=by exact TY _):CT (n+2) (.ref 260) [x,y] M Q E:=dh Hw (by rfl) λa h5 ha=>ax FI (ks:=[57,178,195]) (hn:=hn) (by
  refine aV ?_;refine aV ?_
  conv=>whnf
  simp only[cF,br,true_and, *]
  conv=>whnf
  exact(.inr ⟨_,_,rfl,.inl q⟩))
theorem HL(q:Q (.obj 281 [(163,x)]) M)(hn:0<n:=by exact TY _):CT (n+2) (.ref 281) [x] M Q E:=dh Hx (by rfl) λa h5 ha=>ax FJ (ks:=[57,163]) (hn:=hn) (by
  refine aV ?_
  conv=>whnf
  simp only[cF,br,true_and, *]
  conv=>whnf
  exact(.inr ⟨_,_,rfl,.inl q⟩))
theorem HM(q:Q (.obj 302 [(104,x)]) M)(hn:0<n:=by exact TY _):CT (n+2) (.ref 302) [x] M Q E:=dh Hy (by rfl) λa h5 ha=>ax wh (ks:=[57,104]) (hn:=hn) (by
  refine aV ?_
  conv=>whnf
  simp only[cF,br,true_and, *]
  conv=>whnf
  exact(.inr ⟨_,_,rfl,.inl q⟩))
theorem HN(q:Q (.obj 323 [(104,y),(6,x)]) M)(hn:0<n:=by exact TY _):CT (n+3) (.ref 323) [x,y] M Q E:=dh Hz (by rfl) λa h5 ha=>ax FL (ks:=[57,6,104]) (by
  refine bG ?_;refine ax wh (ks:=[57,104]) (hn:=hn) ?_;refine aV ?_;refine aV ?_
  conv=>whnf
  simp only[cF,br,true_and, *]
  conv=>whnf
  exact(.inr ⟨_,_,rfl,.inl q⟩))
theorem wJ(q:Q (.obj 582 [(24,x),(158,y)]) M)(hn:0<n:=by exact TY _):CT (n+2) (.ref 582) [x,y] M Q E:=dh HA (by rfl) λa h5 ha=>ax FO (ks:=[57,24,158]) (hn:=hn) (by
  refine aV ?_;refine aV ?_
  conv=>whnf
  simp only[cF,br,true_and, *]
  conv=>whnf
  exact(.inr ⟨_,_,rfl,.inl q⟩))
theorem wK(q:Q (.obj 771 [(24,x),(158,y),(218,z)]) M)(hn:0<n:=by exact TY _):CT (n+2) (.ref 771) [x,y,z] M Q E:=dh HB (by rfl) λa h5 ha=>ax FP (ks:=[57,24,158,218]) (hn:=hn) (by
  refine aV ?_;refine aV ?_;refine aV ?_
  conv=>whnf
  simp only[cF,br,true_and, *]
  conv=>whnf
  exact(.inr ⟨_,_,rfl,.inl q⟩))
theorem wL(q:Q (.obj 877 [(44,x),(110,y),(136,z),(13,w)]) M)(hn:0<n:=by exact TY _):CT (n+2) (.ref 877) [x,y,z,w] M Q E:=dh HC (by rfl) λa h5 ha=>ax FQ (ks:=[57,44,110,136,13]) (hn:=hn) (by
  refine aV ?_;refine aV ?_;refine aV ?_;refine aV ?_
  conv=>whnf
  simp only[cF,br,true_and, *]
  conv=>whnf
  exact(.inr ⟨_,_,rfl,.inl q⟩))
def Kp(S:List TX)(M M':aa):Prop:=∀x o,x∉S->aak M x=TR o->aak M' x=TR o
theorem Kp.refl:Kp S M M:=λ_ _ _ e=>e
theorem Kp.trans(h:Kp S M M')(h':Kp S M' Ma):Kp S M Ma:=λx o n e=>h' x o n (h x o n e)
theorem Kp.mono(h:Kp S M M')(i:∀a∈S,a∈S'):Kp S' M M':=λx o n e=>h x o (λz=>n (i x z)) e
theorem Kp.put{S:List TX}{M:aa}{a:TX}{x:be}(h:a∈S):Kp S M (ag M a x):=λy o n e=>by rw[ak,if_neg (λz=>n (by rw[<-z];exact h))];exact e
theorem Kp.push{S:List TX}{M:aa}{a:TX}{x:be}(h:aak M a=TW):Kp S M ((a,x)::M):=λy o n e=>by simp only[cC,gw];rw[if_neg (λz=>by rw[z,e]at h;exact ns h)];exact e
theorem Kp.none(k:Kp S M M')(h:a∉S)(e:aak M' a=TW):aak M a=TW:=by
 cases q:aak M a with
 |none=>rfl
 |some o=>rw[k a o h q]at e;exact ns e
theorem Kp.fresh{S:List TX}{M M':aa}{a:TX}{x:be}(h:aak M a=Ue)(k:Kp (a::S) ((a,x)::M) M'):Kp S M M':=λy o n e=>by
 have ne:a≠y:=λz=>by rw[<-z,h]at e;exact nn e
 refine k y o (λz=>?_) (by simp only[cC,gw];rw[if_neg ne];exact e);rcases List.mem_cons.mp z with z|z
 ·exact ne z.symm
 ·exact n z
theorem HO(q:∀tb rw di M',aak M' tb=TR (.inst 134 [(79,.ref rw),(196,.ref di)])->aak M' rw=TR (.list [])->aak M' di=TR (.dict [])->Kp [] M M'->aak M tb=TW->aak M rw=TW->aak M di=TW->Q (.ref tb) M')(hn:0<n:=by exact TY _):CT (n+2) (.ref 134) [] M Q E:=dh Hq (by rfl) λa h5 ha=>ax FA (ks:=[57]) (hn:=hn) (by
  conv=>whnf
  simp only[*];refine(.inr λrw Qf=>?_);have e1:aak ((a,be.inst 134 [])::M) rw=TW:=Qf.lkp;have n1:rw≠a:=λe=>(Qf _ (.head _)).1 e.symm
  have N9:aak M rw=TW:=by rw[ci,if_neg (Uf n1)]at e1;exact e1
  refine aV ?_;simp only[cF,fJ,Uc,ne_eq,not_false_eq_true, *];refineλdi Lk=>?_
  have n2:di≠rw:=λe=>(Lk _ (.head _)).1 e.symm
  have n3:di≠a:=λe=>(Lk _ (.tail _ (.head _))).1 e.symm
  have e2:=Lk.lkp;simp only[ci,Uf n2,Uf n3,reduceIte]at e2;refine aV ?_
  conv=>whnf
  simp only[cF,fJ,br,ne_eq,not_false_eq_true,true_and, *]
  conv=>whnf
  refine(.inl (q a rw di _ ?_ ?_ ?_ ?_ ha.lkp N9 e2))
  ·walk_at "mem"
  ·walk_at "mem"
  ·walk_at "mem"
  ·intro x o _ e;have x1:a≠x:=λz=>by rw[<-z,ha.lkp]at e;exact nn e
   have x2:rw≠x:=λz=>by rw[<-z,N9]at e;exact nn e
   have x3:di≠x:=λz=>by rw[<-z,e2]at e;exact nn e
   simp[ci,x1,x2,x3,e])
theorem HP(q:∀a,dz a M->Q (.ref a) ((a,.inst 1018 [(88,x),(235,y),(98,.int 0),(223,z)])::M))(hn:0<n:=by exact TY _):CT (n+2) (.ref 1018) [x,y,z] M Q E:=dh HD (by rfl) λa h5 ha=>ax FR (ks:=[57,88,235,223]) (hn:=hn) (by
  refine aV ?_;refine aV ?_;refine aV ?_;refine aV ?_
  conv=>whnf
  simp only[cF,br,true_and, *]
  conv=>whnf
  exact(.inl (q a ha)))
theorem qy(q:∀a,dz a M->Q (.ref a) ((a,.inst 1039 [(44,x),(136,y),(171,z),(109,.int 0),(64,aH)])::M))(hn:0<n:=by exact TY _):CT (n+2) (.ref 1039) [x,y,z] M Q E:=dh HF (by rfl) λa h5 ha=>ax FS (ks:=[57,44,136,171]) (hn:=hn) (by
  refine aV ?_;refine aV ?_;refine aV ?_;refine aV ?_;refine aV ?_
  conv=>whnf
  simp only[cF,br,true_and, *]
  conv=>whnf
  exact(.inl (q a ha)))
theorem HQ(q:∀rd lx fl M',aak M' rd=TR (.inst 1124 [(124,.ref lx),(101,t),(170,.ref fl)])->aak M' lx=TR (.inst 1018 [(88,x),(235,y),(98,.int 0),(223,z)])->aak M' fl=TR (.list [])->Kp [] M M'->aak M rd=TW->aak M lx=TW->aak M fl=TW->Q (.ref rd) M')(hn:0<n:=by exact TY _):CT (n+4) (.ref 1124) [x,t,y,z] M Q E:=dh HG (by rfl) λa h5 ha=>ax FT (ks:=[57,88,101,235,223]) (by
  refine bG ?_;refine HP (hn:=hn) λlx NM=>?_
  have n1:lx≠a:=λe=>(NM _ (.head _)).1 e.symm
  have e1:=NM.lkp;simp only[ci,Uf n1,reduceIte]at e1;refine aV ?_;refine aV ?_;simp only[cF,fJ,ne_eq,not_false_eq_true, *];refine(.inr λfl Li=>?_);have n2:fl≠lx:=λe=>(Li _ (.head _)).1 e.symm
  have n3:fl≠a:=λe=>(Li _ (.tail _ (.head _))).1 e.symm
  have e2:=Li.lkp;simp only[ci,Uf n2,Uf n3,reduceIte]at e2;refine aV ?_
  conv=>whnf
  simp only[cF,fJ,br,ne_eq,not_false_eq_true,true_and, *]
  conv=>whnf
  refine(.inl (q a lx fl _ ?_ ?_ ?_ ?_ ha.lkp e1 e2))
  ·walk_at "mem"
  ·walk_at "mem"
  ·walk_at "mem"
  ·intro x o _ e;have x1:a≠x:=λz=>by rw[<-z,ha.lkp]at e;exact nn e
   have x2:lx≠x:=λz=>by rw[<-z,e1]at e;exact nn e
   have x3:fl≠x:=λz=>by rw[<-z,e2]at e;exact nn e
   simp[ci,x1,x2,x3,e])
theorem wM{x y z l t:V}(q:∀pr pc wt M',aak M' pr=TR (.inst 1230 [(262,x),(235,y),(140,z),(134,l),(101,t),(169,.ref pc),(155,.int 0),(187,.ref wt)])->aak M' pc=TR (.list [])->aak M' wt=TR (.list [])->pc≠wt->Kp [] M M'->aak M pr=TW->aak M pc=TW->aak M wt=TW->Q (.ref pr) M')(hn:0<n:=by exact TY _):CT (n+2) (.ref 1230) [x,y,z,l,t] M Q E:=dh HH (by rfl) λa h5 ha=>ax FU (ks:=[57,262,235,140,134,101]) (hn:=by assumption) (by
  refine aV ?_;refine aV ?_;refine aV ?_;refine aV ?_;refine aV ?_;simp only[cF, *];refine(.inr λlx NM=>?_);have n1:lx≠a:=λe=>(NM _ (.head _)).1 e.symm
  have e1:=NM.lkp;simp only[ci,Uf n1,reduceIte]at e1;refine aV ?_;refine aV ?_;simp only[cF,fJ,ne_eq,not_false_eq_true, *];refine(.inr λfl Li=>?_);have n2:fl≠lx:=λe=>(Li _ (.head _)).1 e.symm
  have n3:fl≠a:=λe=>(Li _ (.tail _ (.head _))).1 e.symm
  have e2:=Li.lkp;simp only[ci,Uf n2,Uf n3,reduceIte]at e2;refine aV ?_
  conv=>whnf
  simp only[cF,fJ,br,ne_eq,not_false_eq_true,true_and, *]
  conv=>whnf
  refine(.inl (q a lx fl _ ?_ ?_ ?_ (Uf n2) ?_ ha.lkp e1 e2))
  ·walk_at "mem"
  ·walk_at "mem"
  ·walk_at "mem"
  ·intro x o _ e;have x1:a≠x:=λz=>by rw[<-z,ha.lkp]at e;exact nn e
   have x2:lx≠x:=λz=>by rw[<-z,e1]at e;exact nn e
   have x3:fl≠x:=λz=>by rw[<-z,e2]at e;exact nn e
   simp[ci,x1,x2,x3,e])
end
section
variable[HasP]
variable{n:Nat}{M:aa}{Q:PQ}{E:PE}
theorem mP(h:bh M xs=TR L):xs=.lst L\/∃a,xs=.ref a/\aak M a=TR (.list L):=by
 cases xs with
 |lst l=>exact .inl (congrArg V.lst (TU h))
 |ref a=>exact .inr ⟨a,rfl,us h⟩
 |_=>exact nn h
theorem mQ{o x:V}{xs:List V}{k:Nat}(hl:bh M o=TR xs)(hk:xs[k]? =TR x)(hf:k<2^62):bc M o (.int k)=TR x:=by
 rcases mP hl with rfl|⟨a,rfl,ha⟩
 ·rw[Hn hf];exact hk
 ·rw[Ho ha hf];exact hk
theorem dX{l:List Nat}{c k:Nat}(hk:l[k]? =TR c)(hf:k<2^62):bc M (.str l) (.int k)=TR (.str [c]):=by have e:bc M (.str l) (.int k)=(match l[k]? with|some c=>TR (.str [c])|none=>TW):=if_pos hf;rw[e,hk]
theorem wN{k:Nat}(hk:k<1000000):gS [.int ((k:Int)-1),.int (-1),.int (-1)]=TR (c8 (-1) ((k:Int)-1) k):=by
 induction k with
 |zero=>rfl
 |succ k=>rw[show(((k+1:Nat):Int)-1)=Int.ofNat k by show _=(k:Int);lia];exact if_pos (show k<1000000 by exact Uy (by assumption))
noncomputable def gf(t:V):List V->V
 | []=>t
 |x::r=>aB x (gf t r)
theorem qz{xs t:V}{L:List V}{K:PK}(hl:bh M xs=TR L)(hz:L.length<2^62)(k:∀ρ,aak ρ 97=TR (gf t L)->K .next ρ M):∀(j:Nat) (ρ:af),j<=L.length->aak ρ 171=TR xs->aak ρ 97=TR (gf t (L.drop j))->Fo (n+3) (e8 98) [.asg 97 (.call (.cst (.ref 155)) [(.sub (.loc 171) (.loc 98)),(.loc 97)])] K E (c8 (-1) ((j:Int)-1) j) ρ M
 |0,ρ,_,_,h=>eq (k ρ (by simpa using h))
 |j+1,ρ,hj,h1,h2=>by
  have hx:L[j]? =TR L[j]:=US hj;have e:=mQ hl hx (by exact ai [_,_] ad bY ad X1 ay bY hj hz rfl);show Fo _ _ _ _ _ (.int ((j+1:Nat)-1:Int)::c8 (-1) (((j+1:Nat)-1:Int)+ -1) j) ρ M;have ej:((j+1:Nat)-1:Int)=j:=by lia
  rw[ej];refine dB (ρ1:=ag ρ 98 (.int j)) rfl ?_;refine a0 (o:=aak _ _) (by simp only[ak,Uz, *]<;>rfl) ?_
  conv=>whnf
  simp only[ak,Uz,reduceIte, *];refine ac ?_;refine a0 (o:=aak _ _) (by simp only[ak,Uz, *]<;>rfl) ?_;refine gV ?_;refine qz hl hz k j _ (by exact Uy (by assumption)) (by simpa[ak]using h1) ?_;simp only[ak,reduceIte];rw[W2 hj];rfl
theorem HR{xs t:V}{L:List V}(hl:bh M xs=TR L)(hz:L.length<1000000)(q:Q (gf t L) M):CT (n+4) (.ref 343) [xs,t] M Q E:=by
 refine ax F5 (ks:=[171,64]) ?_;unfold mH;have e:fY M xs=TR L.length:=by rcases mP hl with rfl|⟨a,rfl,ha⟩;exact rfl;exact mM ha
 have this:=wN hz;refine ac ?_;simp only[*];refine⟨by exact ab [_] ad bd ad (Ar.n 1000000) hz rfl,?_⟩;refine ac ?_;refine qz (t:=t) hl (by exact ab [_] ad bY ad (Ar.n 1000000) hz rfl) (λρ h=>?_) L.length _ (UE _) rfl (by simp[dJ,gy,cC,gw,gf]);refine ac ?_;exact q
theorem mR{α:Type}{k:Nat}{x:X}{f g:α->V}:∀{l:List α},(∀a∈l,pF n k x (f a) (g a))->gP n k x TW (l.map f) (l.map g)
 | [],_=>rfl
 |a::l,h=>⟨TV,rfl,by rw[if_pos rfl];exact⟨_,_,h a (.head _),mR λb hb=>h b (.tail _ hb),rfl⟩⟩
theorem wO{α:Type}{k:Nat}{x c:X}{f g:α->V}{p:α->Bool}:∀{l:List α},(∀a∈l,uX n k (TR c) (f a) (p a))->(∀a∈l,p a=TV->pF n k x (f a) (g a))->gP n k x (TR c) (l.map f) ((l.filter p).map g)
 | [],_,_=>rfl
 |a::l,h,h'=>by
  refine⟨p a,h a (.head _),?_⟩;have ih:=wO (λb hb=>h b (.tail _ hb)) (λb hb=>h' b (.tail _ hb));by_cases e:p a=TV
  ·rw[if_pos e,VN e];exact⟨_,_,h' a (.head _) e,ih,rfl⟩
  ·rw[if_neg e,Wp e];exact ih
theorem HS{l:List Nat}(hl:l.length<=Ub)(q:Q (fb l) M):CT (n+4) (.ref 330) [.str l] M Q E:=by refine ax FZ (ks:=[41]) ?_;refine⟨l.map λc=>.int (c:Nat),mR λc _=>?_,by simpa using hl,qw q⟩;intro M;refine(cg (by exact TY _) 60).x ?_;exact⟨rfl,rfl⟩
theorem kJ(l:List (List Nat)):eG (l.map V.str)=TR l:=by
 induction l with
 |nil=>rfl
 |cons a l ih=>rw[UA];show po (.str a) (eG (l.map V.str))=_;rw[ih];rfl
theorem mT(l:List Nat):(l.map λc=>[c]).flatten=l:=by
 induction l with
 |nil=>rfl
 |cons a l ih=>simp[ih]
theorem wP{l:List Nat}(hl:l.length<=16777216)(hc:∀c∈l,c<=0x10FFFF)(q:Q (.str l) M):CT (n+2) (.ref 335) [fb l] M Q E:=by
 refine ax F0 (ks:=[88]) ?_;refine⟨(l.map λc=>[c]).map V.str,?_,by simpa[Ub]using hl,?_⟩
 ·rw[U8];refine mR λc hm=>?_
  intro M;refine(cg (by exact TY _) 60).x ?_;have:=hc c hm;exact⟨by exact dp (a:=0) (aw [_] N0 X0 rfl),by exact dp (b:=1114111) (ab [_] X0 (Ar.n 1114111) X0 (Ar.n 1114111) this rfl),rfl,rfl⟩
 ·have e:=kJ (l.map λc=>[c]);refine ac ?_;simp only[*];rw[mT];exact⟨hl,q⟩
theorem fc{v:V}(h:aD M v (.ty "bool")=TR b)(q:Q (.bool b) M):CT (n+2) (.ref 350) [v] M Q E:=by refine ax F6 (ks:=[114]) ?_;refine ac ?_;exact q
theorem wQ{v:V}(h:aD M v (.ref 463)=TR b)(q:Q (.bool b) M):CT (n+2) (.ref 474) [v] M Q E:=by refine ax F7 (ks:=[110]) ?_;refine ac ?_;exact q
theorem HT(q:Q (if b=1 then .int t else eM t b) M):CT (n+4) (.ref 600) [.int t,.int b] M Q E:=by
 refine ax F9 (ks:=[24,158]) ?_
 conv=>whnf
 by_cases e:b=1
 ·simp only[e,decide_true,reduceIte]at q⊢;exact q
 ·simp only[e,decide_false,reduceIte,UC]at q⊢;exact wJ q
end
section
noncomputable def aM(d:Nat):Nat:=(cz[d]?).getD 48
noncomputable def iy(r:Nat):Nat->Nat->List Nat
 |0,_=>[]
 |k+1,n=>if n=0 then[]else aM (n%r)::iy r k (n/r)
noncomputable def ds(r n:Nat):List Nat:=iy r n n
theorem mU:iy r k 0=[]:=by
 induction k with
 |zero=>rfl
 |succ k=>exact if_pos rfl
theorem qA(h:n≠0):iy r (k+1) n=aM (n%r)::iy r k (n/r):=if_neg h
theorem qB(hr:2<=r)(h:n≠0)(hk:n<=k+1):n/r<=k:=Nat.le_of_lt_succ (Yq (Nat.div_lt_self (UJ h) hr) hk)
theorem wR(hr:2<=r):∀(k m n:Nat),n<=k->n<=m->iy r k n=iy r m n
 |0,m,n,h,_=>by obtain rfl:=Nat.le_zero.mp h;refine(mU).symm▸?_;refine(mU).symm▸?_;with_reducible rfl
 |k+1,m,n,h,h'=>by
  by_cases e:n=0
  ·refine(e).symm▸?_;refine(mU).symm▸?_;refine(mU).symm▸?_;with_reducible rfl
  ·induction m with
   |zero=>exact absurd (Nat.le_zero.mp h') e
   |succ m=>rw[qA e,qA e,wR hr k m (n/r) (qB hr e h) (qB hr e h')]
theorem ff:ds r 0=[]:=rfl
theorem iz(hn:n≠0)(hr:2<=r):ds r n=aM (n%r)::ds r (n/r):=by
 induction n with
 |zero=>exact absurd rfl hn
 |succ k=>exact(qA hn).trans (congrArg (List.cons _) (wR hr _ _ _ (qB hr hn (UE _)) (UE _)))
noncomputable def fg(r n:Nat):List Nat:=if n=0 then[48]else(ds r n).reverse
noncomputable def nt(r:Nat)(i:Int):List Nat:=(if i<0 then[45]else[])++fg r i.natAbs
theorem qC(hr:2<=r):∀(k n:Nat),n<2^k->(ds r n).length<=k
 |0,n,h=>by
  have:n=0:=by exact UM (ab [_] X0 N0 ad N1 h rfl) (aw [_] N0 X0 rfl)
  subst this;rw[ff];simp
 |k+1,n,h=>by
  by_cases e:n=0
  ·subst e;rw[ff];simp
  ·rw[iz e hr,aau];have:n/r<2^k:=by
    have h2:n/r<=n/2:=VK hr (by exact TY _);have h3:n/2<2^k:=by rw[VC (by exact TY _)];rw[WN]at h;exact h
    exact ai [_,_,_] ad X1 bC X1 X0 X2 h3 h2 rfl
   have:=qC hr k _ this;exact ab [_,_] ad ay X0 X1 this rfl
theorem wS(hr:2<=r)(h:n<2^k)(hk:0<k):(fg r n).length<=k:=by
 unfold fg;split
 ·simp;assumption
 ·rw[List.length_reverse];exact qC hr k n h
theorem fh(hr:2<=r)(h:i.natAbs<2^k)(hk:0<k):(nt r i).length<=k+1:=by unfold nt;have:=wS hr h hk;refine(Ui).symm▸?_;split<;>simp<;>(first|exact Ve (by assumption)|exact ab [_,_] (N1.a X0) ay X0 X1 this rfl)
theorem wT(h:d<r)(hr:r<=16):aM d∈cz.take r:=by
 have key:∀r<17,∀d<r,aM d∈cz.take r:=by decide
 exact key r (by exact ab [_] ad (Ar.n 17) X0 (Ar.n 16) hr rfl) d h
theorem qD(h:d<16):cz.idxOf? (aM d)=TR d:=by
 have key:∀d<16,cz.idxOf? (aM d)=TR d:=by decide
 exact key d h
theorem wU(hr:2<=r)(K4:r<=16):∀(k n:Nat),n<2^k->∀c∈ds r n,∃d,d<r/\c=aM d
 |0,n,h,c,hc=>by
  have:n=0:=by exact UM (ab [_] X0 N0 ad N1 h rfl) (aw [_] N0 X0 rfl)
  subst this;rw[ff]at hc;simp at hc
 |k+1,n,h,c,hc=>by
  by_cases e:n=0
  ·subst e;rw[ff]at hc;simp at hc
  ·rw[iz e hr,Uk]at hc;rcases hc with rfl|hc
   ·exact⟨_,VT _ (by exact Uy (by assumption)),rfl⟩
   ·have:n/r<2^k:=by
     have h2:n/r<=n/2:=VK hr (by exact TY _);have h3:n/2<2^k:=by rw[VC (by exact TY _)];rw[WN]at h;exact h
     exact ai [_,_,_] ad X1 bC X1 X0 X2 h3 h2 rfl
    exact wU hr K4 k _ this c hc
theorem mV(hr:2<=r)(K4:r<=16)(hc:c∈fg r n):∃d,d<r/\c=aM d:=by
 unfold fg at hc;split at hc
 ·exact⟨0,by exact Uy (by assumption),(by rw[VA]at hc;rw[hc];decide)⟩
 ·rw[YH]at hc;exact wU hr K4 n n XY c hc
theorem mW(hr:2<=r):fg r n≠[]:=by
 unfold fg;split
 ·simp
 ·rename_i h;rw[iz h hr];simp
noncomputable def wo(r:Nat)(l:List Nat)(a:Nat):Nat:=l.foldl (λa c=>a*r+(cz.idxOf? c).getD 0) a
theorem wV(hr:2<=r)(K4:r<=16):∀(k n:Nat),n<2^k->wo r (ds r n).reverse 0=n
 |0,n,h=>by
  have:n=0:=by exact UM (ab [_] X0 N0 ad N1 h rfl) (aw [_] N0 X0 rfl)
  subst this;rw[ff];rfl
 |k+1,n,h=>by
  by_cases e:n=0
  ·subst e;rw[ff];rfl
  ·have h3:n/r<2^k:=by
    have h2:n/r<=n/2:=VK hr (by exact TY _);have h3:n/2<2^k:=by rw[VC (by exact TY _)];rw[WN]at h;exact h
    exact ai [_,_,_] ad X1 bC X1 X0 X2 h3 h2 rfl
   have ih:=wV hr K4 k _ h3;have hm:n%r<r:=VT _ (by exact Uy (by assumption));unfold wo at ih⊢;rw[iz e hr,VH,List.foldl_append,ih];simp only[Xw,Zf,qD (show n%r<16 by exact ai [_,_] ad (Ar.n 16) ad X1 X1 (Ar.n 16) hm K4 rfl),V3];have:=Y0 n r;rw[Yv]at this;exact this
theorem qE(hr:2<=r)(K4:r<=16):wo r (fg r n) 0=n:=by
 unfold fg;split
 ·rename_i h;subst h;unfold wo;rw[Xw,Zf,show cz.idxOf? 48=TR 0 from by decide];simp
 ·exact wV hr K4 n n XY
theorem wW(hr:1<=r):∀(l:List Nat) (a:Nat),a<=wo r l a
 | [],a=>UE _
 |c::l,a=>by refine UI ?_ (wW hr l _);have:a*1<=a*r:=XX a hr;show a<=a*r+_;lia
variable[HasP]
variable{n:Nat}{M:aa}{Q:PQ}{E:PE}
theorem HU{K:PK}(h:Ev n ρ M x (λr M1=>K (.ret r) ρ M1) E):Ex n ρ M [.ret x] K E:=iu (i4 (t6 h))
theorem HV{K:PK}:∀(k a b:Nat) (ρ:af),b<=k->aak ρ 15=TR (.int a)->aak ρ 120=TR (.int b)->(∀ρ,aak ρ 15=TR (.int (WF a b))->K .next ρ M)->Wh (n+1) ρ M (.cmp .NotEq (.loc 120) (.cst (.int 0))) [.asgT [15,120] (.tup [(.loc 120),(.bin .Mod (.loc 15) (.loc 120))])] K E:=by
 intro k;induction k with
 |zero=>
  intro a b ρ hk h1 h2 q;refine bF ?_;have:b=0:=by exact UM (ab [_] X0 N0 X0 N0 hk rfl) (aw [_] N0 X0 rfl)
  subst this;refine ac ?_;exact q ρ (by simpa using h1)
 |succ k ih=>
  intro a b ρ hk h1 h2 q;refine bF ?_;by_cases e:b=0
  ·subst e;refine ac ?_;exact q ρ (by simpa using h1)
  ·have e':¬((b:Int)=0):=by exact cY (b:=0) (UO (ab [_] (N0.a N1) X0 (N0.a N1) X0 (UJ e) rfl))
   refine ac ?_;refine cA (b:=YA _) (by simp only[decide_false,UL, *]<;>rfl) ?_
   conv=>whnf
   refine ac ?_;refine ac ?_;refine ac ?_;simp only[*];refine⟨‹_›,?_⟩;have e2:XL (a:Int) (b:Int)=((a%b:Nat):Int):=by rw[V2 _ (by exact dp (a:=0) (aw [_] N0 X0 rfl))];simp
   refine(e2).symm▸?_;have hm:=VT a (show b>0 by exact ab [_] (N0.a N1) X0 (N0.a N1) X0 (UJ e) rfl);refine ih b (a%b) _ (by exact ai [_,_,_] X0 X1 ad X2 X2 ay hm hk rfl) ?_ ?_ λρ h=>q ρ ?_
   ·simp[ak,bR,bS]
   ·simp[ak,bR,bS]
   ·refine(h).symm▸?_;rewrite[Zz b];rewrite[<-Nat.gcd_rec];rewrite[Zz];with_reducible rfl
theorem HW(q:Q (.int (WF a.natAbs b.natAbs)) M):CT (n+2) (.ref 593) [.int a,.int b] M Q E:=by
 refine ax F8 (ks:=[15,120]) ?_;refine HV b.natAbs a.natAbs b.natAbs _ (UE _) rfl rfl λρ h=>?_
 refine ac ?_;exact q
theorem HX{t:Int}{b:Nat}(hb:0<b)(hg:WF t.natAbs b=1)(q:Q (if(b:Int)=1 then .int t else eM t b) M):CT (n+5) (.ref 607) [.int t,.int b] M Q E:=by
 refine ax Ga (ks:=[24,158]) ?_;have e:¬((b:Int)<0):=by exact ft (b:=0) (aw [_] N0 X0 rfl)
 refine bG ?_;refine HW ?_;have e2:WF t.natAbs ((b:Int)).natAbs=1:=by simpa using hg
 refine(e2).symm▸?_
 conv=>whnf
 simp only[U2,ne_eq, *];refine⟨by decide,?_⟩;refine⟨by decide,?_⟩
 conv=>whnf
 simp only[U2,ne_eq, *];refine⟨by decide,?_⟩;refine⟨by decide,?_⟩;have h1:Yx t (1:Nat)=t:=by simp
 have h2:Yx (b:Int) (1:Nat)=b:=by simp
 refine HT ?_;refine(h1).symm▸?_;refine(h2).symm▸?_;exact q
theorem ar(h:k<=100000):k<=Ub:=by exact ab [_] X0 (Ar.n 16777216) X0 am h rfl
theorem qF(h:d<16):cz[d]? =TR (aM d):=by
 have key:∀d<16,cz[d]? =TR (aM d):=by decide
 exact key d h
theorem HY{r:Nat}(hr:2<=r)(K4:r<=16){K:PK}{a:TX}:∀(k i:Nat) (ρ:af) (M:aa) (xs:List (List Nat)),i<2^k->xs.length+k<1000->aak ρ 163=TR (.int i)->aak ρ 140=TR (.int r)->aak ρ 97=TR (.ref a)->aak M a=TR (.list (xs.map V.str))->(∀ρ M',aak ρ 97=TR (.ref a)->aak M' a=TR (.list ((xs++(ds r i).map λc=>[c]).map V.str))->Kp [a] M M'->K .next ρ M')->Wh (n+1) ρ M (.cmp .Gt (.loc 163) (.cst (.int 0))) [.asgT [163,152] (.call (.cst (.bi "divmod")) [(.loc 163),(.loc 140)]),.expr (.meth (.loc 97) 146 [(.sub (.cst (.str [48,49,50,51,52,53,54,55,56,57,97,98,99,100,101,102])) (.loc 152))])] K E:=by
 intro k;induction k with
 |zero=>
  intro i ρ M xs hi hz h1 h2 h3 h4 q;have:i=0:=by exact UM (ab [_] X0 N0 ad N1 hi rfl) (aw [_] N0 X0 rfl)
  subst this;refine bF ?_;refine ac ?_;exact q ρ M h3 (by rw[ff];simpa using h4) .refl
 |succ k ih=>
  intro i ρ M xs hi hz h1 h2 h3 h4 q;refine bF ?_;by_cases e:i=0
  ·subst e;refine ac ?_;exact q ρ M h3 (by rw[ff];simpa using h4) .refl
  ·have e1:((i:Int)>0):=by exact dF (a:=0) (ab [_] (N0.a N1) X0 (N0.a N1) X0 (UJ e) rfl)
   have hm:i%r<r:=VT _ (by exact Uy (by assumption));have e2:XL (i:Int) (r:Int)=((i%r:Nat):Int):=by rw[V2 _ (by exact dp (a:=0) (aw [_] N0 X0 rfl))];simp
   have e3:Yx (i:Int) (r:Int)=((i/r:Nat):Int):=by rw[WV _ (by exact dp (a:=0) (aw [_] N0 X0 rfl))];simp
   have e4:bc M (.str [48,49,50,51,52,53,54,55,56,57,97,98,99,100,101,102]) (.int ((i%r:Nat):Int))=TR (.str [aM (i%r)]):=dX (qF (by exact ai [_,_] ad (Ar.n 16) ad X1 X1 (Ar.n 16) hm K4 rfl)) (by exact ai [_,_] ad bY ad X1 X1 (Ar.n 16) hm K4 rfl);have c1:(r:Int)≠0:=by exact cY (b:=0) (UO (ab [_] (N0.a N1) X0 N2 X0 hr rfl))
   have c2:(r:Int).natAbs<1073741824:=by exact ab [_] ad (Ar.n 1073741824) X0 (Ar.n 16) K4 rfl
   have c3:(xs.map V.str).length<=Ub:=by rw[UK];exact ar (by exact ab [_,_] X0 am ((X0.a ay).a N1) (Ar.n 1000) hz rfl)
   refine ac ?_;refine c9 ?_;refine ac ?_;refine ac ?_
   conv=>whnf
   simp only[U2,ne_eq,not_false_eq_true,true_and, *]
   conv=>whnf
   have MG:i/r<2^k:=by
    have h2:i/r<=i/2:=VK hr (by exact TY _);have h3:i/2<2^k:=by rw[VC (by exact TY _)];rw[WN]at hi;exact hi
    exact ai [_,_,_] ad X1 bC X1 X0 X2 h3 h2 rfl
   refine⟨by assumption,?_⟩
   conv=>whnf
   simp only[ak,bR,bS, *]
   conv=>whnf
   refine aN ?_;refine aO ?_
   conv=>whnf
   simp only[ak,reduceIte, *]
   conv=>whnf
   refine ac ?_;refine aP ?_;simp only[true_and, *];refine ih (i/r) _ _ (xs++[[aM (i%r)]]) MG (by exact ai [_,_,_] (aI.a N1) (Ar.n 1000) X0 (X2.a (N0.a N1)) ((X2.a ay).a N1) (Ar.n 1000) aL hz rfl) (by exact(aS rfl).trans bw) (by exact(aS rfl).trans ((aS rfl).trans h2)) (by exact(aS rfl).trans ((aS rfl).trans h3)) (by simp[ak,bR,bS]) λρ M' g1 g2 g3=>q ρ M' g1 ?_ ((Kp.put (List.mem_singleton.mpr rfl)).trans g3)
   rw[iz e hr];simpa using g2
theorem HZ(l:List Nat):(l.map λc=>[c]).reverse.flatten=l.reverse:=by refine(V4)▸?_;rewrite[mT];with_reducible rfl
theorem wX{i r:Nat}(hr:2<=r)(K4:r<=16)(hi:i<2^64)(q:∀M',Kp [] M M'->Q (.str (fg r i)) M'):CT (n+2) (.ref 615) [.int i,.int r] M Q E:=by
 refine b6 Gb (ks:=[163,140]) ?_;by_cases e:i=0
 ·subst e;refine bV ⟨rfl,rfl⟩ ?_;exact q M .refl
 have e1:¬((i:Int)=0):=by exact cY (b:=0) (UO (ab [_] (N0.a N1) X0 (N0.a N1) X0 (UJ e) rfl))
 refine aU (by
  conv=>whnf
  simp only[decide_false,and_true, *]) ?_
 refine av ?_;refine .inr λa ha=>?_
 refine av ?_;have hl:=qC hr 64 i hi;refine HY hr K4 (a:=a) 64 i _ _ [] hi (by decide) rfl rfl rfl (kH _ _ _) λρ M' g1 g2 g3=>?_
 refine HU (Dv (by exact TY _) (oZ g1 ⟨_,_,jn g2,kJ _,?_,?_,?_⟩))
 ·simp[Ub];exact ab [_] X0 (Ar.n 16777216) X0 (Ar.n 64) hl rfl
 ·simp[mT];exact ab [_] X0 (Ar.n 16777216) X0 (Ar.n 64) hl rfl
 ·have:=q M' (Kp.fresh ha.lkp g3);unfold fg at this;rw[if_neg e]at this;simp only[PK.ret,br,VV,HZ];exact this
end
section
variable[HasP]
noncomputable abbrev jq:List Nat:=[101,115,102,100,108]
theorem H0:FnOk0 808 nQ 1 [] where
 look P:=by kernel_rfl
 code P:=by kernel_rfl
 flags:=by kernel_rfl
 len:=rfl
 bind P h X vs hv:=by
  refine aj (kB hv) λa KY=>?_
  subst KY;exact⟨[],.nil,λs k=>Zs (by kernel_rfl)⟩
noncomputable abbrev mX:U5:=eY (bD (cH 76)) 0
noncomputable abbrev iA:Up:=gG mX
noncomputable abbrev mY:Up:=kd iA 0
noncomputable abbrev qG:Up:=kd iA 1
noncomputable abbrev qH:Up:=kd iA 2
noncomputable def H2:U5:=eY (bD (cH 76)) 1
noncomputable def qI:UG:=tH iA
theorem H3:bD (cH 76)=[.Assign [.Name (so "places") (gH mX).pos] (.ListComp (.Name (so "place") (dy iA).pos) [⟨.Tuple [.Name (so "place") (kd mY 0).pos,.Name (so "sign") (kd mY 1).pos] (tG mY) mY.pos,.Call (.Name (so "enumerate") (dy qG).pos) [.Name (so "word") (kd qG 0).pos] [] qG.pos,[.Compare (.Name (so "sign") (dy qH).pos) [.In] [.Name (so "MARKS") (kd qH 0).pos] qH.pos],0⟩] qI iA.pos) mX.pos,H2]:=by kernel_rfl
theorem H4:(gH mX).pos.line=iA.pos.line:=by kernel_rfl
theorem wY:qI.names=[(so ".0",.local),(so "place",.local),(so "sign",.local),(so "MARKS",.globalImplicit)]/\qI.kind=.function:=⟨by kernel_rfl,by kernel_rfl⟩
theorem mZ:(bq (cH 76)).names=[(so "word",.local),(so "places",.local),(so "enumerate",.globalImplicit),(so "len",.globalImplicit)]:=by kernel_rfl
noncomputable def qJ:List XS:=[.ret (.ite (.cmp .NotEq (.loc 168) (.lst [])) (.sub (.loc 168) (.cst (.int 0))) (.call (.cst (.bi "len")) [.loc 44]))]
theorem H5:eB gt 60 (bq (cH 76)) ((bD (cH 76)).drop 1)=TR qJ:=by kernel_rfl
theorem H6(G:Gr w base)(hg:env.globals=U9)(hb:env.builtins=WC)(hk:env.scope.kind=.function)(h1:env.scope.names.lookup (so "sign")=TR .local)(h2:env.scope.names.lookup (so "MARKS")=TR .globalImplicit)(kb:∀a o,base.get? a=TR o->s.heap.get? a=TR o)(Lj:s.heap.Ns env.locals m)(hm:m (so "sign")=TR (.str ⟨#[c]⟩ tk)):Uh (Uj pw w) A (isTrue (.Compare (.Name (so "sign") pa) [.In] [.Name (so "MARKS") pb] p) env (eval (.Compare (.Name (so "sign") pa) [.In] [.Name (so "MARKS") pb] p) env)) (λb s'=>b=decide (c∈jq)/\∃tk,s'={s with toks:=tk}) E' s:=by
 refine wpAny_isTrue_Compare1 (wpAny_Name (wpAny_loadName_local hk h1 Lj hm ?_) (by decide)) rfl;refine Name_function_global hk h2 (hZ G (id:=so "MARKS") (v:=.str jq) (by kernel_rfl) (by kernel_rfl) hg hb kb λval hv=>?_) (by decide);generalize hF:jq=mk at hv;induction hv with
 |str x t=>refine XH ?_;rw[Wu];exact wpAny_truthy_bool ⟨rfl,_,rfl⟩
theorem aA.addL(T:aA B M own h)(hD:B D=TW)(hO:D∉own)(e:h.get? D=TR o):aA (aZ B D o) M own h:=by
 obtain⟨keep,mr,nd,dis,big⟩:=T;have le:=eZ (o:=o) hD;refine⟨λx o' q=>?_,mr.keeps le λ_ _ _ e=>e,nd,λx hx=>?_,?_,big.2⟩
 ·unfold aZ at q;split at q
  ·rename_i z;subst z;obtain rfl:=TU q;exact e
  ·exact keep x o' q
 ·unfold aZ;refine(if_neg (λ(z:x=D)=>hO (z▸hx))).symm▸?_;exact dis x hx
 ·cases e3:B 3 with
  |none=>exact absurd e3 big.1
  |some o=>rw[le _ _ e3];exactλq=>by exact ns q
noncomputable abbrev eN:Vi:={cls:=.type "list",data:=.seq ([]:List TZ).toArray}
theorem H7{q1:Pos}{K:PK}(S:St c n ρ M B own s.heap)(hm:s.heap.Ns c.env.locals m)(H:∀x v,aG x=TV->aak ρ (nc x)=TR v->∃val,m x=TR val/\VR B val v)(hp:c.env.scope.names.lookup (so "places")=TR .local)(hC:s'.heap.Ns C m')(k:∀a o,s.heap.get? a=TR o->s'.heap.get? a=TR o)(hD:s.heap.get? D=TW)(MD:s.heap.get? C=TW)(dc:D≠C)(e:s'.heap.get? D=TR eN)(q:bl s s')(go:K .next (ag ρ (nc (so "places")) (.lst [])) M):Uh (Uj pw c.w) c.A (assign (.Name (so "places") q1) c.env (.ref D)) (λ_ Lz=>∃m,Lz.heap.Ns C m/\∀h',Vg C Lz.heap h'->bI c.env.locals B own s K .next {Lz with heap:=h'}) E s':=by
 have alive:s.heap.get? c.env.locals≠TW:=by obtain⟨o,_,_,ho,_⟩:=hm;rw[ho];exactλz=>by exact ns z
 have Qg:c.env.locals≠C:=λz=>alive (z▸MD)
 have Sq:c.env.locals≠D:=λz=>alive (z▸hD)
 refine wpAny_assign_Name (wpAny_storeName_local hp (hm.keeps k) (λOe Sr Ng=>?_) (by rw[S.kind];rfl));refine⟨m',hC.sameBut Ng (Uf Qg),λMe On=>?_⟩;have KZ:=S.sta.fresh hD;have f1:=KZ.1;have f2:=KZ.2;have KZ:=S.sta.fresh MD;have le:=eZ (o:=eN) f1;have e3:Me.get? D=TR eN:=On.extBut _ _ dc (Ng.extBut _ _ (Uf Sq) e);have up:∀b o,b≠c.env.locals->s.heap.get? b=TR o->Me.get? b=TR o:=λb o z e=>On.extBut b o (λy=>by rw[y,MD]at e;exact nn e) (Ng.extBut b o z (k b o e))
 have Qh:=Sr.sameBut On Qg;refine⟨aZ B D eN,own,.next,_,M,.next,go,(((S.sta.keeps k).but S.locB S.locO Ng.extBut).but KZ.1 KZ.2 On.extBut).addL f1 f2 e3,⟨_,Qh,λx w Lx hw=>?_⟩,⟨le,λa z=>?_,λ_ e=>.inl e,λb o e _ z=>⟨o.slots,up b o z e⟩,λb hb=>?_⟩,q⟩
 ·rw[ak]at hw;split at hw
  ·rename_i z;obtain rfl:=TU hw;exact⟨.ref D,by rw[if_pos (fA Lx (by kernel_rfl) z.symm)],.lst (n:=0) eE .nil⟩
  ·rename_i z;refine aj (H x w Lx hw) λOE KY=>?_
   exact⟨OE,by rw[if_neg (λy=>z (by rw[y]))];exact KY.1,KY.2.mono le⟩
 ·unfold aZ at z;split at z
  ·rename_i y;exact .inr (.inr (by rw[y];exact hD))
  ·exact .inl z
 ·by_cases z:b=c.env.locals
  ·refine bO Qh λo _ _ KY=>?_
   refine(z).symm▸?_;show Me.get? _≠_;rw[KY.1];exactλz=>by exact ns z
  ·cases e4:s.heap.get? b with
   |none=>exact absurd e4 hb
   |some o=>show Me.get? _≠_;rw[up b o z e4];exactλz=>by exact ns z
theorem H8{c:Cx}{n:Nat}{ρ:af}{M:aa}{B:PH}{own:List TX}{s:aav}{elt iter:Up}{K5:UG}{pos p1 p2 p3 p4 p5 p9:Pos}{k:Nat}{x:U6}{I e D C:TX}{MT:Nat->Ux->Prop}{h0:Ux}{tk0:Nat}{m0:U6->Option TZ}(hn:0<n)(S:St c n ρ M B own s.heap)(K0:K5.names=[(so ".0",.local),(so "place",.local),(so "sign",.local),(so "MARKS",.globalImplicit)])(LB:K5.kind=.function)(hx:∀c∈x.cps.toList,c∉jq)(d1:I≠e)(d2:I≠D)(d3:I≠C)(d4:e≠D)(d5:e≠C)(d6:D≠C)(n1:s.heap.get? I=TW)(n2:s.heap.get? e=TW)(n3:s.heap.get? D=TW)(n4:s.heap.get? C=TW)(Dr:Draws pw c.w c.A.in1 I [I] x.cps.size (λi v=>∃c u,x.cps[i]? =TR c/\v=.str ⟨#[c]⟩ u) MT)(he:IsEnum h0 e I 0 .none)(LJ:MT 0 h0)(hC:h0.Ns C m0)(hD:h0.get? D=TR eN)(hk:∀b o,s.heap.get? b=TR o->h0.get? b=TR o){R:Result->aav->Prop}(fin:∀h' tk m',h'.Ns C m'->h'.get? D=TR eN->(∀b o,s.heap.get? b=TR o->h'.get? b=TR o)->R (.ok .next) {s with heap:=h',toks:=tk}):Vc (Uj pw c.w) c.A (.compLoop (.ListComp elt [⟨.Tuple [.Name (so "place") p1,.Name (so "sign") p2] k p3,iter,[.Compare (.Name (so "sign") p4) [.In] [.Name (so "MARKS") p5] p9],0⟩] K5 pos) 0 (.ref e) (.ref D) (compEnv K5 C c.env)) R {s with heap:=h0,toks:=tk0}:=by
 have hh:c.A.handled=TW:=S.hand hn;have W:=WalksT.enumerateD Dr e (Uf d1) (by simpa using Uf d1) (by simp);refine kct_loop (λn s'=>∃h' tk i m',s'={s with heap:=h',toks:=tk}/\i<=x.cps.size/\n=x.cps.size+1-i/\((∃old,IsEnum h' e I i old)/\MT i h')/\h'.Ns C m'/\h'.get? D=TR eN/\∀b o,s.heap.get? b=TR o->h'.get? b=TR o) ?_ (x.cps.size+1) ⟨h0,tk0,0,m0,rfl,VF _,rfl,⟨⟨_,by simpa using he⟩,LJ⟩,hC,hD,hk⟩;rintro n' s' ⟨h',tk,i,m',rfl,hi,rfl,hS,Qi,Qj,Lc⟩;by_cases LV:i<x.cps.size
 ·refine W.item i _ _ _ LV hS λT vals h2 MH hP Tt hT Qk Na=>?_
  have Ss:=W.apart i T _ Qk;refine W.go _ _ _ i T _ _ _ Qk λh3 OU Ql=>?_
  obtain⟨t',v,⟨cc,u,Su,rfl⟩,rfl⟩:=hP;have Qm:∀b o,b≠e->b≠I->h'.get? b=TR o->h3.get? b=TR o:=λb o z1 z2 q=>Ql b o (by simp[z1,z2]) (Na b o (by simp[z1,z2]) q)
  obtain⟨oT,Sv,rT⟩:=hT;refine kcp_assign (env:=compEnv K5 C c.env) (m:=m') hh ⟨oT,Ql _ _ Ss Sv,rT⟩ (by show K5.names.lookup _=_;rw[K0];kernel_rfl) (by show K5.names.lookup _=_;rw[K0];kernel_rfl) (by simp[compEnv,LB]) (Qi.at' λo q=>Qm _ o (Uf d5) (Uf d3) q) λh4 Tu Qn Qo=>?_
  have Qp:∀b o,b≠e->b≠I->b≠C->h'.get? b=TR o->h4.get? b=TR o:=λb o z1 z2 z3 q=>Qo b o z3 (Qm b o z1 z2 q)
  have kk:∀b o,s.heap.get? b=TR o->h4.get? b=TR o:=λb o q=>Qp b o (λz=>by rw[z,n2]at q;exact nn q) (λz=>by rw[z,n1]at q;exact nn q) (λz=>by rw[z,n4]at q;exact nn q) (Lc b o q)
  refine wpAny_mono (H6 (c:=cc) (tk:=u) S.gr S.glob S.blt LB (by show K5.names.lookup _=_;rw[K0];kernel_rfl) (by show K5.names.lookup _=_;rw[K0];kernel_rfl) (λa o q=>kk a o (S.keepBase a o q)) Qn (by rw[if_pos rfl])) (λb s5 hb=>?_) λ_ _ q=>q
  obtain⟨rfl,Sw,rfl⟩:=hb;rw[decide_eq_false (hx cc (by have:=Array.mem_of_getElem? Su;exact Array.mem_toList_iff.mpr this))];simp only[UC,if_false];obtain⟨⟨Sx,Sy⟩,Sz⟩:=OU;refine⟨x.cps.size+1-(i+1),Nat.sub_succ_lt_self _ _ (by first|exact Wx ‹_›|exact Nat.lt_succ_of_le (Nat.le_of_succ_le ‹_›)|lia),h4,Sw,i+1,_,rfl,LV,rfl,W.frame (i+1) h3 h4 ⟨⟨Sx,Sy⟩,Sz⟩ (λb hb o q=>Qo b o (λz=>?_) q),Qn,Qp D _ (Uf d4) (Uf d2) d6 Qj,kk⟩;rw[z]at hb;simp only[Uk,Um,or_false]at hb;rcases hb with q|q
  ·exact d5 q.symm
  ·exact d3 q.symm
 ·have:i=x.cps.size:=by exact UM (ab [_,_] X0 X1 X0 X1 hi rfl) (ab [_,_] X0 X1 X0 X1 (UQ LV) rfl)
  subst this;refine W.done _ _ _ hS λh2 MH Na=>?_
  have up:∀b o,b≠e->b≠I->h'.get? b=TR o->h2.get? b=TR o:=λb o z1 z2 q=>Na b o (by simp[z1,z2]) q
  exact fin h2 MH m' (Qi.at' λo q=>up _ o (Uf d5) (Uf d3) q) (up D _ (Uf d4) (Uf d2) Qj) λb o q=>up b o (λz=>by rw[z,n2]at q;exact nn q) (λz=>by rw[z,n1]at q;exact nn q) (Lc b o q)
theorem H9{c:Cx}{n:Nat}{l:List Nat}{M:aa}{B:PH}{own:List TX}{s:aav}{E:PE}{elt:Up}{K5:UG}{pos p1 p2 p3 p4 p5 p6 p7 p8 p9 q1 q2:Pos}{K:PK}{k:Nat}(hn:0<n)(MU:c.env.scope=bq (cH 76))(S:St c n [(44,.str l)] M B own s.heap)(K0:K5.names=[(so ".0",.local),(so "place",.local),(so "sign",.local),(so "MARKS",.globalImplicit)])(LB:K5.kind=.function)(hx:∀c∈l,c∉jq)(LM:q1.line=pos.line)(go:K .next [(44,.str l),(168,.lst [])] M):Uh (Uj pw c.w) c.A (exec (.Assign [.Name (so "places") q1] (.ListComp elt [⟨.Tuple [.Name (so "place") p1,.Name (so "sign") p2] k p3,.Call (.Name (so "enumerate") p6) [.Name (so "word") p7] [] p8,[.Compare (.Name (so "sign") p4) [.In] [.Name (so "MARKS") p5] p9],0⟩] K5 pos) q2) c.env) (bI c.env.locals B own s K) (cS c.env.locals B own s E) s:=by
 obtain⟨m,hm,H⟩:=S.loc;refine aj (H (so "word") (.str l) (by kernel_rfl) (by kernel_rfl)) λval KY=>?_
 have hv:=KY.1;cases KY.2 with
 |str x t=>
  have SA:swapsWith (.ListComp elt [⟨.Tuple [.Name (so "place") p1,.Name (so "sign") p2] k p3,.Call (.Name (so "enumerate") p6) [.Name (so "word") p7] [] p8,[.Compare (.Name (so "sign") p4) [.In] [.Name (so "MARKS") p5] p9],0⟩] K5 pos) (TR (.Name (so "places") q1)) q2.line c.env=pure TV:=by
   have SB:c.env.blockKind=.function:=by unfold Env.blockKind;rw[S.kind];rfl
   have SD:c.env.kindOf (so "places")=TR .local:=by unfold Vu;rw[MU,mZ];kernel_rfl
   have SG:(K5.names.any λ(n,k)=>n==so "places"&&(k==.local||k==.cell))=TT:=by rw[K0];kernel_rfl
   show(pure (c.env.blockKind==.function&&c.env.kindOf (so "places")==TR .local&&q1.line==pos.line&& !(K5.names.any λ(n,k)=>n==so "places"&&(k==.local||k==.cell))):Sem Bool)=pure TV;refine(LM).symm▸?_;refine(SB).symm▸?_;refine(SD).symm▸?_;refine(SG).symm▸?_;simp
  refine(exec_Assign_Name_used _ _ _ _ SA).symm▸?_;refine wpAny_bind (wpAny_standAt (wpAny_bind ?_));refine(show Uh _ c.A (do let _<-comprehension (.ListComp elt [⟨.Tuple [.Name (so "place") p1,.Name (so "sign") p2] k p3,.Call (.Name (so "enumerate") p6) [.Name (so "word") p7] [] p8,[.Compare (.Name (so "sign") p4) [.In] [.Name (so "MARKS") p5] p9],0⟩] K5 pos) K5 c.env _ (newList []) TT (eval (.Call (.Name (so "enumerate") p6) [.Name (so "word") p7] [] p8) c.env) (TR (assign (.Name (so "places") q1) c.env))) _ _ s from ?_);refine wpAny_bind (wpAny_mono (wpAny_comprehension_use (Q:=λ_ s'=>bI c.env.locals B own s K .next s') rfl (λ_=>rfl) (by rw[K0];decide) LB (λy hy e=>?_) ?_) (λ_ s' hq=>wpAny_pure (wpAny_pure hq)) λ_ _ e=>e)
  ·rw[K0]at hy⊢;simp only[Uk,Um,or_false]at hy;rcases hy with rfl|rfl|rfl|rfl<;>first|(cases e;done)|kernel_rfl
  rw[ic rfl];refine wpAny_bind (Name_function_global S.kind (by show c.env.scope.names.lookup _=_;rw[MU,mZ];kernel_rfl) (hZ S.gr (id:=so "enumerate") (v:=.ty "enumerate") (by kernel_rfl) (by kernel_rfl) S.glob S.blt S.keepBase λval hv=>?_) (by decide));cases hv;refine Y6 ?_;refine U3 ?_;refine wpAny_Name (wpAny_loadName_local S.kind (by show c.env.scope.names.lookup _=_;rw[MU,mZ];kernel_rfl) hm hv ?_) (by decide);refine VY ?_;refine call_enumerate_str λh1 he hit Lf hk=>?_
  refine wpAny_pyIter_enum he ?_;simp only[newList];refine wpAny_newObj_type ?_;refine wpAny_newFunctionEnv (by rw[K0];decide) (λx hx=>(nomatch hx)) (λh2 Lj OS=>?_) LB;have eD:h1.objs.size=s.heap.objs.size+2:=Lf;have eC:(h1.push eN).objs.size=s.heap.objs.size+3:=by rw[Wz,eD]
  have g1:(h1.push eN).get? (s.heap.objs.size+2)=TR eN:=by rw[<-eD];exact Ul _ rfl
  have kh:∀b o,(h1.push eN).get? b=TR o->h2.get? b=TR o:=λb o z=>(OS.2 b (U7 (UB z))).trans (Ua _ z)
  have NO:∀b o,h1.get? b=TR o->h2.get? b=TR o:=λb o z=>kh b o (Ua _ z)
  have SH:h2.Ns (s.heap.objs.size+3) (λx=>YQ x [].reverse):=by rw[<-eC];exact Lj
  have gone:∀a,s.heap.objs.size<=a->s.heap.get? a=TW:=λa ha=>by
   cases q:s.heap.get? a with
   |none=>rfl
   |some o=>exact absurd (UB q) (Nat.not_lt.mpr ha)
  have key:∀i j:Nat,i≠j->s.heap.objs.size+i≠s.heap.objs.size+j:=λi j h e=>h (XZ e)
  have D0:∃MT:Nat->Ux->Prop,Draws pw c.w c.A.in1 s.heap.objs.size [s.heap.objs.size] x.cps.size (λi v=>∃c u,x.cps[i]? =TR c/\v=.str ⟨#[c]⟩ u) MT/\MT 0 h2:=by
   have hh:c.A.in1.handled=TW:=S.hand hn;refine aj hit λo KY=>?_
   have ho:=KY.1;have r:=KY.2;cases ha:x.cps.all (· <128)
   ·exact⟨_,Draws.strWide hh s.heap.objs.size x t,⟨o,NO _ _ ho,by simpa[strIterType,ha]using r⟩⟩
   ·exact⟨_,Draws.strAscii hh s.heap.objs.size x t,⟨o,NO _ _ ho,by simpa[strIterType,ha]using r⟩⟩
  refine aj D0 λMT KY=>?_
  have loop:=λR fin=>H8 (elt:=elt) (iter:=.Call (.Name (so "enumerate") p6) [.Name (so "word") p7] [] p8) (pos:=pos) (p1:=p1) (p2:=p2) (p3:=p3) (p4:=p4) (p5:=p5) (p9:=p9) (k:=k) (D:=s.heap.objs.size+2) (C:=s.heap.objs.size+3) (tk0:=s.toks) (R:=R) hn S K0 LB hx (key 0 1 (by decide)) (key 0 2 (by decide)) (key 0 3 (by decide)) (key 1 2 (by decide)) (key 1 3 (by decide)) (key 2 3 (by decide)) (gone _ (UE _)) (gone _ (VM _ _)) (gone _ (VM _ _)) (gone _ (VM _ _)) KY.1 (NO _ _ he) KY.2 SH (kh _ _ g1) (λb o z=>NO b o (hk b o z)) fin
  have SI:=NO _ _ he;refine(eD).symm▸?_;show Vc (Uj pw c.w) c.A (.compStart _ 0 (.ref (s.heap.objs.size+1)) (.ref (s.heap.objs.size+2)) (compEnv K5 (h1.push eN).objs.size c.env)) _ {s with heap:=h2,toks:=s.toks+0};refine(eC).symm▸?_;have go:=loop (λr s'=>match r with
   | .ok _=>Uh (Uj pw c.w) c.A (assign (.Name (so "places") q1) c.env (.ref (s.heap.objs.size+2))) (λ_ Lz=>∃m,Lz.heap.Ns (s.heap.objs.size+3) m/\∀h',Vg (s.heap.objs.size+3) Lz.heap h'->bI c.env.locals B own s K .next {Lz with heap:=h'}) (cS c.env.locals B own s E) s'
   |.error x=>∃m,s'.heap.Ns (s.heap.objs.size+3) m/\∀h',Vg (s.heap.objs.size+3) s'.heap h'->Uh (Uj pw c.w) c.A (passOn "comprehension.variables-let-go" x (compEnv K5 (s.heap.objs.size+3) c.env)) (λ(_:TZ) s'=>bI c.env.locals B own s K .next s') (cS c.env.locals B own s E) {s' with heap:=h'}) λh' tk m' hC hD Lc=>
    H7 S hm H (by rw[MU,mZ];kernel_rfl) hC Lc (gone _ (VM _ _)) (gone _ (VM _ _)) (key 2 3 (by decide)) hD ⟨rfl,rfl⟩ (by rw[show nc (so "places")=168 by kernel_rfl];exact go)
  exact codeAny_compStart_list go (wpAny_pyIter_enum SI go)
theorem Ia{l:List Nat}{K:PK}(hn:0<n)(MU:c.env.scope=bq (cH 76))(tp:gI c)(S:St c n [(44,.str l)] M B own s.heap)(hx:∀c∈l,c∉jq)(h:Ex n [(44,.str l),(168,.lst [])] M qJ K E):Uh (Uj pw c.w) c.A (execs (bD (cH 76)) c.env) (bI c.env.locals B own s K) (cS c.env.locals B own s E) s:=by have ht:=(lE 60).ss H5;have LM:=H4;rw[H3]at ht⊢;refine wpAny_execs_cons (wpAny_mono (H9 (E:=E) (K:=λfl ρ1 M1=>fl=.next/\ρ1=[(44,.str l),(168,.lst [])]/\M1=M) hn MU S wY.1 wY.2 hx LM ⟨rfl,rfl,rfl⟩) (λval s1 hv=>?_) λ_ _ h=>h);obtain⟨B1,K1,fl,ρ1,M1,r1,⟨rfl,rfl,rfl⟩,T1,F1,P1,q1⟩:=hv;cases r1;exact wpAny_mono (gT h _ _ ht c B1 K1 s1 MU tp (S.stepS T1 F1 P1)) (λf s3 hf=>hf.step P1 q1) λ_ _ h=>h.step P1 q1
theorem Ib{l:List Nat}(hl:l.length<=Ub)(h:∀c∈l,c∉[101,115,102,100,108])(q:Q (.int l.length) M):CT (n+3) (.ref 808) [.str l] M Q E:=by refine ip (o8 (F:=nQ) H0 rfl λc B own s K0 tp S=>?_);refine Ia (n:=n+2) (by exact TY _) K0 tp S h ?_;unfold qJ;refine qo (d:=60) (by exact TY _) ?_;((repeat((try(conv=>whnf));first|simp only[*]|refine⟨by decide,?_⟩));(try(conv=>whnf));try(first|rfl|assumption));refine .inl ?_;have e1:l.length<2^63:=Wj hl (by decide);((repeat((try(conv=>whnf));first|simp only[br,true_and, *]|refine⟨by decide,?_⟩));(try(conv=>whnf));try(first|rfl|assumption))
theorem Ic{l:List Nat}(hl:l.length<=Ub)(h:∀c∈l,c∉[101,115,102,100,108])(q:∀M',Kp [] M M'->Q (.int l.length) M'):CT (n+3) (.ref 808) [.str l] M Q E:=Ib hl h (q M λ_ _ _ h=>h)
end
section
variable[HasP]
variable{n:Nat}{M:aa}{Q:PQ}{E:PE}
theorem kK(hr:2<=r)(hi:i<2^64):(fg r i).length<=64:=wS hr hi (by exact TY _)
theorem kL(hr:2<=r)(hi:i.natAbs<2^64):(nt r i).length<=65:=fh hr hi (by exact TY _)
theorem qK(hr:2<=r)(K4:r<=16)(hi:i.natAbs<2^64)(q:∀M',Kp [] M M'->Q (.str (nt r i)) M'):CT (n+3) (.ref 622) [.int i,.int r] M Q E:=by
 refine ax Gc (ks:=[163,140]) ?_;have hl:=kK hr hi;unfold nt at q;by_cases e:i<0
 ·(
  refine c9 ?_;simp only[*])
  refine wX hr K4 hi λM' k=>?_
  exact⟨ar (by exact ab [_] ((N0.a N1).a X0) am X0 (Ar.n 64) hl rfl),by simpa[kA,iv,PK.ret,br,e]using q M' k⟩
 ·(
  refine bv ?_;simp only[*])
  refine wX hr K4 hi λM' k=>?_
  exact⟨ar (by exact ab [_] (N0.a X0) am X0 (Ar.n 64) hl rfl),by simpa[kA,iv,PK.ret,br,e]using q M' k⟩
theorem Id(hr:2<=r)(K4:r<=16)(hi:i.natAbs<2^64)(q:∀M',Kp [] M M'->Q (.str (nt r i)) M'):CT (n+4) (.ref 629) [.int i,.int r] M Q E:=by
 refine ax wi (ks:=[163,140]) ?_;have e:aD M (.int i) (.ref 582)=TR TT:=by rfl
 refine bG ?_;exact qK hr K4 hi q
theorem Ie(hr:2<=r)(K4:r<=16)(ht:t.natAbs<2^64)(hb:b.natAbs<2^64)(q:∀M',Kp [] M M'->Q (.str (nt r t++[47]++nt r b)) M'):CT (n+4) (.ref 629) [eM t b,.int r] M Q E:=by
 refine ax wi (ks:=[163,140]) ?_;have e:aD M (eM t b) (.ref 582)=TR TV:=by rfl
 have l1:=kL hr ht;have l2:=kL hr hb;refine bG ?_;refine qK hr K4 ht λM' k=>?_
 refine⟨ar (by exact ab [_] (X0.a (N0.a N1)) am X0 (Ar.n 65) l1 rfl),qK hr K4 hb λMa k2=>?_⟩;exact⟨ar (by exact bU [_,_,_] aI am X0 (X2.a (N0.a N1)) X1 (Ar.n 65) X2 (Ar.n 65) aL l2 l1 rfl),q _ (k.trans k2)⟩
theorem Ig(hr:2<=r)(K4:r<=16)(hi:i.natAbs<2^64)(q:∀M',Kp [] M M'->Q (.str (nt r i)) M'):CT (n+5) (.ref 735) [.int p,.int i,.int r] M Q E:=by refine ax wj (ks:=[235,163,140]) ?_;refine wQ (b:=TT) rfl ?_;exact Id hr K4 hi q
theorem Ih(hr:2<=r)(K4:r<=16)(ht:t.natAbs<2^64)(hb:b.natAbs<2^64)(q:∀M',Kp [] M M'->Q (.str (nt r t++[47]++nt r b)) M'):CT (n+5) (.ref 735) [.int p,eM t b,.int r] M Q E:=by refine ax wj (ks:=[235,163,140]) ?_;refine wQ (b:=TT) rfl ?_;exact Ie hr K4 ht hb q
theorem wZ(hr:2<=r)(K4:r<=16){K:PK}:∀(l:List Nat) (a:Nat) (ρ:af),(∀c∈l,∃d,d<r/\c=aM d)->wo r l a<2^64->aak ρ 97=TR (.int a)->aak ρ 140=TR (.int r)->(∀ρ,aak ρ 97=TR (.int (wo r l a:Nat))->K .next ρ M)->Fo (n+1) (e8 70) [.asg 97 (.bin .Add (.bin .Mult (.loc 97) (.loc 140)) (.meth (.cst (.str [48,49,50,51,52,53,54,55,56,57,97,98,99,100,101,102])) 139 [(.loc 70)]))] K E (l.map λc=>.str [c]) ρ M
 | [],a,ρ,hl,hw,h1,h2,q=>eq (q ρ h1)
 |c::l,a,ρ,hl,hw,h1,h2,q=>by
  obtain⟨d,hd,rfl⟩:=hl _ (.head _);have ha:a<2^64:=Wj (wW (by exact Uy (by assumption)) _ a) hw;refine dB (ρ1:=ag ρ 70 (.str [aM d])) rfl ?_;have e:W8 (aM d) [48,49,50,51,52,53,54,55,56,57,97,98,99,100,101,102]=TR d:=qD (by exact ai [_,_] ad (Ar.n 16) ad X1 X1 (Ar.n 16) hd K4 rfl);refine bM ?_;refine bM ?_;refine⟨‹_›,?_⟩;refine ac (o:=aak _ 70) ?_;refine ac ?_;have e2:wo r (aM d::l) a=wo r l (a*r+d):=by unfold wo;rw[Xw];rw[show(cz.idxOf? (aM d)).getD 0=d from by rw[qD (show d<16 by exact ai [_,_] ad (Ar.n 16) ad X1 X1 (Ar.n 16) hd K4 rfl)];rfl]
  rw[e2]at q hw;refine wZ hr K4 l (a*r+d) _ (λc hc=>hl c (.tail _ hc)) hw ?_ ?_ q
  ·simp[ak]
  ·simp[ak,h2]
theorem Ii{l:List Nat}(hr:2<=r)(K4:r<=16)(hl:∀c∈l,∃d,d<r/\c=aM d)(hw:wo r l 0<2^64)(q:Q (.int (wo r l 0:Nat)) M):CT (n+2) (.ref 742) [.str l,.int r] M Q E:=by
 refine ax Gd (ks:=[193,140]) ?_;refine wZ hr K4 l 0 _ hl hw rfl rfl λρ h=>?_
 refine ac ?_;exact q
theorem Ij{l:List Nat}(hl:l.length<=Ub)(h:l.getLast?≠TR 35)(q:Q (.tup [.str l,.int 0]) M):CT (n+2) (.ref 754) [.str l] M Q E:=by
 refine ax Ge (ks:=[44]) ?_;refine⟨hl,?_⟩;refine⟨h,?_⟩
 conv=>whnf
 simp only[*];have:l.length<2^63:=by unfold Ub at hl;exact ab [_] ad bd X0 (Ar.n 16777216) hl rfl
 refine⟨this,?_⟩;refine⟨this,?_⟩
 conv=>whnf
 simp only[br, *];rw[Int.sub_self];exact q
theorem jr(K4:r<=16)(h:∃d,d<r/\c=aM d)(hx:x∉cz):c≠x:=by obtain⟨d,hd,rfl⟩:=h;intro e;have:=wT (d:=d) (r:=16) (by exact ai [_,_] ad (Ar.n 16) ad X1 X1 (Ar.n 16) hd K4 rfl) (by exact UE _);rw[e]at this;exact hx (List.mem_of_mem_take this)
theorem Ik{l:List Nat}(K4:r<=16)(hl:∀c∈l,∃d,d<r/\c=aM d):(l.all λc=>decide (c∈cz.take r))=TV:=by rw[YL];intro c hc;obtain⟨d,hd,rfl⟩:=hl c hc;exact decide_eq_true (wT hd K4)
theorem qL{l:List Nat}(hr:2<=r)(K4:r<=16)(hl:∀c∈l,∃d,d<r/\c=aM d)(Lb:l≠[])(hz:l.length<=1000)(hw:wo r l 0<2^64)(q:Q (mO (wo r l 0:Nat) 1 TV) M):CT (n+4) (.ref 782) [.str l,.int r] M Q E:=by refine ax Gf (ks:=[44,140]) ?_;refine Ij (ar (by exact ab [_] X0 am X0 (Ar.n 1000) hz rfl)) (λh=>jr K4 (hl _ (XK h)) (by decide) rfl) ?_;have e1:l.length<=Ub:=ar (by exact ab [_] X0 am X0 (Ar.n 1000) hz rfl);simp only[*];apply ix Lb;refine Fu (by exact TY _) e1 ?_;rw[Ik K4 hl];refine Ii hr K4 hl hw ?_;refine⟨by decide,by decide,by exact ab [_] ad (Ar.n 18446744073709551616) X0 (Ar.n 16) K4 rfl,by assumption,?_⟩;refine wK ?_;rw[Zi,Int.pow_zero,Int.mul_one];exact q
theorem Il(ha:c∉a)(hb:c∉b):∀{ps:List (List Nat)},fE c ps=a++c::b->(∀p∈ps,c∉p)->ps=[a,b]:=by
 have key:∀{x y z w:List Nat},c∉x->c∉y->x++c::z=y++c::w->x=y/\z=w:=by
  intro x;induction x with
  |nil=>
   intro y z w hx hy h;induction y with
   |nil=>simp at h;exact⟨rfl,h⟩
   |cons d y=>simp at h;exact absurd (.head _) (h.1▸hy)
  |cons d x ih=>
   intro y z w hx hy h;induction y with
   |nil=>simp at h;exact absurd (.head _) (h.1▸hx)
   |cons e y=>simp at h;obtain⟨h1,h2⟩:=ih (λz=>hx (.tail _ z)) (λz=>hy (.tail _ z)) h.2;exact⟨by rw[h.1,h1],h2⟩
 intro ps h hp
 match ps,h,hp with
 | [],h,_=>exact absurd (show([]:List Nat)=a++c::b from h).symm (by simp)
 |[x],h,hp=>
  have:c∈x:=by rw[show x=a++c::b from h];simp
  exact absurd this (hp x (.head _))
 |[x,y],h,hp=>obtain⟨h1,h2⟩:=key (hp x (.head _)) ha (show x++c::y=_ from h);rw[h1,h2]
 |x::y::z::t,h,hp=>obtain⟨h1,h2⟩:=key (hp x (.head _)) ha (show x++c::(y++c::fE c (z::t))=_ from h);exact absurd (by rw[<-h2];simp) hb
theorem Im(hr:2<=r)(K4:r<=16)(ha:∀c∈a,∃d,d<r/\c=aM d)(hb:∀c∈b,∃d,d<r/\c=aM d)(na:a≠[])(nb:b≠[])(za:a.length<=1000)(zb:b.length<=1000)(wa:wo r a 0<2^64)(wb:wo r b 0<2^64)(pb:wo r b 0≠0)(q:Q (mO (wo r a 0:Nat) (wo r b 0:Nat) TV) M):CT (n+5) (.ref 789) [.str (a++47::b),.int r] M Q E:=by
 refine ax Gg (ks:=[44,140]) ?_;refine⟨by simp[Ub];exact ai [_,_] ((X0.a ay).a N1) (Ar.n 16777216) X0 (Ar.n 1000) X1 (Ar.n 1000) za zb rfl,λps hg hp=>?_⟩;have:=Il (λh=>jr K4 (ha _ h) (by decide) rfl) (λh=>jr K4 (hb _ h) (by decide) rfl) hg hp;subst this;simp only[UA,ZC]
 conv=>whnf
 simp only[UH,aau,Uc, *];refine⟨by decide,?_⟩;refine bG ?_;refine qL hr K4 ha na za wa ?_;refine qL hr K4 hb nb zb wb ?_;have e3:¬(((wo r b 0:Nat):Int)=0):=by exact cY (b:=0) (UO (ab [_] (N0.a N1) X0 (N0.a N1) X0 (UJ pb) rfl))
 simp only[*];apply ix e3;exact wK q
theorem Io(h:r<=10)(hc:∃d,d<r/\c=aM d):c∉[101,115,102,100,108]:=by
 obtain⟨d,hd,rfl⟩:=hc;have key:∀d<10,aM d∉[101,115,102,100,108]:=by decide
 exact key d (by exact ai [_,_] ad (Ar.n 10) ad X1 X1 (Ar.n 10) hd h rfl)
theorem w0{l:List Nat}(hl:∀c∈l,∃d,d<10/\c=aM d)(Lb:l≠[])(hz:l.length<=1000)(hw:wo 10 l 0<2^64)(q:∀M',Kp [] M M'->Q (mO (wo 10 l 0:Nat) 1 TV) M'):CT (n+5) (.ref 829) [.str l,.int 10] M Q E:=by
 refine ax wk (ks:=[44,140]) ?_;have e1:¬(47∈l):=λh=>jr (r:=10) (by exact aw [] (Ar.n 10) (Ar.n 16) rfl) (hl _ h) (by decide) rfl
 have e2:¬(46∈l):=λh=>jr (r:=10) (by exact aw [] (Ar.n 10) (Ar.n 16) rfl) (hl _ h) (by decide) rfl
 refine bv ?_;simp only[*];apply ix e2;refine Ic (ar (by exact ab [_] X0 am X0 (Ar.n 1000) hz rfl)) (λc hc=>Io (by exact UE _) (hl c hc)) λM' k=>?_
 have e3:¬((l.length:Int)<l.length):=by exact ft (aw [_] X0 X0 rfl)
 have e4:l.length<2^63:=by exact ab [_] ad bd X0 (Ar.n 1000) hz rfl
 simp only[*];refine⟨e4,?_⟩;apply ix e3;exact qL (r:=10) (by exact aw [] N2 (Ar.n 10) rfl) (by exact aw [] (Ar.n 10) (Ar.n 16) rfl) hl Lb hz hw (q M' k)
theorem xa(ha:∀c∈a,∃d,d<10/\c=aM d)(hb:∀c∈b,∃d,d<10/\c=aM d)(na:a≠[])(nb:b≠[])(za:a.length<=1000)(zb:b.length<=1000)(wa:wo 10 a 0<2^64)(wb:wo 10 b 0<2^64)(pb:wo 10 b 0≠0)(q:Q (mO (wo 10 a 0:Nat) (wo 10 b 0:Nat) TV) M):CT (n+6) (.ref 829) [.str (a++47::b),.int 10] M Q E:=by
 refine ax wk (ks:=[44,140]) ?_;have e1:47∈(a++47::b):=by simp
 refine c9 ?_;simp only[*];exact Im (r:=10) (by exact aw [] N2 (Ar.n 10) rfl) (by exact aw [] (Ar.n 10) (Ar.n 16) rfl) ha hb na nb za zb wa wb pb q
theorem xd{l:List Nat}(hz:l.length<=3000)(h:l.head?≠TR 35)(q:Q (.tup [.str l,.int 10,.str []]) M):CT (n+2) (.ref 836) [.str l,.int 10] M Q E:=by
 refine ax Gh (ks:=[44,140]) ?_;refine bF ?_;have e1:l.length<=Ub:=ar (by exact ab [_] X0 am X0 (Ar.n 3000) hz rfl);have e2:¬(Vs 1 l=[35]):=by
  intro e;induction l with
  |nil=>simp at e
  |cons a l=>simp at e;simp[e]at h
 refine⟨e1,?_⟩
 conv=>whnf
 refine bv ?_
 conv=>whnf
 simp only[Zi,VS,UW,List.take_length,true_and, *];exact q
theorem m5{p t:Int}{b:Nat}(hb:0<b)(hg:WF t.natAbs b=1)(q:Q (if(b:Int)=1 then .int t else eM t b) M):CT (n+6) (.ref 843) [.int p,.int t,.int b,.bool TV] M Q E:=by refine ax Gi (ks:=[235,24,158,218]) ?_;exact HX hb hg q
theorem js(h:c=45\/c=47\/∃d,d<10/\c=aM d):lo1 c=c/\c<128:=by
 rcases h with rfl|rfl|⟨d,hd,rfl⟩
 ·decide
 ·decide
 ·have key:∀d<10,lo1 (aM d)=aM d/\aM d<128:=by decide
  exact key d hd
theorem qM:∀{l:List Nat},(∀c∈l,f c=c)->l.map f=l
 | [],_=>rfl
 |a::l,h=>by rw[UA,h a (.head _),qM λc hc=>h c (.tail _ hc)]
theorem jt(h:d<16)(hx:x∉cz):aM d≠x:=jr (r:=16) (by exact UE _) ⟨d,h,rfl⟩ hx
theorem Ip(hi:i.natAbs<2^63)(q:∀M',Kp [] M M'->Q (.int i) M'):CT (n+8) (.ref 851) [.int 53,.str (nt 10 i),.int 10] M Q E:=by
 refine ax wl (ks:=[235,88,140]) ?_;have hm:∀c∈fg 10 i.natAbs,∃d,d<10/\c=aM d:=λc hc=>mV (by exact aw [] N2 (Ar.n 10) rfl) (by exact aw [] (Ar.n 10) (Ar.n 16) rfl) hc
 have Lb:fg 10 i.natAbs≠[]:=mW (by exact aw [] N2 (Ar.n 10) rfl);have hz:=kK (r:=10) (i:=i.natAbs) (by exact aw [] N2 (Ar.n 10) rfl) (by exact ab [_] ad (Ar.n 18446744073709551616) ad bd hi rfl);have hw:=qE (r:=10) (n:=i.natAbs) (by exact aw [] N2 (Ar.n 10) rfl) (by exact aw [] (Ar.n 10) (Ar.n 16) rfl);obtain⟨c0,w,Mb⟩:∃c w,fg 10 i.natAbs=c::w:=by cases e:fg 10 i.natAbs with|nil=>exact absurd e Lb|cons c w=>exact⟨c,w,rfl⟩
 obtain⟨d0,MV,rfl⟩:=hm c0 (by rw[Mb];exact .head _);have OY:aM d0≠35:=jt (by exact ab [_] ad (Ar.n 16) ad (Ar.n 10) MV rfl) (by decide);have OZ:aM d0≠43:=jt (by exact ab [_] ad (Ar.n 16) ad (Ar.n 10) MV rfl) (by decide);have NP:aM d0≠45:=jt (by exact ab [_] ad (Ar.n 16) ad (Ar.n 10) MV rfl) (by decide);generalize hL:nt 10 i=L;have Mw:∀c∈L,lo1 c=c/\c<128:=by
  intro c hc;rw[<-hL]at hc;unfold nt at hc;rcases List.mem_append.mp hc with hc|hc
  ·split at hc
   ·exact js (.inl (by simpa using hc))
   ·simp at hc
  ·exact js (.inr (.inr (hm c hc)))
 have NQ:L.length<=65:=by rw[<-hL];exact kL (by exact aw [] N2 (Ar.n 10) rfl) (by exact ab [_] ad (Ar.n 18446744073709551616) ad bd hi rfl)
 have s1:∀c∈L,c<128:=λc hc=>(Mw c hc).2
 have s2:L.length<=Ub:=ar (by exact ab [_] X0 am X0 (Ar.n 65) NQ rfl);have s3:L.map lo1=L:=qM λc hc=>(Mw c hc).1
 conv=>whnf
 simp only[true_and, *];refine⟨s1,xd (by exact ab [_] X0 (Ar.n 3000) X0 (Ar.n 65) NQ rfl) (by rw[<-hL];unfold nt;split<;>simp[Mb,OY]) ?_⟩;have hg:WF i.natAbs 1=1:=Nat.gcd_one_right _;have NR:wo 10 (fg 10 i.natAbs) 0<2^64:=by rw[hw];exact ab [_] ad (Ar.n 18446744073709551616) ad bd hi rfl
 by_cases e:i<0
 ·have t1:Vs 1 L=[45]:=by rw[<-hL];unfold nt;rw[if_pos e];rfl
  have t2:Vs (L.length-1) (V5 1 L)=fg 10 i.natAbs:=by rw[<-hL];unfold nt;rw[if_pos e];simp
  have m1:[45]∈[[43],[45]]:=by decide
  clear hL Mw Mb;refine⟨s2,?_⟩;refine cA (b:=Vp _) (by simp only[bR,bS,Vb,VS,UW,true_and, *]<;>rfl) ?_;refine⟨s2,?_⟩;refine cA (b:=Vp _) (by simp only[Vb,VS,Uz,UW,true_and, *]<;>rfl) ?_;refine⟨s2,?_⟩;refine jo (by simp only[Vb,Uz,true_and, *]<;>rfl) ?_
  conv=>whnf
  simp only[Uz, *];refine w0 hm Lb (by exact ab [_] X0 (Ar.n 1000) X0 (Ar.n 64) hz rfl) NR λM' k=>?_
  simp only[Uz, *];refine⟨by decide,?_⟩;simp only[Uz, *];have e3:(-1:Int)*((i.natAbs:Nat):Int)=i:=rK ‹_›;have e4:i.natAbs<2^64:=by exact ab [_] ad (Ar.n 18446744073709551616) ad bd hi rfl
  simp only[Uz, *];refine m5 (b:=1) (by exact TY _) (by assumption) ?_;rw[wA,if_pos rfl];exact q M' k
 ·have t1:Vs 1 L=[aM d0]:=by rw[<-hL];unfold nt;rw[if_neg e,Mb];rfl
  have t2:¬([aM d0]=[45]):=by simp[NP]
  have t3:¬([aM d0]∈[[43],[45]]):=by simp[OZ,NP]
  have t4:L=fg 10 i.natAbs:=by rw[<-hL];unfold nt;rw[if_neg e];rfl
  have Tv:L.length<=64:=by rw[t4];exact hz
  subst t4;clear hL Mw s3 Mb
  conv=>whnf
  simp only[bR,bS,Vb,VS,UW,true_and, *];refine bv ?_
  conv=>whnf
  simp only[Vb,VS,UW,true_and, *];refine bv ?_
  conv=>whnf
  simp only[*];refine w0 hm Lb (by exact ab [_] X0 (Ar.n 1000) X0 (Ar.n 64) hz rfl) NR λM' k=>?_
  ((repeat((try(conv=>whnf));first|simp only[*]|refine⟨by decide,?_⟩));(try(conv=>whnf));try(first|rfl|assumption))
  have e3:(1:Int)*((i.natAbs:Nat):Int)=i:=by first|exact k6 ‹_›|exact k6 (Int.not_lt.mpr ‹_›)
  ((repeat((try(conv=>whnf));first|simp only[*]|refine⟨by decide,?_⟩));(try(conv=>whnf));try(first|rfl|assumption))
  refine m5 (b:=1) (by exact TY _) (by assumption) ?_;rw[wA,if_pos rfl];exact q M' k
theorem Iq{t:Int}{b:Nat}(ht:t.natAbs<2^63)(hb:1<b)(Mf:b<2^63)(hg:WF t.natAbs b=1)(q:∀M',Kp [] M M'->Q (eM t b) M'):CT (n+8) (.ref 851) [.int 53,.str (nt 10 t++[47]++nt 10 b),.int 10] M Q E:=by
 refine ax wl (ks:=[235,88,140]) ?_;have hm:∀c∈fg 10 t.natAbs,∃d,d<10/\c=aM d:=λc hc=>mV (by exact aw [] N2 (Ar.n 10) rfl) (by exact aw [] (Ar.n 10) (Ar.n 16) rfl) hc
 have O0:∀c∈fg 10 b,∃d,d<10/\c=aM d:=λc hc=>mV (by exact aw [] N2 (Ar.n 10) rfl) (by exact aw [] (Ar.n 10) (Ar.n 16) rfl) hc
 have Lb:fg 10 t.natAbs≠[]:=mW (by exact aw [] N2 (Ar.n 10) rfl);have Qq:fg 10 b≠[]:=mW (by exact aw [] N2 (Ar.n 10) rfl);have hz:=kK (r:=10) (i:=t.natAbs) (by exact aw [] N2 (Ar.n 10) rfl) (by exact ab [_] ad (Ar.n 18446744073709551616) ad bd ht rfl);have Qr:=kK (r:=10) (i:=b) (by exact aw [] N2 (Ar.n 10) rfl) (by exact ab [_] ad (Ar.n 18446744073709551616) ad bd Mf rfl);have hw:=qE (r:=10) (n:=t.natAbs) (by exact aw [] N2 (Ar.n 10) rfl) (by exact aw [] (Ar.n 10) (Ar.n 16) rfl);have O1:=qE (r:=10) (n:=b) (by exact aw [] N2 (Ar.n 10) rfl) (by exact aw [] (Ar.n 10) (Ar.n 16) rfl);obtain⟨c0,w,Mb⟩:∃c w,fg 10 t.natAbs=c::w:=by cases e:fg 10 t.natAbs with|nil=>exact absurd e Lb|cons c w=>exact⟨c,w,rfl⟩
 obtain⟨d0,MV,rfl⟩:=hm c0 (by rw[Mb];exact .head _);have OY:aM d0≠35:=jt (by exact ab [_] ad (Ar.n 16) ad (Ar.n 10) MV rfl) (by decide);have OZ:aM d0≠43:=jt (by exact ab [_] ad (Ar.n 16) ad (Ar.n 10) MV rfl) (by decide);have NP:aM d0≠45:=jt (by exact ab [_] ad (Ar.n 16) ad (Ar.n 10) MV rfl) (by decide);have O2:nt 10 (b:Int)=fg 10 b:=by unfold nt;rw[if_neg (by exact ft (b:=0) (aw [_] N0 X0 rfl))];simp
 generalize hL:nt 10 t++[47]++nt 10 b=L;have Mw:∀c∈L,lo1 c=c/\c<128:=by
  intro c hc;rw[<-hL,O2]at hc;unfold nt at hc;rcases List.mem_append.mp hc with hc|hc
  ·rcases List.mem_append.mp hc with hc|hc
   ·rcases List.mem_append.mp hc with hc|hc
    ·split at hc
     ·exact js (.inl (by simpa using hc))
     ·simp at hc
    ·exact js (.inr (.inr (hm c hc)))
   ·exact js (.inr (.inl (by simpa using hc)))
  ·exact js (.inr (.inr (O0 c hc)))
 have NQ:L.length<=131:=by rw[<-hL];have h1:=kL (r:=10) (i:=t) (by exact aw [] N2 (Ar.n 10) rfl) (by exact ab [_] ad (Ar.n 18446744073709551616) ad bd ht rfl);have h2:=kL (r:=10) (i:=b) (by exact aw [] N2 (Ar.n 10) rfl) (by exact ab [_] ad (Ar.n 18446744073709551616) ad bd Mf rfl);simp;exact ai [_,_] (X0.a ay) (Ar.n 131) X0 (Ar.n 65) X1 (Ar.n 65) h1 h2 rfl
 have s1:∀c∈L,c<128:=λc hc=>(Mw c hc).2
 have s2:L.length<=Ub:=ar (by exact ab [_] X0 am X0 (Ar.n 131) NQ rfl);have s3:L.map lo1=L:=qM λc hc=>(Mw c hc).1
 have Oo:¬((b:Int)=1):=by exact cY (b:=1) (UO (ab [_] (N1.a N1) X0 (N1.a N1) X0 hb rfl))
 conv=>whnf
 simp only[true_and, *];refine⟨s1,xd (by exact ab [_] X0 (Ar.n 3000) X0 (Ar.n 131) NQ rfl) (by rw[<-hL];unfold nt;split<;>simp[Mb,OY]) ?_⟩;have NR:wo 10 (fg 10 t.natAbs) 0<2^64:=by rw[hw];exact ab [_] ad (Ar.n 18446744073709551616) ad bd ht rfl
 have Qs:wo 10 (fg 10 b) 0<2^64:=by rw[O1];exact ab [_] ad (Ar.n 18446744073709551616) ad bd Mf rfl
 by_cases e:t<0
 ·have t1:Vs 1 L=[45]:=by rw[<-hL];unfold nt;rw[if_pos e];rfl
  have t2:Vs (L.length-1) (V5 1 L)=fg 10 t.natAbs++47::fg 10 b:=by rw[<-hL,O2];unfold nt;rw[if_pos e,VU (by simp)];simp
  have m1:[45]∈[[43],[45]]:=by decide
  clear hL Mw Mb;refine⟨s2,?_⟩;refine cA (b:=Vp _) (by simp only[bR,bS,Vb,VS,UW,true_and, *]<;>rfl) ?_;refine⟨s2,?_⟩;refine cA (b:=Vp _) (by simp only[Vb,VS,Uz,UW,true_and, *]<;>rfl) ?_;refine⟨s2,?_⟩;refine jo (by simp only[Vb,Uz,true_and, *]<;>rfl) ?_
  conv=>whnf
  simp only[Uz, *];refine xa hm O0 Lb Qq (by exact ab [_] X0 (Ar.n 1000) X0 (Ar.n 64) hz rfl) (by exact ab [_] X0 (Ar.n 1000) X0 (Ar.n 64) Qr rfl) NR Qs (by exact UO (ai [_,_] (N0.a N1) X0 (N1.a N1) X1 X1 X0 hb (eR O1) rfl)) ?_;simp only[Uz, *];refine⟨by decide,?_⟩;simp only[Uz, *];have e3:(-1:Int)*((t.natAbs:Nat):Int)=t:=rK ‹_›;simp only[Uz, *];refine m5 (b:=b) (by exact Uy (by assumption)) hg ?_;rw[if_neg Oo];exact q M .refl
 ·have t1:Vs 1 L=[aM d0]:=by rw[<-hL];unfold nt;rw[if_neg e,Mb];rfl
  have t2:¬([aM d0]=[45]):=by simp[NP]
  have t3:¬([aM d0]∈[[43],[45]]):=by simp[OZ,NP]
  have t4:L=fg 10 t.natAbs++47::fg 10 b:=by rw[<-hL,O2];unfold nt;rw[if_neg e];simp
  subst t4;clear hL Mw s3 Mb;((repeat((try(conv=>whnf));first|simp only[bR,bS,Vb,VS,UW,decide_false,true_and, *]|refine⟨by decide,?_⟩));(try(conv=>whnf));try(first|rfl|assumption));refine xa hm O0 Lb Qq (by exact ab [_] X0 (Ar.n 1000) X0 (Ar.n 64) hz rfl) (by exact ab [_] X0 (Ar.n 1000) X0 (Ar.n 64) Qr rfl) NR Qs (by exact UO (ai [_,_] (N0.a N1) X0 (N1.a N1) X1 X1 X0 hb (eR O1) rfl)) ?_;((repeat((try(conv=>whnf));first|simp only[*]|refine⟨by decide,?_⟩));(try(conv=>whnf));try(first|rfl|assumption));have e3:(1:Int)*((t.natAbs:Nat):Int)=t:=by first|exact k6 ‹_›|exact k6 (Int.not_lt.mpr ‹_›)
  ((repeat((try(conv=>whnf));first|simp only[*]|refine⟨by decide,?_⟩));(try(conv=>whnf));try(first|rfl|assumption))
  refine m5 (b:=b) (by exact Uy (by assumption)) hg ?_;rw[if_neg Oo];exact q M .refl
end
section
noncomputable def ju:List Nat:=[65,66,67,68,69,70,71,72,73,74,75,76,77,78,79,80,81,82,83,84,85,86,87,88,89,90]
noncomputable def iB:List Nat:=[97,98,99,100,101,102,103,104,105,106,107,108,109,110,111,112,113,114,115,116,117,118,119,120,121,122]
noncomputable def xf:List Nat:=[33,36,37,38,42,47,58,60,61,62,63,94,95,126]
noncomputable def bp(c:Nat):Nat:=match ju.idxOf? c with
 |some i=>(iB[i]?).getD 0
 |none=>c
noncomputable def gW(c:Nat):Bool:=decide (c∈iB)||decide (c∈xf)
noncomputable def jv(c:Nat):Bool:=gW c||(decide (c∈([48,49,50,51,52,53,54,55,56,57]:List Nat))||decide (c∈([43,45,46,64]:List Nat)))
noncomputable def db(l:List Nat):Bool:=if l∈([[43],[45],[46,46,46]]:List (List Nat))then TV else match l with
 | []=>TT
 |c::r=>gW c&&r.all jv
theorem Ir(h:ju.idxOf? c=TR i):∃d,iB[i]? =TR d/\bp c=d:=by
 have hi:i<26:=by
  have:=List.of_findIdx?_eq_some (show ju.findIdx? (· ==c)=TR i from h);rcases Zy i 26 with q|q
  ·exact q
  ·have:ju[i]? =TW:=VD (by simpa[ju]using q);simp[this]at*
 have key:∀i<26,∃d,iB[i]? =TR d:=by intro i hi;exact⟨_,US (by simpa[iB]using hi)⟩
 refine aj (key i hi) λd hd=>?_
 exact⟨d,hd,by unfold bp;rw[h];simp[hd]⟩
variable[HasP]
variable{n:Nat}{M:aa}{Q:PQ}{E:PE}
theorem xg{K:PK}:∀(l:List Nat) (xs:List (List Nat)) (ρ:af) (M:aa),xs.length+l.length<=100000->aak ρ 194=TR (.ref a)->aak M a=TR (.list (xs.map V.str))->(∀ρ M',aak ρ 194=TR (.ref a)->aak M' a=TR (.list ((xs++(l.map bp).map λc=>[c]).map V.str))->Kp [a] M M'->K .next ρ M')->Fo (n+1) (e8 166) [.asg 10 (.meth (.cst (.str [65,66,67,68,69,70,71,72,73,74,75,76,77,78,79,80,81,82,83,84,85,86,87,88,89,90])) 42 [(.loc 166)]),.expr (.meth (.loc 194) 146 [(.ite (.cmp .Lt (.loc 10) (.cst (.int 0))) (.loc 166) (.sub (.cst (.str [97,98,99,100,101,102,103,104,105,106,107,108,109,110,111,112,113,114,115,116,117,118,119,120,121,122])) (.loc 10)))])] K E (l.map λc=>.str [c]) ρ M
 | [],xs,ρ,M,hz,h1,h2,q=>eq (q ρ M h1 (by simpa using h2) .refl)
 |c::l,xs,ρ,M,hz,h1,h2,q=>by
  refine dB (ρ1:=ag ρ 166 (.str [c])) rfl ?_;have z:(xs.map V.str).length<=Ub:=by rw[UK];exact ar (by simp at hz;exact ab [_,_] X0 am (X0.a ay) am hz rfl)
  have go:∀ρ',aak ρ' 194=TR (.ref a)->Fo (n+1) (e8 166) [.asg 10 (.meth (.cst (.str [65,66,67,68,69,70,71,72,73,74,75,76,77,78,79,80,81,82,83,84,85,86,87,88,89,90])) 42 [(.loc 166)]),.expr (.meth (.loc 194) 146 [(.ite (.cmp .Lt (.loc 10) (.cst (.int 0))) (.loc 166) (.sub (.cst (.str [97,98,99,100,101,102,103,104,105,106,107,108,109,110,111,112,113,114,115,116,117,118,119,120,121,122])) (.loc 10)))])] K E (l.map λc=>.str [c]) ρ' (ag M a (.list (xs.map V.str++[.str [bp c]]))):=by
   intro ρ' Nb;refine xg l (xs++[[bp c]]) ρ' _ (by simp at hz⊢;exact ab [_,_] (ad.a X1) am (X0.a ay) am hz rfl) Nb (by simp[ak,bR,bS]) λρ M' g1 g2 g3=>q ρ M' g1 ?_ ((Kp.put (List.mem_singleton.mpr rfl)).trans g3)
   simpa using g2
  cases e:ju.idxOf? c with
  |none=>
   have e1:W8 c [65,66,67,68,69,70,71,72,73,74,75,76,77,78,79,80,81,82,83,84,85,86,87,88,89,90]=TW:=e;have e2:bp c=c:=by unfold bp;rw[e]
   rw[e2]at go;clear q;refine ac (o:=aak _ 166) ?_;refine a0 (o:=aak _ _) (by simp only[ak,Uz, *]<;>rfl) ?_;refine aN ?_;refine aO ?_
   conv=>whnf
   simp only[ak,Uz,reduceIte, *];refine a0 (o:=aak _ _) (by simp only[ak,Uz,reduceIte, *]<;>rfl) ?_
   conv=>whnf
   refine aP ?_;refine⟨z,?_⟩;exact go _ (by exact(aS rfl).trans ((aS rfl).trans h1))
  |some i=>
   have e1:W8 c [65,66,67,68,69,70,71,72,73,74,75,76,77,78,79,80,81,82,83,84,85,86,87,88,89,90]=TR i:=e;refine aj (Ir e) λd KY=>?_
   have hd:=KY.1;rw[KY.2]at go;have hi:i<2^62:=by
    rcases Zy i 26 with q|q
    ·exact ab [_] ad bY ad (Ar.n 26) q rfl
    ·rw[VD (by simpa[iB]using q)]at hd;exact nn hd
   have e3:∀M,bc M (.str [97,98,99,100,101,102,103,104,105,106,107,108,109,110,111,112,113,114,115,116,117,118,119,120,121,122]) (.int i)=TR (.str [d]):=λM=>dX hd hi
   have e4:¬((i:Int)<0):=by exact ft (b:=0) (aw [_] N0 X0 rfl)
   clear q;refine ac (o:=aak _ 166) ?_;refine bM ?_;refine aN ?_;refine aO ?_
   conv=>whnf
   simp only[ak,reduceIte, *];refine ac (o:=aak _ 10) ?_;refine a0 (o:=bc _ _ _) (by simp only[*]<;>rfl) ?_;refine aP ?_;refine⟨z,?_⟩;exact go _ (by exact(aS rfl).trans ((aS rfl).trans h1))
theorem jw{l:List Nat}(hz:l.length<=1000)(q:∀M',Kp [] M M'->Q (.str (l.map bp)) M'):CT (n+2) (.ref 888) [.str l] M Q E:=by
 refine ax Gj (ks:=[88]) ?_;refine .inr λa ha=>?_
 refine xg (a:=a) l [] _ _ (by exact ab [_] (N0.a X0) am X0 (Ar.n 1000) hz rfl) rfl (kH _ _ _) λρ M' g1 g2 g3=>?_
 have s:eG (([]++(l.map bp).map λc=>[c]).map V.str)=TR ((l.map bp).map λc=>[c]):=kJ _;refine ac ?_;refine wa ‹_› ?_;refine ac ?_;simp only[*];rw[mT];exact⟨by simp;lia,q M' (Kp.fresh ha.lkp g3)⟩
theorem xj(q:Q (.bool (gW c)) M):CT (n+2) (.ref 895) [.str [c]] M Q E:=by
 refine ax Gk (ks:=[166]) ?_
 conv=>whnf
 unfold gW iB xf at q;by_cases e:c∈([97,98,99,100,101,102,103,104,105,106,107,108,109,110,111,112,113,114,115,116,117,118,119,120,121,122]:List Nat)
 ·rw[decide_eq_true e]at q⊢;exact q
 ·rw[decide_eq_false e]at q⊢;exact q
theorem It(q:Q (.bool (jv c)) M):CT (n+3) (.ref 902) [.str [c]] M Q E:=by
 refine ax Gl (ks:=[166]) ?_;refine xj ?_;unfold jv at q;generalize gW c=bb at q⊢;induction bb with
 |true=>exact q
 |false=>
  conv=>whnf
  by_cases e:c∈([48,49,50,51,52,53,54,55,56,57]:List Nat)
  ·rw[decide_eq_true e]at q⊢;exact q
  ·rw[decide_eq_false e]at q⊢;exact q
theorem xk{K:PK}:∀(l:List Nat) (ρ:af),(l.all jv=TV->∀ρ,K .next ρ M)->(l.all jv=TT->∀ρ,K (.ret (.bool TT)) ρ M)->Fo (n+3) (e8 166) [.ite (.not (.call (.cst (.ref 902)) [(.loc 166)])) [.ret (.cst (.bool TT))] []] K E (l.map λc=>.str [c]) ρ M
 | [],ρ,h,_=>eq (h rfl ρ)
 |c::l,ρ,h,h'=>by
  refine dB (ρ1:=ag ρ 166 (.str [c])) rfl ?_;refine ac (o:=aak _ 166) ?_;refine It ?_;cases e:jv c with
  |true=>exact xk l _ (λq=>h (by simp[e,q])) λq=>h' (by simp[q])
  |false=>exact h' (by simp[e]) _
theorem qN{l:List Nat}(hz:l.length<=1000)(q:Q (.bool (db l)) M):CT (n+4) (.ref 909) [.str l] M Q E:=by
 refine ax Gm (ks:=[88]) ?_
 conv=>whnf
 by_cases e:l∈([[43],[45],[46,46,46]]:List (List Nat))
 ·unfold db at q;rw[if_pos e]at q;rw[decide_eq_true e];exact q
 rw[decide_eq_false e];unfold db at q;rw[if_neg e]at q;have z:l.length<=Ub:=ar (by exact ab [_] X0 am X0 (Ar.n 1000) hz rfl);clear e;induction l with
 |nil=>(
  conv=>whnf
  simp only[br, *])
 |cons c r=>
  dsimp only at q;refine xj ?_;cases e2:gW c with
  |false=>rw[e2]at q;exact q
  |true=>
   rw[e2]at q;refine⟨z,?_⟩;have e3:Vs ((c::r).length-YM 1) (V5 (YM 1) (c::r))=r:=by simp
   rw[e3];refine xk r _ (λh ρ=>?_) (λh ρ=>?_)
   ·rw[h]at q;exact q
   ·rw[h]at q;exact q
theorem Iu(q:Q (.bool (decide (c∈([48,49,50,51,52,53,54,55,56,57]:List Nat))||decide (c∈([43,45,46]:List Nat)))) M):CT (n+2) (.ref 916) [.str (c::r)] M Q E:=by
 refine ax Gn (ks:=[88]) ?_
 conv=>whnf
 by_cases e:c∈([48,49,50,51,52,53,54,55,56,57]:List Nat)
 ·rw[decide_eq_true e]at q⊢;exact q
 ·rw[decide_eq_false e]at q⊢;exact q
theorem Iv{l:List Nat}(hz:l.length<=1000)(q:∀M',Kp [] M M'->Q (.bool (decide (l.map bp=l)&&db l)) M'):CT (n+5) (.ref 1150) [.str l] M Q E:=by
 refine ax GF (ks:=[88]) ?_;refine jw hz λM' k=>?_
 have q:=q M' k;by_cases e:l.map bp=l
 ·rw[decide_eq_true e]at q;refine c9 ?_;simp only[*];exact qN hz q
 ·rw[decide_eq_false e]at q;refine bv ?_;simp only[decide_false, *];assumption
theorem Iw(q:Q (if c=32 then .str [115,112,97,99,101]else if c=10 then .str [110,101,119,108,105,110,101]else .none) M):CT (n+2) (.ref 930) [.str [c]] M Q E:=by
 refine ax Gp (ks:=[166]) ?_;refine dB (ρ1:=cJ [(166,.str [c])] [117,21] [.str [115,112,97,99,101],.str [32]]) rfl ?_;by_cases e:c=32
 ·subst e;exact q
 have e':¬(([32]:List Nat)=[c]):=by simpa using Uf e
 rw[if_neg e]at q;refine bv ?_;simp only[bR,bS, *];refine dB (ρ1:=cJ [(166,.str [c]),(117,.str [115,112,97,99,101]),(21,.str [32])] [117,21] [.str [110,101,119,108,105,110,101],.str [10]]) rfl ?_;by_cases e2:c=10
 ·subst e2;exact q
 have OK:¬(([10]:List Nat)=[c]):=by simpa using Uf e2
 rw[if_neg e2]at q;refine bv ?_;simp only[bR,bS, *];exact eq q
theorem xm{l:List Nat}(hz:l.length<=1000)(q:∀M',Kp [] M M'->Q (if l.map bp=[115,112,97,99,101]then .str [32]else if l.map bp=[110,101,119,108,105,110,101]then .str [10]else .none) M'):CT (n+4) (.ref 923) [.str l] M Q E:=by
 refine ax Go (ks:=[47]) ?_;refine dB (ρ1:=cJ [(47,.str l)] [117,166] [.str [115,112,97,99,101],.str [32]]) rfl ?_;have q0:=q;refine jw hz λM' k=>?_
 have q:=q M' k;by_cases e:l.map bp=[115,112,97,99,101]
 ·rw[if_pos e]at q;refine cA (b:=Vp _) (by simp only[bR,bS, *]<;>rfl) ?_;exact q
 have e':¬([115,112,97,99,101]=l.map bp):=λh=>e h.symm
 clear q;refine bv ?_;simp only[bR,bS, *];refine dB (ρ1:=cJ [(47,.str l),(117,.str [115,112,97,99,101]),(166,.str [32])] [117,166] [.str [110,101,119,108,105,110,101],.str [10]]) rfl ?_;refine jw hz λM2 k2=>?_
 have q:=q0 M2 (k.trans k2);rw[if_neg e]at q;by_cases e2:l.map bp=[110,101,119,108,105,110,101]
 ·rw[if_pos e2]at q;refine cA (b:=Vp _) (by simp only[bR,bS, *]<;>rfl) ?_;exact q
 have OK:¬([110,101,119,108,105,110,101]=l.map bp):=λh=>e2 h.symm
 rw[if_neg e2]at q;refine bv ?_;simp only[bR,bS, *];exact eq q
noncomputable def dY(c:Nat):List Nat:=[35,92]++(if c=32 then[115,112,97,99,101]else if c=10 then[110,101,119,108,105,110,101]else[c])
theorem Ix(hc:c<=0x10FFFF)(q:Q (.str (dY c)) M):CT (n+3) (.ref 1157) [.int c] M Q E:=by
 refine ax GG (ks:=[46]) ?_;refine⟨by exact dp (a:=0) (aw [_] N0 X0 rfl),by exact dp (b:=1114111) (ab [_] X0 (Ar.n 1114111) X0 (Ar.n 1114111) hc rfl),Iw (c:=c) ?_⟩;unfold dY at q;by_cases e:c=32
 ·subst e;exact⟨by decide,q⟩
 by_cases e2:c=10
 ·subst e2;exact⟨by decide,q⟩
 rw[if_neg e,if_neg e2]at q⊢;exact⟨by exact dp (a:=0) (aw [_] N0 X0 rfl),by exact dp (b:=1114111) (ab [_] X0 (Ar.n 1114111) X0 (Ar.n 1114111) hc rfl),ar (by exact aw [] (((N0.a N1).a N1).a (N0.a N1)) am rfl),q⟩
end
section
noncomputable def eO(c:Nat):List Nat:=if c=34\/c=92 then[92,c]else[c]
variable[HasP]
variable{n:Nat}{M:aa}{Q:PQ}{E:PE}
theorem qO{K:PK}:∀(l:List Nat) (xs:List (List Nat)) (ρ:af) (M:aa),xs.length+2*l.length<=100000->aak ρ 97=TR (.ref a)->aak M a=TR (.list (xs.map V.str))->(∀ρ M' (ys:List (List Nat)),aak ρ 97=TR (.ref a)->ys.flatten=xs.flatten++l.flatMap eO->ys.length<=100000->aak M' a=TR (.list (ys.map V.str))->Kp [a] M M'->K .next ρ M')->Fo (n+1) (e8 166) [.ite (.bor [(.cmp .Eq (.loc 166) (.cst (.str [34]))),(.cmp .Eq (.loc 166) (.cst (.str [92])))]) [.expr (.meth (.loc 97) 146 [(.cst (.str [92]))])] [],.expr (.meth (.loc 97) 146 [(.loc 166)])] K E (l.map λc=>.str [c]) ρ M
 | [],xs,ρ,M,hz,h1,h2,q=>eq (q ρ M xs h1 (by simp) (by simpa using hz) h2 .refl)
 |c::l,xs,ρ,M,hz,h1,h2,q=>by
  have z:(xs.map V.str).length<=Ub:=by rw[UK];exact ar (by simp at hz;exact ab [_,_] X0 am aI am hz rfl)
  have z2:((xs.map V.str)++[V.str [92]]).length<=Ub:=by rw[Ui,UK];exact ar (by simp at hz⊢;exact ab [_,_] X0 (Ar.n 99999) (X0.a (Ar.m 2 ay)) am hz rfl)
  refine dB (ρ1:=ag ρ 166 (.str [c])) rfl ?_;by_cases e:c=34\/c=92
  ·have go:=qO l (xs++[[92]]++[[c]]) (ag ρ 166 (.str [c])) (ag (ag M a (.list (xs.map V.str++[V.str [92]]))) a (.list (xs.map V.str++[V.str [92]]++[V.str [c]]))) (by simp at hz⊢;exact ab [_,_] ((X0.a N2).a (Ar.m 2 X1)) am (X0.a (Ar.m 2 ay)) am hz rfl) (by exact(aS rfl).trans h1) (by simp[ak,bR,bS]) λρ M' ys g1 g2 g3 g4 g5=>q ρ M' ys g1 (by rw[g2];simp[eO,e]) g3 g4 (((Kp.put (List.mem_singleton.mpr rfl)).trans (Kp.put (List.mem_singleton.mpr rfl))).trans g5)
   rcases e with rfl|rfl
   ·clear q;(
    conv=>whnf
    simp only[ak,reduceIte, *];refine bM ?_;refine aN ?_;refine aO ?_;refine aP ?_;refine⟨z,?_⟩;refine bM ?_;refine aN ?_;refine aO ?_;refine ac (o:=aak _ 166) ?_;refine aP ?_;refine⟨z2,?_⟩
    conv=>whnf
    simp only[*])
   ·have e':¬(([92]:List Nat)=[34]):=by decide
    clear q;(
     conv=>whnf
     simp only[ak,reduceIte, *];refine ac (o:=aak _ 166) ?_;refine bM ?_;refine aN ?_;refine aO ?_;refine aP ?_;refine⟨z,?_⟩;refine bM ?_;refine aN ?_;refine aO ?_;refine ac (o:=aak _ 166) ?_
     conv=>whnf
     refine aP ?_;refine⟨z2,?_⟩
     conv=>whnf
     simp only[*])
  ·have e1:¬(([c]:List Nat)=[34]):=by simpa usingλh=>e (.inl h)
   have e2:¬(([c]:List Nat)=[92]):=by simpa usingλh=>e (.inr h)
   have go:=qO l (xs++[[c]]) (ag ρ 166 (.str [c])) (ag M a (.list (xs.map V.str++[V.str [c]]))) (by simp at hz⊢;exact ab [_,_] (ad.a (Ar.m 2 X1)) am (X0.a (Ar.m 2 ay)) am hz rfl) (by exact(aS rfl).trans h1) (by simp[ak,bR,bS]) λρ M' ys g1 g2 g3 g4 g5=>q ρ M' ys g1 (by rw[g2];simp[eO,e]) g3 g4 ((Kp.put (List.mem_singleton.mpr rfl)).trans g5)
   clear q e;refine ac (o:=aak _ 166) ?_;apply ix e1;refine ac (o:=aak _ 166) ?_;apply ix e2;refine bM ?_;refine aN ?_;refine aO ?_;refine ac (o:=aak _ 166) ?_
   conv=>whnf
   refine aP ?_;refine⟨z,?_⟩;exact go
theorem Iy{l:List Nat}(hz:l.length<=1000)(hc:∀c∈l,c<=0x10FFFF)(q:∀M',Kp [] M M'->Q (.str ([34]++l.flatMap eO++[34])) M'):CT (n+3) (.ref 1164) [fb l] M Q E:=by
 refine ax GH (ks:=[88]) ?_;refine .inr λa ha=>?_
 refine wP (by exact ab [_] X0 (Ar.n 16777216) X0 (Ar.n 1000) hz rfl) hc ?_;refine qO (a:=a) l [[34]] _ _ (by exact ab [_] ((N0.a N1).a (Ar.m 2 X0)) am (Ar.m 2 X0) (Ar.m 2 (Ar.n 1000)) (mK 2 hz) rfl) rfl (kH _ _ _) λρ M' ys g1 g2 g3 g4 g5=>?_
 have z:(ys.map V.str).length<=Ub:=by rw[UK];exact ar g3
 have s:eG (ys.map V.str++[.str [34]])=TR (ys++[[34]]):=by have:=kJ (ys++[[34]]);rwa[VE]at this
 have hl:∀l:List Nat,(l.flatMap eO).length<=2*l.length:=by
  intro l;induction l with
  |nil=>simp
  |cons c l ih=>
   have h1:(eO c).length<=2:=by unfold eO;split<;>simp
   rw[List.flatMap_cons,Ui,aau];exact ai [_,_,_] aI (Ar.m 2 bC) X0 N2 X1 (Ar.m 2 X2) h1 ih rfl
 have hl:=hl l;have q:=q (ag M' a (.list (ys.map V.str++[.str [34]]))) ((Kp.fresh ha.lkp (g5.trans (Kp.put (.head _)))));have e:([34]++l.flatMap eO++[34])=(ys++[[34]]).flatten:=by rw[List.flatten_append,g2];simp
 rw[e]at q;have hf:(ys++[[34]]).flatten.length<=16777216:=by rw[<-e];simp only[Ui,aau,Uc];exact ai [_,_] (((N0.a N1).a X0).a (N0.a N1)) (Ar.n 16777216) X0 (Ar.m 2 X1) (Ar.m 2 X1) (Ar.m 2 (Ar.n 1000)) hl (mK 2 hz) rfl
 refine ac ?_;refine aN ?_;refine aO ?_;refine aP ?_;refine⟨z,?_⟩;refine ac ?_;refine wa (by walk_at "mem") ?_;refine ac ?_;refine⟨hf,?_⟩;exact q
theorem qP{v:V}(h1:aD M v (.ref 38)=TR TT)(h2:aD M v (.ref 302)=TR TT)(h3:aD M v (.ref 260)=TR TT)(h4:aD M v (.ref 239)=TR TT)(h5:aD M v (.ref 281)=TR TT)(q:Q .none M):CT (n+2) (.ref 1171) [v] M Q E:=by
 refine ax ww (ks:=[114]) ?_;refine ac ?_
 conv=>whnf
 refine ac ?_
 conv=>whnf
 refine ac ?_
 conv=>whnf
 refine ac ?_
 conv=>whnf
 refine ac ?_;exact q
inductive eP:V->List Nat->Prop
 |spc {a:TX} {l:List Nat} (hl:l.length<=100):eP (.ido a 38 [(104,.str l)]) ([35,60]++l++[62])
 |proc {l:List Nat} (hl:l.length<=100):eP (.obj 302 [(104,.str l)]) ([35,60,112,114,111,99,101,100,117,114,101,32]++l++[62])
 |prim {l:List Nat} {x:V} (hl:l.length<=100):eP (.obj 323 [(104,.str l),(6,x)]) ([35,60,112,114,111,99,101,100,117,114,101,32]++l++[62])
 |promise {x y:V}:eP (.obj 260 [(178,x),(195,y)]) [35,60,112,114,111,109,105,115,101,62]
 |box {x:V}:eP (.obj 239 [(195,x)]) [35,60,98,111,120,62]
 |port:eP (.obj 281 [(163,.int 7)]) [35,60,112,111,114,116,32,55,62]
theorem Iz:eH 7=[55]:=by kernel_rfl
theorem IA:(7:Int).natAbs.log2<1920:=by decide
theorem qQ{v:V}(h:eP v t)(q:Q (.str t) M):CT (n+2) (.ref 1171) [v] M Q E:=by
 refine ax ww (ks:=[114]) ?_;induction h with
 |port=>exact⟨ar (by decide),IA,by rw[Iz];exact⟨ar (by decide),ar (by decide),ar (by decide),q⟩⟩
 |promise=>exact q
 |box=>exact q
 |_=>repeat(first|exact q|refine⟨ar (by first|lia|(simp only[Ui,aau,Uc];lia)|(simp;lia)),?_⟩)
end
section
structure SE where
 a:TX
 l:List Nat
 ins:Bool
abbrev au:=List SE
noncomputable def eu:Nat->au->List V
 |_,[]=>[]
 |k,e::r=>aW e.a k e.l::eu (k+1) r
noncomputable def dm:Nat->au->List (List Nat×V)
 |_,[]=>[]
 |k,e::r=>if e.ins=TV then(e.l,aW e.a k e.l)::dm (k+1) r else dm (k+1) r
theorem IB:eu k []=[]:=rfl
theorem qR{k:Nat}{e:SE}{r:au}:eu k (e::r)=aW e.a k e.l::eu (k+1) r:=rfl
theorem xn:dm k []=[]:=rfl
theorem kM{k:Nat}{e:SE}{r:au}:dm k (e::r)=if e.ins=TV then(e.l,aW e.a k e.l)::dm (k+1) r else dm (k+1) r:=rfl
noncomputable def ew:List (List Nat):=[[97],[113,117,111,116,101],[117,110,113,117,111,116,101],[120,49],[65],[97,32,98],[49,50],[],[46],[43],[113,117,97,115,105,113,117,111,116,101],[117,110,113,117,111,116,101,45,115,112,108,105,99,105,110,103]]
structure dP(kf:Nat)(T:au):Prop where
 nd:(T.map (·.a)).Nodup
 gt:∀e∈T,53<e.a
 ndn:((T.filter (·.ins)).map (·.l)).Nodup
 sub:∀e∈T,e.ins=TV->e.l∈ew
 few:(T.filter λe=> !e.ins).length<=kf
structure TG(tb rw di:TX)(kf:Nat)(T:au)(M:aa):Prop where
 tbl:aak M tb=TR (.inst 134 [(79,.ref rw),(196,.ref di)])
 rows:aak M rw=TR (.list (eu 0 T))
 dict:aak M di=TR (.dict (dm 0 T))
 ok:dP kf T
def aE(T T':au):Prop:=∃D,T'=T++D
theorem aE.refl{T:au}:aE T T:=⟨[],by simp⟩
theorem aE.trans{T T' Nl:au}(h:aE T T')(h':aE T' Nl):aE T Nl:=by obtain⟨D,rfl⟩:=h;obtain⟨D',rfl⟩:=h';exact⟨D++D',by simp⟩
theorem aE.at{T T':au}(h:aE T T'){k:Nat}{e:SE}(q:T[k]? =TR e):T'[k]? =TR e:=by obtain⟨D,rfl⟩:=h;refine(List.getElem?_append_left (List.getElem?_eq_some_iff.mp q).1).symm▸?_;exact q
theorem TG.keep{T:au}(G:TG tb rw di kf T M)(k:Kp S M M')(h1:tb∉S)(h2:rw∉S)(h3:di∉S):TG tb rw di kf T M':=⟨k _ _ h1 G.tbl,k _ _ h2 G.rows,k _ _ h3 G.dict,G.ok⟩
theorem kN:∀(T:au) (k:Nat),(eu k T).length=T.length
 | [],_=>rfl
 |e::T,k=>by simp[qR,kN T]
theorem qS:∀(T:au) (k:Nat) (e:SE),eu k (T++[e])=eu k T++[aW e.a (k+T.length) e.l]
 | [],k,e=>by simp[IB,qR]
 |x::T,k,e=>by simp only[V6,qR,qS T (k+1) e,aau];rw[show k+1+T.length=k+(T.length+1) by exact e0 [_,_] (ad.a X1) (X0.a ay) rfl]
theorem qT:∀(T:au) (k:Nat) (e:SE),dm k (T++[e])=dm k T++(if e.ins=TV then[(e.l,aW e.a (k+T.length) e.l)]else[])
 | [],k,e=>by simp[xn,kM]
 |x::T,k,e=>by
  simp only[V6,kM,qT T (k+1) e,aau];rw[show k+1+T.length=k+(T.length+1) by exact e0 [_,_] (ad.a X1) (X0.a ay) rfl];by_cases h:x.ins=TV
  ·rw[if_pos h,if_pos h,V6]
  ·rw[if_neg h,if_neg h]
theorem qU:∀(T:au) (k:Nat),(dm k T).length=(T.filter (·.ins)).length
 | [],_=>rfl
 |e::T,k=>by
  simp only[kM,xn];by_cases h:e.ins=TV
  ·refine(if_pos h).symm▸?_;refine(VN h).symm▸?_;refine(aau).symm▸?_;refine(aau).symm▸?_;rewrite[qU];with_reducible rfl
  ·refine(if_neg h).symm▸?_;refine(Wp h).symm▸?_;rewrite[qU];with_reducible rfl
theorem kO:∀{T:au} {j:Nat} {l:List Nat} {v:V},c7 (dm j T) l=TR v->∃k a,T[k]? =TR ⟨a,l,TV⟩/\v=aW a (j+k) l
 | [],j,l,v,h=>nn h
 |e::T,j,l,v,h=>by
  rw[kM]at h;by_cases hi:e.ins=TV
  ·rw[if_pos hi]at h;rw[pB]at h;split at h
   ·rename_i q;obtain rfl:=TU h;obtain⟨a,l',i⟩:=e;dsimp only at q hi;subst q hi;exact⟨0,a,rfl,rfl⟩
   ·obtain⟨k,a,h1,h2⟩:=kO h;exact⟨k+1,a,by simpa using h1,by rw[h2,show j+1+k=j+(k+1) by exact e0 [_,_] (ad.a X1) (X0.a ay) rfl]⟩
  ·rw[if_neg hi]at h;obtain⟨k,a,h1,h2⟩:=kO h;exact⟨k+1,a,by simpa using h1,by rw[h2,show j+1+k=j+(k+1) by exact e0 [_,_] (ad.a X1) (X0.a ay) rfl]⟩
theorem m6:∀{T:au} {j:Nat} {l:List Nat},c7 (dm j T) l=TW->∀e∈T,e.ins=TV->e.l≠l
 | [],j,l,h,e,he=>by cases he
 |x::T,j,l,h,e,he=>by
  intro hi q;rw[kM]at h;by_cases hx:x.ins=TV
  ·rw[if_pos hx]at h;rw[pB]at h;split at h
   ·exact ns h
   ·rename_i ne;cases he with
    |head=>exact ne q
    |tail _ he=>exact m6 h e he hi q
  ·rw[if_neg hx]at h;cases he with
   |head=>exact hx hi
   |tail _ he=>exact m6 h e he hi q
theorem xq{α β:Type}{f:α->β}:∀{l:List α},(l.map f).Nodup->∀{i j:Nat} {a b:α},l[i]? =TR a->l[j]? =TR b->f a=f b->i=j
 | [],_,i,j,a,b,h,_,_=>by simp at h
 |x::l,nd,i,j,a,b,hi,hj,e=>by
  rw[UA,Uw]at nd;have no:∀k c,l[k]? =TR c->f c≠f x:=λk c h q=>nd.1 (q▸V9 (f:=f) (UR h))
  cases i with
  |zero=>
   cases j with
   |zero=>rfl
   |succ j=>simp at hi hj;subst hi;exact absurd e.symm (no j b hj)
  |succ i=>
   cases j with
   |zero=>simp at hi hj;subst hj;exact absurd e (no i a hi)
   |succ j=>simp at hi hj;rw[xq nd.2 hi hj e]
theorem dP.one{kf:Nat}{T:au}(O:dP kf T){i j:Nat}{a b:TX}{l:List Nat}(h1:T[i]? =TR ⟨a,l,TV⟩)(h2:T[j]? =TR ⟨b,l,TV⟩):a=b/\i=j:=by
 have ndn:=O.ndn;clear O;induction T generalizing i j with
 |nil=>simp at h1
 |cons x T ih=>
  have step:∀(k:Nat) (c:TX),T[k]? =TR ⟨c,l,TV⟩->x.ins=TV->x.l≠l:=λk c hk hx q=>by rw[VN hx,UA,Uw]at ndn;exact ndn.1 (by rw[q];exact List.mem_map.mpr ⟨⟨c,l,TV⟩,List.mem_filter.mpr ⟨UR hk,rfl⟩,rfl⟩)
  have rest:((T.filter (·.ins)).map (·.l)).Nodup:=by
   by_cases hx:x.ins=TV
   ·rw[VN hx,UA,Uw]at ndn;exact ndn.2
   ·rw[Wp hx]at ndn;exact ndn
  cases i with
  |zero=>
   cases j with
   |zero=>simp at h1 h2;rw[h1]at h2;cases h2;exact⟨rfl,rfl⟩
   |succ j=>simp at h1 h2;subst h1;exact absurd rfl (step j b h2 rfl)
  |succ i=>
   cases j with
   |zero=>simp at h1 h2;subst h2;exact absurd rfl (step i a h1 rfl)
   |succ j=>simp at h1 h2;obtain⟨p,q⟩:=ih h1 h2 rest;exact⟨p,by rw[q]⟩
theorem dP.addr{kf:Nat}{T:au}(O:dP kf T){i j:Nat}{x y:SE}(h1:T[i]? =TR x)(h2:T[j]? =TR y)(e:x.a=y.a):i=j/\x=y:=by have:=xq O.nd h1 h2 e;subst this;rw[h1]at h2;obtain rfl:=TU h2;exact⟨rfl,rfl⟩
theorem IC{kf:Nat}{T:au}(O:dP kf T){k:Nat}{a:TX}{l:List Nat}(h:T[k]? =TR ⟨a,l,TV⟩):c7 (dm 0 T) l=TR (aW a k l):=by
 cases e:c7 (dm 0 T) l with
 |none=>exact absurd rfl (m6 e _ (UR h) rfl)
 |some v=>obtain⟨k',a',h1,rfl⟩:=kO e;obtain⟨rfl,rfl⟩:=O.one h h1;simp
theorem xr{α:Type}[DecidableEq α]:∀{l m:List α},l.Nodup->(∀x∈l,x∈m)->l.length<=m.length
 | [],_,_,_=>VF _
 |x::l,m,nd,h=>by
  rw[Uw]at nd;have hx:=h x (.head _);have:=xr (m:=m.erase x) nd.2 λy hy=>by rw[List.mem_erase_of_ne (λe=>nd.1 (by rw[<-e];exact hy))];exact h y (.tail _ hy)
  rw[List.length_erase_of_mem hx]at this;have hp:0<m.length:=List.length_pos_of_mem hx;refine(aau).symm▸?_;lia
theorem dP.count{T:au}(O:dP kf T):(T.filter (·.ins)).length<=12:=by
 have:=xr O.ndn (m:=ew) λx hx=>by obtain⟨e,he,rfl⟩:=List.mem_map.mp hx;obtain⟨h1,h2⟩:=List.mem_filter.mp he;exact O.sub e h1 h2
 rw[UK]at this;exact this
theorem xt:∀(T:au),T.length=(T.filter (·.ins)).length+(T.filter λe=> !e.ins).length
 | []=>rfl
 |e::T=>by have:=xt T;cases h:e.ins<;>simp[h]<;>lia
theorem dP.len{T:au}(O:dP kf T):T.length<=12+kf:=by have:=xt T;have:=O.count;have:=O.few;exact bU [_,_,_,_] X0 ((Ar.n 12).a X1) X0 (X2.a X3) X2 (Ar.n 12) X3 X1 (eL (by assumption)) (by assumption) this rfl
theorem xu:∀(T:au) (k:Nat) (e:SE),e∈T->e.a∈i8 (eu k T)
 |x::T,k,e,h=>by
  refine List.mem_append.mpr ?_;cases h with
  |head=>exact .inl (.head _)
  |tail _ h=>exact .inr (xu T _ e h)
theorem xv{α:Type}:∀{l:List (Nat×α)} {k:Nat} {v:α},aak l k=TR v->(k,v)∈l
 |p::r,k,v,h=>by
  simp only[cC,gw]at h;split at h
  ·rename_i q;obtain rfl:=TU h;subst q;exact .head _
  ·exact .tail _ (xv h)
theorem TG.fresh{T:au}(G:TG tb rw di kf T M)(h:dz a M):∀e∈T,e.a≠a:=λe he q=>by have:=(h _ (xv G.rows)).2;simp only[lT]at this;exact this (q▸xu T 0 e he)
theorem dP.add{T:au}(O:dP kf T)(h1:∀x∈T,x.a≠e.a)(h2:53<e.a)(h3:e.ins=TV->e.l∈ew/\∀x∈T,x.ins=TV->x.l≠e.l):dP (if e.ins=TV then kf else kf+1) (T++[e]):=by
 refine⟨?_,?_,?_,?_,?_⟩
 ·rw[VE,W7];refine⟨O.nd,by simp,λa ha b hb=>?_⟩;obtain⟨x,hx,rfl⟩:=List.mem_map.mp ha;simp only[UA,ZC,VA]at hb;subst hb;exact h1 x hx
 ·intro x hx;rcases List.mem_append.mp hx with hx|hx
  ·exact O.gt x hx
  ·rw[VA]at hx;subst hx;exact h2
 ·rw[Ys,VE,W7];refine⟨O.ndn,?_,λa ha b hb=>?_⟩
  ·cases h:e.ins<;>simp[h]
  ·obtain⟨x,hx,rfl⟩:=List.mem_map.mp ha;obtain⟨y,hy,rfl⟩:=List.mem_map.mp hb;obtain⟨NS,O3⟩:=List.mem_filter.mp hx;obtain⟨Qt,SJ⟩:=List.mem_filter.mp hy;rw[VA]at Qt;subst Qt;exact(h3 SJ).2 x NS O3
 ·intro x hx hi;rcases List.mem_append.mp hx with hx|hx
  ·exact O.sub x hx hi
  ·rw[VA]at hx;subst hx;exact(h3 hi).1
 ·rw[Ys,Ui];have:=O.few;cases h:e.ins<;>simp[h]<;>assumption
variable[HasP]
variable{n:Nat}{M:aa}{Q:PQ}{E:PE}
theorem TG.ne{T:au}(G:TG tb rw di kf T M):tb≠rw/\tb≠di/\rw≠di:=by have h1:=G.tbl;have h2:=G.rows;have h3:=G.dict;exact⟨λe=>(by rw[e,h2]at h1;cases h1),λe=>(by rw[e,h3]at h1;cases h1),λe=>(by rw[e,h3]at h2;cases h2)⟩
theorem jx{T:au}{l:List Nat}(G:TG tb rw di kf T M)(hk:kf<=100)(hl:l∈ew)(q:∀T' M' a k,TG tb rw di kf T' M'->aE T T'->Kp [rw,di] M M'->T'[k]? =TR ⟨a,l,TV⟩->Q (aW a k l) M'):CT (n+4) (.ref 96) [.ref tb,.str l] M Q E:=by
 refine ax FV (ks:=[57,88]) ?_;have h1:=G.tbl;have h2:=G.rows;have h3:=G.dict;obtain⟨n1,n2,n3⟩:=G.ne;cases e:c7 (dm 0 T) l with
 |some v=>obtain⟨k,a,hk,rfl⟩:=kO e;have q':=q T M a k G .refl .refl hk;rw[Xn]at e;clear q;refine ah ?_;refine kF ?_;refine w6 ‹_› (by rfl) ?_;refine we ‹_› (by rfl) ?_;simp only[V3, *];exact q'
 |none=>
  have Mx:=Uf n1;have Qu:=Uf n2;have Qv:=Uf n3;have z1:(eu 0 T).length<=Ub:=by rw[kN];exact ar (by have:=G.ok.len;exact ai [_,_] X0 am X0 ((Ar.n 12).a X1) X1 (Ar.n 100) this hk rfl)
  have z2:(dm 0 T).length<=Ub:=by rw[qU];exact ar (by have:=G.ok.count;exact ab [_] X0 am X0 (Ar.n 12) this rfl)
  have z3:T.length<2^63:=by have:=G.ok.len;exact ai [_,_] ad bd X0 ((Ar.n 12).a X1) X1 (Ar.n 100) this hk rfl
  have z5:T.length<=Ub:=ar (by have:=G.ok.len;exact ai [_,_] X0 am X0 ((Ar.n 12).a X1) X1 (Ar.n 100) this hk rfl);have z4:=kN T 0;refine ah ?_;refine kF ?_;refine w6 ‹_› (by rfl) ?_;refine we ‹_› (by rfl) ?_;refine a0 (o:=bA _ _ _ _) (by simp only[YD, *]<;>rfl) ?_;refine ah ?_;refine gU ?_;refine⟨by simp only[true_and, *],?_⟩;refine jo (by simp only[true_and, *]<;>rfl) ?_
  conv=>whnf
  simp only[*];refine wI λa h5 ha=>?_
  have O:=G.ok.add (e:=⟨a,l,TV⟩) (G.fresh ha) h5 λ_=>⟨hl,m6 e⟩
  simp only[if_true]at O;have q':=q (T++[⟨a,l,TV⟩]) (ag (ag M rw (.list (eu 0 T++[aW a T.length l]))) di (.dict (dm 0 T++[(l,aW a T.length l)]))) a T.length ⟨?_,?_,?_,O⟩ ⟨_,rfl⟩ ?_ (by simp)
  ·clear q;refine ah ?_;refine aN ?_;refine aO ?_;refine aP ?_;refine⟨z1,?_⟩;refine ah ?_;refine we (by walk_at "mem") (by rfl) ?_;refine⟨e,?_⟩;refine⟨z2,?_⟩;exact q'
  ·rw[ak,if_neg Qu,ak,if_neg Mx];exact h1
  ·rw[ak,if_neg Qv,ak,if_pos rfl,qS];simp
  ·rw[ak,if_pos rfl,qT];simp
  ·exact(Kp.put (.head _)).trans (Kp.put (.tail _ (.head _)))
theorem ID{tb rw di:TX}{kf:Nat}{T:au}{l:List Nat}{a k:Nat}{i:Bool}(G:TG tb rw di kf T M)(h:T[k]? =TR ⟨a,l,i⟩)(q:Q (.bool i) M):CT (n+2) (.ref 124) [.ref tb,aW a k l] M Q E:=by
 refine ax FY (ks:=[57,157]) ?_;have h1:=G.tbl;have h3:=G.dict;cases i with
 |true=>
  have e:=IC G.ok h;refine ah ?_;refine kF ?_;refine w6 ‹_› (by rfl) ?_;refine we ‹_› (by rfl) ?_;simp only[V3, *]
  conv=>whnf
  simp only[br,decide_true, *]
 |false=>
  cases e:c7 (dm 0 T) l with
  |none=>(
   refine ah ?_;refine kF ?_;refine w6 ‹_› (by rfl) ?_;refine we ‹_› (by rfl) ?_;simp only[YD, *]
   conv=>whnf
   simp only[br, *])
  |some v=>
   obtain⟨k',a',h4,rfl⟩:=kO e;have ne:¬(a'=a):=λz=>Bool.noConfusion (congrArg SE.ins (G.ok.addr h h4 z.symm).2)
   refine ah ?_;refine kF ?_;refine w6 ‹_› (by rfl) ?_;refine we ‹_› (by rfl) ?_;simp only[V3, *]
   conv=>whnf
   simp only[br,decide_false, *]
theorem IE:∀k:Nat,k<120->(eH (k:Int)).length<=10/\(k:Int).natAbs.log2<1920:=by decide+kernel
theorem IF{T:au}(G:TG tb rw di kf T M)(hk:kf<=100)(q:∀T' M' a k l,TG tb rw di (kf+1) T' M'->aE T T'->Kp [rw] M M'->T'[k]? =TR ⟨a,l,TT⟩->l.length<=12->Q (aW a k l) M'):CT (n+4) (.ref 103) [.ref tb,.str [103]] M Q E:=by
 refine ax FW (ks:=[57,81]) ?_;have h1:=G.tbl;have h2:=G.rows;have h3:=G.dict;obtain⟨n1,n2,n3⟩:=G.ne;have Mx:=Uf n1;have Qu:=Uf n2;have Qv:=Uf n3;have z1:(eu 0 T).length<=Ub:=by rw[kN];exact ar (by have:=G.ok.len;exact ai [_,_] X0 am X0 ((Ar.n 12).a X1) X1 (Ar.n 100) this hk rfl)
 have z3:T.length<2^63:=by have:=G.ok.len;exact ai [_,_] ad bd X0 ((Ar.n 12).a X1) X1 (Ar.n 100) this hk rfl
 have z4:=kN T 0;have z7:T.length<=Ub:=ar (by have:=G.ok.len;exact ai [_,_] X0 am X0 ((Ar.n 12).a X1) X1 (Ar.n 100) this hk rfl);obtain⟨z5,z6⟩:=IE T.length (by have:=G.ok.len;exact ai [_,_] ad (Ar.n 120) X0 ((Ar.n 12).a X1) X1 (Ar.n 100) this hk rfl);rw[U2]at z6;refine ah ?_;refine gU ?_;refine⟨by simp only[true_and, *],?_⟩
 conv=>whnf
 simp only[UH,aau,Uc, *];refine⟨by decide,?_⟩;refine⟨by decide,?_⟩
 conv=>whnf
 simp only[*];refine⟨by decide,?_⟩;refine ah ?_;refine gU ?_;simp only[true_and, *];refine⟨‹_›,?_⟩;refine⟨ar (by exact ai [Ug (α:=Nat) ([]++[103]++[46]++eH ↑(Ug T)),Ug (α:=Nat) (eH ↑(Ug T))] X0 am X0 (((N0.a (N0.a N1)).a (N0.a N1)).a X1) X1 (Ar.n 10) fu z5 rfl),ar (by exact ai [Ug (α:=Nat) ([]++[103]++[46]++eH ↑(Ug T)),Ug (α:=Nat) (eH ↑(Ug T))] X0 am X0 (((N0.a (N0.a N1)).a (N0.a N1)).a X1) X1 (Ar.n 10) fu z5 rfl),wI λa h5 ha=>?_⟩;have O:=G.ok.add (e:=⟨a,[103,46]++eH T.length,TT⟩) (G.fresh ha) h5 (λh=>by exact bf h);simp only[UC,if_false]at O;have q':=q (T++[⟨a,[103,46]++eH T.length,TT⟩]) (ag M rw (.list (eu 0 T++[aW a T.length ([103,46]++eH T.length)]))) a T.length ([103,46]++eH T.length) ⟨?_,?_,?_,O⟩ ⟨_,rfl⟩ ?_ (by simp) (by simp;assumption)
 ·clear q;refine ah ?_;refine aN ?_;refine aO ?_;refine aP ?_;refine⟨z1,?_⟩
  conv=>whnf
  simp only[br, *];assumption
 ·rw[ak,if_neg Mx];exact h1
 ·rw[ak,if_pos rfl,qS];simp
 ·rw[ak,if_neg n3,qT];simpa using h3
 ·exact Kp.put (.head _)
end
section
noncomputable def QL:List (List Nat×List Nat):=[([39],[113,117,111,116,101]),([96],[113,117,97,115,105,113,117,111,116,101]),([44],[117,110,113,117,111,116,101]),([44,64],[117,110,113,117,111,116,101,45,115,112,108,105,99,105,110,103])]
def gh(kf:Nat)(T:au)(x:V)(hit:List Nat->Bool):Prop:=∀T' l a k,aE T T'->dP kf T'->T'[k]? =TR ⟨a,l,TV⟩->c6 x (aW a k l)=TR (hit l)
theorem IG{T:au}{l:List Nat}(h:T[k]? =TR ⟨a,l,i⟩):gh kf T (aW a k l) (λm=>i&&decide (l=m)):=by
 intro T' m b j e O hm;have h':=e.at h;show TR (decide (a=b))=_
 congr 1
 by_cases q:a=b
 ·have:=(O.addr h' hm q).2;cases this;simp[q]
 ·refine(decide_eq_false q).symm▸?_;symm;rw[Bool.and_eq_false_iff];induction i with
  |false=>exact .inl rfl
  |true=>right;rw[decide_eq_false_iff_not];rintro rfl;exact q (O.one h' hm).1
theorem gh.ext{T T':au}(h:gh kf T x hit)(e:aE T T'):gh kf T' x hit:=λNl l a k e' O q=>h Nl l a k (e.trans e') O q
variable[HasP]
variable{n:Nat}{M:aa}{Q:PQ}{E:PE}
noncomputable def xw:List XS:=[.ite (.cmp .Is (.attr (.loc 114) 25) (.meth (.loc 101) 157 [(.loc 47)])) [.ret (.loc 70)] []]
noncomputable def fK(qs:List (List Nat×List Nat))(hit:List Nat->Bool):Option (List Nat):=match qs with
 | []=>TW
 |p::r=>if hit p.2=TV then TR p.1 else fK r hit
theorem xx:fK (p::r) hit=if hit p.2=TV then TR p.1 else fK r hit:=rfl
theorem xy{K:PK}{T:au}(hk:kf<=100)(nb:aY x=TV)(H:gh kf T x hit):∀(qs:List (List Nat×List Nat)) (T1:au) (M1:aa) (ρ:af),(∀p∈qs,p.2∈ew)->TG tb rw di kf T1 M1->aE T T1->aak ρ 114=TR (aB x y)->aak ρ 101=TR (.ref tb)->(∀T' M' ρ,TG tb rw di kf T' M'->aE T T'->Kp [rw,di] M1 M'->match fK qs hit with|some t=>K (.ret (.str t)) ρ M'|none=>K .next ρ M')->Fo (n+4) (gM [70,47]) xw K E (qs.map λp=>.tup [.str p.1,.str p.2]) ρ M1
 | [],T1,M1,ρ,hq,G,e,h1,h2,q=>eq (q T1 M1 ρ G e .refl)
 |p::qs,T1,M1,ρ,hq,G,e,h1,h2,q=>by
  refine dB (ρ1:=cJ ρ [70,47] [.str p.1,.str p.2]) rfl ?_;unfold xw;have g1:=G.tbl;have q0:=q;clear q
  conv=>whnf
  simp only[ak,bR,bS, *]
  conv=>whnf
  refine dW ?_;refine bM ?_;refine aK ?_;refine a0 (o:=aak _ _) (by simp only[ak,reduceIte, *]<;>rfl) ?_;refine jx G hk (hq p (.head _)) λT' M' a k G' e' k' Lc=>?_
  have hh:=H T' p.2 a k (e.trans e') G'.ok Lc;cases hb:hit p.2 with
  |true=>rw[hb]at hh;refine ac ?_;refine a0 (o:=aak _ _) (by simp only[ak,reduceIte, *]<;>rfl) ?_;have:=q0 T' M' (ag (ag ρ 70 (.str p.1)) 47 (.str p.2)) G' (e.trans e') k';rw[xx]at this;rw[if_pos hb]at this;exact this
  |false=>
   rw[hb]at hh;refine ac ?_;refine xy (y:=y) hk nb H qs T' M' _ (λp hp=>hq p (.tail _ hp)) G' (e.trans e') (by exact(aS rfl).trans ((aS rfl).trans h1)) (by exact(aS rfl).trans ((aS rfl).trans h2)) λNl Ma ρ SK SL SM=>?_
   have:=q0 Nl Ma ρ SK SL (k'.trans SM);rw[xx]at this;rw[if_neg (by rw[hb];decide)]at this;exact this
theorem xz{T:au}(G:TG tb rw di kf T M)(hk:kf<=100)(nb:aY x=TV)(H:gh kf T x hit)(q:∀T' M',TG tb rw di kf T' M'->aE T T'->Kp [rw,di] M M'->Q (match fK QL hit with|some t=>.str t|none=>.none) M'):CT (n+5) (.ref 1143) [aB x (aB u aH),.ref tb] M Q E:=by
 refine ax qt (ks:=[114,101]) ?_;refine xy (x:=x) (y:=aB u aH) hk nb H QL T M _ (by decide) G .refl rfl rfl λT' M' ρ G' e' k'=>?_
 have:=q T' M' G' e' k';cases hr:fK QL hit with
 |some t=>rw[hr]at this;exact this
 |none=>rw[hr]at this;exact this
theorem IH(hw:c6 w aH=TR TT)(nw:aY w=TV)(q:Q .none M):CT (n+5) (.ref 1143) [aB x (aB u w),.ref tb] M Q E:=by refine ax qt (ks:=[114,101]) ?_;refine dW ?_;refine a0 (o:=bA _ _ _ _) (by simp only[UL,bA,cT, *]<;>rfl) ?_;exact q
theorem II(hy:aD M y (.ref 155)=TR TT)(ny:aY y=TV)(q:Q .none M):CT (n+5) (.ref 1143) [aB x y,.ref tb] M Q E:=by refine ax qt (ks:=[114,101]) ?_;refine dW ?_;refine ac ?_;exact q
structure ey where
 W:Bool
 R:Nat
 lim:V
 tab:V
 pc:TX
 wt:TX
noncomputable def bB(F:ey)(len:Nat):List (Nat×V):=[(262,.bool F.W),(235,.int 53),(140,.int F.R),(134,F.lim),(101,F.tab),(169,.ref F.pc),(155,.int len),(187,.ref F.wt)]
inductive AT(W:Bool)(R:Nat):V->List Nat->Prop
 |bool (b:Bool):AT W R (.bool b) (if b=TV then[35,116]else[35,102])
 |emp:AT W R aH [40,41]
 |sym {a k:Nat} {l:List Nat} (h:53<a):AT W R (aW a k l) l
 |txtW {l:List Nat} (h:W=TV) (hz:l.length<=10) (hc:∀c∈l,c<=0x10FFFF):AT W R (fb l) ([34]++l.flatMap eO++[34])
 |txtD {l:List Nat} (h:W=TT) (hz:l.length<=10) (hc:∀c∈l,c<=0x10FFFF):AT W R (fb l) l
 |chrW {c:Nat} (h:W=TV) (hc:c<=0x10FFFF):AT W R (dC c) (dY c)
 |chrD {c:Nat} (h:W=TT) (hc:c<=0x10FFFF):AT W R (dC c) [c]
 |spc {a:TX} {l:List Nat} (h:a≠44) (hl:l.length<=100):AT W R (.ido a 38 [(104,.str l)]) ([35,60]++l++[62])
 |odd {c:TX} {fs:List (Nat×V)} {t:List Nat} (h:eP (.obj c fs) t):AT W R (.obj c fs) t
 |int {i:Int} (h:i.natAbs<2^64):AT W R (.int i) (nt R i)
 |rat {t b:Int} (ht:t.natAbs<2^64) (hb:b.natAbs<2^64):AT W R (eM t b) (nt R t++[47]++nt R b)
theorem gi(h:eP (.obj c fs) t):aD M (.obj c fs) (.ty "bool")=TR TT/\aD M (.obj c fs) (.ref 71)=TR TT/\aD M (.obj c fs) (.ref 197)=TR TT/\aD M (.obj c fs) (.ref 176)=TR TT/\c≠38/\ aD M (.obj c fs) (.ref 155)=TR TT/\aD M (.obj c fs) (.ref 218)=TR TT/\c≠71:=by cases h<;>exact⟨rfl,rfl,rfl,rfl,by decide,rfl,rfl,by decide⟩
set_option tactic.hygienic true in
theorem IJ{len:Nat}{pr:TX}{v:V}(hr:2<=F.R)(K4:F.R<=16)(hp:aak M pr=TR (.inst 1230 (bB F len)))(h:AT F.W F.R v t)(q:∀M',Kp [] M M'->Q (.str t) M'):CT (n+6) (.ref 1227) [.ref pr,v] M Q E:=by
 refine ax GK (ks:=[57,111]) ?_;unfold bB at hp;obtain⟨W,R,lim,tab,pc,wt⟩:=F;dsimp only at hr K4 hp h;revert q;cases h with
 |bool b=>intro q;have q0:=q M .refl;refine fc (b:=TV) rfl ?_;cases b<;>exact q0
 |emp=>intro q;have q0:=q M .refl;exact fc (b:=TT) rfl q0
 |sym h=>
  intro q;have q0:=q M .refl;rename_i a k;have e1:¬(a=44):=by exact UO (ab [_] ((Ar.n 44).a N1) X0 ((Ar.n 53).a N1) X0 h rfl)
  refine fc (b:=TT) rfl ?_;refine bv ?_;exact q0
 |txtW h hz hc=>intro q;have q0:=q M .refl;subst h;refine fc (b:=TT) rfl ?_;refine ah ?_;refine bG ?_;exact Iy (by exact ab [_] X0 (Ar.n 1000) X0 (Ar.n 10) hz rfl) hc q
 |txtD h hz hc=>intro q;have q0:=q M .refl;subst h;refine fc (b:=TT) rfl ?_;refine ah ?_;refine bG ?_;exact wP (by exact ab [_] X0 (Ar.n 16777216) X0 (Ar.n 10) hz rfl) hc q0
 |chrW h hc=>intro q;have q0:=q M .refl;subst h;refine fc (b:=TT) rfl ?_;refine ah ?_;refine bG ?_;exact Ix hc q0
 |chrD h hc=>intro q;have q0:=q M .refl;subst h;refine fc (b:=TT) rfl ?_;refine ah ?_;simp only[Vf, *];exact⟨by exact dp (a:=0) (aw [_] N0 X0 rfl),by exact dp (b:=1114111) (ab [_] X0 (Ar.n 1114111) X0 (Ar.n 1114111) hc rfl),q0⟩
 |spc h hl=>intro q;have q0:=q M .refl;refine fc (b:=TT) rfl ?_;refine bv ?_;refine bG ?_;exact qQ (.spc hl) q0
 |odd h=>
  intro q;have q0:=q M .refl;rename_i c fs;obtain⟨e0,e1,e2,e3,e4,-,-,-⟩:=gi (M:=M) h;have e5:c6 (.obj c fs) aH=TR TT:=if_neg e4;refine fc e0 ?_
  conv=>whnf
  refine ac ?_;refine ac ?_
  conv=>whnf
  refine ac ?_
  conv=>whnf
  refine ac ?_;refine bG ?_;exact qQ h q0
 |int h=>intro q;have q0:=q M .refl;refine fc (b:=TT) rfl ?_;refine qP rfl rfl rfl rfl rfl ?_;refine ah ?_;refine ah ?_;refine bG ?_;exact Ig hr K4 h q
 |rat ht hb=>intro q;have q0:=q M .refl;refine fc (b:=TT) rfl ?_;refine qP rfl rfl rfl rfl rfl ?_;refine ah ?_;refine ah ?_;refine bG ?_;exact Ih hr K4 ht hb q
end
section
variable[HasP]
open PySem.Builtin PySem.Builtin.ObjectAttr
noncomputable abbrev qV:ClassData:={name:=so "TooLong",bases:=[.ref 367],mro:=[.ref 425,.ref 367,.type "Exception",.type "BaseException",.type "object"],ns:=424,qualname:=so "TooLong",hasDict:=TV,slotNames:=[],subclasses:=[],abstract:=TT,collection:=TW,hasDel:=TT}
theorem kP(P:Ur):clsIn (KW P) 425=TR qV:=by kernel_rfl
section
variable{prog:VQ}{w:U4}{A:UT}{R:Result->aav->Prop}{s:aav}{x:TX}{P:Ur}
theorem xA{v:TZ}(X:(KW P).In s.heap)(I:InstAt s.heap x ox 425 od)(ht:WE (KW P) 425 name=TR TW)(h:∀b,Uh (Uj prog w) A.in1 (storeInOwnDict (.ref x) (.ref 425) (.str name tk) name v b) (λfin s'=>match fin with| .done f=>R (.ok f) s'| .again c'=>c'.quiet=TV/\Vc (Uj prog w) A c' R s') (λe s'=>R (.error e) s') s):Vc (Uj prog w) A (.call (.builtin "object.__setattr__") ⟨[.ref x,.str name tk,v],[]⟩) R s:=by
 have SF:=PySem.F.store_object;have hc:=kP P;have sub:Looks (Uj prog w) s.heap (isInstance (.ref x) (.type "object")) TV:=I.type.andThen (looks_mroIn X (by kernel_rfl));refine codeAny_call_builtin SF.slot.plain SF.entry (@check_slot (Uj prog w) _ _ s "object.__setattr__" "object" "__setattr__" (.ref x) [.str name tk,v] [] _ SF.kind SF.split sub (SF.args (.ref x) (.str name tk) v) ?_);obtain⟨attr,ha,hr⟩:=Option.bind_eq_some_iff.mp ht;have hm:Looks (Uj prog w) s.heap (mroOf (.ref 425)) qV.mro:=(looks_clsIn X hc).andThen .now;have L3:Looks (Uj prog w) s.heap (storeTaker? attr) TW:=by
  induction attr with
  |none=>cases hr;exact .now
  |some a=>
   obtain⟨b,hb,hr⟩:=Option.map_eq_some_iff.mp hr;refine(looks_takesIn X hb).andThen ?_;induction b
   ·exact .now
   ·exact ns hr
 rw[osa_eq,refuse_eq];refine wpAny_bind (wpAny_bind (I.type.here (wpAny_bind (hm.here ?_))));rw[refuseLoop_ref,refuseLoop_ref,PySem.F.store_Exception.passes];refine wpAny_pure (wpAny_bind (I.type.here (wpAny_bind ((looks_findIn X ha).here (wpAny_bind (L3.here ?_))))));exact h _
end
section
variable{prog:VQ}{w:U4}{A:UT}{E:TZ->aav->Prop}{R:Result->aav->Prop}{s:aav}{x:TX}{P:Ur}
theorem xB{v:TZ}(D:s.heap.get? dx=TR od)(q:od.data=.dict es n)(hk:es.any (·.refKey)=TT)(hz:(putB name (Uo w.params name) (.str name s.toks) v es).size<=1000)(h:Q (.done (.ret .none)) {s with heap:=s.heap.update dx (Vh name (Uo w.params name) (.str name s.toks) v),toks:=s.toks+1}):Uh (Uj prog w) A (storeInDict dx (.str name tk) name v) Q E s:=by
 obtain⟨n',e'⟩:=kj name (Uo w.params name) (.str name s.toks) v od es n q;have D':(s.heap.update dx (Vh name (Uo w.params name) (.str name s.toks) v)).get? dx=TR (Vh name (Uo w.params name) (.str name s.toks) v od):=UF _ D (by rw[e'];rfl);unfold storeInDict newKeyGuard;refine wpAny_bind (wpAny_pure (wpAny_bind ?_));unfold nsSet;refine wpAny_bind (wpAny_bind (wpAny_askSetting (wpAny_pure (wpAny_bind (wpAny_mkText (wpAny_bind (wpAny_loadPart D ?_)))))));rw[q];dsimp only;have c:(!es.any (·.key.isStr name)&&es.any (·.refKey))=TT:=by rw[hk,WY]
 rw[aRefKeyMayBeTheName_at,c];refine wpAny_updatePart D ?_;refine wpAny_bind (wpAny_lookBehind D' (by rw[e'];exact pastItsLine_dict (UI hz (by rw[sizeLine_eq];exact aw [] (Ar.n 1000) ((Ar.n 16777216).a N1) rfl))) ?_);exact wpAny_pure h
theorem IK{v:TZ}(X:(KW P).In s.heap)(I:InstAt s.heap x ox 425 (TR od))(hd:ox.dict=TR dx)(ht:WE (KW P) 425 name=TR TW)(D:s.heap.get? dx=TR od)(q:od.data=.dict es n)(hk:es.any (·.refKey)=TT)(hz:(putB name (Uo w.params name) (.str name s.toks) v es).size<=1000)(h:R (.ok (.ret .none)) {s with heap:=s.heap.update dx (Vh name (Uo w.params name) (.str name s.toks) v),toks:=s.toks+1}):Vc (Uj prog w) A (.call (.builtin "object.__setattr__") ⟨[.ref x,.str name tk,v],[]⟩) R s:=by
 refine xA X I ht λb=>?_
 obtain⟨hx,MQ,hn,-⟩:=I;obtain⟨oc,Rv,Oz,PO⟩:=ox;dsimp only at MQ hd;subst MQ hd;refine wpAny_bind (wpAny_pure (wpAny_bind (wpAny_bind (wpAny_loadPart hx (wpAny_bind ((looks_clsIn X (kP P)).here ?_))))));refine wpAny_pure (a:=TR dx) ?_;exact xB D q hk hz h
theorem IM{v:TZ}(X:(KW P).In s.heap)(hx:s.heap.get? x=TR {cls:=.ref 425,data:=.fields vs})(ht:WE (KW P) 425 name=TR TW)(h:∀h' n',h'.get? x=TR {cls:=.ref 425,dict:=TR s.heap.objs.size,data:=.fields vs}->h'.get? s.heap.objs.size=TR {cls:=.type "dict",data:=.dict #[⟨Uo w.params name,.str name s.toks,v⟩] n'}->(∀b o,b≠x->s.heap.get? b=TR o->h'.get? b=TR o)->h'.objs.size=s.heap.objs.size+1->R (.ok (.ret .none)) {s with heap:=h',toks:=s.toks+1}):Vc (Uj prog w) A (.call (.builtin "object.__setattr__") ⟨[.ref x,.str name tk,v],[]⟩) R s:=by
 refine xA X (od:=TW) ⟨hx,rfl,rfl,trivial⟩ ht λb=>?_
 refine wpAny_bind (wpAny_pure (wpAny_bind (wpAny_bind (wpAny_loadPart hx (wpAny_bind ((looks_clsIn X (kP P)).here ?_))))));have Qw:x≠s.heap.objs.size:=U7 (UB hx);have Qx:(s.heap.push {cls:=.type "dict",data:=.dict #[]}).get? x=TR {cls:=.ref 425,data:=.fields vs}:=Ua _ hx;refine wpAny_bind (wpAny_alloc' ?_);refine wpAny_bind (wpAny_update' Qx ?_);refine wpAny_pure ?_;have MI:((s.heap.push {cls:=.type "dict",data:=.dict #[]}).update x λo=>{cls:=o.cls,dict:=TR s.heap.objs.size,data:=o.data,slots:=o.slots}).get? s.heap.objs.size=TR {cls:=.type "dict",data:=.dict #[]}:=(Vv _ _ _ _ Qw.symm).trans (Heap.get?_push_at rfl rfl);have Qy:((s.heap.push {cls:=.type "dict",data:=.dict #[]}).update x λo=>{cls:=o.cls,dict:=TR s.heap.objs.size,data:=o.data,slots:=o.slots}).get? x=TR {cls:=.ref 425,dict:=TR s.heap.objs.size,data:=.fields vs}:=UF _ Qx rfl;have Lf:((s.heap.push {cls:=.type "dict",data:=.dict #[]}).update x λo=>{cls:=o.cls,dict:=TR s.heap.objs.size,data:=o.data,slots:=o.slots}).objs.size=s.heap.objs.size+1:=by rw[YN,Wz]
 have hold:∀b o,b≠x->s.heap.get? b=TR o->((s.heap.push {cls:=.type "dict",data:=.dict #[]}).update x λo=>{cls:=o.cls,dict:=TR s.heap.objs.size,data:=o.data,slots:=o.slots}).get? b=TR o:=λb o z e=>(Vv _ _ _ _ z).trans (Ua _ e)
 generalize((s.heap.push {cls:=.type "dict",data:=.dict #[]}).update x λo=>{cls:=o.cls,dict:=TR s.heap.objs.size,data:=o.data,slots:=o.slots})=h1 at MI Qy Lf hold⊢;obtain⟨n',e'⟩:=kj name (Uo w.params name) (.str name s.toks) v {cls:=.type "dict",data:=.dict #[]} #[] _ rfl;refine xB (s:={s with heap:=h1}) MI rfl (by simp) (by unfold putB;simp) ?_;refine h _ n' ((Vv _ _ _ _ Qw).trans Qy) ?_ (λb o z e=>(Vv _ _ _ _ (U7 (UB e))).trans (hold b o z e)) (by rw[YN];exact Lf);have ep:putB name (Uo w.params name) (.str name s.toks) v #[]= #[⟨Uo w.params name,.str name s.toks,v⟩]:=by unfold putB;simp
 rw[ep]at e';exact(UF _ MI (by rw[e'];rfl)).trans (congrArg TR e')
end
theorem xC(P:Ur):Vj (KW P) (.ref 425) "__setattr__"=TR (TR (.builtin "object.__setattr__")):=by kernel_rfl
def jy(B:PH)(h:Ux)(x d:TX)(vs:Array TZ)(fs:List (Nat×V)):Prop:=h.get? x=TR {cls:=.ref 425,dict:=TR d,data:=.fields vs}/\∃od es n,h.get? d=TR od/\od.data=.dict es n/\aQ B es.toList fs
section
variable{w:U4}{A:UT}{s:aav}{x d:TX}{B:PH}{E:TZ->aav->Prop}
theorem IN{v:TZ}(X:(KW w.params).In s.heap)(ok:aG name=TV)(ht:WE (KW w.params) 425 name=TR TW)(hx:s.heap.get? x=TR {cls:=.ref 425,data:=.fields vs})(hv:VR B v r)(q:∀h' tk,jy B h' x s.heap.objs.size vs [(nc name,r)]->(∀b o,b≠x->s.heap.get? b=TR o->h'.get? b=TR o)->h'.objs.size=s.heap.objs.size+1->Q () {s with heap:=h',toks:=tk}):Uh (Uj pw w) A (setAttr (.ref x) name v) Q E s:=by refine set_plain X (od:=TW) ⟨hx,rfl,rfl,trivial⟩ (xC _) (IM (s:={s with toks:=s.toks+1}) X hx ht λh' n' e1 e2 k z=>?_);exact q h' _ ⟨e1,_,_,_,e2,rfl,.cons rfl ok hv .nil⟩ k z
theorem xD{v:TZ}(X:(KW w.params).In s.heap)(ok:aG name=TV)(ht:WE (KW w.params) 425 name=TR TW)(hx:jy B s.heap x d vs fs)(hz:fs.length<=10)(hv:VR B v r)(q:∀h' tk,jy B h' x d vs (ag fs (nc name) r)->(∀b o,b≠d->s.heap.get? b=TR o->h'.get? b=TR o)->Q () {s with heap:=h',toks:=tk}):Uh (Uj pw w) A (setAttr (.ref x) name v) Q E s:=by
 obtain⟨e,od,es,n,e2,La,hf⟩:=hx;have Ms:=hf.putB (hh:=Uo w.params name) (t:=s.toks+1) ok hv;have Lf:(putB name (Uo w.params name) (.str name (s.toks+1)) v es).size<=1000:=by have:=Ms.length;rw[Yb]at this;have:=uE fs (nc name) r;exact bU [_,_,_] X0 (Ar.n 1000) X0 X1 X1 bC X2 (Ar.n 10) (eL (by assumption)) this hz rfl
 have OL:es.any (·.refKey)=TT:=by rw[<-Xk];exact hf.keys
 have ne:x≠d:=λz=>by rw[z,e2]at e;obtain rfl:=TU e;cases La
 obtain⟨n2,e3⟩:=kj name (Uo w.params name) (.str name (s.toks+1)) v od es n La;have D':(s.heap.update d (Vh name (Uo w.params name) (.str name (s.toks+1)) v)).get? d=TR (Vh name (Uo w.params name) (.str name (s.toks+1)) v od):=UF _ e2 (by rw[e3];rfl);refine set_plain X (od:=TR od) ⟨e,rfl,rfl,e2⟩ (xC _) (IK (s:={s with toks:=s.toks+1}) X ⟨e,rfl,rfl,e2⟩ rfl ht e2 La OL Lf ?_);rw[e3]at D';exact q _ _ ⟨(Vv _ _ _ _ ne).trans e,_,_,_,D',rfl,Ms⟩ λb o z h=>(Vv _ _ _ _ z).trans h
theorem xE(ok:FnOk0 f F k [])(G:Gr w base)(X:(KW w.params).In s.heap)(Lw:∀a o,base.get? a=TR o->s.heap.get? a=TR o)(room:A.depth<recursionLimit)(hl:vs.length=k)(h:∀h₀ env,env.scope=bq F.st->env.globals=U9->env.builtins=WC->env.locals=s.heap.objs.size->env.scope.kind=.function->h₀.Ns s.heap.objs.size (λx=>((F.ps.map so).zip vs).reverse.lookup x)->(∀b o,s.heap.get? b=TR o->h₀.get? b=TR o)->Uh (Uj pw w) (A.deeper env) (execs (bD F.st) env) (λf s'=>R (.ok (.ret (match f with| .ret v=>v|_=>.none))) s') (λ_ _=>False) {s with heap:=h₀,toks:=s.toks+((F.ps.map so).zip vs).length}):Vc (Uj pw w) A (.call (.ref f) ⟨vs,[]⟩) R s:=by
 have LT:=ok.flags;unfold fB at LT;simp only[Uq,V0,decide_eq_true_eq]at LT;obtain⟨⟨⟨⟨⟨f1,f2⟩,f3⟩,f4⟩,f5⟩,f6⟩:=LT;obtain⟨dv,Ob,hb⟩:=ok.bind w.params base G.inn vs hl;induction Ob;rw[Xy]at hb;refine(codeAny_call_def (fd:=F.fd) (binds:=(F.ps.map so).zip vs) room (X _ _ (ok.look _)) rfl (G.nolimit.keeps Lw) (codeRec_of X (ok.code _)) rfl (hb s Lw) (λx hx=>of_decide_eq_true (List.all_eq_true.mp f4 x hx)) (λy hy=>?_) (λh₀ Lj hk=>?_) f1 f2 f3)
 ·obtain⟨a,b⟩:=y;obtain⟨p,hp,rfl⟩:=List.mem_map.mp (Y1 hy).1;have:=List.all_eq_true.mp f5 p hp;rw[Uq,decide_eq_true_eq]at this;exact this.2
 ·exact wpAny_mono (h h₀ (callEnv F.fd s.heap.objs.size f) rfl rfl rfl rfl f3 Lj hk) (λ_ _ z=>z) λ_ _ z=>z.elim
noncomputable abbrev m8:U5:=eY (bD (aJ 23 0)) 0
noncomputable abbrev m9:U5:=eY (bD (aJ 23 0)) 1
theorem IO:bD (aJ 23 0)=[.Assign [.Attribute (.Name (so "self") (dy (gH m8)).pos) (so "word") (gH m8).pos] (.Name (so "word") (gG m8).pos) m8.pos,.Assign [.Attribute (.Name (so "self") (dy (gH m9)).pos) (so "irritants") (gH m9).pos] (.Name (so "irritants") (gG m9).pos) m9.pos]:=by kernel_rfl
theorem qW:(bq (aJ 23 0)).names=[(so "self",.local),(so "word",.local),(so "irritants",.local)]:=by kernel_rfl
theorem IP(P:Ur):WE (KW P) 425 (so "word")=TR TW:=by kernel_rfl
theorem IQ(P:Ur):WE (KW P) 425 (so "irritants")=TR TW:=by kernel_rfl
theorem IR(P:Ur):WE (KW P) 425 (so "limit")=TR TW:=by kernel_rfl
theorem IS(G:Gr w base)(X:(KW w.params).In s.heap)(Lw:∀a o,base.get? a=TR o->s.heap.get? a=TR o)(hb:base.get? x=TW)(room:A.depth<recursionLimit)(hx:s.heap.get? x=TR {cls:=.ref 425,data:=.fields vs})(h1:VR B vw rw)(h2:VR B vi ri)(q:∀h' tk d,jy B h' x d vs [(nc (so "word"),rw),(nc (so "irritants"),ri)]->s.heap.get? d=TW->(∀b o,b≠x->s.heap.get? b=TR o->h'.get? b=TR o)->R (.ok (.ret .none)) {s with heap:=h',toks:=tk}):Vc (Uj pw w) A (.call (.ref 364) ⟨[.ref x,vw,vi],[]⟩) R s:=by
 refine xE FM.toFnOk0 G X Lw room rfl λh₀ env K0 hg Qz hL hk Lj k=>?_
 refine(show bD iM.st=bD (aJ 23 0) from rfl).symm▸?_;refine(IO).symm▸?_;have l1:env.kindOf (so "self")=TR .local:=by unfold Vu;rw[K0,show iM.st=aJ 23 0 from rfl,qW];kernel_rfl
 have l2:env.kindOf (so "word")=TR .local:=by unfold Vu;rw[K0,show iM.st=aJ 23 0 from rfl,qW];kernel_rfl
 have l3:env.kindOf (so "irritants")=TR .local:=by unfold Vu;rw[K0,show iM.st=aJ 23 0 from rfl,qW];kernel_rfl
 rw[<-hL]at Lj;have nx:env.locals≠x:=λz=>U7 (UB hx) (by rw[<-z,hL])
 have X0:(KW w.params).In h₀:=λa o e=>k a o (X a o e)
 have bx:∀{a o},(KW w.params).lookup a=TR o->a≠x:=λe z=>by have:=G.inn _ _ e;rw[z,hb]at this;exact nn this
 refine wpAny_execs_cons (plainObj_wpAny_Assign_Attribute (wpAny_Name (wpAny_loadName_local hk l2 Lj (v:=vw) (by kernel_rfl) ?_) (by decide)) rfl);refine wpAny_Name (wpAny_loadName_local hk l1 Lj (v:=.ref x) (by kernel_rfl) ?_) (by decide);refine IN (s:={s with heap:=h₀,toks:=_}) (B:=B) (r:=rw) X0 (by kernel_rfl) (IP _) (k _ _ hx) h1 λh' tk E1 k1 z1=>?_
 have QA:h'.Ns env.locals _:=Lj.at' λo e=>k1 _ o nx e
 have X1:(KW w.params).In h':=λa o e=>k1 a o (bx e) (X0 a o e)
 refine wpAny_execs_cons (plainObj_wpAny_Assign_Attribute (wpAny_Name (wpAny_loadName_local hk l3 QA (v:=vi) (by kernel_rfl) ?_) (by decide)) rfl);refine wpAny_Name (wpAny_loadName_local hk l1 QA (v:=.ref x) (by kernel_rfl) ?_) (by decide);have gd:h₀.get? h₀.objs.size=TW:=cv h₀;refine xD (s:={s with heap:=h',toks:=tk}) (r:=ri) X1 (by kernel_rfl) (IQ _) E1 (by exact TY _) h2 λh2 MH E2 k2=>?_
 refine wpAny_execs_nil ?_;have Nn:nc (so "word")≠nc (so "irritants"):=by decide
 have el:ag [(nc (so "word"),rw)] (nc (so "irritants")) ri=[(nc (so "word"),rw),(nc (so "irritants"),ri)]:=by simp only[dJ,gy,if_neg Nn]
 rw[el]at E2;refine q h2 MH _ E2 ?_ λb o z e=>k2 b o (λy=>?_) (k1 b o z (k b o e))
 ·cases e:s.heap.get? h₀.objs.size with
  |none=>rfl
  |some o=>have:=k _ _ e;rw[gd]at this;exact nn this
 ·rw[y]at e;have:=k _ _ e;rw[gd]at this;exact nn this
end
theorem IT(P:Ur):keepIn (KW P) (.ref 364)=TV:=by kernel_rfl
noncomputable abbrev xF:U5:=eY (bD (aJ 26 0)) 0
noncomputable abbrev nf:U5:=eY (bD (aJ 26 0)) 1
noncomputable abbrev gX:Up:=gG xF
noncomputable def dD:Nat->Pos
 |0=>(dy (dy gX)).pos
 |1=>(dy gX).pos
 |2=>(kd gX 0).pos
 |3=>(kd gX 1).pos
 |4=>(kd (kd gX 2) 0).pos
 |5=>(kd gX 2).pos
 |_=>gX.pos
noncomputable def xG:Nat:=tG (kd gX 1)
theorem IU:bD (aJ 26 0)=[.Expr (.Call (.Attribute (.Name (so "SchemeError") (dD 0)) (so "__init__") (dD 1)) [.Name (so "self") (dD 2),.Constant (.str (so "TooLong")) xG (dD 3),.List [.Name (so "limit") (dD 4)] (dD 5)] [] (dD 6)) xF.pos,.Assign [.Attribute (.Name (so "self") (dy (gH nf)).pos) (so "limit") (gH nf).pos] (.Name (so "limit") (gG nf).pos) nf.pos]:=by kernel_rfl
theorem IV:((dD 1).endLine==(dD 6).line)=TV:=by kernel_rfl
theorem kQ:(bq (aJ 26 0)).names=[(so "self",.local),(so "limit",.local),(so "SchemeError",.globalImplicit)]:=by kernel_rfl
section
variable{w:U4}{A:UT}{s:aav}{x:TX}{B:PH}
theorem IW{base:Ux}{vs:Array TZ}{v:TZ}{r:V}{R:Result->aav->Prop}(G:Gr w base)(X:(KW w.params).In s.heap)(Lw:∀a o,base.get? a=TR o->s.heap.get? a=TR o)(hb:base.get? x=TW)(room:A.depth+1<recursionLimit)(hx:s.heap.get? x=TR {cls:=.ref 425,data:=.fields vs})(hv:VR B v r)(hB:∀a o,B a=TR o->s.heap.get? a=TR o)(q:∀h' tk d l,jy (aZ B l (bk #[v] 0)) h' x d vs [(nc (so "word"),.str (so "TooLong").cps.toList),(nc (so "irritants"),.lst [r]),(nc (so "limit"),r)]->s.heap.get? d=TW->s.heap.get? l=TW->h'.get? l=TR (bk #[v] 0)->(∀b o,b≠x->s.heap.get? b=TR o->h'.get? b=TR o)->R (.ok (.ret .none)) {s with heap:=h',toks:=tk}):Vc (Uj pw w) A (.call (.ref 422) ⟨[.ref x,v],[]⟩) R s:=by
 refine xE FN.toFnOk0 G X Lw (by exact Uy (by assumption)) rfl λh₀ env K0 hg Qz hL hk Lj k=>?_
 have LM:=IV;have O4:=IU;generalize xG=q4 at O4;generalize dD 0=q1,dD 1=ap,dD 2=q3,dD 3=q5,dD 4=q6,dD 5=q7,dD 6=p at O4 LM;refine(show bD iN.st=bD (aJ 26 0) from rfl).symm▸?_;refine(O4).symm▸?_;have l1:env.kindOf (so "self")=TR .local:=by unfold Vu;rw[K0,show iN.st=aJ 26 0 from rfl,kQ];kernel_rfl
 have l2:env.kindOf (so "limit")=TR .local:=by unfold Vu;rw[K0,show iN.st=aJ 26 0 from rfl,kQ];kernel_rfl
 have l3:env.kindOf (so "SchemeError")=TR .globalImplicit:=by unfold Vu;rw[K0,show iN.st=aJ 26 0 from rfl,kQ];kernel_rfl
 rw[<-hL]at Lj;have nx:env.locals≠x:=λz=>U7 (UB hx) (by rw[<-z,hL])
 have X0:(KW w.params).In h₀:=λa o e=>k a o (X a o e)
 have bx:∀{a o},(KW w.params).lookup a=TR o->a≠x:=λe z=>by have:=G.inn _ _ e;rw[z,hb]at this;exact nn this
 have QB:∀a o,base.get? a=TR o->h₀.get? a=TR o:=λa o e=>k a o (Lw a o e)
 refine wpAny_execs_cons (wpAny_Expr_any ?_ (by unfold interactive;rw[hk];rfl) (ig rfl));refine(show Uh _ _ (do
  let ov<-attributeBase (.Name (so "SchemeError") q1) (so "__init__") env (eval (.Name (so "SchemeError") q1) env)
  standAt ap.atName
  methodCall (.Name (so "SchemeError") q1) (so "__init__") ap p env ov (3+0) (VP p (U1 [.Name (so "self") q3,.Constant (.str (so "TooLong")) q4 q5,.List [.Name (so "limit") q6] q7] env)) []) _ _ _ from ?_)
 rw[iZ rfl];refine wpAny_bind (Name_function_global hk l3 (hZ G (id:=so "SchemeError") (v:=.ref 367) (by kernel_rfl) (by kernel_rfl) hg Qz QB λval O5=>?_) (by decide));induction O5;refine wpAny_bind (wpAny_standAt ?_);have hs:Ts gt (bq (aJ 26 0)) [.Name (so "self") q3,.Constant (.str (so "TooLong")) q4 q5,.List [.Name (so "limit") q6] q7] [.loc (nc (so "self")),.cst (.str (so "TooLong").cps.toList),.lst [.loc (nc (so "limit"))]]:=.cons rfl (.loc (by rw[kQ];kernel_rfl) (by kernel_rfl)) (.cons rfl .cStr (.cons rfl (.lst (.cons rfl (.loc (by rw[kQ];kernel_rfl) (by kernel_rfl)) .nil)) .nil));have few:Vy (3+0) (VP p (U1 [.Name (so "self") q3,.Constant (.str (so "TooLong")) q4 q5,.List [.Name (so "limit") q6] q7] env)) []=TV:=by unfold Vy;rw[(hs.plain env p).2];simp
 unfold methodCall;refine(few).symm▸?_;refine wpAny_bind (wpAny_holding ?_);refine(show Uh _ _ (getMethod (.ref 367) (so "__init__") _) _ _ _ from ?_);have z:=List.all_eq_true.mp (ve w.params) (367,364) (by decide);unfold pH at z;rw[Uq]at z;obtain⟨z1,z2⟩:=z;have SN:XT (KW w.params) (.ref 367) "__getattribute__"=TR (TR (.builtin "type.__getattribute__")):=by exact of_decide_eq_true z1
 obtain⟨mc,Tw,z2⟩:=vc z2;rw[Uq]at z2;obtain⟨z2,z3⟩:=z2;have hf:findCls (KW w.params) (.ref 367) mc "__init__"=TR (.val (.ref 364)):=u8 z3;refine method_cls X0 SN (cls_value X0 z2 hf rfl ?_);dsimp only;have LZ:Vq TV (.Name (so "SchemeError") q1) env ap p=pure p:=by unfold Vq;refine(LM).symm▸?_;rfl
 refine(LZ).symm▸?_;refine wpAny_bind (wpAny_pure ?_);refine j6 (P:=(KW w.params).In) hs (λh X=>keeps_K (IT _) h X) ?_;refine U3 ?_;refine wpAny_Name (wpAny_loadName_local hk l1 Lj (v:=.ref x) (by kernel_rfl) ?_) (by decide);refine U3 ?_;refine wpAny_mkText ?_;refine U3 ?_;refine wpAny_List ?_;refine U3 ?_;refine wpAny_Name (wpAny_loadName_local hk l2 Lj (v:=v) (by kernel_rfl) ?_) (by decide);refine VY ?_;have g0:∀{b o},s.heap.get? b=TR o->b≠h₀.objs.size:=λe z=>by have:=k _ _ e;rw[z,cv]at this;exact nn this
 have fl:B h₀.objs.size=TW:=by
  cases e:B h₀.objs.size with
  |none=>rfl
  |some o=>exact absurd rfl (g0 (hB _ _ e))
 have le:=eZ (o:=bk #[v] 0) fl;have up:∀{b o},h₀.get? b=TR o->(h₀.push {cls:=.type "list",data:=.seq [v].toArray}).get? b=TR o:=λe=>Ua _ e
 refine⟨by rw[sizeLine_eq];simp,VY ⟨λa o e=>up (X0 a o e),wpAny_call ?_⟩⟩;refine IS (B:=aZ B h₀.objs.size (bk #[v] 0)) (rw:=.str (so "TooLong").cps.toList) (ri:=.lst [r]) G (λa o e=>up (X0 a o e)) (λa o e=>up (QB a o e)) hb room (up (k _ _ hx)) (.str _ _) (.lst (n:=0) eE (.cons (hv.mono le) .nil)) λh' tk d E1 gd k1=>?_
 have Nn:h'.Ns env.locals _:=Lj.at' λo e=>k1 _ o nx (up e)
 have X2:(KW w.params).In h':=λa o e=>k1 a o (bx e) (up (X0 a o e))
 refine wpAny_execs_cons (plainObj_wpAny_Assign_Attribute (wpAny_Name (wpAny_loadName_local hk l2 Nn (v:=v) (by kernel_rfl) ?_) (by decide)) rfl);refine wpAny_Name (wpAny_loadName_local hk l1 Nn (v:=.ref x) (by kernel_rfl) ?_) (by decide);refine xD (s:={s with heap:=h',toks:=tk}) (B:=aZ B h₀.objs.size (bk #[v] 0)) (r:=r) X2 (by kernel_rfl) (IR _) E1 (by simp) (hv.mono le) λh2 MH E2 k2=>?_
 refine wpAny_execs_nil ?_;have m1:nc (so "word")≠nc (so "limit"):=by decide
 have m2:nc (so "irritants")≠nc (so "limit"):=by decide
 have el:ag [(nc (so "word"),V.str (so "TooLong").cps.toList),(nc (so "irritants"),.lst [r])] (nc (so "limit")) r=[(nc (so "word"),.str (so "TooLong").cps.toList),(nc (so "irritants"),.lst [r]),(nc (so "limit"),r)]:=by simp only[dJ,gy,if_neg m1,if_neg m2]
 rw[el]at E2;have gl:(h₀.push {cls:=.type "list",data:=.seq [v].toArray}).get? h₀.objs.size=TR {cls:=.type "list",data:=.seq [v].toArray}:=Ul _ rfl;have xl:h₀.objs.size≠x:=λz=>g0 hx z.symm
 have dl:h₀.objs.size≠d:=λz=>by rw[<-z,gl]at gd;exact ns gd
 have dn:∀{b o},s.heap.get? b=TR o->b≠d:=λe z=>by have:=up (k _ _ e);rw[z,gd]at this;exact nn this
 refine q h2 MH d h₀.objs.size E2 ?_ ?_ (k2 _ _ dl (k1 _ _ xl gl)) λb o z e=>k2 b o (dn e) (k1 b o z (up (k b o e)))
 ·cases e:s.heap.get? d with
  |none=>rfl
  |some o=>exact absurd rfl (dn e)
 ·cases e:s.heap.get? h₀.objs.size with
  |none=>rfl
  |some o=>exact absurd rfl (g0 e)
end
noncomputable abbrev jz:List TZ:=[.ref 367,.type "Exception",.type "BaseException",.type "object"]
noncomputable abbrev jA:Vi:=excClassObj (so "TooLong") (so "TooLong") 425 424 [.ref 367] jz TV [] [] TT TW TW (TR (.ref 409)) TW (TR (.str (so "TooLong") 736)) (TR (.str (so "TooLong") 744)) (TR (.bool TV)) "Exception.__new__"
theorem xH(P:Ur):(KW P).lookup 425=TR jA:=by kernel_rfl
section
variable{M:Model}{A:UT}{E:TZ->aav->Prop}{h:Ux}{g:Array GenState}{d:Drawn}{t:Nat}{os:OsState}
theorem IX(hC:h.get? 425=TR jA)(hq:Q () ⟨h,g,d,t,os⟩):Uh M A (checkBuiltinCall "Exception.__new__" ⟨.ref 425::rest,[]⟩) Q E ⟨h,g,d,t,os⟩:=wpAny_check_new_subU (bmB:=jz) V7 (by decide+kernel) .base hC hq
end
section
variable{prog:VQ}{w:U4}{A:UT}{R:Result->aav->Prop}{h:Ux}{g:Array GenState}{d:Drawn}{t:Nat}{os:OsState}
theorem IY(hC:h.get? 425=TR jA)(hq:R (.ok (.ret (.ref (h.objs.size+1)))) ⟨(h.push {cls:=.type "tuple",data:=.seq rest.toArray}).push {cls:=.ref 425,data:=.fields #[.ref h.objs.size,.none,.none,.none,.bool TT,.none]},g,d,t,os⟩)(Tx:rest.length<=Ub):Vc (Uj prog w) A (.builtin "Exception.__new__" ⟨.ref 425::rest,[]⟩) R ⟨h,g,d,t,os⟩:=by
 have Fn:=V7;have TA:=Fn.ends;have O6:(Vk 425::jz).contains (.type "Exception")=TV:=by decide+kernel
 have SO:(Vk 425::jz).contains (.type "AttributeError")=TT:=by decide+kernel
 have SP:(Vk 425::jz).contains (.type "NameError")=TT:=by decide+kernel
 refine codeAny_builtinAt Fn.entry ?_;unfold Builtin.«BaseException.__new__»;refine YS ?_;show PySem.wpAt _ _ _ (stack>>=_) _ _ _;refine YS (PySem.wpAt_stack λp below=>XW ?_)
 wp_walk
 refine XW ?_;refine(Fn.owner).symm▸?_
 repeat(first|with_reducible refine wpAny_madeHere_exc Fn.canon hC ?_|with_reducible refine wpAny_loadPart_at hC ?_|(with_reducible refine wpAny_isSubtype_exc hC ?_;first|rw[O6]|rw[SO]|rw[SP])|wp_step)
 show R _ _;rw[Wz];exact hq
end
theorem IZ(P:Ur):XT (KW P) (.ref 425) "__call__"=TR (TR (.builtin "type.__call__")):=by kernel_rfl
theorem I8(P:Ur):instIn (KW P) (.ref 425) (.type "type")=TR TV:=by kernel_rfl
theorem I9(P:Ur):Vj (KW P) (.ref 425) "__init__"=TR (TR (.ref 422)):=by kernel_rfl
theorem Ja(P:Ur):Y9 (KW P) (.ref 422)=TR (.type "function"):=by kernel_rfl
theorem Jb(P:Ur):mroIn (KW P) 425 (.ref 425)=TR TV:=by kernel_rfl
noncomputable abbrev gj(t:TX):Vi:={cls:=.ref 425,data:=.fields #[.ref t,.none,.none,.none,.bool TT,.none]}
section
variable{prog:VQ}{w:U4}{A:UT}{R:Result->aav->Prop}{h:Ux}{g:Array GenState}{d:Drawn}{t:Nat}{os:OsState}{P:Ur}
theorem Jc{v:TZ}(X:(KW P).In h)(hq:Vc (Uj prog w) (A.under (.builtin "type.__call__" ⟨[.ref 425,v],[]⟩)) (.call (.ref 422) ⟨[.ref (h.objs.size+1),v],[]⟩) (InitBack (h.objs.size+1) R) ⟨(h.push {cls:=.type "tuple",data:=.seq [v].toArray}).push (gj h.objs.size),g,d,t,os⟩):Vc (Uj prog w) A (.call (.ref 425) ⟨[v],[]⟩) R ⟨h,g,d,t,os⟩:=by
 have hC:h.get? 425=TR jA:=X _ _ (xH P);have Fn:=V7;have call:Looks (Uj prog w) h (specialOf (.ref 425) "__call__") (TR (.builtin "type.__call__")):=looks_specialIn X (IZ P);have typ:Looks (Uj prog w) h (isInstance (.ref 425) (.type "type")) TV:=looks_instIn X (I8 P);have hi:Looks (Uj prog w) h (typeLookup (.ref 425) "__init__") (TR (.ref 422)):=looks_findIn X (I9 P);have self:Looks (Uj prog w) h (isSubtype (.ref 425) (.ref 425)) TV:=looks_mroIn X (Jb P);have made:Looks (Uj prog w) h (Bind.madeBy (.ref 425)) (TR "Exception.__new__"):=λA Q E s k q=>wpAny_madeBy_exc (k _ _ hC) q
 refine codeAny_of_tree ?_;show Uh _ _ (callAny (.ref 425) _) _ _ _;refine nd_load hC ?_;show Uh _ _ (Yu (.ref 425) _) _ _ _;unfold Yu;refine wpAny_bind (call.at ?_);dsimp only;rw[tc_bind];refine wpAny_bind (wpAny_pure (wpAny_bind (wpAny_pure ?_)));refine wpAny_pure (a:=PySem.Fin.again (.call (.builtin "type.__call__") ⟨[.ref 425,v],[]⟩)) (And.intro rfl ?_);refine codeAny_call_builtin_at (WX _ (by decide+kernel)) entry_typeCall (check_slot tc_kind tc_split typ (tc_args _ _ _) ?_);unfold Builtin.«type.__call__»;have hm:Looks (Uj prog w) h (mroOf (.ref 425)) qV.mro:=(looks_clsIn X (kP P)).andThen .now
 repeat(first|simp only[UC,if_false]|with_reducible refine wpAny_call ?_|lk)
 refine codeAny_call_builtin_code (WX _ Fn.quiet) (IX hC ?_);refine IY hC ?_ (by rw[sizeLine_eq];simp);have k:∀b o,h.get? b=TR o->((h.push {cls:=.type "tuple",data:=.seq [v].toArray}).push (gj h.objs.size)).get? b=TR o:=λb o e=>Ua _ (Ua _ e)
 have hx:((h.push {cls:=.type "tuple",data:=.seq [v].toArray}).push (gj h.objs.size)).get? (h.objs.size+1)=TR (gj h.objs.size):=by heap_get
 have t1:Looks (Uj prog w) ((h.push {cls:=.type "tuple",data:=.seq [v].toArray}).push (gj h.objs.size)) (typeOf (.ref (h.objs.size+1))) (.ref 425):=(ZQ hx).andThen .now;have s1:=self.keeps k;have i1:=hi.keeps k;have b1:=(bind_fn (M:=Uj prog w) X (.ref (h.objs.size+1)) (Ja P)).keeps k;unfold isInstance callSpecial? specialOf
 repeat(first|with_reducible refine wpAny_call ?_|lk)
 refine codeAny_mono hq λr s' z=>?_
 rcases r with e|(v|_|_|_)<;>first|exact z|exact z.elim|skip
 obtain⟨rfl,z⟩:=z;exact wpAny_pure (wpAny_pure z)
end
section
variable{M:Model}{A:UT}{E:TZ->aav->Prop}{env:Yj}
theorem Jd{s:aav}{x:Sem TZ}{Q:Flow->aav->Prop}(hh:A.handled=TW)(h:Uh M A x (λv Ld=>∃e d vs,v=.ref e/\Ld.heap.get? 425=TR jA/\Ld.heap.get? e=TR {cls:=.ref 425,dict:=TR d,data:=.fields vs}/\vs[1]? =TR .none/\vs.size=6/\E (.ref e) Ld) E s):Uh M A (raiseStmt env (TR x) TW) Q E s:=by
 have O6:(Vk 425::jz).contains (.type "BaseException")=TV:=by decide+kernel
 unfold raiseStmt;refine wpAny_bind (wpAny_mono h (λv Ld Ls=>?_) λ_ _ x=>x);obtain⟨e,d,vs,rfl,hC,he,hv,hz,hE⟩:=Ls;obtain⟨hp,g,dd,tk,os⟩:=Ld
 repeat(first|with_reducible refine wpAny_loadPart_at he ?_|with_reducible refine wpAny_loadPart_at hC ?_|(with_reducible refine wpAny_isSubtype_exc hC ?_;rw[O6])|wp_step)
 refine(hv).symm▸?_;refine wpAny_pure ?_;refine wpAny_pure ?_;exact wpAny_raiseNew_none hh hE
end
theorem Je{L:TX}{ρ:af}{B:PH}{M:aa}{own:List TX}{s s':aav}{x d l:TX}{vs:Array TZ}{v:TZ}{fs:List (Nat×V)}{E:PE}{P0:TX->Prop}(T:aA B M own s.heap)(F:cI B ρ s.heap L)(k:∀a o,s.heap.get? a=TR o->s'.heap.get? a=TR o)(X:jy (aZ B l (bk #[v] 0)) s'.heap x d vs fs)(hv:vs[1]? =TR .none)(g1:s.heap.get? x=TW)(g2:s.heap.get? d=TW)(g3:s.heap.get? l=TW)(xl:x≠l)(hl:s'.heap.get? l=TR (bk #[v] 0))(q:bl s s')(he:E fs M):cS L B own s E (.ref x) s':=by
 obtain⟨e,od,es,n,e2,La,hf⟩:=X;obtain⟨x1,x2⟩:=T.fresh g1;obtain⟨d1,d2⟩:=T.fresh g2;obtain⟨l1,l2⟩:=T.fresh g3;have dl:d≠l:=λz=>by rw[z,hl]at e2;obtain rfl:=TU e2;cases La
 have dx:x≠d:=λz=>by rw[z,e2]at e;obtain rfl:=TU e;cases La
 have OT:=eZ (o:=bk #[v] 0) l1;have QC:aZ B l (bk #[v] 0) d=TW:=by unfold aZ;rw[if_neg dl];exact d1
 have NH:=eZ (o:=od) QC;obtain⟨m,hm,H⟩:=F;refine⟨aZ (aZ B l (bk #[v] 0)) d od,own,M,x,fs,TW,rfl,he,((T.keeps k).addL l1 l2 hl).addL QC d2 e2,⟨_,vs,d,od,es,n,e,rfl,rfl,rfl,eE,La,hf.mono NH,g1,?_,x2,hv⟩,.inl rfl,⟨m,hm.keeps k,λy v _ z=>by exact nn z⟩,⟨OT.trans NH,λa z=>?_,λ_ e=>.inl e,λb o e _ _=>⟨o.slots,k b o e⟩,λb q=>ke k q⟩,q⟩
 ·unfold aZ;rw[if_neg dx,if_neg xl];exact x1
 ·unfold aZ at z;split at z
  ·rename_i y;exact .inr (.inr (by rw[y];exact g2))
  ·split at z
   ·rename_i y;exact .inr (.inr (by rw[y];exact g3))
   ·exact .inl z
set_option tactic.hygienic true in
theorem Jf{n:Nat}{ρ:af}{M:aa}{K:PK}{E:PE}{x:X}(h:Ev (n+5) ρ M x (λr M1=>E [(44,.str [84,111,111,76,111,110,103]),(240,.lst [r]),(134,r)] M1) E):ir (n+5) ρ M (.raise (.call (.cst (.ref 425)) [x])) K E:=by
 refine Fd ?_;intro sc e hT c B own s K0 tp S;induction hT with
 |raise h1=>
  rename_i e p;induction h1 with
  |call Mp hf hs=>
   rename_i f as p2;rw[arm_exec_Raise];refine wpAny_bind (wpAny_standAt (Jd (S.hand (by exact TY _)) (wpAny_bind (wpAny_mono (Q:=λv Ld=>∃e d vs,v=.ref e/\Ld.heap.get? 425=TR jA/\Ld.heap.get? e=TR {cls:=.ref 425,dict:=TR d,data:=.fields vs}/\vs[1]? =TR .none/\vs.size=6/\cS c.env.locals B own s E (.ref e) Ld) ?_ (λv LK Me=>wpAny_bind (wpAny_standAt (wpAny_pure Me))) λ_ _ h=>h))));refine(ic Mp).symm▸?_;refine wpAny_bind (wpAny_mono (fR (E:=E) (Q:=λr M1=>r=.ref 425/\M1=M) ⟨rfl,rfl⟩ _ _ hf c B own s K0 S) (λfv s1 h1=>?_) λ_ _ h=>h.toS S);obtain⟨B1,K1,M1,⟨r,LU,hr,hM⟩,T1,P1,q1⟩:=h1;subst hr hM;induction LU;have S1:=S.step T1 P1;have hl:dK (n+5) ρ M1 [x] (λrs M2=>∃r,rs=[r]/\E [(44,.str [84,111,111,76,111,110,103]),(240,.lst [r]),(134,r)] M2) E:=tU (bL h λr M2 hq=>tT ⟨r,rfl,hq⟩);have Lp:=P1.weaken (P':=λa=>a=c.env.locals) λ_ h=>h.elim
   refine j6 (P:=(KW c.w.params).In) hs (lR (by kernel_rfl)) (wpAny_mono (hl _ _ hs c B1 K1 s1 _ K0 S1) (λvs s2 h2=>?_) λ_ _ h=>(h.toS S1).step Lp q1);obtain⟨B2,K9,M2,⟨rs,Nj,r,rfl,hq⟩,T2,P2,q2⟩:=h2;have S2:=S1.step T2 P2;obtain⟨v,rfl,hv⟩:=Nj.one;have NE:=P2.weaken (P':=λa=>a=c.env.locals) λ_ h=>h.elim
   refine⟨S2.kin,wpAny_call ?_⟩;obtain⟨hp,g,d,tk,os⟩:=s2;refine Jc S2.kin ?_;have g0:∀{b:TX},hp.objs.size<=b->hp.get? b=TW:=λ{b} hb=>by
    cases e:hp.get? b with
    |none=>rfl
    |some o=>exact absurd (UB e) (Nat.not_lt.mpr hb)
   have up:∀{b o},hp.get? b=TR o->((hp.push {cls:=.type "tuple",data:=.seq [v].toArray}).push (gj hp.objs.size)).get? b=TR o:=λe=>Ua _ (Ua _ e)
   have hx:((hp.push {cls:=.type "tuple",data:=.seq [v].toArray}).push (gj hp.objs.size)).get? (hp.objs.size+1)=TR (gj hp.objs.size):=by heap_get
   have Lw:∀a o,c.base.get? a=TR o->hp.get? a=TR o:=λa o e=>S2.sta.keep a o (S2.base a o e)
   have gx:hp.get? (hp.objs.size+1)=TW:=g0 (YP _);have bx:c.base.get? (hp.objs.size+1)=TW:=by
    cases e:c.base.get? (hp.objs.size+1)with
    |none=>rfl
    |some o=>have:=Lw _ _ e;rw[gx]at this;exact nn this
   refine IW (B:=B2) (r:=r) S2.gr (λa o e=>up (S2.kin a o e)) (λa o e=>up (Lw a o e)) bx (by have:=S2.room;show c.A.depth+1+1<_;exact ab [_,_] ((ad.a N1).a N1) (Ar.n 1000) ((X0.a (X1.a N5)).a N1) (Ar.n 1000) this rfl) hx hv (λa o e=>up (S2.sta.keep a o e)) λh' MH d2 l E1 gd gl Mg k1=>⟨rfl,?_⟩
   have dn:∀{b},((hp.push {cls:=.type "tuple",data:=.seq [v].toArray}).push (gj hp.objs.size)).get? b=TW->hp.get? b=TW:=λ{b} z=>by
    cases e:hp.get? b with
    |none=>rfl
    |some o=>rw[up e]at z;exact ns z
   have kk:∀b o,hp.get? b=TR o->h'.get? b=TR o:=λb o e=>k1 b o (λz=>by rw[z,gx]at e;exact nn e) (up e)
   have n1:nc (so "word")=44:=by kernel_rfl
   have n2:nc (so "irritants")=240:=by kernel_rfl
   have n3:nc (so "limit")=134:=by kernel_rfl
   have n4:(so "TooLong").cps.toList=[84,111,111,76,111,110,103]:=by kernel_rfl
   rw[n1,n2,n3,n4]at E1;have xl:hp.objs.size+1≠l:=λz=>by rw[<-z,hx]at gl;exact ns gl
   have out:cS c.env.locals B2 K9 ⟨hp,g,d,tk,os⟩ E (.ref (hp.objs.size+1)) ⟨h',g,d,MH,os⟩:=Je (ρ:=ρ) (P0:=λ_=>False) S2.sta S2.loc kk E1 rfl gx (dn gd) (dn gl) xl Mg ⟨rfl,rfl⟩ hq;exact⟨_,d2,_,rfl,kk _ _ (S2.kin _ _ (xH _)),E1.1,rfl,rfl,(out.step NE q2).step Lp q1⟩
end
section
noncomputable def ng(L:Nat):List (Nat×V):=[(44,.str [84,111,111,76,111,110,103]),(240,.lst [.int L]),(134,.int L)]
variable[HasP]
variable{n:Nat}{M:aa}{Q:PQ}{E:PE}
structure PI(F:ey)(pr tb rw di:TX)(kf:Nat)(T0:au)(M0:aa)(T:au)(M:aa)(out:List Nat)(ws:List V)(S:Nat):Prop where
 g:TG tb rw di kf T M
 e:aE T0 T
 k:Kp [rw,di,pr,F.pc,F.wt] M0 M
 p:aak M pr=TR (.inst 1230 (bB F out.length))
 pc:∃ps:List (List Nat),aak M F.pc=TR (.list (ps.map V.str))/\ps.flatten=out/\ps.length+ws.length<=S
 wt:aak M F.wt=TR (.list ws)
 n1:F.pc≠F.wt
 n2:F.pc≠rw
 n3:F.wt≠rw
 lim:F.lim=.none\/∃L:Nat,F.lim=.int L/\out.length<=L
section
variable{F:ey}{pr tb rw di:TX}{kf:Nat}{T0 T:au}{M0 M:aa}{out:List Nat}{ws:List V}{S:Nat}
theorem PI.nes(I:PI F pr tb rw di kf T0 M0 T M out ws S):pr≠F.pc/\pr≠F.wt/\pr≠rw/\pr≠di/\F.pc≠di/\F.wt≠di/\pr≠tb/\F.pc≠tb/\F.wt≠tb:=by
 refine aj I.pc λps KY=>?_
 have h2:=KY.1;have h1:=I.p;have h3:=I.wt;have h4:=I.g.rows;have h5:=I.g.dict;have h6:=I.g.tbl;refine⟨λe=>?_,λe=>?_,λe=>?_,λe=>?_,λe=>?_,λe=>?_,λe=>?_,λe=>?_,λe=>?_⟩
 ·rw[e,h2]at h1;cases h1
 ·rw[e,h3]at h1;cases h1
 ·rw[e,h4]at h1;cases h1
 ·rw[e,h5]at h1;cases h1
 ·rw[e,h5]at h2;cases h2
 ·rw[e,h5]at h3;cases h3
 ·rw[e,h6]at h1;cases h1
 ·rw[e,h6]at h2;cases h2
 ·rw[e,h6]at h3;cases h3
theorem PI.keep(I:PI F pr tb rw di kf T0 M0 T M out ws S)(k:Kp [] M M'):PI F pr tb rw di kf T0 M0 T M' out ws S:=by
 refine aj I.pc λps KY=>?_
 exact⟨I.g.keep k (by simp) (by simp) (by simp),I.e,I.k.trans (k.mono (by exactλ_ h=>absurd h UX)),k _ _ (by simp) I.p,⟨ps,k _ _ (by simp) KY.1,KY.2.1,KY.2.2⟩,k _ _ (by simp) I.wt,I.n1,I.n2,I.n3,I.lim⟩
theorem PI.grow(I:PI F pr tb rw di kf T0 M0 T M out ws S)(G:TG tb rw di kf T' M')(e:aE T T')(k:Kp [rw,di] M M'):PI F pr tb rw di kf T0 M0 T' M' out ws S:=by
 refine aj I.pc λps KY=>?_
 refine⟨G,I.e.trans e,I.k.trans (k.mono ?_),k _ _ ?_ I.p,⟨ps,k _ _ ?_ KY.1,KY.2.1,KY.2.2⟩,k _ _ ?_ I.wt,I.n1,I.n2,I.n3,I.lim⟩
 ·intro x hx;simp at hx⊢;rcases hx with rfl|rfl<;>simp
 ·simp[I.nes.2.2.1,I.nes.2.2.2.1]
 ·simp[I.n2,I.nes.2.2.2.2.1]
 ·simp[I.n3,I.nes.2.2.2.2.2.1]
theorem PI.setW(I:PI F pr tb rw di kf T0 M0 T M out ws S)(ws':List V)(S':Nat)(h:ws'.length+S<=S'+ws.length):PI F pr tb rw di kf T0 M0 T (ag M F.wt (.list ws')) out ws' S':=by
 refine aj I.pc λps KY=>?_
 have k:Kp [F.wt] M (ag M F.wt (.list ws')):=Kp.put (.head _);refine⟨I.g.keep k (by simp[Uf I.nes.2.2.2.2.2.2.2.2]) (by simp[Uf I.n3]) (by simp[Uf I.nes.2.2.2.2.2.1]),I.e,I.k.trans (k.mono (by simp)),k _ _ (by simp[I.nes.2.1]) I.p,⟨ps,k _ _ (by simp[I.n1]) KY.1,KY.2.1,by exact ai [_,_,_,_,_] aI X2 (X0.a X3) X4 (X1.a X4) (X2.a X3) KY.2.2 h rfl⟩,by rw[ak,if_pos rfl],I.n1,I.n2,I.n3,I.lim⟩
theorem gk(I:PI F pr tb rw di kf T0 M0 T M out ws S)(hN:Nt<=100000)(ht:out.length+t.length<=Nt)(hS:S<=10000)(HE:∀T M L,TG tb rw di kf T M->aE T0 T->Kp [rw,di,pr,F.pc,F.wt] M0 M->F.lim=.int (L:Nat)->L<Nt->E (ng L) M)(q:∀M',PI F pr tb rw di kf T0 M0 T M' (out++t) ws (S+1)->Q .none M'):CT (n+6) (.ref 1199) [.ref pr,.str t] M Q E:=by
 refine ax GJ (ks:=[57,99]) ?_;refine aj I.pc λps KY=>?_
 have h1:=KY.1;have h2:=KY.2.1;have h3:=KY.2.2;have a1:=I.nes.1;have a2:=I.nes.2.1;have a3:=I.nes.2.2.1;have a4:=I.nes.2.2.2.1;have a5:=I.nes.2.2.2.2.1;have a6:=I.nes.2.2.2.2.2.1;have a7:=I.nes.2.2.2.2.2.2.1;have a8:=I.nes.2.2.2.2.2.2.2.1;have a9:=I.nes.2.2.2.2.2.2.2.2;have hp:=I.p;unfold bB at hp;have z1:(ps.map V.str).length<=Ub:=by rw[UK];exact ar (by exact ai [_,_,_] X0 am aI X2 X2 cP h3 hS rfl)
 have z2:t.length<2^63:=by exact ai [_,_,_] ad bd (X1.a X0) X2 X2 am ht hN rfl
 have ea:((out.length:Int)+(t.length:Int))=((out++t).length:Nat):=by rw[Ui];rfl
 have TB:=Uf a1;have k:Kp [F.pc,pr] M (ag (ag M F.pc (.list (ps.map V.str++[.str t]))) pr (.inst 1230 (bB F (out++t).length))):=(Kp.put (.head _)).trans (Kp.put (.tail _ (.head _)));have kk:Kp [rw,di,pr,F.pc,F.wt] M0 (ag (ag M F.pc (.list (ps.map V.str++[.str t]))) pr (.inst 1230 (bB F (out++t).length))):=I.k.trans (k.mono λx hx=>by simp at hx⊢;rcases hx with rfl|rfl<;>simp);have G:=I.g.keep k (by simp[Uf a8,Uf a7]) (by simp[Uf I.n2,Uf a3]) (by simp[Uf a5,Uf a4]);have J:(F.lim=.none\/∃L:Nat,F.lim=.int L/\(out++t).length<=L)->PI F pr tb rw di kf T0 M0 T (ag (ag M F.pc (.list (ps.map V.str++[.str t]))) pr (.inst 1230 (bB F (out++t).length))) (out++t) ws (S+1):=by intro hl;refine⟨G,I.e,kk,by rw[ak,if_pos rfl],⟨ps++[t],?_,by simp[h2],by exact ai [_,_,_,_] aI bC X0 (X3.a (N0.a N1)) (X3.a X1) X2 aL h3 rfl⟩,k _ _ (by simp[Uf I.n1,Uf a2]) I.wt,I.n1,I.n2,I.n3,hl⟩;rw[ak,if_neg a1,ak,if_pos rfl];simp
 rcases I.lim with hl|⟨L,hl,hL⟩
 ·have q':=q _ (J (.inl hl));unfold bB at q';clear q HE J G kk k;refine ah ?_;refine aN ?_;refine aO ?_;refine aP ?_;refine⟨z1,?_⟩;refine ah ?_;refine⟨z2,?_⟩;refine aV ?_;refine ah ?_;simp only[*]
  conv=>whnf
  simp only[br, *];rw[hl]at q';exact q'
 ·by_cases hle:(out++t).length<=L
  ·have q':=q _ (J (.inr ⟨L,hl,hle⟩));unfold bB at q';have e1:¬(((out++t).length:Int)>(L:Int)):=by exact ft (ab [_,_] X0 X1 X0 X1 hle rfl)
   clear q HE J G kk k;refine ah ?_;refine aN ?_;refine aO ?_;refine aP ?_;refine⟨z1,?_⟩;refine ah ?_;refine⟨z2,?_⟩;refine aV ?_;refine ah ?_;simp only[*];refine ah ?_;refine ah ?_;refine bv ?_;refine bv ?_
   conv=>whnf
   simp only[br, *];rw[hl]at q';exact q'
  ·have he:=HE T _ L G I.e kk hl (by rw[Ui]at hle;exact ai [_,_,_,_] ad X1 ad (X2.a X3) (X2.a X3) X1 (Vn hle) ht rfl);unfold bB at he;have e1:(((out++t).length:Int)>(L:Int)):=by exact dF (ab [_,_] ad X1 ad X1 (Vn hle) rfl)
   clear q HE J G kk k;refine ah ?_;refine aN ?_;refine aO ?_;refine aP ?_;refine⟨z1,?_⟩;refine ah ?_;refine⟨z2,?_⟩;refine aV ?_;refine ah ?_;simp only[*];refine ah ?_;refine ah ?_;refine c9 ?_;simp only[*];refine Jf ((cg (by exact TY _) 60).x ?_);unfold ng at he;refine ah ?_;simp only[*];rw[hl]at he;exact he
end
noncomputable def gY:X:=.cmp .NotEq (.attr (.loc 57) 187) (.lst [])
noncomputable def iC:List XS:=[.asgT [44,111] (.meth (.attr (.loc 57) 187) 23 []),.ite (.cmp .Eq (.loc 44) (.cst (.int 0))) [.expr (.meth (.loc 57) 33 [(.loc 111)])] [.ite (.cmp .Eq (.loc 44) (.cst (.int 1))) [.expr (.meth (.loc 57) 114 [(.loc 111)])] [.expr (.meth (.loc 57) 64 [(.loc 111)])]]]
section
variable{F:ey}{pr tb rw di:TX}{kf:Nat}{T0 T:au}{M0 M:aa}{out:List Nat}{ws:List V}{S:Nat}{K:PK}{ρ:af}
theorem gm{v:V}(hw:w=0/\g=1199\/w=1/\g=1206\/w=2/\g=1220)(I:PI F pr tb rw di kf T0 M0 T M out (ws++[.tup [.int w,v]]) S)(hS:S<=10000)(K3:aak ρ 57=TR (.ref pr))(h:∀ρ' M',PI F pr tb rw di kf T0 M0 T M' out ws (S-1)->aak ρ' 57=TR (.ref pr)->CT (n+8) (.ref g) [.ref pr,v] M' (λ_ M1=>Wh (n+8) ρ' M1 gY iC K E) E):Wh (n+8) ρ M gY iC K E:=by
 have hs:1<=S:=by obtain⟨ps,-,-,h3⟩:=I.pc;simp at h3;exact ab [_,_,_] N1 X0 (X1.a bC) X0 h3 rfl
 have J:=I.setW ws (S-1) (by simp;lia);have hp:=I.p;unfold bB at hp;have hq:=I.wt;obtain⟨a1,a2,a3,a4,a5,a6,a7,a8,a9⟩:=I.nes;have No:=Uf a2;have z:(ws++[V.tup [.int w,v]]).length<=Ub:=by obtain⟨ps,-,-,h3⟩:=I.pc;exact ar (by exact ai [_,_,_] X0 am (X1.a X0) X2 X2 cP h3 hS rfl)
 have e1:¬((ws++[V.tup [.int w,v]]).length=0):=by simp
 have e2:(ws++[V.tup [.int w,v]]).getLast?=TR (.tup [.int w,v]):=by simp
 have e3:(ws++[V.tup [.int w,v]]).dropLast=ws:=by simp
 have go:=h (ag (ag ρ 44 (.int w)) 111 v) _ J (by exact(aS rfl).trans ((aS rfl).trans K3));refine bF ?_;unfold gY iC at*;clear h I J;generalize ws++[V.tup [.int w,v]]=dY at*;rcases hw with⟨rfl,rfl⟩|⟨rfl,rfl⟩|⟨rfl,rfl⟩
 ·(
  refine ac ?_;refine ah ?_;simp only[*])
  refine .inl ?_
  conv=>whnf
  simp only[Uc,reduceIte,UL,bT,cj,bA,cT,cn, *];refine ac ?_;refine ah ?_;refine aN ?_;refine aO ?_;refine aP ?_;refine ac ?_;refine⟨z,?_⟩
  conv=>whnf
  simp only[ak,bR,bS,reduceIte, *];refine bM ?_;refine aK ?_;refine ac (o:=aak _ 111) ?_;assumption
 ·(
  refine ac ?_;refine ah ?_;simp only[*])
  refine .inl ?_
  conv=>whnf
  simp only[Uc,reduceIte,UL,bT,cj,bA,cT,cn, *];refine ac ?_;refine ah ?_;refine aN ?_;refine aO ?_;refine aP ?_;refine ac ?_;refine⟨z,?_⟩
  conv=>whnf
  simp only[ak,bR,bS,reduceIte, *];refine a0 (o:=aak _ _) (by simp only[ak,reduceIte, *]<;>rfl) ?_;refine bM ?_;refine aK ?_;refine ac (o:=aak _ 111) ?_;assumption
 ·(
  refine ac ?_;refine ah ?_;simp only[*])
  refine .inl ?_
  conv=>whnf
  simp only[Uc,reduceIte,UL,bT,cj,bA,cT,cn, *];refine ac ?_;refine ah ?_;refine aN ?_;refine aO ?_;refine aP ?_;refine ac ?_;refine⟨z,?_⟩
  conv=>whnf
  simp only[ak,bR,bS,reduceIte, *];refine a0 (o:=aak _ _) (by simp only[ak,reduceIte, *]<;>rfl) ?_;refine bM ?_;refine aK ?_;refine ac (o:=aak _ 111) ?_;assumption
end
end
section
noncomputable abbrev dI(v:V):V:=.tup [.int 1,v]
noncomputable abbrev pI(t:List Nat):V:=.tup [.int 0,.str t]
noncomputable abbrev tI(v:V):V:=.tup [.int 2,v]
variable[HasP]
variable{n:Nat}{Q:PQ}{E:PE}
section
variable{F:ey}{pr tb rw di:TX}{kf Nt:Nat}{T0 T:au}{M0 M:aa}{out:List Nat}{ws:List V}{S:Nat}{K:PK}{ρ:af}
abbrev fi(F:ey)(pr tb rw di:TX)(kf Nt:Nat)(T0:au)(M0:aa)(E:PE):Prop:=∀T M L,TG tb rw di kf T M->aE T0 T->Kp [rw,di,pr,F.pc,F.wt] M0 M->F.lim=.int (L:Nat)->L<Nt->E (ng L) M
theorem Jg{v:V}(hr:2<=F.R)(K4:F.R<=16)(I:PI F pr tb rw di kf T0 M0 T M out ws S)(hN:Nt<=100000)(ht:out.length+t.length<=Nt)(hS:S<=10000)(HE:fi F pr tb rw di kf Nt T0 M0 E)(hA:AT F.W F.R v t)(h1:∀M,aD M v (.ref 155)=TR TT)(h2:∀M,aD M v (.ref 218)=TR TT)(q:∀M',PI F pr tb rw di kf T0 M0 T M' (out++t) ws (S+1)->Q .none M'):CT (n+8) (.ref 1206) [.ref pr,v] M Q E:=by
 refine ax mI (ks:=[57,111]) ?_;have hp:=I.p;have SQ:=hp;unfold bB at hp;have h1:=h1 M;have h2:=h2 M;refine ac ?_
 conv=>whnf
 refine ac ?_
 conv=>whnf
 refine aK ?_
 conv=>whnf
 refine aK ?_;refine bG ?_
 conv=>whnf
 refine IJ hr K4 SQ hA λM' k=>?_
 exact gk (I.keep k) hN ht hS HE q
theorem Jh(I:PI F pr tb rw di kf T0 M0 T M out ws S)(hN:Nt<=100000)(ht:out.length+1<=Nt)(hS:S<=10000)(HE:fi F pr tb rw di kf Nt T0 M0 E)(q:∀M',PI F pr tb rw di kf T0 M0 T M' (out++[41]) ws (S+1)->Q .none M'):CT (n+8) (.ref 1220) [.ref pr,aH] M Q E:=by refine ax qu (ks:=[57,111]) ?_;have hp:=I.p;unfold bB at hp;refine aK ?_;simp only[*];exact gk I hN ht hS HE q
theorem Ji(I:PI F pr tb rw di kf T0 M0 T M out ws S)(hN:Nt<=100000)(ht:out.length+1<=Nt)(hS:S<=9000)(HE:fi F pr tb rw di kf Nt T0 M0 E)(nx:aY x=TV)(ny:aY y=TV)(q:∀M',PI F pr tb rw di kf T0 M0 T M' (out++[32]) (ws++[tI y]++[dI x]) (S+3)->Q .none M'):CT (n+8) (.ref 1220) [.ref pr,aB x y] M Q E:=by
 refine ax qu (ks:=[57,111]) ?_;have hp:=I.p;unfold bB at hp;have e1:aD M (aB x y) (.ref 155)=TR TV:=by rfl
 refine aK ?_;refine bG ?_;refine gk I hN ht (by exact ab [_] X0 cP X0 an hS rfl) HE λM1 I1=>?_
 clear hp;have hp:=I1.p;unfold bB at hp;have hq:=I1.wt;have No:=Uf I1.nes.2.1;have go:=q _ ((I1.setW (ws++[tI y]) (S+2) (by exact ab [_,_,_] (X0.a ay) ((X1.a N2).a X2) X0 (X2.a (N0.a N1)) aL rfl)).setW (ws++[tI y]++[dI x]) (S+3) (by exact ab [_,_,_] (X0.a (X1.a N2)) ((X1.a N3).a X2) X0 (X2.a (N0.a N1)) aL rfl));refine aj I1.pc λps KY=>?_
 have h3:=KY.2.2;have z1:ws.length<=Ub:=ar (by exact ai [_,_,_] X0 am (X1.a X0) bC X2 an h3 hS rfl);have z2:(ws++[tI y]).length<=Ub:=ar (by exact bU [_,_,_,_] X0 am X0 (X1.a (N0.a N1)) (X2.a X1) (X3.a N1) X3 an aL h3 hS rfl);clear q HE I I1;refine ah ?_;refine aN ?_;refine aO ?_;refine dW ?_;refine aP ?_;refine⟨z1,?_⟩;refine ah ?_;refine aN ?_;refine aO ?_;refine dW ?_;refine aP ?_;refine⟨z2,?_⟩;exact go
theorem Jj{v:V}(I:PI F pr tb rw di kf T0 M0 T M out ws S)(hN:Nt<=100000)(ht:out.length+3<=Nt)(hS:S<=9000)(HE:fi F pr tb rw di kf Nt T0 M0 E)(h0:c6 v aH=TR TT)(h1:∀M,aD M v (.ref 155)=TR TT)(q:∀M',PI F pr tb rw di kf T0 M0 T M' (out++[32,46,32]) (ws++[pI [41]]++[dI v]) (S+3)->Q .none M'):CT (n+8) (.ref 1220) [.ref pr,v] M Q E:=by
 refine ax qu (ks:=[57,111]) ?_;have hp:=I.p;unfold bB at hp;have e1:=h1 M;clear h1;refine ac ?_;refine ac ?_;refine aK ?_;refine bG ?_;refine gk I hN ht (by exact ab [_] X0 cP X0 an hS rfl) HE λM1 I1=>?_
 clear hp;have hp:=I1.p;unfold bB at hp;have hq:=I1.wt;have No:=Uf I1.nes.2.1;have go:=q _ ((I1.setW (ws++[pI [41]]) (S+2) (by exact ab [_,_,_] (X0.a ay) ((X1.a N2).a X2) X0 (X2.a (N0.a N1)) aL rfl)).setW (ws++[pI [41]]++[dI v]) (S+3) (by exact ab [_,_,_] (X0.a (X1.a N2)) ((X1.a N3).a X2) X0 (X2.a (N0.a N1)) aL rfl));refine aj I1.pc λps KY=>?_
 have h3:=KY.2.2;have z1:ws.length<=Ub:=ar (by exact ai [_,_,_] X0 am (X1.a X0) bC X2 an h3 hS rfl);have z2:(ws++[pI [41]]).length<=Ub:=ar (by exact bU [_,_,_,_] X0 am X0 (X1.a (N0.a N1)) (X2.a X1) (X3.a N1) X3 an aL h3 hS rfl);clear q HE I I1;refine ah ?_;refine aN ?_;refine aO ?_;refine aP ?_;refine⟨z1,?_⟩;refine ah ?_;refine aN ?_;refine aO ?_;refine aP ?_;refine⟨z2,?_⟩;exact go
def kR(kf:Nat)(F:ey)(T:au)(x y:V):Prop:=F.tab=.none\/(∀M,aD M y (.ref 155)=TR TT)/\aY y=TV\/(∃u w,y=aB u w/\c6 w aH=TR TT/\aY w=TV)\/∃u hit,y=aB u aH/\gh kf T x hit/\aY x=TV/\fK QL hit=TW
theorem kR.ext(h:kR kf F T x y)(e:aE T T'):kR kf F T' x y:=by
 rcases h with h|h|h|⟨u,hit,h1,h2,h3⟩
 ·exact .inl h
 ·exact .inr (.inl h)
 ·exact .inr (.inr (.inl h))
 ·exact .inr (.inr (.inr ⟨u,hit,h1,h2.ext e,h3⟩))
theorem Jk(I:PI F pr tb rw di kf T0 M0 T M out ws S)(hk:kf<=100)(hN:Nt<=100000)(ht:out.length+1<=Nt)(hS:S<=9000)(HE:fi F pr tb rw di kf Nt T0 M0 E)(htab:F.tab=.none\/F.tab=.ref tb)(hq:kR kf F T x y)(nx:aY x=TV)(ny:aY y=TV)(q:∀T' M',PI F pr tb rw di kf T0 M0 T' M' (out++[40]) (ws++[tI y]++[dI x]) (S+3)->aE T T'->Q .none M'):CT (n+7) (.ref 1213) [.ref pr,aB x y] M Q E:=by
 refine ax wx (ks:=[57,111]) ?_;have hp:=I.p;unfold bB at hp;have hs:F.tab=.ref tb->∀Q':PQ,(∀T' M',PI F pr tb rw di kf T0 M0 T' M' out ws S->aE T T'->Q' V.none M')->CT (n+6) (.ref 1143) [aB x y,.ref tb] M Q' E:=by
  intro O7 Q' q';rcases hq with h|⟨h1,h2⟩|⟨u,w,rfl,h1,h2⟩|⟨u,hit,rfl,h1,h2,h3⟩
  ·rw[O7]at h;cases h
  ·exact II (h1 M) h2 (q' T M I .refl)
  ·exact IH h1 h2 (q' T M I .refl)
  ·refine xz I.g hk h2 h1 λT' M' G' e' k'=>?_
   rw[h3];exact q' T' M' (I.grow G' e' k') e'
 have fin:∀T' M',PI F pr tb rw di kf T0 M0 T' M' out ws S->aE T T'->CT (n+6) (.ref 1199) [.ref pr,.str [40]] M' (λ_ M1=>∀M2,M2=ag (ag M1 F.wt (.list (ws++[tI y]))) F.wt (.list (ws++[tI y]++[dI x]))->Q .none M2/\aak M1 pr=TR (.inst 1230 (bB F (out++[40]).length))/\aak M1 F.wt=TR (.list ws)) E:=by
  intro T' M' I' e';refine gk I' hN ht (by exact ab [_] X0 cP X0 an hS rfl) HE λM1 I1 M2 SR=>?_
  subst SR;exact⟨q T' _ ((I1.setW (ws++[tI y]) (S+2) (by exact ab [_,_,_] (X0.a ay) ((X1.a N2).a X2) X0 (X2.a (N0.a N1)) aL rfl)).setW (ws++[tI y]++[dI x]) (S+3) (by exact ab [_,_,_] (X0.a (X1.a N2)) ((X1.a N3).a X2) X0 (X2.a (N0.a N1)) aL rfl)) e',I1.p,I1.wt⟩
 have No:=Uf I.nes.2.1;refine aj I.pc λps KY=>?_
 have h3:=KY.2.2;have z1:ws.length<=Ub:=ar (by exact ai [_,_,_] X0 am (X1.a X0) X2 X2 an h3 hS rfl);have z2:(ws++[tI y]).length<=Ub:=ar (by exact bU [_,_,_,_] X0 am X0 (X1.a (N0.a N1)) (X2.a X1) X3 X3 an aL h3 hS rfl);have go:∀M1,(∀M2,M2=ag (ag M1 F.wt (.list (ws++[tI y]))) F.wt (.list (ws++[tI y]++[dI x]))->Q .none M2/\aak M1 pr=TR (.inst 1230 (bB F (out++[40]).length))/\aak M1 F.wt=TR (.list ws))->Q .none (ag (ag M1 F.wt (.list (ws++[tI y]))) F.wt (.list (ws++[tI y]++[dI x])))/\aak M1 pr=TR (.inst 1230 (bB F (out++[40]).length))/\aak M1 F.wt=TR (.list ws):=λM1 h=>h _ rfl
 rcases htab with htab|htab
 ·have NT:=fin T M I .refl;clear hs fin q HE;refine ah ?_;refine kE (b:=aY _) (by simp only[*]<;>rfl) ?_;refine a0 (o:=bA _ _ _ _) (by simp only[*]<;>rfl) ?_;refine aK ?_;refine bG ?_;refine ch NT (λr M1 h=>?_) λ_ _ h=>h
  have KZ:=go M1 h;have g1:=KZ.1;have g2:=KZ.2.1;have g3:=KZ.2.2;unfold bB at g2;clear NT go h;refine ah ?_;refine aN ?_;refine aO ?_;refine dW ?_;refine aP ?_;refine⟨z1,?_⟩;refine ah ?_;refine aN ?_;refine aO ?_;refine dW ?_;refine aP ?_;refine⟨z2,?_⟩;exact g1
 ·have Mv:=hs htab;clear hs q HE;refine ah ?_;refine kE (b:=aY _) (by simp only[*]<;>rfl) ?_;refine a0 (o:=bA _ _ _ _) (by simp only[*]<;>rfl) ?_;refine ah ?_;refine kE (b:=aY _) (by simp only[*]<;>rfl) ?_;refine bG ?_;refine Mv _ λT' M' I' e'=>?_
  clear hp;have hp:=I'.p;unfold bB at hp;have NT:=fin T' M' I' e';clear fin Mv;refine aK ?_;refine bG ?_;refine ch NT (λr M1 h=>?_) λ_ _ h=>h
  have KZ:=go M1 h;have g1:=KZ.1;have g2:=KZ.2.1;have g3:=KZ.2.2;unfold bB at g2;clear NT go h;refine ah ?_;refine aN ?_;refine aO ?_;refine dW ?_;refine aP ?_;refine⟨z1,?_⟩;refine ah ?_;refine aN ?_;refine aO ?_;refine dW ?_;refine aP ?_;refine⟨z2,?_⟩;exact g1
theorem Jl(I:PI F pr tb rw di kf T0 M0 T M out ws S)(hk:kf<=100)(hN:Nt<=100000)(ht:out.length+s.length<=Nt)(hS:S<=9000)(HE:fi F pr tb rw di kf Nt T0 M0 E)(htab:F.tab=.ref tb)(H:gh kf T x hit)(nx:aY x=TV)(nu:aY u=TV)(hr:fK QL hit=TR s)(q:∀T' M',PI F pr tb rw di kf T0 M0 T' M' (out++s) (ws++[dI u]) (S+2)->aE T T'->Q .none M'):CT (n+7) (.ref 1213) [.ref pr,aB x (aB u aH)] M Q E:=by
 refine ax wx (ks:=[57,111]) ?_;have hp:=I.p;unfold bB at hp;refine ah ?_;refine kE (b:=aY _) (by simp only[*]<;>rfl) ?_;refine a0 (o:=bA _ _ _ _) (by simp only[*]<;>rfl) ?_;refine ah ?_;refine kE (b:=aY _) (by simp only[*]<;>rfl) ?_;refine bG ?_;refine xz I.g hk nx H λT' M' G' e' k'=>?_
 refine(hr).symm▸?_;have I':=I.grow G' e' k';clear hp;have hp:=I'.p;unfold bB at hp;refine aK ?_;refine bG ?_;refine gk I' hN ht (by exact ab [_] X0 cP X0 an hS rfl) HE λM1 I1=>?_
 clear hp;have hp:=I1.p;unfold bB at hp;have hq:=I1.wt;have No:=Uf I1.nes.2.1;have go:=q T' _ (I1.setW (ws++[dI u]) (S+2) (by exact ab [_,_,_] (X0.a ay) ((X1.a N2).a X2) X0 (X2.a (N0.a N1)) aL rfl)) e';refine aj I1.pc λps KY=>?_
 have z1:ws.length<=Ub:=ar (by exact ai [_,_,_] X0 am (X1.a X0) bC X2 an KY.2.2 hS rfl);clear q HE I I1 I';refine ah ?_;refine aN ?_;refine aO ?_;refine dW ?_;refine aP ?_;refine⟨z1,?_⟩;exact go
theorem xI(SS:∀Q',(∀r M',Q .none M'->Q' r M')->CT (n+7) (.ref 1213) [.ref pr,aB x y] M Q' E)(I:PI F pr tb rw di kf T0 M0 T M out ws S):CT (n+8) (.ref 1206) [.ref pr,aB x y] M Q E:=by
 refine ax mI (ks:=[57,111]) ?_;have hp:=I.p;unfold bB at hp;have h1:aD M (aB x y) (.ref 155)=TR TV:=by rfl
 refine aK ?_;simp only[*];exact SS _ λr M' h=>h
theorem Jm:gS [.int 1,.int (-1),.int (-1)]=TR [.int 1,.int 0]:=by rfl
theorem Jn:gS [.int 2,.int (-1),.int (-1)]=TR [.int 2,.int 1,.int 0]:=by rfl
theorem Jo(I:PI F pr tb rw di kf T0 M0 T M out ws S)(hN:Nt<=100000)(ht:out.length+2<=Nt)(hS:S<=9000)(HE:fi F pr tb rw di kf Nt T0 M0 E)(q:∀M',PI F pr tb rw di kf T0 M0 T M' (out++[35,40]) (ws++[pI [41]]++[dI y]++[pI [32]]++[dI x]) (S+5)->Q .none M'):CT (n+8) (.ref 1206) [.ref pr,bW [x,y]] M Q E:=by
 refine ax mI (ks:=[57,111]) ?_;have hp:=I.p;unfold bB at hp;have h1:aD M (bW [x,y]) (.ref 155)=TR TT:=by rfl
 have h2:aD M (bW [x,y]) (.ref 218)=TR TV:=by rfl
 refine aK ?_;refine bG ?_;refine gk I hN ht (by exact ab [_] X0 cP X0 an hS rfl) HE λM1 I1=>?_
 clear hp;have hp:=I1.p;unfold bB at hp;have hq:=I1.wt;have No:=Uf I1.nes.2.1;have J:=((((I1.setW (ws++[pI [41]]) (S+2) (by exact ab [_,_,_] (X0.a ay) ((X1.a N2).a X2) X0 (X2.a (N0.a N1)) aL rfl)).setW (ws++[pI [41]]++[dI y]) (S+3) (by exact ab [_,_,_] (X0.a (X1.a N2)) ((X1.a N3).a X2) X0 (X2.a (N0.a N1)) aL rfl)).setW (ws++[pI [41]]++[dI y]++[pI [32]]) (S+4) (by exact ab [_,_,_] (X0.a (X1.a N3)) ((X1.a N4).a X2) X0 (X2.a (N0.a N1)) aL rfl)).setW (ws++[pI [41]]++[dI y]++[pI [32]]++[dI x]) (S+5) (by exact ab [_,_,_] (X0.a (X1.a N4)) ((X1.a N5).a X2) X0 (X2.a (N0.a N1)) aL rfl));have go:=q _ J;refine aj I1.pc λps KY=>?_
 have h3:=KY.2.2;have z1:ws.length<=Ub:=ar (by exact ai [_,_,_] X0 am (X1.a X0) bC X2 an h3 hS rfl);have z2:(ws++[pI [41]]).length<=Ub:=ar (by exact bU [_,_,_,_] X0 am X0 (X1.a (N0.a N1)) (X2.a X1) (X3.a N1) X3 an aL h3 hS rfl);have z3:(ws++[pI [41]]++[dI y]).length<=Ub:=ar (by exact bU [_,_,_,_] X0 am X0 ((X1.a (N0.a N1)).a (N0.a N1)) (X2.a X1) (X3.a N1) X3 an d7 h3 hS rfl);have z4:(ws++[pI [41]]++[dI y]++[pI [32]]).length<=Ub:=ar (by exact bU [_,_,_,_] X0 am X0 (((X1.a (N0.a N1)).a (N0.a N1)).a (N0.a N1)) (X2.a X1) (X3.a N1) X3 an fu h3 hS rfl);have r2:=Jm;clear q HE I I1 J;refine ah ?_;refine aN ?_;refine aO ?_;refine aP ?_;refine⟨z1,?_⟩
 conv=>whnf
 simp only[UH,aau,Uc, *];refine⟨by decide,?_⟩
 conv=>whnf
 simp only[Uz, *];refine dB (ρ1:=ag [(57,.ref pr),(111,bW [x,y])] 98 (.int 1)) rfl ?_;refine ah ?_;refine aN ?_;refine aO ?_;refine aP ?_;refine⟨z2,?_⟩;refine ah ?_;refine aN ?_;refine aO ?_;refine aP ?_;refine⟨z3,?_⟩;refine dB (ρ1:=ag [(57,.ref pr),(111,bW [x,y]),(98,.int 1)] 98 (.int 0)) rfl ?_;refine ah ?_;refine aN ?_;refine aO ?_;refine aP ?_;refine⟨z4,?_⟩;exact eq go
end
end
section
variable[HasP]
variable{n:Nat}{Q:PQ}{E:PE}
section
variable{F:ey}{pr tb rw di:TX}{kf Nt:Nat}{T0 T:au}{M0 M:aa}{out:List Nat}{ws:List V}{S:Nat}{K:PK}{ρ:af}
theorem Jp(I:PI F pr tb rw di kf T0 M0 T M out ws S)(hN:Nt<=100000)(ht:out.length+2<=Nt)(hS:S<=9000)(HE:fi F pr tb rw di kf Nt T0 M0 E)(q:∀M',PI F pr tb rw di kf T0 M0 T M' (out++[35,40]) (ws++[pI [41]]++[dI z]++[pI [32]]++[dI y]++[pI [32]]++[dI x]) (S+7)->Q .none M'):CT (n+8) (.ref 1206) [.ref pr,bW [x,y,z]] M Q E:=by
 refine ax mI (ks:=[57,111]) ?_;have hp:=I.p;unfold bB at hp;have h1:aD M (bW [x,y,z]) (.ref 155)=TR TT:=by rfl
 have h2:aD M (bW [x,y,z]) (.ref 218)=TR TV:=by rfl
 refine aK ?_;simp only[*];refine gk I hN ht (by exact ab [_] X0 cP X0 an hS rfl) HE λM1 I1=>?_
 clear hp;have hp:=I1.p;unfold bB at hp;have hq:=I1.wt;have No:=Uf I1.nes.2.1;have J:=((((((I1.setW (ws++[pI [41]]) (S+2) (by exact ab [_,_,_] (X0.a ay) ((X1.a N2).a X2) X0 (X2.a (N0.a N1)) aL rfl)).setW (ws++[pI [41]]++[dI z]) (S+3) (by exact ab [_,_,_] (X0.a (X1.a N2)) ((X1.a N3).a X2) X0 (X2.a (N0.a N1)) aL rfl)).setW (ws++[pI [41]]++[dI z]++[pI [32]]) (S+4) (by exact ab [_,_,_] (X0.a (X1.a N3)) ((X1.a N4).a X2) X0 (X2.a (N0.a N1)) aL rfl)).setW (ws++[pI [41]]++[dI z]++[pI [32]]++[dI y]) (S+5) (by exact ab [_,_,_] (X0.a (X1.a N4)) ((X1.a N5).a X2) X0 (X2.a (N0.a N1)) aL rfl)).setW (ws++[pI [41]]++[dI z]++[pI [32]]++[dI y]++[pI [32]]) (S+6) (by exact ab [_,_,_] (X0.a (X1.a N5)) ((X1.a N6).a X2) X0 (X2.a (N0.a N1)) aL rfl)).setW (ws++[pI [41]]++[dI z]++[pI [32]]++[dI y]++[pI [32]]++[dI x]) (S+7) (by exact ab [_,_,_] (X0.a (X1.a N6)) ((X1.a N7).a X2) X0 (X2.a (N0.a N1)) aL rfl));have go:=q _ J;refine aj I1.pc λps KY=>?_
 have h3:=KY.2.2;have z1:ws.length<=Ub:=ar (by exact ai [_,_,_] X0 am (X1.a X0) bC X2 an h3 hS rfl);have z2:(ws++[pI [41]]).length<=Ub:=ar (by exact bU [_,_,_,_] X0 am X0 (X1.a (N0.a N1)) (X2.a X1) (X3.a N1) X3 an aL h3 hS rfl);have z3:(ws++[pI [41]]++[dI z]).length<=Ub:=ar (by exact bU [_,_,_,_] X0 am X0 ((X1.a (N0.a N1)).a (N0.a N1)) (X2.a X1) (X3.a N1) X3 an d7 h3 hS rfl);have z4:(ws++[pI [41]]++[dI z]++[pI [32]]).length<=Ub:=ar (by exact bU [_,_,_,_] X0 am X0 (((X1.a (N0.a N1)).a (N0.a N1)).a (N0.a N1)) (X2.a X1) (X3.a N1) X3 an fu h3 hS rfl);have z5:(ws++[pI [41]]++[dI z]++[pI [32]]++[dI y]).length<=Ub:=ar (by exact bU [_,_,_,_] X0 am X0 ((((X1.a (N0.a N1)).a (N0.a N1)).a (N0.a N1)).a (N0.a N1)) (X2.a X1) (X3.a N1) X3 an hJ h3 hS rfl);have z6:(ws++[pI [41]]++[dI z]++[pI [32]]++[dI y]++[pI [32]]).length<=Ub:=ar (by exact bU [_,_,_,_] X0 am X0 (((((X1.a (N0.a N1)).a (N0.a N1)).a (N0.a N1)).a (N0.a N1)).a (N0.a N1)) (X2.a X1) (X3.a N1) X3 an k7 h3 hS rfl);have r2:=Jn;clear q HE I I1 J;refine ah ?_;refine aN ?_;refine aO ?_;refine aP ?_;simp only[true_and, *]
 conv=>whnf
 simp only[UH,aau,Uc, *];refine⟨by decide,?_⟩
 conv=>whnf
 simp only[Uz, *];refine dB (ρ1:=ag [(57,.ref pr),(111,bW [x,y,z])] 98 (.int 2)) rfl ?_;refine ah ?_;refine aN ?_;refine aO ?_;refine aP ?_;simp only[Uz,true_and, *];refine ah ?_;refine aN ?_;refine aO ?_;refine aP ?_;simp only[Uz,true_and, *];refine dB (ρ1:=ag [(57,.ref pr),(111,bW [x,y,z]),(98,.int 2)] 98 (.int 1)) rfl ?_;refine ah ?_;refine aN ?_;refine aO ?_;refine aP ?_;simp only[Uz,true_and, *];refine ah ?_;refine aN ?_;refine aO ?_;refine aP ?_;simp only[Uz,true_and, *];refine dB (ρ1:=ag [(57,.ref pr),(111,bW [x,y,z]),(98,.int 1)] 98 (.int 0)) rfl ?_;refine ah ?_;refine aN ?_;refine aO ?_;refine aP ?_;simp only[Uz,true_and, *];exact eq go
mutual
inductive Pr(F:ey)(kf:Nat)(T:au):Nat->V->List Nat->Prop
 |atom {v:V} {t:List Nat} (hA:AT F.W F.R v t) (h1:∀M,aD M v (.ref 155)=TR TT) (h2:∀M,aD M v (.ref 218)=TR TT):Pr F kf T 1 v t
 |quo {m:Nat} {x u:V} {hit:List Nat->Bool} {s t:List Nat} (htab:∃tb,F.tab=.ref tb) (H:gh kf T x hit) (nx:aY x=TV) (nu:aY u=TV) (hr:fK QL hit=TR s) (h:Pr F kf T m u t):Pr F kf T (m+2) (aB x (aB u aH)) (s++t)
 |pair {m1 m2:Nat} {x y:V} {t1 t2:List Nat} (hq:kR kf F T x y) (nx:aY x=TV) (ny:aY y=TV) (h1:Pr F kf T m1 x t1) (h2:dQ F kf T m2 y t2):Pr F kf T (m1+m2+3) (aB x y) ([40]++t1++t2)
 |vec2 {m1 m2:Nat} {x y:V} {t1 t2:List Nat} (h1:Pr F kf T m1 x t1) (h2:Pr F kf T m2 y t2):Pr F kf T (m1+m2+7) (bW [x,y]) ([35,40]++t1++[32]++t2++[41])
 |vec3 {m1 m2 m3:Nat} {x y z:V} {t1 t2 t3:List Nat} (h1:Pr F kf T m1 x t1) (h2:Pr F kf T m2 y t2) (h3:Pr F kf T m3 z t3):Pr F kf T (m1+m2+m3+11) (bW [x,y,z]) ([35,40]++t1++[32]++t2++[32]++t3++[41])
inductive dQ(F:ey)(kf:Nat)(T:au):Nat->V->List Nat->Prop
 |emp:dQ F kf T 1 aH [41]
 |pair {m1 m2:Nat} {x y:V} {t1 t2:List Nat} (nx:aY x=TV) (ny:aY y=TV) (h1:Pr F kf T m1 x t1) (h2:dQ F kf T m2 y t2):dQ F kf T (m1+m2+3) (aB x y) ([32]++t1++t2)
 |oth {m:Nat} {y:V} {t:List Nat} (h0:c6 y aH=TR TT) (h1:∀M,aD M y (.ref 155)=TR TT) (h:Pr F kf T m y t):dQ F kf T (m+4) y ([32,46,32]++t++[41])
end
theorem Pr.ext(e:aE T T'){v:V}(h:Pr F kf T m v t):Pr F kf T' m v t:=Pr.rec (motive_1:=λm v t _=>Pr F kf T' m v t) (motive_2:=λm v t _=>dQ F kf T' m v t) (λhA h1 h2=>.atom hA h1 h2) (λhtab H nx nu hr _ ih=>.quo htab (H.ext e) nx nu hr ih) (λhq nx ny _ _ i1 i2=>.pair (hq.ext e) nx ny i1 i2) (λ_ _ i1 i2=>.vec2 i1 i2) (λ_ _ _ i1 i2 i3=>.vec3 i1 i2 i3) .emp (λnx ny _ _ i1 i2=>.pair nx ny i1 i2) (λh0 h1 _ ih=>.oth h0 h1 ih) h
theorem jB(I:PI F pr tb rw di kf T0 M0 T M out (ws++[pI t]) S)(hN:Nt<=100000)(ht:out.length+t.length<=Nt)(hS:S<=9000)(HE:fi F pr tb rw di kf Nt T0 M0 E)(K3:aak ρ 57=TR (.ref pr))(q:∀M' ρ',PI F pr tb rw di kf T0 M0 T M' (out++t) ws (S+1)->aak ρ' 57=TR (.ref pr)->Wh (n+8) ρ' M' gY iC K E):Wh (n+8) ρ M gY iC K E:=by
 refine gm (.inl ⟨rfl,rfl⟩) I (by exact ab [_] X0 cP X0 an hS rfl) K3 λρ' M' I' h'=>?_
 refine gk I' hN ht (by exact ai [_,_] X0 cP X0 X1 X1 an (Uv _ _) hS rfl) HE λM1 I1=>q M1 ρ' ?_ h'
 obtain⟨g,e,k,p,⟨ps,p1,p2,p3⟩,wt,n1,n2,n3,lim⟩:=I1;exact⟨g,e,k,p,⟨ps,p1,p2,by exact ai [_,_,_,_] aI bC aI (X3.a N1) X3 X2 p3 (Uv _ _) rfl⟩,wt,n1,n2,n3,lim⟩
theorem PI.more(I:PI F pr tb rw di kf T0 M0 T M out ws S)(h:S<=S'):PI F pr tb rw di kf T0 M0 T M out ws S':=by obtain⟨g,e,k,p,⟨ps,p1,p2,p3⟩,wt,n1,n2,n3,lim⟩:=I;exact⟨g,e,k,p,⟨ps,p1,p2,by exact ai [_,_,_,_] aI X2 aI X3 X3 X2 p3 h rfl⟩,wt,n1,n2,n3,lim⟩
set_option tactic.hygienic true in
def qX(F:ey)(pr tb rw di:TX)(kf Nt:Nat)(T0:au)(M0:aa)(n:Nat)(K:PK)(E:PE)(w:V->V)(T:au)(m:Nat)(v:V)(t:List Nat):Prop:=∀T1,aE T T1->∀M out ws S ρ,PI F pr tb rw di kf T0 M0 T1 M out (ws++[w v]) S->out.length+t.length<=Nt->S+m<=9000->aak ρ 57=TR (.ref pr)->(∀T' M' ρ',PI F pr tb rw di kf T0 M0 T' M' (out++t) ws (S+m)->aE T1 T'->aak ρ' 57=TR (.ref pr)->Wh (n+8) ρ' M' gY iC K E)->Wh (n+8) ρ M gY iC K E
theorem Jq(hr:2<=F.R)(K4:F.R<=16)(hk:kf<=100)(hN:Nt<=100000)(htab:F.tab=.none\/F.tab=.ref tb)(HE:fi F pr tb rw di kf Nt T0 M0 E){v:V}(h:Pr F kf T m v t):qX F pr tb rw di kf Nt T0 M0 n K E dI T m v t:=by
 refine Pr.rec (motive_1:=λm v t _=>qX F pr tb rw di kf Nt T0 M0 n K E dI T m v t) (motive_2:=λm v t _=>qX F pr tb rw di kf Nt T0 M0 n K E tI T m v t) ?_ ?_ ?_ ?_ ?_ ?_ ?_ ?_ h
 ·intro v t hA h1 h2 Ta ea M out ws S ρ I ht hS K3 q;refine gm (.inr (.inl ⟨rfl,rfl⟩)) I (by exact ab [_,_] X0 cP aI an hS rfl) K3 λρ' M' I' h'=>?_
  exact Jg hr K4 I' hN ht (by exact ai [_,_] X0 cP X0 X1 ay an (Uv _ _) hS rfl) HE hA h1 h2 λM1 I1=>q Ta M1 ρ' (I1.more (by exact ab [_,_] ad ay X0 X1 (Uv _ _) rfl)) .refl h'
 ·intro m' x u hit s t' O7 H nx nu ST h ih Ta ea M out ws S ρ I ht hS K3 q;refine gm (.inr (.inl ⟨rfl,rfl⟩)) I (by exact ab [_,_] X0 cP aI an hS rfl) K3 λρ' M' I' h'=>?_
  have SU:F.tab=.ref tb:=by
   obtain⟨TC,e⟩:=O7;rcases htab with z|z
   ·rw[z]at e;cases e
   ·exact z
  rw[Ui]at ht;refine xI (λQ' hQ=>Jl I' hk hN (by exact ab [_,_,_,_] aI X2 (X0.a (X1.a X3)) X2 ht rfl) (by exact ai [_,_,_] X0 an X0 X1 (X1.a (X2.a N2)) an (Uv _ _) hS rfl) HE SU (H.ext ea) nx nu ST λT1 M1 I1 e1=>hQ .none M1 ?_) I';refine ih T1 (ea.trans e1) M1 _ _ _ ρ' I1 (by rw[Ui];exact ab [_,_,_,_] (aI.a X2) X3 (X0.a cu) X3 ht rfl) (by exact ai [_,_,_] ((X0.a N2).a X1) an X0 X2 (X2.a (X1.a N2)) an (Uv _ _) hS rfl) h' λT2 M2 Lg I2 e2 h2=>?_
  exact q T2 M2 Lg (by rw[<-Uu];exact I2.more (by exact ab [_,_,_] ((X0.a N2).a X1) (X2.a (X1.a N2)) X0 X2 (Uv _ _) rfl)) (e1.trans e2) h2
 ·intro m1 m2 x y t1 t2 hq nx ny h1 h2 i1 i2 Ta ea M out ws S ρ I ht hS K3 q;refine gm (.inr (.inl ⟨rfl,rfl⟩)) I (by exact ab [_,_] X0 cP aI an hS rfl) K3 λρ' M' I' h'=>?_
  simp only[Ui,aau,Uc]at ht;refine xI (λQ' hQ=>Jk I' hk hN (by exact ab [_,_,_,_] ad X1 (X0.a (((N0.a N1).a X2).a X3)) X1 ht rfl) (by exact ai [_,_,_,_] X0 an X0 X1 (X1.a ((X2.a X3).a N3)) an (Uv _ _) hS rfl) HE htab (hq.ext ea) nx ny λT1 M1 I1 e1=>hQ .none M1 ?_) I';refine i1 T1 (ea.trans e1) M1 _ _ _ ρ' I1 (by exact ai [_,_,_,_,_] aI X2 X0 (X3.a (N0.a N1)) (X3.a (((N0.a N1).a X1).a X4)) X2 aL ht rfl) (by exact ai [_,_,_,_] ((X0.a N3).a X1) an X0 X2 (X2.a ((X1.a X3).a N3)) an (Uv _ _) hS rfl) h' λT2 M2 Lg I2 e2 g2=>?_
  refine i2 T2 (ea.trans (e1.trans e2)) M2 _ _ _ Lg I2 (by exact ai [_,_,_,_,_] aI X2 X0 ((X3.a (N0.a N1)).a X4) (X3.a (((N0.a N1).a X4).a X1)) X2 d7 ht rfl) (by exact ai [_,_,_,_] (((X0.a N3).a X1).a X2) an X0 X3 (X3.a (cu.a N3)) an (Uv _ _) hS rfl) g2 λT3 M3 LE I3 e3 g3=>?_
  exact q T3 M3 LE (by rw[k9];exact I3.more (S':=S+(m1+m2+3)) (by exact ab [_,_,_,_] (((X0.a N3).a X1).a X2) (X3.a (cu.a N3)) X0 X3 (Uv _ _) rfl)) ((e1.trans e2).trans e3) g3
 ·intro m1 m2 x y t1 t2 h1 h2 i1 i2 Ta ea M out ws S ρ I ht hS K3 q;refine gm (.inr (.inl ⟨rfl,rfl⟩)) I (by exact ab [_,_] X0 cP aI an hS rfl) K3 λρ' M' I' h'=>?_
  simp only[Ui,aau,Uc]at ht;refine Jo I' hN (by exact ab [_,_,_,_] (X0.a N2) X1 (X0.a ((((((N0.a N1).a N1).a X2).a (N0.a N1)).a X3).a (N0.a N1))) X1 ht rfl) (by exact ai [_,_,_,_] X0 an X0 X1 (X1.a ((X2.a X3).a N7)) an (Uv _ _) hS rfl) HE λM1 I1=>?_
  refine i1 Ta ea M1 _ _ _ ρ' I1 (by exact ai [_,_,_,_,_] aI X2 X0 (X3.a ((N0.a N1).a N1)) (X3.a ((((((N0.a N1).a N1).a X1).a (N0.a N1)).a X4).a (N0.a N1))) X2 aL ht rfl) (by exact ai [_,_,_,_] ((X0.a N5).a X1) an X0 X2 (X2.a ((X1.a X3).a N7)) an (Uv _ _) hS rfl) h' λT2 M2 Lg I2 e2 g2=>?_
  refine jB I2 hN (by exact ai [_,_,_,_,_] (X0.a (N0.a N1)) X1 (X2.a ((((((N0.a N1).a N1).a X3).a (N0.a N1)).a X4).a (N0.a N1))) X1 X0 ((X2.a ((N0.a N1).a N1)).a X3) ht d7 rfl) (by exact ai [_,_,_,_] ((X0.a N5).a X1) an X0 X2 (X2.a ((X1.a X3).a N7)) an (Uv _ _) hS rfl) HE g2 λM3 LE I3 g3=>?_
  refine i2 T2 (ea.trans e2) M3 _ _ _ LE I3 (by exact ai [_,_,_,_,_] aI X2 X0 (((X3.a ((N0.a N1).a N1)).a X4).a (N0.a N1)) (X3.a ((((((N0.a N1).a N1).a X4).a (N0.a N1)).a X1).a (N0.a N1))) X2 fu ht rfl) (by exact ai [_,_,_,_] ((((X0.a N5).a X1).a N1).a X2) an X0 X3 (X3.a (cu.a N7)) an (Uv _ _) hS rfl) g3 λT4 M4 O8 I4 e4 g4=>?_
  refine jB I4 hN (by exact ai [_,_,_,_,_] (X0.a (N0.a N1)) X1 (X2.a ((((((N0.a N1).a N1).a X3).a (N0.a N1)).a X4).a (N0.a N1))) X1 X0 ((((X2.a ((N0.a N1).a N1)).a X3).a (N0.a N1)).a X4) ht hJ rfl) (by exact ai [_,_,_,_] ((((X0.a N5).a X1).a N1).a X2) an X0 X3 (X3.a (cu.a N7)) an (Uv _ _) hS rfl) HE g4 λM5 Op I5 g5=>?_
  exact q T4 M5 Op (by rw[rO];exact I5.more (S':=S+(m1+m2+7)) (by exact ab [_,_,_,_] (((((X0.a N5).a X1).a N1).a X2).a N1) (X3.a (cu.a N7)) X0 X3 (Uv _ _) rfl)) (e2.trans e4) g5
 ·intro m1 m2 m3 x y z t1 t2 t3 h1 h2 h3 i1 i2 i3 Ta ea M out ws S ρ I ht hS K3 q;refine gm (.inr (.inl ⟨rfl,rfl⟩)) I (by exact ab [_,_] X0 cP aI an hS rfl) K3 λρ' M' I' h'=>?_
  simp only[Ui,aau,Uc]at ht;refine Jp I' hN (by exact ab [_,_,_,_,_] (X0.a N2) X1 (X0.a ((((((((N0.a N1).a N1).a X2).a (N0.a N1)).a X3).a (N0.a N1)).a X4).a (N0.a N1))) X1 ht rfl) (by exact ai [_,_,_,_,_] X0 an X0 X1 (X1.a (((X2.a X3).a X4).a (Ar.n 11))) an (Uv _ _) hS rfl) HE λM1 I1=>?_
  refine i1 Ta ea M1 _ _ _ ρ' I1 (by exact ai [_,_,_,_,_,_] aI X2 X0 (X3.a ((N0.a N1).a N1)) (X3.a ((((((((N0.a N1).a N1).a X1).a (N0.a N1)).a X4).a (N0.a N1)).a X5).a (N0.a N1))) X2 aL ht rfl) (by exact ai [_,_,_,_,_] ((X0.a N7).a X1) an X0 X2 (X2.a (((X1.a X3).a X4).a (Ar.n 11))) an (Uv _ _) hS rfl) h' λT2 M2 Lg I2 e2 g2=>?_
  refine jB I2 hN (by exact ai [_,_,_,_,_,_] (X0.a (N0.a N1)) X1 (X2.a ((((((((N0.a N1).a N1).a X3).a (N0.a N1)).a X4).a (N0.a N1)).a X5).a (N0.a N1))) X1 X0 ((X2.a ((N0.a N1).a N1)).a X3) ht d7 rfl) (by exact ai [_,_,_,_,_] ((X0.a N7).a X1) an X0 X2 (X2.a (((X1.a X3).a X4).a (Ar.n 11))) an (Uv _ _) hS rfl) HE g2 λM3 LE I3 g3=>?_
  refine i2 T2 (ea.trans e2) M3 _ _ _ LE I3 (by exact ai [_,_,_,_,_,_] aI X2 X0 (((X3.a ((N0.a N1).a N1)).a X4).a (N0.a N1)) (X3.a ((((((((N0.a N1).a N1).a X4).a (N0.a N1)).a X1).a (N0.a N1)).a X5).a (N0.a N1))) X2 fu ht rfl) (by exact ai [_,_,_,_,_] ((((X0.a N7).a X1).a N1).a X2) an X0 X3 (X3.a ((cu.a X4).a (Ar.n 11))) an (Uv _ _) hS rfl) g3 λT4 M4 O8 I4 e4 g4=>?_
  refine jB I4 hN (by exact ai [_,_,_,_,_,_] (X0.a (N0.a N1)) X1 (X2.a ((((((((N0.a N1).a N1).a X3).a (N0.a N1)).a X4).a (N0.a N1)).a X5).a (N0.a N1))) X1 X0 ((((X2.a ((N0.a N1).a N1)).a X3).a (N0.a N1)).a X4) ht hJ rfl) (by exact ai [_,_,_,_,_] ((((X0.a N7).a X1).a N1).a X2) an X0 X3 (X3.a ((cu.a X4).a (Ar.n 11))) an (Uv _ _) hS rfl) HE g4 λM5 Op I5 g5=>?_
  refine i3 T4 (ea.trans (e2.trans e4)) M5 _ _ _ Op I5 (by exact ai [_,_,_,_,_,_] aI X2 X0 (((((X3.a ((N0.a N1).a N1)).a X4).a (N0.a N1)).a X5).a (N0.a N1)) (X3.a ((((((((N0.a N1).a N1).a X4).a (N0.a N1)).a X5).a (N0.a N1)).a X1).a (N0.a N1))) X2 k7 ht rfl) (by exact ai [_,_,_,_,_] ((((((X0.a N7).a X1).a N1).a X2).a N1).a X3) an X0 X4 (X4.a ((cu.a X3).a (Ar.n 11))) an (Uv _ _) hS rfl) g5 λT6 M6 SV I6 e6 g6=>?_
  refine jB I6 hN (by exact ai [_,_,_,_,_,_] (X0.a (N0.a N1)) X1 (X2.a ((((((((N0.a N1).a N1).a X3).a (N0.a N1)).a X4).a (N0.a N1)).a X5).a (N0.a N1))) X1 X0 ((((((X2.a ((N0.a N1).a N1)).a X3).a (N0.a N1)).a X4).a (N0.a N1)).a X5) ht nN rfl) (by exact ai [_,_,_,_,_] ((((((X0.a N7).a X1).a N1).a X2).a N1).a X3) an X0 X4 (X4.a ((cu.a X3).a (Ar.n 11))) an (Uv _ _) hS rfl) HE g6 λM7 SW I7 g7=>?_
  exact q T6 M7 SW (by rw[yz];exact I7.more (S':=S+(m1+m2+m3+11)) (by exact ab [_,_,_,_,_] (((((((X0.a N7).a X1).a N1).a X2).a N1).a X3).a N1) (X4.a ((cu.a X3).a (Ar.n 11))) X0 X4 (Uv _ _) rfl)) ((e2.trans e4).trans e6) g7
 ·intro Ta ea M out ws S ρ I ht hS K3 q;refine gm (.inr (.inr ⟨rfl,rfl⟩)) I (by exact ab [_,_] X0 cP aI an hS rfl) K3 λρ' M' I' h'=>?_
  exact Jh I' hN ht (by exact ai [_,_] X0 cP X0 X1 ay an (Uv _ _) hS rfl) HE λM1 I1=>q Ta M1 ρ' (I1.more (by exact ab [_,_] ad ay X0 X1 (Uv _ _) rfl)) .refl h'
 ·intro m1 m2 x y t1 t2 nx ny h1 h2 i1 i2 Ta ea M out ws S ρ I ht hS K3 q;refine gm (.inr (.inr ⟨rfl,rfl⟩)) I (by exact ab [_,_] X0 cP aI an hS rfl) K3 λρ' M' I' h'=>?_
  simp only[Ui,aau,Uc]at ht;refine Ji I' hN (by exact ab [_,_,_,_] ad X1 (X0.a (((N0.a N1).a X2).a X3)) X1 ht rfl) (by exact ai [_,_,_,_] X0 an X0 X1 (X1.a ((X2.a X3).a N3)) an (Uv _ _) hS rfl) HE nx ny λM1 I1=>?_
  refine i1 Ta ea M1 _ _ _ ρ' I1 (by exact ai [_,_,_,_,_] aI X2 X0 (X3.a (N0.a N1)) (X3.a (((N0.a N1).a X1).a X4)) X2 aL ht rfl) (by exact ai [_,_,_,_] ((X0.a N3).a X1) an X0 X2 (X2.a ((X1.a X3).a N3)) an (Uv _ _) hS rfl) h' λT2 M2 Lg I2 e2 g2=>?_
  refine i2 T2 (ea.trans e2) M2 _ _ _ Lg I2 (by exact ai [_,_,_,_,_] aI X2 X0 ((X3.a (N0.a N1)).a X4) (X3.a (((N0.a N1).a X4).a X1)) X2 d7 ht rfl) (by exact ai [_,_,_,_] (((X0.a N3).a X1).a X2) an X0 X3 (X3.a (cu.a N3)) an (Uv _ _) hS rfl) g2 λT3 M3 LE I3 e3 g3=>?_
  exact q T3 M3 LE (by rw[k9];exact I3.more (S':=S+(m1+m2+3)) (by exact ab [_,_,_,_] (((X0.a N3).a X1).a X2) (X3.a (cu.a N3)) X0 X3 (Uv _ _) rfl)) (e2.trans e3) g3
 ·intro m' v t' h0 h1 h ih Ta ea M out ws S ρ I ht hS K3 q;refine gm (.inr (.inr ⟨rfl,rfl⟩)) I (by exact ab [_,_] X0 cP aI an hS rfl) K3 λρ' M' I' h'=>?_
  simp only[Ui,aau,Uc]at ht;refine Jj I' hN (by exact ab [_,_,_] (X0.a N3) X1 (X0.a (((((N0.a N1).a N1).a N1).a X2).a (N0.a N1))) X1 ht rfl) (by exact ai [_,_,_] X0 an X0 X1 (X1.a (X2.a N4)) an (Uv _ _) hS rfl) HE h0 h1 λM1 I1=>?_
  refine ih Ta ea M1 _ _ _ ρ' I1 (by exact ai [_,_,_,_] aI X2 X0 (X3.a (((N0.a N1).a N1).a N1)) (X3.a (((((N0.a N1).a N1).a N1).a X1).a (N0.a N1))) X2 aL ht rfl) (by exact ai [_,_,_] ((X0.a N3).a X1) an X0 X2 (X2.a (X1.a N4)) an (Uv _ _) hS rfl) h' λT2 M2 Lg I2 e2 g2=>?_
  refine jB I2 hN (by exact ai [_,_,_,_] (X0.a (N0.a N1)) X1 (X2.a (((((N0.a N1).a N1).a N1).a X3).a (N0.a N1))) X1 X0 ((X2.a (((N0.a N1).a N1).a N1)).a X3) ht d7 rfl) (by exact ai [_,_,_] ((X0.a N3).a X1) an X0 X2 (X2.a (X1.a N4)) an (Uv _ _) hS rfl) HE g2 λM3 LE I3 g3=>?_
  exact q T2 M3 LE (by rw[k9];exact I3.more (S':=S+(m'+4)) (by exact ab [_,_,_] (((X0.a N3).a X1).a N1) (X2.a (X1.a N4)) X0 X2 (Uv _ _) rfl)) e2 g3
end
end
section
variable[HasP]
variable{n:Nat}{Q:PQ}{E:PE}
section
variable{F:ey}{pr tb rw di:TX}{kf Nt:Nat}{T0 T:au}{M0 M:aa}
theorem xJ{v:V}(hr:2<=F.R)(K4:F.R<=16)(hk:kf<=100)(hN:t.length<=100000)(htab:F.tab=.none\/F.tab=.ref tb)(hm:m<=8000)(I:PI F pr tb rw di kf T0 M0 T M [] [] 0)(hP:Pr F kf T m v t)(HE:fi F pr tb rw di kf t.length T0 M0 E)(q:∀T' M',PI F pr tb rw di kf T0 M0 T' M' t [] (1+m)->Q (.str t) M'):CT (n+9) (.ref 1192) [.ref pr,v] M Q E:=by
 refine ax GI (ks:=[57,114]) ?_;have hp:=I.p;unfold bB at hp;have hq:=I.wt;have z0:(0:Nat)<=Ub:=by decide
 have J:=I.setW [dI v] 1 (by exact TY _);refine ah ?_;refine aN ?_;refine aO ?_;refine aP ?_;simp only[Uc,true_and, *]
 conv=>whnf
 simp only[*];refine Jq (K:=_) (E:=E) hr K4 hk hN htab HE hP T .refl _ [] [] 1 _ J (by simp) (by exact ab [_] (N1.a X0) an X0 (Ar.n 8000) hm rfl) rfl λT' M' ρ' I' e' h'=>?_
 simp only[VV]at I';clear hp hq;have hp:=I'.p;unfold bB at hp;have hw:=I'.wt;refine aj I'.pc λps KY=>?_
 have h1:=KY.1;have h2:=KY.2.1;have h3:=KY.2.2;have hs:=kJ ps;have q':=q T' M' I';refine bF ?_;have z:ps.flatten.length<=16777216:=by rw[h2];exact ab [_] X0 (Ar.n 16777216) X0 am hN rfl
 unfold gY;clear I J q HE I';refine ac ?_;refine ah ?_;simp only[*];refine .inl ?_
 conv=>whnf
 simp only[Uc,reduceIte,bT,cj,bA,cT,cn, *];refine ac ?_;refine ah ?_;refine wa ‹_› ?_;refine ac ?_;simp only[*];exact⟨by rw[<-h2];exact z,q'⟩
theorem qY(k0:Kp [] M M1)(k:Kp [x,y,a,b,c] M1 M')(ha:aak M a=TW)(hb:aak M b=TW)(hc:aak M c=TW):Kp [x,y] M M':=by intro w o hw e;refine k w o ?_ (k0 w o (by simp) e);simp only[Uk,Um,or_false,not_or]at hw⊢;exact⟨hw.1,hw.2,λz=>(by rw[z,ha]at e;exact nn e),λz=>(by rw[z,hb]at e;exact nn e),λz=>(by rw[z,hc]at e;exact nn e)⟩
end
section
variable{tb rw di:TX}{kf:Nat}{T:au}{M:aa}{R:Nat}{lim:V}{v:V}{t:List Nat}{m:Nat}
theorem xK(hr:2<=R)(K4:R<=16)(hk:kf<=100)(hN:t.length<=100000)(hm:m<=8000)(O9:lim=.none\/∃L:Nat,lim=.int L)(G:TG tb rw di kf T M)(hP:∀pc wt,Pr ⟨TV,R,lim,.ref tb,pc,wt⟩ kf T m v t)(HE:∀T' M' L,TG tb rw di kf T' M'->aE T T'->Kp [rw,di] M M'->lim=.int (L:Nat)->L<t.length->E (ng L) M')(q:∀T' M',TG tb rw di kf T' M'->aE T T'->Kp [rw,di] M M'->(lim=.none\/∃L:Nat,lim=.int L/\t.length<=L)->Q (.str t) M'):CT (n+10) (.ref 1242) [v,.int 53,.int R,lim,.ref tb] M Q E:=by
 refine ax GL (ks:=[114,235,140,134,101]) ?_;refine wM λpr pc wt M1 h1 h2 h3 Lb k0 g1 g2 g3=>?_
 have n2:pc≠rw:=λe=>by rw[e,G.rows]at g2;exact ns g2
 have n3:wt≠rw:=λe=>by rw[e,G.rows]at g3;exact ns g3
 have go:CT (n+9) (.ref 1192) [.ref pr,v] M1 Q E:=by
  refine xJ (F:=⟨TV,R,lim,.ref tb,pc,wt⟩) (T0:=T) (T:=T) (M0:=M1) hr K4 hk hN (.inr rfl) hm ⟨G.keep k0 (by simp) (by simp) (by simp),.refl,.refl,?_,⟨[],h2,rfl,by decide⟩,h3,Lb,n2,n3,?_⟩ (hP pc wt) (λT' M' L G' e' k' hl hL=>HE T' M' L G' e' (qY k0 k' g1 g2 g3) hl hL) λT' M' I'=>?_
  ·simpa[bB]using h1
  ·rcases O9 with h|⟨L,h⟩
   ·exact .inl h
   ·exact .inr ⟨L,h,by exact VF _⟩
  ·exact q T' M' I'.g I'.e (qY k0 I'.k g1 g2 g3) I'.lim
 refine aK ?_;simp only[*];assumption
theorem xM(hk:kf<=100)(hN:t.length<=100000)(hm:m<=8000)(G:TG tb rw di kf T M)(hP:∀pc wt,Pr ⟨TT,10,.none,.none,pc,wt⟩ kf T m v t)(q:∀T' M',TG tb rw di kf T' M'->aE T T'->Kp [rw,di] M M'->Q (.str t) M'):CT (n+10) (.ref 1250) [v] M Q E:=by
 refine ax GN (ks:=[114,235,140,134]) ?_;refine wM λpr pc wt M1 h1 h2 h3 Lb k0 g1 g2 g3=>?_
 have n2:pc≠rw:=λe=>by rw[e,G.rows]at g2;exact ns g2
 have n3:wt≠rw:=λe=>by rw[e,G.rows]at g3;exact ns g3
 have go:CT (n+9) (.ref 1192) [.ref pr,v] M1 Q E:=by
  refine xJ (F:=⟨TT,10,.none,.none,pc,wt⟩) (T0:=T) (T:=T) (M0:=M1) (show 2<=10 by exact aw [] N2 (Ar.n 10) rfl) (show 10<=16 by exact aw [] (Ar.n 10) (Ar.n 16) rfl) hk hN (.inl rfl) hm ⟨G.keep k0 (by simp) (by simp) (by simp),.refl,.refl,?_,⟨[],h2,rfl,by decide⟩,h3,Lb,n2,n3,.inl rfl⟩ (hP pc wt) (λT' M' L G' e' k' hl hL=>by cases hl) λT' M' I'=>?_
  ·simpa[bB]using h1
  ·exact q T' M' I'.g I'.e (qY k0 I'.k g1 g2 g3)
 refine aK ?_;simp only[*];assumption
end
end
section
noncomputable def cK:X:=.cmp .NotEq (.loc 187) (.lst [])
noncomputable def cX:List XS:=[.asg 111 (.meth (.loc 187) 23 []),.ite (.call (.cst (.bi "isinstance")) [(.loc 111),(.cst (.ref 155))]) [.expr (.meth (.loc 187) 146 [(.attr (.loc 111) 26)]),.expr (.meth (.loc 187) 146 [(.attr (.loc 111) 25)])] [.ite (.call (.cst (.bi "isinstance")) [(.loc 111),(.cst (.ref 218))]) [.expr (.meth (.loc 187) 147 [(.attr (.loc 111) 171)])] [.ite (.call (.cst (.bi "isinstance")) [(.loc 111),(.cst (.ref 71))]) [.ite (.bor [(.not (.meth (.loc 101) 272 [(.loc 111)])),(.not (.call (.cst (.ref 1150)) [(.attr (.loc 111) 88)]))]) [.ret (.cst (.bool TT))] []] [.ite (.band [(.cmp .IsNot (.loc 111) (.cst (.ido 44 38 [(104,(.str [101,109,112,116,121]))]))),(.cmp .IsNot (.call (.cst (.ref 1171)) [(.loc 111)]) (.cst .none))]) [.ret (.cst (.bool TT))] []]]]]
inductive cL(T:au):Nat->V->Bool->Prop
 |sym {a k:Nat} {l:List Nat} {i:Bool} (h:T[k]? =TR ⟨a,l,i⟩) (hl:l.length<=100):cL T 1 (aW a k l) (i&&(decide (l.map bp=l)&&db l))
 |odd {v:V} {t:List Nat} (h:eP v t) (h0:c6 v aH=TR TT) (h1:∀M,aD M v (.ref 155)=TR TT) (h2:∀M,aD M v (.ref 218)=TR TT) (h3:∀M,aD M v (.ref 71)=TR TT):cL T 1 v TT
 |emp:cL T 1 aH TV
 |oth {v:V} (h0:c6 v aH=TR TT) (h1:∀M,aD M v (.ref 155)=TR TT) (h2:∀M,aD M v (.ref 218)=TR TT) (h3:∀M,aD M v (.ref 71)=TR TT) (g1:∀M,aD M v (.ref 38)=TR TT) (g2:∀M,aD M v (.ref 302)=TR TT) (g3:∀M,aD M v (.ref 260)=TR TT) (g4:∀M,aD M v (.ref 239)=TR TT) (g5:∀M,aD M v (.ref 281)=TR TT):cL T 1 v TV
 |pair {m1 m2:Nat} {x y:V} {b1 b2:Bool} (nx:aY x=TV) (ny:aY y=TV) (h1:cL T m1 x b1) (h2:cL T m2 y b2):cL T (m1+m2+3) (aB x y) (b1&&b2)
 |vec2 {m1 m2:Nat} {x y:V} {b1 b2:Bool} (h1:cL T m1 x b1) (h2:cL T m2 y b2):cL T (m1+m2+3) (bW [x,y]) (b1&&b2)
variable[HasP]
variable{n:Nat}{Q:PQ}{E:PE}
section
variable{tb rw di wa:TX}{kf:Nat}{T:au}{M0 M:aa}{K:PK}
structure RI(tb rw di wa:TX)(kf:Nat)(T:au)(M0:aa)(ws:List V)(M:aa)(ρ:af):Prop where
 g:TG tb rw di kf T M
 k:Kp [wa] M0 M
 w:aak M wa=TR (.list ws)
 n1:wa≠tb
 n2:wa≠rw
 n3:wa≠di
 l1:aak ρ 187=TR (.ref wa)
 l2:aak ρ 101=TR (.ref tb)
theorem RI.set{ws ws':List V}{ρ ρ':af}(I:RI tb rw di wa kf T M0 ws M ρ)(l1:aak ρ' 187=TR (.ref wa))(l2:aak ρ' 101=TR (.ref tb)):RI tb rw di wa kf T M0 ws' (ag M wa (.list ws')) ρ':=⟨I.g.keep (S:=[wa]) (Kp.put (.head _)) (by simp[Uf I.n1]) (by simp[Uf I.n2]) (by simp[Uf I.n3]),I.k.trans (Kp.put (.head _)),by rw[ak,if_pos rfl],I.n1,I.n2,I.n3,l1,l2⟩
theorem RI.keep(I:RI tb rw di wa kf T M0 ws M ρ)(k:Kp [] M M'):RI tb rw di wa kf T M0 ws M' ρ:=⟨I.g.keep k (by simp) (by simp) (by simp),I.k.trans (k.mono (by exactλ_ h=>absurd h UX)),k _ _ (by simp) I.w,I.n1,I.n2,I.n3,I.l1,I.l2⟩
theorem Jr{l:List Nat}(I:RI tb rw di wa kf T M0 (ws++[aW a k l]) M ρ)(hz:ws.length<=9000)(h:T[k]? =TR ⟨a,l,i⟩)(hl:l.length<=100)(q:(i&&(decide (l.map bp=l)&&db l))=TV->∀ρ' M',RI tb rw di wa kf T M0 ws M' ρ'->Wh (n+6) ρ' M' cK cX K E)(q':(i&&(decide (l.map bp=l)&&db l))=TT->∀ρ' M',Kp [wa] M0 M'->K (.ret (.bool TT)) ρ' M'):Wh (n+6) ρ M cK cX K E:=by
 have hw:=I.w;have h1:=I.l1;have h2:=I.l2;have g1:=I.g.tbl;have n1:=I.n1;have k0:=I.k;have J0:=I.set (ws':=ws) (ρ':=ag ρ 111 (aW a k l)) (by exact(aS rfl).trans h1) (by exact(aS rfl).trans h2);have Mx:=Uf n1;have e1:¬((ws++[aW a k l]).length=0):=by simp
 have e2:(ws++[aW a k l]).getLast?=TR (aW a k l):=by simp
 have e3:(ws++[aW a k l]).dropLast=ws:=by simp
 have z:(ws++[aW a k l]).length<=Ub:=ar (by exact ai [_,_] X0 am X0 (X1.a (N0.a N1)) X1 an aL hz rfl);have z1:ws.length<=Ub:=ar (by exact ab [_] X0 am X0 an hz rfl);have i1:∀M,aD M (aW a k l) (.ref 155)=TR TT:=λM=>rfl
 have i2:∀M,aD M (aW a k l) (.ref 218)=TR TT:=λM=>rfl
 have i3:∀M,aD M (aW a k l) (.ref 71)=TR TV:=λM=>rfl
 have in1:CT (n+6) (.ref 124) [.ref tb,aW a k l] (ag M wa (.list ws)) (λr M1=>r=.bool i/\M1=ag M wa (.list ws)) E:=ID J0.g h ⟨rfl,rfl⟩;have SX:CT (n+6) (.ref 1150) [.str l] (ag M wa (.list ws)) (λr M1=>r=.bool (decide (l.map bp=l)&&db l)/\Kp [] (ag M wa (.list ws)) M1) E:=Iv (by exact ab [_] X0 (Ar.n 1000) X0 (Ar.n 100) hl rfl) λM' k=>⟨rfl,k⟩
 have nx:∀M1,(i&&(decide (l.map bp=l)&&db l))=TV->Kp [] (ag M wa (.list ws)) M1->Wh (n+6) (ag ρ 111 (aW a k l)) M1 cK cX K E:=λM1 hb k1=>q hb _ _ (J0.keep k1)
 have nr:∀M1,(i&&(decide (l.map bp=l)&&db l))=TT->Kp [] (ag M wa (.list ws)) M1->K (.ret (.bool TT)) (ag ρ 111 (aW a k l)) M1:=λM1 hb k1=>q' hb _ _ (J0.keep k1).k
 clear q q' J0 I k0 h;refine bF ?_;unfold cK cX at*;generalize Mc:ws++[aW a k l]=dY at hw e1 e2 e3 z;clear Mc
 conv=>whnf
 simp only[h1,hw];refine .inl ?_
 conv=>whnf
 simp only[Uc,reduceIte,UL,bT,cj,bA,cT,cn, *];refine ac ?_;refine aN ?_;refine aO ?_;refine aP ?_;refine ac ?_;refine⟨z,?_⟩;refine ac (o:=aak _ 111) ?_;refine ac (o:=aak _ 111) ?_;refine ac (o:=aak _ 111) ?_;refine bM ?_;refine mN (o:=cm _ _) (by simp only[ak, *]<;>rfl) ?_;refine aK ?_
 conv=>whnf
 simp only[ak,reduceIte, *];refine ch in1 (λr M1 hr=>?_) λ_ _ h=>h
 obtain⟨rfl,rfl⟩:=hr;induction i with
 |false=>exact nr _ rfl .refl
 |true=>
  refine ac (o:=aak _ 111) ?_;refine bG ?_;refine ch SX (λr M1 hr=>?_) λ_ _ h=>h
  obtain⟨rfl,hk⟩:=hr;cases hb:(decide (l.map bp=l)&&db l)with
  |false=>exact nr _ (by simpa using hb) hk
  |true=>exact nx _ (by simpa using hb) hk
theorem Js{v:V}(I:RI tb rw di wa kf T M0 (ws++[v]) M ρ)(hz:ws.length<=9000)(h:eP v t)(h0:c6 v aH=TR TT)(i1:∀M,aD M v (.ref 155)=TR TT)(i2:∀M,aD M v (.ref 218)=TR TT)(i3:∀M,aD M v (.ref 71)=TR TT)(q':∀ρ' M',Kp [wa] M0 M'->K (.ret (.bool TT)) ρ' M'):Wh (n+6) ρ M cK cX K E:=by
 have hw:=I.w;have h1:=I.l1;have h2:=I.l2;have g1:=I.g.tbl;have n1:=I.n1;have k0:=I.k;have J0:=I.set (ws':=ws) (ρ':=ag ρ 111 (v)) (by exact(aS rfl).trans h1) (by exact(aS rfl).trans h2);have Mx:=Uf n1;have e1:¬((ws++[v]).length=0):=by simp
 have e2:(ws++[v]).getLast?=TR (v):=by simp
 have e3:(ws++[v]).dropLast=ws:=by simp
 have z:(ws++[v]).length<=Ub:=ar (by exact ai [_,_] X0 am X0 (X1.a (N0.a N1)) X1 an aL hz rfl);have z1:ws.length<=Ub:=ar (by exact ab [_] X0 am X0 an hz rfl);have in1:CT (n+6) (.ref 1171) [v] (ag M wa (.list ws)) (λr M1=>r=.str t/\M1=ag M wa (.list ws)) E:=qQ h ⟨rfl,rfl⟩;have nr:=q' (ag ρ 111 v) _ J0.k;clear q' J0 I k0;refine bF ?_;unfold cK cX at*;generalize Mc:ws++[v]=dY at hw e1 e2 e3 z;clear Mc
 conv=>whnf
 simp only[h1,hw];refine .inl ?_
 conv=>whnf
 simp only[Uc,reduceIte,UL,bT,cj,bA,cT,cn, *];refine ac ?_;refine aN ?_;refine aO ?_;refine aP ?_;refine ac ?_;refine⟨z,?_⟩
 conv=>whnf
 simp only[ak,reduceIte, *];refine a0 (o:=aD _ _ _) (by simp only[*]<;>rfl) ?_;refine ac (o:=aak _ 111) ?_;refine a0 (o:=aD _ _ _) (by simp only[*]<;>rfl) ?_;refine ac (o:=aak _ 111) ?_;refine a0 (o:=aD _ _ _) (by simp only[*]<;>rfl) ?_;refine ac (o:=aak _ 111) ?_;refine a0 (o:=bA _ _ _ _) (by simp only[UL,bA,cT, *]<;>rfl) ?_;refine ac (o:=aak _ 111) ?_;refine ch in1 (λr M1 hr=>?_) λ_ _ h=>h
 obtain⟨rfl,rfl⟩:=hr;exact nr
theorem Jt(I:RI tb rw di wa kf T M0 (ws++[aH]) M ρ)(hz:ws.length<=9000)(q:∀ρ' M',RI tb rw di wa kf T M0 ws M' ρ'->Wh (n+6) ρ' M' cK cX K E):Wh (n+6) ρ M cK cX K E:=by
 have hw:=I.w;have h1:=I.l1;have h2:=I.l2;have g1:=I.g.tbl;have n1:=I.n1;have k0:=I.k;have J0:=I.set (ws':=ws) (ρ':=ag ρ 111 (aH)) (by exact(aS rfl).trans h1) (by exact(aS rfl).trans h2);have Mx:=Uf n1;have e1:¬((ws++[aH]).length=0):=by simp
 have e2:(ws++[aH]).getLast?=TR (aH):=by simp
 have e3:(ws++[aH]).dropLast=ws:=by simp
 have z:(ws++[aH]).length<=Ub:=ar (by exact ai [_,_] X0 am X0 (X1.a (N0.a N1)) X1 an aL hz rfl);have z1:ws.length<=Ub:=ar (by exact ab [_] X0 am X0 an hz rfl);have i1:∀M,aD M aH (.ref 155)=TR TT:=λM=>rfl
 have i2:∀M,aD M aH (.ref 218)=TR TT:=λM=>rfl
 have i3:∀M,aD M aH (.ref 71)=TR TT:=λM=>rfl
 have nx:=q _ _ J0;clear q J0 I k0;refine bF ?_;unfold cK cX at*;generalize Mc:ws++[aH]=dY at hw e1 e2 e3 z;clear Mc
 conv=>whnf
 simp only[h1,hw];refine .inl ?_
 conv=>whnf
 simp only[Uc,reduceIte,UL,bT,cj,bA,cT,cn, *];refine ac ?_;refine aN ?_;refine aO ?_;refine aP ?_;refine ac ?_;refine⟨z,?_⟩;refine ac (o:=aak _ 111) ?_;refine ac (o:=aak _ 111) ?_;refine ac (o:=aak _ 111) ?_
 conv=>whnf
 simp only[ak,reduceIte, *];exact nx
theorem Ju{v:V}(I:RI tb rw di wa kf T M0 (ws++[v]) M ρ)(hz:ws.length<=9000)(h0:c6 v aH=TR TT)(i1:∀M,aD M v (.ref 155)=TR TT)(i2:∀M,aD M v (.ref 218)=TR TT)(i3:∀M,aD M v (.ref 71)=TR TT)(j1:∀M,aD M v (.ref 38)=TR TT)(j2:∀M,aD M v (.ref 302)=TR TT)(j3:∀M,aD M v (.ref 260)=TR TT)(j4:∀M,aD M v (.ref 239)=TR TT)(j5:∀M,aD M v (.ref 281)=TR TT)(q:∀ρ' M',RI tb rw di wa kf T M0 ws M' ρ'->Wh (n+6) ρ' M' cK cX K E):Wh (n+6) ρ M cK cX K E:=by
 have hw:=I.w;have h1:=I.l1;have h2:=I.l2;have g1:=I.g.tbl;have n1:=I.n1;have k0:=I.k;have J0:=I.set (ws':=ws) (ρ':=ag ρ 111 (v)) (by exact(aS rfl).trans h1) (by exact(aS rfl).trans h2);have Mx:=Uf n1;have e1:¬((ws++[v]).length=0):=by simp
 have e2:(ws++[v]).getLast?=TR (v):=by simp
 have e3:(ws++[v]).dropLast=ws:=by simp
 have z:(ws++[v]).length<=Ub:=ar (by exact ai [_,_] X0 am X0 (X1.a (N0.a N1)) X1 an aL hz rfl);have z1:ws.length<=Ub:=ar (by exact ab [_] X0 am X0 an hz rfl);have in1:CT (n+6) (.ref 1171) [v] (ag M wa (.list ws)) (λr M1=>r=.none/\M1=ag M wa (.list ws)) E:=qP (j1 _) (j2 _) (j3 _) (j4 _) (j5 _) ⟨rfl,rfl⟩;have nx:=q _ _ J0;clear q J0 I k0 j1 j2 j3 j4 j5;refine bF ?_;unfold cK cX at*;generalize Mc:ws++[v]=dY at hw e1 e2 e3 z;clear Mc
 conv=>whnf
 simp only[h1,hw];refine .inl ?_
 conv=>whnf
 simp only[Uc,reduceIte,UL,bT,cj,bA,cT,cn, *];refine ac ?_;refine aN ?_;refine aO ?_;refine aP ?_;refine ac ?_;refine⟨z,?_⟩
 conv=>whnf
 simp only[ak,reduceIte, *];refine a0 (o:=aD _ _ _) (by simp only[*]<;>rfl) ?_;refine ac (o:=aak _ 111) ?_;refine a0 (o:=aD _ _ _) (by simp only[*]<;>rfl) ?_;refine ac (o:=aak _ 111) ?_;refine a0 (o:=aD _ _ _) (by simp only[*]<;>rfl) ?_;refine ac (o:=aak _ 111) ?_;refine a0 (o:=bA _ _ _ _) (by simp only[UL,bA,cT, *]<;>rfl) ?_;refine ac (o:=aak _ 111) ?_;refine ch in1 (λr M1 hr=>?_) λ_ _ h=>h
 obtain⟨rfl,rfl⟩:=hr;exact nx
theorem Jv(I:RI tb rw di wa kf T M0 (ws++[aB x y]) M ρ)(hz:ws.length<=9000)(nx:aY x=TV)(ny:aY y=TV)(q:∀ρ' M',RI tb rw di wa kf T M0 (ws++[y]++[x]) M' ρ'->Wh (n+6) ρ' M' cK cX K E):Wh (n+6) ρ M cK cX K E:=by
 have hw:=I.w;have h1:=I.l1;have h2:=I.l2;have g1:=I.g.tbl;have n1:=I.n1;have k0:=I.k;have J0:=I.set (ws':=ws) (ρ':=ag ρ 111 (aB x y)) (by exact(aS rfl).trans h1) (by exact(aS rfl).trans h2);have Mx:=Uf n1;have e1:¬((ws++[aB x y]).length=0):=by simp
 have e2:(ws++[aB x y]).getLast?=TR (aB x y):=by simp
 have e3:(ws++[aB x y]).dropLast=ws:=by simp
 have z:(ws++[aB x y]).length<=Ub:=ar (by exact ai [_,_] X0 am X0 (X1.a (N0.a N1)) X1 an aL hz rfl);have z1:ws.length<=Ub:=ar (by exact ab [_] X0 am X0 an hz rfl);have i1:∀M,aD M (aB x y) (.ref 155)=TR TV:=λM=>rfl
 have z2:(ws++[y]).length<=Ub:=ar (by exact ai [_,_] X0 am X0 (X1.a (N0.a N1)) X1 an aL hz rfl);have J1:=(J0.set (ws':=ws++[y]) (ρ':=ag ρ 111 (aB x y)) J0.l1 J0.l2).set (ws':=ws++[y]++[x]) (ρ':=ag ρ 111 (aB x y)) J0.l1 J0.l2;have MW:=q _ _ J1;clear q J0 J1 I k0;refine bF ?_;unfold cK cX at*;generalize Mc:ws++[aB x y]=dY at hw e1 e2 e3 z;clear Mc
 conv=>whnf
 simp only[h1,hw];refine .inl ?_
 conv=>whnf
 simp only[Uc,reduceIte,UL,bT,cj,bA,cT,cn, *];refine ac ?_;refine aN ?_;refine aO ?_;refine aP ?_;refine ac ?_;refine⟨z,?_⟩;refine ac (o:=aak _ 111) ?_;refine bM ?_;refine mN (o:=cm _ _) (by simp only[ak, *]<;>rfl) ?_;refine aN ?_;refine aO ?_;refine ac (o:=aak _ 111) ?_;refine dW ?_;refine aP ?_;refine⟨by simp only[true_and, *],?_⟩;refine bM ?_;refine mN (o:=cm _ _) (by simp only[ak, *]<;>rfl) ?_;refine aN ?_;refine aO ?_;refine ac (o:=aak _ 111) ?_;refine dW ?_;refine aP ?_;simp only[true_and, *];exact MW
theorem Jw(I:RI tb rw di wa kf T M0 (ws++[bW [x,y]]) M ρ)(hz:ws.length<=9000)(q:∀ρ' M',RI tb rw di wa kf T M0 (ws++[x]++[y]) M' ρ'->Wh (n+6) ρ' M' cK cX K E):Wh (n+6) ρ M cK cX K E:=by
 have hw:=I.w;have h1:=I.l1;have h2:=I.l2;have g1:=I.g.tbl;have n1:=I.n1;have k0:=I.k;have J0:=I.set (ws':=ws) (ρ':=ag ρ 111 (bW [x,y])) (by exact(aS rfl).trans h1) (by exact(aS rfl).trans h2);have Mx:=Uf n1;have e1:¬((ws++[bW [x,y]]).length=0):=by simp
 have e2:(ws++[bW [x,y]]).getLast?=TR (bW [x,y]):=by simp
 have e3:(ws++[bW [x,y]]).dropLast=ws:=by simp
 have z:(ws++[bW [x,y]]).length<=Ub:=ar (by exact ai [_,_] X0 am X0 (X1.a (N0.a N1)) X1 an aL hz rfl);have z1:ws.length<=Ub:=ar (by exact ab [_] X0 am X0 an hz rfl);have i1:∀M,aD M (bW [x,y]) (.ref 155)=TR TT:=λM=>rfl
 have i2:∀M,aD M (bW [x,y]) (.ref 218)=TR TV:=λM=>rfl
 have z2:ws.length+2<=Ub:=ar (by exact ab [_] (X0.a N2) am X0 an hz rfl);have J1:=J0.set (ws':=ws++[x,y]) (ρ':=ag ρ 111 (bW [x,y])) J0.l1 J0.l2;have MW:=q _ _ (by rw[show ws++[x]++[y]=ws++[x,y] by exact Uu _ _ _];exact J1);clear q J0 J1 I k0;refine bF ?_;unfold cK cX at*;generalize Mc:ws++[bW [x,y]]=dY at hw e1 e2 e3 z;clear Mc
 conv=>whnf
 simp only[h1,hw];refine .inl ?_
 conv=>whnf
 simp only[Uc,reduceIte,UL,bT,cj,bA,cT,cn, *];refine ac ?_;refine aN ?_;refine aO ?_;refine aP ?_;refine ac ?_;refine⟨z,?_⟩;refine ac (o:=aak _ 111) ?_;refine ac (o:=aak _ 111) ?_;refine bM ?_;refine mN (o:=cm _ _) (by simp only[ak, *]<;>rfl) ?_;refine aN ?_;refine aO ?_;refine ac (o:=aak _ 111) ?_;refine a0 (o:=eJ _ _) (by simp only[ak,reduceIte, *]<;>rfl) ?_;refine aP ?_
 conv=>whnf
 simp only[UH,aau,Uc,true_and, *];exact MW
set_option tactic.hygienic true in
theorem Jx{v:V}(h:cL T m v b):∀ws M ρ,RI tb rw di wa kf T M0 (ws++[v]) M ρ->ws.length+m<=9000->(b=TV->∀ρ' M',RI tb rw di wa kf T M0 ws M' ρ'->Wh (n+6) ρ' M' cK cX K E)->(b=TT->∀ρ' M',Kp [wa] M0 M'->K (.ret (.bool TT)) ρ' M')->Wh (n+6) ρ M cK cX K E:=by
 induction h with
 |sym h hl=>intro ws M ρ I hz q q';exact Jr I (by exact Uy (by assumption)) h hl q q'
 |odd h h0 h1 h2 h3=>intro ws M ρ I hz q q';exact Js I (by exact Uy (by assumption)) h h0 h1 h2 h3 (q' rfl)
 |emp=>intro ws M ρ I hz q q';exact Jt I (by exact Uy (by assumption)) (q rfl)
 |oth h0 h1 h2 h3 g1 g2 g3 g4 g5=>intro ws M ρ I hz q q';exact Ju I (by exact Uy (by assumption)) h0 h1 h2 h3 g1 g2 g3 g4 g5 (q rfl)
 |@pair m1 m2 x y b1 b2 nx ny h1 h2 i1 i2=>
  intro ws M ρ I hz q q';refine Jv I (by exact ab [_,_,_] X0 an (X0.a (cu.a N3)) an hz rfl) nx ny λρ1 M1 I1=>?_
  refine i1 _ M1 ρ1 I1 (by exact ai [_,_,_,_] aI an X0 (X2.a (N0.a N1)) (X2.a ((X1.a X3).a N3)) an aL hz rfl) (λe1 Lg M2 I2=>?_) λe1=>q' (by rw[e1];rfl)
  refine i2 _ M2 Lg I2 (by exact ab [_,_,_] aI an (X0.a ((X2.a X1).a N3)) an hz rfl) (λe2=>q (by rw[e1,e2];rfl)) λe2=>q' (by rw[e2,WY])
 |@vec2 m1 m2 x y b1 b2 h1 h2 i1 i2=>
  intro ws M ρ I hz q q';refine Jw I (by exact ab [_,_,_] X0 an (X0.a (cu.a N3)) an hz rfl) λρ1 M1 I1=>?_
  refine i2 _ M1 ρ1 I1 (by exact ai [_,_,_,_] aI an X0 (X2.a (N0.a N1)) (X2.a ((X3.a X1).a N3)) an aL hz rfl) (λe1 Lg M2 I2=>?_) λe1=>q' (by rw[e1,WY])
  refine i1 _ M2 Lg I2 (by exact ab [_,_,_] aI an (X0.a (cu.a N3)) an hz rfl) (λe2=>q (by rw[e1,e2];rfl)) λe2=>q' (by rw[e2];rfl)
end
theorem Jy{T:au}{v:V}(G:TG tb rw di kf T M)(h:cL T m v b)(hm:m<=8000)(q:∀M',Kp [] M M'->Q (.bool b) M'):CT (n+7) (.ref 1257) [v,.ref tb] M Q E:=by
 refine ax GO (ks:=[114,101]) ?_;refine .inr λwa SY=>?_
 have hn:=SY.lkp;have n1:wa≠tb:=λe=>by rw[e,G.tbl]at hn;exact ns hn
 have n2:wa≠rw:=λe=>by rw[e,G.rows]at hn;exact ns hn
 have n3:wa≠di:=λe=>by rw[e,G.dict]at hn;exact ns hn
 have kp:Kp [] M ((wa,.list [v])::M):=Kp.push hn;have I:RI tb rw di wa kf T ((wa,.list [v])::M) ([]++[v]) ((wa,.list [v])::M) [(114,v),(101,.ref tb),(187,.ref wa)]:=⟨G.keep kp (by simp) (by simp) (by simp),.refl,by exact if_pos rfl,n1,n2,n3,rfl,rfl⟩;refine Jx h [] _ _ I (by exact ab [_] (N0.a X0) an X0 (Ar.n 8000) hm rfl) (λe ρ' M' I'=>?_) λe ρ' M' k'=>?_
 ·refine bF ?_;have hw:=I'.w;have h1:=I'.l1;have q':=q M' (Kp.fresh hn I'.k);rw[e]at q';unfold cK;clear q I I' G
  conv=>whnf
  simp only[h1,hw]
  conv=>whnf
  refine .inl ?_;have hq:bA .NotEq (.ref wa) (.lst []) M'=TR TT:=by show cT (cn M' (.ref wa) (.lst []))=_;unfold cn;rw[kD hw];rfl
  apply fI hq;exact q'
 ·have q':=q M' (Kp.fresh hn k');rw[e]at q';exact q'
end
section
variable[HasP]
open PySem.Builtin PySem.Builtin.ObjectAttr
theorem Jz(P:Ur):Vj (KW P) (.ref 425) "__getattribute__"=TR (TR (.builtin "BaseException.__getattribute__")):=by kernel_rfl
theorem JA(P:Ur):Vj (KW P) (.ref 425) "__getattr__"=TR TW:=by kernel_rfl
theorem JB(P:Ur):mroIn (KW P) 425 (.type "BaseException")=TR TV:=by kernel_rfl
theorem JC(P:Ur):exmOne (KW P) (.ref 425) (.ref 425)=TR TV:=by kernel_rfl
section
variable{w:U4}{A:UT}{E:TZ->aav->Prop}{s:aav}{B:PH}{own:List TX}{M:aa}{lo:Ux}{e:TX}{fs:List (Nat×V)}{fl:Option TZ}{P:Ur}
theorem JD{id:U6}(X:(KW P).In s.heap)(x:df B own s.heap lo e fs fl)(T:aA B M own s.heap)(ok:aG id=TV)(MN:Vj (KW P) (.ref 425) id=TR TW)(hl:aak fs (nc id)=TR r)(hb:aY r=TV)(h:∀val,VR B val r->Q val {s with toks:=s.toks+1}):Uh (Uj pw w) A (getAttr (.ref e) id TV) Q E s:=by
 obtain⟨oe,vs,d,od,es,n,h1,h2,h3,h4,h5,h6,h7,-⟩:=x;refine aj (h7.lookIn h6 ok hl) λval KY=>?_
 have QD:=KY.1;have MZ:=KY.2;have I:InstAt s.heap e oe 425 (TR od):=⟨h1,h2,by unfold notCls;rw[h3],by rw[h4];exact T.keep _ _ h5⟩;have hf:findObj (KW P) 425 (TR od) id=TR (.value val):=?hf
 ·have hh:=tZ MZ hb;have q:=h val MZ;have FX:=PySem.F.attr_Exception;have f3:=FX.ga.bind (.ref e);clear h h7 MZ QD T;obtain⟨hp,g,dd,t,os⟩:=s;have L0:=I.type (M:=Uj pw w);have L1:=looks_findIn (M:=Uj pw w) X (Jz P);have L2:=looks_findIn (M:=Uj pw w) X (JA P);have L3:=looks_find (M:=Uj pw w) X I hf;have sub:Looks (Uj pw w) hp (isInstance (.ref e) (.type "BaseException")) TV:=I.type.andThen (looks_mroIn X (JB P));unfold getAttr getAttrBy;refine wpAny_bind (wpAny_mkText (wpAny_holding (wpAny_bind (L0.at (wpAny_bind (L1.at ?_))))));refine(show Uh _ _ (getAttrByItsOwn _ _ _ _ _ _) _ _ _ from ?_);unfold getAttrByItsOwn;unfold hookBefore callGetattribute boundAndCalled;refine wpAny_bind (L2.at (wpAny_bind (wpAny_attempt ?_)));refine wpAny_holding ?_;rw[if_neg (by decide),f3];refine wpAny_bind (wpAny_pure ?_);refine wpAny_call ?_;have k1:builtinKind "BaseException.__getattribute__"=TR .slot:=by decide+kernel
  have k2:splitId "BaseException.__getattribute__"=TR ("BaseException","__getattribute__"):=by decide+kernel
  refine(show Vc _ _ (.call (.builtin "BaseException.__getattribute__") ⟨[.ref e,.str id t],[]⟩) _ _ from ?_);refine codeAny_call_builtin FX.ga.plain PySem.F.entry_bexc_ga (@check_slot (Uj pw w) _ _ _ "BaseException.__getattribute__" "BaseException" "__getattribute__" (.ref e) [.str id t] [] _ k1 k2 sub (PySem.F.args_bexc_ga _ _) ?_);unfold Builtin.«object.__getattribute__»;unfold slotArgs
  repeat lk
  refine(show Uh _ _ (handedOut val) _ _ _ from ?_);rw[handedOut_of hh];exact wpAny_pure q
 unfold findObj;rw[kP P,UP,MN,UP];simp only[UP];unfold Zl;rw[if_pos rfl];dsimp only;rw[QD,UP]
theorem JE(x:df B own s.heap lo e fs fl):Looks M' s.heap (typeOf (.ref e)) (.ref 425):=by obtain⟨oe,vs,d,od,es,n,h1,h2,-⟩:=x;refine(h2)▸?_;exact(ZQ h1).andThen .now
end
section
variable{w:U4}{A:UT}{E:TZ->aav->Prop}{s:aav}{B:PH}{own:List TX}{M:aa}{lo:Ux}{e:TX}{fs:List (Nat×V)}{fl:Option TZ}{P:Ur}
theorem qZ{id kx:U6}(hk:env.scope.kind=.function)(SZ:env.kindOf kx=TR .local)(Lx:aG kx=TV)(Lj:s.heap.Ns env.locals m)(hm:m kx=TR (.ref e))(X:(KW P).In s.heap)(x:df B own s.heap lo e fs fl)(T:aA B M own s.heap)(ok:aG id=TV)(MN:Vj (KW P) (.ref 425) id=TR TW)(hl:aak fs (nc id)=TR r)(hb:aY r=TV)(h:∀val tk,VR B val r->Q val {s with toks:=tk}):Uh (Uj pw w) A (eval (.Attribute (.Name kx p1) id p2) env) Q E s:=by refine(show Uh _ _ (do let o<-attributeBase (.Name kx p1) id env (eval (.Name kx p1) env);standAt p2.atName;let r<-holding [o] (getAttr o id TV);letTemporaryGo (.Name kx p1) o r;pure r) _ _ _ from ?_);rw[iZ rfl];refine wpAny_bind (wpAny_Name (wpAny_loadName_local hk SZ Lj hm ?_) (nV Lx));refine wpAny_bind (wpAny_standAt ?_);refine wpAny_bind (wpAny_holding (JD X x T ok MN hl hb λval hv=>?_));exact wpAny_bind (wpAny_letTemporaryGo (wpAny_pure (h val _ hv)))
theorem df.but(x:df B own h lo e fs fl)(k:VI L h h')(hL:lo.get? L≠TW):df B own h' lo e fs fl:=by
 obtain⟨oe,vs,d,od,es,n,h1,h2,h3,h4,h5,h6,h7,h8,h9,Lh,LS⟩:=x;refine⟨oe,vs,d,od,es,n,k _ _ (λz=>hL (z▸h8)) h1,h2,h3,h4,h5,h6,h7,h8,h9,Lh,?_⟩;induction fl with
 |none=>exact LS
 |some v=>obtain⟨T,oT,ts,a1,a2,a3,a4,a5,a6,a7,a8⟩:=LS;exact⟨T,oT,ts,a1,a2,a3,a4,a5,k _ _ (λz=>hL (z▸a2)) a6,a7,a8⟩
end
theorem JF(P:Ur):Vj (KW P) (.ref 425) (so "word")=TR TW:=by kernel_rfl
theorem JG(P:Ur):Vj (KW P) (.ref 425) (so "irritants")=TR TW:=by kernel_rfl
theorem JH(P:Ur):Vj (KW P) (.ref 425) (so "limit")=TR TW:=by kernel_rfl
end
section
variable[HasP]
noncomputable abbrev q8:U5:=eY (bD (cH 135)) 0
noncomputable abbrev xN:U5:=eY (Af q8) 0
noncomputable def xO:Up:=gG xN
noncomputable abbrev q9:ExceptHandler:=Ah q8
noncomputable abbrev xP:U5:=eY (Aj q9) 0
noncomputable abbrev iD:Up:=gG xP
theorem JI:bD (cH 135)=[.Try [.Return (TR xO) xN.pos] [.ExceptHandler (TR (.Name (so "TooLong") (Ai q9).pos)) (TR (so "error")) [.Return (TR (.List [.Attribute (.Name (so "error") (dy (kd iD 0)).pos) (so "word") (kd iD 0).pos,.Attribute (.Name (so "error") (dy (kd iD 1)).pos) (so "irritants") (kd iD 1).pos,.Attribute (.Name (so "error") (dy (kd iD 2)).pos) (so "limit") (kd iD 2).pos] iD.pos)) xP.pos] q9.pos] [] [] q8.pos]:=by kernel_rfl
theorem xQ:(bq (cH 135)).names=[(so "datum",.local),(so "radix",.local),(so "limit",.local),(so "table",.local),(so "error",.local),(so "write_text",.globalImplicit),(so "TooLong",.globalImplicit)]:=by kernel_rfl
theorem re{α:Type}{c:Prop}[Decidable c]{mo:Model}{A:UT}{x y:Sem α}{Q:α->aav->Prop}{E:TZ->aav->Prop}{s:aav}(h:¬c)(q:Uh mo A y Q E s):Uh mo A (if c then x else y) Q E s:=by rw[if_neg h];exact q
theorem JJ{sc:UG}{b:Up}{q2 p:Pos}{hs:List ExceptHandler}{xs:List XS}(h:fP gt sc [.Try [.Return (TR b) q2] hs [] [] p] xs):∀{xb xc k xh},xs=[.try xb xc k xh]->T gt sc b xb:=by
 intro xb xc k xh e;subst e;cases h with
 |cons h1 h2=>
  cases h1 with
  |«try» hk ok hb hc h3=>exact hb
noncomputable abbrev xR:X:=.call (.cst (.ref 1242)) [(.loc 114),(.cst (.int 53)),(.loc 140),(.loc 134),(.loc 101)]
theorem JK{n:Nat}{v r lim tb:V}{M:aa}{Q:PQ}{E:PE}(cw:CT (n+10) (.ref 1242) [v,.int 53,r,lim,tb] M Q (λfs M'=>∃a b d,aak fs 44=TR a/\aak fs 240=TR b/\aak fs 134=TR d/\aY a=TV/\aY b=TV/\aY d=TV/\Q (.lst [a,b,d]) M')):CT (n+11) (.ref 1323) [v,r,lim,tb] M Q E:=by
 refine ip (o8 wy.toFnOk0 rfl λc B own s K0 tp S=>?_);have S:St c (n+10) [(114,v),(140,r),(134,lim),(101,tb)] M B own s.heap:=S;have ht:=(lE 60).ss wy.body;rw[show bD iO.st=_ from JI]at ht⊢;have hb:T gt (bq iO.st) xO xR:=JJ ht rfl;have hx:dq (n+10) [(114,v),(140,r),(134,lim),(101,tb)] M [.ret xR] (PK.ret Q) (λfs M'=>∃a b d,aak fs 44=TR a/\aak fs 240=TR b/\aak fs 134=TR d/\aY a=TV/\aY b=TV/\aY d=TV/\Q (.lst [a,b,d]) M'):=by refine gT (qo (d:=60) (by exact TY _) ?_);exact cw
 clear cw;refine wpAny_execs_cons (wpAny_Try_except (wpAny_mono (hx _ _ (oE.cons (oD.ret hb) rfl) c B own s K0 tp S) (λf s1 hf=>?_) λx s1 NS=>?_))
 ·obtain⟨B1,K1,fl,ρ1,M1,r1,k1,T1,F1,P1,q1⟩:=hf;induction r1 with
  |next=>exact wpAny_execs_nil (wpAny_execs_nil ⟨B1,K1,_,ρ1,M1,.next,k1,T1,F1,P1,q1⟩)
  |ret hv=>exact⟨B1,K1,_,ρ1,M1,.ret hv,k1,T1,F1,P1,q1⟩
  |cont=>exact⟨B1,K1,_,ρ1,M1,.cont,k1,T1,F1,P1,q1⟩
 ·obtain⟨B1,K1,M1,e,fs,fl,rfl,⟨va,vb,vd,ha,Oo,hd,na,nb,nd,hq⟩,T1,X1,Li,F1,P1,q1⟩:=NS;have S1:=S.stepS T1 F1 P1;refine aj tp.2 λPa LC=>?_
  have off:lN B1 K1 (c.env::Pa):=λe he L hL=>S1.frB e (by rw[LC];exact he) L hL
  have jM:c.A.frames=TR (c.env::Pa):=by rw[<-LC];exact S.frames
  have fun1:s1.heap.FunFrames c.base (c.env::Pa):=by rw[<-LC];exact S1.fun_
  refine o6 jM fun1 tp.1 off T1 X1 P1.alive Li λh2 X2 k2=>?_
  refine lO (fr:=TW) X2 λh3 X3 k3=>?_
  have Oq:=k2.trans k3;have T3:=Oq.sta T1;have F3:=Oq.fr F1;have P3:=Oq.post P1;have S3:=S.stepS T3 F3 P3;have S6:c.env.kindOf (so "TooLong")=TR .globalImplicit:=by unfold Vu;rw[K0,show iO.st=cH 135 from rfl,xQ];kernel_rfl
  have NU:c.env.kindOf (so "error")=TR .local:=by unfold Vu;rw[K0,show iO.st=cH 135 from rfl,xQ];kernel_rfl
  refine wpAny_handleBy_cons (codeAny_handlers_test ?_) (by intro q;cases q);refine Name_function_global S.kind S6 (hZ S.gr (id:=so "TooLong") (v:=.ref 425) (by kernel_rfl) (by kernel_rfl) S.glob S.blt (λa o e=>T3.keep a o (S3.base a o e)) λval O5=>?_) (by decide);induction O5;refine exm_one S3.kin (JE (s:={s1 with heap:=h3}) X3) (JC _) _ _ _ _ (λ_ _ e=>e) ?_;refine codeAny_handlers_suite_as ?_;refine lO (s:={s1 with heap:=h3}) (fr:=TW) X3 λh4 X4 k4=>?_
  have Pb:=Oq.trans k4;have T4:=Pb.sta T1;have P4:=Pb.post P1;obtain⟨m4,S7,-⟩:=(Pb.fr F1);refine wpAny_storeName_local NU S7 (λh5 NV Os=>?_) (by rw[S.kind];rfl);have alive:s.heap.get? c.env.locals≠TW:=by obtain⟨_,⟨o,_,_,ho,_⟩,_⟩:=S.loc;rw[ho];exactλz=>by exact ns z
  have X5:=X4.but Os.extBut alive;have T5:=T4.but S1.locB S1.locO Os.extBut;have Pd:(KW c.w.params).In h5:=S.gr.inn.keeps λa o e=>T5.keep a o (S1.base a o e)
  have me:(λy=>if y=so "error"then TR (Vk e)else m4 y) (so "error")=TR (.ref e):=if_pos rfl;refine wpAny_execs_cons (wpAny_Return_some (wpAny_List ?_));refine U3 ?_;refine re (by decide) ?_;refine qZ (s:={s1 with heap:=h5,toks:=s1.toks+1}) S.kind NU (by kernel_rfl) NV me Pd X5 T5 (by kernel_rfl) (JF _) (by rw[show nc (so "word")=44 by kernel_rfl];exact ha) na λv1 t1 LW=>?_
  refine U3 ?_;refine re (by decide) ?_;refine qZ (s:={s1 with heap:=h5,toks:=t1}) S.kind NU (by kernel_rfl) NV me Pd X5 T5 (by kernel_rfl) (JG _) (by rw[show nc (so "irritants")=240 by kernel_rfl];exact Oo) nb λv2 t2 NF=>?_
  refine U3 ?_;refine re (by decide) ?_;refine qZ (s:={s1 with heap:=h5,toks:=t2}) S.kind NU (by kernel_rfl) NV me Pd X5 T5 (by kernel_rfl) (JH _) (by rw[show nc (so "limit")=134 by kernel_rfl];exact hd) nd λv3 t3 OO=>?_
  refine VY ⟨by rw[sizeLine_eq];simp,?_⟩;have l0:=cv h5;have KZ:=T5.fresh l0;have l1:=KZ.1;have nL:c.env.locals≠h5.objs.size:=λz=>by obtain⟨o,_,_,ho,_⟩:=NV;rw[z,l0]at ho;exact nn ho
  have up:∀{b o},h5.get? b=TR o->(h5.push {cls:=.type "list",data:=.seq [v1,v2,v3].toArray}).get? b=TR o:=λe=>Ua _ e
  have gl:(h5.push {cls:=.type "list",data:=.seq [v1,v2,v3].toArray}).get? h5.objs.size=TR {cls:=.type "list",data:=.seq [v1,v2,v3].toArray}:=Ul _ rfl;refine wpAny_nameGoes (s:={s1 with heap:=(h5.push {cls:=.type "list",data:=.seq [v1,v2,v3].toArray}),toks:=t3}) NU (NV.keeps λb o e=>up e) (by rw[S.kind];rfl) λh7 m7 QE Pe=>?_
  have e7:h7.get? h5.objs.size=TR (bk [v1,v2,v3].toArray 0):=(Pe.2 _ (Uf nL)).trans gl;have le:=eZ (o:=bk [v1,v2,v3].toArray 0) l1;refine⟨aZ B1 h5.objs.size (bk [v1,v2,v3].toArray 0),K1,.ret (.lst [va,vb,vd]),[],M1,.ret (.lst eE (.cons (LW.mono le) (.cons (NF.mono le) (.cons (OO.mono le) .nil)))),hq,((T5.keeps λb o e=>up e).but S1.locB S1.locO Pe.extBut).addL l1 KZ.2 e7,⟨m7,QE,λy v _ z=>by exact nn z⟩,?_,q1.trans ⟨rfl,rfl⟩⟩;have QF:∀b o,b≠c.env.locals->h4.get? b=TR o->h7.get? b=TR o:=λb o z e=>(Pe.2 b z).trans (up (Os.extBut b o z e))
  refine P4.trans ⟨le,λa z=>?_,λ_ e=>.inl e,λb o e _ z=>⟨o.slots,QF b o z e⟩,λb hb=>?_⟩
  ·unfold aZ at z;split at z
   ·rename_i y;refine .inr (.inr ?_);cases e4:h4.get? a with
    |none=>rfl
    |some o=>rw[y]at e4;have:=Os.extBut _ _ (Uf nL) e4;rw[l0]at this;exact nn this
   ·exact .inl z
  ·by_cases z:b=c.env.locals
   ·refine bO QE λo _ _ KY=>?_
    rw[z,KY.1];exactλz=>by exact ns z
   ·cases e4:h4.get? b with
    |none=>exact absurd e4 hb
    |some o=>rw[QF b o z e4];exactλz=>by exact ns z
end
section
structure ez(dk:TX)(M:aa):Prop where
 has:∃(cells:List Nat) (turn st:Nat),aak M dk=TR (.list [.lst (cells.map λc=>.int (c:Nat)),.int turn,.int st])/\cells.length<=63/\st<4294967296
theorem ez.keep(D:ez dk M)(k:Kp S M M')(h:dk∉S):ez dk M':=by
 refine bO D.has λcells turn st KY=>?_
 exact⟨cells,turn,st,k _ _ h KY.1,KY.2⟩
variable[HasP]
variable{n:Nat}{M:aa}{Q:PQ}{E:PE}
theorem kS(a b:Nat):XL (a:Int) (b:Int)=((a%b:Nat):Int):=by rw[V2 _ (by exact dp (a:=0) (aw [_] N0 X0 rfl))];simp
theorem nh(a b:Nat):Yx (a:Int) (b:Int)=((a/b:Nat):Int):=by rw[WV _ (by exact dp (a:=0) (aw [_] N0 X0 rfl))];simp
theorem gZ(D:ez dk M)(hm:0<many)(q:∀(r:Nat) M',r<many->ez dk M'->Kp [dk] M M'->Q (.int r) M'):CT (n+2) (.ref 1269) [.ref dk,.int many] M Q E:=by
 refine ax GP (ks:=[59,89]) ?_;refine bO D.has λcells turn st KY=>?_
 have h1:=KY.1;have h2:=KY.2.1;have h3:=KY.2.2;have e0:((turn:Int)+1)=((turn+1:Nat):Int):=by rfl
 have m1:¬((many:Int)=0):=by exact cY (b:=0) (UO (ab [_] (N0.a N1) X0 (N0.a N1) X0 hm rfl))
 have m2:(many:Int)≠0:=by assumption
 have fin:∀c:Nat,Q (.int (c%many:Nat)) (ag (ag M dk (.list [.lst (cells.map λc=>.int (c:Nat)),.int (turn+1:Nat),.int st])) dk (.list [.lst (cells.map λc=>.int (c:Nat)),.int (turn+1:Nat),.int ((st*69069+c%1000003+11*turn+1)%4294967296:Nat)])):=λc=>
  q (c%many) _ (VT _ hm) ⟨cells,turn+1,(st*69069+c%1000003+11*turn+1)%4294967296,by rw[ak,if_pos rfl],h2,VT _ (by exact TY _)⟩ ((Kp.put (.head _)).trans (Kp.put (.head _)))
 have Ot:∀c:Nat,XL ((st:Int)*69069+XL (c:Int) 1000003+11*(turn:Int)+1) 4294967296=((st*69069+c%1000003+11*turn+1)%4294967296:Nat):=by intro c;have a1:=kS c 1000003;have a2:=kS (st*69069+c%1000003+11*turn+1) 4294967296;rw[show((1000003:Nat):Int)=1000003 from rfl]at a1;rw[show((4294967296:Nat):Int)=4294967296 from rfl]at a2;rw[a1,show((st:Int)*69069+((c%1000003:Nat):Int)+11*(turn:Int)+1)=((st*69069+c%1000003+11*turn+1:Nat):Int) by rfl];exact a2
 have w1:st<2^64:=by exact ab [_] ad (Ar.n 18446744073709551616) ad (Ar.n 4294967296) h3 rfl
 have w2:cells.length<2^63:=by exact ab [_] ad bd X0 (Ar.n 63) h2 rfl
 have w3:(cells.map λc=>V.int (c:Nat)).length=cells.length:=by exact UK _
 have fm:∀c:Nat,XL (c:Int) (many:Int)=((c%many:Nat):Int):=λc=>kS c many
 clear q;by_cases ht:turn<cells.length
 ·have e1:((turn:Int)<(cells.length:Int)):=by exact dF (ab [_,_] ad X1 ad X1 ht rfl)
  have hc:(cells.map λc=>V.int (c:Nat))[turn]? =TR (.int (cells[turn]:Nat)):=by simp[ht]
  have e2:∀M,bc M (.lst (cells.map λc=>.int (c:Nat))) (.int (turn:Nat))=TR (.int (cells[turn]:Nat)):=λM=>mQ (cj) hc (by exact ai [_,_] ad bY ad X1 X1 (Ar.n 63) ht h2 rfl)
  have fin:=fin cells[turn];generalize cells[turn]=c at*;have Ot:=Ot c;have fm:=fm c
  conv=>whnf
  simp only[bT,eK, *];refine wd ‹_› (by rfl) ?_;simp only[Vb,UH,Wk,Wl,aau,Uc, *];refine⟨by decide,?_⟩;refine⟨by decide,?_⟩;refine⟨by decide,?_⟩
  conv=>whnf
  simp only[ak,reduceIte,bT,eK, *]
  conv=>whnf
  simp only[true_and, *];refine c9 ?_
  conv=>whnf
  simp only[ak,reduceIte,bT,eK, *]
  conv=>whnf
  simp only[*]
  conv=>whnf
  simp only[ak,reduceIte,bT,eK, *]
  conv=>whnf
  simp only[U2,true_and, *]
  conv=>whnf
  simp only[ne_eq, *];refine⟨by decide,?_⟩;refine⟨by decide,?_⟩
  conv=>whnf
  simp only[ne_eq, *];refine⟨by decide,?_⟩;refine wd (by walk_at "mem") (by rfl) ?_;simp only[UH,Y3,Wk,Wl,aau,Uc, *];refine⟨by decide,?_⟩;refine⟨by decide,?_⟩;refine⟨by decide,?_⟩
  conv=>whnf
  simp only[ne_eq,not_false_eq_true,true_and, *]
  conv=>whnf
  simp only[br, *]
 ·have e1:¬((turn:Int)<(cells.length:Int)):=by exact ft (ab [_,_] X0 X1 X0 X1 (UQ ht) rfl)
  have e2:Yx (st:Int) 512=((st/512:Nat):Int):=by have:=nh st 512;exact this
  have fin:=fin (st/512);generalize st/512=c at*;have Ot:=Ot c;have fm:=fm c
  conv=>whnf
  simp only[bT,eK, *];refine wd ‹_› (by rfl) ?_;simp only[Vb,UH,Wk,Wl,aau,Uc, *];refine⟨by decide,?_⟩;refine⟨by decide,?_⟩;refine⟨by decide,?_⟩
  conv=>whnf
  simp only[ak,reduceIte,bT,eK, *]
  conv=>whnf
  simp only[true_and, *];refine bv ?_
  conv=>whnf
  simp only[ak,reduceIte,bT,eK, *]
  conv=>whnf
  simp only[ne_eq, *];refine⟨by decide,?_⟩;refine⟨by decide,?_⟩
  conv=>whnf
  simp only[ak,reduceIte,bT,eK, *]
  conv=>whnf
  simp only[U2,true_and, *]
  conv=>whnf
  simp only[ne_eq, *];refine⟨by decide,?_⟩;refine⟨by decide,?_⟩
  conv=>whnf
  simp only[ne_eq, *];refine⟨by decide,?_⟩;refine wd (by walk_at "mem") (by rfl) ?_;simp only[UH,Y3,Wk,Wl,aau,Uc, *];refine⟨by decide,?_⟩;refine⟨by decide,?_⟩;refine⟨by decide,?_⟩
  conv=>whnf
  simp only[ne_eq,not_false_eq_true,true_and, *]
  conv=>whnf
  simp only[br, *]
theorem fj(D:ez dk M)(hl:∀M',Kp [dk] M M'->bh M' xs=TR L)(Lb:L≠[])(hz:L.length<=1000)(q:∀x M',x∈L->ez dk M'->Kp [dk] M M'->Q x M'):CT (n+3) (.ref 1276) [.ref dk,xs] M Q E:=by
 refine ax GQ (ks:=[59,127]) ?_;have h0:=hl M .refl;have e:fY M xs=TR L.length:=by rcases mP h0 with rfl|⟨a,rfl,ha⟩;exact rfl;exact mM ha
 have z:L.length<2^63:=by exact ab [_] ad bd X0 (Ar.n 1000) hz rfl
 have LZ:0<L.length:=List.length_pos_iff.mpr Lb;have go:CT (n+2) (.ref 1269) [.ref dk,.int (L.length:Nat)] M (λr M1=>∃(k:Nat) (x:V),r=.int k/\x∈L/\bc M1 xs (.int k)=TR x/\Q x M1) E:=by refine gZ D LZ λr M' hr D' k=>⟨r,L[r],rfl,YK hr,mQ (hl M' k) (US hr) (by exact ai [_,_] ad bY ad X1 X1 (Ar.n 1000) hr hz rfl),q _ M' (YK hr) D' k⟩
 clear q hl;refine ac ?_;refine⟨z,?_⟩;refine ch go (λr M1 h=>?_) λ_ _ h=>h
 refine aX h λk x KY=>?_
 have K6:=KY.1;subst K6;unfold vP;rw[KY.2.2.1];exact KY.2.2.2
theorem xS{K:PK}{ρ:af}{f:List Nat}(h1:aak ρ 85=TR (.int ((0:Nat):Int)))(h3:aak ρ 97=TR (.str f))(hf:f≠[])(q:K .next ρ M):Wh (n+1) ρ M (.bor [(.cmp .Gt (.loc 85) (.cst (.int 0))),(.cmp .Eq (.loc 97) (.cst (.str [])))]) [.asg 97 (.bin .Add (.sub (.cst (.str [48,49,50,51,52,53,54,55,56,57,97,98,99,100,101,102])) (.bin .Mod (.loc 85) (.loc 140))) (.loc 97)),.asg 85 (.bin .FloorDiv (.loc 85) (.loc 140))] K E:=by refine bF ?_;have q':=q;have e1:¬(f=[]):=hf;clear q;refine ac ?_;refine ac ?_;apply ix e1;exact q'
theorem xT{r:Nat}(hr:2<=r)(K4:r<=16){K:PK}:∀(k i:Nat) (ρ:af) (f:List Nat),i<2^k->f.length+k<=1000->aak ρ 85=TR (.int i)->aak ρ 140=TR (.int r)->aak ρ 97=TR (.str f)->f≠[]->(∀ρ',aak ρ' 97=TR (.str ((ds r i).reverse++f))->aak ρ' 103=aak ρ 103->K .next ρ' M)->Wh (n+1) ρ M (.bor [(.cmp .Gt (.loc 85) (.cst (.int 0))),(.cmp .Eq (.loc 97) (.cst (.str [])))]) [.asg 97 (.bin .Add (.sub (.cst (.str [48,49,50,51,52,53,54,55,56,57,97,98,99,100,101,102])) (.bin .Mod (.loc 85) (.loc 140))) (.loc 97)),.asg 85 (.bin .FloorDiv (.loc 85) (.loc 140))] K E
 |0,i,ρ,f,hi,hz,h1,h2,h3,hf,q=>by
  have e:i=0:=by exact UM (ab [_] X0 N0 ad N1 hi rfl) (aw [_] N0 X0 rfl)
  subst e;exact xS h1 h3 hf (q ρ (by rw[ff];exact h3) rfl)
 |k+1,i,ρ,f,hi,hz,h1,h2,h3,hf,q=>by
  by_cases e:i=0
  ·subst e;exact xS h1 h3 hf (q ρ (by rw[ff];exact h3) rfl)
  ·refine bF ?_;have e1:((i:Int)>0):=by exact dF (a:=0) (ab [_] (N0.a N1) X0 (N0.a N1) X0 (UJ e) rfl)
   have e2:=kS i r;have e3:=nh i r;have e4:∀M,bc M (.str [48,49,50,51,52,53,54,55,56,57,97,98,99,100,101,102]) (.int ((i%r:Nat):Int))=TR (.str [aM (i%r)]):=λM=>dX (qF (by have:i%r<r:=VT _ (by exact Uy (by assumption));exact ai [_,_] ad (Ar.n 16) ad X1 X1 (Ar.n 16) this K4 rfl)) (by have:i%r<r:=VT _ (by exact Uy (by assumption));exact ai [_,_] ad bY ad X1 X1 (Ar.n 16) this K4 rfl)
   have c1:(r:Int)≠0:=by exact cY (b:=0) (UO (ab [_] (N0.a N1) X0 N2 X0 hr rfl))
   have z1:1+f.length<=Ub:=ar (by exact ab [_,_] (N1.a X0) am (X0.a ay) (Ar.n 1000) hz rfl);have z2:f.length+1<=Ub:=ar (by exact ab [_,_] ad am (X0.a ay) (Ar.n 1000) hz rfl);have MG:i/r<2^k:=by
    have h2:i/r<=i/2:=VK hr (by exact TY _);have h3:i/2<2^k:=by rw[VC (by exact TY _)];rw[WN]at hi;exact hi
    exact ai [_,_,_] ad X1 bC X1 X0 X2 h3 h2 rfl
   have nx:=xT hr K4 k (i/r) (ag (ag ρ 97 (.str (aM (i%r)::f))) 85 (.int (i/r:Nat))) (aM (i%r)::f) MG (by exact ab [_,_] (ad.a X1) (Ar.n 1000) (X0.a ay) (Ar.n 1000) hz rfl) (by exact bw) (by exact(aS rfl).trans ((aS rfl).trans h2)) (by exact(aS rfl).trans bw) (by simp) λρ' g1 g2=>q ρ' (by rw[g1,iz e hr];simp) (by rw[g2];simp[ak])
   clear q
   conv=>whnf
   refine ac ?_;apply Hm e1;refine cA (b:=_) (by simp only[decide_true, *]<;>rfl) ?_
   conv=>whnf
   refine ac ?_
   conv=>whnf
   refine ac ?_
   conv=>whnf
   simp only[ne_eq,not_false_eq_true,true_and, *];refine a0 (o:=bc _ _ _) (by simp only[*]<;>rfl) ?_
   conv=>whnf
   refine ac ?_;refine⟨‹_›,?_⟩;refine bM ?_;refine bM ?_
   conv=>whnf
   simp only[U2,ne_eq,not_false_eq_true,true_and, *]
   conv=>whnf
   refine⟨by exact ab [_] ad (Ar.n 1073741824) X0 (Ar.n 16) K4 rfl,?_⟩
   conv=>whnf
   assumption
theorem ni{r:Nat}{w:Int}(hr:2<=r)(K4:r<=16)(hw:w.natAbs<2^60)(q:Q (.str (nt r w)) M):CT (n+2) (.ref 1288) [.int w,.int r] M Q E:=by
 refine ax GT (ks:=[103,140]) ?_;refine bF ?_;generalize hi:w.natAbs=i at*;have e2:=kS i r;have e3:=nh i r;have e4:∀M,bc M (.str [48,49,50,51,52,53,54,55,56,57,97,98,99,100,101,102]) (.int ((i%r:Nat):Int))=TR (.str [aM (i%r)]):=λM=>dX (qF (by have:i%r<r:=VT _ (by exact Uy (by assumption));exact ai [_,_] ad (Ar.n 16) ad X1 X1 (Ar.n 16) this K4 rfl)) (by have:i%r<r:=VT _ (by exact Uy (by assumption));exact ai [_,_] ad bY ad X1 X1 (Ar.n 16) this K4 rfl)
 have c1:(r:Int)≠0:=by exact cY (b:=0) (UO (ab [_] (N0.a N1) X0 N2 X0 hr rfl))
 have MG:i/r<2^60:=Wj (Nat.div_le_self _ _) hw;have ef:(ds r (i/r)).reverse++[aM (i%r)]=fg r i:=by
  unfold fg;by_cases e:i=0
  ·subst e;rw[if_pos rfl,Nat.zero_div,ff,Nat.zero_mod];rfl
  ·rw[if_neg e,iz e hr];simp
 have hl:=kK (r:=r) (i:=i) hr (by exact ab [_] ad (Ar.n 18446744073709551616) ad (Ar.n 1152921504606846976) hw rfl);have fin:∀(K:PK),(∀ρ',aak ρ' 97=TR (.str (fg r i))->aak ρ' 103=TR (.int w)->K .next ρ' M)->Wh (n+1) [(103,.int w),(140,.int r),(97,.str [aM (i%r)]),(85,.int (i/r:Nat))] M (.bor [(.cmp .Gt (.loc 85) (.cst (.int 0))),(.cmp .Eq (.loc 97) (.cst (.str [])))]) [.asg 97 (.bin .Add (.sub (.cst (.str [48,49,50,51,52,53,54,55,56,57,97,98,99,100,101,102])) (.bin .Mod (.loc 85) (.loc 140))) (.loc 97)),.asg 85 (.bin .FloorDiv (.loc 85) (.loc 140))] K E:=by intro K hK;refine xT hr K4 60 (i/r) _ [aM (i%r)] MG (by simp) rfl rfl rfl (by simp) λρ' g1 g2=>hK ρ' (by rw[g1,ef]) (by rw[g2];simp[cC,gw])
 have last:∀ρ',aak ρ' 97=TR (.str (fg r i))->aak ρ' 103=TR (.int w)->bn (n+1) ρ' E 60 (.ite (.cmp .Lt (.loc 103) (.cst (.int 0))) (.bin .Add (.cst (.str [45])) (.loc 97)) (.loc 97)) M (λr M1=>Q r M1):=by
  intro ρ' g1 g3;unfold nt at q;rw[hi]at q;by_cases hn:w<0
  ·rw[if_pos hn]at q;have z:1+(fg r i).length<=Ub:=ar (by exact ab [_] (N1.a X0) am X0 (Ar.n 64) hl rfl);have z2:(fg r i).length+1<=Ub:=ar (by exact ab [_] ad am X0 (Ar.n 64) hl rfl);refine ac ?_;refine c9 ?_;refine ac ?_
   conv=>whnf
   simp only[UH,aau,Uc,and_true, *]
  ·rw[if_neg hn]at q;refine ac ?_;refine bv ?_;refine ac ?_;assumption
 have cr:r<1073741824:=by exact ab [_] ad (Ar.n 1073741824) X0 (Ar.n 16) K4 rfl
 by_cases e:i=0
 ·have e1:¬((i:Int)>0):=by exact ft (a:=0) (ab [_] X0 N0 X0 N0 (eL e) rfl)
  clear q ef hl e
  conv=>whnf
  simp only[bR,bS,decide_false, *]
  conv=>whnf
  simp only[ne_eq,not_false_eq_true,true_and, *]
  conv=>whnf
  simp only[*]
  conv=>whnf
  simp only[UH,aau,Uc, *]
  conv=>whnf
  refine⟨by decide,?_⟩
  conv=>whnf
  simp only[U2,ne_eq,not_false_eq_true,true_and, *];exact fin _ last
 ·have e1:((i:Int)>0):=by exact dF (a:=0) (ab [_] (N0.a N1) X0 (N0.a N1) X0 (UJ e) rfl)
  clear q ef hl e
  conv=>whnf
  simp only[bR,bS,decide_true, *]
  conv=>whnf
  simp only[ne_eq,not_false_eq_true,true_and, *]
  conv=>whnf
  simp only[*]
  conv=>whnf
  simp only[UH,aau,Uc, *]
  conv=>whnf
  refine⟨by decide,?_⟩
  conv=>whnf
  simp only[U2,ne_eq,not_false_eq_true,true_and, *];exact fin _ last
end
section
noncomputable def fM(l:List Nat)(i:Bool):Bool:=i&&(decide (l.map bp=l)&&db l)
inductive DD(T:au)(R:Nat):V->List Nat->Bool->Prop
 |spc {a:TX} {l:List Nat} (h:a≠44) (h':a<=53) (hl:l.length<=20):DD T R (.ido a 38 [(104,.str l)]) ([35,60]++l++[62]) TT
 |odd {c:TX} {fs:List (Nat×V)} {t:List Nat} (h:eP (.obj c fs) t) (hl:t.length<=40):DD T R (.obj c fs) t TT
 |sym {a k:Nat} {l:List Nat} {i:Bool} (h:T[k]? =TR ⟨a,l,i⟩) (ha:53<a) (hl:l.length<=20):DD T R (aW a k l) l (fM l i)
 |rat {d b:Nat} (hd:d<40) (hb:b=2\/b=3\/b=6):DD T R (eM (1+6*((d:Int)-20)) b) (nt R (1+6*((d:Int)-20))++[47]++nt R b) TV
 |int {i:Int} (h:i.natAbs<1000):DD T R (.int i) (nt R i) TV
 |bool (b:Bool):DD T R (.bool b) (if b=TV then[35,116]else[35,102]) TV
 |emp:DD T R aH [40,41] TV
 |chr {c:Nat} (h:c=32\/c=10\/c=40):DD T R (dC c) (dY c) TV
 |txt:DD T R (fb [97,34]) [34,97,92,34,34] TV
 |vec {x y:V} {t1 t2:List Nat} {g1 g2:Bool} (h1:DD T R x t1 g1) (h2:DD T R y t2 g2):DD T R (bW [x,y]) ([35,40]++t1++[32]++t2++[41]) (g1&&g2)
 |quo {p:List Nat×List Nat} {a k:Nat} {x:V} {t:List Nat} {g:Bool} (hp:p∈QL) (h:T[k]? =TR ⟨a,p.2,TV⟩) (ha:53<a) (h1:DD T R x t g):DD T R (aB (aW a k p.2) (aB x aH)) (p.1++t) g
 |two {p:List Nat×List Nat} {a k:Nat} {x y:V} {t1 t2:List Nat} {g1 g2:Bool} (hp:p∈QL) (h:T[k]? =TR ⟨a,p.2,TV⟩) (ha:53<a) (h1:DD T R x t1 g1) (h2:DD T R y t2 g2):DD T R (aB (aW a k p.2) (aB x (aB y aH))) ([40]++p.2++[32]++t1++[32]++t2++[41]) (g1&&g2)
 |dot {x:V} {t:List Nat} {g:Bool} (h1:DD T R x t g):DD T R (aB x (aB (.int 5) (dC 65))) ([40]++t++[32]++nt R 5++[32,46,32,35,92,65,41]) g
theorem DD.ext{T T':au}(e:aE T T'){v:V}(h:DD T R v t g):DD T' R v t g:=by
 induction h with
 |spc h h' hl=>exact .spc h h' hl
 |odd h hl=>exact .odd h hl
 |sym h ha hl=>exact .sym (e.at h) ha hl
 |rat hd hb=>exact .rat hd hb
 |int h=>exact .int h
 |bool b=>exact .bool b
 |emp=>exact .emp
 |chr h=>exact .chr h
 |txt=>exact .txt
 |vec _ _ i1 i2=>exact .vec i1 i2
 |quo hp h ha _ i=>exact .quo hp (e.at h) ha i
 |two hp h ha _ _ i1 i2=>exact .two hp (e.at h) ha i1 i2
 |dot _ i=>exact .dot i
variable[HasP]
variable{n:Nat}{M:aa}{Q:PQ}{E:PE}
theorem JL(D:ez dk M)(q:∀v t M',(∀T R,DD T R v t TT)->t.length<=90->ez dk M'->Kp [dk] M M'->Q (.lst [v,.str t]) M'):CT (n+5) (.ref 1295) [.ref dk] M Q E:=by
 refine ax GU (ks:=[59]) ?_;refine HM (.inl ?_);refine HN (.inl ?_);refine HK (.inl (.inl ?_));refine HJ (.inl ?_);refine HL (.inl (.inl ?_))
 repeat(first|refine⟨ar (by first|lia|(simp only[Ui,aau,Uc];lia)|(simp;lia)),?_⟩|refine Or.inl ?_)
 refine fj D (λM' _=>cj) (by decide) (by decide) λx M' hx D' k=>?_
 simp only[V6,VV,Uk,Um,or_false]at hx;rcases hx with rfl|rfl|rfl|rfl|rfl|rfl|rfl|rfl
 ·exact q _ _ M' (λT R=>.odd (.proc (l:=[102]) (by decide)) (by decide)) (by decide) D' k
 ·exact q _ _ M' (λT R=>.odd (.prim (l:=[99,97,114]) (by decide)) (by decide)) (by decide) D' k
 ·exact q _ _ M' (λT R=>.odd .promise (by decide)) (by decide) D' k
 ·exact q _ _ M' (λT R=>.odd .box (by decide)) (by decide) D' k
 ·exact q _ _ M' (λT R=>.odd .port (by decide)) (by decide) D' k
 ·exact q _ _ M' (λT R=>.spc (l:=[117,110,115,112,101,99,105,102,105,101,100]) (by decide) (by decide) (by decide)) (by decide) D' k
 ·exact q _ _ M' (λT R=>.spc (l:=[101,111,102]) (by decide) (by decide) (by decide)) (by decide) D' k
 ·exact q _ _ M' (λT R=>.spc (l:=[117,110,97,115,115,105,103,110,101,100]) (by decide) (by decide) (by decide)) (by decide) D' k
structure LI(dk tb rw di:TX)(kf:Nat)(T:au)(M:aa):Prop where
 d:ez dk M
 g:TG tb rw di kf T M
 n1:dk≠rw
section
variable{dk tb rw di:TX}{kf:Nat}{T:au}
theorem LI.n2(I:LI dk tb rw di kf T M):dk≠di/\dk≠tb:=by
 refine bO I.d.has λcells turn st KY=>?_
 have h1:=KY.1;exact⟨λe=>(by rw[e,I.g.dict]at h1;cases h1),λe=>(by rw[e,I.g.tbl]at h1;cases h1)⟩
theorem LI.draw(I:LI dk tb rw di kf T M)(D:ez dk M')(k:Kp [dk] M M'):LI dk tb rw di kf T M':=⟨D,I.g.keep k (by simp[Uf I.n2.2]) (by simp[Uf I.n1]) (by simp[Uf I.n2.1]),I.n1⟩
theorem LI.grow(I:LI dk tb rw di kf T M)(G:TG tb rw di LF T' M')(k:Kp [rw,di] M M'):LI dk tb rw di LF T' M':=⟨I.d.keep k (by simp[I.n1,I.n2.1]),G,I.n1⟩
theorem LI.keep(I:LI dk tb rw di kf T M)(k:Kp [] M M'):LI dk tb rw di kf T M':=⟨I.d.keep k (by simp),I.g.keep k (by simp) (by simp) (by simp),I.n1⟩
noncomputable def LN:List (List Nat):=[[97],[113,117,111,116,101],[117,110,113,117,111,116,101],[120,49],[65],[97,32,98],[49,50],[],[46],[43]]
theorem JM:∀l∈LN,l∈ew/\l.length<=20/\fM l TV=decide (l∈([[97],[113,117,111,116,101],[117,110,113,117,111,116,101],[120,49],[43]]:List (List Nat))):=by decide
theorem JN(I:LI dk tb rw di kf T M)(hk:kf<=99)(q:∀T' M' v t g,LI dk tb rw di (kf+1) T' M'->aE T T'->Kp [dk,rw,di] M M'->(∀R,DD T' R v t g)->t.length<=90->Q (.lst [v,.str t,.bool g]) M'):CT (n+6) (.ref 1302) [.ref dk,.ref tb] M Q E:=by
 refine ax GV (ks:=[59,101]) ?_;refine .inl ?_;refine fj I.d (λM' _=>cj) (by decide) (by decide) λx M1 hx D1 k1=>?_
 have I1:=I.draw D1 k1;obtain⟨l,hl,rfl⟩:∃l∈LN,x=.str l:=by
  have:x∈LN.map V.str:=hx;refine aj (List.mem_map.mp this) λl KY=>?_
  exact⟨l,KY.1,KY.2.symm⟩
 have KZ:=JM l hl;have g2:=KZ.2.1;have g3:=KZ.2.2;refine gZ I1.d (many:=4) (by exact TY _) λr M2 hr D2 k2=>?_
 have I2:=I1.draw D2 k2;have ht:=I2.g.tbl;by_cases e:r=0
 ·subst e;have e1:¬(((0:Nat):Int)>0):=by decide
  refine aK ?_;simp only[*];refine IF I2.g (by exact Ve (by assumption)) λT' M' a k l' G' e' k' Lc Mg=>?_
  have q':=q T' M' (aW a k l') l' (fM l' TT) (⟨I2.d.keep k' (by simp[I.n1]),G',I.n1⟩) e' (((k1.trans k2).mono (by simp)).trans (k'.mono (by simp))) (λR=>.sym Lc (G'.ok.gt _ (UR Lc)) (by exact ab [_] X0 (Ar.n 20) X0 (Ar.n 12) Mg rfl)) (by exact ab [_] X0 (Ar.n 90) X0 (Ar.n 12) Mg rfl);have e5:fM l' TT=TT:=rfl;rw[e5]at q';have e6:ek 71 88=TV:=AB;clear q
  conv=>whnf
  simp only[*];exact .inl q'
 ·have e1:((r:Int)>0):=by exact dF (a:=0) (ab [_] (N0.a N1) X0 (N0.a N1) X0 (UJ e) rfl)
  refine c9 ?_;refine aK ?_;simp only[*];refine jx I2.g (by exact Ve (by assumption)) KZ.1 λT' M' a k G' e' k' Lc=>?_
  have O':TG tb rw di (kf+1) T' M':=⟨G'.tbl,G'.rows,G'.dict,⟨G'.ok.nd,G'.ok.gt,G'.ok.ndn,G'.ok.sub,Ve G'.ok.few⟩⟩;have q':=q T' M' (aW a k l) l (fM l TV) (I2.grow O' k') e' (((k1.trans k2).mono (by simp)).trans (k'.mono (by simp))) (λR=>.sym Lc (G'.ok.gt _ (UR Lc)) g2) (by exact ab [_] X0 (Ar.n 90) X0 (Ar.n 20) g2 rfl);rw[g3]at q';clear q g3
  conv=>whnf
  simp only[*];exact .inl q'
theorem rf(hr:2<=R)(K4:R<=16)(I:LI dk tb rw di kf T M)(hk:kf<=99)(q:∀T' M' v t g,LI dk tb rw di (kf+1) T' M'->aE T T'->Kp [dk,rw,di] M M'->DD T' R v t g->t.length<=90->Q (.lst [v,.str t,.bool g]) M'):CT (n+7) (.ref 1309) [.ref dk,.ref tb,.int R] M Q E:=by
 refine b6 GW (ks:=[59,101,140]) ?_;have more:∀{T':au} {M':aa},LI dk tb rw di kf T' M'->LI dk tb rw di (kf+1) T' M':=λI=>⟨I.d,⟨I.g.tbl,I.g.rows,I.g.dict,⟨I.g.ok.nd,I.g.ok.gt,I.g.ok.ndn,I.g.ok.sub,Ve I.g.ok.few⟩⟩,I.n1⟩
 refine av ?_;refine gZ I.d (many:=8) (by exact TY _) λr M1 TD D1 k1=>?_
 have I1:=I.draw D1 k1;have Pf:Kp [dk,rw,di] M M1:=k1.mono (by simp);have My:∀{M2},Kp [dk] M1 M2->Kp [dk,rw,di] M M2:=λk=>Pf.trans (k.mono (by simp))
 by_cases e0:r=0
 ·subst e0;refine bV (by exact⟨rfl,rfl⟩) ?_;refine JL D1 λv t M2 hd hz D2 k2=>?_
  have q':=q T M2 v t TT (more (I1.draw D2 k2)) .refl (My k2) (hd T R) hz;exact .inl ⟨ar (by exact aw [] (((N0.a N1).a N1).a (N0.a N1)) am rfl),.inl q'⟩
 have f0:¬((r:Int)=0):=by exact cY (b:=0) (UO (ab [_] (N0.a N1) X0 (N0.a N1) X0 (UJ e0) rfl))
 refine aU (by
  conv=>whnf
  simp only[decide_false,and_true, *]) ?_
 by_cases e3:r<3
 ·have f3:((r:Int)<3):=by exact dF (b:=3) (ab [_] ad N3 ad N3 e3 rfl)
  refine bV (by
   conv=>whnf
   simp only[decide_true,and_true, *]) ?_
  exact JN I1 hk λT' M' v t g I' e' k' hd hz=>q T' M' v t g I' e' (Pf.trans k') (hd R) hz
 have f3:¬((r:Int)<3):=by exact ft (b:=3) (ab [_] N3 X0 N3 X0 (UQ e3) rfl)
 refine aU (by
  conv=>whnf
  simp only[decide_false,and_true, *]) ?_
 by_cases e4:r=3
 ·have f4:((r:Int)=3):=by exact iK (b:=3) (UM (ab [_] X0 N3 X0 N3 (eL e4) rfl) (ab [_] N3 X0 N3 X0 (UQ e3) rfl))
  refine bV (by
   clear f0 f3;(
   conv=>whnf
   simp only[and_true, *]
   conv=>whnf
   rfl)) ?_
  clear f0 f3 f4;refine gZ D1 (many:=40) (by exact TY _) λd M2 hd D2 k2=>?_
  refine⟨by exact aw [] (N6.a N1) (Ar.n 18446744073709551616) rfl,.inl ?_⟩;refine fj D2 (λM' _=>cj) (by decide) (by decide) λx M3 hx D3 k3=>?_
  obtain⟨b,hb,rfl⟩:∃b:Nat,(b=2\/b=3\/b=6)/\x=.int b:=by
   simp only[Uk,Um,or_false]at hx;rcases hx with rfl|rfl|rfl
   ·exact⟨2,.inl rfl,rfl⟩
   ·exact⟨3,.inr (.inl rfl),rfl⟩
   ·exact⟨6,.inr (.inr rfl),rfl⟩
  have Mf:b<=6:=by lia
  have l1:=fh (r:=R) (k:=8) (i:=1+6*((d:Int)-20)) hr (by lia) (by exact TY _);have l2:=fh (r:=R) (k:=8) (i:=(b:Int)) hr (by exact ab [_] ad (Ar.n 256) X0 N6 Mf rfl) (by exact TY _);have q':=q T M3 (eM (1+6*((d:Int)-20)) b) _ TV (more ((I1.draw D2 k2).draw D3 k3)) .refl (My (k2.trans k3)) (.rat hd hb) (by exact bU [_,_,_] X0 (Ar.n 90) X0 ((X1.a (N0.a N1)).a X2) X1 (N8.a N1) X2 (N8.a N1) d7 l1 l2 rfl);clear q more;refine wJ ?_;refine ni hr K4 (by exact ai [_,_] ad (Ar.n 1152921504606846976) X0 ((Ar.m 6 X1).a (Ar.n 121)) (Ar.m 6 ay) (Ar.m 6 (Ar.n 40)) kZ (mK 6 hd) rfl) ?_;refine⟨ar (by exact ab [_] (X0.a (N0.a N1)) am X0 (N8.a N1) l1 rfl),ni hr K4 (by exact ab [_] ad (Ar.n 1152921504606846976) X0 N6 Mf rfl) ?_⟩;exact⟨ar (by exact bU [_,_,_] aI am X0 (X2.a (N0.a N1)) X1 (N8.a N1) X2 (N8.a N1) aL l2 l1 rfl),.inl q'⟩
 have f4:¬((r:Int)=3):=by exact cY (b:=3) e4
 refine aU (by
  clear f0;(
  conv=>whnf
  simp only[decide_false,and_true, *])) ?_
 by_cases e5:r=4
 ·have f5:((r:Int)=4):=by exact iK (b:=4) (UM (ab [_] X0 N4 X0 N4 (eL e5) rfl) (ab [_] N4 X0 N4 X0 (eR e5) rfl))
  refine bV (by
   clear f0 f3 f4;(
   conv=>whnf
   simp only[and_true, *]
   conv=>whnf
   rfl)) ?_
  clear f0 f3 f4 f5;refine gZ D1 (many:=900) (by exact TY _) λd M2 hd D2 k2=>?_
  have q':=q T M2 (.int ((d:Int)-300)) _ TV (more (I1.draw D2 k2)) .refl (My k2) (.int (by lia)) (by have:=fh (r:=R) (k:=10) (i:=(d:Int)-300) hr (by lia) (by exact TY _);exact ab [_] X0 (Ar.n 90) X0 ((Ar.n 10).a N1) this rfl);clear q more;refine ni hr K4 (by exact ai [_,_] ad (Ar.n 1152921504606846976) X0 (X1.a (Ar.n 300)) ay (Ar.n 900) yu hd rfl) ?_;exact .inl q'
 have f5:¬((r:Int)=4):=by exact cY (b:=4) e5
 refine aU (by
  clear f0 f4;(
  conv=>whnf
  simp only[decide_false,and_true, *])) ?_
 by_cases e6:r=5
 ·have f6:((r:Int)=5):=by exact iK (b:=5) (UM (ab [_] X0 N5 X0 N5 (eL e6) rfl) (ab [_] N5 X0 N5 X0 (eR e6) rfl))
  refine bV (by
   clear f0 f3 f4 f5;(
   conv=>whnf
   simp only[and_true, *]
   conv=>whnf
   rfl)) ?_
  clear f0 f3 f4 f5 f6;refine .inl (.inl (.inl (.inl ?_)));refine fj D1 (λM' _=>cj) (by decide) (by decide) λx M2 hx D2 k2=>?_
  simp only[Uk,Um,or_false]at hx;rcases hx with rfl|rfl|rfl
  ·exact q T M2 _ _ TV (more (I1.draw D2 k2)) .refl (My k2) (.bool TV) (by decide)
  ·exact q T M2 _ _ TV (more (I1.draw D2 k2)) .refl (My k2) (.bool TT) (by decide)
  ·exact q T M2 _ _ TV (more (I1.draw D2 k2)) .refl (My k2) .emp (by decide)
 have f6:¬((r:Int)=5):=by exact cY (b:=5) e6
 refine aU (by
  clear f0 f4 f5;(
  conv=>whnf
  simp only[decide_false,and_true, *])) ?_
 by_cases e7:r=6
 ·have f7:((r:Int)=6):=by exact iK (b:=6) (UM (ab [_] X0 N6 X0 N6 (eL e7) rfl) (ab [_] N6 X0 N6 X0 (eR e7) rfl))
  refine bV (by
   clear f0 f3 f4 f5 f6;(
   conv=>whnf
   simp only[and_true, *]
   conv=>whnf
   rfl)) ?_
  clear f0 f3 f4 f5 f6 f7;refine jp (.inl ?_);refine jp (.inl ?_);refine jp (.inl ?_);refine .inl ?_;refine fj D1 (λM' _=>cj) (by decide) (by decide) λx M2 hx D2 k2=>?_
  simp only[Uk,Um,or_false]at hx;rcases hx with rfl|rfl|rfl
  ·exact q T M2 _ _ TV (more (I1.draw D2 k2)) .refl (My k2) (.chr (c:=32) (by decide)) (by decide)
  ·exact q T M2 _ _ TV (more (I1.draw D2 k2)) .refl (My k2) (.chr (c:=10) (by decide)) (by decide)
  ·exact q T M2 _ _ TV (more (I1.draw D2 k2)) .refl (My k2) (.chr (c:=40) (by decide)) (by decide)
 have f7:¬((r:Int)=6):=by exact cY (b:=6) e7
 refine aU (by
  clear f0 f4 f5 f6;(
  conv=>whnf
  simp only[decide_false,and_true, *])) ?_
 refine av ?_;refine .inl (qw ?_);exact .inl (q T M1 _ _ TV (more I1) .refl Pf .txt (by decide))
end
end
section
noncomputable abbrev cM(v:V)(t:List Nat)(g:Bool):V:=.lst [v,.str t,.bool g]
def jC(T:au)(R:Nat)(ps:List V):Prop:=∀x∈ps,∃v t g,x=cM v t g/\DD T R v t g/\t.length<=90
theorem jC.ext{T T':au}(h:jC T R ps)(e:aE T T'):jC T' R ps:=λx hx=>by
 refine bO (h x hx) λv t g KY=>?_
 exact⟨v,t,g,KY.1,KY.2.1.ext e,KY.2.2⟩
theorem jD:∀p∈QL,p.2∈ew/\p.1.length<=2/\p.2.length<=16:=by decide
variable[HasP]
variable{n:Nat}{M:aa}{Q:PQ}{E:PE}
section
variable{dk tb rw di pl:TX}{kf:Nat}{T:au}
theorem xU(h:x∈([.tup [.str [113,117,111,116,101],.str [39]],.tup [.str [113,117,97,115,105,113,117,111,116,101],.str [96]],.tup [.str [117,110,113,117,111,116,101],.str [44]],.tup [.str [117,110,113,117,111,116,101,45,115,112,108,105,99,105,110,103],.str [44,64]]]:List V)):∃p∈QL,x=.tup [.str p.2,.str p.1]:=by
 simp only[Uk,Um,or_false]at h;rcases h with rfl|rfl|rfl|rfl
 ·exact⟨_,.head _,rfl⟩
 ·exact⟨_,.tail _ (.head _),rfl⟩
 ·exact⟨_,.tail _ (.tail _ (.head _)),rfl⟩
 ·exact⟨_,.tail _ (.tail _ (.tail _ (.head _))),rfl⟩
theorem xV(hr:2<=R):(nt R 5).length<=4:=fh (k:=3) hr (by decide) (TY _)
theorem JO(hr:2<=R)(K4:R<=16)(I:LI dk tb rw di kf T M)(hk:kf<=100)(hp:aak M pl=TR (.list ps))(n1:pl≠dk)(n2:pl≠rw)(Np:jC T R ps)(Lb:ps≠[])(hz:ps.length<=100)(q:∀T' M' v t g,LI dk tb rw di kf T' M'->aE T T'->Kp [dk,rw,di] M M'->DD T' R v t g->t.length<=90->Q (cM v t g) M'):CT (n+7) (.ref 1316) [.ref dk,.ref pl,.ref tb,.int R] M Q E:=by
 refine b6 GX (ks:=[59,67,101,140]) ?_;have LP:∀M',Kp [dk] M M'->bh M' (.ref pl)=TR ps:=λM' k=>jn (k _ _ (by simp[n1]) hp)
 refine av (hn:=TY _) ?_;refine fj I.d LP Lb (by exact ab [_] X0 (Ar.n 1000) X0 (Ar.n 100) hz rfl) λx1 M1 NS D1 k1=>?_
 refine fj D1 (λM' k=>LP M' (k1.trans k)) Lb (by exact ab [_] X0 (Ar.n 1000) X0 (Ar.n 100) hz rfl) λx2 M2 O3 D2 k2=>?_
 refine gZ D2 (many:=4) (TY _) λr M3 TE D3 k3=>?_
 have k:=(k1.trans k2).trans k3;have I3:=I.draw D3 k;have kk:∀{M4},Kp [dk,rw,di] M3 M4->Kp [dk,rw,di] M M4:=λk4=>(k.mono (by simp)).trans k4
 refine bO (Np x1 NS) λv1 t1 g1 KY=>?_
 have K6:=KY.1;subst K6;have d1:=KY.2.1;have z1:=KY.2.2;refine bO (Np x2 O3) λv2 t2 g2 KY=>?_
 have K6:=KY.1;subst K6;have d2:=KY.2.1;have z2:=KY.2.2;refine av (hn:=TY _) ?_;have eg:∀K:PK,K .next [(59,.ref dk),(67,.ref pl),(101,.ref tb),(140,.int R),(15,cM v1 t1 g1),(120,cM v2 t2 g2),(43,.int r),(176,.bool (g1&&g2))] M3->gb (n+6) E 60 (.asg 176 (.band [(.sub (.loc 15) (.cst (.int 2))),(.sub (.loc 120) (.cst (.int 2)))])) [(59,.ref dk),(67,.ref pl),(101,.ref tb),(140,.int R),(15,cM v1 t1 g1),(120,cM v2 t2 g2),(43,.int r)] M3 K:=by
  intro K hK;induction g1 with
  |true=>exact hK
  |false=>exact hK
 refine eg _ ?_;have y1:t1.length<2^63:=by exact ab [_] ad bd X0 (Ar.n 90) z1 rfl
 have y2:t2.length<2^63:=by exact ab [_] ad bd X0 (Ar.n 90) z2 rfl
 by_cases hl:t1.length+t2.length>60
 ·have Mg:((t1.length:Int)+(t2.length:Int)>60):=by lia
  refine bV (hn:=TY _) (by
   conv=>whnf
   refine⟨y1,?_⟩;refine⟨y2,?_⟩
   conv=>whnf
   simp only[decide_true,and_true, *]) ?_
  exact q T M3 v1 t1 g1 I3 .refl (kk .refl) d1 z1
 have Mg:¬((t1.length:Int)+(t2.length:Int)>60):=by lia
 refine aU (hn:=TY _) (by
  conv=>whnf
  refine⟨y1,?_⟩;refine⟨y2,?_⟩
  conv=>whnf
  simp only[decide_false,and_true, *]) ?_
 clear eg;have l5:=xV hr;by_cases e0:r=0
 ·subst e0;refine bV (hn:=TY _) (by exact⟨rfl,rfl⟩) ?_;have q':=q T M3 _ _ _ I3 .refl (kk .refl) (DD.vec d1 d2) (by exact ai [Ug (α:=Nat) ([35,40]++t1++[32]++t2++[41]),Ug (α:=Nat) (t1),Ug (α:=Nat) (t2)] X0 (Ar.n 90) X0 ((((((N0.a N1).a N1).a X1).a (N0.a N1)).a X2).a (N0.a N1)) cu (Ar.n 60) hJ (UQ hl) rfl);clear q Mg;refine .inl (qx (hn:=TY _) ?_);simp only[Ui,aau,Uc];refine⟨ar (by exact ab [_] (((N0.a N1).a N1).a X0) am X0 (Ar.n 90) z1 rfl),ar (by exact ai [Ug (α:=Nat) ([35,40]++t1),Ug (α:=Nat) (t1)] (X0.a (N0.a N1)) am X0 (((N0.a N1).a N1).a X1) X1 (Ar.n 90) aL z1 rfl),ar (by exact ai [Ug (α:=Nat) ([35,40]++t1++[32]),Ug (α:=Nat) (t2),Ug (α:=Nat) (t1)] aI am X0 ((((N0.a N1).a N1).a X2).a (N0.a N1)) (X2.a X1) (Ar.n 60) d7 (UQ hl) rfl),ar (by exact ai [Ug (α:=Nat) ([35,40]++t1++[32]++t2),Ug (α:=Nat) (t1),Ug (α:=Nat) (t2)] (X0.a (N0.a N1)) am X0 (((((N0.a N1).a N1).a X1).a (N0.a N1)).a X2) cu (Ar.n 60) fu (UQ hl) rfl),.inl ?_⟩;simpa[kA,iv,PK.ret,br]using q'
 have f0:¬((r:Int)=0):=by exact cY (b:=0) (UO (ab [_] (N0.a N1) X0 (N0.a N1) X0 (UJ e0) rfl))
 refine aU (hn:=TY _) (by
  conv=>whnf
  simp only[decide_false,and_true, *]) ?_
 by_cases e1:r=1
 ·subst e1;refine bV (hn:=TY _) (by clear f0;exact⟨rfl,rfl⟩) ?_;clear Mg f0;refine fj D3 (λM' _=>cj) (by decide) (by decide) λx M4 hx D4 k4=>?_
  refine aj (xU hx) λp KY=>?_
  have Lu:=KY.1;have K6:=KY.2;subst K6;have KZ:=jD p Lu;have a1:=KZ.1;have a2:=KZ.2.1;have a3:=KZ.2.2;have I4:=I3.draw D4 k4;have ht:=I4.g.tbl;refine aK ?_;refine jo (by simp only[bR,bS, *]<;>rfl) ?_;refine jx I4.g hk a1 λT' M' a kx G' e' k' Lc=>?_
  have q':=q T' M' _ _ _ (I4.grow G' k') e' (kk ((k4.mono (by simp)).trans (k'.mono (by simp)))) (DD.quo Lu Lc (G'.ok.gt _ (UR Lc)) (d1.ext e')) (by exact bU [_,_,_,_] X0 (Ar.n 90) X0 cu (X2.a X3) (Ar.n 60) X1 N2 aL (UQ hl) a2 rfl);clear q;refine gV (hn:=TY _) ?_;refine gV (hn:=TY _) ?_;exact⟨ar (by exact ai [_,_] aI am X0 N2 X1 (Ar.n 90) a2 z1 rfl),.inl q'⟩
 have f1:¬((r:Int)=1):=by lia
 refine aU (hn:=TY _) (by
  clear f0;(
  conv=>whnf
  simp only[decide_false,and_true, *])) ?_
 by_cases e2:r=2
 ·subst e2;refine bV (hn:=TY _) (by clear f0 f1;exact⟨rfl,rfl⟩) ?_;clear Mg f0 f1;refine fj D3 (λM' _=>cj) (by decide) (by decide) λx M4 hx D4 k4=>?_
  refine aj (xU hx) λp KY=>?_
  have Lu:=KY.1;have K6:=KY.2;subst K6;have KZ:=jD p Lu;have a3:=KZ.2.2;have I4:=I3.draw D4 k4;refine gV (hn:=TY _) ?_;refine gV (hn:=TY _) ?_;have ht:=I4.g.tbl;refine aK ?_;refine jo (by simp only[bR,bS, *]<;>rfl) ?_;refine jx I4.g hk KZ.1 λT' M' a kx G' e' k' Lc=>?_
  have q':=q T' M' _ _ _ (I4.grow G' k') e' (kk ((k4.mono (by simp)).trans (k'.mono (by simp)))) (DD.two Lu Lc (G'.ok.gt _ (UR Lc)) (d1.ext e') (d2.ext e')) (by exact bU [Ug (α:=Nat) ([40]++p.snd++[32]++t1++[32]++t2++[41]),Ug (α:=Nat) (p.snd),Ug (α:=Nat) (t1),Ug (α:=Nat) (t2)] X0 (Ar.n 90) X0 (((((((N0.a N1).a X1).a (N0.a N1)).a X2).a (N0.a N1)).a X3).a (N0.a N1)) (X2.a X3) (Ar.n 60) X1 (Ar.n 16) nN (UQ hl) a3 rfl);clear q;refine gV (hn:=TY _) ?_;simp only[Ui,aau,Uc];refine⟨ar (by exact ab [_] ((N0.a N1).a X0) am X0 (Ar.n 16) a3 rfl),ar (by exact ai [Ug (α:=Nat) ([40]++p.snd),Ug (α:=Nat) (p.snd)] (X0.a (N0.a N1)) am X0 ((N0.a N1).a X1) X1 (Ar.n 16) aL a3 rfl),ar (by exact bU [Ug (α:=Nat) ([40]++p.snd++[32]),Ug (α:=Nat) (t1),Ug (α:=Nat) (p.snd)] aI am X0 (((N0.a N1).a X2).a (N0.a N1)) X1 (Ar.n 90) X2 (Ar.n 16) d7 z1 a3 rfl),ar (by exact bU [Ug (α:=Nat) ([40]++p.snd++[32]++t1),Ug (α:=Nat) (p.snd),Ug (α:=Nat) (t1)] (X0.a (N0.a N1)) am X0 ((((N0.a N1).a X1).a (N0.a N1)).a X2) X2 (Ar.n 90) X1 (Ar.n 16) fu z1 a3 rfl),ar (by exact bU [Ug (α:=Nat) ([40]++p.snd++[32]++t1++[32]),Ug (α:=Nat) (t2),Ug (α:=Nat) (p.snd),Ug (α:=Nat) (t1)] aI am X0 (((((N0.a N1).a X2).a (N0.a N1)).a X3).a (N0.a N1)) (X3.a X1) (Ar.n 60) X2 (Ar.n 16) hJ (UQ hl) a3 rfl),ar (by exact bU [Ug (α:=Nat) ([40]++p.snd++[32]++t1++[32]++t2),Ug (α:=Nat) (p.snd),Ug (α:=Nat) (t1),Ug (α:=Nat) (t2)] (X0.a (N0.a N1)) am X0 ((((((N0.a N1).a X1).a (N0.a N1)).a X2).a (N0.a N1)).a X3) (X2.a X3) (Ar.n 60) X1 (Ar.n 16) k7 (UQ hl) a3 rfl),.inl ?_⟩;simpa[kA,iv,PK.ret,br]using q'
 have f2:¬((r:Int)=2):=by lia
 refine aU (hn:=TY _) (by
  clear f0 f1;(
  conv=>whnf
  simp only[decide_false,and_true, *])) ?_
 refine av (hn:=TY _) ?_;have q':=q T M3 _ _ _ I3 .refl (kk .refl) (DD.dot d1) (by exact bU [Ug (α:=Nat) ([40]++t1++[32]++nt R 5++[32,46,32,35,92,65,41]),Ug (α:=Nat) (t1),Ug (α:=Nat) (nt R 5),Ug (α:=Nat) (t2)] X0 (Ar.n 90) X0 (((((N0.a N1).a X1).a (N0.a N1)).a X2).a (((((((N0.a N1).a N1).a N1).a N1).a N1).a N1).a N1)) (X1.a X3) (Ar.n 60) X2 N4 hJ (UQ hl) l5 rfl);clear q Mg f0 f1 f2;refine jp (hn:=TY _) ?_;refine gV (hn:=TY _) ?_;refine gV (hn:=TY _) ?_;refine⟨ar (by exact ab [_] ((N0.a N1).a X0) am X0 (Ar.n 90) z1 rfl),ar (by exact ai [Ug (α:=Nat) ([40]++t1),Ug (α:=Nat) (t1)] (X0.a (N0.a N1)) am X0 ((N0.a N1).a X1) X1 (Ar.n 90) aL z1 rfl),?_⟩;refine ni hr K4 (by decide) ?_;simp only[Ui,aau,Uc];refine⟨ar (by exact bU [Ug (α:=Nat) ([40]++t1++[32]),Ug (α:=Nat) (nt R 5),Ug (α:=Nat) (t1)] aI am X0 (((N0.a N1).a X2).a (N0.a N1)) X1 N4 X2 (Ar.n 90) d7 l5 z1 rfl),ar (by exact bU [Ug (α:=Nat) ([40]++t1++[32]++nt R 5),Ug (α:=Nat) (t1),Ug (α:=Nat) (nt R 5)] (X0.a (((((((N0.a N1).a N1).a N1).a N1).a N1).a N1).a N1)) am X0 ((((N0.a N1).a X1).a (N0.a N1)).a X2) X1 (Ar.n 90) X2 N4 fu z1 l5 rfl),.inl ?_⟩;simp only[Uu,V6,VV]at q'⊢;exact q'
end
end
section
theorem DD.nb{T:au}{v:V}(h:DD T R v t g):aY v=TV:=by induction h<;>rfl
theorem jE{l:List Nat}:aY (aW a k l)=TV:=rfl
theorem fk:aY (aB x y)=TV:=rfl
theorem g8:∀p∈QL,fM p.2 TV=TV/\1<=p.1.length/\5<=p.2.length:=by decide
theorem JP:∀p∈QL,fK QL (λm=>TV&&decide (p.2=m))=TR p.1:=by decide
theorem rg{T:au}{l:List Nat}(h:T[k]? =TR ⟨a,l,i⟩)(hl:l.length<=100):cL T 1 (aW a k l) (fM l i):=.sym h hl
variable[HasP]
theorem DD.rd{T:au}{v:V}(h:DD T R v t g):∃m,cL T m v g/\m<=8*(t.length+1):=by
 induction h with
 |spc h h' hl=>exact⟨1,.odd (.spc (by exact ab [_] X0 (Ar.n 100) X0 (Ar.n 20) hl rfl)) (by show TR (decide (_=44))=_;rw[decide_eq_false h]) (λ_=>rfl) (λ_=>rfl) (λ_=>rfl),by exact TY _⟩
 |odd h hl=>refine⟨1,.odd h ?_ (λM=>(gi h).2.2.2.2.2.1) (λM=>(gi h).2.2.2.2.2.2.1) (λM=>(gi h).2.1),by exact TY _⟩;show(if _=38 then TW else TR TT)=_;refine(if_neg (gi (M:=[]) h).2.2.2.2.1).symm▸?_;with_reducible rfl
 |sym h ha hl=>exact⟨1,rg h (by exact ab [_] X0 (Ar.n 100) X0 (Ar.n 20) hl rfl),by exact TY _⟩
 |rat hd hb=>exact⟨1,.oth rfl (λ_=>rfl) (λ_=>rfl) (λ_=>rfl) (λ_=>rfl) (λ_=>rfl) (λ_=>rfl) (λ_=>rfl) (λ_=>rfl),by exact TY _⟩
 |int h=>exact⟨1,.oth rfl (λ_=>rfl) (λ_=>rfl) (λ_=>rfl) (λ_=>rfl) (λ_=>rfl) (λ_=>rfl) (λ_=>rfl) (λ_=>rfl),by exact TY _⟩
 |bool b=>exact⟨1,.oth rfl (λ_=>rfl) (λ_=>rfl) (λ_=>rfl) (λ_=>rfl) (λ_=>rfl) (λ_=>rfl) (λ_=>rfl) (λ_=>rfl),by exact TY _⟩
 |emp=>exact⟨1,.emp,by decide⟩
 |chr h=>exact⟨1,.oth rfl (λ_=>rfl) (λ_=>rfl) (λ_=>rfl) (λ_=>rfl) (λ_=>rfl) (λ_=>rfl) (λ_=>rfl) (λ_=>rfl),by exact TY _⟩
 |txt=>exact⟨1,.oth rfl (λ_=>rfl) (λ_=>rfl) (λ_=>rfl) (λ_=>rfl) (λ_=>rfl) (λ_=>rfl) (λ_=>rfl) (λ_=>rfl),by decide⟩
 |vec _ _ i1 i2=>obtain⟨m1,h1,z1⟩:=i1;obtain⟨m2,h2,z2⟩:=i2;exact⟨_,.vec2 h1 h2,by simp;lia⟩
 |quo hp h ha d i=>obtain⟨m1,h1,z1⟩:=i;have g1:=g8 _ hp;refine⟨1+(m1+1+3)+3,?_,by rw[Ui];exact ai [_,_,_] ((N1.a (ad.a N3)).a N3) (Ar.m 8 (cu.a N1)) X0 (Ar.m 8 bC) (Ar.m 8 N1) (Ar.m 8 X1) z1 (mK 8 g1.2.1) rfl⟩;have:=cL.pair jE fk (rg h (by have:=jD _ hp;exact ab [_] X0 (Ar.n 100) X0 (Ar.n 16) this.2.2 rfl)) (cL.pair d.nb wB h1 .emp);rw[g1.1]at this;simpa using this
 |two hp h ha d1 d2 i1 i2=>obtain⟨m1,h1,z1⟩:=i1;obtain⟨m2,h2,z2⟩:=i2;have g1:=g8 _ hp;refine⟨1+(m1+(m2+1+3)+3)+3,?_,by simp;lia⟩;have:=cL.pair jE fk (rg h (by have:=jD _ hp;exact ab [_] X0 (Ar.n 100) X0 (Ar.n 16) this.2.2 rfl)) (cL.pair d1.nb fk h1 (cL.pair d2.nb wB h2 .emp));rw[g1.1]at this;simpa using this
 |dot d i=>obtain⟨m1,h1,z1⟩:=i;refine⟨m1+(1+1+3)+3,?_,by simp;lia⟩;have:=cL.pair (T:=T) d.nb fk h1 (cL.pair (b1:=TV) (b2:=TV) (x:=.int 5) (y:=dC 65) rfl rfl (.oth rfl (λ_=>rfl) (λ_=>rfl) (λ_=>rfl) (λ_=>rfl) (λ_=>rfl) (λ_=>rfl) (λ_=>rfl) (λ_=>rfl)) (.oth rfl (λ_=>rfl) (λ_=>rfl) (λ_=>rfl) (λ_=>rfl) (λ_=>rfl) (λ_=>rfl) (λ_=>rfl) (λ_=>rfl)));simpa using this
set_option tactic.hygienic true in
theorem DD.pr{T:au}{v:V}(h:DD T R v t g):∃m,m<=4*(t.length+1)/\∀lim tb pc wt,Pr ⟨TV,R,lim,.ref tb,pc,wt⟩ kf T m v t:=by
 have Lr:∀{v t},AT TV R v t->(∀M,aD M v (.ref 155)=TR TT)->(∀M,aD M v (.ref 218)=TR TT)->∃m,m<=4*(t.length+1)/\∀lim tb pc wt,Pr ⟨TV,R,lim,.ref tb,pc,wt⟩ kf T m v t:=λhA h1 h2=>⟨1,by exact TY _,λ_ _ _ _=>.atom hA h1 h2⟩
 induction h with
 |spc h h' hl=>exact Lr (.spc h (by exact ab [_] X0 (Ar.n 100) X0 (Ar.n 20) hl rfl)) (λ_=>rfl) (λ_=>rfl)
 |odd h hl=>exact Lr (.odd h) (λM=>(gi h).2.2.2.2.2.1) (λM=>(gi h).2.2.2.2.2.2.1)
 |sym h ha hl=>exact Lr (.sym ha) (λ_=>rfl) (λ_=>rfl)
 |rat hd hb=>exact Lr (.rat (by exact ai [_,_] ad (Ar.n 18446744073709551616) X0 ((Ar.m 6 X1).a (Ar.n 121)) (Ar.m 6 ay) (Ar.m 6 (Ar.n 40)) kZ (mK 6 hd) rfl) (by lia)) (λ_=>rfl) (λ_=>rfl)
 |int h=>exact Lr (.int (by exact ab [_] ad (Ar.n 18446744073709551616) ad (Ar.n 1000) h rfl)) (λ_=>rfl) (λ_=>rfl)
 |bool b=>exact Lr (.bool b) (λ_=>rfl) (λ_=>rfl)
 |emp=>exact Lr .emp (λ_=>rfl) (λ_=>rfl)
 |chr h=>exact Lr (.chrW rfl (by lia)) (λ_=>rfl) (λ_=>rfl)
 |txt=>exact Lr (.txtW (l:=[97,34]) rfl (by decide) (by decide)) (λ_=>rfl) (λ_=>rfl)
 |vec _ _ i1 i2=>obtain⟨m1,z1,h1⟩:=i1;obtain⟨m2,z2,h2⟩:=i2;exact⟨m1+m2+7,by simp;lia,λlim tb pc wt=>.vec2 (h1 lim tb pc wt) (h2 lim tb pc wt)⟩
 |quo hp h ha d i=>obtain⟨m1,z1,h1⟩:=i;have g1:=g8 _ hp;exact⟨m1+2,by rw[Ui];exact ai [_,_,_] (X0.a N2) (Ar.m 4 (cu.a N1)) X0 (Ar.m 4 bC) (Ar.m 2 N1) (Ar.m 2 X1) z1 (mK 2 g1.2.1) rfl,λlim tb pc wt=>.quo ⟨tb,rfl⟩ (IG h) jE d.nb (JP _ hp) (h1 lim tb pc wt)⟩
 |two hp h ha d1 d2 i1 i2=>rename_i p a k x y t1 t2 g1 g2;obtain⟨m1,z1,h1⟩:=i1;obtain⟨m2,z2,h2⟩:=i2;have gg:=g8 _ hp;refine⟨1+(m1+(m2+1+3)+3)+3,by simp;lia,λlim tb pc wt=>?_⟩;have:=Pr.pair (F:=⟨TV,R,lim,.ref tb,pc,wt⟩) (kf:=kf) (T:=T) (x:=aW a k p.2) (y:=aB x (aB y aH)) (t1:=p.2) (m1:=1) (.inr (.inr (.inl ⟨x,aB y aH,rfl,rfl,rfl⟩))) jE fk (.atom (.sym ha) (λ_=>rfl) (λ_=>rfl)) (dQ.pair d1.nb fk (h1 lim tb pc wt) (dQ.pair d2.nb rfl (h2 lim tb pc wt) .emp));simpa using this
 |dot d i=>
  rename_i x t g;obtain⟨m1,z1,h1⟩:=i;refine⟨m1+(1+(1+4)+3)+3,by simp;lia,λlim tb pc wt=>?_⟩;have:=Pr.pair (F:=⟨TV,R,lim,.ref tb,pc,wt⟩) (kf:=kf) (T:=T) (x:=x) (y:=aB (.int 5) (dC 65)) (.inr (.inr (.inl ⟨.int 5,dC 65,rfl,rfl,rfl⟩))) d.nb fk (h1 lim tb pc wt) (dQ.pair (x:=.int 5) (y:=dC 65) (t1:=nt R 5) rfl rfl (.atom (.int (by decide)) (λ_=>rfl) (λ_=>rfl)) (dQ.oth (t:=dY 65) rfl (λ_=>rfl) (.atom (.chrW rfl (by decide)) (λ_=>rfl) (λ_=>rfl))));have e:dY 65=[35,92,65]:=by decide
  rw[e]at this;simpa using this
set_option tactic.hygienic true in
theorem DD.disp{T:au}{v:V}(h:DD T R v t g):∃m u,m<=12*(t.length+1)/\u.length<=40*(t.length+1)/\∀pc wt,Pr ⟨TT,10,.none,.none,pc,wt⟩ kf T m v u:=by
 have Lr:∀{v t u},AT TT 10 v u->u.length<=40*(Ug t+1)->(∀M,aD M v (.ref 155)=TR TT)->(∀M,aD M v (.ref 218)=TR TT)->∃m u,m<=12*((t:List Nat).length+1)/\u.length<=40*(t.length+1)/\∀pc wt,Pr ⟨TT,10,.none,.none,pc,wt⟩ kf T m v u:=λ{v t u} hA hu h1 h2=>⟨1,u,by exact TY _,hu,λ_ _=>.atom hA h1 h2⟩
 induction h with
 |spc h h' hl=>exact Lr (.spc h (by exact ab [_] X0 (Ar.n 100) X0 (Ar.n 20) hl rfl)) (by exact aw [_] X0 (Ar.m 40 ad) rfl) (λ_=>rfl) (λ_=>rfl)
 |odd h hl=>exact Lr (.odd h) (by exact aw [_] X0 (Ar.m 40 ad) rfl) (λM=>(gi h).2.2.2.2.2.1) (λM=>(gi h).2.2.2.2.2.2.1)
 |sym h ha hl=>exact Lr (.sym ha) (by exact aw [_] X0 (Ar.m 40 ad) rfl) (λ_=>rfl) (λ_=>rfl)
 |rat hd hb=>rename_i d b;have l1:=fh (r:=10) (k:=8) (i:=1+6*((d:Int)-20)) (by exact aw [] N2 (Ar.n 10) rfl) (by lia) (by exact TY _);have l2:=fh (r:=10) (k:=8) (i:=(b:Int)) (by exact aw [] N2 (Ar.n 10) rfl) (by lia) (by exact TY _);exact Lr (.rat (by exact ai [_,_] ad (Ar.n 18446744073709551616) X0 ((Ar.m 6 X1).a (Ar.n 121)) (Ar.m 6 ay) (Ar.m 6 (Ar.n 40)) kZ (mK 6 hd) rfl) (by lia)) (by exact bU [_,_,_,_] X0 (Ar.m 40 ay) X0 ((X2.a (N0.a N1)).a X3) X2 (N8.a N1) X3 (N8.a N1) d7 l1 l2 rfl) (λ_=>rfl) (λ_=>rfl)
 |int h=>rename_i i;have l1:=fh (r:=10) (k:=10) (i:=i) (by exact aw [] N2 (Ar.n 10) rfl) (by exact ab [_] ad (Ar.n 1024) ad (Ar.n 1000) h rfl) (by exact TY _);exact Lr (.int (by exact ab [_] ad (Ar.n 18446744073709551616) ad (Ar.n 1000) h rfl)) (by exact ab [_,_] X0 (Ar.m 40 ay) X0 ((Ar.n 10).a N1) l1 rfl) (λ_=>rfl) (λ_=>rfl)
 |bool b=>exact Lr (.bool b) (by exact aw [_] X0 (Ar.m 40 ad) rfl) (λ_=>rfl) (λ_=>rfl)
 |emp=>exact Lr .emp (by decide) (λ_=>rfl) (λ_=>rfl)
 |chr h=>exact Lr (.chrD rfl (by lia)) (by simp;exact TY _) (λ_=>rfl) (λ_=>rfl)
 |txt=>exact Lr (.txtD (l:=[97,34]) rfl (by decide) (by decide)) (by decide) (λ_=>rfl) (λ_=>rfl)
 |vec _ _ i1 i2=>
  refine aX i1 λm1 u1 KY=>?_
  have h1:=KY.2.2;refine aX i2 λm2 u2 KY=>?_
  exact⟨m1+m2+7,_,by simp;lia,by simp;lia,λpc wt=>.vec2 (h1 pc wt) (KY.2.2 pc wt)⟩
 |quo hp h ha d i=>
  rename_i p a k x t g;refine aX i λm1 u1 KY=>?_
  have gg:=g8 _ hp;have gn:=jD _ hp;refine⟨1+(m1+1+3)+3,[40]++p.2++([32]++u1++[41]),by rw[Ui];exact ai [_,_,_] ((N1.a (ad.a N3)).a N3) (Ar.m 12 (cu.a N1)) X0 (Ar.m 12 bC) (Ar.m 8 N1) (Ar.m 8 X1) KY.1 (mK 8 gg.2.1) rfl,by simp;lia,λpc wt=>?_⟩;exact Pr.pair (F:=⟨TT,10,.none,.none,pc,wt⟩) (kf:=kf) (T:=T) (x:=aW a k p.2) (y:=aB x aH) (t1:=p.2) (m1:=1) (.inl rfl) jE fk (.atom (.sym ha) (λ_=>rfl) (λ_=>rfl)) (dQ.pair d.nb rfl (KY.2.2 pc wt) .emp)
 |two hp h ha d1 d2 i1 i2=>
  rename_i p a k x y t1 t2 g1 g2;refine aX i1 λm1 u1 KY=>?_
  have h1:=KY.2.2;refine aX i2 λm2 u2 KY=>?_
  have gg:=g8 _ hp;have gn:=jD _ hp;refine⟨1+(m1+(m2+1+3)+3)+3,[40]++p.2++([32]++u1++([32]++u2++[41])),by simp;lia,by simp;lia,λpc wt=>?_⟩;exact Pr.pair (F:=⟨TT,10,.none,.none,pc,wt⟩) (kf:=kf) (T:=T) (x:=aW a k p.2) (y:=aB x (aB y aH)) (t1:=p.2) (m1:=1) (.inl rfl) jE fk (.atom (.sym ha) (λ_=>rfl) (λ_=>rfl)) (dQ.pair d1.nb fk (h1 pc wt) (dQ.pair d2.nb rfl (KY.2.2 pc wt) .emp))
 |dot d i=>
  rename_i x t g;refine aX i λm1 u1 KY=>?_
  refine⟨m1+(1+(1+4)+3)+3,[40]++u1++([32]++nt 10 5++([32,46,32]++[65]++[41])),by simp;lia,?_,λpc wt=>?_⟩
  ·have:=xV (R:=10) (by exact aw [] N2 (Ar.n 10) rfl);simp;exact ai [_,_,_,_] ((X0.a ((X1.a N5).a N1)).a N1) (Ar.m 40 (((X2.a ((X3.a N7).a N1)).a N1).a N1)) X0 (Ar.m 40 bC) X1 N4 KY.2.1 this rfl
  ·exact Pr.pair (F:=⟨TT,10,.none,.none,pc,wt⟩) (kf:=kf) (T:=T) (x:=x) (y:=aB (.int 5) (dC 65)) (.inl rfl) d.nb fk (KY.2.2 pc wt) (dQ.pair (x:=.int 5) (y:=dC 65) (t1:=nt 10 5) rfl rfl (.atom (.int (by decide)) (λ_=>rfl) (λ_=>rfl)) (dQ.oth (t:=[65]) rfl (λ_=>rfl) (.atom (.chrD rfl (by decide)) (λ_=>rfl) (λ_=>rfl))))
end
section
noncomputable def fo:List Nat:=[32,10,9,13,12,40,41,34,59]
noncomputable def iE:List Nat:=[91,93,123,125,124]
noncomputable def bj(s:List Nat)(i:Nat):List (Nat×V):=[(88,.str s),(235,.int 53),(98,.int i),(223,.bool TV)]
structure LX(lx:TX)(s:List Nat)(i:Nat)(M:aa):Prop where
 h:aak M lx=TR (.inst 1018 (bj s i))
 z:s.length<=200
structure At(s:List Nat)(i:Nat)(t:List Nat):Prop where
 e:s.drop i=t
 le:i<=s.length
theorem At.len(h:At s i t):s.length=i+t.length:=by have h1:=h.e;have h2:=h.le;rw[<-h1,WD];lia
theorem At.at(h:At s i (c::t)):s[i]? =TR c:=by have:=congrArg (λl=>l[0]?) h.e;simpa using this
theorem At.next(h:At s i (c::t)):At s (i+1) t:=by refine⟨?_,by have:=h.len;simp at this;exact ab [_,_,_] ad X1 (X0.a bC) X1 (eR this) rfl⟩;rw[<-Zg,h.e];rfl
theorem At.skip(h:At s i (w++t)):At s (i+w.length) t:=by refine⟨?_,by have:=h.len;simp at this;exact ab [_,_,_,_] aI X2 (X0.a (X1.a X3)) X2 (eR this) rfl⟩;rw[<-Zg,h.e];simp
theorem At.cut(h:At s i (w++t)):(s.drop i).take w.length=w:=by rw[h.e];simp
def dR(rest:List Nat):Prop:=rest=[]\/∃c r,rest=c::r/\(c=32\/c=41)
variable[HasP]
variable{n:Nat}{M:aa}{Q:PQ}{E:PE}
section
variable{lx:TX}{s:List Nat}{i:Nat}
theorem LX.set(z:s.length<=200):LX lx s j (ag M lx (.inst 1018 (bj s j))):=⟨by rw[ak,if_pos rfl],z⟩
theorem fN{v:V}(L:LX lx s i M)(q:∀M',LX lx s j M'->Kp [lx] M M'->Q (bH w v i j) M'):CT (n+4) (.ref 973) [.ref lx,.str w,v,.int j] M Q E:=by refine ax Gs (ks:=[57,44,110,13]) ?_;have h:=L.h;unfold bj at h;have q':=q _ (LX.set (M:=M) (j:=j) L.z) (Kp.put (.head _));unfold bj at q';clear q;refine ah ?_;refine aV ?_;simp only[UH,aau,Uc, *];exact wL q'
theorem JQ{K:PK}(hz:s.length<=200):∀(sp t:List Nat) (i:Nat) (M:aa) (ρ:af),(sp=[]\/sp=[32])->At s i (sp++t)->(∀c r,t=c::r->c∉([32,10,9,13,12]:List Nat)/\c≠59)->aak M lx=TR (.inst 1018 (bj s i))->aak ρ 57=TR (.ref lx)->(∀M' ρ',LX lx s (i+sp.length) M'->Kp [lx] M M'->K .next ρ' M'/\K (.ret .none) ρ' M')->Wh (n+1) ρ M (.cmp .Lt (.attr (.loc 57) 98) (.call (.cst (.bi "len")) [(.attr (.loc 57) 88)])) [.asg 166 (.sub (.attr (.loc 57) 88) (.attr (.loc 57) 98)),.ite (.cmp .Eq (.loc 166) (.cst (.str [59]))) [.asg 13 (.meth (.attr (.loc 57) 88) 42 [(.cst (.str [10])),(.attr (.loc 57) 98)]),.asgA (.loc 57) 98 (.ite (.cmp .Lt (.loc 13) (.cst (.int 0))) (.call (.cst (.bi "len")) [(.attr (.loc 57) 88)]) (.loc 13))] [.ite (.cmp .In (.loc 166) (.cst (.str [32,10,9,13,12]))) [.asgA (.loc 57) 98 (.bin .Add (.attr (.loc 57) 98) (.cst (.int 1)))] [.ret0]]] K E:=by
 intro sp;have base:∀(t:List Nat) (i:Nat) (M:aa) (ρ:af),At s i t->(∀c r,t=c::r->c∉([32,10,9,13,12]:List Nat)/\c≠59)->aak M lx=TR (.inst 1018 (bj s i))->aak ρ 57=TR (.ref lx)->(∀M' ρ',LX lx s i M'->Kp [lx] M M'->K .next ρ' M'/\K (.ret .none) ρ' M')->Wh (n+1) ρ M (.cmp .Lt (.attr (.loc 57) 98) (.call (.cst (.bi "len")) [(.attr (.loc 57) 88)])) [.asg 166 (.sub (.attr (.loc 57) 88) (.attr (.loc 57) 98)),.ite (.cmp .Eq (.loc 166) (.cst (.str [59]))) [.asg 13 (.meth (.attr (.loc 57) 88) 42 [(.cst (.str [10])),(.attr (.loc 57) 98)]),.asgA (.loc 57) 98 (.ite (.cmp .Lt (.loc 13) (.cst (.int 0))) (.call (.cst (.bi "len")) [(.attr (.loc 57) 88)]) (.loc 13))] [.ite (.cmp .In (.loc 166) (.cst (.str [32,10,9,13,12]))) [.asgA (.loc 57) 98 (.bin .Add (.attr (.loc 57) 98) (.cst (.int 1)))] [.ret0]]] K E:=by
  intro t i M ρ hat hc h K3 q;have hlen:=hat.len;have zl:s.length<2^63:=by exact ab [_] ad bd X0 az hz rfl
  refine bF ?_;have hu:=h;unfold bj at hu;induction t with
  |nil=>
   have e1:¬((i:Int)<(s.length:Int)):=by exact ft (ab [_,_] X0 X1 X0 (X1.a N0) (eL hlen) rfl)
   have q':=(q M ρ ⟨h,hz⟩ .refl).1;clear q h hc;clear hlen;refine ac ?_;refine ah ?_;refine ac ?_;refine ah ?_;refine⟨zl,?_⟩
   conv=>whnf
   refine bv ?_;exact q'
  |cons c r=>
   obtain⟨c1,c2⟩:=hc c r rfl;have e1:((i:Int)<(s.length:Int)):=by exact dF (ab [_,_,_] ad X1 (X0.a bC) X1 (eR hlen) rfl)
   have e2:∀M,bc M (.str s) (.int (i:Nat))=TR (.str [c]):=λM=>dX hat.at (by exact ai [_,_,_] ad bY (X0.a ay) X2 X2 az (eR hlen) hz rfl)
   have e3:¬(([c]:List Nat)=[59]):=by simpa using c2
   have q':=(q M (ag ρ 166 (.str [c])) ⟨h,hz⟩ .refl).2;clear q h hc;clear hlen;refine ac ?_;refine ah ?_;refine ac ?_;refine ah ?_;refine⟨zl,?_⟩
   conv=>whnf
   refine c9 ?_;refine ac ?_;refine ah ?_;refine ac ?_;refine ah ?_;refine a0 (o:=bc _ _ _) (by simp only[*]<;>rfl) ?_;refine a0 (o:=aak _ _) (by simp only[ak,reduceIte, *]<;>rfl) ?_
   conv=>whnf
   refine bv ?_;refine a0 (o:=aak _ _) (by simp only[ak,reduceIte, *]<;>rfl) ?_;refine bv ?_;exact q'
 intro t i M ρ K7 hat hc h K3 q;rcases K7 with rfl|rfl
 ·exact base t i M ρ hat hc h K3 (λM' ρ'=>q M' ρ')
 ·have hlen:=hat.len;have zl:s.length<2^63:=by exact ab [_] ad bd X0 az hz rfl
  refine bF ?_;have hu:=h;unfold bj at hu;have e1:((i:Int)<(s.length:Int)):=by simp at hlen;lia
  have e2:∀M,bc M (.str s) (.int (i:Nat))=TR (.str [32]):=λM=>dX hat.at (by exact ai [_,_,_] ad bY aI X2 X2 az (eR hlen) hz rfl)
  have e3:¬(([32]:List Nat)=[59]):=by decide
  have e4:(32:Nat)∈([32,10,9,13,12]:List Nat):=by decide
  have e5:((i:Int)+1)=((i+1:Nat):Int):=by rfl
  have nx:=base t (i+1) (ag M lx (.inst 1018 (bj s (i+1)))) (ag ρ 166 (.str [32])) hat.next hc (by rw[ak,if_pos rfl]) (by exact(aS rfl).trans K3) λM' ρ' L k=>q M' ρ' L ((Kp.put (.head _)).trans k)
  unfold bj at nx;clear q h hc base hlen;refine ac ?_;refine ah ?_;refine ac ?_;refine ah ?_;refine⟨zl,?_⟩
  conv=>whnf
  refine c9 ?_;refine ac ?_;refine ah ?_;refine ac ?_;refine ah ?_;refine a0 (o:=bc _ _ _) (by simp only[*]<;>rfl) ?_;refine a0 (o:=aak _ _) (by simp only[ak,reduceIte, *]<;>rfl) ?_;refine a0 (o:=aak _ _) (by simp only[ak,reduceIte, *]<;>rfl) ?_;refine bM ?_
  conv=>whnf
  refine ah ?_;refine bM ?_
  conv=>whnf
  refine aV ?_;simp only[UH,aau,Uc, *];assumption
theorem xW(L:LX lx s i M)(K7:sp=[]\/sp=[32])(hat:At s i (sp++t))(hc:∀c r,t=c::r->c∉([32,10,9,13,12]:List Nat)/\c≠59)(q:∀M',LX lx s (i+sp.length) M'->Kp [lx] M M'->Q .none M'):CT (n+2) (.ref 952) [.ref lx] M Q E:=by refine ax Gq (ks:=[57]) ?_;exact JQ L.z sp t i M _ K7 hat hc L.h rfl λM' ρ' L' k=>⟨q M' L' k,q M' L' k⟩
theorem xX{K:PK}(hz:s.length<=200):∀(w rest:List Nat) (i:Nat) (ρ:af),(∀c∈w,c∉fo/\c∉iE)->dR rest->At s i (w++rest)->aak M lx=TR (.inst 1018 (bj s j))->aak ρ 57=TR (.ref lx)->aak ρ 10=TR (.int i)->(∀ρ',aak ρ' 10=TR (.int (i+w.length:Nat))->K .next ρ' M)->Wh (n+1) ρ M (.band [(.cmp .Lt (.loc 10) (.call (.cst (.bi "len")) [(.attr (.loc 57) 88)])),(.cmp .NotIn (.sub (.attr (.loc 57) 88) (.loc 10)) (.cst (.str [32,10,9,13,12,40,41,34,59])))]) [.ite (.cmp .In (.sub (.attr (.loc 57) 88) (.loc 10)) (.cst (.str [91,93,123,125,124]))) [.raise (.call (.cst (.ref 387)) [(.cst (.str [114,101,115,101,114,118,101,100,32,115,105,103,110])),(.loc 10)])] [],.asg 10 (.bin .Add (.loc 10) (.cst (.int 1)))] K E
 |[],rest,i,ρ,hw,hr,hat,h,K3,Lh,q=>by
  have hlen:=hat.len;have zl:s.length<2^63:=by exact ab [_] ad bd X0 az hz rfl
  refine bF ?_;have q':=q ρ (by simpa using Lh);unfold bj at h;clear q;rcases hr with rfl|⟨c,r,rfl,hc⟩
  ·have e1:¬((i:Int)<(s.length:Int)):=by simp at hlen;lia
   clear hlen
   conv=>whnf
   refine ac ?_
   conv=>whnf
   refine ac ?_
   conv=>whnf
   refine ah ?_;refine⟨zl,?_⟩
   conv=>whnf
   refine bv ?_
   conv=>whnf
   refine bv ?_;exact q'
  ·have e1:((i:Int)<(s.length:Int)):=by simp at hlen;lia
   have e2:∀M,bc M (.str s) (.int (i:Nat))=TR (.str [c]):=λM=>dX hat.at (by exact ai [_,_,_] ad bY aI X2 X2 az (eR hlen) hz rfl)
   have e3:c∈([32,10,9,13,12,40,41,34,59]:List Nat):=by rcases hc with rfl|rfl<;>decide
   clear hc;clear hlen
   conv=>whnf
   refine ac ?_
   conv=>whnf
   refine ac ?_
   conv=>whnf
   refine ah ?_;refine⟨zl,?_⟩
   conv=>whnf
   refine c9 ?_
   conv=>whnf
   refine ac ?_
   conv=>whnf
   refine ah ?_
   conv=>whnf
   refine ac ?_;refine a0 (o:=bc _ _ _) (by simp only[*]<;>rfl) ?_;refine cA (b:=dA _ _) (by simp only[decide_true,UY, *]<;>rfl) ?_;refine cA (b:=YA _) (by simp only[decide_true,UY, *]<;>rfl) ?_;exact q'
 |c::w,rest,i,ρ,hw,hr,hat,h,K3,Lh,q=>by
  have hlen:=hat.len;have zl:s.length<2^63:=by exact ab [_] ad bd X0 az hz rfl
  refine bF ?_;have e1:((i:Int)<(s.length:Int)):=by simp at hlen;lia
  have e2:∀M,bc M (.str s) (.int (i:Nat))=TR (.str [c]):=λM=>dX hat.at (by exact ai [_,_,_] ad bY aI X2 X2 az (eR hlen) hz rfl)
  have e3:¬(c∈([32,10,9,13,12,40,41,34,59]:List Nat)):=(hw c (.head _)).1;have e4:¬(c∈([91,93,123,125,124]:List Nat)):=(hw c (.head _)).2;have e5:((i:Int)+1)=((i+1:Nat):Int):=by rfl
  have nx:=xX hz w rest (i+1) (ag ρ 10 (.int (i+1:Nat))) (λc hc=>hw c (.tail _ hc)) hr hat.next h (by exact(aS rfl).trans K3) (by exact bw) λρ' g=>q ρ' (by rw[g,aau];congr 2;exact iK (UM (aw [_,_] (ad.a X1) (X0.a ay) rfl) (aw [_,_] (X0.a ay) (ad.a X1) rfl)))
  unfold bj at h;clear q hw hlen
  conv=>whnf
  refine ac ?_
  conv=>whnf
  refine ac ?_
  conv=>whnf
  refine ah ?_;refine⟨zl,?_⟩
  conv=>whnf
  refine c9 ?_
  conv=>whnf
  refine ac ?_
  conv=>whnf
  refine ah ?_
  conv=>whnf
  refine ac ?_;refine a0 (o:=bc _ _ _) (by simp only[*]<;>rfl) ?_;refine cA (b:=dA _ _) (by simp only[decide_false,UL, *]<;>rfl) ?_
  conv=>whnf
  refine ac ?_
  conv=>whnf
  refine ah ?_
  conv=>whnf
  refine ac ?_;refine a0 (o:=bc _ _ _) (by simp only[*]<;>rfl) ?_
  conv=>whnf
  refine bv ?_
  conv=>whnf
  refine ac ?_;exact nx
theorem JR(L:LX lx s j M)(hw:∀c∈w,c∉fo/\c∉iE)(hr:dR rest)(hat:At s i (w++rest))(q:Q (.int (i+w.length:Nat)) M):CT (n+2) (.ref 980) [.ref lx,.int i] M Q E:=by
 refine ax Gu (ks:=[57,136]) ?_;refine xX (lx:=lx) L.z w rest i _ hw hr hat L.h rfl rfl λρ' g=>?_
 refine ac ?_;exact q
end
end
section
variable[HasP]
variable{n:Nat}{M:aa}{Q:PQ}{E:PE}
section
variable{lx:TX}{s:List Nat}{i:Nat}
theorem LX.keep(L:LX lx s i M)(k:Kp [] M M'):LX lx s i M':=⟨k _ _ (by simp) L.h,L.z⟩
theorem JT{st:Nat}(L:LX lx s i M)(hx:x.natAbs<2^63)(q:∀M',Kp [] M M'->Q (.int x) M'):CT (n+9) (.ref 994) [.ref lx,.str (nt 10 x),.int st] M Q E:=by
 refine ax wp (ks:=[57,21,136]) ?_;have h:=L.h;unfold bj at h;refine ah ?_;simp only[*];refine Ip hx λM' k=>?_
 have q':=q M' k;clear q
 conv=>whnf
 simp only[br, *]
theorem JU{b st:Nat}(L:LX lx s i M)(ht:t.natAbs<2^63)(hb:1<b)(Mf:b<2^63)(hg:WF t.natAbs b=1)(q:∀M',Kp [] M M'->Q (eM t b) M'):CT (n+9) (.ref 994) [.ref lx,.str (nt 10 t++[47]++nt 10 b),.int st] M Q E:=by
 refine ax wp (ks:=[57,21,136]) ?_;have h:=L.h;unfold bj at h;generalize hw:nt 10 t++[47]++nt 10 b=w;refine ah ?_;simp only[*];refine(hw)▸?_;refine Iq ht hb Mf hg λM' k=>?_
 have q':=q M' k;clear q
 conv=>whnf
 simp only[br, *]
noncomputable abbrev kT:List Nat:=[115,121,109,98,111,108]
noncomputable abbrev rj:List Nat:=[110,117,109,98,101,114]
structure Wd(s:List Nat)(i:Nat)(w rest:List Nat):Prop where
 hat:At s i (w++rest)
 hw:∀c∈w,c∉fo/\c∉iE
 hr:dR rest
theorem Wd.slice(W:Wd s i w rest):Vs (i+w.length-i) (V5 i s)=w:=by rw[show i+w.length-i=w.length by lia];exact W.hat.cut
noncomputable def nj:List XS:=[.ite (.cmp .Eq (.loc 21) (.cst (.str [46]))) [.ret (.meth (.loc 57) 97 [(.cst (.str [46])),(.cst .none),(.loc 13)])] [],.asg 47 (.call (.cst (.ref 888)) [(.loc 21)]),.ite (.call (.cst (.ref 909)) [(.loc 47)]) [.ret (.meth (.loc 57) 97 [(.cst (.str [115,121,109,98,111,108])),(.ite (.attr (.loc 57) 223) (.loc 47) (.loc 21)),(.loc 13)])] [],.ite (.not (.call (.cst (.ref 916)) [(.loc 21)])) [.raise (.call (.cst (.ref 387)) [(.cst (.str [110,111,32,105,100,101,110,116,105,102,105,101,114])),(.loc 136)])] [],.ret (.meth (.loc 57) 97 [(.cst (.str [110,117,109,98,101,114])),(.meth (.loc 57) 234 [(.loc 21),(.loc 136)]),(.loc 13)])]
theorem rk(L:LX lx s i M)(W:Wd s i w rest)(h:Ex (n+10) [(57,.ref lx),(136,.int i),(13,.int (i+w.length:Nat)),(21,.str w)] M nj (PK.ret Q) E):CT (n+11) (.ref 987) [.ref lx] M Q E:=by
 refine b6 Gv (ks:=[57]) ?_;have hl:=L.h;unfold bj at hl;have sl:=W.slice;have z:s.length<=Ub:=ar (by have:=L.z;exact ab [_] X0 am X0 az this rfl);have we:CT (n+10) (.ref 980) [.ref lx,.int i] M (λr M1=>r=.int (i+w.length:Nat)/\M1=M) E:=JR L W.hw W.hr W.hat ⟨rfl,rfl⟩;generalize hj:i+w.length=j at*;refine av ?_;refine ah ?_;simp only[*];refine av ?_;refine aK ?_;simp only[*];refine ch we (λr M1 hr=>?_) λ_ _ h=>h
 obtain⟨rfl,rfl⟩:=hr;refine av ?_;clear W we;refine ah ?_
 conv=>whnf
 simp only[Vf,true_and, *]
 conv=>whnf
 assumption
theorem JV(L:LX lx s i M)(W:Wd s i [46] rest)(q:∀M',LX lx s (i+1) M'->Kp [lx] M M'->Q (bH [46] .none i (i+1:Nat)) M'):CT (n+11) (.ref 987) [.ref lx] M Q E:=by
 refine rk L W ?_;unfold nj;refine bV (by exact⟨rfl,rfl⟩) ?_;have h:=L.h;unfold bj at h;have cf:CT (n+10) (.ref 973) [.ref lx,.str [46],.none,.int (i+1:Nat)] M Q E:=fN L λM' L' k=>q M' L' k
 clear q;refine aK ?_;simp only[UH,aau,Uc, *];assumption
theorem JW{l rest:List Nat}(L:LX lx s i M)(W:Wd s i l rest)(h1:l.map bp=l)(h2:db l=TV)(h3:l≠[46])(hz:l.length<=100)(q:∀M',LX lx s (i+l.length) M'->Kp [lx] M M'->Q (bH kT (.str l) i (i+l.length:Nat)) M'):CT (n+11) (.ref 987) [.ref lx] M Q E:=by
 refine rk L W ?_;unfold nj;have MG:¬(l=[46]):=h3;refine aU (by
  clear h1;(
  conv=>whnf
  simp only[decide_false,and_true, *])) ?_
 refine av ?_;refine jw (by exact ab [_] X0 (Ar.n 1000) X0 (Ar.n 100) hz rfl) λM1 k1=>?_
 refine(h1).symm▸?_;have L1:=L.keep k1;have h:=L1.h;unfold bj at h;have cf:CT (n+10) (.ref 973) [.ref lx,.str kT,.str l,.int (i+l.length:Nat)] M1 Q E:=fN L1 λM' L' k=>q M' L' ((k1.mono (by exactλ_ h=>absurd h UX)).trans k)
 refine bV ?_ ?_
 ·refine qN (by exact ab [_] X0 (Ar.n 1000) X0 (Ar.n 100) hz rfl) ?_;exact⟨h2,rfl⟩
 ·clear q h1 h2 h3;refine aK ?_;refine ah ?_;simp only[*];assumption
theorem JX{v:V}(L:LX lx s i M)(W:Wd s i w rest)(h2:db (w.map bp)=TT)(h3:w≠[46])(hz:w.length<=190)(hd:∃c r,w=c::r/\(c∈([48,49,50,51,52,53,54,55,56,57]:List Nat)\/c∈([43,45,46]:List Nat)))(hv:∀M',LX lx s i M'->∀Q':PQ,(∀Ma,Kp [] M' Ma->Q' v Ma)->CT (n+10) (.ref 994) [.ref lx,.str w,.int i] M' Q' E)(q:∀M',LX lx s (i+w.length) M'->Kp [lx] M M'->Q (bH rj v i (i+w.length:Nat)) M'):CT (n+11) (.ref 987) [.ref lx] M Q E:=by
 refine rk L W ?_;unfold nj;have MG:¬(w=[46]):=h3;refine aU (by
  conv=>whnf
  simp only[decide_false,and_true, *]) ?_
 refine av ?_;refine jw (by exact ab [_] X0 (Ar.n 1000) X0 (Ar.n 190) hz rfl) λM1 k1=>?_
 have L1:=L.keep k1;have h:=L1.h;unfold bj at h;refine aU ?_ ?_
 ·refine qN (by rw[UK];exact ab [_] X0 (Ar.n 1000) X0 (Ar.n 190) hz rfl) ?_;exact⟨h2,rfl⟩
 refine aU ?_ ?_
 ·refine aX hd λc r KY=>?_
  have K6:=KY.1;subst K6;have hc:=KY.2;refine Iu ⟨?_,rfl⟩;rcases hc with hc|hc
  ·rw[decide_eq_true hc];rfl
  ·rw[decide_eq_true hc];simp
 refine av ?_;have go:CT (n+10) (.ref 994) [.ref lx,.str w,.int i] M1 (λr M2=>r=v/\CT (n+10) (.ref 973) [.ref lx,.str rj,v,.int (i+w.length:Nat)] M2 Q E) E:=by refine hv M1 L1 _ λM2 k2=>⟨rfl,fN (L1.keep k2) λM' L' k=>q M' L' (((k1.trans k2).mono (by exactλ_ h=>absurd h UX)).trans k)⟩
 clear q hv hd h2 h3 MG;refine aK ?_;refine aK ?_;simp only[*];refine ch go (λr M2 hr=>?_) λ_ _ h=>h
 have KZ:=hr;have KY:=KZ.1;subst KY;exact KZ.2
end
end
section
variable[HasP]
variable{n:Nat}{M:aa}{Q:PQ}{E:PE}
section
variable{lx:TX}{s:List Nat}{i:Nat}
noncomputable def nk:List XS:=[.ite (.cmp .Eq (.loc 149) (.cst (.str [40]))) [.ret (.meth (.loc 57) 97 [(.cst (.str [35,40])),(.cst .none),(.bin .Add (.loc 136) (.cst (.int 2)))])] [],.ite (.bor [(.cmp .Eq (.loc 149) (.cst (.str [116]))),(.cmp .Eq (.loc 149) (.cst (.str [102])))]) [.ret (.meth (.loc 57) 97 [(.cst (.str [98,111,111,108,101,97,110])),(.cmp .Eq (.loc 149) (.cst (.str [116]))),(.bin .Add (.loc 136) (.cst (.int 2)))])] [],.ite (.cmp .Eq (.loc 149) (.cst (.str [92]))) [.ret (.meth (.loc 57) 261 [])] [],.ite (.band [(.cmp .NotEq (.loc 149) (.cst (.str []))),(.cmp .In (.loc 149) (.cst (.str [98,111,100,120,101,105])))]) [.asg 13 (.meth (.loc 57) 207 [(.loc 136)]),.ret (.meth (.loc 57) 97 [(.cst (.str [110,117,109,98,101,114])),(.meth (.loc 57) 234 [(.slc (.attr (.loc 57) 88) (TR (.loc 136)) (TR (.loc 13))),(.loc 136)]),(.loc 13)])] [],.raise (.call (.cst (.ref 387)) [(.cst (.str [110,117,109,98,101,114,32,115,105,103,110])),(.loc 136)])]
theorem rm(L:LX lx s i M)(hat:At s i (35::c::r))(h:∀M',LX lx s i M'->Kp [] M M'->Ex (n+10) [(57,.ref lx),(136,.int i),(149,.str [bp c])] M' nk (PK.ret Q) E):CT (n+11) (.ref 1001) [.ref lx] M Q E:=by
 refine b6 Gw (ks:=[57]) ?_;have hl:=L.h;unfold bj at hl;have z:s.length<=Ub:=ar (by have:=L.z;exact ab [_] X0 am X0 az this rfl);have sl:Vs (i+2-(i+1)) (V5 (i+1) s)=[c]:=by rw[show i+2-(i+1)=1 by lia,hat.next.e];rfl
 have e1:((i:Int)+1)=((i+1:Nat):Int):=by rfl
 have e2:((i:Int)+2)=((i+2:Nat):Int):=by rfl
 have cf:CT (n+10) (.ref 888) [.str [c]] M (λr M1=>r=.str [bp c]/\Kp [] M M1) E:=jw (by exact TY _) λM' k=>⟨rfl,k⟩
 refine av ?_;refine ah ?_;simp only[*];refine av ?_;refine ah ?_;refine⟨z,?_⟩;refine jo (by simp only[Vf,true_and, *]<;>rfl) ?_
 conv=>whnf
 refine ch cf (λr M1 hr=>?_) λ_ _ h=>h
 have KY:=hr.1;subst KY;have k:=hr.2;exact h M1 (L.keep k) k
theorem JY(L:LX lx s i M)(hat:At s i (35::40::r))(q:∀M',LX lx s (i+2) M'->Kp [lx] M M'->Q (bH [35,40] .none i (i+2:Nat)) M'):CT (n+11) (.ref 1001) [.ref lx] M Q E:=by
 refine rm L hat λM1 L1 k1=>?_
 have e:bp 40=40:=by decide
 rw[e];unfold nk;refine bV (by exact⟨rfl,rfl⟩) ?_;have h:=L1.h;unfold bj at h;have cf:CT (n+10) (.ref 973) [.ref lx,.str [35,40],.none,.int (i+2:Nat)] M1 Q E:=fN L1 λM' L' k=>q M' L' ((k1.mono (by exactλ_ h=>absurd h UX)).trans k)
 have e2:((i:Int)+2)=((i+2:Nat):Int):=by rfl
 clear q;refine aK ?_;simp only[*];assumption
theorem JZ(L:LX lx s i M)(hat:At s i (35::(if b=TV then 116 else 102)::r))(q:∀M',LX lx s (i+2) M'->Kp [lx] M M'->Q (bH [98,111,111,108,101,97,110] (.bool b) i (i+2:Nat)) M'):CT (n+11) (.ref 1001) [.ref lx] M Q E:=by
 refine rm L hat λM1 L1 k1=>?_
 have h:=L1.h;unfold bj at h;have cf:CT (n+10) (.ref 973) [.ref lx,.str [98,111,111,108,101,97,110],.bool b,.int (i+2:Nat)] M1 Q E:=fN L1 λM' L' k=>q M' L' ((k1.mono (by exactλ_ h=>absurd h UX)).trans k)
 have e2:((i:Int)+2)=((i+2:Nat):Int):=by rfl
 clear q;unfold nk;induction b with
 |true=>
  have e:bp 116=116:=by decide
  simp only[if_true,e];refine aU (by exact⟨rfl,rfl⟩) ?_;refine bV (by exact⟨rfl,rfl⟩) ?_;refine aK ?_;simp only[*];assumption
 |false=>
  have e:bp 102=102:=by decide
  simp only[UC,if_false,e];have e3:¬(([102]:List Nat)=[116]):=by decide
  refine aU (by exact⟨rfl,rfl⟩) ?_;refine bV (by
   conv=>whnf
   simp only[decide_true,and_true, *]) ?_
  refine aK ?_;simp only[*];assumption
theorem xY{K:PK}(hz:s.length<=200):∀(w rest:List Nat) (i:Nat) (ρ:af),(∀c∈w,c∉fo)->dR rest->At s i (w++rest)->aak M lx=TR (.inst 1018 (bj s j))->aak ρ 57=TR (.ref lx)->aak ρ 13=TR (.int i)->(∀ρ',aak ρ' 57=TR (.ref lx)->aak ρ' 136=aak ρ 136->aak ρ' 13=TR (.int (i+w.length:Nat))->K .next ρ' M)->Wh (n+1) ρ M (.band [(.cmp .Lt (.loc 13) (.call (.cst (.bi "len")) [(.attr (.loc 57) 88)])),(.cmp .NotIn (.sub (.attr (.loc 57) 88) (.loc 13)) (.cst (.str [32,10,9,13,12,40,41,34,59])))]) [.asg 13 (.bin .Add (.loc 13) (.cst (.int 1)))] K E
 |[],rest,i,ρ,hw,hr,hat,h,K3,Lh,q=>by
  have hlen:=hat.len;have zl:s.length<2^63:=by exact ab [_] ad bd X0 az hz rfl
  refine bF ?_;have q':=q ρ K3 rfl (by simpa using Lh);unfold bj at h;clear q;rcases hr with rfl|⟨c,r,rfl,hc⟩
  ·have e1:¬((i:Int)<(s.length:Int)):=by simp at hlen;lia
   clear hlen
   conv=>whnf
   refine ac ?_
   conv=>whnf
   refine ac ?_
   conv=>whnf
   refine ah ?_;refine⟨zl,?_⟩
   conv=>whnf
   refine bv ?_
   conv=>whnf
   refine bv ?_;exact q'
  ·have e1:((i:Int)<(s.length:Int)):=by simp at hlen;lia
   have e2:∀M,bc M (.str s) (.int (i:Nat))=TR (.str [c]):=λM=>dX hat.at (by exact ai [_,_,_] ad bY aI X2 X2 az (eR hlen) hz rfl)
   have e3:c∈([32,10,9,13,12,40,41,34,59]:List Nat):=by rcases hc with rfl|rfl<;>decide
   clear hc hlen;refine ac ?_;refine ac ?_;refine ah ?_;refine⟨zl,?_⟩
   conv=>whnf
   refine c9 ?_;refine ac ?_;refine ah ?_;refine ac ?_;refine a0 (o:=bc _ _ _) (by simp only[*]<;>rfl) ?_;refine cA (b:=dA _ _) (by simp only[decide_true,UY, *]<;>rfl) ?_;refine cA (b:=YA _) (by simp only[decide_true,UY, *]<;>rfl) ?_;exact q'
 |c::w,rest,i,ρ,hw,hr,hat,h,K3,Lh,q=>by
  have hlen:=hat.len;have zl:s.length<2^63:=by exact ab [_] ad bd X0 az hz rfl
  refine bF ?_;have e1:((i:Int)<(s.length:Int)):=by simp at hlen;lia
  have e2:∀M,bc M (.str s) (.int (i:Nat))=TR (.str [c]):=λM=>dX hat.at (by exact ai [_,_,_] ad bY aI X2 X2 az (eR hlen) hz rfl)
  have e3:¬(c∈([32,10,9,13,12,40,41,34,59]:List Nat)):=hw c (.head _);have e5:((i:Int)+1)=((i+1:Nat):Int):=by rfl
  have nx:=xY hz w rest (i+1) (ag ρ 13 (.int (i+1:Nat))) (λc hc=>hw c (.tail _ hc)) hr hat.next h (by exact(aS rfl).trans K3) (by exact bw) λρ' g1 g2 g=>q ρ' g1 (by rw[g2];simp[ak]) (by rw[g,aau];congr 2;exact iK (UM (aw [_,_] (ad.a X1) (X0.a ay) rfl) (aw [_,_] (X0.a ay) (ad.a X1) rfl)))
  unfold bj at h;clear q hw hlen
  conv=>whnf
  refine ac ?_
  conv=>whnf
  refine ac ?_
  conv=>whnf
  refine ah ?_;refine⟨zl,?_⟩
  conv=>whnf
  refine c9 ?_
  conv=>whnf
  refine ac ?_
  conv=>whnf
  refine ah ?_
  conv=>whnf
  refine ac ?_;refine a0 (o:=bc _ _ _) (by simp only[*]<;>rfl) ?_;refine cA (b:=dA _ _) (by simp only[decide_false,UL, *]<;>rfl) ?_
  conv=>whnf
  refine ac ?_;exact nx
def Sg(w:List Nat)(c:Nat):Prop:=w=[c]\/w=[115,112,97,99,101]/\c=32\/w=[110,101,119,108,105,110,101]/\c=10
theorem J3(L:LX lx s i M)(hat:At s i (35::92::x::(w++rest)))(hw:∀c∈w,c∉fo)(hr:dR rest)(hs:Sg (x::w) c)(q:∀M',LX lx s (i+3+w.length) M'->Kp [lx] M M'->Q (bH [99,104,97,114] (dC c) i (i+3+w.length:Nat)) M'):CT (n+10) (.ref 1008) [.ref lx] M Q E:=by
 refine b6 Gx (ks:=[57]) ?_;have hl:=L.h;unfold bj at hl;have hlen:=hat.len;have z:s.length<=Ub:=ar (by have:=L.z;exact ab [_] X0 am X0 az this rfl);have zl:s.length<2^63:=by have:=L.z;exact ab [_] ad bd X0 (Ar.n 16777216) z rfl
 have e1:((i:Int)+2)=((i+2:Nat):Int):=by rfl
 have e2:¬(((i+2:Nat):Int)=(s.length:Int)):=by exact cY (U7 (ab [_,_,_] ((X0.a N2).a N1) X1 (X0.a ((bC.a N1).a N1)) X1 (eR hlen) rfl))
 have e3:((i:Int)+3)=((i+3:Nat):Int):=by rfl
 have wz:w.length<=200:=by have:=L.z;simp at hlen;exact ai [_,_,_,_] X0 az (X1.a ((((X0.a X2).a N1).a N1).a N1)) X3 X3 az (eR hlen) this rfl
 clear hlen;refine av ?_
 conv=>whnf
 refine ah ?_
 conv=>whnf
 simp only[*]
 conv=>whnf
 refine aU (by
  conv=>whnf
  refine ah ?_;refine⟨zl,?_⟩
  conv=>whnf
  simp only[decide_false,and_true, *]) ?_
 refine av ?_
 conv=>whnf
 simp only[*]
 conv=>whnf
 refine av ?_
 conv=>whnf
 have sl:Vs (i+3+w.length-(i+2)) (V5 (i+2) s)=x::w:=by rw[show i+3+w.length-(i+2)=(x::w).length by simp;lia,hat.next.next.e];simp
 refine xY (lx:=lx) L.z w rest (i+3) _ hw hr hat.next.next.next L.h rfl rfl λρ' g1 g2 g3=>?_
 have g4:aak ρ' 136=TR (.int i):=by rw[g2];rfl
 generalize hj:i+3+w.length=j at*;clear g2;have fin:∀M1,Kp [] M M1->CT (n+9) (.ref 973) [.ref lx,.str [99,104,97,114],dC c,.int j] M1 Q E:=λM1 k1=>fN (L.keep k1) λM' L' k=>q M' L' ((k1.mono (by exactλ_ h=>absurd h UX)).trans k)
 have NW:∀M1,Kp [] M M1->∀Lg,aak Lg 57=TR (.ref lx)->aak Lg 13=TR (.int j)->aak Lg 166=TR (.str [c])->Ex (n+9) Lg M1 [.ite (.cmp .Is (.loc 166) (.cst .none)) [.raise (.call (.cst (.ref 387)) [(.cst (.str [110,97,109,101,32,111,102,32,97,32,115,105,103,110])),(.loc 136)])] [],.ret (.meth (.loc 57) 97 [(.cst (.str [99,104,97,114])),(.call (.cst (.ref 176)) [(.call (.cst (.bi "ord")) [(.loc 166)])]),(.loc 13)])] (PK.ret Q) E:=by
  intro M1 k1 Lg a1 a2 a3;have L1:=(L.keep k1).h;unfold bj at L1;have fin:=fin M1 k1;refine aU (by
   conv=>whnf
   refine ac ?_
   conv=>whnf
   simp only[and_true, *]) ?_
  refine av ?_;clear q
  conv=>whnf
  refine ac ?_
  conv=>whnf
  refine aK ?_
  conv=>whnf
  refine ac ?_
  conv=>whnf
  simp only[*]
  conv=>whnf
  refine jp ?_
  conv=>whnf
  refine ac ?_
  conv=>whnf
  assumption
 refine av ?_;clear hat hr q fin
 conv=>whnf
 refine ac ?_
 conv=>whnf
 refine ah ?_
 conv=>whnf
 refine ac ?_
 conv=>whnf
 refine ac ?_
 conv=>whnf
 simp only[Vf,true_and, *]
 conv=>whnf
 have b1:aak (ag ρ' 21 (V.str (x::w))) 57=TR (.ref lx):=by exact(aS rfl).trans g1
 have b2:aak (ag ρ' 21 (V.str (x::w))) 13=TR (.int j):=by exact(aS rfl).trans g3
 have b3:aak (ag ρ' 21 (V.str (x::w))) 21=TR (.str (x::w)):=by exact bw
 generalize ag ρ' 21 (V.str (x::w))=ρ1 at*;clear sl;rcases hs with hs|⟨hs,rfl⟩|⟨hs,rfl⟩
 ·rw[hs]at b3;have NW:=NW M .refl (ag ρ1 166 (.str [c])) (by exact(aS rfl).trans b1) (by exact(aS rfl).trans b2) (by exact bw);refine av ?_;clear hs
  conv=>whnf
  refine ac ?_
  conv=>whnf
  simp only[UH,aau,Uc, *]
  conv=>whnf
  refine⟨by decide,?_⟩
  conv=>whnf
  refine ac ?_;exact NW
 ·rw[hs]at b3;have go:CT (n+9) (.ref 923) [.str [115,112,97,99,101]] M (λr M1=>r=.str [32]/\Kp [] M M1) E:=xm (by decide) λM' k=>⟨by rw[if_pos (by decide)],k⟩
  refine av ?_;clear hs hl
  conv=>whnf
  refine ac ?_
  conv=>whnf
  simp only[UH,aau,Uc, *]
  conv=>whnf
  refine⟨by decide,?_⟩
  conv=>whnf
  refine ac ?_
  conv=>whnf
  refine ch go (λr M1 hr=>?_) λ_ _ h=>h
  have KY:=hr.1;subst KY;have k1:=hr.2;exact NW M1 k1 _ (by exact(aS rfl).trans b1) (by exact(aS rfl).trans b2) (by exact bw)
 ·rw[hs]at b3;have go:CT (n+9) (.ref 923) [.str [110,101,119,108,105,110,101]] M (λr M1=>r=.str [10]/\Kp [] M M1) E:=xm (by decide) λM' k=>⟨by rw[if_neg (by decide),if_pos (by decide)],k⟩
  refine av ?_;clear hs hl
  conv=>whnf
  refine ac ?_
  conv=>whnf
  simp only[UH,aau,Uc, *]
  conv=>whnf
  refine⟨by decide,?_⟩
  conv=>whnf
  refine ac ?_
  conv=>whnf
  refine ch go (λr M1 hr=>?_) λ_ _ h=>h
  have KY:=hr.1;subst KY;have k1:=hr.2;exact NW M1 k1 _ (by exact(aS rfl).trans b1) (by exact(aS rfl).trans b2) (by exact bw)
theorem J4(L:LX lx s i M)(hat:At s i (35::92::x::(w++rest)))(hw:∀c∈w,c∉fo)(hr:dR rest)(hs:Sg (x::w) c)(q:∀M',LX lx s (i+3+w.length) M'->Kp [lx] M M'->Q (bH [99,104,97,114] (dC c) i (i+3+w.length:Nat)) M'):CT (n+11) (.ref 1001) [.ref lx] M Q E:=by
 refine rm L hat λM1 L1 k1=>?_
 have e:bp 92=92:=by decide
 rw[e];unfold nk;have e1:¬(([92]:List Nat)=[40]):=by decide
 have e2:¬(([92]:List Nat)=[116]):=by decide
 have e3:¬(([92]:List Nat)=[102]):=by decide
 refine aU (by
  conv=>whnf
  simp only[decide_false,and_true, *]) ?_
 refine aU (by
  conv=>whnf
  simp only[and_true, *];rfl) ?_
 refine bV (by exact⟨rfl,rfl⟩) ?_;have h:=L1.h;unfold bj at h;have go:CT (n+10) (.ref 1008) [.ref lx] M1 Q E:=J3 L1 hat hw hr hs λM' L' k=>q M' L' ((k1.mono (by exactλ_ h=>absurd h UX)).trans k)
 clear q hat hw hr hs e1 e2 e3;refine aK ?_;simp only[*];assumption
set_option maxHeartbeats 2000000 in
theorem J5(L:LX lx s i M)(hat:At s i (34::97::92::34::34::rest))(q:∀M',LX lx s (i+5) M'->Kp [lx] M M'->Q (bH [115,116,114,105,110,103] (fb [97,34]) i (i+5:Nat)) M'):CT (n+11) (.ref 1015) [.ref lx] M Q E:=by
 refine b6 Gy (ks:=[57]) ?_;have hl:=L.h;unfold bj at hl;have hlen:=hat.len;have z:s.length<=Ub:=ar (by have:=L.z;exact ab [_] X0 am X0 az this rfl);have zl:s.length<2^63:=by have:=L.z;exact ab [_] ad bd X0 (Ar.n 16777216) z rfl
 have e1:((i:Int)+1)=((i+1:Nat):Int):=by rfl
 have e2:((i+1:Nat):Int)+1=((i+2:Nat):Int):=by rfl
 have e3:((i+2:Nat):Int)+1=((i+3:Nat):Int):=by rfl
 have e4:((i+3:Nat):Int)+1=((i+4:Nat):Int):=by rfl
 have e5:((i+4:Nat):Int)+1=((i+5:Nat):Int):=by rfl
 have l1:¬(((i+1:Nat):Int)>=(s.length:Int)):=by exact jH (ab [_,_,_] (ad.a N1) X1 (X0.a ((((bC.a N1).a N1).a N1).a N1)) X1 (eR hlen) rfl)
 have l2:¬(((i+2:Nat):Int)>=(s.length:Int)):=by exact jH (ab [_,_,_] ((X0.a N2).a N1) X1 (X0.a ((((bC.a N1).a N1).a N1).a N1)) X1 (eR hlen) rfl)
 have l3:¬(((i+4:Nat):Int)>=(s.length:Int)):=by exact jH (ab [_,_,_] ((X0.a N4).a N1) X1 (X0.a ((((bC.a N1).a N1).a N1).a N1)) X1 (eR hlen) rfl)
 have a1:∀M,bc M (.str s) (.int ((i+1:Nat):Int))=TR (.str [97]):=λM=>dX hat.next.at (by have:=L.z;have:=hat.next.le;exact ai [_,_,_] (ad.a N1) bY (X0.a ((((ay.a N1).a N1).a N1).a N1)) X2 X2 (Ar.n 16777216) (eR hlen) z rfl)
 have a2:∀M,bc M (.str s) (.int ((i+2:Nat):Int))=TR (.str [92]):=λM=>dX hat.next.next.at (by have:=L.z;have:=hat.next.next.le;exact ai [_,_,_] ((X0.a N2).a N1) bY (X0.a ((((ay.a N1).a N1).a N1).a N1)) X2 X2 (Ar.n 16777216) (eR hlen) z rfl)
 have a4:∀M,bc M (.str s) (.int ((i+4:Nat):Int))=TR (.str [34]):=λM=>dX hat.next.next.next.next.at (by have:=L.z;have:=hat.next.next.next.next.le;exact ai [_,_,_] ((X0.a N4).a N1) bY (X0.a ((((ay.a N1).a N1).a N1).a N1)) X2 X2 (Ar.n 16777216) (eR hlen) z rfl)
 have sl:Vs (i+4-(i+3)) (V5 (i+3) s)=[34]:=by rw[show i+4-(i+3)=1 by lia,hat.next.next.next.e];rfl
 clear hlen;refine av ?_
 conv=>whnf
 refine ah ?_
 conv=>whnf
 simp only[*]
 conv=>whnf
 refine av ?_
 conv=>whnf
 refine .inr λla LG=>?_
 have NX:aak M la=TW:=LG.lkp;have hn:la≠lx:=λe=>by rw[e,L.h]at NX;exact ns NX
 have TF:aak ((la,be.list [])::M) lx=TR (.inst 1018 [(88,V.str s),(235,V.int 53),(98,V.int i),(223,V.bool TV)]):=by rw[ci,if_neg hn];exact hl
 have Ly:aak ((la,be.list [])::M) la=TR (.list []):=by rw[ci,if_pos rfl]
 have kp:Kp [] M ((la,be.list [])::M):=Kp.push NX;have fin:∀M1,Kp [la] ((la,be.list [])::M) M1->CT (n+10) (.ref 973) [.ref lx,.str [115,116,114,105,110,103],fb [97,34],.int (i+5:Nat)] M1 Q E:=λM1 k1=>by have k2:Kp [] M M1:=Kp.fresh NX k1;exact fN (L.keep k2) λM' L' k=>q M' L' ((k2.mono (by exactλ_ h=>absurd h UX)).trans k)
 generalize(la,be.list [])::M=M0 at*;clear q hat NX kp LG;have d1:¬(([97]:List Nat)=[34]):=by decide
 have d2:¬(([97]:List Nat)=[92]):=by decide
 have d3:¬(([92]:List Nat)=[34]):=by decide
 have d4:¬(([34]:List Nat)=[]):=by decide
 have d5:¬(([34]:List Nat)=[92]):=by decide
 refine av ?_
 conv=>whnf
 simp only[*]
 conv=>whnf
 refine av ?_;refine(show gb _ _ 60 (.while _ _) _ _ _ from ?_)
 conv=>whnf
 refine bF ?_
 conv=>whnf
 refine ah ?_;refine⟨zl,?_⟩
 conv=>whnf
 refine bv ?_
 conv=>whnf
 refine ah ?_;refine a0 (o:=bc _ _ _) (by simp only[*]<;>rfl) ?_
 conv=>whnf
 refine aN ?_
 conv=>whnf
 refine aO ?_
 conv=>whnf
 refine aP ?_
 conv=>whnf
 simp only[Uc, *]
 conv=>whnf
 refine⟨by decide,?_⟩
 conv=>whnf
 simp only[*]
 conv=>whnf
 refine bF ?_
 conv=>whnf
 refine ah ?_;refine⟨zl,?_⟩
 conv=>whnf
 refine bv ?_
 conv=>whnf
 refine ah ?_;refine a0 (o:=bc _ _ _) (by simp only[*]<;>rfl) ?_
 conv=>whnf
 refine ah ?_
 conv=>whnf
 simp only[Vf,true_and, *]
 conv=>whnf
 refine aN ?_
 conv=>whnf
 refine aO ?_
 conv=>whnf
 refine aP ?_
 conv=>whnf
 simp only[*]
 conv=>whnf
 refine⟨by decide,?_⟩
 conv=>whnf
 simp only[*]
 conv=>whnf
 refine bF ?_
 conv=>whnf
 refine ah ?_
 conv=>whnf
 simp only[true_and, *]
 conv=>whnf
 refine bv ?_
 conv=>whnf
 refine ah ?_
 conv=>whnf
 simp only[*]
 conv=>whnf
 refine aK ?_
 conv=>whnf
 refine wa (by walk_at "mem") ?_
 conv=>whnf
 simp only[*]
 conv=>whnf
 refine⟨by decide,?_⟩
 conv=>whnf
 exact HS (l:=[97,34]) (ar (by decide)) (fin _ ((Kp.put (.head _)).trans (Kp.put (.head _))))
end
end
section
variable[HasP]
variable{n:Nat}{M:aa}{Q:PQ}{E:PE}
section
variable{lx:TX}{s:List Nat}{i:Nat}
noncomputable def nm:List XS:=[.ite (.cmp .In (.loc 166) (.cst (.str [40,41,39,96]))) [.ret (.meth (.loc 57) 97 [(.loc 166),(.cst .none),(.bin .Add (.loc 136) (.cst (.int 1)))])] [],.ite (.cmp .Eq (.loc 166) (.cst (.str [44]))) [.asg 44 (.ite (.cmp .Eq (.slc (.attr (.loc 57) 88) (TR (.bin .Add (.loc 136) (.cst (.int 1)))) (TR (.bin .Add (.loc 136) (.cst (.int 2))))) (.cst (.str [64]))) (.cst (.str [44,64])) (.cst (.str [44]))),.ret (.meth (.loc 57) 97 [(.loc 44),(.cst .none),(.bin .Add (.loc 136) (.call (.cst (.bi "len")) [(.loc 44)]))])] [],.ite (.cmp .Eq (.loc 166) (.cst (.str [34]))) [.ret (.meth (.loc 57) 154 [])] [],.ite (.cmp .Eq (.loc 166) (.cst (.str [35]))) [.ret (.meth (.loc 57) 119 [])] [],.ret (.meth (.loc 57) 260 [])]
theorem J6(h:c∉([32,10,9,13,12,59]:List Nat)):c∉([32,10,9,13,12]:List Nat)/\c≠59:=by simp only[Uk,Um,or_false,not_or]at h⊢;exact⟨⟨h.1,h.2.1,h.2.2.1,h.2.2.2.1,h.2.2.2.2.1⟩,h.2.2.2.2.2⟩
theorem rn(L:LX lx s i M)(K7:sp=[]\/sp=[32])(hat:At s i (sp++c::r))(hc:c∉([32,10,9,13,12,59]:List Nat))(hj:j=i+sp.length)(h:∀M',LX lx s j M'->Kp [lx] M M'->Ex (n+12) [(57,.ref lx),(136,.int j),(166,.str [c])] M' nm (PK.ret Q) E):CT (n+13) (.ref 966) [.ref lx] M Q E:=by
 refine b6 wm (ks:=[57]) ?_;have hl:=L.h;unfold bj at hl;have Ln:=hat.skip;rw[<-hj]at Ln;have hlen:=Ln.len;have z:s.length<=Ub:=ar (by have:=L.z;exact ab [_] X0 am X0 az this rfl);have zl:s.length<2^63:=by have:=L.z;exact ab [_] ad bd X0 (Ar.n 16777216) z rfl
 have sk:CT (n+12) (.ref 952) [.ref lx] M (λr M1=>r=.none/\LX lx s j M1/\Kp [lx] M M1) E:=xW L K7 hat (λc' r' e=>by cases e;exact J6 hc) λM' L' k=>⟨rfl,by rw[hj];exact L',k⟩
 refine av ?_;clear hj
 conv=>whnf
 refine aK ?_;refine bG ?_
 conv=>whnf
 refine ch sk (λrr M1 hr=>?_) λ_ _ h=>h
 have L1:=hr.2.1;have go:=h M1 L1 hr.2.2;have Ly:=L1.h;unfold bj at Ly;have e1:¬((j:Int)=(s.length:Int)):=by exact cY (U7 (ab [_,_,_] ad X1 (X0.a bC) X1 (eR hlen) rfl))
 have e2:∀M,bc M (.str s) (.int (j:Nat))=TR (.str [c]):=λM=>dX Ln.at (by have:=L.z;simp at hlen;exact ai [_,_,_] ad bY (X0.a ay) X2 X2 (Ar.n 16777216) (eR hlen) z rfl)
 clear h sk hat Ln hlen hc hl;refine av ?_
 conv=>whnf
 refine ah ?_
 conv=>whnf
 simp only[*]
 conv=>whnf
 refine aU (by
  conv=>whnf
  refine ah ?_;refine⟨zl,?_⟩
  conv=>whnf
  simp only[decide_false,and_true, *]) ?_
 refine av ?_
 conv=>whnf
 refine ah ?_;refine a0 (o:=bc _ _ _) (by simp only[*]<;>rfl) ?_
 conv=>whnf
 assumption
theorem J7(L:LX lx s i M)(K7:sp=[]\/sp=[32])(hat:At s i sp)(q:∀M',LX lx s s.length M'->Kp [lx] M M'->Q (bH [101,110,100] .none s.length s.length) M'):CT (n+13) (.ref 966) [.ref lx] M Q E:=by
 refine b6 wm (ks:=[57]) ?_;have hl:=L.h;unfold bj at hl;have hlen:=hat.len;have zl:s.length<2^63:=by have:=L.z;exact ab [_] ad bd X0 az this rfl
 have sk:CT (n+12) (.ref 952) [.ref lx] M (λr M1=>r=.none/\LX lx s s.length M1/\Kp [lx] M M1) E:=xW (t:=[]) L K7 (by simpa using hat) (λc' r' e=>by cases e) λM' L' k=>⟨rfl,by rw[hlen];exact(by rw[hlen]at*;exact L'),k⟩
 refine av ?_;clear hlen
 conv=>whnf
 refine aK ?_;refine bG ?_
 conv=>whnf
 refine ch sk (λrr M1 hr=>?_) λ_ _ h=>h
 have L1:=hr.2.1;have q':=q M1 L1 hr.2.2;have Ly:=L1.h;unfold bj at Ly;clear q sk hat hl;refine av ?_
 conv=>whnf
 refine ah ?_
 conv=>whnf
 simp only[*]
 conv=>whnf
 refine bV (by
  conv=>whnf
  refine ah ?_;refine⟨zl,?_⟩
  conv=>whnf
  simp only[decide_true,and_true, *]) ?_
 refine bG ?_
 conv=>whnf
 exact wL q'
theorem np(L:LX lx s i M)(K7:sp=[]\/sp=[32])(hat:At s i (sp++c::r))(hc:c∈([40,41,39,96]:List Nat))(hj:j=i+sp.length)(q:∀M',LX lx s (j+1) M'->Kp [lx] M M'->Q (bH [c] .none j (j+1:Nat)) M'):CT (n+13) (.ref 966) [.ref lx] M Q E:=by
 have key:∀c∈([40,41,39,96]:List Nat),c∉([32,10,9,13,12,59]:List Nat):=by decide
 refine rn L K7 hat (key c hc) hj λM1 L1 k1=>?_
 unfold nm;have h:=L1.h;unfold bj at h;refine bV (by
  conv=>whnf
  simp only[decide_true,and_true, *]) ?_
 have cf:CT (n+12) (.ref 973) [.ref lx,.str [c],.none,.int (j+1:Nat)] M1 Q E:=fN L1 λM' L' k=>q M' L' (k1.trans k)
 have e1:((j:Int)+1)=((j+1:Nat):Int):=by rfl
 clear q key hat hc hj;refine aK ?_;simp only[*];assumption
theorem xZ(L:LX lx s i M)(K7:sp=[]\/sp=[32])(hat:At s i (sp++44::((if b=TV then[64]else[])++r)))(hr:b=TT->r.head?≠TR 64)(hj:j=i+sp.length)(q:∀M',LX lx s (j+(if b=TV then 2 else 1)) M'->Kp [lx] M M'->Q (bH (44::(if b=TV then[64]else[])) .none j (j+(if b=TV then 2 else 1):Nat)) M'):CT (n+13) (.ref 966) [.ref lx] M Q E:=by
 have Ln:=hat.skip;rw[<-hj]at Ln;refine rn L K7 hat (by decide) hj λM1 L1 k1=>?_
 unfold nm;have h:=L1.h;unfold bj at h;refine aU (by exact⟨rfl,rfl⟩) ?_;refine bV (by exact⟨rfl,rfl⟩) ?_;have z:s.length<=Ub:=ar (by have:=L.z;exact ab [_] X0 am X0 az this rfl);have e1:((j:Int)+1)=((j+1:Nat):Int):=by rfl
 have e2:((j:Int)+2)=((j+2:Nat):Int):=by rfl
 induction b with
 |true=>
  simp only[if_true]at Ln q;have cf:CT (n+12) (.ref 973) [.ref lx,.str [44,64],.none,.int (j+2:Nat)] M1 Q E:=fN L1 λM' L' k=>q M' L' (k1.trans k)
  have sl:Vs (j+2-(j+1)) (V5 (j+1) s)=[64]:=by rw[show j+2-(j+1)=1 by lia,Ln.next.e];rfl
  clear q hat Ln hj hr;refine ah ?_;refine⟨z,?_⟩;refine cA (b:=Vp _) (by simp only[Vf,true_and, *]<;>rfl) ?_
  conv=>whnf
  refine aK ?_;simp only[*];refine⟨by decide,?_⟩;assumption
 |false=>
  simp only[UC,if_false,VV]at Ln q;have cf:CT (n+12) (.ref 973) [.ref lx,.str [44],.none,.int (j+1:Nat)] M1 Q E:=fN L1 λM' L' k=>q M' L' (k1.trans k)
  have sl:¬(Vs (j+2-(j+1)) (V5 (j+1) s)=[64]):=by
   rw[show j+2-(j+1)=1 by lia,Ln.next.e];have:=hr rfl;induction r with
   |nil=>simp
   |cons a r=>simpa using this
  clear q hat Ln hj hr;refine ah ?_;refine⟨z,?_⟩
  conv=>whnf
  refine bv ?_;refine aK ?_;simp only[*];refine⟨by decide,?_⟩;assumption
theorem iF{sp r:List Nat}{c j g k:Nat}(hg:c=34/\k=154/\g=1015\/c=35/\k=119/\g=1001\/(c∉([40,41,39,96]:List Nat)/\c≠44/\c≠34/\c≠35)/\g=987)(L:LX lx s i M)(K7:sp=[]\/sp=[32])(hat:At s i (sp++c::r))(hc:c∉([32,10,9,13,12,59]:List Nat))(hj:j=i+sp.length)(q:∀M',LX lx s j M'->Kp [lx] M M'->CT (n+12) (.ref g) [.ref lx] M' Q E):CT (n+13) (.ref 966) [.ref lx] M Q E:=by
 refine rn L K7 hat hc hj λM1 L1 k1=>?_
 have go:=q M1 L1 k1;have h:=L1.h;unfold bj at h;clear q hat hc hj K7;unfold nm;rcases hg with⟨rfl,rfl,rfl⟩|⟨rfl,rfl,rfl⟩|⟨⟨c1,c2,c3,c4⟩,rfl⟩
 ·refine aU (by exact⟨rfl,rfl⟩) ?_;refine aU (by exact⟨rfl,rfl⟩) ?_;refine bV (by exact⟨rfl,rfl⟩) ?_;refine aK ?_;simp only[*];assumption
 ·refine aU (by exact⟨rfl,rfl⟩) ?_;refine aU (by exact⟨rfl,rfl⟩) ?_;refine aU (by exact⟨rfl,rfl⟩) ?_;refine bV (by exact⟨rfl,rfl⟩) ?_;refine aK ?_;simp only[*];assumption
 ·have d2:¬(([c]:List Nat)=[44]):=by simpa using c2
  have d3:¬(([c]:List Nat)=[34]):=by simpa using c3
  have d4:¬(([c]:List Nat)=[35]):=by simpa using c4
  clear c2 c3 c4;refine aU (by
   clear d2 d3 d4;(
   conv=>whnf
   simp only[decide_false,and_true, *])) ?_
  refine aU (by
   conv=>whnf
   simp only[decide_false,and_true, *]) ?_
  refine aU (by
   conv=>whnf
   simp only[decide_false,and_true, *]) ?_
  refine aU (by
   conv=>whnf
   simp only[decide_false,and_true, *]) ?_
  refine av ?_;refine aK ?_;simp only[*];assumption
end
end
section
structure Fr where
 fa:TX
 la:TX
 w:List Nat
 st:Nat
 ts:List V
 sta:Nat
 tail:V
noncomputable abbrev fq:List Nat:=[108,105,115,116]
noncomputable abbrev g9:List Nat:=[118,101,99,116,111,114]
noncomputable abbrev cN:List Nat:=[113,117,111,116,97,116,105,111,110]
noncomputable def eQ(f:Fr):List (Nat×V):=[(44,.str f.w),(136,.int f.st),(171,.ref f.la),(109,.int f.sta),(64,f.tail)]
noncomputable def ba(fs:List Fr):List V:=fs.reverse.map λf=>.ref f.fa
structure RV(rd lx fl tb rw di:TX)(kf:Nat)(T0:au)(M0:aa)(s:List Nat)(T:au)(i:Nat)(fs:List Fr)(M:aa):Prop where
 g:TG tb rw di kf T M
 e:aE T0 T
 k:Kp [rw,di,rd,lx,fl] M0 M
 r:aak M rd=TR (.inst 1124 [(124,.ref lx),(101,.ref tb),(170,.ref fl)])
 l:LX lx s i M
 f:aak M fl=TR (.list (ba fs))
 fr:∀f∈fs,aak M f.fa=TR (.inst 1039 (eQ f))/\aak M f.la=TR (.list f.ts)/\aak M0 f.fa=TW/\aak M0 f.la=TW
 nd:(fs.map (·.fa)).Nodup
 nl:(fs.map (·.la)).Nodup
 n1:fl≠rw
 n2:∀f∈fs,f.la≠fl/\f.la≠rw
 z:fs.length<=200
variable[HasP]
section
variable{rd lx fl tb rw di:TX}{kf:Nat}{T0 T:au}{M0 M:aa}{s:List Nat}{i:Nat}{fs:List Fr}
theorem bX{M:aa}{a b:TX}{x y:be}(h1:aak M a=TR x)(h2:aak M b=TR y)(h:x≠y):a≠b:=λe=>by rw[e,h2]at h1;obtain rfl:=TU h1;exact h rfl
theorem RV.apart(I:RV rd lx fl tb rw di kf T0 M0 s T i fs M):rd≠lx/\rd≠fl/\rd≠rw/\rd≠di/\rd≠tb/\lx≠fl/\lx≠rw/\lx≠di/\lx≠tb/\fl≠di/\fl≠tb:=by have a:=I.r;have b:=I.l.h;have c:=I.f;have d:=I.g.rows;have e:=I.g.dict;have f:=I.g.tbl;unfold bj at b;exact⟨bX a b (by simp),bX a c (by simp),bX a d (by simp),bX a e (by simp),bX a f (by simp),bX b c (by simp),bX b d (by simp),bX b e (by simp),bX b f (by simp),bX c e (by simp),bX c f (by simp)⟩
theorem RV.apartF(I:RV rd lx fl tb rw di kf T0 M0 s T i fs M){f:Fr}(hf:f∈fs):f.fa≠rd/\f.fa≠lx/\f.fa≠fl/\f.fa≠rw/\f.fa≠di/\f.fa≠tb/\f.la≠rd/\f.la≠lx/\f.la≠di/\f.la≠tb:=by have KZ:=I.fr f hf;have h1:=KZ.1;have h2:=KZ.2.1;have a:=I.r;have b:=I.l.h;have c:=I.f;have d:=I.g.rows;have e:=I.g.dict;have g:=I.g.tbl;unfold bj at b;unfold eQ at h1;exact⟨bX h1 a (by simp),bX h1 b (by simp),bX h1 c (by simp),bX h1 d (by simp),bX h1 e (by simp),bX h1 g (by simp),bX h2 a (by simp),bX h2 b (by simp),bX h2 e (by simp),bX h2 g (by simp)⟩
theorem RV.fl_ne(I:RV rd lx fl tb rw di kf T0 M0 s T i fs M){f g:Fr}(hf:f∈fs)(hg:g∈fs):f.fa≠g.la:=by have KZ:=I.fr f hf;have h1:=KZ.1;have KZ:=I.fr g hg;exact bX h1 KZ.2.1 (by simp)
theorem RV.lex(I:RV rd lx fl tb rw di kf T0 M0 s T i fs M){j:Nat}{M':aa}(L:LX lx s j M')(k:Kp [lx] M M'):RV rd lx fl tb rw di kf T0 M0 s T j fs M':=by refine⟨I.g.keep k (by simp[Uf I.apart.2.2.2.2.2.2.2.2.1]) (by simp[Uf I.apart.2.2.2.2.2.2.1]) (by simp[Uf I.apart.2.2.2.2.2.2.2.1]),I.e,I.k.trans (k.mono (by simp)),k _ _ (by simp[I.apart.1]) I.r,L,k _ _ (by simp[Uf I.apart.2.2.2.2.2.1]) I.f,λf hf=>?_,I.nd,I.nl,I.n1,I.n2,I.z⟩;have KZ:=I.apartF hf;exact⟨k _ _ (by simp[KZ.2.1]) (I.fr f hf).1,k _ _ (by simp[KZ.2.2.2.2.2.2.2.1]) (I.fr f hf).2.1,(I.fr f hf).2.2⟩
theorem RV.grow(I:RV rd lx fl tb rw di kf T0 M0 s T i fs M){T':au}{M':aa}(G:TG tb rw di kf T' M')(e:aE T T')(k:Kp [rw,di] M M'):RV rd lx fl tb rw di kf T0 M0 s T' i fs M':=by refine⟨G,I.e.trans e,I.k.trans (k.mono (λx hx=>by simp at hx⊢;rcases hx with rfl|rfl<;>simp)),k _ _ (by simp[I.apart.2.2.1,I.apart.2.2.2.1]) I.r,⟨k _ _ (by simp[I.apart.2.2.2.2.2.2.1,I.apart.2.2.2.2.2.2.2.1]) I.l.h,I.l.z⟩,k _ _ (by simp[I.n1,I.apart.2.2.2.2.2.2.2.2.2.1]) I.f,λf hf=>?_,I.nd,I.nl,I.n1,I.n2,I.z⟩;have KZ:=I.apartF hf;exact⟨k _ _ (by simp[KZ.2.2.2.1,KZ.2.2.2.2.1]) (I.fr f hf).1,k _ _ (by simp[(I.n2 f hf).2,KZ.2.2.2.2.2.2.2.2.1]) (I.fr f hf).2.1,(I.fr f hf).2.2⟩
theorem iG(f:Fr)(fs:List Fr):ba (f::fs)=ba fs++[.ref f.fa]:=by simp[ba]
theorem x8(k:Kp S M0 M)(h:a∉S)(e:aak M a=TW):aak M0 a=TW:=k.none h e
theorem RV.push(I:RV rd lx fl tb rw di kf T0 M0 s T i fs M){fa la:TX}{w:List Nat}{st:Nat}{ts:List V}(LG:aak M la=TW)(LO:aak ((la,be.list ts)::M) fa=TW)(hz:fs.length<200):RV rd lx fl tb rw di kf T0 M0 s T i (⟨fa,la,w,st,ts,0,aH⟩::fs) (ag ((fa,.inst 1039 [(44,.str w),(136,.int st),(171,.ref la),(109,.int 0),(64,aH)])::(la,.list ts)::M) fl (.list (ba fs++[.ref fa]))):=by
 have QG:fa≠la:=λe=>by rw[e,ci,if_pos rfl]at LO;exact ns LO
 have Ll:aak M fa=TW:=by rw[ci,if_neg (Uf QG)]at LO;exact LO
 have out:∀{x:TX} {o:be},aak M x=TR o->fa≠x/\la≠x:=λh=>⟨λe=>(by rw[<-e,Ll]at h;exact nn h),λe=>(by rw[<-e,LG]at h;exact nn h)⟩
 have get:∀{x:TX} {o:be},x≠fl->aak M x=TR o->aak (ag ((fa,be.inst 1039 [(44,.str w),(136,.int st),(171,.ref la),(109,.int 0),(64,aH)])::(la,.list ts)::M) fl (.list (ba fs++[.ref fa]))) x=TR o:=λ{x o} hx h=>by have KZ:=out h;rw[ak,if_neg (Uf hx),ci,if_neg KZ.1,ci,if_neg KZ.2];exact h
 have KZ:=out I.f;have f1:=KZ.1;have f2:=KZ.2;have k1:Kp [rw,di,rd,lx,fl] M (ag ((fa,be.inst 1039 [(44,.str w),(136,.int st),(171,.ref la),(109,.int 0),(64,aH)])::(la,.list ts)::M) fl (.list (ba fs++[.ref fa]))):=λx o hx h=>get (λe=>hx (by rw[e];simp)) h
 refine⟨⟨get (Uf I.apart.2.2.2.2.2.2.2.2.2.2) I.g.tbl,get (Uf I.n1) I.g.rows,get (Uf I.apart.2.2.2.2.2.2.2.2.2.1) I.g.dict,I.g.ok⟩,I.e,I.k.trans k1,get I.apart.2.1 I.r,⟨get I.apart.2.2.2.2.2.1 I.l.h,I.l.z⟩,by rw[ak,if_pos rfl,iG],λf hf=>?_,?_,?_,I.n1,λf hf=>?_,by exact ab [_] ad az ad az hz rfl⟩
 ·cases hf with
  |head=>
   have m1:aak M0 fa=TW:=by refine x8 I.k ?_ Ll;simp only[Uk,Um,or_false,not_or];exact⟨(out I.g.rows).1,(out I.g.dict).1,(out I.r).1,(out I.l.h).1,f1⟩
   have m2:aak M0 la=TW:=by refine x8 I.k ?_ LG;simp only[Uk,Um,or_false,not_or];exact⟨(out I.g.rows).2,(out I.g.dict).2,(out I.r).2,(out I.l.h).2,f2⟩
   refine⟨?_,?_,m1,m2⟩
   ·rw[ak,if_neg (Uf f1),ci,if_pos rfl];rfl
   ·rw[ak,if_neg (Uf f2),ci,if_neg QG,ci,if_pos rfl]
  |tail _ hf=>have KZ:=I.apartF hf;exact⟨get KZ.2.2.1 (I.fr f hf).1,get (I.n2 f hf).1 (I.fr f hf).2.1,(I.fr f hf).2.2⟩
 ·rw[UA,Uw];refine⟨λhm=>?_,I.nd⟩;refine aj (List.mem_map.mp hm) λf KY=>?_
  exact(out (I.fr f KY.1).1).1 KY.2.symm
 ·rw[UA,Uw];refine⟨λhm=>?_,I.nl⟩;refine aj (List.mem_map.mp hm) λf KY=>?_
  exact(out (I.fr f KY.1).2.1).2 KY.2.symm
 ·cases hf with
  |head=>exact⟨f2,(out I.g.rows).2⟩
  |tail _ hf=>exact I.n2 f hf
theorem RV.pop{f:Fr}(I:RV rd lx fl tb rw di kf T0 M0 s T i (f::fs) M):RV rd lx fl tb rw di kf T0 M0 s T i fs (ag M fl (.list (ba fs))):=by
 have k:Kp [fl] M (ag M fl (.list (ba fs))):=Kp.put (.head _);refine⟨I.g.keep k (by simp[Uf I.apart.2.2.2.2.2.2.2.2.2.2]) (by simp[Uf I.n1]) (by simp[Uf I.apart.2.2.2.2.2.2.2.2.2.1]),I.e,I.k.trans (k.mono (by simp)),k _ _ (by simp[I.apart.2.1]) I.r,⟨k _ _ (by simp[I.apart.2.2.2.2.2.1]) I.l.h,I.l.z⟩,by rw[ak,if_pos rfl],λg hg=>?_,?_,?_,I.n1,λg hg=>I.n2 g (.tail _ hg),by have:=I.z;simp at this;exact Ve (by assumption)⟩
 ·have KZ:=I.apartF (.tail _ hg);exact⟨k _ _ (by simp[KZ.2.2.1]) (I.fr g (.tail _ hg)).1,k _ _ (by simp[(I.n2 g (.tail _ hg)).1]) (I.fr g (.tail _ hg)).2.1,(I.fr g (.tail _ hg)).2.2⟩
 ·have:=I.nd;rw[UA,Uw]at this;exact this.2
 ·have:=I.nl;rw[UA,Uw]at this;exact this.2
theorem RV.setT{f:Fr}(I:RV rd lx fl tb rw di kf T0 M0 s T i (f::fs) M)(ts:List V):RV rd lx fl tb rw di kf T0 M0 s T i ({f with ts:=ts}::fs) (ag M f.la (.list ts)):=by
 have KZ:=I.apartF (.head _);have b7:=KZ.2.2.2.2.2.2.1;have b8:=KZ.2.2.2.2.2.2.2.1;have b9:=KZ.2.2.2.2.2.2.2.2.1;have Pg:=KZ.2.2.2.2.2.2.2.2.2;have KZ:=I.n2 f (.head _);have hn:=I.nl;rw[UA,Uw]at hn;have k:Kp [f.la] M (ag M f.la (.list ts)):=Kp.put (.head _);have m0:Kp [] M0 (ag M f.la (.list ts))->True:=λ_=>trivial
 refine⟨I.g.keep k (by simp[Uf Pg]) (by simp[Uf KZ.2]) (by simp[Uf b9]),I.e,?_,k _ _ (by simp[Uf b7]) I.r,⟨k _ _ (by simp[Uf b8]) I.l.h,I.l.z⟩,(by rw[iG];have:=k _ _ (by simp[Uf KZ.1]) I.f;rw[iG]at this;exact this),λg hg=>?_,I.nd,I.nl,I.n1,λg hg=>?_,I.z⟩
 ·intro x o hx h;have:x≠f.la:=λe=>by rw[e,(I.fr f (.head _)).2.2.2]at h;exact nn h
  rw[ak,if_neg (Uf this)];exact I.k x o hx h
 ·cases hg with
  |head=>exact⟨k _ _ (by simp[I.fl_ne (.head _) (.head _)]) (I.fr f (.head _)).1,by rw[ak,if_pos rfl],(I.fr f (.head _)).2.2⟩
  |tail _ hg=>
   have:g.la≠f.la:=λe=>hn.1 (List.mem_map.mpr ⟨g,hg,e⟩)
   exact⟨k _ _ (by simp[I.fl_ne (.tail _ hg) (.head _)]) (I.fr g (.tail _ hg)).1,k _ _ (by simp[this]) (I.fr g (.tail _ hg)).2.1,(I.fr g (.tail _ hg)).2.2⟩
 ·cases hg with
  |head=>exact I.n2 f (.head _)
  |tail _ hg=>exact I.n2 g (.tail _ hg)
theorem RV.setF{f:Fr}(I:RV rd lx fl tb rw di kf T0 M0 s T i (f::fs) M)(sta:Nat)(tail:V):RV rd lx fl tb rw di kf T0 M0 s T i ({f with sta:=sta,tail:=tail}::fs) (ag M f.fa (.inst 1039 (eQ {f with sta:=sta,tail:=tail}))):=by
 have KZ:=I.apartF (.head _);have hn:=I.nd;rw[UA,Uw]at hn;have k:Kp [f.fa] M (ag M f.fa (.inst 1039 (eQ {f with sta:=sta,tail:=tail}))):=Kp.put (.head _);refine⟨I.g.keep k (by simp[Uf KZ.2.2.2.2.2.1]) (by simp[Uf KZ.2.2.2.1]) (by simp[Uf KZ.2.2.2.2.1]),I.e,?_,k _ _ (by simp[Uf KZ.1]) I.r,⟨k _ _ (by simp[Uf KZ.2.1]) I.l.h,I.l.z⟩,(by rw[iG];have:=k _ _ (by simp[Uf KZ.2.2.1]) I.f;rw[iG]at this;exact this),λg hg=>?_,I.nd,I.nl,I.n1,λg hg=>?_,I.z⟩
 ·intro x o hx h;have:x≠f.fa:=λe=>by rw[e,(I.fr f (.head _)).2.2.1]at h;exact nn h
  rw[ak,if_neg (Uf this)];exact I.k x o hx h
 ·cases hg with
  |head=>exact⟨by rw[ak,if_pos rfl],k _ _ (by simp[Uf (I.fl_ne (.head _) (.head _))]) (I.fr f (.head _)).2.1,(I.fr f (.head _)).2.2⟩
  |tail _ hg=>
   have:g.fa≠f.fa:=λe=>hn.1 (List.mem_map.mpr ⟨g,hg,e⟩)
   exact⟨k _ _ (by simp[this]) (I.fr g (.tail _ hg)).1,k _ _ (by simp[Uf (I.fl_ne (.head _) (.tail _ hg))]) (I.fr g (.tail _ hg)).2.1,(I.fr g (.tail _ hg)).2.2⟩
 ·cases hg with
  |head=>exact I.n2 f (.head _)
  |tail _ hg=>exact I.n2 g (.tail _ hg)
end
end
section
variable[HasP]
variable{n:Nat}{Q:PQ}{E:PE}
theorem J8(hl:bh M xs=TR L)(hz:L.length<1000000)(q:Q (gf aH L) M):CT (n+4) (.ref 343) [xs] M Q E:=by
 refine ax F4 (ks:=[171,64]) ?_;unfold mH;have e:fY M xs=TR L.length:=by rcases mP hl with rfl|⟨a,rfl,ha⟩;exact rfl;exact mM ha
 have this:=wN hz;refine ac ?_;simp only[*];refine⟨by exact ab [_] ad bd ad (Ar.n 1000000) hz rfl,?_⟩;refine ac ?_;refine qz (t:=aH) hl (by exact ab [_] ad bY ad (Ar.n 1000000) hz rfl) (λρ h=>?_) L.length _ (UE _) rfl (by simp[dJ,gy,cC,gw,gf]);refine ac ?_;exact q
section
variable{rd lx fl tb rw di:TX}{kf:Nat}{T0 T:au}{M0 M:aa}{s:List Nat}{i:Nat}{fs:List Fr}
theorem J9{v:V}(hw:w=[40]/\wn=fq\/w=[35,40]/\wn=g9)(I:RV rd lx fl tb rw di kf T0 M0 s T i fs M)(hz:fs.length<200)(q:∀M' fa la,RV rd lx fl tb rw di kf T0 M0 s T i (⟨fa,la,wn,j,[],0,aH⟩::fs) M'->Q (.bool TV) M'):CT (n+6) (.ref 1093) [.ref rd,bH w v j e] M Q E:=by
 refine b6 qr (ks:=[57,116]) ?_;have hr:=I.r;have hf:=I.f;have zf:(ba fs).length<=Ub:=ar (by simp[ba];exact ab [_] X0 am ad az hz rfl);obtain⟨a1,a2,a3,a4,a5,a6,a7,a8,a9,TH,TI⟩:=I.apart;rcases hw with⟨rfl,rfl⟩|⟨rfl,rfl⟩
 ·refine bV (by exact⟨rfl,rfl⟩) ?_;have fin:∀la fa,aak M la=TW->aak ((la,be.list [])::M) fa=TW->Q (.bool TV) (ag ((fa,.inst 1039 [(44,.str fq),(136,.int j),(171,.ref la),(109,.int 0),(64,aH)])::(la,.list [])::M) fl (.list (ba fs++[.ref fa]))):=λla fa h1 h2=>q _ fa la (I.push h1 h2 hz)
  clear q;refine ah ?_;refine aN ?_;refine aO ?_;simp only[*];refine .inr λla LG=>?_
  have Lq:=LG.lkp;have o1:la≠rd:=λe=>by rw[e,hr]at Lq;exact ns Lq
  have o2:la≠fl:=λe=>by rw[e,hf]at Lq;exact ns Lq
  refine qy λfa LO=>?_
  have Ll:=LO.lkp;have p0:fa≠la:=λe=>by rw[e,ci,if_pos rfl]at Ll;exact ns Ll
  have Lv:aak M fa=TW:=by rw[ci,if_neg (Uf p0)]at Ll;exact Ll
  have p1:fa≠rd:=λe=>by rw[e,hr]at Lv;exact ns Lv
  have p2:fa≠fl:=λe=>by rw[e,hf]at Lv;exact ns Lv
  have fin:=fin la fa Lq Ll;simp only[dJ,gy,p2,o2,reduceIte]at fin;clear LG LO Lq Ll Lv I;refine aP ?_;simp only[fJ,ne_eq,not_false_eq_true,true_and, *];exact fin
 ·have d1:¬(([35,40]:List Nat)=[40]):=by decide
  refine aU (by
   conv=>whnf
   simp only[decide_false,and_true, *]) ?_
  refine bV (by exact⟨rfl,rfl⟩) ?_;have fin:∀la fa,aak M la=TW->aak ((la,be.list [])::M) fa=TW->Q (.bool TV) (ag ((fa,.inst 1039 [(44,.str g9),(136,.int j),(171,.ref la),(109,.int 0),(64,aH)])::(la,.list [])::M) fl (.list (ba fs++[.ref fa]))):=λla fa h1 h2=>q _ fa la (I.push h1 h2 hz)
  clear q;refine ah ?_;refine aN ?_;refine aO ?_;simp only[*];refine .inr λla LG=>?_
  have Lq:=LG.lkp;have o1:la≠rd:=λe=>by rw[e,hr]at Lq;exact ns Lq
  have o2:la≠fl:=λe=>by rw[e,hf]at Lq;exact ns Lq
  refine qy λfa LO=>?_
  have Ll:=LO.lkp;have p0:fa≠la:=λe=>by rw[e,ci,if_pos rfl]at Ll;exact ns Ll
  have Lv:aak M fa=TW:=by rw[ci,if_neg (Uf p0)]at Ll;exact Ll
  have p1:fa≠rd:=λe=>by rw[e,hr]at Lv;exact ns Lv
  have p2:fa≠fl:=λe=>by rw[e,hf]at Lv;exact ns Lv
  have fin:=fin la fa Lq Ll;simp only[dJ,gy,p2,o2,reduceIte]at fin;clear LG LO Lq Ll Lv I;refine aP ?_;simp only[fJ,ne_eq,not_false_eq_true,true_and, *];exact fin
noncomputable def rp:List XS:=[.ite (.cmp .Eq (.loc 70) (.attr (.loc 116) 44)) [.expr (.meth (.attr (.loc 57) 170) 146 [(.call (.cst (.ref 1039)) [(.cst (.str [113,117,111,116,97,116,105,111,110])),(.attr (.loc 116) 136),(.lst [(.meth (.attr (.loc 57) 101) 157 [(.loc 47)])])])]),.ret (.cst (.bool TV))] []]
theorem rq{K:PK}{v:V}(hk:kf<=100)(I:RV rd lx fl tb rw di kf T0 M0 s T i fs M)(hz:fs.length<200):∀(qs:List (List Nat×List Nat)) (ρ:af),(∀p∈qs,p.2∈ew)->aak ρ 57=TR (.ref rd)->aak ρ 116=TR (bH w v j e)->((∀p∈qs,p.1≠w)->∀ρ,K .next ρ M)->(∀p∈qs,p.1=w->∀T' M' fa la a k,RV rd lx fl tb rw di kf T0 M0 s T' i (⟨fa,la,cN,j,[aW a k p.2],0,aH⟩::fs) M'->aE T T'->T'[k]? =TR ⟨a,p.2,TV⟩->∀ρ,K (.ret (.bool TV)) ρ M')->Fo (n+5) (gM [70,47]) rp K E (qs.map λp=>.tup [.str p.1,.str p.2]) ρ M
 | [],ρ,hq,h1,h2,q1,q2=>eq (q1 (by exactλ_ h=>absurd h UX) ρ)
 |p::qs,ρ,hq,h1,h2,q1,q2=>by
  refine dB (ρ1:=cJ ρ [70,47] [.str p.1,.str p.2]) rfl ?_;by_cases hp:p.1=w
  ·have q2:=q2 p (.head _) hp;have hr:=I.r;have hf:=I.f;have ht:=I.g.tbl;have sy:CT (n+5) (.ref 96) [.ref tb,.str p.2] M (λr M1=>∃a k T',r=aW a k p.2/\T'[k]? =TR ⟨a,p.2,TV⟩/\aE T T'/\RV rd lx fl tb rw di kf T0 M0 s T' i fs M1) E:=jx I.g hk (hq p (.head _)) λT' M' a k G' e' k' Lc=>⟨a,k,T',rfl,Lc,e',I.grow G' e' k'⟩
   unfold rp;clear q1 hq
   conv=>whnf
   simp only[ak,bR,bS,reduceIte, *];refine bM ?_;refine cA (b:=Vp _) (by simp only[decide_true, *]<;>rfl) ?_;refine bM ?_;refine ah ?_;refine aN ?_;refine aO ?_;refine bM ?_;refine bM ?_;refine ah ?_;refine aK ?_;refine ac (o:=aak _ 47) ?_;refine ch sy (λr M1 Ph=>?_) λ_ _ h=>h
   refine bO Ph λa k T' KY=>?_
   have K6:=KY.1;subst K6;have Lc:=KY.2.1;have e':=KY.2.2.1;have I':=KY.2.2.2;clear hr hf ht;have hr:=I'.r;have hf:=I'.f;have zf:(ba fs).length<=Ub:=ar (by simp[ba];exact ab [_] X0 am ad az hz rfl);have fin:∀la fa,aak M1 la=TW->aak ((la,be.list [aW a k p.2])::M1) fa=TW->K (.ret (.bool TV)) (ag (ag ρ 70 (.str p.1)) 47 (.str p.2)) (ag ((fa,.inst 1039 [(44,.str cN),(136,.int j),(171,.ref la),(109,.int 0),(64,aH)])::(la,.list [aW a k p.2])::M1) fl (.list (ba fs++[.ref fa]))):=λla fa h1 h2=>q2 T' _ fa la a k (I'.push h1 h2 hz) e' Lc _
   rw[hp]at fin;clear q2 sy;refine .inr λla LG=>?_
   have Lq:=LG.lkp;have o1:la≠rd:=λe=>by rw[e,hr]at Lq;exact ns Lq
   have o2:la≠fl:=λe=>by rw[e,hf]at Lq;exact ns Lq
   refine qy λfa LO=>?_
   have Ll:=LO.lkp;have p0:fa≠la:=λe=>by rw[e,ci,if_pos rfl]at Ll;exact ns Ll
   have Lv:aak M1 fa=TW:=by rw[ci,if_neg (Uf p0)]at Ll;exact Ll
   have p1:fa≠rd:=λe=>by rw[e,hr]at Lv;exact ns Lv
   have p2:fa≠fl:=λe=>by rw[e,hf]at Lv;exact ns Lv
   have fin:=fin la fa Lq Ll;simp only[dJ,gy,p2,o2,reduceIte]at fin;clear LG LO Lq Ll Lv I I' Lc e';refine aP ?_;simp only[fJ,ne_eq,not_false_eq_true,true_and, *];exact fin
  ·have Lu:¬(p.1=w):=hp;have nx:=rq (K:=K) (v:=v) (j:=j) (e:=e) hk I hz qs (ag (ag ρ 70 (.str p.1)) 47 (.str p.2)) (λp hp=>hq p (.tail _ hp)) (by exact(aS rfl).trans ((aS rfl).trans h1)) (by exact(aS rfl).trans ((aS rfl).trans h2)) (λhh=>q1 λp' Lu=>by
    cases Lu with
    |head=>exact hp
    |tail _ h=>exact hh p' h) λp' Lu=>q2 p' (.tail _ Lu)
   clear q1 q2 hq;unfold rp at nx⊢
   conv=>whnf
   simp only[ak,bR,bS,reduceIte, *];refine bM ?_
   conv=>whnf
   refine bv ?_;exact nx
theorem Ka{v:V}(hp:p∈QL)(hk:kf<=100)(I:RV rd lx fl tb rw di kf T0 M0 s T i fs M)(hz:fs.length<200)(q:∀T' M' fa la a k,RV rd lx fl tb rw di kf T0 M0 s T' i (⟨fa,la,cN,j,[aW a k p.2],0,aH⟩::fs) M'->aE T T'->T'[k]? =TR ⟨a,p.2,TV⟩->Q (.bool TV) M'):CT (n+6) (.ref 1093) [.ref rd,bH p.1 v j e] M Q E:=by
 refine b6 qr (ks:=[57,116]) ?_;have key:∀p∈QL,¬(p.1=[40])/\¬(p.1=[35,40]):=by decide
 have uniq:∀p∈QL,∀p'∈QL,p'.1=p.1->p'.2=p.2:=by decide
 have KZ:=key p hp;refine aU (by
  clear uniq key;(
  conv=>whnf
  simp only[decide_false,and_true, *])) ?_
 refine aU (by
  clear uniq key;(
  conv=>whnf
  simp only[decide_false,and_true, *])) ?_
 refine av ?_;refine rq (w:=p.1) (v:=v) (j:=j) (e:=e) hk I hz QL _ (by decide) rfl rfl (λh=>absurd rfl (h p hp)) λp' Lu e' T' M' fa la a k I' e2 Lc ρ=>?_
 have:=uniq p hp p' Lu e';rw[this]at I' Lc;exact q T' M' fa la a k I' e2 Lc
theorem x9{v:V}(hk:kf<=100)(hw:w∉([[40],[35,40],[39],[96],[44],[44,64]]:List (List Nat)))(I:RV rd lx fl tb rw di kf T0 M0 s T i fs M)(hz:fs.length<200)(q:Q (.bool TT) M):CT (n+6) (.ref 1093) [.ref rd,bH w v j e] M Q E:=by
 refine b6 qr (ks:=[57,116]) ?_;simp only[Uk,Um,or_false,not_or]at hw;obtain⟨d1,d2,d3,d4,d5,d6⟩:=hw;refine aU (by
  clear d3 d4 d5 d6;(
  conv=>whnf
  simp only[decide_false,and_true, *])) ?_
 refine aU (by
  clear d3 d4 d5 d6;(
  conv=>whnf
  simp only[decide_false,and_true, *])) ?_
 refine av ?_;have nq:∀p∈QL,p.1≠w:=by
  intro p hp;simp only[QL,Uk,Um,or_false]at hp;rcases hp with rfl|rfl|rfl|rfl
  ·exactλh=>d3 h.symm
  ·exactλh=>d4 h.symm
  ·exactλh=>d5 h.symm
  ·exactλh=>d6 h.symm
 refine rq (w:=w) (v:=v) (j:=j) (e:=e) hk I hz QL _ (by decide) rfl rfl (λ_ ρ=>?_) λp' Lu e'=>absurd e' (nq p' Lu)
 refine av ?_;exact q
end
end
section
variable[HasP]
variable{n:Nat}{Q:PQ}{E:PE}
section
variable{rd lx fl tb rw di:TX}{kf:Nat}{T0 T:au}{M0 M:aa}{s:List Nat}{i:Nat}{fs:List Fr}{f:Fr}
theorem kU:(ba (f::fs)).getLast?=TR (.ref f.fa):=by rw[iG];simp
theorem rt:(ba (f::fs)).dropLast=ba fs:=by rw[iG];simp
theorem dZ:(ba fs).length=fs.length:=by simp[ba]
theorem Kb{v:V}(I:RV rd lx fl tb rw di kf T0 M0 s T i (f::fs) M)(hw:f.w=fq)(ht:f.ts=x::ts)(hs:f.sta=0)(q:∀M',RV rd lx fl tb rw di kf T0 M0 s T i ({f with sta:=1,tail:=f.tail}::fs) M'->Q .none M'):CT (n+2) (.ref 1100) [.ref rd,bH w v j e] M Q E:=by
 refine b6 GD (ks:=[57,116]) ?_;have hr:=I.r;have hf:=I.f;have KZ:=I.fr f (.head _);have g1:=KZ.1;have g2:=KZ.2.1;unfold eQ at g1;rw[hw,hs]at g1;rw[ht]at g2;have l1:¬((ba (f::fs)).length=0):=by rw[dZ];simp
 have l2:=kU (f:=f) (fs:=fs);have l3:(ba (f::fs)).length<2^62:=by rw[dZ];have:=I.z;simp at this⊢;exact ab [_] (ad.a N1) bY X0 (Ar.n 199) this rfl
 have q':=q _ (I.setF 1 f.tail);unfold eQ at q';rw[hw]at q';have nd:¬(fq=([]:List Nat)):=by decide
 clear q I;generalize ba (f::fs)=R at*;refine aU ?_ ?_
 ·(
  refine ah ?_;simp only[*])
  refine .inl ?_;refine a0 (o:=bA _ _ _ _) (by simp only[Uc,reduceIte,bT,cj,bA,cn, *]<;>rfl) ?_
  conv=>whnf
  simp only[and_true, *]
 refine av ?_;refine ah ?_;refine wc ‹_› ‹_› ‹_› ?_;refine aU ?_ ?_
 ·(
  refine ah ?_;refine ah ?_;simp only[*])
  refine .inl ?_;refine a0 (o:=bA _ _ _ _) (by simp only[aau,Uc,bT,cj,bA,cn, *]<;>rfl) ?_;refine ah ?_
  conv=>whnf
  simp only[and_true, *]
  conv=>whnf
  rfl
 refine av ?_;refine aV ?_;simp only[UH,aau,Uc, *];exact iw q'
theorem ru{α:Type}:∀(l:List (Nat×α)) (a b:Nat),b≠a->aak (dU l a) b=aak l b
 | [],_,_,_=>rfl
 |p::r,a,b,h=>by
  rw[show dU (p::r) a=if p.1=a then r else p::dU r a from rfl,cC];by_cases e:p.1=a
  ·rw[if_pos e];rw[if_neg (λz=>h (by rw[<-z,e]))]
  ·rw[if_neg e];simp only[cC,gw,ru r a b h]
theorem Kp.del:Kp [a] M (dU M a):=λx o hx h=>by rw[ru _ _ _ (by simpa using hx)];exact h
theorem RV.del(I:RV rd lx fl tb rw di kf T0 M0 s T i fs M){a:TX}(h1:aak M0 a=TW)(h2:a≠tb/\a≠rw/\a≠di/\a≠rd/\a≠lx/\a≠fl)(h3:∀g∈fs,g.fa≠a/\g.la≠a):RV rd lx fl tb rw di kf T0 M0 s T i fs (dU M a):=by
 have k:Kp [a] M (dU M a):=Kp.del;refine⟨I.g.keep k (by simp[Uf h2.1]) (by simp[Uf h2.2.1]) (by simp[Uf h2.2.2.1]),I.e,?_,k _ _ (by simp[Uf h2.2.2.2.1]) I.r,⟨k _ _ (by simp[Uf h2.2.2.2.2.1]) I.l.h,I.l.z⟩,k _ _ (by simp[Uf h2.2.2.2.2.2]) I.f,λg hg=>?_,I.nd,I.nl,I.n1,I.n2,I.z⟩
 ·intro x o hx h;have:x≠a:=λe=>by rw[e,h1]at h;exact nn h
  rw[ru _ _ _ this];exact I.k x o hx h
 ·have KZ:=h3 g hg;exact⟨k _ _ (by simp[KZ.1]) (I.fr g hg).1,k _ _ (by simp[KZ.2]) (I.fr g hg).2.1,(I.fr g hg).2.2⟩
theorem Kc{v:V}(I:RV rd lx fl tb rw di kf T0 M0 s T i (f::fs) M)(hw:f.w=g9)(hs:f.sta=0)(q:∀M',RV rd lx fl tb rw di kf T0 M0 s T i fs M'->Q (bW f.ts) M'):CT (n+4) (.ref 1107) [.ref rd,bH w v j e] M Q E:=by
 refine b6 wq (ks:=[57,116]) ?_;have hr:=I.r;have hf:=I.f;have KZ:=I.fr f (.head _);have g1:=KZ.1;have g2:=KZ.2.1;have g4:=KZ.2.2.2;unfold eQ at g1;rw[hw,hs]at g1;have l1:¬((ba (f::fs)).length=0):=by rw[dZ];simp
 have l2:=kU (f:=f) (fs:=fs);have l4:=rt (f:=f) (fs:=fs);have l3:(ba (f::fs)).length<2^62:=by rw[dZ];have:=I.z;simp at this⊢;exact ab [_] (ad.a N1) bY X0 (Ar.n 199) this rfl
 have l5:(ba (f::fs)).length<=Ub:=ar (by rw[dZ];have:=I.z;simp at this⊢;exact ab [_] X0 (Ar.n 99999) X0 (Ar.n 199) this rfl);have KZ:=I.apartF (.head _);have b3:=KZ.2.2.1;have b7:=KZ.2.2.2.2.2.2.1;have b8:=KZ.2.2.2.2.2.2.2.1;have b9:=KZ.2.2.2.2.2.2.2.2.1;have Pg:=KZ.2.2.2.2.2.2.2.2.2;have KZ:=I.n2 f (.head _);have c1:=KZ.1;have QH:=Uf b3;have Pi:=I.nl;have Nn:=I.nd;rw[UA,Uw]at Pi;have fz:CT (n+3) (.ref 218) [.ref f.la] (ag M fl (.list (ba fs))) Q E:=by refine Fs (xs:=f.ts) (by rw[ak,if_neg (Uf c1)];exact g2) (qx (q _ (I.pop.del g4 ⟨Pg,KZ.2,b9,b7,b8,c1⟩ λg hg=>⟨I.fl_ne (.tail _ hg) (.head _),λe=>Pi.1 (List.mem_map.mpr ⟨g,hg,e⟩)⟩)))
 have d1:¬(g9=cN):=by decide
 clear q I Pi Nn;generalize ba (f::fs)=R at*;refine aU ?_ ?_
 ·(
  conv=>whnf
  refine ah ?_
  conv=>whnf
  simp only[*]
  conv=>whnf)
  refine .inl ?_;refine a0 (o:=bA _ _ _ _) (by simp only[Uc,reduceIte,bT,cj,bA,cn, *]<;>rfl) ?_
  conv=>whnf
  simp only[and_true, *]
 refine av ?_
 conv=>whnf
 refine ah ?_
 conv=>whnf
 refine wc ‹_› ‹_› ‹_› ?_
 conv=>whnf
 refine aU (by
  conv=>whnf
  refine ah ?_
  conv=>whnf
  simp only[decide_false,and_true, *]) ?_
 refine aU (by
  conv=>whnf
  refine ah ?_
  conv=>whnf
  simp only[and_true, *]
  conv=>whnf
  rfl) ?_
 refine av ?_
 conv=>whnf
 refine ah ?_
 conv=>whnf
 refine aN ?_
 conv=>whnf
 refine aO ?_
 conv=>whnf
 refine aP ?_
 conv=>whnf
 refine ac ?_
 conv=>whnf
 simp only[true_and, *]
 conv=>whnf
 refine bV (by
  conv=>whnf
  refine ah ?_
  conv=>whnf
  simp only[decide_true,and_true, *]) ?_
 conv=>whnf
 refine ah ?_;refine bG ?_
 conv=>whnf
 assumption
theorem Kd{v:V}(I:RV rd lx fl tb rw di kf T0 M0 s T i (f::fs) M)(hw:f.w=fq)(hs:f.sta=0\/f.sta=2)(hz:f.ts.length<=100)(nt:aY f.tail=TV)(q:∀M',RV rd lx fl tb rw di kf T0 M0 s T i fs M'->Q (gf f.tail f.ts) M'):CT (n+5) (.ref 1107) [.ref rd,bH w v j e] M Q E:=by
 refine b6 wq (ks:=[57,116]) ?_;have hr:=I.r;have hf:=I.f;have KZ:=I.fr f (.head _);have g1:=KZ.1;have g2:=KZ.2.1;unfold eQ at g1;rw[hw]at g1;have l1:¬((ba (f::fs)).length=0):=by rw[dZ];simp
 have l2:=kU (f:=f) (fs:=fs);have l4:=rt (f:=f) (fs:=fs);have l3:(ba (f::fs)).length<2^62:=by rw[dZ];have:=I.z;simp at this⊢;exact ab [_] (ad.a N1) bY X0 (Ar.n 199) this rfl
 have l5:(ba (f::fs)).length<=Ub:=ar (by rw[dZ];have:=I.z;simp at this⊢;exact ab [_] X0 (Ar.n 99999) X0 (Ar.n 199) this rfl);have KZ:=I.apartF (.head _);have b3:=KZ.2.2.1;have KZ:=I.n2 f (.head _);have QH:=Uf b3;have fz:CT (n+4) (.ref 343) [.ref f.la,f.tail] (ag M fl (.list (ba fs))) Q E:=HR (L:=f.ts) (jn (by rw[ak,if_neg (Uf KZ.1)];exact g2)) (by exact ab [_] ad (Ar.n 1000000) X0 (Ar.n 100) hz rfl) (q _ I.pop);have d1:¬(fq=cN):=by decide
 have d2:¬(fq=g9):=by decide
 have d3:¬((f.sta:Int)=1):=by lia
 clear q I;generalize ba (f::fs)=R at*;refine aU ?_ ?_
 ·clear hs
  conv=>whnf
  refine ah ?_
  conv=>whnf
  simp only[*]
  conv=>whnf
  refine .inl ?_;refine a0 (o:=bA _ _ _ _) (by simp only[Uc,reduceIte,bT,cj,bA,cn, *]<;>rfl) ?_
  conv=>whnf
  simp only[and_true, *]
 refine av ?_;clear hs
 conv=>whnf
 refine ah ?_
 conv=>whnf
 refine wc ‹_› ‹_› ‹_› ?_
 conv=>whnf
 refine aU (by
  conv=>whnf
  refine ah ?_
  conv=>whnf
  simp only[decide_false,and_true, *]) ?_
 refine aU (by
  conv=>whnf
  refine ah ?_
  conv=>whnf
  simp only[decide_false,and_true, *]) ?_
 refine av ?_
 conv=>whnf
 refine ah ?_
 conv=>whnf
 refine aN ?_
 conv=>whnf
 refine aO ?_
 conv=>whnf
 refine aP ?_
 conv=>whnf
 refine ac ?_
 conv=>whnf
 simp only[true_and, *]
 conv=>whnf
 refine aU (by
  conv=>whnf
  refine ah ?_
  conv=>whnf
  simp only[decide_false,and_true, *]) ?_
 refine av ?_
 conv=>whnf
 refine ah ?_
 conv=>whnf
 refine ah ?_
 conv=>whnf
 refine dW ?_;refine bG ?_
 conv=>whnf
 assumption
theorem Ke{l:List Nat}(hk:kf<=100)(hl:l∈ew)(I:RV rd lx fl tb rw di kf T0 M0 s T i fs M)(q:∀T' M' a k,RV rd lx fl tb rw di kf T0 M0 s T' i fs M'->aE T T'->T'[k]? =TR ⟨a,l,TV⟩->Q (aW a k l) M'):CT (n+5) (.ref 1114) [.ref rd,bH kT (.str l) j e] M Q E:=by
 refine b6 wu (ks:=[57,116]) ?_;have hr:=I.r;have ht:=I.g.tbl;have sy:CT (n+4) (.ref 96) [.ref tb,.str l] M Q E:=jx I.g hk hl λT' M' a k G' e' k' Lc=>q T' M' a k (I.grow G' e' k') e' Lc
 clear q I hl;refine av ?_;refine ah ?_;refine aK ?_;simp only[*];assumption
theorem nz{v:V}(hw:w≠kT)(nv:aY v=TV)(q:Q v M):CT (n+5) (.ref 1114) [.ref rd,bH w v j e] M Q E:=by refine b6 wu (ks:=[57,116]) ?_;have S8:¬(w=[115,121,109,98,111,108]):=hw;refine av ?_;refine bv ?_;refine dW ?_;exact q
theorem ya(I:RV rd lx fl tb rw di kf T0 M0 s T i (f::fs) M)(ht:f.ts=x::ts)(nx:aY x=TV)(q:∀M',RV rd lx fl tb rw di kf T0 M0 s T i fs M'->Q (aB x (aB d aH)) M'):CT (n+5) (.ref 1086) [.ref rd,d] M Q E:=by refine b6 GC (ks:=[57,114]) ?_;have hr:=I.r;have hf:=I.f;have KZ:=I.fr f (.head _);have g1:=KZ.1;have g2:=KZ.2.1;have g3:=KZ.2.2.1;have g4:=KZ.2.2.2;unfold eQ at g1;rw[ht]at g2;have l2:=kU (f:=f) (fs:=fs);have l4:=rt (f:=f) (fs:=fs);have l5:(ba (f::fs)).length<=Ub:=ar (by rw[dZ];have:=I.z;simp at this⊢;exact ab [_] X0 (Ar.n 99999) X0 (Ar.n 199) this rfl);have KZ:=I.apartF (.head _);have b3:=KZ.2.2.1;have KZ:=I.n2 f (.head _);have QH:=Uf b3;have TJ:=Uf KZ.1;have fz:CT (n+4) (.ref 343) [.lst [x,d]] (ag M fl (.list (ba fs))) Q E:=J8 (L:=[x,d]) rfl (by simp) (q _ I.pop);clear q I;generalize ba (f::fs)=R at*;refine av ?_;refine ah ?_;refine aN ?_;refine aO ?_;refine aP ?_;refine ac ?_;simp only[true_and, *];refine av ?_;refine ah ?_;refine a0 (o:=bc _ _ _) (by simp only[*]<;>rfl) ?_;refine a0 (o:=bc _ _ _) (by simp only[ak,reduceIte,bT,eK, *]<;>rfl) ?_;exact .inl fz
noncomputable def ck:List Fr->V->List Fr×V
 | [],d=>([],d)
 |f::fs,d=>if f.w=cN then ck fs (aB (f.ts.headD .none) (aB d aH))else(f::fs,d)
theorem KV:ck [] d=([],d):=rfl
theorem iH:ck (f::fs) d=if f.w=cN then ck fs (aB (f.ts.headD .none) (aB d aH))else(f::fs,d):=rfl
def cG(fs:List Fr):Prop:=∀f∈fs,f.w=cN->∃x,f.ts=[x]/\aY x=TV
theorem yb{K:PK}:∀(fs:List Fr) (d:V) (M:aa) (ρ:af),cG fs->(ck fs d).1=[]->RV rd lx fl tb rw di kf T0 M0 s T i fs M->aak ρ 57=TR (.ref rd)->aak ρ 97=TR d->(∀M' ρ',RV rd lx fl tb rw di kf T0 M0 s T i [] M'->aak ρ' 97=TR (ck fs d).2->K .next ρ' M')->Wh (n+5) ρ M (.cmp .NotEq (.attr (.loc 57) 170) (.lst [])) [.asg 97 (.meth (.loc 57) 144 [(.loc 97)])] K E
 |[],d,M,ρ,hq,hn,I,K3,Nq,q=>by
  refine bF ?_;have hr:=I.r;have hf:=I.f;have q':=q M ρ I Nq;have e0:ba ([]:List Fr)=[]:=rfl;rw[e0]at hf;clear q I
  conv=>whnf
  refine ac ?_
  conv=>whnf
  refine ah ?_
  conv=>whnf
  simp only[*]
  conv=>whnf
  refine .inl ?_
  conv=>whnf
  simp only[Uc,reduceIte,bT,cj,bA,cT,cn, *]
  conv=>whnf
  simp only[*]
 |f::fs,d,M,ρ,hq,hn,I,K3,Nq,q=>by
  have hw:f.w=cN:=by
   by_cases e:f.w=cN
   ·exact e
   ·simp only[iH,if_neg e]at hn;cases hn
  obtain⟨x,hx,nx⟩:=hq f (.head _) hw;have Nf:ck (f::fs) d=ck fs (aB x (aB d aH)):=by simp only[iH,if_pos hw,hx];rfl
  rw[Nf]at hn q;have hr:=I.r;have hf:=I.f;have l1:¬((ba (f::fs)).length=0):=by rw[dZ];simp
  have cq:CT (n+5) (.ref 1086) [.ref rd,d] M (λr M1=>r=aB x (aB d aH)/\RV rd lx fl tb rw di kf T0 M0 s T i fs M1) E:=ya I hx nx λM' I'=>⟨rfl,I'⟩
  clear I;generalize ba (f::fs)=R at*;refine bF ?_;refine ac ?_;refine ah ?_;simp only[*];refine .inl ?_;have MW:∀M1,RV rd lx fl tb rw di kf T0 M0 s T i fs M1->Wh (n+5) (ag ρ 97 (aB x (aB d aH))) M1 (.cmp .NotEq (.attr (.loc 57) 170) (.lst [])) [.asg 97 (.meth (.loc 57) 144 [(.loc 97)])] K E:=λM1 I1=>
   yb fs (aB x (aB d aH)) M1 _ (λf hf=>hq f (.tail _ hf)) hn I1 (by simp[ak,K3]) (by simp[ak]) q
  clear q hq hn Nf nx hx hw
  conv=>whnf
  simp only[Uc,reduceIte,UL,bT,cj,bA,cT,cn, *];refine ac ?_;refine aK ?_
  conv=>whnf
  refine ac ?_
  conv=>whnf
  simp only[*]
  conv=>whnf
  refine ch cq (λr M1 hr=>?_) λ_ _ h=>h
  obtain⟨rfl,I1⟩:=hr;exact MW M1 I1
theorem Kf(hq:cG fs)(hn:(ck fs d).1=[])(I:RV rd lx fl tb rw di kf T0 M0 s T i fs M)(q:∀M',RV rd lx fl tb rw di kf T0 M0 s T i [] M'->Q (ck fs d).2 M'):CT (n+6) (.ref 1079) [.ref rd,d] M Q E:=by
 refine b6 GB (ks:=[57,114]) ?_;refine av ?_;refine av ?_;refine yb fs d M _ hq hn I rfl rfl λM' ρ' I' h'=>?_
 have q':=q M' I';refine av ?_;clear q I' hq hn I;refine ac ?_;exact q'
end
end
section
variable[HasP]
variable{n:Nat}{Q:PQ}{E:PE}
section
variable{rd lx fl tb rw di:TX}{kf:Nat}{T0 T:au}{M0 M:aa}{s:List Nat}{i:Nat}
noncomputable def bN:List Fr->List Fr
 | []=>[]
 |f::fs=>if f.w=cN then bN fs else f::fs
theorem yc:∀(fs:List Fr) (d:V),(ck fs d).1=bN fs
 | [],_=>rfl
 |f::fs,d=>by
  simp only[iH,bN];by_cases h:f.w=cN
  ·rw[if_pos h,if_pos h];exact yc fs _
  ·rw[if_neg h,if_neg h]
theorem yd:∀(fs:List Fr),(bN fs).length<=fs.length
 | []=>UE _
 |f::fs=>by
  simp only[bN];split
  ·have:=yd fs;simp;exact Ve (by assumption)
  ·exact UE _
theorem Kg:(ba (pre++f::fs))[fs.length]? =TR (.ref f.fa):=by simp only[ba,List.reverse_append,VH,VE];rw[Uu,List.getElem?_append_right (by simp)];simp
theorem ry{K:PK}(I:RV rd lx fl tb rw di kf T0 M0 s T i Pj M):∀(gs pre:List Fr) (ρ:af),Pj=pre++gs->aak ρ 57=TR (.ref rd)->aak ρ 10=TR (.int gs.length)->(∀ρ',aak ρ' 57=TR (.ref rd)->aak ρ' 97=aak ρ 97->aak ρ' 10=TR (.int (bN gs).length)->K .next ρ' M)->Wh (n+1) ρ M (.band [(.cmp .Gt (.loc 10) (.cst (.int 0))),(.cmp .Eq (.attr (.sub (.attr (.loc 57) 170) (.bin .Sub (.loc 10) (.cst (.int 1)))) 44) (.cst (.str [113,117,111,116,97,116,105,111,110])))]) [.asg 10 (.bin .Sub (.loc 10) (.cst (.int 1)))] K E
 |[],pre,ρ,h0,K3,Lh,q=>by have q':=q ρ K3 rfl Lh;refine bF ?_;have e0:([]:List Fr).length=0:=rfl;rw[e0]at Lh;clear q I;refine ac ?_;exact q'
 |g::gs,pre,ρ,h0,K3,Lh,q=>by
  have hr:=I.r;have hf:=I.f;have hm:g∈Pj:=by rw[h0];simp
  have KZ:=I.fr g hm;have g1:=KZ.1;unfold eQ at g1;have hz:=I.z;have e1:(((g::gs).length:Nat):Int)>0:=by rw[aau];exact dF (a:=0) (aw [_] (N0.a N1) ad rfl)
  have e2:(((g::gs).length:Nat):Int)-1=((gs.length:Nat):Int):=by simp
  have e3:bc M (.ref fl) (.int (gs.length:Nat))=TR (.ref g.fa):=by refine mQ (jn hf) (by rw[h0];exact Kg) ?_;rw[h0]at hz;simp at hz;exact ab [_,_] ad bY (X1.a ad) az hz rfl
  by_cases hw:g.w=cN
  ·have es:bN (g::gs)=bN gs:=by simp only[bN,if_pos hw]
   rw[es]at q;have nx:=ry I gs (pre++[g]) (ag ρ 10 (.int (gs.length:Nat))) (by rw[h0];simp) (by exact(aS rfl).trans K3) (by exact bw) (λρ' b1 b2 b3=>q ρ' b1 (by rw[b2];simp[ak]) b3);rw[hw]at g1;clear q I h0 es hz hm;generalize(g::gs).length=gl at*;refine bF ?_;refine ac ?_;refine c9 ?_;refine ac ?_;refine ah ?_;refine ac ?_;refine a0 (o:=bc _ _ _) (by simp only[*]<;>rfl) ?_;refine ah ?_;refine ac ?_
   conv=>whnf
   simp only[*]
  ·have es:bN (g::gs)=g::gs:=by simp only[bN,if_neg hw]
   rw[es]at q;have q':=q ρ K3 rfl Lh;have S8:¬(g.w=[113,117,111,116,97,116,105,111,110]):=hw;clear q I h0 es hz hm hw;generalize(g::gs).length=gl at*;refine bF ?_
   conv=>whnf
   refine ac ?_
   conv=>whnf
   refine c9 ?_
   conv=>whnf
   refine ac ?_
   conv=>whnf
   refine ah ?_
   conv=>whnf
   refine ac ?_;refine a0 (o:=bc _ _ _) (by simp only[*]<;>rfl) ?_
   conv=>whnf
   refine ah ?_
   conv=>whnf
   refine bv ?_
   conv=>whnf
   refine bv ?_;exact q'
theorem ye{K:PK}:∀(fs:List Fr) (d:V) (M:aa) (ρ:af),cG fs->RV rd lx fl tb rw di kf T0 M0 s T i fs M->aak ρ 57=TR (.ref rd)->aak ρ 97=TR d->aak ρ 10=TR (.int (bN fs).length)->(∀M' ρ',RV rd lx fl tb rw di kf T0 M0 s T i (bN fs) M'->aak ρ' 57=TR (.ref rd)->aak ρ' 97=TR (ck fs d).2->K .next ρ' M')->Wh (n+5) ρ M (.cmp .Gt (.call (.cst (.bi "len")) [(.attr (.loc 57) 170)]) (.loc 10)) [.asg 97 (.meth (.loc 57) 144 [(.loc 97)])] K E
 |[],d,M,ρ,hq,I,K3,Nq,Lh,q=>by refine bF ?_;have hr:=I.r;have hf:=I.f;have q':=q M ρ I K3 Nq;have e0:ba ([]:List Fr)=[]:=rfl;have e1:(bN ([]:List Fr)).length=0:=rfl;rw[e0]at hf;rw[e1]at Lh;clear q I;refine ac ?_;refine ah ?_;refine gU ?_;simp only[Uc, *];refine⟨by decide,?_⟩;refine ac ?_;exact q'
 |f::fs,d,M,ρ,hq,I,K3,Nq,Lh,q=>by
  have hr:=I.r;have hf:=I.f;have hl:(ba (f::fs)).length=fs.length+1:=by rw[dZ];rfl
  have hz:=I.z;have z1:fs.length+1<2^63:=by simp at hz;exact ab [_] (ad.a N1) bd X0 (Ar.n 199) hz rfl
  by_cases hw:f.w=cN
  ·refine aj (hq f (.head _) hw) λx KY=>?_
   have hx:=KY.1;have nx:=KY.2;have Nf:ck (f::fs) d=ck fs (aB x (aB d aH)):=by simp only[iH,if_pos hw,hx];rfl
   have Mv:bN (f::fs)=bN fs:=by simp only[bN,if_pos hw]
   rw[Nf,Mv]at q;rw[Mv]at Lh;have e1:(((fs.length+1:Nat):Int)>((bN fs).length:Int)):=by have:=yd fs;exact dF (ab [_,_] ad ay X0 X1 this rfl)
   have cq:CT (n+5) (.ref 1086) [.ref rd,d] M (λr M1=>r=aB x (aB d aH)/\RV rd lx fl tb rw di kf T0 M0 s T i fs M1) E:=ya I hx nx λM' I'=>⟨rfl,I'⟩
   have MW:∀M1,RV rd lx fl tb rw di kf T0 M0 s T i fs M1->Wh (n+5) (ag ρ 97 (aB x (aB d aH))) M1 (.cmp .Gt (.call (.cst (.bi "len")) [(.attr (.loc 57) 170)]) (.loc 10)) [.asg 97 (.meth (.loc 57) 144 [(.loc 97)])] K E:=λM1 I1=>
    ye fs (aB x (aB d aH)) M1 _ (λf hf=>hq f (.tail _ hf)) I1 (by exact(aS rfl).trans K3) (by exact bw) (by exact(aS rfl).trans Lh) q
   clear q hq Nf Mv nx hx hw I;generalize ba (f::fs)=R at*;refine bF ?_;refine ac ?_;refine ah ?_;refine gU ?_;simp only[true_and, *];refine ac ?_;refine c9 ?_;refine ac ?_;refine aK ?_
   conv=>whnf
   refine ac ?_;simp only[*];refine ch cq (λr M1 hr=>?_) λ_ _ h=>h
   have KY:=hr.1;subst KY;exact MW M1 hr.2
  ·have es:bN (f::fs)=f::fs:=by simp only[bN,if_neg hw]
   have en:ck (f::fs) d=(f::fs,d):=by simp only[iH,if_neg hw]
   rw[es,en]at q;rw[es]at Lh;have q':=q M ρ I K3 Nq;have TK:aak ρ 10=TR (.int (fs.length+1:Nat)):=Lh;have e1:¬(((fs.length+1:Nat):Int)>((fs.length+1:Nat):Int)):=by exact ft (aw [_] ad ad rfl)
   clear q I es en hw Lh;generalize ba (f::fs)=R at*;refine bF ?_;refine ac ?_;refine ah ?_;refine gU ?_;simp only[true_and, *];refine ac ?_;refine bv ?_;exact q'
theorem Kh{fs:List Fr}{d:V}{j:Nat}(hn:bN fs=[])(I:RV rd lx fl tb rw di kf T0 M0 s T i fs M)(q:Q (.bool TV) M):CT (n+6) (.ref 1121) [.ref rd,d,.int j] M Q E:=by
 refine b6 wv (ks:=[57,114,136]) ?_;have hr:=I.r;have hf:=I.f;have hl:=dZ (fs:=fs);have z1:fs.length<2^63:=by have:=I.z;exact ab [_] ad bd X0 az this rfl
 refine av ?_;refine av ?_;refine ah ?_;refine gU ?_;simp only[true_and, *];refine av ?_;refine(show gb _ _ 60 (.while _ _) _ _ _ from ?_);refine ry I fs [] _ rfl rfl rfl λρ' b1 b2 b3=>?_
 rw[hn]at b3;refine bV ?_ ?_
 ·clear q I b2 hl;have b3:aak ρ' 10=TR (.int (0:Nat)):=b3;refine ac ?_
  conv=>whnf
  simp only[and_true, *]
  conv=>whnf
  rfl
 ·exact q
theorem Ki{fs gs:List Fr}{g:Fr}{d:V}{j:Nat}(hq:cG fs)(hn:bN fs=g::gs)(hs:g.sta=0\/g.sta=1)(hz:g.ts.length<=100)(I:RV rd lx fl tb rw di kf T0 M0 s T i fs M)(q:∀M',RV rd lx fl tb rw di kf T0 M0 s T i ((if g.sta=0 then{g with ts:=g.ts++[(ck fs d).2]}else{g with sta:=2,tail:=(ck fs d).2})::gs) M'->Q (.bool TT) M'):CT (n+6) (.ref 1121) [.ref rd,d,.int j] M Q E:=by
 refine b6 wv (ks:=[57,114,136]) ?_;have hr:=I.r;have hf:=I.f;have hl:=dZ (fs:=fs);have z1:fs.length<2^63:=by have:=I.z;exact ab [_] ad bd X0 az this rfl
 refine av ?_
 conv=>whnf
 refine av ?_
 conv=>whnf
 refine ah ?_
 conv=>whnf
 refine gU ?_
 conv=>whnf
 simp only[true_and, *]
 conv=>whnf
 refine av ?_;refine(show gb _ _ 60 (.while _ _) _ _ _ from ?_);refine ry I fs [] _ rfl rfl rfl λρ' b1 b2 b3=>?_
 have b4:aak ρ' 97=TR d:=by rw[b2];rfl
 have e1:¬(((bN fs).length:Int)=0):=by rw[hn,aau];exact cY (b:=0) (UO (aw [_] (N0.a N1) ad rfl))
 refine aU ?_ ?_
 ·clear q I b2 hl hn
  conv=>whnf
  refine ac ?_
  conv=>whnf
  simp only[decide_false,and_true, *]
 refine av ?_;refine(show gb _ _ 60 (.while _ _) _ _ _ from ?_);refine ye fs d M ρ' hq I b1 b4 b3 λM1 Lg I1 c1 c2=>?_
 rw[hn]at I1;generalize(ck fs d).2=dd at*;clear hr hf;have hr:=I1.r;have hf:=I1.f;obtain⟨g1,g2,g3,g4⟩:=I1.fr g (.head _);unfold eQ at g1;have l2:=kU (f:=g) (fs:=gs);have l3:(ba (g::gs)).length<2^62:=by rw[dZ];have:=I1.z;simp at this⊢;exact ab [_] (ad.a N1) bY X0 (Ar.n 199) this rfl
 refine av ?_;have o1:=I1.fl_ne (f:=g) (g:=g) (.head _) (.head _);have o2:=Uf o1;have zt:g.ts.length<=Ub:=ar (by exact ab [_] X0 am X0 (Ar.n 100) hz rfl);rcases hs with hs|hs
 ·have q':=q _ (by rw[if_pos hs];exact I1.setT (g.ts++[dd]));rw[hs]at g1;have z0:((0:Nat):Int)=0:=rfl;have z2:¬((0:Int)=2):=by decide
  have z3:¬((0:Int)=1):=by decide
  clear q I I1 hn hq b2 hl b3 b4 e1;generalize ba (g::gs)=R at*
  conv=>whnf
  refine ac ?_
  conv=>whnf
  refine ah ?_
  conv=>whnf
  refine wc ‹_› ‹_› ‹_› ?_
  conv=>whnf
  refine aU (by
   conv=>whnf
   simp only[ak,reduceIte, *]
   conv=>whnf
   refine ah ?_
   conv=>whnf
   simp only[decide_false,and_true, *]) ?_
  refine av ?_;refine ac (o:=aak _ 106) ?_
  conv=>whnf
  refine ah ?_;refine ac (o:=aak _ 106) ?_
  conv=>whnf
  refine ah ?_
  conv=>whnf
  refine aN ?_
  conv=>whnf
  refine aO ?_;refine bM ?_
  conv=>whnf
  refine aP ?_;refine⟨zt,?_⟩
  conv=>whnf
  refine av ?_
  conv=>whnf
  exact q'
 ·have q':=q _ (by rw[if_neg (by exact UO (ab [_] (N0.a N1) X0 N1 X0 (eR hs) rfl))];exact I1.setF 2 dd);unfold eQ at q';rw[hs]at g1;have z0:((1:Nat):Int)=1:=rfl;have z2:¬((1:Int)=2):=by decide
  clear q I I1 hn hq b2 hl b3 b4 e1;generalize ba (g::gs)=R at*
  conv=>whnf
  refine ac ?_
  conv=>whnf
  refine ah ?_
  conv=>whnf
  refine wc ‹_› ‹_› ‹_› ?_
  conv=>whnf
  refine aU (by
   conv=>whnf
   simp only[ak,reduceIte, *]
   conv=>whnf
   refine ah ?_
   conv=>whnf
   simp only[decide_false,and_true, *]) ?_
  refine av ?_;refine ac (o:=aak _ 106) ?_
  conv=>whnf
  refine ah ?_;refine bM ?_;refine ac (o:=aak _ 106) ?_
  conv=>whnf
  refine aV ?_;refine ac (o:=aak _ 106) ?_
  conv=>whnf
  refine aV ?_
  conv=>whnf
  simp only[*]
  conv=>whnf
  refine av ?_
  conv=>whnf
  rw[HI];exact q'
end
end
section
variable[HasP]
variable{n:Nat}{Q:PQ}{E:PE}
noncomputable def iI:List XS:=[.ite (.meth (.loc 57) 128 [(.loc 116)]) [.cont] [],.ite (.cmp .Eq (.attr (.loc 116) 44) (.cst (.str [46]))) [.expr (.meth (.loc 57) 31 [(.loc 116)]),.cont] [],.asg 114 (.ite (.cmp .Eq (.attr (.loc 116) 44) (.cst (.str [41]))) (.meth (.loc 57) 143 [(.loc 116)]) (.meth (.loc 57) 68 [(.loc 116)])),.ite (.meth (.loc 57) 224 [(.loc 114),(.attr (.loc 116) 136)]) [.ret (.meth (.loc 57) 84 [(.loc 114)])] []]
noncomputable def nA:List XS:=.asg 116 (.meth (.attr (.loc 57) 124) 116 []):: .ite (.cmp .Eq (.attr (.loc 116) 44) (.cst (.str [101,110,100]))) [.ite (.cmp .Eq (.attr (.loc 57) 170) (.lst [])) [.ret (.cst (.ido 53 38 [(104,(.str [101,111,102]))]))] [],.raise (.call (.cst (.ref 406)) [(.fst [(.cst (.str [101,110,100,32,105,110,32,97,32])),(.fmt (.attr (.sub (.attr (.loc 57) 170) (.neg (.cst (.int 1)))) 44))]),(.attr (.sub (.attr (.loc 57) 170) (.neg (.cst (.int 1)))) 136)])] []::iI
abbrev LD(n:Nat)(Q:PQ)(E:PE)(ρ:af)(M:aa):Prop:=Wh (n+13) ρ M (.cst (.bool TV)) nA (PK.ret Q) E
abbrev jF(n:Nat)(Q:PQ)(E:PE):PK:=λfl Lg M2=>match fl with| .ret v=>PK.ret Q (.ret v) Lg M2|_=>LD n Q E Lg M2
theorem yf(h:Ex (n+13) ρ M nA (jF n Q E) E):LD n Q E ρ M:=vY (ud (gR ((cg (n:=n+13) (by exact TY _) 60).t (Q:=λr M1=>r=TV/\M1=M) (And.intro (a:=TV=TV) (b:=M=M) rfl rfl)) λr M1 hr=>by obtain⟨rfl,rfl⟩:=hr;rw[if_pos rfl];exact kz (gT h) λfl ρ M h=>by induction fl<;>first|exact mB h|exact h))
theorem Kj{K:PK}(h:Wh n ρ M t b K E):Ex n ρ M [.while t b] K E:=iu (i4 (ql (ue (mB h)) λfl ρ M h=>by induction fl<;>first|exact h|exact lM h))
section
variable{rd lx fl tb rw di:TX}{kf:Nat}{T0 T:au}{M0 M:aa}{s:List Nat}{i:Nat}{fs:List Fr}
structure cB(n:Nat)(Q:PQ)(E:PE)(rd lx fl tb rw di:TX)(kf:Nat)(T0:au)(M0:aa)(s:List Nat)(T:au)(i:Nat)(fs:List Fr)(v:V):Prop where
 top:bN fs=[]->∀T' M',aE T T'->RV rd lx fl tb rw di kf T0 M0 s T' i [] M'->Q (ck fs v).2 M'
 inn:∀g gs,bN fs=g::gs->(g.sta=0\/g.sta=1)/\g.ts.length<=100/\∀T' M' ρ,aE T T'->aak ρ 57=TR (.ref rd)->RV rd lx fl tb rw di kf T0 M0 s T' i ((if g.sta=0 then{g with ts:=g.ts++[(ck fs v).2]}else{g with sta:=2,tail:=(ck fs v).2})::gs) M'->LD n Q E ρ M'
theorem cB.ext{v:V}(D:cB n Q E rd lx fl tb rw di kf T0 M0 s T i fs v)(e:aE T T'):cB n Q E rd lx fl tb rw di kf T0 M0 s T' i fs v:=⟨λh T2 M' e' I=>D.top h T2 M' (e.trans e') I,λg gs h=>⟨(D.inn g gs h).1,(D.inn g gs h).2.1,λT2 M' ρ e'=>(D.inn g gs h).2.2 T2 M' ρ (e.trans e')⟩⟩
theorem Kk{ρ:af}{v x:V}{w:List Nat}{j e:Nat}(hq:cG fs)(I:RV rd lx fl tb rw di kf T0 M0 s T i fs M)(K3:aak ρ 57=TR (.ref rd))(TL:aak ρ 114=TR v)(Pk:aak ρ 116=TR (bH w x j e))(D:cB n Q E rd lx fl tb rw di kf T0 M0 s T i fs v):Ex (n+13) ρ M [.ite (.meth (.loc 57) 224 [(.loc 114),(.attr (.loc 116) 136)]) [.ret (.meth (.loc 57) 84 [(.loc 114)])] []] (jF n Q E) E:=by
 have hr:=I.r;cases hs:bN fs with
 |nil=>
  have c1:∀Q':PQ,Q' (.bool TV) M->CT (n+13) (.ref 1121) [.ref rd,v,.int j] M Q' E:=λQ' h=>Kh (n:=n+7) hs I h
  have c2:CT (n+13) (.ref 1079) [.ref rd,v] M Q E:=Kf (n:=n+7) hq (by rw[yc,hs]) I λM' I'=>D.top hs T M' .refl I'
  refine bV ?_ ?_
  ·clear D;refine ac ?_;refine aK ?_
   conv=>whnf
   refine ac ?_;refine ac ?_;simp only[*];exact c1 _ ⟨rfl,rfl⟩
  ·clear D c1;refine ac ?_;refine aK ?_
   conv=>whnf
   refine ac ?_;simp only[*];assumption
 |cons g gs=>
  obtain⟨d1,d2,d3⟩:=D.inn g gs hs;have c1:CT (n+13) (.ref 1121) [.ref rd,v,.int j] M (λr M1=>r=.bool TT/\RV rd lx fl tb rw di kf T0 M0 s T i ((if g.sta=0 then{g with ts:=g.ts++[(ck fs v).2]}else{g with sta:=2,tail:=(ck fs v).2})::gs) M1) E:=Ki (n:=n+7) hq hs d1 d2 I λM' I'=>⟨rfl,I'⟩
  have d4:=λM'=>d3 T M' ρ .refl K3
  clear D d3 I d1 d2 hs;refine av ?_;refine ac ?_;refine aK ?_
  conv=>whnf
  refine ac ?_;refine ac ?_;simp only[*];refine ch c1 (λr M1 h=>?_) λ_ _ h=>h
  obtain⟨rfl,I1⟩:=h;refine iw ?_;exact d4 M1 I1
abbrev nC(n:Nat)(E:PE)(lx:TX)(s:List Nat)(M:aa)(i':Nat)(w:List Nat)(x:V)(j e:Nat):Prop:=∀Q:PQ,(∀M',LX lx s i' M'->Kp [lx] M M'->Q (bH w x j e) M')->CT (n+13) (.ref 966) [.ref lx] M Q E
theorem kW{ρ:af}{w:List Nat}{x:V}{i' j e:Nat}(I:RV rd lx fl tb rw di kf T0 M0 s T i fs M)(K3:aak ρ 57=TR (.ref rd))(tk:nC n E lx s M i' w x j e)(hw:w≠[101,110,100])(go:∀M1 ρ1,RV rd lx fl tb rw di kf T0 M0 s T i' fs M1->aak ρ1 57=TR (.ref rd)->aak ρ1 116=TR (bH w x j e)->Ex (n+13) ρ1 M1 iI (jF n Q E) E):LD n Q E ρ M:=by
 refine yf ?_;unfold nA;have hr:=I.r;have hl:=I.l.h;unfold bj at hl;have c1:CT (n+13) (.ref 966) [.ref lx] M (λr M1=>r=bH w x j e/\RV rd lx fl tb rw di kf T0 M0 s T i' fs M1) E:=tk _ λM' L' k=>⟨rfl,I.lex L' k⟩
 clear tk I;refine av ?_;refine ac ?_;refine ah ?_;refine aK ?_;simp only[*];refine ch c1 (λr M1 h=>?_) λ_ _ h=>h
 obtain⟨rfl,I1⟩:=h;refine aU (by
  conv=>whnf
  simp only[ak,reduceIte, *]
  conv=>whnf
  simp only[decide_false,and_true, *]) ?_
 exact go M1 _ I1 (by simp[ak,K3]) (by simp[ak,bR,bS])
theorem yg{ρ:af}{w:List Nat}{x:V}{j e:Nat}{P:aa->Prop}(hr:aak M rd=TR (.inst 1124 [(124,.ref lx),(101,.ref tb),(170,.ref fl)]))(K3:aak ρ 57=TR (.ref rd))(Pk:aak ρ 116=TR (bH w x j e))(op:CT (n+13) (.ref 1093) [.ref rd,bH w x j e] M (λr M1=>r=.bool TV/\P M1) E)(go:∀M1,P M1->LD n Q E ρ M1):Ex (n+13) ρ M iI (jF n Q E) E:=by
 unfold iI;refine av ?_;refine ac ?_;refine aK ?_
 conv=>whnf
 refine ac ?_
 conv=>whnf
 simp only[*]
 conv=>whnf
 refine ch op (λr M1 h=>?_) λ_ _ h=>h
 obtain⟨rfl,h⟩:=h;exact go M1 h
theorem yh{ρ:af}{w:List Nat}{v x:V}{j e:Nat}{fs':List Fr}(hk:kf<=100)(hz:fs.length<200)(hw:w∉([[40],[35,40],[39],[96],[44],[44,64],[46]]:List (List Nat)))(hq:cG fs')(I:RV rd lx fl tb rw di kf T0 M0 s T i fs M)(K3:aak ρ 57=TR (.ref rd))(Pk:aak ρ 116=TR (bH w x j e))(val:∀Q':PQ,(∀T' M',RV rd lx fl tb rw di kf T0 M0 s T' i fs' M'->aE T T'->Q' v M')->CT (n+13) (.ref (if w=[41]then 1107 else 1114)) [.ref rd,bH w x j e] M Q' E)(D:cB n Q E rd lx fl tb rw di kf T0 M0 s T i fs' v):Ex (n+13) ρ M iI (jF n Q E) E:=by
 unfold iI;have hr:=I.r;have c1:∀Q':PQ,Q' (.bool TT) M->CT (n+13) (.ref 1093) [.ref rd,bH w x j e] M Q' E:=λQ' h=>x9 (n:=n+7) hk (w:=w) (λhm=>hw (by simp only[Uk,Um,or_false]at hm⊢;rcases hm with h|h|h|h|h|h<;>simp[h])) I hz h
 have w1:¬w=[46]:=λh=>hw (by simp[h])
 have c2:=val (λr M1=>r=v/\∃T',RV rd lx fl tb rw di kf T0 M0 s T' i fs' M1/\aE T T') λT' M' I' e'=>⟨rfl,T',I',e'⟩
 clear val;refine aU (by
  clear D;(
  conv=>whnf
  refine ac ?_;refine aK ?_
  conv=>whnf
  refine ac ?_
  conv=>whnf
  simp only[*]
  conv=>whnf);exact c1 _ ⟨rfl,rfl⟩) ?_
 refine aU (by
  clear D;(
  conv=>whnf
  refine ac ?_
  conv=>whnf
  simp only[decide_false,and_true, *])) ?_
 refine av ?_;have fin:∀M1,(∃T',RV rd lx fl tb rw di kf T0 M0 s T' i fs' M1/\aE T T')->Ex (n+13) (ag ρ 114 v) M1 [.ite (.meth (.loc 57) 224 [(.loc 114),(.attr (.loc 116) 136)]) [.ret (.meth (.loc 57) 84 [(.loc 114)])] []] (jF n Q E) E:=λM1 ⟨T',I',e'⟩=>
  Kk hq I' (by simp[ak,K3]) (by simp[ak,bR,bS]) (by rw[ak,if_neg (by decide)];exact Pk) (D.ext e')
 clear D I c1;by_cases hc:w=[41]
 ·rw[if_pos hc]at c2;clear hw w1
  conv=>whnf
  refine ac ?_
  conv=>whnf
  refine c9 ?_
  conv=>whnf
  refine ac ?_
  conv=>whnf
  refine aK ?_
  conv=>whnf
  refine ac ?_;refine bG ?_
  conv=>whnf
  subst hc;refine ch c2 (λr M1 h=>?_) λ_ _ h=>h
  obtain⟨rfl,h⟩:=h;exact fin M1 h
 ·rw[if_neg hc]at c2;clear hw w1
  conv=>whnf
  refine ac ?_
  conv=>whnf
  refine bv ?_
  conv=>whnf
  refine ac ?_
  conv=>whnf
  refine aK ?_
  conv=>whnf
  refine ac ?_
  conv=>whnf
  simp only[*]
  conv=>whnf
  refine ch c2 (λr M1 h=>?_) λ_ _ h=>h
  obtain⟨rfl,h⟩:=h;exact fin M1 h
end
end
section
variable[HasP]
variable{n:Nat}{Q:PQ}{E:PE}
noncomputable abbrev eS:List Nat:=[48,49,50,51,52,53,54,55,56,57]
theorem Kl:∀d,d<10->aM d∈eS:=by decide
theorem yi(h:c∈fg 10 m):c∈eS:=by obtain⟨d,hd,rfl⟩:=mV (r:=10) (by exact aw [] N2 (Ar.n 10) rfl) (by exact aw [] (Ar.n 10) (Ar.n 16) rfl) h;exact Kl d hd
theorem Km:∃c r,fg 10 m=c::r/\c∈eS:=by
 cases h:fg 10 m with
 |nil=>exact absurd h (mW (by exact aw [] N2 (Ar.n 10) rfl))
 |cons c r=>exact⟨c,r,rfl,yi (m:=m) (by rw[h];simp)⟩
theorem rz(h:c∈nt 10 x):c∈(45::eS):=by
 unfold nt at h;rcases List.mem_append.mp h with h|h
 ·split at h<;>simp at h⊢;lia
 ·exact WG _ (yi h)
theorem rA:∃c r,nt 10 x=c::r/\(c∈eS\/c=45/\r≠[]):=by
 refine aX (Km (m:=x.natAbs)) λc r KY=>?_
 have h1:=KY.1;unfold nt;by_cases hx:x<0
 ·exact⟨45,c::r,by rw[if_pos hx,h1];rfl,.inr ⟨rfl,by simp⟩⟩
 ·exact⟨c,r,by rw[if_neg hx,h1];rfl,.inl KY.2⟩
theorem Kn:∀c∈(45::eS),bp c=c/\gW c=TT/\c≠43/\c≠46:=by decide
theorem rB:∀c∈(45::eS),c∉fo/\c∉iE:=by decide
theorem Ko:∀c∈(45::eS),(c∉([40,41,39,96]:List Nat)/\c≠44/\c≠34/\c≠35)/\c∉([32,10,9,13,12,59]:List Nat):=by decide
theorem Kq(h:c∈eS\/c=45/\r≠[]):db ((c::r).map bp)=TT/\c::r≠[46]:=by
 have hc:c∈(45::eS):=by
  rcases h with h|⟨h,-⟩
  ·exact WG _ h
  ·rw[h];exact .head _
 obtain⟨f1,f2,f3,f4⟩:=Kn c hc;refine⟨?_,by simp[f4]⟩;refine(UA).symm▸?_;refine(f1).symm▸?_;unfold db;rw[if_neg]
 ·show(gW c&&_)=TT;rw[f2];rfl
 ·simp only[Uk,Um,or_false,Y2,not_or];refine⟨by simp[f3],?_,by simp[f4]⟩;rintro⟨rfl,hr⟩;rcases h with h|⟨-,h⟩
  ·revert h;decide
  ·exact h (by simpa using hr)
section
variable{rd lx fl tb rw di:TX}{kf:Nat}{T0 T:au}{M0 M:aa}{s:List Nat}{i:Nat}{fs:List Fr}
theorem kX{ρ:af}{w:List Nat}{v x:V}{i' j e:Nat}(hk:kf<=100)(hz:fs.length<200)(hw:w∉([[40],[35,40],[39],[96],[44],[44,64],[46],[41],[101,110,100]]:List (List Nat)))(hq:cG fs)(I:RV rd lx fl tb rw di kf T0 M0 s T i fs M)(K3:aak ρ 57=TR (.ref rd))(tk:nC n E lx s M i' w x j e)(val:∀M1,RV rd lx fl tb rw di kf T0 M0 s T i' fs M1->∀Q':PQ,(∀T' M',RV rd lx fl tb rw di kf T0 M0 s T' i' fs M'->aE T T'->Q' v M')->CT (n+13) (.ref 1114) [.ref rd,bH w x j e] M1 Q' E)(D:cB n Q E rd lx fl tb rw di kf T0 M0 s T i' fs v):LD n Q E ρ M:=by
 simp only[Uk,Um,or_false,not_or]at hw;obtain⟨w1,w2,w3,w4,w5,w6,w7,w8,w9⟩:=hw;refine kW I K3 tk w9 λM1 ρ1 I1 h1 h2=>?_
 refine yh (fs':=fs) hk hz (by simp only[Uk,Um,or_false,not_or];exact⟨w1,w2,w3,w4,w5,w6,w7⟩) hq I1 h1 h2 ?_ D;refine(if_neg w8).symm▸?_;exact val M1 I1
theorem yj{ρ:af}{w sp rest:List Nat}{v:V}(hk:kf<=100)(hz:fs.length<200)(hq:cG fs)(I:RV rd lx fl tb rw di kf T0 M0 s T i fs M)(K3:aak ρ 57=TR (.ref rd))(K7:sp=[]\/sp=[32])(hat:At s i (sp++(w++rest)))(hr:dR rest)(hc:∃c r,w=c::r/\(c∈eS\/c=45/\r≠[]))(ha:∀c∈w,c∉fo/\c∉iE)(hl:w.length<=190)(nv:aY v=TV)(hv:∀M',LX lx s (i+sp.length) M'->∀Q':PQ,(∀Ma,Kp [] M' Ma->Q' v Ma)->CT (n+11) (.ref 994) [.ref lx,.str w,.int (i+sp.length:Nat)] M' Q' E)(D:cB n Q E rd lx fl tb rw di kf T0 M0 s T (i+sp.length+w.length) fs v):LD n Q E ρ M:=by
 obtain⟨c,r,rfl,hc⟩:=hc;have OX:c∈(45::eS):=by
  rcases hc with h|⟨h,-⟩
  ·exact WG _ h
  ·rw[h];exact .head _
 obtain⟨n1,n2⟩:=Kq hc;obtain⟨o1,o2⟩:=Ko c OX;refine kX (w:=rj) (x:=v) (j:=i+sp.length) (e:=i+sp.length+(c::r).length) hk hz (by decide) hq I K3 ?_ (λM1 I1 Q' q=>nz (n:=n+8) (by decide) nv (q T M1 I1 .refl)) D;intro Q' q;refine iF (n:=n) (k:=0) (r:=r++rest) (.inr (.inr ⟨o1,rfl⟩)) I.l K7 hat o2 rfl λM1 L1 k1=>?_
 refine JX (n:=n+1) L1 ⟨hat.skip,ha,hr⟩ n1 n2 hl ⟨c,r,rfl,?_⟩ hv λM2 L2 k2=>q M2 L2 (k1.trans k2)
 rcases hc with h|⟨h,-⟩
 ·exact .inl h
 ·exact .inr (by rw[h];decide)
theorem yk{ρ:af}{sp rest:List Nat}{x:Int}(hk:kf<=100)(hz:fs.length<200)(hq:cG fs)(I:RV rd lx fl tb rw di kf T0 M0 s T i fs M)(K3:aak ρ 57=TR (.ref rd))(K7:sp=[]\/sp=[32])(hat:At s i (sp++(nt 10 x++rest)))(hr:dR rest)(hx:x.natAbs<2^63)(D:cB n Q E rd lx fl tb rw di kf T0 M0 s T (i+sp.length+(nt 10 x).length) fs (.int x)):LD n Q E ρ M:=yj hk hz hq I K3 K7 hat hr rA (λc hc=>rB c (rz hc)) (by have:=fh (r:=10) (k:=63) (i:=x) (by exact aw [] N2 (Ar.n 10) rfl) hx (by exact TY _);exact ab [_] X0 (Ar.n 190) X0 ((Ar.n 63).a N1) this rfl) rfl (λM' L' Q' q=>JT (n:=n+2) L' hx q) D
theorem Kr{ρ:af}{sp rest:List Nat}{x:Int}{b:Nat}(hk:kf<=100)(hz:fs.length<200)(hq:cG fs)(I:RV rd lx fl tb rw di kf T0 M0 s T i fs M)(K3:aak ρ 57=TR (.ref rd))(K7:sp=[]\/sp=[32])(hat:At s i (sp++(nt 10 x++[47]++nt 10 b++rest)))(hr:dR rest)(hx:x.natAbs<2^63)(hb:1<b)(Mf:b<2^63)(hg:WF x.natAbs b=1)(D:cB n Q E rd lx fl tb rw di kf T0 M0 s T (i+sp.length+(nt 10 x++[47]++nt 10 b).length) fs (eM x b)):LD n Q E ρ M:=by
 refine yj hk hz hq I K3 K7 hat hr ?_ (λc hc=>?_) ?_ rfl (λM' L' Q' q=>JU (n:=n+2) L' hx hb Mf hg q) D
 ·refine aX (rA (x:=x)) λc r KY=>?_
  refine⟨c,r++([47]++nt 10 b),by rw[KY.1];simp,?_⟩;rcases KY.2 with h|⟨h,-⟩
  ·exact .inl h
  ·exact .inr ⟨h,by simp⟩
 ·simp only[List.mem_append,VA]at hc;rcases hc with(h|h)|h
  ·exact rB c (rz h)
  ·rw[h];decide
  ·exact rB c (rz h)
 ·have l1:=fh (r:=10) (k:=63) (i:=x) (by exact aw [] N2 (Ar.n 10) rfl) hx (by exact TY _);have l2:=fh (r:=10) (k:=63) (i:=(b:Int)) (by exact aw [] N2 (Ar.n 10) rfl) (by assumption) (by exact TY _);simp;exact ai [_,_] (X0.a ay) (Ar.n 190) X0 ((Ar.n 63).a N1) X1 ((Ar.n 63).a N1) l1 l2 rfl
theorem yl:∀l∈ew,(l.map bp=l/\db l=TV)->(l≠[46]/\l.length<=100/\l≠[]/\l.all (λc=>decide (c∉fo/\c∉iE))=TV):=by decide
theorem ym:∀l∈ew,(l.map bp=l/\db l=TV)->(decide ((l.headD 0∉([40,41,39,96]:List Nat)/\l.headD 0≠44/\l.headD 0≠34/\l.headD 0≠35)/\l.headD 0∉([32,10,9,13,12,59]:List Nat)/\l.headD 0≠64)=TV):=by decide
theorem yn{ρ:af}{sp rest l:List Nat}{a k:Nat}(hk:kf<=100)(hz:fs.length<200)(hq:cG fs)(I:RV rd lx fl tb rw di kf T0 M0 s T i fs M)(K3:aak ρ 57=TR (.ref rd))(K7:sp=[]\/sp=[32])(hat:At s i (sp++(l++rest)))(hr:dR rest)(h:T[k]? =TR ⟨a,l,TV⟩)(h1:l.map bp=l)(h2:db l=TV)(D:cB n Q E rd lx fl tb rw di kf T0 M0 s T (i+sp.length+l.length) fs (aW a k l)):LD n Q E ρ M:=by
 have hl:l∈ew:=I.g.ok.sub _ (UR h) rfl;obtain⟨a1,a2,a6,a3⟩:=yl l hl ⟨h1,h2⟩;have b3:=ym l hl ⟨h1,h2⟩;obtain⟨a4,a5,-⟩:=of_decide_eq_true b3;have a3:∀c∈l,c∉fo/\c∉iE:=λc hc=>of_decide_eq_true (List.all_eq_true.mp a3 c hc)
 refine kX (w:=kT) (x:=.str l) (j:=i+sp.length) (e:=i+sp.length+l.length) hk hz (by decide) hq I K3 ?_ (λM1 I1 Q' q=>Ke (n:=n+8) hk hl I1 λT' M' a' k' I' e' Lc=>?_) D
 ·intro Q' q;induction l with
  |nil=>exact absurd rfl a6
  |cons c r=>
   refine iF (n:=n) (k:=0) (r:=r++rest) (.inr (.inr ⟨a4,rfl⟩)) I.l K7 hat a5 rfl λM1 L1 k1=>?_
   exact JW (n:=n+1) L1 ⟨hat.skip,a3,hr⟩ h1 h2 a1 a2 λM2 L2 k2=>q M2 L2 (k1.trans k2)
 ·obtain⟨rfl,rfl⟩:=I'.g.ok.one (e'.at h) Lc;exact q T' M' I' e'
theorem Ks{ρ:af}{sp rest:List Nat}{b:Bool}(hk:kf<=100)(hz:fs.length<200)(hq:cG fs)(I:RV rd lx fl tb rw di kf T0 M0 s T i fs M)(K3:aak ρ 57=TR (.ref rd))(K7:sp=[]\/sp=[32])(hat:At s i (sp++(35::(if b=TV then 116 else 102)::rest)))(D:cB n Q E rd lx fl tb rw di kf T0 M0 s T (i+sp.length+2) fs (.bool b)):LD n Q E ρ M:=by
 refine kX (w:=[98,111,111,108,101,97,110]) (x:=.bool b) (j:=i+sp.length) (e:=i+sp.length+2) hk hz (by decide) hq I K3 ?_ (λM1 I1 Q' q=>nz (n:=n+8) (by decide) rfl (q T M1 I1 .refl)) D;intro Q' q;refine iF (n:=n) (.inr (.inl ⟨rfl,rfl,rfl⟩)) I.l K7 hat (by decide) rfl λM1 L1 k1=>?_
 exact JZ (n:=n+1) L1 hat.skip λM2 L2 k2=>q M2 L2 (k1.trans k2)
theorem nE{ρ:af}{sp rest w:List Nat}{x c:Nat}(hk:kf<=100)(hz:fs.length<200)(hq:cG fs)(I:RV rd lx fl tb rw di kf T0 M0 s T i fs M)(K3:aak ρ 57=TR (.ref rd))(K7:sp=[]\/sp=[32])(hat:At s i (sp++(35::92::x::(w++rest))))(hw:∀c∈w,c∉fo)(hr:dR rest)(hs:Sg (x::w) c)(D:cB n Q E rd lx fl tb rw di kf T0 M0 s T (i+sp.length+3+w.length) fs (dC c)):LD n Q E ρ M:=by
 refine kX (w:=[99,104,97,114]) (x:=dC c) (j:=i+sp.length) (e:=i+sp.length+3+w.length) hk hz (by decide) hq I K3 ?_ (λM1 I1 Q' q=>nz (n:=n+8) (by decide) rfl (q T M1 I1 .refl)) D;intro Q' q;refine iF (n:=n) (.inr (.inl ⟨rfl,rfl,rfl⟩)) I.l K7 hat (by decide) rfl λM1 L1 k1=>?_
 exact J4 (n:=n+1) L1 hat.skip hw hr hs λM2 L2 k2=>q M2 L2 (k1.trans k2)
theorem Kt{ρ:af}{sp rest:List Nat}(hk:kf<=100)(hz:fs.length<200)(hq:cG fs)(I:RV rd lx fl tb rw di kf T0 M0 s T i fs M)(K3:aak ρ 57=TR (.ref rd))(K7:sp=[]\/sp=[32])(hat:At s i (sp++(34::97::92::34::34::rest)))(D:cB n Q E rd lx fl tb rw di kf T0 M0 s T (i+sp.length+5) fs (fb [97,34])):LD n Q E ρ M:=by
 refine kX (w:=[115,116,114,105,110,103]) (x:=fb [97,34]) (j:=i+sp.length) (e:=i+sp.length+5) hk hz (by decide) hq I K3 ?_ (λM1 I1 Q' q=>nz (n:=n+8) (by decide) rfl (q T M1 I1 .refl)) D;intro Q' q;refine iF (n:=n) (.inl ⟨rfl,rfl,rfl⟩) I.l K7 hat (by decide) rfl λM1 L1 k1=>?_
 exact J5 (n:=n+1) L1 hat.skip λM2 L2 k2=>q M2 L2 (k1.trans k2)
theorem nF{ρ:af}{sp r w wn:List Nat}(hw:w=[40]/\wn=fq\/w=[35,40]/\wn=g9)(hz:fs.length<200)(I:RV rd lx fl tb rw di kf T0 M0 s T i fs M)(K3:aak ρ 57=TR (.ref rd))(K7:sp=[]\/sp=[32])(hat:At s i (sp++(w++r)))(go:∀M1 ρ1 fa la st,RV rd lx fl tb rw di kf T0 M0 s T (i+sp.length+w.length) (⟨fa,la,wn,st,[],0,aH⟩::fs) M1->aak ρ1 57=TR (.ref rd)->LD n Q E ρ1 M1):LD n Q E ρ M:=by
 have tk:nC n E lx s M (i+sp.length+w.length) w .none (i+sp.length) (i+sp.length+w.length):=by
  intro Q' q;rcases hw with⟨rfl,-⟩|⟨rfl,-⟩
  ·exact np (n:=n) I.l K7 hat (by decide) rfl q
  ·refine iF (n:=n) (r:=40::r) (.inr (.inl ⟨rfl,rfl,rfl⟩)) I.l K7 hat (by decide) rfl λM1 L1 k1=>?_
   exact JY (n:=n+1) L1 hat.skip λM2 L2 k2=>q M2 L2 (k1.trans k2)
 refine kW I K3 tk (by rcases hw with⟨rfl,-⟩|⟨rfl,-⟩<;>decide) λM1 ρ1 I1 h1 h2=>?_
 refine yg (P:=λM2=>∃fa la,RV rd lx fl tb rw di kf T0 M0 s T (i+sp.length+w.length) (⟨fa,la,wn,i+sp.length,[],0,aH⟩::fs) M2) I1.r h1 h2 (J9 (n:=n+7) hw I1 hz λM' fa la I'=>⟨rfl,fa,la,I'⟩) λM2 ⟨fa,la,I2⟩=>go M2 ρ1 fa la _ I2 h1
theorem Ku{ρ:af}{sp r:List Nat}{p:List Nat×List Nat}(hp:p∈QL)(hk:kf<=100)(hz:fs.length<200)(I:RV rd lx fl tb rw di kf T0 M0 s T i fs M)(K3:aak ρ 57=TR (.ref rd))(K7:sp=[]\/sp=[32])(hat:At s i (sp++(p.1++r)))(hr:r.head?≠TR 64)(go:∀T' M1 ρ1 fa la st a k,RV rd lx fl tb rw di kf T0 M0 s T' (i+sp.length+p.1.length) (⟨fa,la,cN,st,[aW a k p.2],0,aH⟩::fs) M1->aE T T'->T'[k]? =TR ⟨a,p.2,TV⟩->aak ρ1 57=TR (.ref rd)->LD n Q E ρ1 M1):LD n Q E ρ M:=by
 have tk:nC n E lx s M (i+sp.length+p.1.length) p.1 .none (i+sp.length) (i+sp.length+p.1.length):=by
  intro Q' q;simp only[QL,Uk,Um,or_false]at hp;rcases hp with rfl|rfl|rfl|rfl
  ·exact np (n:=n) I.l K7 hat (by decide) rfl q
  ·exact np (n:=n) I.l K7 hat (by decide) rfl q
  ·exact xZ (n:=n) (b:=TT) I.l K7 hat (λ_=>hr) rfl q
  ·exact xZ (n:=n) (b:=TV) I.l K7 hat (λh=>by exact bt h) rfl q
 refine kW I K3 tk (by simp only[QL,Uk,Um,or_false]at hp;rcases hp with rfl|rfl|rfl|rfl<;>decide) λM1 ρ1 I1 h1 h2=>?_
 refine yg (P:=λM2=>∃T' fa la a k,RV rd lx fl tb rw di kf T0 M0 s T' (i+sp.length+p.1.length) (⟨fa,la,cN,i+sp.length,[aW a k p.2],0,aH⟩::fs) M2/\aE T T'/\T'[k]? =TR ⟨a,p.2,TV⟩) I1.r h1 h2 (Ka (n:=n+7) hp hk I1 hz λT' M' fa la a k I' e' k'=>⟨rfl,T',fa,la,a,k,I',e',k'⟩) λM2 ⟨T',fa,la,a,k,I2,e2,k2⟩=>go T' M2 ρ1 fa la _ a k I2 e2 k2 h1
end
end
section
variable[HasP]
variable{n:Nat}{Q:PQ}{E:PE}
section
variable{rd lx fl tb rw di:TX}{kf:Nat}{T0 T:au}{M0 M:aa}{s:List Nat}{i:Nat}{fs:List Fr}
theorem cB.at{v:V}(D:cB n Q E rd lx fl tb rw di kf T0 M0 s T i fs v)(h:i=j):cB n Q E rd lx fl tb rw di kf T0 M0 s T j fs v:=h▸D
theorem cB.frame{v:V}(hw:f.w≠cN)(hs:f.sta=0\/f.sta=1)(hz:f.ts.length<=100)(go:∀T' M' ρ,aE T T'->aak ρ 57=TR (.ref rd)->RV rd lx fl tb rw di kf T0 M0 s T' i ((if f.sta=0 then{f with ts:=f.ts++[v]}else{f with sta:=2,tail:=v})::fs) M'->LD n Q E ρ M'):cB n Q E rd lx fl tb rw di kf T0 M0 s T i (f::fs) v:=by
 have e1:bN (f::fs)=f::fs:=by simp only[bN,if_neg hw]
 have e2:ck (f::fs) v=(f::fs,v):=by simp only[iH,if_neg hw]
 refine⟨λh=>(by rw[e1]at h;cases h),λg gs h=>?_⟩;rw[e1]at h;cases h;rw[e2];exact⟨hs,hz,go⟩
theorem cB.quo{f:Fr}{v x:V}(hw:f.w=cN)(hx:f.ts=[x])(D:cB n Q E rd lx fl tb rw di kf T0 M0 s T i fs (aB x (aB v aH))):cB n Q E rd lx fl tb rw di kf T0 M0 s T i (f::fs) v:=by
 have e1:bN (f::fs)=bN fs:=by simp only[bN,if_pos hw]
 have e2:ck (f::fs) v=ck fs (aB x (aB v aH)):=by simp only[iH,if_pos hw,hx];rfl
 refine⟨λh=>?_,λg gs h=>?_⟩
 ·rw[e1]at h;rw[e2];exact D.top h
 ·rw[e1]at h;rw[e2];exact D.inn g gs h
theorem cG.fr(hw:f.w≠cN)(h:cG fs):cG (f::fs):=λg hg e=>by
 cases hg with
 |head=>exact absurd e hw
 |tail _ hg=>exact h g hg e
theorem cG.quo{f:Fr}{x:V}(hx:f.ts=[x])(nx:aY x=TV)(h:cG fs):cG (f::fs):=λg hg e=>by
 cases hg with
 |head=>exact⟨x,hx,nx⟩
 |tail _ hg=>exact h g hg e
theorem nG{ρ:af}{f:Fr}{v:V}{sp r:List Nat}(hk:kf<=100)(hv:f.w=g9/\f.sta=0/\v=bW f.ts\/f.w=fq/\(f.sta=0\/f.sta=2)/\f.ts.length<=100/\aY f.tail=TV/\v=gf f.tail f.ts)(hz:(f::fs).length<200)(hq:cG fs)(I:RV rd lx fl tb rw di kf T0 M0 s T i (f::fs) M)(K3:aak ρ 57=TR (.ref rd))(K7:sp=[]\/sp=[32])(hat:At s i (sp++41::r))(D:cB n Q E rd lx fl tb rw di kf T0 M0 s T (i+sp.length+1) fs v):LD n Q E ρ M:=by
 refine kW (w:=[41]) I K3 (λQ' q=>np (n:=n) I.l K7 hat (by decide) rfl q) (by decide) λM1 ρ1 I1 h1 h2=>?_
 refine yh (fs':=fs) hk hz (by decide) hq I1 h1 h2 (λQ' q=>?_) D;refine(if_pos rfl).symm▸?_;rcases hv with⟨a1,a2,rfl⟩|⟨a1,a2,a3,a4,rfl⟩
 ·exact Kc (n:=n+9) I1 a1 a2 λM' I'=>q T M' I' .refl
 ·exact Kd (n:=n+8) I1 a1 a2 a3 a4 λM' I'=>q T M' I' .refl
theorem Kv{ρ:af}{f:Fr}{x:V}{ts:List V}{sp r:List Nat}(hk:kf<=100)(hw:f.w=fq)(ht:f.ts=x::ts)(hs:f.sta=0)(hz:(f::fs).length<200)(I:RV rd lx fl tb rw di kf T0 M0 s T i (f::fs) M)(K3:aak ρ 57=TR (.ref rd))(K7:sp=[]\/sp=[32])(hat:At s i (sp++46::r))(hr:dR r)(go:∀M1 ρ1,RV rd lx fl tb rw di kf T0 M0 s T (i+sp.length+1) ({f with sta:=1,tail:=f.tail}::fs) M1->aak ρ1 57=TR (.ref rd)->LD n Q E ρ1 M1):LD n Q E ρ M:=by
 refine kW (w:=[46]) (x:=.none) (i':=i+sp.length+1) (j:=i+sp.length) (e:=i+sp.length+1) I K3 ?_ (by decide) λM1 ρ1 I1 h1 h2=>?_
 ·intro Q' q;refine iF (n:=n) (k:=0) (.inr (.inr ⟨by decide,rfl⟩)) I.l K7 hat (by decide) rfl λM1 L1 k1=>?_
  exact JV (n:=n+1) L1 ⟨hat.skip,by decide,hr⟩ λM2 L2 k2=>q M2 L2 (k1.trans k2)
 ·unfold iI;have hr:=I1.r;have c1:∀Q':PQ,Q' (.bool TT) M1->CT (n+13) (.ref 1093) [.ref rd,bH [46] .none (i+sp.length) (i+sp.length+1)] M1 Q' E:=λQ' h=>x9 (n:=n+7) hk (w:=[46]) (by decide) I1 hz h
  have c2:CT (n+13) (.ref 1100) [.ref rd,bH [46] .none (i+sp.length) (i+sp.length+1)] M1 (λ_ M2=>RV rd lx fl tb rw di kf T0 M0 s T (i+sp.length+1) ({f with sta:=1,tail:=f.tail}::fs) M2) E:=Kb (n:=n+11) I1 hw ht hs λM' I'=>I'
  have go2:=λM2 h=>go M2 ρ1 h h1
  clear go;refine aU (by
   clear c2 go2 I I1 hat hw ht hs;(
   conv=>whnf
   refine ac ?_;refine aK ?_
   conv=>whnf
   refine ac ?_
   conv=>whnf
   simp only[*]
   conv=>whnf);exact c1 _ ⟨rfl,rfl⟩) ?_
  refine bV (by
   clear c1 c2 go2 I I1 hat hw ht hs;(
   conv=>whnf
   refine ac ?_
   conv=>whnf
   simp only[decide_true,and_true, *])) ?_
  clear c1 I I1 hat hw ht hs
  conv=>whnf
  refine ac ?_
  conv=>whnf
  refine aK ?_
  conv=>whnf
  refine ac ?_
  conv=>whnf
  simp only[*]
  conv=>whnf
  exact ch c2 (λr M2 h=>go2 M2 h) λ_ _ h=>h
end
theorem Kw{T:au}(O:dP kf T){v:V}(h:DD T 10 v t g):g=TV->∀r:List Nat,(t++r).head?≠TR 64:=by
 have num:∀(x:Int) (r:List Nat),(nt 10 x++r).head?≠TR 64:=λx r=>by
  obtain⟨c,q,h1,h2⟩:=rA (x:=x);refine(h1).symm▸?_;rcases h2 with h|⟨rfl,-⟩
  ·intro e;simp at e;rw[e]at h;revert h;decide
  ·simp
 cases h with
 |spc|odd=>intro h;exact bf h
 |@sym a k _ i h ha hl=>
  intro hg r;unfold fM at hg;simp only[Uq,decide_eq_true_eq]at hg;obtain⟨rfl,h1,h2⟩:=hg;have hn:t∈ew:=O.sub _ (UR h) rfl;obtain⟨-,-,a6,-⟩:=yl t hn ⟨h1,h2⟩;obtain⟨-,-,a5⟩:=of_decide_eq_true (ym t hn ⟨h1,h2⟩);cases t with
  |nil=>exact absurd rfl a6
  |cons c t=>simpa using a5
 |rat=>intro _ r;simp only[Uu];exact num _ _
 |int=>intro _ r;exact num _ _
 |bool b=>intro _ r;induction b<;>simp
 |emp=>simp
 |chr=>intro _ r;unfold dY;simp
 |txt=>simp
 |vec=>simp
 |quo hp=>intro _ r;simp only[QL,Uk,Um,or_false]at hp;rcases hp with rfl|rfl|rfl|rfl<;>simp
 |two=>simp
 |dot=>simp
theorem Kx{d b:Nat}(hd:d<40)(hb:b=2\/b=3\/b=6):WF (1+6*((d:Int)-20)).natAbs b=1:=by
 have key:∀d:Nat,d<40->∀b∈([2,3,6]:List Nat),WF (1+6*((d:Int)-20)).natAbs b=1:=by decide
 exact key d hd b (by simpa using hb)
def Rd(n:Nat)(Q:PQ)(E:PE)(rd lx fl tb rw di:TX)(kf:Nat)(T0:au)(M0:aa)(s:List Nat)(T1:au)(v:V)(t:List Nat):Prop:=∀{T i fs M ρ sp rest},RV rd lx fl tb rw di kf T0 M0 s T i fs M->aE T1 T->(sp=[]\/sp=[32])->At s i (sp++(t++rest))->dR rest->fs.length+t.length<200->aak ρ 57=TR (.ref rd)->cG fs->cB n Q E rd lx fl tb rw di kf T0 M0 s T (i+sp.length+t.length) fs v->LD n Q E ρ M
section
variable{rd lx fl tb rw di:TX}{kf:Nat}{T0:au}{M0:aa}{s:List Nat}
theorem jG:dR (32::r):=.inr ⟨32,r,rfl,.inl rfl⟩
theorem rC:dR (41::r):=.inr ⟨41,r,rfl,.inr rfl⟩
theorem At.to(h:At s i t)(e:i=j)(e':t=t'):At s j t':=e▸e'▸h
theorem Ky{l:List Nat}:aY (aW a k l)=TV:=rfl
theorem eT:fq≠cN:=by decide
theorem nH:g9≠cN:=by decide
theorem Kz(hk:kf<=100){T1:au}{v:V}{t:List Nat}{g:Bool}(h:DD T1 10 v t g):g=TV->Rd n Q E rd lx fl tb rw di kf T0 M0 s T1 v t:=by
 induction h with
 |spc|odd=>intro h;exact bf h
 |@sym a k l i h ha hl=>intro hg;unfold fM at hg;simp only[Uq,decide_eq_true_eq]at hg;obtain⟨rfl,h1,h2⟩:=hg;intro T i fs M ρ sp rest I e K7 hat hr hz K3 hq D;exact yn hk (by exact ab [_,_] ad az (aI.a N1) az hz rfl) hq I K3 K7 hat hr (e.at h) h1 h2 D
 |rat hd hb=>intro hg T i fs M ρ sp rest I e K7 hat hr hz K3 hq D;exact Kr hk (by exact ab [_,_] ad az (aI.a N1) az hz rfl) hq I K3 K7 hat hr (by exact ai [_,_] ad bd X0 ((Ar.m 6 X1).a (Ar.n 121)) (Ar.m 6 ay) (Ar.m 6 (Ar.n 40)) kZ (mK 6 hd) rfl) (by lia) (by lia) (Kx hd hb) D
 |int h=>intro hg T i fs M ρ sp rest I e K7 hat hr hz K3 hq D;exact yk hk (by exact ab [_,_] ad az (aI.a N1) az hz rfl) hq I K3 K7 hat hr (by exact ab [_] ad bd ad (Ar.n 1000) h rfl) D
 |bool b=>
  intro hg T i fs M ρ sp rest I e K7 hat hr hz K3 hq D;refine Ks (rest:=rest) hk (by exact ab [_,_] ad az (aI.a N1) az hz rfl) hq I K3 K7 (hat.to rfl ?_) (D.at ?_)
  ·induction b<;>rfl
  ·induction b<;>rfl
 |emp=>
  intro hg T i fs M ρ sp rest I e K7 hat hr hz K3 hq D;refine nF (w:=[40]) (r:=41::rest) (.inl ⟨rfl,rfl⟩) (by exact ab [_] ad az ((X0.a ((N0.a N1).a N1)).a N1) az hz rfl) I K3 K7 (hat.to rfl (by rfl)) λM1 ρ1 fa la st I1 h1=>?_
  exact nG (sp:=[]) (r:=rest) hk (.inr ⟨rfl,.inl rfl,by exact VF _,rfl,rfl⟩) (by simp;simp at hz;exact Uy (by assumption)) hq I1 h1 (.inl rfl) (hat.skip.skip (w:=[40])|>.to rfl rfl) (D.at rfl)
 |@chr c h=>
  rcases h with rfl|rfl|rfl
  ·intro hg T i fs M ρ sp rest I e K7 hat hr hz K3 hq D;exact nE (x:=115) (w:=[112,97,99,101]) hk (by exact ab [_,_] ad az (aI.a N1) az hz rfl) hq I K3 K7 hat (by decide) hr (.inr (.inl ⟨rfl,rfl⟩)) (D.at rfl)
  ·intro hg T i fs M ρ sp rest I e K7 hat hr hz K3 hq D;exact nE (x:=110) (w:=[101,119,108,105,110,101]) hk (by exact ab [_,_] ad az (aI.a N1) az hz rfl) hq I K3 K7 hat (by decide) hr (.inr (.inr ⟨rfl,rfl⟩)) (D.at rfl)
  ·intro hg T i fs M ρ sp rest I e K7 hat hr hz K3 hq D;exact nE (x:=40) (w:=[]) hk (by exact ab [_,_] ad az (aI.a N1) az hz rfl) hq I K3 K7 hat (by decide) hr (.inl rfl) (D.at rfl)
 |txt=>intro hg T i fs M ρ sp rest I e K7 hat hr hz K3 hq D;exact Kt hk (by exact ab [_] ad az ((X0.a (((((N0.a N1).a N1).a N1).a N1).a N1)).a N1) az hz rfl) hq I K3 K7 hat (D.at rfl)
 |@vec x y t1 t2 g1 g2 d1 d2 i1 i2=>
  intro hg T i fs M ρ sp rest I e K7 hat hr hz K3 hq D;simp only[Uq]at hg;simp only[Ui,aau,Uc]at hz;refine nF (w:=[35,40]) (r:=t1++([32]++(t2++41::rest))) (.inr ⟨rfl,rfl⟩) (by exact ab [_,_,_] ad az ((X0.a ((((((N0.a N1).a N1).a X1).a (N0.a N1)).a X2).a (N0.a N1))).a N1) az hz rfl) I K3 K7 (hat.to rfl (congrArg (sp++ ·) jI)) λM1 ρ1 fa la st I1 h1=>?_
  have MJ:At s (i+sp.length+2) (t1++([32]++(t2++41::rest))):=(hat.skip (w:=sp)).to rfl jI|>.skip;have Ln:At s (i+sp.length+2+t1.length) ([32]++(t2++41::rest)):=MJ.skip;have MX:At s (i+sp.length+2+t1.length+1+t2.length) (41::rest):=Ln.skip.skip;refine i1 hg.1 (sp:=[]) (rest:=[32]++(t2++41::rest)) I1 e (.inl rfl) MJ jG (by exact ab [_,_,_] ((ad.a X1).a N1) az ((X0.a ((((((N0.a N1).a N1).a X1).a (N0.a N1)).a X2).a (N0.a N1))).a N1) az hz rfl) h1 (hq.fr nH) (.frame nH (.inl rfl) (by exact VF _) λT2 M2 Lg e2 h2 I2=>?_);refine i2 hg.2 (sp:=[32]) (rest:=41::rest) I2 (e.trans e2) (.inr rfl) (Ln.to rfl rfl) rC (by exact ab [_,_,_] ((ad.a X1).a N1) az ((X0.a ((((((N0.a N1).a N1).a X2).a (N0.a N1)).a X1).a (N0.a N1))).a N1) az hz rfl) h2 (hq.fr nH) (.frame nH (.inl rfl) (by exact TY _) λT3 M3 LE e3 h3 I3=>?_);exact nG (sp:=[]) (r:=rest) hk (.inl ⟨rfl,rfl,rfl⟩) (by exact ab [_,_,_] (ad.a N1) az ((X0.a ((((((N0.a N1).a N1).a X1).a (N0.a N1)).a X2).a (N0.a N1))).a N1) az hz rfl) hq I3 h3 (.inl rfl) (MX.to rfl rfl) ((D.ext (e2.trans e3)).at (by simp;lia))
 |@quo p a k x t g hp h ha d i1=>
  intro hg T i fs M ρ sp rest I e K7 hat hr hz K3 hq D;rw[Ui]at hz;have z1:=(g8 p hp).2.1;refine Ku (r:=t++rest) hp hk (by exact ab [_,_,_] ad az ((X0.a cu).a N1) az hz rfl) I K3 K7 (hat.to rfl (congrArg (sp++ ·) (Uu _ _ _))) (Kw (I.g.ok) (d.ext e) hg rest) λT2 M1 ρ1 fa la st a' k' I1 e1 Lc h1=>?_
  obtain⟨rfl,rfl⟩:=I1.g.ok.one ((e.trans e1).at h) Lc;refine i1 hg (sp:=[]) (rest:=rest) I1 (e.trans e1) (.inl rfl) ((hat.to rfl (congrArg (sp++ ·) (Uu _ _ _))).skip.skip) hr (by exact ai [_,_,_] ((ad.a X1).a N1) az ((X0.a (X2.a X1)).a N1) az N1 X2 hz z1 rfl) h1 (hq.quo rfl Ky) (.quo rfl rfl ((D.ext e1).at (by exact UM (ab [_,_,_,_,_] (aI.a X2) (((aI.a X3).a N0).a X4) X2 (X3.a X4) aL rfl) (ab [_,_,_,_,_] (((aI.a X2).a N0).a X3) (aI.a X4) (X2.a X3) X4 aR rfl))))
 |@two p a k x y t1 t2 g1 g2 hp h ha d1 d2 i1 i2=>
  intro hg T i fs M ρ sp rest I e K7 hat hr hz K3 hq D;simp only[Uq]at hg;simp only[Ui,aau,Uc]at hz;have MI:=(g8 p hp).1;unfold fM at MI;simp only[Uq,decide_eq_true_eq,true_and]at MI;have Pl:At s (i+sp.length) ([40]++(p.2++([32]++(t1++([32]++(t2++41::rest)))))):=hat.skip.to rfl rN;have MJ:=Pl.skip;have Ln:=MJ.skip;have MX:=Ln.skip.skip;have Ou:=MX.skip.skip;refine nF (w:=[40]) (r:=(p.2++([32]++(t1++([32]++(t2++41::rest)))))) (.inl ⟨rfl,rfl⟩) (by exact ab [_,_,_,_] ad az ((X0.a (((((((N0.a N1).a X1).a (N0.a N1)).a X2).a (N0.a N1)).a X3).a (N0.a N1))).a N1) az hz rfl) I K3 K7 (hat.to rfl (congrArg (sp++ ·) rN)) λM1 ρ1 fa la st I1 h1=>?_
  refine yn (sp:=[]) hk (by exact ab [_,_,_,_] (ad.a N1) az ((X0.a (((((((N0.a N1).a X1).a (N0.a N1)).a X2).a (N0.a N1)).a X3).a (N0.a N1))).a N1) az hz rfl) (hq.fr eT) I1 h1 (.inl rfl) MJ jG (e.at h) MI.1 MI.2 (.frame eT (.inl rfl) (by exact VF _) λT2 M2 Lg e2 h2 I2=>?_);refine i1 hg.1 (sp:=[32]) I2 (e.trans e2) (.inr rfl) Ln jG (by exact ab [_,_,_,_] ((ad.a X1).a N1) az ((X0.a (((((((N0.a N1).a X2).a (N0.a N1)).a X1).a (N0.a N1)).a X3).a (N0.a N1))).a N1) az hz rfl) h2 (hq.fr eT) (.frame eT (.inl rfl) (by exact TY _) λT3 M3 LE e3 h3 I3=>?_);refine i2 hg.2 (sp:=[32]) (rest:=41::rest) I3 (e.trans (e2.trans e3)) (.inr rfl) MX rC (by exact ab [_,_,_,_] ((ad.a X1).a N1) az ((X0.a (((((((N0.a N1).a X2).a (N0.a N1)).a X3).a (N0.a N1)).a X1).a (N0.a N1))).a N1) az hz rfl) h3 (hq.fr eT) (.frame eT (.inl rfl) (by simp) λT4 M4 O8 e4 h4 I4=>?_);exact nG (sp:=[]) (r:=rest) hk (.inr ⟨rfl,.inl rfl,by simp,rfl,rfl⟩) (by exact ab [_,_,_,_] (ad.a N1) az ((X0.a (((((((N0.a N1).a X1).a (N0.a N1)).a X2).a (N0.a N1)).a X3).a (N0.a N1))).a N1) az hz rfl) hq I4 h4 (.inl rfl) Ou ((D.ext (e2.trans (e3.trans e4))).at (by simp;lia))
 |@dot x t g d i1=>
  intro hg T i fs M ρ sp rest I e K7 hat hr hz K3 hq D;simp only[Ui,aau,Uc]at hz;have Pl:At s (i+sp.length) ([40]++(t++([32]++(nt 10 5++([32]++([46]++([32]++([35,92,65]++41::rest)))))))):=hat.skip.to rfl jI;have MJ:=Pl.skip;have Ln:=MJ.skip;have MX:=Ln.skip.skip;have Ou:=MX.skip.skip;have S9:=Ou.skip.skip;refine nF (w:=[40]) (r:=(t++([32]++(nt 10 5++([32]++([46]++([32]++([35,92,65]++41::rest)))))))) (.inl ⟨rfl,rfl⟩) (by exact ab [_,_,_] ad az ((X0.a (((((N0.a N1).a X1).a (N0.a N1)).a X2).a (((((((N0.a N1).a N1).a N1).a N1).a N1).a N1).a N1))).a N1) az hz rfl) I K3 K7 (hat.to rfl (congrArg (sp++ ·) jI)) λM1 ρ1 fa la st I1 h1=>?_
  refine i1 hg (sp:=[]) I1 e (.inl rfl) MJ jG (by exact ab [_,_,_] ((ad.a X1).a N1) az ((X0.a (((((N0.a N1).a X1).a (N0.a N1)).a X2).a (((((((N0.a N1).a N1).a N1).a N1).a N1).a N1).a N1))).a N1) az hz rfl) h1 (hq.fr eT) (.frame eT (.inl rfl) (by exact VF _) λT3 M3 LE e3 h3 I3=>?_);refine yk (sp:=[32]) hk (by exact ab [_,_,_] (ad.a N1) az ((X0.a (((((N0.a N1).a X1).a (N0.a N1)).a X2).a (((((((N0.a N1).a N1).a N1).a N1).a N1).a N1).a N1))).a N1) az hz rfl) (hq.fr eT) I3 h3 (.inr rfl) Ln jG (by decide) (.frame eT (.inl rfl) (by exact TY _) λT4 M4 O8 e4 h4 I4=>?_);refine Kv (sp:=[32]) (r:=[32]++([35,92,65]++41::rest)) hk rfl rfl rfl (by exact ab [_,_,_] (ad.a N1) az ((X0.a (((((N0.a N1).a X1).a (N0.a N1)).a X2).a (((((((N0.a N1).a N1).a N1).a N1).a N1).a N1).a N1))).a N1) az hz rfl) I4 h4 (.inr rfl) MX jG λM5 Op I5 h5=>?_
  refine nE (sp:=[32]) (x:=65) (w:=[]) (rest:=41::rest) hk (by exact ab [_,_,_] (ad.a N1) az ((X0.a (((((N0.a N1).a X1).a (N0.a N1)).a X2).a (((((((N0.a N1).a N1).a N1).a N1).a N1).a N1).a N1))).a N1) az hz rfl) (hq.fr eT) I5 h5 (.inr rfl) Ou (by decide) rC (.inl rfl) (.frame eT (.inr rfl) (by simp) λT6 M6 SV e6 h6 I6=>?_);exact nG (sp:=[]) (r:=rest) hk (.inr ⟨rfl,.inr rfl,by simp,rfl,rfl⟩) (by exact ab [_,_,_] (ad.a N1) az ((X0.a (((((N0.a N1).a X1).a (N0.a N1)).a X2).a (((((((N0.a N1).a N1).a N1).a N1).a N1).a N1).a N1))).a N1) az hz rfl) hq I6 h6 (.inl rfl) S9 ((D.ext (e3.trans (e4.trans e6))).at (by simp;lia))
end
end
section
variable[HasP]
variable{n:Nat}{Q:PQ}{E:PE}
section
variable{rd lx fl tb rw di:TX}{kf:Nat}{T:au}{M:aa}{s:List Nat}{i:Nat}
noncomputable abbrev iJ(lx tb fl:TX):be:=.inst 1124 [(124,.ref lx),(101,.ref tb),(170,.ref fl)]
theorem yo(G:TG tb rw di kf T M)(hr:aak M rd=TR (iJ lx tb fl0))(L:LX lx s i M)(go:∀fl M1 ρ,RV rd lx fl tb rw di kf T M s T i [] M1->aak M fl=TW->aak ρ 57=TR (.ref rd)->LD n Q E ρ M1):CT (n+14) (.ref 1072) [.ref rd] M Q E:=by
 refine b6 GA (ks:=[57]) ?_;have hl:=L.h;have p1:rd≠lx:=bX hr hl (by unfold bj;simp);have p2:rd≠rw:=bX hr G.rows (by simp);have p3:rd≠di:=bX hr G.dict (by simp);have p4:rd≠tb:=bX hr G.tbl (by simp);have fin:∀fl,aak M fl=TW->LD n Q E [(57,.ref rd)] (ag ((fl,.list [])::M) rd (iJ lx tb fl)):=λfl Li=>by
  have f1:∀{x o},aak M x=TR o->fl≠x:=λh e=>by rw[<-e,Li]at h;exact nn h
  have get:∀{x o},x≠rd->aak M x=TR o->aak (ag ((fl,be.list [])::M) rd (iJ lx tb fl)) x=TR o:=λhx h=>by rw[ak,if_neg (Uf hx),ci,if_neg (f1 h)];exact h
  refine go fl _ _ ⟨⟨get (Uf p4) G.tbl,get (Uf p2) G.rows,get (Uf p3) G.dict,G.ok⟩,.refl,λx o hx h=>?_,by rw[ak,if_pos rfl],⟨get (Uf p1) L.h,L.z⟩,?_,λf hf=>(by cases hf),(by simp),(by simp),f1 G.rows,λf hf=>(by cases hf),(by simp)⟩ Li rfl
  ·exact get (λe=>hx (by rw[e];simp)) h
  ·rw[ak,if_neg (Uf (f1 hr)),ci,if_pos rfl];rfl
 clear go L hl;refine av ?_;refine .inr λfl Li=>?_
 have fin:=fin fl Li.lkp;have f1:fl≠rd:=λe=>by have:=Li.lkp;rw[e,hr]at this;exact ns this
 simp only[dJ,gy,f1,reduceIte]at fin;clear Li;refine aV ?_;simp only[fJ,UH,aau,Uc,ne_eq,not_false_eq_true, *];exact Kj fin
theorem KA{v:V}(hk:kf<=100)(D:DD T 10 v t TV)(ht:t.length<200)(G:TG tb rw di kf T M)(hr:aak M rd=TR (iJ lx tb fl0))(L:LX lx s i M)(hat:At s i t)(q:∀T' M' fl,TG tb rw di kf T' M'->aE T T'->Kp [rw,di,rd,lx] M M'->LX lx s (i+t.length) M'->aak M' rd=TR (iJ lx tb fl)->Q v M'):CT (n+14) (.ref 1072) [.ref rd] M Q E:=by
 refine yo G hr L λfl M1 ρ I hf K3=>?_
 refine Kz hk D rfl (sp:=[]) (rest:=[]) I .refl (.inl rfl) (by simpa using hat) (.inl rfl) (by simpa using ht) K3 (λf hf=>by cases hf) ⟨λ_ T' M' e I'=>?_,λg gs h=>by cases h⟩;refine q T' M' fl I'.g I'.e (λx o hx h=>I'.k x o (λhm=>?_) h) I'.l I'.r;simp only[Uk,Um,or_false]at hm hx;rcases hm with h1|h1|h1|h1|h1
 ·exact hx (.inl h1)
 ·exact hx (.inr (.inl h1))
 ·exact hx (.inr (.inr (.inl h1)))
 ·exact hx (.inr (.inr (.inr h1)))
 ·rw[h1,hf]at h;exact nn h
theorem KB(G:TG tb rw di kf T M)(hr:aak M rd=TR (iJ lx tb fl0))(L:LX lx s i M)(hat:At s i [])(q:∀M',TG tb rw di kf T M'->Kp [rd,lx] M M'->Q kG M'):CT (n+14) (.ref 1072) [.ref rd] M Q E:=by
 refine yo G hr L λfl M1 ρ I hf K3=>?_
 refine yf ?_;unfold nA;have Ph:=I.r;have Tb:=I.f;have Ly:=I.l.h;unfold bj at Ly;have q':=λM' (I':RV rd lx fl tb rw di kf T M s T s.length [] M')=>q M' I'.g (λx o hx h=>by
  by_cases hm:x∈[rw,di,rd,lx,fl]
  case neg=>exact I'.k x o hm h
  simp only[Uk,Um,or_false]at hm hx;rcases hm with h1|h1|h1|h1|h1
  ·rw[h1,G.rows]at h;obtain rfl:=TU h;rw[h1];exact I'.g.rows
  ·rw[h1,G.dict]at h;obtain rfl:=TU h;rw[h1];exact I'.g.dict
  ·exact absurd (.inl h1) hx
  ·exact absurd (.inr h1) hx
  ·rw[h1,hf]at h;exact nn h)
 have c1:CT (n+13) (.ref 966) [.ref lx] M1 (λr M1=>r=bH [101,110,100] .none s.length s.length/\RV rd lx fl tb rw di kf T M s T s.length [] M1) E:=J7 (n:=n) I.l (.inl rfl) hat λM' L' k=>⟨rfl,I.lex L' k⟩
 clear q I G hr L hat;refine av ?_;refine ac ?_;refine ah ?_;refine aK ?_;refine bG ?_;refine ch c1 (λr M2 h=>?_) λ_ _ h=>h
 obtain⟨rfl,I1⟩:=h;have fin:=q' M2 I1;have OI:=I1.r;have Nd:=I1.f;have e0:ba ([]:List Fr)=[]:=rfl;rw[e0]at Nd;clear q' I1 c1 Ly Ph Tb;refine bV (by
  conv=>whnf
  simp only[ak,reduceIte, *]
  conv=>whnf
  simp only[decide_true,and_true, *]) ?_
 refine bM ?_;refine ah ?_;simp only[*];refine .inl ?_;refine a0 (o:=bA _ _ _ _) (by simp only[Uc,reduceIte,bT,cj,bA,cn, *]<;>rfl) ?_;exact fin
theorem KE{T:au}{v:V}(D:DD T R v t g)(hg:g=TV):c6 v kG=TR TT:=by
 induction D with
 |@sym a k l i h ha hl=>show TR (decide (a=53))=TR TT;rw[decide_eq_false (by exact UO (ab [_] ((Ar.n 53).a N1) X0 ((Ar.n 53).a N1) X0 ha rfl))]
 |spc|odd=>exact bf hg
 |_=>rfl
theorem KH(hk:kf<=100)(D:DD T 10 w t TV)(ht:t.length<200)(G:TG tb rw di kf T M)(q:∀T' M',TG tb rw di kf T' M'->aE T T'->Kp [rw,di] M M'->Q w M'):CT (n+15) (.ref 1136) [.str t,.ref tb] M Q E:=by
 refine b6 GE (ks:=[88,101,235,223]) ?_;refine av ?_;refine bG ?_
 conv=>whnf
 refine HQ λrd lx fl M1 h1 h2 h3 k1 z1 z2 z3=>?_
 have c1:CT (n+14) (.ref 1072) [.ref rd] M1 (λr M2=>r=w/\∃LT T',TG tb rw di kf T' M2/\aE T T'/\Kp [rw,di,rd,lx] M1 M2/\LX lx t t.length M2/\aak M2 rd=TR (iJ lx tb LT)) E:=KA (fl0:=fl) (i:=0) hk D ht (G.keep k1 (by simp) (by simp) (by simp)) h1 ⟨h2,by exact Uy (by assumption)⟩ ⟨rfl,by exact aw [_] N0 X0 rfl⟩ λT' M' LT G' e' k' L' r'=>⟨rfl,LT,T',G',e',k',by simpa using L',r'⟩
 have ne:=KE D rfl;clear D h2 h3;refine av ?_
 conv=>whnf
 refine aK ?_;refine bG ?_
 conv=>whnf
 refine ch c1 (λr M2 h=>?_) λ_ _ h=>h
 have e0:=h.1;refine aX h.2 λTM T2 KY=>?_
 have G2:=KY.1;have e2:=KY.2.1;have k2:=KY.2.2.1;have L2:=KY.2.2.2.1;have r2:=KY.2.2.2.2;refine(e0).symm▸?_;clear c1 h1;refine aU (by
  conv=>whnf
  refine ac ?_
  conv=>whnf
  simp only[and_true, *]) ?_
 refine av ?_;have cp:∀Q':PQ,Q' (.int t.length) M2->CT (n+14) (.ref 1065) [.ref rd] M2 Q' E:=λQ' h=>by refine b6 Gz (ks:=[57]) ?_;have hl:=L2.h;unfold bj at hl;refine av ?_;refine ah ?_;refine ah ?_;exact h
 have fin:CT (n+14) (.ref 1072) [.ref rd] M2 (λr M3=>r=kG/\Q w M3) E:=by
  refine KB (s:=t) G2 r2 L2 ⟨by simp,by exact UE _⟩ λM3 G3 k3=>⟨rfl,q T2 M3 G3 e2 λx o hx h=>?_⟩
  have n1:x≠rd:=λe=>by rw[e,z1]at h;exact nn h
  have n2:x≠lx:=λe=>by rw[e,z2]at h;exact nn h
  simp only[Uk,Um,or_false,not_or]at hx;exact k3 x o (by simp[n1,n2]) (k2 x o (by simp[n1,n2,hx]) (k1 x o (by simp) h))
 clear q G L2
 conv=>whnf
 refine aK ?_;refine bG ?_
 conv=>whnf
 refine cp _ ?_;refine av ?_;have ee:c6 kG kG=TR TV:=rfl
 conv=>whnf
 refine aK ?_;refine bG ?_
 conv=>whnf
 refine ch fin (λr M3 h=>?_) λ_ _ h=>h
 have KZ:=h;have KY:=KZ.1;subst KY;have h:=KZ.2
 conv=>whnf
 refine av ?_;exact h
end
end
section
variable[HasP]
variable{n:Nat}{M:aa}{Q:PQ}{E:PE}
theorem KI{ns:List Int}(hz:ns.length<=63)(q:∀dk M',aak M dk=TW->ez dk M'->Kp [] M M'->Q (.ref dk) M'):CT (n+2) (.ref 1281) [.arg (ns.map V.int),.int 40] M Q E:=by
 refine b6 GS (ks:=[173,86]) ?_;refine av ?_;have z:(ns.map V.int).length<=Ub:=ar (by first|lia|(simp only[Ui,aau,Uc];lia)|(simp;lia));have z4:(ns.take 40).length<=40:=by simp;lia
 have z5:((ns.take 40).filter λi=>decide (i<0)).length<=40:=UI (List.length_filter_le _ _) z4;have e1:(ns.map V.int).take (YM 40)=(ns.take 40).map V.int:=List.map_take.symm;have fin:∀dk,dz dk M->Q (.ref dk) ((dk,.list [.lst ((ns.take 40).map λi=>.int (i.natAbs:Nat)),.int 0,.int (977+(((ns.take 40).filter λi=>decide (i<0)).map V.int).length)])::M):=λdk hd=>by
  refine q dk _ hd.lkp ⟨(ns.take 40).map Int.natAbs,0,977+((ns.take 40).filter λi=>decide (i<0)).length,?_,by simp;lia,by exact ab [_] (((Ar.n 977).a X0).a N1) (Ar.n 4294967296) X0 (Ar.n 40) z5 rfl⟩ ?_
  ·rw[kH,U8,UK];rfl
  ·exact Kp.push hd.lkp
 clear q;refine⟨rfl,by decide,z,?_⟩;rw[e1];refine⟨(ns.take 40).map λi=>.int (i.natAbs:Nat),mR λi _=>?_,ar (by simp;lia),rfl,by decide,z,?_⟩
 ·intro M;exact(cg (by exact TY _) 60).x ⟨rfl,rfl⟩
 rw[e1];refine⟨((ns.take 40).filter λi=>decide (i<0)).map V.int,wO (λi _=>?_) λi _ _=>?_,ar (by simp;lia),?_⟩
 ·intro M;exact(cg (by exact TY _) 60).t ⟨rfl,rfl⟩
 ·intro M;exact(cg (by exact TY _) 60).x ⟨rfl,rfl⟩
 exact⟨by simp;lia,.inr fin⟩
structure LL(dk tb rw di pl:TX)(kf R:Nat)(T:au)(ps:List V)(M:aa):Prop where
 i:LI dk tb rw di kf T M
 p:aak M pl=TR (.list ps)
 n1:pl≠dk
 n2:pl≠rw
 ok:jC T R ps
structure LR(dk tb pl:TX)(R:Nat)(ρ:af):Prop where
 d:aak ρ 59=TR (.ref dk)
 t:aak ρ 101=TR (.ref tb)
 p:aak ρ 67=TR (.ref pl)
 r:aak ρ 140=TR (.int R)
section
variable{dk tb rw di pl:TX}{kf R:Nat}{T:au}{ps:List V}
theorem LR.put(L:LR dk tb pl R ρ){v:V}(h:k∉[59,101,67,140]):LR dk tb pl R (ag ρ k v):=by simp only[Uk,Um,or_false,not_or]at h;obtain⟨a,b,c,d⟩:=h;exact⟨by rw[ak,if_neg a];exact L.d,by rw[ak,if_neg b];exact L.t,by rw[ak,if_neg c];exact L.p,by rw[ak,if_neg d];exact L.r⟩
theorem LL.n3(L:LL dk tb rw di pl kf R T ps M):pl≠di/\pl≠tb:=⟨bX L.p L.i.g.dict (by simp),bX L.p L.i.g.tbl (by simp)⟩
theorem LL.keep(L:LL dk tb rw di pl kf R T ps M)(I:LI dk tb rw di LF T' M')(e:aE T T')(k:Kp [dk,rw,di] M M'):LL dk tb rw di pl LF R T' ps M':=⟨I,k _ _ (by simp[L.n1,L.n2,L.n3.1]) L.p,L.n1,L.n2,L.ok.ext e⟩
theorem LL.tell(L:LL dk tb rw di pl kf R T ps M)(G:TG tb rw di kf T' M')(e:aE T T')(k:Kp [rw,di] M M'):LL dk tb rw di pl kf R T' ps M':=L.keep (L.i.grow G k) e (k.mono (by simp))
theorem LL.draw(L:LL dk tb rw di pl kf R T ps M)(D:ez dk M')(k:Kp [dk] M M'):LL dk tb rw di pl kf R T ps M':=L.keep (L.i.draw D k) .refl (k.mono (by simp))
theorem LL.add{v:V}(L:LL dk tb rw di pl kf R T ps M)(hd:DD T R v t g)(ht:t.length<=90):LL dk tb rw di pl kf R T (ps++[cM v t g]) (ag M pl (.list (ps++[cM v t g]))):=by
 have k:Kp [pl] M (ag M pl (.list (ps++[cM v t g]))):=Kp.put (.head _);have n3:=L.n3;refine⟨⟨L.i.d.keep k (by simp[Uf L.n1]),L.i.g.keep k (by simp[Uf n3.2]) (by simp[Uf L.n2]) (by simp[Uf n3.1]),L.i.n1⟩,by rw[ak,if_pos rfl],L.n1,L.n2,λx hx=>?_⟩;rcases List.mem_append.mp hx with h|h
 ·exact L.ok x h
 ·rw[List.mem_singleton.mp h];exact⟨v,t,g,rfl,hd,ht⟩
noncomputable def rD:List XS:=[.expr (.meth (.loc 67) 146 [(.call (.cst (.ref 1316)) [(.loc 59),(.loc 67),(.loc 101),(.loc 140)])]),.ite (.cmp .Eq (.call (.cst (.ref 1269)) [(.loc 59),(.cst (.int 4))]) (.cst (.int 0))) [.expr (.meth (.loc 67) 146 [(.call (.cst (.ref 1309)) [(.loc 59),(.loc 101),(.loc 140)])])] []]
theorem yp{K:PK}(hr:2<=R)(K4:R<=16):∀(items:List V) (kf:Nat) (T:au) (ps:List V) (M:aa) (ρ:af),LL dk tb rw di pl kf R T ps M->ps≠[]->kf+items.length<=50->ps.length+2*items.length<=50->LR dk tb pl R ρ->(∀LF T' Mz M' ρ',LL dk tb rw di pl LF R T' Mz M'->Mz≠[]->LF<=50->Mz.length<=50->LR dk tb pl R ρ'->K .next ρ' M')->Fo (n+15) (e8 72) rD K E items ρ M
 | [],kf,T,ps,M,ρ,L,Lb,h1,h2,hl,q=>eq (q kf T ps M ρ L Lb (by simpa using h1) (by simpa using h2) hl)
 |x::r,kf,T,ps,M,ρ,L,Lb,h1,h2,hl,q=>by
  simp only[aau]at h1 h2;refine v9 (ρ1:=ag ρ 72 x) rfl ?_;have Ly:=hl.put (k:=72) (v:=x) (by decide);generalize ag ρ 72 x=ρ1 at Ly⊢;unfold rD;have QI:=Ly.d;have QJ:=Ly.t;have Pm:=Ly.p;have QK:=Ly.r;refine av ?_;have hp:=L.p;refine ac ?_;refine aN ?_;refine aO ?_;refine ac ?_;refine ac ?_;refine ac ?_;refine ac ?_;simp only[*];refine JO hr K4 L.i (by exact ab [_,_] X0 (Ar.n 100) (X0.a ay) (Ar.n 50) h1 rfl) hp L.n1 L.n2 L.ok Lb (by exact ab [_,_] X0 (Ar.n 100) aI (Ar.n 50) h2 rfl) λT1 M1 v t g I1 e1 k1 d1 z1=>?_
  have L1:=L.keep I1 e1 k1;clear hp;have hp:=L1.p;have zp:ps.length<=Ub:=ar (by exact ab [_,_] X0 am aI (Ar.n 50) h2 rfl);have L2:=L1.add d1 z1;have nx:∀LF T' Mz M',LL dk tb rw di pl LF R T' Mz M'->LF<=kf+1->Mz.length<=ps.length+2->Mz≠[]->Fo (n+15) (e8 72) rD K E r ρ1 M':=λLF T' Mz M' L' a1 a2 a3=>yp hr K4 r LF T' Mz M' ρ1 L' a3 (by exact ai [_,_,_] aI (Ar.n 50) X0 bC (X2.a ay) (Ar.n 50) a1 h1 rfl) (by exact ai [_,_,_] (X0.a (Ar.m 2 X1)) (Ar.n 50) (X2.a (Ar.m 2 ay)) (Ar.n 50) X0 (X2.a N2) h2 a2 rfl) Ly q
  clear q;refine aP ?_;refine⟨zp,?_⟩;generalize ag M1 pl (be.list (ps++[cM v t g]))=M2 at L2⊢;clear L1 hp I1 k1 e1 L;refine av ?_;have hp:=L2.p;refine ac ?_;simp only[*];refine gZ L2.i.d (many:=4) (by exact TY _) λd M3 hd D3 k3=>?_
  have L3:=L2.draw D3 k3;clear hp;have hp:=L3.p;by_cases e:d=0
  ·subst e;refine ac ?_;refine aN ?_;refine aO ?_;refine ac ?_;refine ac ?_;refine ac ?_;simp only[*];refine rf hr K4 L3.i (by exact ab [_,_] X0 (Ar.n 99) (X0.a ay) (Ar.n 50) h1 rfl) λT4 M4 v4 t4 g4 I4 e4 k4 d4 z4=>?_
   have L4:=L3.keep I4 e4 k4;have L5:=L4.add d4 z4;clear hp;have hp:=L4.p;have nx:=nx _ _ _ _ L5 (by exact UE _) (by simp) (by simp);have zp:(ps++[cM v t g]).length<=Ub:=ar (by exact ai [_,_,_] X0 am X0 (X1.a (N0.a N1)) cu (Ar.n 50) aL h2 rfl);refine aP ?_;refine⟨zp,?_⟩;exact iw nx
  ·have f:¬((d:Int)=0):=by exact cY (b:=0) (UO (ab [_] (N0.a N1) X0 (N0.a N1) X0 (UJ e) rfl))
   have nx:=nx _ _ _ _ L3 (by exact aw [_] X0 ad rfl) (by simp) (by simp);refine bv ?_;exact iw nx
end
end
section
variable[HasP]
variable{n:Nat}{M:aa}{Q:PQ}{E:PE}
section
variable{dk tb rw di pl:TX}{kf R:Nat}{T:au}{ps:List V}
structure CR(dk tb pl:TX)(R:Nat)(v:V)(t:List Nat)(g:Bool)(ρ:af):Prop where
 l:LR dk tb pl R ρ
 v:aak ρ 114=TR v
 t:aak ρ 88=TR (.str t)
 g:aak ρ 176=TR (.bool g)
theorem CR.put{v w:V}{t:List Nat}{g:Bool}{ρ:af}(C:CR dk tb pl R v t g ρ){k:Nat}(h:k∉[59,101,67,140,114,88,176]):CR dk tb pl R v t g (ag ρ k w):=by simp only[Uk,Um,or_false,not_or]at h;obtain⟨a,b,c,d,e,f,i⟩:=h;exact⟨C.l.put (by simp[a,b,c,d]),by rw[ak,if_neg e];exact C.v,by rw[ak,if_neg f];exact C.t,by rw[ak,if_neg i];exact C.g⟩
noncomputable abbrev nI(L:Nat):V:=.lst [.str [84,111,111,76,111,110,103],.lst [.int L],.int L]
noncomputable def gp:List XS:=[.asg 134 (.call (.cst (.bi "max")) [(.cst (.int 0)),(.bin .Sub (.bin .Add (.call (.cst (.bi "len")) [(.loc 88)]) (.call (.cst (.ref 1269)) [(.loc 59),(.cst (.int 5))])) (.cst (.int 2)))]),.asg 16 (.ite (.cmp .LtE (.call (.cst (.bi "len")) [(.loc 88)]) (.loc 134)) (.loc 88) (.lst [(.cst (.str [84,111,111,76,111,110,103])),(.lst [(.loc 134)]),(.loc 134)])),.ite (.bor [(.cmp .NotEq (.call (.cst (.ref 1323)) [(.loc 114),(.loc 140),(.loc 134),(.loc 101)]) (.loc 16)),(.cmp .NotEq (.call (.cst (.ref 1323)) [(.loc 114),(.loc 140),(.cst .none),(.loc 101)]) (.loc 88))]) [.ret (.cst (.bool TT))] [],.ite (.cmp .NotEq (.call (.cst (.ref 1257)) [(.loc 114),(.loc 101)]) (.loc 176)) [.ret (.cst (.bool TT))] [],.ite (.band [(.loc 176),(.cmp .Eq (.loc 140) (.cst (.int 10))),(.cmp .NotEq (.call (.cst (.ref 1242)) [(.call (.cst (.ref 1136)) [(.loc 88),(.loc 101)]),(.cst (.int 53)),(.cst (.int 10)),(.cst .none),(.loc 101)]) (.loc 88))]) [.ret (.cst (.bool TT))] []]
theorem yq{v:V}(hr:2<=R)(K4:R<=16)(hk:kf<=100)(D:DD T R v t g)(zt:t.length<=90)(O9:lim=.none\/∃L:Nat,lim=.int L)(G:TG tb rw di kf T M)(q:∀r T' M',TG tb rw di kf T' M'->aE T T'->Kp [rw,di] M M'->(lim=.none->r=.str t)->(∀L:Nat,lim=.int L->r=if t.length<=L then .str t else nI L)->Q r M'):CT (n+11) (.ref 1323) [v,.int R,lim,.ref tb] M Q E:=by
 refine aj (D.pr (kf:=kf)) λm KY=>?_
 refine JK (xK hr K4 hk (by exact ab [_] X0 am X0 (Ar.n 90) zt rfl) (by exact ai [_,_] X0 (Ar.n 8000) X0 (Ar.m 4 ay) (Ar.m 4 X1) (Ar.m 4 (Ar.n 90)) KY.1 (mK 4 zt) rfl) O9 G (λpc wt=>KY.2 lim tb pc wt) (λT' M' L G' e' k' hl hL=>?_) λT' M' G' e' k' hl=>?_)
 ·refine⟨_,_,_,rfl,rfl,rfl,rfl,rfl,rfl,q _ T' M' G' e' k' (λh=>by rw[h]at hl;cases hl) λL' h=>?_⟩;rw[hl]at h;have:L=L':=by have:=V.int.inj h;lia
  subst this;rw[if_neg (by exact Nat.not_le_of_lt (ab [_,_] ad X1 ad X1 hL rfl))]
 ·refine q _ T' M' G' e' k' (λ_=>rfl) λL h=>?_
  rcases hl with hl|⟨L',hl,hL⟩
  ·rw[hl]at h;cases h
  ·rw[hl]at h;have:L'=L:=by have:=V.int.inj h;lia
   subst this;refine(if_pos hL).symm▸?_;with_reducible rfl
noncomputable abbrev hG(t:List Nat)(lm:Nat):V:=if t.length<=lm then .str t else nI lm
theorem KJ{v:V}{K:PK}(hr:2<=R)(K4:R<=16)(hk:kf<=100)(D:DD T R v t g)(zt:t.length<=90)(L:LL dk tb rw di pl kf R T ps M)(C:CR dk tb pl R v t g ρ)(q:∀T' M',LL dk tb rw di pl kf R T' ps M'->aE T T'->K .next ρ M'):Ex (n+15) ρ M (gp.drop 3) K E:=by
 have Pn:=C.v;have QK:=C.l.r;have QJ:=C.l.t;have QM:=C.t;have TN:=C.g;unfold gp;simp only[WJ,UW];refine aj D.rd λm KY=>?_
 have hm:=KY.1;refine av ?_;have go:∀Q':PQ,(∀T' M',LL dk tb rw di pl kf R T' ps M'->aE T T'->Q' (.bool g) M')->CT (n+15) (.ref 1257) [v,.ref tb] M Q' E:=λQ' hQ=>Jy L.i.g hm (by exact ai [_,_] X0 (Ar.n 8000) X0 (Ar.m 8 ay) (Ar.m 8 X1) (Ar.m 8 (Ar.n 90)) KY.2 (mK 8 zt) rfl) λM' k=>hQ T M' (L.keep (L.i.keep k) .refl (k.mono (by exactλ_ h=>absurd h UX))) .refl
 refine ac ?_;refine ac ?_;simp only[*];refine go _ λT1 M1 L1 e1=>?_
 have D1:=D.ext e1;clear go;refine ac ?_;refine cA (b:=YA _) (by simp only[decide_true,UY, *]<;>rfl) ?_;refine av ?_;induction g with
 |false=>(
  refine ac ?_);exact iw (q T1 M1 L1 e1)
 |true=>
  by_cases e:R=10
  ·subst e;have rd:∀Q':PQ,(∀T' M',LL dk tb rw di pl kf 10 T' ps M'->aE T1 T'->Q' v M')->CT (n+15) (.ref 1136) [.str t,.ref tb] M1 Q' E:=λQ' hQ=>KH hk D1 (by exact ab [_] ad az X0 (Ar.n 90) zt rfl) L1.i.g λT' M' G' e' k'=>hQ T' M' (L1.tell G' e' k') e'
   clear hm L;have QN:(((10:Nat):Int)=10):=by decide
   refine ac ?_
   conv=>whnf
   refine ac ?_;refine ac ?_;refine ac ?_;simp only[*];refine rd _ λT2 M2 L2 e2=>?_
   have D2:=D1.ext e2;refine aj (D2.pr (kf:=kf)) λm2 KY=>?_
   have hP:=KY.2;have wr:∀Q':PQ,(∀T' M',LL dk tb rw di pl kf 10 T' ps M'->aE T2 T'->Q' (.str t) M')->CT (n+15) (.ref 1242) [v,.int 53,.int 10,.none,.ref tb] M2 Q' E:=λQ' hQ=>xK (n:=n+5) (R:=10) (by assumption) (by assumption) hk (by exact ab [_] X0 am X0 (Ar.n 90) zt rfl) (by exact ai [_,_] X0 (Ar.n 8000) X0 (Ar.m 4 ay) (Ar.m 4 X1) (Ar.m 4 (Ar.n 90)) KY.1 (mK 4 zt) rfl) (.inl rfl) L2.i.g (λpc wt=>hP .none tb pc wt) (λT' M' L' G' e' k' hl hL=>by cases hl) λT' M' G' e' k' hl=>hQ T' M' (L2.tell G' e' k') e'
   clear rd hP L1 D1 QN;refine ac ?_;refine wr _ λT3 M3 L3 e3=>?_
   clear wr;refine ac ?_;refine cA (b:=dA _ _) (by simp only[decide_true,UY, *]<;>rfl) ?_;refine cA (b:=YA _) (by simp only[decide_true,UY, *]<;>rfl) ?_;exact iw (q T3 M3 L3 (e1.trans (e2.trans e3)))
  ·have QN:¬((R:Int)=10):=by exact cY (b:=10) e
   refine ac ?_
   conv=>whnf
   refine ac ?_;refine bv ?_;refine bv ?_;exact iw (q T1 M1 L1 e1)
theorem KL{v:V}{t:List Nat}{g:Bool}{ρ:af}{lm:Nat}{K:PK}(hr:2<=R)(K4:R<=16)(hk:kf<=100)(D:DD T R v t g)(zt:t.length<=90)(L:LL dk tb rw di pl kf R T ps M)(C:CR dk tb pl R v t g ρ)(TO:aak ρ 134=TR (.int lm))(QO:aak ρ 16=TR (hG t lm))(q:∀T' M',LL dk tb rw di pl kf R T' ps M'->aE T T'->K .next ρ M'):Ex (n+15) ρ M (gp.drop 2) K E:=by
 have rest:∀T1 M1,LL dk tb rw di pl kf R T1 ps M1->aE T T1->Ex (n+15) ρ M1 (gp.drop 3) K E:=λT1 M1 L1 e1=>KJ hr K4 hk (D.ext e1) zt L1 C λT2 M2 L2 e2=>q T2 M2 L2 (e1.trans e2)
 have Pn:=C.v;have QK:=C.l.r;have QJ:=C.l.t;have QM:=C.t;have one:∀Q':PQ,(∀T' M',LL dk tb rw di pl kf R T' ps M'->aE T T'->Q' (hG t lm) M')->CT (n+15) (.ref 1323) [v,.int R,.int lm,.ref tb] M Q' E:=λQ' hQ=>yq (n:=n+4) hr K4 hk D zt (.inr ⟨lm,rfl⟩) L.i.g λr T' M' G' e' k' _ h=>by rw[h lm rfl];exact hQ T' M' (L.tell G' e' k') e'
 have two:∀T1 M1,LL dk tb rw di pl kf R T1 ps M1->aE T T1->∀Q':PQ,(∀T' M',LL dk tb rw di pl kf R T' ps M'->aE T1 T'->Q' (.str t) M')->CT (n+15) (.ref 1323) [v,.int R,.none,.ref tb] M1 Q' E:=λT1 M1 L1 e1 Q' hQ=>yq (n:=n+4) hr K4 hk (D.ext e1) zt (.inl rfl) L1.i.g λr T' M' G' e' k' h _=>by rw[h rfl];exact hQ T' M' (L1.tell G' e' k') e'
 clear q C D;unfold gp at rest⊢;simp only[WJ,UW]at rest⊢;refine av ?_;by_cases hc:t.length<=lm
 ·have ed:hG t lm=.str t:=if_pos hc;rw[ed]at one QO;clear ed hc;refine ac ?_;refine ac ?_;refine ac ?_;refine ac ?_;simp only[*];refine one _ λT1 M1 L1 e1=>?_
  have two:=two T1 M1 L1 e1;refine ac ?_;refine cA (b:=dA _ _) (by simp only[decide_true,UY, *]<;>rfl) ?_;refine ac ?_;refine ac ?_;refine ac ?_;simp only[*];refine two _ λT2 M2 L2 e2=>?_
  have rest:=rest T2 M2 L2 (e1.trans e2);clear one two;refine ac ?_;refine cA (b:=dA _ _) (by simp only[decide_true,UY, *]<;>rfl) ?_;exact rest
 ·have ed:hG t lm=nI lm:=if_neg hc;rw[ed]at one QO;clear ed hc;have ee:eo (eF 2) [.str [84,111,111,76,111,110,103],.lst [.int lm],.int lm] [.str [84,111,111,76,111,110,103],.lst [.int lm],.int lm]=TR TV:=by
   have i:∀d,eF d (.int lm) (.int lm)=TR TV:=λd=>by induction d<;>exact congrArg TR (decide_eq_true rfl)
   refine lW (congrArg TR (decide_eq_true rfl)) (lW (x:=.lst [.int lm]) (y:=.lst [.int lm]) ?_ (lW (i 2) (show eo (eF 2) [] []=TR TV from rfl)));have z:eo (eF 1) [.int lm] [.int lm]=TR TV:=lW (i 1) (show eo (eF 1) [] []=TR TV from rfl);show(if[V.int lm].length=[V.int lm].length then eo (eF 1) [.int lm] [.int lm]else TR TT)=TR TV;refine(if_pos rfl).symm▸?_;exact z
  refine ac ?_;refine ac ?_;refine ac ?_;refine ac ?_;simp only[*];refine one _ λT1 M1 L1 e1=>?_
  have two:=two T1 M1 L1 e1;refine ac ?_;refine cA (b:=dA _ _) (by simp only[decide_true, *]<;>rfl) ?_;refine ac ?_;refine ac ?_;refine ac ?_;simp only[*];refine two _ λT2 M2 L2 e2=>?_
  have rest:=rest T2 M2 L2 (e1.trans e2);clear one two;refine ac ?_;refine cA (b:=dA _ _) (by simp only[decide_true,UY, *]<;>rfl) ?_;exact rest
theorem KN{v:V}{K:PK}(hr:2<=R)(K4:R<=16)(hk:kf<=100)(D:DD T R v t g)(zt:t.length<=90)(L:LL dk tb rw di pl kf R T ps M)(C:CR dk tb pl R v t g ρ)(q:∀T' M' ρ',LL dk tb rw di pl kf R T' ps M'->aE T T'->LR dk tb pl R ρ'->K .next ρ' M'):Ex (n+15) ρ M gp K E:=by
 have rest:∀M1 lm,LL dk tb rw di pl kf R T ps M1->Ex (n+15) (ag (ag ρ 134 (.int (lm:Nat))) 16 (hG t lm)) M1 (gp.drop 2) K E:=λM1 lm L1=>
  have C2:=(C.put (k:=134) (w:=.int (lm:Nat)) (by decide)).put (k:=16) (w:=hG t lm) (by decide)
  KL (lm:=lm) hr K4 hk D zt L1 C2 (by exact(aS rfl).trans bw) (by exact bw) λT2 M2 L2 e2=>q T2 M2 _ L2 e2 C2.l
 clear q;unfold gp at rest⊢;simp only[WJ,UW]at rest;have QI:=C.l.d;have QM:=C.t;have Pp:t.length<2^63:=by exact ab [_] ad bd X0 (Ar.n 90) zt rfl
 refine av ?_;refine ac ?_;refine⟨Pp,?_⟩;refine ac ?_;refine gZ L.i.d (many:=5) (by exact TY _) λd M1 hd D1 k1=>?_
 have rest:=λlm=>rest M1 lm (L.draw D1 k1)
 conv=>whnf
 have em:max 0 ((t.length:Int)+(d:Int)-2)=((t.length+d-2:Nat):Int):=by lia
 refine(em).symm▸?_;have rest:=rest (t.length+d-2);generalize t.length+d-2=lm at rest⊢;clear em;refine av ?_;by_cases hc:t.length<=lm
 ·have Mq:((t.length:Int)<=(lm:Int)):=by exact dp (ab [_,_] X0 X1 X0 X1 hc rfl)
  rw[show hG t lm=.str t from if_pos hc]at rest;refine bM ?_;refine⟨Pp,?_⟩;refine ac (o:=aak _ 134) ?_;refine c9 ?_;refine bM ?_;exact rest
 ·have Mq:¬((t.length:Int)<=(lm:Int)):=by exact jH (ab [_,_] ad X1 ad X1 (Vn hc) rfl)
  rw[show hG t lm=nI lm from if_neg hc]at rest;refine bM ?_;refine⟨Pp,?_⟩;refine ac (o:=aak _ 134) ?_;refine bv ?_;refine ac (o:=aak _ 134) ?_;refine .inl ?_;refine ac (o:=aak _ 134) ?_;refine .inl ?_;exact rest
  first|done|exact trivial|exact .inl trivial|trace_state
theorem yr{K:PK}(hr:2<=R)(K4:R<=16)(hk:kf<=100):∀(items:List V) (T:au) (M:aa) (ρ:af),LL dk tb rw di pl kf R T ps M->jC T R items->LR dk tb pl R ρ->(∀T' M' ρ',LL dk tb rw di pl kf R T' ps M'->LR dk tb pl R ρ'->K .next ρ' M')->Fo (n+15) (gM [114,88,176]) gp K E items ρ M
 | [],T,M,ρ,L,ho,hl,q=>eq (q T M ρ L hl)
 |x::r,T,M,ρ,L,ho,hl,q=>by
  refine bO (ho x (.head _)) λv t g KY=>?_
  have K6:=KY.1;subst K6;refine v9 (ρ1:=ag (ag (ag ρ 114 v) 88 (.str t)) 176 (.bool g)) rfl ?_;exact KN hr K4 hk KY.2.1 KY.2.2 L ⟨((hl.put (by decide)).put (by decide)).put (by decide),by exact(aS rfl).trans ((aS rfl).trans bw),by exact(aS rfl).trans bw,by exact bw⟩ λT1 M1 ρ1 L1 e1 Ly=>
   yr hr K4 hk r T1 M1 ρ1 L1 (λy hy=>(ho.ext e1) y (.tail _ hy)) Ly q
noncomputable def yt:List XS:=[.asg 114 (.sub (.sub (.loc 67) (.cst (.int 0))) (.cst (.int 0))),.ret (.cmp .Eq (.call (.cst (.ref 1250)) [(.call (.cst (.ref 218)) [(.lst [(.call (.cst (.ref 176)) [(.cst (.int 97))]),(.call (.cst (.ref 197)) [(.lst [(.cst (.int 34))])]),(.loc 114)])])]) (.bin .Add (.bin .Add (.cst (.str [35,40,97,32,34,32])) (.call (.cst (.ref 1250)) [(.loc 114)])) (.cst (.str [41]))))]
theorem KO(hk:kf<=100)(L:LL dk tb rw di pl kf R T ps M)(Lb:ps≠[])(hl:LR dk tb pl R ρ)(q:∀M',Q (.bool TV) M'):Ex (n+15) ρ M yt (PK.ret Q) E:=by
 obtain⟨x,r,rfl⟩:∃x r,ps=x::r:=by induction ps with|nil=>exact absurd rfl Lb|cons x r=>exact⟨x,r,rfl⟩
 refine bO (L.ok x (.head _)) λv t g KY=>?_
 have K6:=KY.1;subst K6;have D:=KY.2.1;have zt:=KY.2.2;refine aX (D.disp (kf:=kf)) λm u KY=>?_
 have hm:=KY.1;have hu:=KY.2.1;have hP:=KY.2.2;have hp:=L.p;have Pm:=hl.p;unfold yt;refine av ?_;refine ac ?_;refine a0 (o:=bc _ _ _) (by simp only[bT,eK, *]<;>rfl) ?_;have one:∀Q':PQ,(∀T' M',TG tb rw di kf T' M'->aE T T'->Q' (.str ([35,40]++[97]++[32]++[34]++[32]++u++[41])) M')->CT (n+15) (.ref 1250) [bW [dC 97,fb [34],v]] M Q' E:=λQ' hQ=>
  xM (n:=n+5) (m:=1+1+m+11) hk (by exact bU [Ug (α:=Nat) ([35,40]++[97]++[32]++[34]++[32]++u++[41]),Ug (α:=Nat) (u),Ug (α:=Nat) (t)] X0 am X0 ((((((((N0.a N1).a N1).a (N0.a N1)).a (N0.a N1)).a (N0.a N1)).a (N0.a N1)).a X1).a (N0.a N1)) X1 (Ar.m 40 bC) (Ar.m 40 X2) (Ar.m 40 (Ar.n 90)) nN hu (mK 40 zt) rfl) (by exact ai [_,_] (((N1.a N1).a X0).a (Ar.n 11)) (Ar.n 8000) X0 (Ar.m 12 ay) (Ar.m 12 X1) (Ar.m 12 (Ar.n 90)) hm (mK 12 zt) rfl) L.i.g (λpc wt=>.vec3 (.atom (.chrD rfl (by decide)) (λ_=>rfl) (λ_=>rfl)) (.atom (.txtD (l:=[34]) rfl (by decide) (by decide)) (λ_=>rfl) (λ_=>rfl)) (hP pc wt)) λT' M' G' e' _=>hQ T' M' G' e'
 have two:∀T1 M1,TG tb rw di kf T1 M1->aE T T1->∀Q':PQ,(∀M',Q' (.str u) M')->CT (n+15) (.ref 1250) [v] M1 Q' E:=λT1 M1 G1 e1 Q' hQ=>
  xM (n:=n+5) hk (by exact ai [_,_] X0 am X0 (Ar.m 40 ay) (Ar.m 40 X1) (Ar.m 40 (Ar.n 90)) hu (mK 40 zt) rfl) (by exact ai [_,_] X0 (Ar.n 8000) X0 (Ar.m 12 ay) (Ar.m 12 X1) (Ar.m 12 (Ar.n 90)) hm (mK 12 zt) rfl) G1 (λpc wt=>(hP pc wt).ext e1) λT' M' G' e' _=>hQ M'
 refine av ?_;have Pn:aak (ag ρ 114 v) 114=TR v:=by exact bw
 generalize ag ρ 114 v=ρ1 at Pn⊢;clear hP D L hp Pm hl;have z1:6+u.length<=Ub:=ar (by exact ai [_,_] (N6.a X0) am X0 (Ar.m 40 ay) (Ar.m 40 X1) (Ar.m 40 (Ar.n 90)) hu (mK 40 zt) rfl);have z2:u.length+1+1+1+1+1+1+1<=Ub:=ar (by exact ai [_,_] ((((((ad.a N1).a N1).a N1).a N1).a N1).a N1) am X0 (Ar.m 40 ay) (Ar.m 40 X1) (Ar.m 40 (Ar.n 90)) hu (mK 40 zt) rfl)
 conv=>whnf
 simp only[*];refine jp ?_
 conv=>whnf
 simp only[*];refine .inl (qw ?_);refine ac ?_;refine .inl (qx ?_);refine one _ λT1 M1 G1 e1=>?_
 have two:=two T1 M1 G1 e1;clear one;refine ac ?_;simp only[*];refine two _ λM2=>?_
 clear two;refine⟨z1,ar (by exact bU [Ug (α:=Nat) ([35,40,97,32,34,32]++u),Ug (α:=Nat) (u),Ug (α:=Nat) (t)] (X0.a (N0.a N1)) am X0 (((((((N0.a N1).a N1).a N1).a N1).a N1).a N1).a X1) X1 (Ar.m 40 bC) (Ar.m 40 X2) (Ar.m 40 (Ar.n 90)) aL hu (mK 40 zt) rfl),?_⟩;have e:([35,40]++[97]++[32]++[34]++[32]++u++[41]:List Nat)=[35,40,97,32,34,32]++u++[41]:=by rfl
 refine(e).symm▸?_;have q:=q M2
 conv=>whnf
 simp only[br,decide_true, *]
theorem KQ(hk:k<1000000):gS [.int (k:Nat)]=TR (c8 1 0 k):=by
 have e:gS [.int (k:Nat)]=if k<1000000 then TR (c8 1 0 k)else TW:=rfl
 rw[e,if_pos hk]
theorem rE:∀(k:Nat) (x:Int),(c8 s x k).length=k
 |0,_=>rfl
 |k+1,x=>by rw[uH,aau,rE k]
theorem KS{ns:List Int}(hz:ns.length<=63)(q:∀M',Q (.bool TV) M'):CT (n+16) (.ref 1330) [.arg (ns.map V.int)] [] Q E:=by
 refine b6 GY (ks:=[173]) ?_;refine av ?_;refine KI hz λdk M1 h1 D1 k1=>?_
 refine HO λtb rw di M2 t1 t2 t3 k2 z1 z2 z3=>?_
 have I0:LI dk tb rw di 0 [] M2:=⟨D1.keep k2 (by simp),⟨t1,t2,t3,⟨by decide,by decide,by decide,by decide,by decide⟩⟩,λe=>by obtain⟨_,_,_,h,-⟩:=D1.has;rw[e,z2]at h;exact nn h⟩;clear D1 t1 t2 t3 k2 z1 z2 z3 h1 k1;refine av ?_;refine .inl (fj I0.d (λM' _=>cj) (by decide) (by decide) λx M3 hx D3 k3=>?_);have I1:=I0.draw D3 k3;obtain⟨R,rfl,hr,K4⟩:∃R:Nat,x=.int R/\2<=R/\R<=16:=by
  simp only[Uk,Um,or_false]at hx;rcases hx with rfl|rfl|rfl|rfl
  ·exact⟨10,rfl,by exact aw [] N2 (Ar.n 10) rfl,by exact aw [] (Ar.n 10) (Ar.n 16) rfl⟩
  ·exact⟨10,rfl,by exact aw [] N2 (Ar.n 10) rfl,by exact aw [] (Ar.n 10) (Ar.n 16) rfl⟩
  ·exact⟨2,rfl,by exact UE _,by exact aw [] N2 (Ar.n 16) rfl⟩
  ·exact⟨16,rfl,by exact aw [] N2 (Ar.n 16) rfl,by exact UE _⟩
 clear hx I0 D3 k3;refine av ?_;refine rf hr K4 I1 (by exact aw [] N0 (Ar.n 99) rfl) λT4 M4 v4 t4 g4 I4 e4 k4 d4 z4=>?_
 refine rf hr K4 I4 (by exact TY _) λT5 M5 v5 t5 g5 I5 e5 k5 d5 z5=>?_
 refine .inr λpl LP=>?_
 have kp:Kp [] M5 ((pl,be.list [cM v4 t4 g4,cM v5 t5 g5])::M5):=Kp.push LP.lkp;have n1:pl≠dk:=λe=>by obtain⟨_,_,_,h,-⟩:=I5.d.has;rw[<-e,LP.lkp]at h;exact nn h
 have n2:pl≠rw:=λe=>by have h:=I5.g.rows;rw[<-e,LP.lkp]at h;exact nn h
 have L:LL dk tb rw di pl 2 R T5 [cM v4 t4 g4,cM v5 t5 g5] ((pl,be.list [cM v4 t4 g4,cM v5 t5 g5])::M5):=⟨I5.keep kp,kH _ _ _,n1,n2,λx hx=>by
  simp only[Uk,Um,or_false]at hx;rcases hx with rfl|rfl
  ·exact⟨_,_,_,rfl,d4.ext e5,z4⟩
  ·exact⟨_,_,_,rfl,d5,z5⟩⟩
 generalize((pl,be.list [cM v4 t4 g4,cM v5 t5 g5])::M5:aa)=M6 at L⊢;generalize Np:[cM v4 t4 g4,cM v5 t5 g5]=ps at L;have Lb:ps≠[]:=by rw[<-Np];simp
 have hlen:ps.length<=2:=by rw[<-Np];simp
 clear Np kp n1 n2 LP I4 I5 I1 e4 e5 k4 k5 d4 d5 z4 z5;refine av ?_;have er:gS [.int (2+(min ((ns.map V.int).length:Int) 24).fdiv 6)]=TR (c8 1 0 (2+min ns.length 24/6)):=by rw[show(min ((ns.map V.int).length:Int) 24)=((min ns.length 24:Nat):Int) by rw[UK];lia];have e6:=nh (min ns.length 24) 6;rw[show((6:Nat):Int)=6 from rfl]at e6;rw[e6,show(2+((min ns.length 24/6:Nat):Int))=((2+min ns.length 24/6:Nat):Int) by rfl];exact KQ (by lia)
 refine⟨by rw[UK];exact ab [_] ad bd X0 (Ar.n 63) hz rfl,by decide,by decide,?_⟩;refine ac ?_;simp only[bR,bS, *];have hl:LR dk tb pl R [(173,.arg (ns.map V.int)),(59,.ref dk),(101,.ref tb),(140,.int R),(67,.ref pl)]:=⟨rfl,rfl,rfl,rfl⟩;refine yp hr K4 (c8 1 0 (2+min ns.length 24/6)) 2 T5 ps M6 _ L Lb (by rw[rE];lia) (by rw[rE];lia) hl λLF T6 NY M7 ρ L6 Ov QP QQ Pq=>?_
 clear L Lb hlen hl er hz;have hp:=L6.p;have QI:=Pq.d;have Pm:=Pq.p;obtain⟨x0,p0⟩:∃x,NY[0]? =TR x:=by induction NY with|nil=>exact absurd rfl Ov|cons x r=>exact⟨x,rfl⟩
 obtain⟨xL,pL⟩:∃x,NY.getLast?=TR x:=⟨_,List.getLast?_eq_some_getLast Ov⟩;have m0:=UR p0;have s0:mu NY 0=TR x0:=p0;have mL:=XK pL;have TP:NY.length<2^62:=by exact ab [_] ad bY X0 (Ar.n 50) QQ rfl
 refine av ?_;refine ac ?_;refine a0 (o:=bc _ _ _) (by simp only[bT,eK, *]<;>rfl) ?_
 conv=>whnf
 refine ac ?_
 conv=>whnf
 refine wc ‹_› ‹_› ‹_› ?_
 conv=>whnf
 refine ac ?_
 conv=>whnf
 refine ac ?_
 conv=>whnf
 simp only[*]
 conv=>whnf
 refine fj L6.i.d (λM' k=>jn (k _ _ (by simp[L6.n1]) hp)) Ov (by exact ab [_] X0 (Ar.n 1000) X0 (Ar.n 50) QQ rfl) λxp M8 mp D8 k8=>?_
 have L8:=L6.draw D8 k8;refine .inl ?_
 conv=>whnf
 refine yr hr K4 (by exact ab [_] X0 (Ar.n 100) X0 (Ar.n 50) QP rfl) [x0,xL,xp] T6 M8 ρ L8 (λx hx=>?_) Pq λT9 M9 TQ L9 Td=>KO (by exact ab [_] X0 (Ar.n 100) X0 (Ar.n 50) QP rfl) L9 Ov Td q
 simp only[Uk,Um,or_false]at hx;rcases hx with rfl|rfl|rfl
 ·exact L8.ok _ m0
 ·exact L8.ok _ mL
 ·exact L8.ok _ mp
end
end
theorem KT{ns:List Int}(h:IntsAre vs ns):aq B vs (ns.map V.int):=by
 induction h with
 |nil=>exact .nil
 |cons n t _ ih=>exact .cons (.int n t) ih
theorem nJ:sj:=by
 intro w s l vs ns G hg hL hI hz Pv
 letI:HasP:=⟨w.params⟩
 refine aj hL λo KY=>?_
 refine aj KY.2.2 λn hd=>?_
 have h3:s.heap.get? 3≠TW:=by rw[G.inn 3 _ rfl];exactλz=>by cases z
 have S:Sc w callerA s.heap [] 16 [] s.heap.get? [] s.heap:=⟨rfl,G,rfl,λ_=>rfl,rfl,by decide,by decide,trivial,λ_ _ e=>e,λe h=>(nomatch h),⟨λ_ _ e=>e,.nil,.nil,λ_ h=>(nomatch h),⟨h3,λ_ h=>(nomatch h)⟩⟩⟩;have go:CT 16 (.ref 1330) [.arg (ns.map V.int)] [] (λr _=>r=.bool TV) (λ_ _=>False):=KS (n:=0) hz λ_=>rfl
 refine wpAny_mono (wpAny_call (iq go w callerA s.heap [] s.heap.get? [] s (.ref 1330) [.ref l] S (.ref 1330) (.cons (.arg KY.1 KY.2.1 hd (by simpa using KT hI)) .nil))) (λv s' h=>?_) λ_ _ h=>?_
 ·obtain⟨B',K2,M',⟨r,hv,rfl⟩,T,P,q⟩:=h;cases hv;exact⟨rfl,λb o e=>T.keep b o (P.le b o e),q.1,q.2.trans hg⟩
 ·obtain⟨_,_,_,_,_,_,h,_⟩:=h;exact h
end Mine
theorem PySem.Challenge.cw_nt0263_01_holds : PySem.Challenge.rw_nt0263_01.Holds :=
Mine.head Mine.nJ
